/-
  Walks and laws that the claim's theorem uses: texts PbB PbC PbD PlT RhP, joined; comments out. Conditions: as each theorem says.
-/
import Derived.Test.YtjdednajelommaaGreatDoorQ03
namespace Go.Proofs.YtjdednajelommaaGreatDoor
open Go.RowKit
section
variable {α:Type}
def idxL (l:List α) (p:α→Bool):Int:=match l.findIdx? p with|some i=>i|none=> -1
theorem Xhj {l:List α} {p:α→Bool} (h:l.any p=false):idxL l p= -1:=by
 have:l.findIdx? p=none:=by
  rw [List.findIdx?_eq_none_iff]
  intro x hx
  cases hp:p x with
  |false=>rfl
  |true=>rw [List.any_eq_true.2 ⟨x,hx,hp⟩] at h;exact absurd h (by simp)
 rw [idxL,this]
theorem Xhi {l:List α} {p:α→Bool} {i:Nat} (hi:i<l.length) (hp:p l[i]=true) (hn:(l.take i).any p=false):idxL l p=i:=by
 have:l.findIdx? p=some i:=by
  rw [List.findIdx?_eq_some_iff_getElem]
  refine ⟨hi,hp,fun j hj=> ?_⟩
  cases hq:p l[j] with
  |false=>simp
  |true=>
   have hjl:j<(l.take i).length:=by simp;omega
   rw [List.any_eq_true.2 ⟨(l.take i)[j],List.getElem_mem hjl,by rw [List.getElem_take];exact hq⟩] at hn
   exact absurd hn (by simp)
 rw [idxL,this]
theorem Xce (l:List α) (p:α→Bool):(∃i:Nat,∃h:i<l.length,idxL l p=i∧p l[i]=true∧(l.take i).any p=false)∨(idxL l p= -1∧l.any p=false):=by
 unfold idxL
 cases h:l.findIdx? p with
 |none=>
  right
  refine ⟨rfl,?_⟩
  rw [List.findIdx?_eq_none_iff] at h
  cases ha:l.any p with
  |false=>rfl
  |true=>
   obtain ⟨x,hx,hp⟩:=List.any_eq_true.1 ha
   rw [h x hx] at hp;exact absurd hp (by simp)
 |some i=>
  left
  rw [List.findIdx?_eq_some_iff_getElem] at h
  obtain ⟨hi,h1,h2⟩:=h
  refine ⟨i,hi,rfl,h1,?_⟩
  cases ha:(l.take i).any p with
  |false=>rfl
  |true=>
   obtain ⟨x,hx,hp⟩:=List.any_eq_true.1 ha
   obtain ⟨j,hj,rfl⟩:=List.getElem_of_mem hx
   rw [List.getElem_take] at hp
   have hji:j<i:=by simp at hj;omega
   have:=h2 j hji
   simp [hp] at this
end
def allowedR (r:Nat):Bool:= !(notAllowed r)
set_option maxRecDepth 100000 in
set_option maxHeartbeats 400000 in
theorem Xpf (c:Nat) (w:World):Calls Tryz.prog 216 #[.int .i32 (c:Int)] w fun e w'=>e= .returned (.bool (allowedR c))∧w'=w:=by
 rcases (show (97≤c∧c≤122)∨122<c∨(48≤c∧c≤57)∨c=46∨c=95∨c=45∨(c<48∧c≠46∧c≠45)∨(57<c∧c<97∧c≠95) by omega) with hc|hc|hc|hc|hc|hc|hc|hc
 ·have d97:decide (97≤(c:Int))=true:=by simp;omega
  have d122:decide ((c:Int)≤122)=true:=by simp;omega
  have d48:decide (48≤(c:Int))=true:=by simp;omega
  have d57:decide ((c:Int)≤57)=false:=by simp;omega
  have n46:((c:Int)==46)=false:=by simp;omega
  have n95:((c:Int)==95)=false:=by simp;omega
  have n45:((c:Int)==45)=false:=by simp;omega
  have Hv:=Qh (show allowedR c=true by unfold allowedR notAllowed;simp;omega)
  clear hc
  go_enter Tryz.func216,Tryz.ntmps216
  go_wp2
  go_ret
  exact ⟨Xax Hv.out.symm,rfl⟩
 ·have d97:decide (97≤(c:Int))=true:=by simp;omega
  have d122:decide ((c:Int)≤122)=false:=by simp;omega
  have d48:decide (48≤(c:Int))=true:=by simp;omega
  have d57:decide ((c:Int)≤57)=false:=by simp;omega
  have n46:((c:Int)==46)=false:=by simp;omega
  have n95:((c:Int)==95)=false:=by simp;omega
  have n45:((c:Int)==45)=false:=by simp;omega
  have Hv:=Qh (show allowedR c=false by unfold allowedR notAllowed;simp;omega)
  clear hc
  go_enter Tryz.func216,Tryz.ntmps216
  go_wp2
  go_ret
  exact ⟨Xax Hv.out.symm,rfl⟩
 ·have d97:decide (97≤(c:Int))=false:=by simp;omega
  have d122:decide ((c:Int)≤122)=true:=by simp;omega
  have d48:decide (48≤(c:Int))=true:=by simp;omega
  have d57:decide ((c:Int)≤57)=true:=by simp;omega
  have n46:((c:Int)==46)=false:=by simp;omega
  have n95:((c:Int)==95)=false:=by simp;omega
  have n45:((c:Int)==45)=false:=by simp;omega
  have Hv:=Qh (show allowedR c=true by unfold allowedR notAllowed;simp;omega)
  clear hc
  go_enter Tryz.func216,Tryz.ntmps216
  go_wp2
  go_ret
  exact ⟨Xax Hv.out.symm,rfl⟩
 ·have d97:decide (97≤(c:Int))=false:=by simp;omega
  have d122:decide ((c:Int)≤122)=true:=by simp;omega
  have d48:decide (48≤(c:Int))=false:=by simp;omega
  have d57:decide ((c:Int)≤57)=true:=by simp;omega
  have n46:((c:Int)==46)=true:=by simp;omega
  have n95:((c:Int)==95)=false:=by simp;omega
  have n45:((c:Int)==45)=false:=by simp;omega
  have Hv:=Qh (show allowedR c=true by unfold allowedR notAllowed;simp;omega)
  clear hc
  go_enter Tryz.func216,Tryz.ntmps216
  go_wp2
  go_ret
  exact ⟨Xax Hv.out.symm,rfl⟩
 ·have d97:decide (97≤(c:Int))=false:=by simp;omega
  have d122:decide ((c:Int)≤122)=true:=by simp;omega
  have d48:decide (48≤(c:Int))=true:=by simp;omega
  have d57:decide ((c:Int)≤57)=false:=by simp;omega
  have n46:((c:Int)==46)=false:=by simp;omega
  have n95:((c:Int)==95)=true:=by simp;omega
  have n45:((c:Int)==45)=false:=by simp;omega
  have Hv:=Qh (show allowedR c=true by unfold allowedR notAllowed;simp;omega)
  clear hc
  go_enter Tryz.func216,Tryz.ntmps216
  go_wp2
  go_ret
  exact ⟨Xax Hv.out.symm,rfl⟩
 ·have d97:decide (97≤(c:Int))=false:=by simp;omega
  have d122:decide ((c:Int)≤122)=true:=by simp;omega
  have d48:decide (48≤(c:Int))=false:=by simp;omega
  have d57:decide ((c:Int)≤57)=true:=by simp;omega
  have n46:((c:Int)==46)=false:=by simp;omega
  have n95:((c:Int)==95)=false:=by simp;omega
  have n45:((c:Int)==45)=true:=by simp;omega
  have Hv:=Qh (show allowedR c=true by unfold allowedR notAllowed;simp;omega)
  clear hc
  go_enter Tryz.func216,Tryz.ntmps216
  go_wp2
  go_ret
  exact ⟨Xax Hv.out.symm,rfl⟩
 ·have d97:decide (97≤(c:Int))=false:=by simp;omega
  have d122:decide ((c:Int)≤122)=true:=by simp;omega
  have d48:decide (48≤(c:Int))=false:=by simp;omega
  have d57:decide ((c:Int)≤57)=true:=by simp;omega
  have n46:((c:Int)==46)=false:=by simp;omega
  have n95:((c:Int)==95)=false:=by simp;omega
  have n45:((c:Int)==45)=false:=by simp;omega
  have Hv:=Qh (show allowedR c=false by unfold allowedR notAllowed;simp;omega)
  clear hc
  go_enter Tryz.func216,Tryz.ntmps216
  go_wp2
  go_ret
  exact ⟨Xax Hv.out.symm,rfl⟩
 ·have d97:decide (97≤(c:Int))=false:=by simp;omega
  have d122:decide ((c:Int)≤122)=true:=by simp;omega
  have d48:decide (48≤(c:Int))=true:=by simp;omega
  have d57:decide ((c:Int)≤57)=false:=by simp;omega
  have n46:((c:Int)==46)=false:=by simp;omega
  have n95:((c:Int)==95)=false:=by simp;omega
  have n45:((c:Int)==45)=false:=by simp;omega
  have Hv:=Qh (show allowedR c=false by unfold allowedR notAllowed;simp;omega)
  clear hc
  go_enter Tryz.func216,Tryz.ntmps216
  go_wp2
  go_ret
  exact ⟨Xax Hv.out.symm,rfl⟩
set_option maxRecDepth 100000 in
theorem Xjf (c:Nat) (w:World):Calls Tryz.prog 215 #[.int .i32 (c:Int)] w fun e w'=>e= .returned (.bool (notAllowed c))∧w'=w:=by
 go_enter Tryz.func215,Tryz.ntmps215
 go_wp2_with fail
 refine (Xpf c _).mono ?_
 rintro e w1 ⟨rfl,rfl⟩
 go_wp2
 go_ret
 exact ⟨Xax (by rw [allowedR,Bool.not_not]),rfl⟩
set_option maxRecDepth 100000 in
set_option maxHeartbeats 400000 in
theorem Xks (s:Bytes) (hs:s.length≤9223372036854775807) (w:World):
 Calls Tryz.prog 164 #[S s] w fun e w'=>e= .returned (.bool (comp s))∧Below w.heap.size w w':=by
 by_cases h1:1≤s.length
 case neg=>
  have hd1:decide (1≤s.length)=false:=Qf h1
  have Hok:=Qh (show comp s=false by simp [comp,h1])
  go_enter Tryz.func164,Tryz.ntmps164
  go_wp2
  go_ret
  exact ⟨Xax Hok.out.symm,Qb _ _⟩
 have hd1:decide (1≤s.length)=true:=Qt h1
 by_cases h32:s.length≤32
 case neg=>
  have hd2:decide (s.length≤32)=false:=Qf h32
  have Hok:=Qh (show comp s=false by simp [comp,h32])
  go_enter Tryz.func164,Tryz.ntmps164
  go_wp2
  go_ret
  exact ⟨Xax Hok.out.symm,Qb _ _⟩
 have hd2:decide (s.length≤32)=true:=Qt h32
 by_cases h46:s= [46]
 case pos=>
  subst h46
  have Hok:=Qh (show comp [46]=false by rfl)
  clear hs h1 hd1 h32 hd2
  go_enter Tryz.func164,Tryz.ntmps164
  go_wp2
  go_ret
  exact ⟨Xax Hok.out.symm,Qb _ _⟩
 have f46:(s != [46])=true:=by simpa using h46
 have g46:(s== [46])=false:=by simpa using h46
 by_cases h47:s= [46,46]
 case pos=>
  subst h47
  have Hok:=Qh (show comp [46,46]=false by rfl)
  clear hs h1 hd1 h32 hd2 h46 f46 g46
  go_enter Tryz.func164,Tryz.ntmps164
  go_wp2
  go_ret
  exact ⟨Xax Hok.out.symm,Qb _ _⟩
 have f47:(s != [46,46])=true:=by simpa using h47
 have g47:(s== [46,46])=false:=by simpa using h47
 have Hok:=Qh (show comp s= !(decide (0≤Lib.idxFunc notAllowed true ⟨s.toArray⟩)) by rw [Xtr,Bool.not_not];simp [comp,h1,h32,f46,f47])
 have Hcf:=Qh (Xga 215 notAllowed s w (fun _ _=>by kernel_rfl) (fun x W=>Xjf x W))
 generalize decide (0≤Lib.idxFunc notAllowed true ⟨s.toArray⟩)=bb at Hok Hcf
 clear h46 h47
 go_enter Tryz.func164,Tryz.ntmps164
 go_wp2_with fail
 refine Hcf.out.mono ?_
 rintro e w1 ⟨rfl,hb1⟩
 go_wp2
 go_ret
 exact ⟨Xax Hok.out.symm,hb1⟩
set_option maxRecDepth 100000 in
set_option maxHeartbeats 400000 in
theorem Xdi (I:IH) (hI:Glob I) (s:Bytes) (hs:s.length≤4294967280) (w:World) (hw:Ok I w):
 Calls Tryz.prog 125 #[S s] w (RetS tStr I w (els s)):=by
 by_cases h0:s= []
 ·obtain ⟨p1,p2,p3,p4⟩:=Xd5 h0
  have Hs:=Qh (show els s= [] by rw [h0];rfl)
  clear h0
  go_enter Tryz.func125,Tryz.ntmps125
  go_wp2
  go_ret
  rw [Hs.out]
  exact ⟨_,I,rfl,Qb _ _,Ext.refl _ _,hw,RdS.nil _ _⟩
 ·obtain ⟨p1,p2,p3,p4⟩:=Xdx h0
  have Hs:=Qh (show els s=elsGo [] s by rw [els,if_neg h0])
  have Hl:=Qh (Xq8 I hI s hs w hw)
  generalize elsGo [] s=l at Hs Hl
  clear h0
  go_enter Tryz.func125,Tryz.ntmps125
  go_wp2_with fail
  refine Hl.out.mono ?_
  rintro e w1 ⟨v1,I1,rfl,hb1,hx1,hok1,hr1⟩
  obtain ⟨ao,cap,rfl,hcap,hcm,_⟩:=id hr1
  go_wp2
  go_ret
  rw [Hs.out]
  exact ⟨_,I1,rfl,hb1,hx1,hok1,hr1⟩
set_option maxRecDepth 100000 in
theorem Xq2 (s:Bytes) (hs:s.length≤9223372036854775807) (w:World):
 Calls Tryz.prog 163 #[S s] w fun e w'=>e= .returned (.bool (!(comp s)))∧Below w.heap.size w w':=by
 go_enter Tryz.func163,Tryz.ntmps163
 go_wp2_with fail
 refine (Xks s hs _).mono ?_
 rintro e w1 ⟨rfl,hb1⟩
 go_wp2
 go_ret
 exact ⟨rfl,hb1⟩
set_option maxRecDepth 100000 in
set_option maxHeartbeats 400000 in
theorem Xh8 (I:IH) (v:Value) (l:List Bytes) (hv:RdS tStr I v l) (g:Nat) (p:Bytes→Bool) (w:World) (hw:Ok I w) (eg:∀args w,(callFunc g args).run Tryz.prog w= .ok (.enter g args) w) (hp:∀x∈l,∀W:World,Calls Tryz.prog g #[S x] W fun e w'=>e= .returned (.bool (p x))∧Below W.heap.size W w'):
 Calls Tryz.prog 213 #[v,.func (.func g) #[] #[]] w fun e w'=>e= .returned (.int .i64 (idxL l p))∧Below w.heap.size w w':=by
 have hlen:=hv.len_le
 obtain ⟨ao,cap,rfl,hcap,hcm,_⟩:=id hv
 have Hv:=Qh hv;clear hv
 have Hp:=Qh hp;clear hp
 go_enter Tryz.func213,Tryz.ntmps213
 go_wp2_with fail
 go_loopw [8] (fun s8 wr=> ∃k:Nat,k≤l.length∧s8= .int .i64 k∧(l.take k).any p=false∧Below w.heap.size w wr) (fun i _=>l.length-(intOf i).toNat)
 case atStart=>exact ⟨0,Nat.zero_le _,rfl,rfl,Qb _ _⟩
 case round=>
  obtain ⟨k,hk,rfl,hr,hb⟩:=hrel
  have Hr:=Qh hr;clear hr
  by_cases hlt:k<l.length
  ·have hwr:Ok I wr:=hw.below (Qn _) hb
   obtain ⟨x,b,off,cap',hlx,hvv,hc0⟩:=Xf9 Hv.out hwr k hlt
   cases hvv
   have Hlx:=Qh hlx
   have Hcall:=Qh (Hp.out x (by rw [←hlx];exact List.getElem_mem hlt))
   clear hlx
   go_wp2_with fail
   refine (Hcall.out _).mono ?_
   rintro e w1 ⟨rfl,hb1⟩
   have hb1':=hb.trans (hb1.mono hb.size)
   clear hb1 Hcall
   cases hpx:p x
   ·have Hn:=Qh (show (l.take (k+1)).any p=false by rw [List.take_succ_eq_append_getElem hlt,List.any_append,Hr.out,Hlx.out];simp [hpx])
    clear hpx
    go_wp2
    go_roundw
    case rel=>exact ⟨k+1,by omega,by go_num,Hn.out,hb1'⟩
    case measure=>simp [intOf];omega
   ·have Hn:=Qh (Xhi (p:=p) hlt (by rw [Hlx.out];exact hpx) Hr.out)
    clear hpx
    go_wp2
    go_ret
    exact ⟨Xal Hn.out.symm,hb1'⟩
  ·have Hn:=Qh (show idxL l p= -1 from Xhj (by have:=Hr.out;rwa [List.take_of_length_le (by omega)] at this))
   go_wp2
   go_ret
   exact ⟨Xal Hn.out.symm,hb⟩
set_option maxRecDepth 100000 in
theorem Xfv (I:IH) (v:Value) (l:List Bytes) (hv:RdS tStr I v l) (g:Nat) (p:Bytes→Bool) (w:World) (hw:Ok I w) (eg:∀args w,(callFunc g args).run Tryz.prog w= .ok (.enter g args) w) (hp:∀x∈l,∀W:World,Calls Tryz.prog g #[S x] W fun e w'=>e= .returned (.bool (p x))∧Below W.heap.size W w'):
 Calls Tryz.prog 162 #[v,.func (.func g) #[] #[]] w fun e w'=>e= .returned (.bool (l.any p))∧Below w.heap.size w w':=by
 have Hi:=Qh (Xh8 I v l hv g p w hw eg hp)
 obtain ⟨ao,cap,rfl,hcap,hcm,_⟩:=id hv
 clear hv hp eg
 rcases Xce l p with ⟨i,hi,e1,e2,_⟩|⟨e1,e2⟩
 ·have Ha:=Qh (show l.any p=true from List.any_eq_true.2 ⟨l[i],List.getElem_mem hi,e2⟩)
  have hd:decide ((0:Int)≤(i:Int))=true:=Qt (by omega)
  rw [e1] at Hi
  clear e1 e2
  go_enter Tryz.func162,Tryz.ntmps162
  go_wp2_with fail
  refine Hi.out.mono ?_
  rintro e w1 ⟨rfl,hb1⟩
  go_wp2
  go_ret
  exact ⟨Xax Ha.out.symm,hb1⟩
 ·have Ha:=Qh e2
  rw [e1] at Hi
  clear e1 e2
  go_enter Tryz.func162,Tryz.ntmps162
  go_wp2_with fail
  refine Hi.out.mono ?_
  rintro e w1 ⟨rfl,hb1⟩
  go_wp2
  go_ret
  exact ⟨Xax Ha.out.symm,hb1⟩
theorem Xxf (l:List Bytes):l.any (fun s=> !(comp s))= !(l.all comp):=by
 induction l with
 |nil=>rfl
 |cons x l ih=>rw [List.any_cons,List.all_cons,ih,Bool.not_and]
set_option maxRecDepth 100000 in
set_option maxHeartbeats 400000 in
theorem Xnx (I:IH) (hI:Glob I) (s:Bytes) (hs:s.length≤4294967280) (w:World) (hw:Ok I w):
 Calls Tryz.prog 117 #[S s] w fun e w'=>e= .returned (.int .i64 (pathErr s))∧Below w.heap.size w w':=by
 have Hel:=Qh (Xdi I hI s hs w hw)
 have Hll:=Qh (fun (q:Bytes) (h:q∈els s)=>Xrv h)
 by_cases h200:s.length≤200
 case neg=>
  have hd:decide (200<s.length)=true:=Qt (by omega)
  have Hp:=Qh (show pathErr s=6 by rw [pathErr,if_pos (by omega)])
  go_enter Tryz.func117,Tryz.ntmps117
  go_wp2_with fail
  refine Hel.out.mono ?_
  rintro e w1 ⟨v1,I1,rfl,hb1,hx1,hok1,hr1⟩
  obtain ⟨ao,cap,rfl,hcap,hcm,_⟩:=id hr1
  clear hr1
  go_wp2
  go_ret
  exact ⟨Xal Hp.out.symm,hb1⟩
 have hd:decide (200<s.length)=false:=Qf (by omega)
 have Hp:=Qh (show pathErr s=if 8<(els s).length then 6 else if (els s).all comp then 0 else 7 by rw [pathErr,if_neg (by omega)])
 generalize els s=l at Hel Hp Hll
 by_cases h8:8<l.length
 case pos=>
  have Hp2:=Qh (show pathErr s=6 by rw [Hp.out,if_pos h8])
  go_enter Tryz.func117,Tryz.ntmps117
  go_wp2_with fail
  refine Hel.out.mono ?_
  rintro e w1 ⟨v1,I1,rfl,hb1,hx1,hok1,hr1⟩
  obtain ⟨ao,cap,rfl,hcap,hcm,_⟩:=id hr1
  clear hr1
  go_wp2
  go_ret
  exact ⟨Xal Hp2.out.symm,hb1⟩
 have Hp2:=Qh (show pathErr s=if l.all comp then 0 else 7 by rw [Hp.out,if_neg h8])
 go_enter Tryz.func117,Tryz.ntmps117
 go_wp2_with fail
 refine Hel.out.mono ?_
 rintro e w1 ⟨v1,I1,rfl,hb1,hx1,hok1,hr1⟩
 have Hcf:=Qh (Xfv I1 v1 l hr1 163 (fun s=> !(comp s)) w1 hok1 (fun _ _=>by kernel_rfl) (fun x hx W=>Xq2 x (by have:=Hll.out x hx;omega) W))
 rw [Xxf] at Hcf
 obtain ⟨ao,cap,rfl,hcap,hcm,_⟩:=id hr1
 clear hr1
 go_wp2_with fail
 refine Hcf.out.mono ?_
 rintro e w2 ⟨rfl,hb2⟩
 cases ha:l.all comp
 ·have Hn:=Qh (show pathErr s=7 by rw [Hp2.out,ha];rfl)
  clear ha
  go_wp2
  go_ret
  exact ⟨Xal Hn.out.symm,hb1.trans (hb2.mono hb1.size)⟩
 ·have Hn:=Qh (show pathErr s=0 by rw [Hp2.out,ha];rfl)
  clear ha
  go_wp2
  go_ret
  exact ⟨Xal Hn.out.symm,hb1.trans (hb2.mono hb1.size)⟩
set_option maxRecDepth 100000 in
set_option maxHeartbeats 400000 in
theorem Xgf (I:IH) (hI:Glob I) (s:Bytes) (hs:s.length≤4294967280) (w:World) (hw:Ok I w):
 Calls Tryz.prog 121 #[S s] w (RetL tStr I w (splP s).1 (splP s).2):=by
 have Hc:=Qh (Xnx I hI s hs w hw)
 by_cases h0:pathErr s=0
 ·rw [h0] at Hc
  have Hspl:=Qh (Xi5 h0)
  clear h0
  go_enter Tryz.func121,Tryz.ntmps121
  go_wp2_with fail
  refine Hc.out.mono ?_
  rintro e w1 ⟨rfl,hb1⟩
  have hok1:Ok I w1:=hw.below (Qn _) hb1
  go_wp2_with fail
  refine (Xdi I hI s hs _ hok1).mono ?_
  rintro e w2 ⟨v2,I2,rfl,hb2,hx2,hok2,hr2⟩
  obtain ⟨ao,cap,rfl,hcap,hcm,_⟩:=id hr2
  go_wp2
  go_ret2
  rw [Hspl.out]
  exact ⟨_,I2,rfl,hb1.trans (hb2.mono hb1.size),hx2.mono hb1.size,hok2,hr2⟩
 ·have Hspl:=Qh (Xqc h0)
  obtain ⟨q,hq⟩:∃q,pathErr s=q:=⟨_,rfl⟩
  have hn:(q != 0)=true:=by rw [←hq];simpa using h0
  rw [hq] at Hspl Hc
  clear hq h0
  go_enter Tryz.func121,Tryz.ntmps121
  go_wp2_with fail
  refine Hc.out.mono ?_
  rintro e w1 ⟨rfl,hb1⟩
  have hok1:Ok I w1:=hw.below (Qn _) hb1
  go_wp2
  go_ret2
  rw [Hspl.out]
  exact ⟨_,I,rfl,hb1,Ext.refl _ _,hok1,RdS.nil _ _⟩
set_option maxRecDepth 100000 in
set_option maxHeartbeats 400000 in
theorem Xq1 (I:IH) (hI:Glob I) (s:Bytes) (hs:s.length≤4294967280) (w:World) (hw:Ok I w):
 Calls Tryz.prog 71 #[S s] w fun e w'=>e= .returned (.tuple #[S (parP s).1,.int .i64 (parP s).2])∧Below w.heap.size w w':=by
 by_cases h0:pathErr s=0
 ·have Hsp:=Qh (by have:=Xgf I hI s hs w hw;rw [Xi5 h0] at this;exact this)
  have hs2:=(Xcb h0).1
  have hs8:=(Xcb h0).2.1
  have Hpp:=Qh (show parP s=if s= [] then ([],1) else (upP s,0) by rw [parP,if_neg (by omega)])
  have hjl:(joinP (els s)).length≤200:=by rw [Xhg];exact hs2
  have hel:=Xwp (s:=s)
  have hup:upP s=joinP ((els s).take ((els s).length-1)):=by rw [upP,List.dropLast_eq_take]
  have Hjt:=Qh (Xjk (els s) ((els s).length-1))
  generalize els s=l at Hsp hjl hel hup Hjt hs8
  have Hel:=Qh hel
  have Hup:=Qh hup
  clear h0 hel hup
  go_enter Tryz.func71,Tryz.ntmps71
  go_wp2_with fail
  refine Hsp.out.mono ?_
  rintro e w1 ⟨v1,I1,rfl,hb1,hx1,hok1,hr1⟩
  obtain ⟨ao,cap,rfl,hcap,hcm,_⟩:=id hr1
  have Hr1:=Qh hr1
  clear hr1 hx1
  have hml:maxLen=9223372036854775807:=rfl
  by_cases hl0:l.length=0
  ·have Hn:=Qh (show parP s=([],1) by rw [Hpp.out,if_pos (Hel.out.1 (List.eq_nil_of_length_eq_zero hl0))])
   have hz:((l.length:Int)==0)=true:=by rw [hl0];rfl
   clear hl0 hml
   go_wp2
   go_ret2
   rw [Hn.out]
   exact ⟨rfl,hb1⟩
  ·have Hn:=Qh (show parP s=(joinP (l.take (l.length-1)),0) by
    rw [Hpp.out,if_neg (fun e=>hl0 (by rw [Hel.out.2 e];rfl)),Hup.out])
   have hz:((l.length:Int)==0)=false:=by rw [beq_eq_false_iff_ne];omega
   have hlp:1≤l.length:=by omega
   have hi:IntKind.i64.wrap ((l.length:Int)-1)=(l.length:Int)-1:=IntWalk.i64_in _ (by omega)
   have hj:(0:Int)≤(l.length:Int)-1:=by omega
   have hj2:(l.length:Int)-1≤(cap:Int):=by omega
   have hm:((l.length:Int)-1).toNat=l.length-1:=by omega
   have Hr2:=Qh (Hr1.out.takeS (n:=l.length-1) (by omega))
   have Hj2:=Qh (Xtm I1 _ _ Hr2.out (by have:=Hjt.out;omega) (by rw [List.length_take];omega) w1 hok1)
   clear hl0 hml
   go_wp2_with fail
   refine Hj2.out.mono ?_
   rintro e w2 ⟨rfl,hb2⟩
   go_wp2
   go_ret2
   rw [Hn.out]
   exact ⟨rfl,hb1.trans (hb2.mono hb1.size)⟩
 ·have Hsp:=Qh (by have:=Xgf I hI s hs w hw;rw [Xqc h0] at this;exact this)
  obtain ⟨q,hq⟩:∃q,pathErr s=q:=⟨_,rfl⟩
  have hn:(q != 0)=true:=by rw [←hq];simpa using h0
  have Hpp:=Qh (show parP s=([],q) by rw [parP,if_pos h0,hq])
  rw [hq] at Hsp
  clear hq h0
  go_enter Tryz.func71,Tryz.ntmps71
  go_wp2_with fail
  refine Hsp.out.mono ?_
  rintro e w1 ⟨v1,I1,rfl,hb1,hx1,hok1,hr1⟩
  obtain ⟨ao,cap,rfl,hcap,hcm,_⟩:=id hr1
  go_wp2
  go_ret2
  rw [Hpp.out]
  exact ⟨rfl,hb1⟩
set_option maxRecDepth 100000 in
set_option maxHeartbeats 1000000 in
theorem Xjg (I:IH) (hI:Glob I) (p d:Bytes) (hp:p.length≤4294967280) (hd:d.length≤4294967280) (w:World) (hw:Ok I w):
 Calls Tryz.prog 69 #[S p,S d] w fun e w'=>e= .returned (.bool (under p d))∧Below w.heap.size w w':=by
 have Hsp:=Qh (Xgf I hI p hp w hw)
 have Hu:=Qh (show under p d=(decide (pathErr p=0)&&decide (pathErr d=0)&&(els d).isPrefixOf (els p)) from rfl)
 have hq1:(splP p).2=pathErr p:=by rw [splP];split<;>simp_all
 have hq2:(splP d).2=pathErr d:=by rw [splP];split<;>simp_all
 have Hl1:=Qh (fun h:pathErr p=0=>show (splP p).1=els p by rw [Xi5 h])
 have Hl2:=Qh (fun h:pathErr d=0=>show (splP d).1=els d by rw [Xi5 h])
 have Hsd:=Qh (fun I hI w hw=>Xgf I hI d hd w hw)
 rw [hq1] at Hsp
 rw [hq2] at Hsd
 generalize (splP p).1=l at Hsp Hl1
 generalize (splP d).1=m at Hsd Hl2
 clear hq1 hq2
 go_enter Tryz.func69,Tryz.ntmps69
 go_wp2_with fail
 refine Hsp.out.mono ?_
 rintro e w1 ⟨v1,I1,rfl,hb1,hx1,hok1,hr1⟩
 have hI1:=hI.mono (hx1.keep hw (Qn _))
 have Hr1:=Qh hr1
 clear hr1
 obtain ⟨ao0,cap0,rfl,_,_,_⟩:=id Hr1.out
 go_wp2_with fail
 refine (Hsd.out I1 hI1 _ hok1).mono ?_
 rintro e w2 ⟨v2,I2,rfl,hb2,hx2,hok2,hr2⟩
 have hr1:=Hr1.out.mono (hx2.keep hok1 (Qn _))
 have hb2':=hb1.trans (hb2.mono hb1.size)
 obtain ⟨ao,cap,e1,hcap,hcm,_⟩:=id hr1
 cases e1
 obtain ⟨ao2,cap2,rfl,hcap2,hcm2,_⟩:=id hr2
 have hlen:=hr1.len_le
 have hlen2:=hr2.len_le
 have Hl:=Qh hr1
 have Hm:=Qh hr2
 clear hr1 hr2 Hr1 hb1 hb2 hx1 hx2
 by_cases h0:pathErr p=0
 case neg=>
  have Hn:=Qh (show under p d=false by rw [Hu.out,Qf h0];rfl)
  obtain ⟨q,hq⟩:∃q,pathErr p=q:=⟨_,rfl⟩
  have hn:(q==0)=false:=by rw [←hq];simpa using h0
  rw [hq]
  clear hq h0
  go_wp2
  go_ret
  exact ⟨Xax Hn.out.symm,hb2'⟩
 by_cases h1:pathErr d=0
 case neg=>
  have Hn:=Qh (show under p d=false by rw [Hu.out,Qf h1,Bool.and_false];rfl)
  obtain ⟨q,hq⟩:∃q,pathErr d=q:=⟨_,rfl⟩
  have hn:(q==0)=false:=by rw [←hq];simpa using h1
  rw [hq,h0]
  clear hq h1 h0
  go_wp2
  go_ret
  exact ⟨Xax Hn.out.symm,hb2'⟩
 have Hu2:=Qh (show under p d=m.isPrefixOf l by rw [Hu.out,Qt h0,Qt h1,Hl1.out h0,Hl2.out h1];rfl)
 rw [h0,h1]
 clear h0 h1
 by_cases hlm:m.length≤l.length
 case neg=>
  have hd1:decide (m.length≤l.length)=false:=Qf hlm
  have Hn:=Qh (show under p d=false by rw [Hu2.out];exact Xkr (by omega))
  go_wp2
  go_ret
  exact ⟨Xax Hn.out.symm,hb2'⟩
 have hd1:decide (m.length≤l.length)=true:=Qt hlm
 have hcc:m.length≤cap0:=by omega
 have Hn:=Qh (show under p d=decide (l.take m.length=m) by rw [Hu2.out];exact Xmv l m)
 have Heq:=Qh (Xra I2 _ _ _ _ (Hl.out.takeS hlm) Hm.out w2 hok2)
 generalize decide (l.take m.length=m)=bb at Hn Heq
 go_wp2_with fail
 refine Heq.out.mono ?_
 rintro e w3 ⟨rfl,hb3⟩
 go_wp2
 go_ret
 exact ⟨Xax Hn.out.symm,hb2'.trans (hb3.mono hb2'.size)⟩
def cmpS (x y:Bytes):Int:=if Op.bytesLess x y then -1 else if Op.bytesLess y x then 1 else 0
set_option maxRecDepth 100000 in
theorem Xc8 (x:Bytes) (w:World):Calls Tryz.prog 170 #[S x] w fun e w'=>e= .returned (.bool false)∧w'=w:=by
 have f:(x != x)=false:=by simp
 have f2:(x==x)=true:=by simp
 go_enter Tryz.func170,Tryz.ntmps170
 go_wp2
 go_ret
 exact ⟨by first|rfl|(simp),rfl⟩
set_option maxRecDepth 100000 in
set_option maxHeartbeats 400000 in
theorem Xwi (x y:Bytes) (w:World):Calls Tryz.prog 126 #[S x,S y] w fun e w'=>e= .returned (.int .i64 (cmpS x y))∧w'=w:=by
 rcases Xfj x y with ht|ht|ht
 ·have Hn:=Qh (show cmpS x y= -1 by rw [cmpS,ht];rfl)
  go_enter Tryz.func126,Tryz.ntmps126
  go_wp2_with fail
  refine (Xc8 x _).mono ?_
  rintro e w1 ⟨rfl,rfl⟩
  go_wp2_with fail
  refine (Xc8 y _).mono ?_
  rintro e w2 ⟨rfl,rfl⟩
  go_wp2
  go_ret
  exact ⟨Xal Hn.out.symm,rfl⟩
 ·have f1:Op.bytesLess x y=false:=by rw [ht];exact Xbx _
  have f2:Op.bytesLess y x=false:=by rw [ht];exact Xbx _
  have f3:(x==y)=true:=by simp [ht]
  have f4:(!(x==y))=false:=by simp [ht]
  have Hn:=Qh (show cmpS x y=0 by rw [cmpS,f1,f2];rfl)
  clear ht
  go_enter Tryz.func126,Tryz.ntmps126
  go_wp2_with fail
  refine (Xc8 x _).mono ?_
  rintro e w1 ⟨rfl,rfl⟩
  go_wp2_with fail
  refine (Xc8 y _).mono ?_
  rintro e w2 ⟨rfl,rfl⟩
  go_wp2
  go_ret
  exact ⟨Xal Hn.out.symm,rfl⟩
 ·have f1:=Xfk ht
  have f3:(x==y)=false:=by simpa using (Xsc ht).symm
  have f4:(!(x==y))=true:=by rw [f3];rfl
  have Hn:=Qh (show cmpS x y=1 by rw [cmpS,f1,ht];rfl)
  go_enter Tryz.func126,Tryz.ntmps126
  go_wp2_with fail
  refine (Xc8 x _).mono ?_
  rintro e w1 ⟨rfl,rfl⟩
  go_wp2_with fail
  refine (Xc8 y _).mono ?_
  rintro e w2 ⟨rfl,rfl⟩
  go_wp2
  go_ret
  exact ⟨Xal Hn.out.symm,rfl⟩
theorem Xpt (x y:Bytes):(cmpS x y= -1∧Op.bytesLess x y=true)∨(cmpS x y=0∧x=y)∨(cmpS x y=1∧Op.bytesLess y x=true):=by
 rcases Xfj x y with ht|ht|ht
 ·exact .inl ⟨by rw [cmpS,ht];rfl,ht⟩
 ·exact .inr (.inl ⟨by rw [cmpS,ht,Xbx];rfl,ht⟩)
 ·exact .inr (.inr ⟨by rw [cmpS,Xfk ht,ht];rfl,ht⟩)
set_option maxRecDepth 100000 in
set_option maxHeartbeats 1000000 in
theorem Xhd (I:IH) (v1 v2:Value) (l m:List Bytes) (hv1:RdS tStr I v1 l) (hv2:RdS tStr I v2 m) (w:World) (hw:Ok I w):
 Calls Tryz.prog 124 #[v1,v2,.func (.func 126) #[] #[]] w fun e w'=>e= .returned (.int .i64 (cmpL l m))∧Below w.heap.size w w':=by
 have hlen:=hv1.len_le
 have hlen2:=hv2.len_le
 obtain ⟨ao,cap,rfl,hcap,hcm,_⟩:=id hv1
 obtain ⟨ao2,cap2,rfl,hcap2,hcm2,_⟩:=id hv2
 have Hl:=Qh hv1
 have Hm:=Qh hv2
 clear hv1 hv2
 have eg:∀args w,(callFunc 126 args).run Tryz.prog w= .ok (.enter 126 args) w:=fun _ _=>by kernel_rfl
 go_enter Tryz.func124,Tryz.ntmps124
 go_wp2_with fail
 go_loopw [13] (fun s13 wr=> ∃k:Nat,k≤l.length∧k≤m.length∧s13= .int .i64 k∧l.take k=m.take k∧Below w.heap.size w wr) (fun i _=>l.length-(intOf i).toNat)
 case atStart=>exact ⟨0,Nat.zero_le _,Nat.zero_le _,rfl,rfl,Qb _ _⟩
 case round=>
  obtain ⟨k,hk,hk2,rfl,hr,hb⟩:=hrel
  have Hr:=Qh hr
  have Hcd:=Qh (Xr4 hr hk hk2)
  clear hr
  have hwr:Ok I wr:=hw.below (Qn _) hb
  by_cases hlt:k<l.length
  case neg=>
   have Hdl:=Qh (show l.drop k= [] from List.drop_of_length_le (by omega))
   by_cases hlt2:k<m.length
   ·have hd1:decide (l.length<m.length)=true:=Qt (by omega)
    have Hn:=Qh (show cmpL l m= -1 by rw [Hcd.out,Hdl.out,List.drop_eq_getElem_cons hlt2];rfl)
    go_wp2
    go_ret
    exact ⟨Xal Hn.out.symm,hb⟩
   ·have hd1:decide (l.length<m.length)=false:=Qf (by omega)
    have Hn:=Qh (show cmpL l m=0 by rw [Hcd.out,Hdl.out,List.drop_of_length_le (by omega)];rfl)
    go_wp2
    go_ret
    exact ⟨Xal Hn.out.symm,hb⟩
  obtain ⟨x,b,off,cap',hlx,hvv,hx0⟩:=Xf9 Hl.out hwr k hlt
  cases hvv
  by_cases hlt2:k<m.length
  case neg=>
   have hd1:decide (m.length≤k)=true:=Qt (by omega)
   have Hn:=Qh (show cmpL l m=1 by rw [Hcd.out,List.drop_of_length_le (l:=m) (by omega),List.drop_eq_getElem_cons hlt];rfl)
   clear hlx
   go_wp2
   go_ret
   exact ⟨Xal Hn.out.symm,hb⟩
  have hd1:decide (m.length≤k)=false:=Qf (by omega)
  obtain ⟨y,b',off',cap'',hly,hvv,hy0⟩:=Xf9 Hm.out hwr k hlt2
  cases hvv
  have Hcd2:=Qh (show cmpL l m=cmpL (x::l.drop (k+1)) (y::m.drop (k+1)) by rw [Hcd.out,List.drop_eq_getElem_cons hlt,List.drop_eq_getElem_cons hlt2,hlx,hly])
  have Hlx:=Qh hlx
  have Hly:=Qh hly
  have Hc:=Qh (Xwi x y)
  have hcs:=Xpt x y
  generalize cmpS x y=c at Hc hcs
  clear hlx hly
  rcases hcs with ⟨hc,ht⟩|⟨hc,ht⟩|⟨hc,ht⟩
  ·subst hc
   have Hn:=Qh (show cmpL l m= -1 by rw [Hcd2.out];exact Xlx ht _ _)
   clear ht
   go_wp2_with fail
   refine (Hc.out _).mono ?_
   rintro e w1 ⟨rfl,rfl⟩
   go_wp2
   go_ret
   exact ⟨Xal Hn.out.symm,hb⟩
  ·subst hc
   have Hn:=Qh (show l.take (k+1)=m.take (k+1) by rw [List.take_succ_eq_append_getElem hlt,List.take_succ_eq_append_getElem hlt2,Hr.out,Hlx.out,Hly.out,ht])
   clear ht
   go_wp2_with fail
   refine (Hc.out _).mono ?_
   rintro e w1 ⟨rfl,rfl⟩
   go_wp2
   go_roundw
   case rel=>exact ⟨k+1,by omega,by omega,by go_num,Hn.out,hb⟩
   case measure=>simp [intOf];omega
  ·subst hc
   have Hn:=Qh (show cmpL l m=1 by rw [Hcd2.out];exact Xly ht _ _)
   clear ht
   go_wp2_with fail
   refine (Hc.out _).mono ?_
   rintro e w1 ⟨rfl,rfl⟩
   go_wp2
   go_ret
   exact ⟨Xal Hn.out.symm,hb⟩
set_option maxRecDepth 100000 in
set_option maxHeartbeats 400000 in
theorem Xik (I:IH) (hI:Glob I) (p d:Bytes) (hp:p.length≤4294967280) (hd:d.length≤4294967280) (w:World) (hw:Ok I w):
 Calls Tryz.prog 75 #[S p,S d] w fun e w'=>e= .returned (.int .i64 (cmpP p d))∧Below w.heap.size w w':=by
 have Hu:=Qh (Xwz p d)
 have Hep:=Qh (Xdi I hI p hp w hw)
 have Hed:=Qh (fun I hI w hw=>Xdi I hI d hd w hw)
 generalize els p=l at Hu Hep
 generalize els d=m at Hu Hed
 go_enter Tryz.func75,Tryz.ntmps75
 go_wp2_with fail
 refine Hep.out.mono ?_
 rintro e w1 ⟨v1,I1,rfl,hb1,hx1,hok1,hr1⟩
 have hI1:=hI.mono (hx1.keep hw (Qn _))
 have Hr1:=Qh hr1
 clear hr1
 obtain ⟨ao0,cap0,rfl,_,_,_⟩:=id Hr1.out
 go_wp2_with fail
 refine (Hed.out I1 hI1 _ hok1).mono ?_
 rintro e w2 ⟨v2,I2,rfl,hb2,hx2,hok2,hr2⟩
 have hr1:=Hr1.out.mono (hx2.keep hok1 (Qn _))
 have hb2':=hb1.trans (hb2.mono hb1.size)
 have Hc:=Qh (Xhd I2 _ _ l m hr1 hr2 w2 hok2)
 obtain ⟨ao2,cap2,rfl,_,_,_⟩:=id hr2
 clear hr1 hr2 Hr1 hx1 hx2
 go_wp2_with fail
 refine Hc.out.mono ?_
 rintro e w3 ⟨rfl,hb3⟩
 go_wp2
 go_ret
 exact ⟨Xal Hu.out.symm,hb2'.trans (hb3.mono hb2'.size)⟩
end Go.Proofs.YtjdednajelommaaGreatDoor
namespace Go.Proofs.YtjdednajelommaaGreatDoor
abbrev ltE (x y:Ent):Bool:=ltP (els x.path) (els y.path)
theorem Xf5 {x y:Ent} (h:ltE x y=true):x.path≠y.path:=fun e=>Xkw h (by rw [e])
theorem Xhc (x y:Ent):ltE x y=true∨x.path=y.path∨ltE y x=true:=by
 rcases Xkv (els x.path) (els y.path) with h|h|h
 ·exact .inl h
 ·exact .inr (.inl (Xwq h))
 ·exact .inr (.inr h)
def putTGo (e:Ent):Bool→List Ent→List Ent→List Ent
 |d,out,[]=>if d then out else out++ [e]
 |d,out,y::l=>putTGo e (d || !(ltE y e)) ((if !d&& !(ltE y e) then out++ [e] else out)++(if y.path==e.path then [] else [y])) l
def putT (t:List Ent) (e:Ent):List Ent:=putTGo e false [] t
def applyT (t:List Ent) (e:Ent):List Ent × Int:=
 if entErr e≠0 then ([],entErr e)
 else if 3<e.kind then
  if getT t e.path=none∧e.path≠ [] then ([],9)
  else if e.kind=4 then (t.filter fun x=> !(under x.path e.path),0) else (t,0)
 else if dirErr t (upP e.path)≠0 then ([],dirErr t (upP e.path))
 else match getT t e.path with
  |some y=>if (y.kind==2) != (e.kind==2) then ([],8) else (putT t e,0)
  |none=>if 5000≤t.length then ([],6) else (putT t e,0)
theorem Xg7 (e:Ent) (l:List Ent):∀out,putTGo e true out l=out++l.filter fun y=> !(y.path==e.path):=by
 induction l with
 |nil=>intro out;simp [putTGo]
 |cons y l ih=>
  intro out
  rw [putTGo]
  simp only [Bool.true_or,Bool.not_true,Bool.false_and,Bool.false_eq_true,if_false]
  rw [ih,List.filter_cons]
  cases h:(y.path==e.path)<;>simp
theorem Xii {t:List Ent} (h:SrtT t) (e:Ent):∃A B,putT t e=A++e::B∧(∀a∈A,a∈t∧ltE a e=true)∧(∀b∈B,b∈t∧ltE e b=true)∧(∀z∈t,z.path≠e.path→z∈A∨z∈B)∧SrtT A∧SrtT B:=by
 have key:∀(l:List Ent),SrtT l→ ∀out,∃A B,putTGo e false out l=out++(A++e::B)∧(∀a∈A,a∈l∧ltE a e=true)∧(∀b∈B,b∈l∧ltE e b=true)∧(∀z∈l,z.path≠e.path→z∈A∨z∈B)∧SrtT A∧SrtT B:=by
  intro l
  induction l with
  |nil=>intro _ out;exact ⟨[],[],by simp [putTGo],by simp,by simp,by simp,List.Pairwise.nil,List.Pairwise.nil⟩
  |cons y l ih=>
   intro hs out
   obtain ⟨h1,h2⟩:=List.pairwise_cons.1 hs
   rw [putTGo]
   cases hb:ltE y e
   ·simp only [Bool.not_false,Bool.or_true,Bool.and_self,if_true]
    rw [Xg7]
    have hrest:∀z∈l,ltE e z=true:=by
     intro z hz
     rcases Xhc e y with k|k|k
     ·exact Xcl k (h1 z hz)
     ·show ltP (els e.path) _=true
      rw [k];exact h1 z hz
     ·rw [hb] at k;exact absurd k (by simp)
    have hf:(l.filter fun z=> !(z.path==e.path))=l:=List.filter_eq_self.2 fun z hz=>by
     have:=(Xf5 (hrest z hz)).symm
     simpa using this
    rw [hf]
    by_cases k:y.path=e.path
    ·rw [if_pos (by simpa using k)]
     refine ⟨[],l,by simp,by simp,fun b hb=>⟨List.mem_cons_of_mem _ hb,hrest b hb⟩,fun z hz hne=> ?_,List.Pairwise.nil,h2⟩
     rcases List.mem_cons.1 hz with rfl|hz
     ·exact absurd k hne
     ·exact .inr hz
    ·have hxy:ltE e y=true:=by
      rcases Xhc e y with h|h|h
      ·exact h
      ·exact absurd h.symm k
      ·rw [h] at hb;exact absurd hb (by simp)
     rw [if_neg (by simpa using k)]
     refine ⟨[],y::l,by simp,by simp,fun b hb=>⟨hb,?_⟩,fun z hz _=> .inr hz,List.Pairwise.nil,hs⟩
     rcases List.mem_cons.1 hb with rfl|hb
     ·exact hxy
     ·exact hrest b hb
   ·have hne:(y.path==e.path)=false:=by simpa using Xf5 hb
    simp only [Bool.not_true,Bool.or_false,Bool.and_false,Bool.false_eq_true,if_false,hne]
    obtain ⟨A,B,q,a1,a2,a3,a4,a5⟩:=ih h2 (out++ [y])
    refine ⟨y::A,B,by rw [q];simp,fun a ha=> ?_,fun b hb=>⟨List.mem_cons_of_mem _ (a2 b hb).1,(a2 b hb).2⟩,fun z hz hzn=> ?_,List.pairwise_cons.2 ⟨fun a ha=>h1 a (a1 a ha).1,a4⟩,a5⟩
    ·rcases List.mem_cons.1 ha with rfl|ha
     ·exact ⟨List.mem_cons_self ..,hb⟩
     ·exact ⟨List.mem_cons_of_mem _ (a1 a ha).1,(a1 a ha).2⟩
    ·rcases List.mem_cons.1 hz with rfl|hz
     ·exact .inl (List.mem_cons_self ..)
     ·rcases a3 z hz hzn with h|h
      ·exact .inl (List.mem_cons_of_mem _ h)
      ·exact .inr h
 obtain ⟨A,B,q,r⟩:=key t h []
 exact ⟨A,B,q,r⟩
theorem Xe9 {t:List Ent} (h:SrtT t) (e:Ent):SrtT (putT t e):=by
 obtain ⟨A,B,q,a1,a2,_,a4,a5⟩:=Xii h e
 rw [q]
 refine List.pairwise_append.2 ⟨a4,List.pairwise_cons.2 ⟨fun b hb=>(a2 b hb).2,a5⟩,fun a ha b hb=> ?_⟩
 rcases List.mem_cons.1 hb with rfl|hb
 ·exact (a1 a ha).2
 ·exact Xcl (a1 a ha).2 (a2 b hb).2
theorem Xb8 {t:List Ent} (h:SrtT t) (e z:Ent):z∈putT t e↔z=e∨(z∈t∧z.path≠e.path):=by
 obtain ⟨A,B,q,a1,a2,a3,_,_⟩:=Xii h e
 rw [q,List.mem_append,List.mem_cons]
 constructor
 ·rintro (hz|hz|hz)
  ·exact .inr ⟨(a1 z hz).1,Xf5 (a1 z hz).2⟩
  ·exact .inl hz
  ·exact .inr ⟨(a2 z hz).1,(Xf5 (a2 z hz).2).symm⟩
 ·rintro (hz|⟨hz,hn⟩)
  ·exact .inr (.inl hz)
  ·rcases a3 z hz hn with h|h
   ·exact .inl h
   ·exact .inr (.inr h)
theorem Xts {t:List Ent} (h:SrtT t) (e:Ent):getT (putT t e) e.path=some e:=Xgg (Xe9 h e) ((Xb8 h e e).2 (.inl rfl))
theorem Xm9 {t:List Ent} (h:SrtT t) (e:Ent) {p:Bytes} (hp:p≠e.path):getT (putT t e) p=getT t p:=by
 cases hg:getT t p with
 |some x=>
  obtain ⟨hx,rfl⟩:=Xk7 hg
  exact Xgg (Xe9 h e) ((Xb8 h e x).2 (.inr ⟨hx,hp⟩))
 |none=>
  refine Xrh fun z hz k=> ?_
  rcases (Xb8 h e z).1 hz with rfl|⟨hz,_⟩
  ·exact hp k.symm
  ·have:=Xgg h hz
   rw [k,hg] at this
   exact absurd this (by simp)
end Go.Proofs.YtjdednajelommaaGreatDoor
namespace Go.Proofs.YtjdednajelommaaGreatDoor
theorem Xto {l:List Bytes} (h:l≠ []) (hc:∀p∈l,p≠ []):joinP l≠ []:=by
 cases l with
 |nil=>exact absurd rfl h
 |cons p l=>
  cases l with
  |nil=>exact hc p (by simp)
  |cons q l=>rw [Xcd p (by simp)];simp
theorem Xwo {p:Bytes} (h:pathErr p=0):els (upP p)=(els p).dropLast:=by
 obtain ⟨_,_,hc⟩:=Xcb h
 have hd:∀q∈(els p).dropLast,comp q=true:=fun q hq=>hc q (List.dropLast_subset _ hq)
 unfold upP
 by_cases hn:(els p).dropLast= []
 ·rw [hn];rfl
 ·exact Xrw (fun q hq=>Xlt (hd q hq)) (Xto hn fun q hq=>Xww (hd q hq))
theorem Xss {p d:Bytes} (h:pathErr p=0) (hu:under (upP p) d=true):under p d=true:=by
 simp only [under,Bool.and_eq_true,decide_eq_true_eq] at hu ⊢
 obtain ⟨⟨_,h2⟩,h3⟩:=hu
 refine ⟨⟨h,h2⟩,?_⟩
 rw [List.isPrefixOf_iff_prefix] at h3 ⊢
 rw [Xwo h] at h3
 exact h3.trans (List.dropLast_prefix _)
theorem Xb5 {e:Ent} (h:entErr e=0):1≤e.kind∧e.kind≤6∧pathErr e.path=0∧(e.path= []→5≤e.kind):=by
 unfold entErr at h
 by_cases h1:e.kind<1∨6<e.kind
 ·rw [if_pos h1] at h;omega
 rw [if_neg h1] at h
 by_cases h2:pathErr e.path=0
 case neg=>rw [if_pos h2] at h;exact absurd h h2
 rw [if_neg (by omega)] at h
 by_cases h3:e.path= []∧e.kind<5
 ·rw [if_pos h3] at h;omega
 exact ⟨by omega,by omega,h2,fun hp=>Int.not_lt.1 fun hk=>h3 ⟨hp,hk⟩⟩
theorem Xlm {t:List Ent} {p:Bytes}:dirErr t p=0↔p= []∨ ∃x,getT t p=some x∧x.kind=2:=by
 unfold dirErr
 by_cases h:p= []
 ·rw [if_pos h];exact ⟨fun _=> .inl h,fun _=>rfl⟩
 ·rw [if_neg h]
  cases hg:getT t p with
  |none=>
   constructor
   ·intro k;simp at k
   ·rintro (k|⟨x,k,_⟩)
    ·exact absurd k h
    ·simp at k
  |some x=>
   show (if x.kind≠2 then (10:Int) else 0)=0↔_
   by_cases hk:x.kind=2
   ·rw [if_neg (by omega)];exact ⟨fun _=> .inr ⟨x,rfl,hk⟩,fun _=>rfl⟩
   ·rw [if_pos hk]
    constructor
    ·intro k;omega
    ·rintro (k|⟨y,k,k'⟩)
     ·exact absurd k h
     ·cases k;exact absurd k' hk
theorem Xq0 {t:List Ent} (h:OkT t) {e:Ent} (he:entErr e=0) (hk:e.kind=1∨e.kind=2∨e.kind=3) (hu:dirErr t (upP e.path)=0) (hs:∀y,getT t e.path=some y→(y.kind=2↔e.kind=2)):OkT (putT t e):=by
 obtain ⟨_,_,hp,hpe⟩:=Xb5 he
 have hne:e.path≠ []:=fun k=>by have:=hpe k;omega
 refine ⟨fun z hz=> ?_,fun z hz=> ?_,Xe9 h.srt e,fun z hz=> ?_⟩
 ·rcases (Xb8 h.srt e z).1 hz with rfl|⟨hz,_⟩
  ·exact he
  ·exact h.ent z hz
 ·rcases (Xb8 h.srt e z).1 hz with rfl|⟨hz,_⟩
  ·exact hk
  ·exact h.kind z hz
 ·have hz':dirErr t (upP z.path)=0:=by
   rcases (Xb8 h.srt e z).1 hz with rfl|⟨hz,_⟩
   ·exact hu
   ·exact h.up z hz
  rw [Xlm] at hz' ⊢
  rcases hz' with k|⟨x,k,k'⟩
  ·exact .inl k
  ·by_cases q:upP z.path=e.path
   ·refine .inr ⟨e,by rw [q];exact Xts h.srt e,?_⟩
    rw [q] at k
    exact (hs x k).1 k'
   ·exact .inr ⟨x,by rw [Xm9 h.srt e q];exact k,k'⟩
theorem Xwr {t:List Ent} (h:OkT t) (d:Bytes):OkT (t.filter fun x=> !(under x.path d)):=by
 have hm:∀z,z∈(t.filter fun x=> !(under x.path d))↔z∈t∧under z.path d=false:=fun z=>by simp [List.mem_filter]
 have hs:SrtT (t.filter fun x=> !(under x.path d)):=List.Pairwise.filter _ h.srt
 refine ⟨fun z hz=>h.ent z ((hm z).1 hz).1,fun z hz=>h.kind z ((hm z).1 hz).1,hs,fun z hz=> ?_⟩
 obtain ⟨hz1,hz2⟩:=(hm z).1 hz
 have hp:=(Xb5 (h.ent z hz1)).2.2.1
 have hz':=h.up z hz1
 rw [Xlm] at hz' ⊢
 rcases hz' with k|⟨x,k,k'⟩
 ·exact .inl k
 ·obtain ⟨hx,hxp⟩:=Xk7 k
  refine .inr ⟨x,?_,k'⟩
  rw [←hxp]
  refine Xgg hs ((hm x).2 ⟨hx,?_⟩)
  cases q:under x.path d with
  |false=>rfl
  |true=>
   rw [hxp] at q
   rw [Xss hp q] at hz2
   exact absurd hz2 (by simp)
theorem Xsg {t t':List Ent} (h:OkT t) {e:Ent} (ha:applyT t e=(t',0)):OkT t':=by
 unfold applyT at ha
 by_cases h0:entErr e=0
 case neg=>rw [if_pos h0] at ha;exact absurd (Prod.mk.inj ha).2 h0
 rw [if_neg (by omega)] at ha
 have hk:=Xb5 h0
 by_cases h1:3<e.kind
 ·rw [if_pos h1] at ha
  by_cases h2:getT t e.path=none∧e.path≠ []
  ·rw [if_pos h2] at ha;simp at ha
  ·rw [if_neg h2] at ha
   by_cases h3:e.kind=4
   ·rw [if_pos h3] at ha
    rw [←(Prod.mk.inj ha).1]
    exact Xwr h _
   ·rw [if_neg h3] at ha
    rw [←(Prod.mk.inj ha).1]
    exact h
 ·rw [if_neg h1] at ha
  by_cases h2:dirErr t (upP e.path)=0
  case neg=>rw [if_pos h2] at ha;exact absurd (Prod.mk.inj ha).2 h2
  rw [if_neg (by omega)] at ha
  cases hg:getT t e.path with
  |none=>
   rw [hg] at ha
   change (if 5000≤t.length then (([]:List Ent),(6:Int)) else (putT t e,0))=_ at ha
   by_cases h3:5000≤t.length
   ·rw [if_pos h3] at ha;simp at ha
   ·rw [if_neg h3] at ha
    rw [←(Prod.mk.inj ha).1]
    exact Xq0 h h0 (by omega) h2 fun y hy=>by rw [hg] at hy;cases hy
  |some y=>
   rw [hg] at ha
   change (if ((y.kind==2) != (e.kind==2))=true then (([]:List Ent),(8:Int)) else (putT t e,0))=_ at ha
   by_cases h3:((y.kind==2) != (e.kind==2))=true
   ·rw [if_pos h3] at ha;simp at ha
   ·rw [if_neg h3] at ha
    rw [←(Prod.mk.inj ha).1]
    refine Xq0 h h0 (by omega) h2 fun z hz=> ?_
    rw [hg] at hz
    cases hz
    have h4:(y.kind==2)=(e.kind==2):=by simpa using h3
    constructor
    ·intro k;rw [k] at h4;simpa using h4.symm
    ·intro k;rw [k] at h4;simpa using h4
end Go.Proofs.YtjdednajelommaaGreatDoor
namespace Go.Proofs.YtjdednajelommaaGreatDoor
def opT (t:List Ent) (e:Ent):List Ent:=if 3<e.kind then (if e.kind=4 then t.filter fun x=> !(under x.path e.path) else t) else putT t e
structure PreT (t:List Ent) (e:Ent):Prop where
 ent:entErr e=0
 there:3<e.kind→ ¬(getT t e.path=none∧e.path≠ [])
 up:e.kind≤3→dirErr t (upP e.path)=0
 like:e.kind≤3→ ∀y,getT t e.path=some y→(y.kind==2)=(e.kind==2)
 room:e.kind≤3→getT t e.path=none→t.length<5000
theorem applyT_iff {t a:List Ent} {e:Ent}:applyT t e=(a,0)↔PreT t e∧a=opT t e:=by
 unfold applyT opT
 by_cases h0:entErr e=0
 case neg=>
  rw [if_pos h0]
  exact ⟨fun h=>absurd (Prod.mk.inj h).2 h0,fun h=>absurd h.1.ent h0⟩
 rw [if_neg (by omega)]
 by_cases h1:3<e.kind
 ·rw [if_pos h1,if_pos h1]
  by_cases h2:getT t e.path=none∧e.path≠ []
  ·rw [if_pos h2]
   exact ⟨fun h=>absurd (Prod.mk.inj h).2 (by decide),fun h=>absurd h2 (h.1.there h1)⟩
  ·rw [if_neg h2]
   have hp:PreT t e:=⟨h0,fun _=>h2,fun k=>by omega,fun k=>by omega,fun k=>by omega⟩
   by_cases h3:e.kind=4
   ·rw [if_pos h3,if_pos h3]
    exact ⟨fun h=>⟨hp,(Prod.mk.inj h).1.symm⟩,fun h=>by rw [h.2]⟩
   ·rw [if_neg h3,if_neg h3]
    exact ⟨fun h=>⟨hp,(Prod.mk.inj h).1.symm⟩,fun h=>by rw [h.2]⟩
 ·rw [if_neg h1,if_neg h1]
  by_cases h2:dirErr t (upP e.path)=0
  case neg=>
   rw [if_pos h2]
   exact ⟨fun h=>absurd (Prod.mk.inj h).2 h2,fun h=>absurd (h.1.up (by omega)) h2⟩
  rw [if_neg (by omega)]
  cases hg:getT t e.path with
  |none=>
   show (if 5000≤t.length then (([]:List Ent),(6:Int)) else (putT t e,0))=(a,0)↔_
   by_cases h3:5000≤t.length
   ·rw [if_pos h3]
    exact ⟨fun h=>absurd (Prod.mk.inj h).2 (by decide),fun h=>absurd (h.1.room (by omega) hg) (by omega)⟩
   ·rw [if_neg h3]
    exact ⟨fun h=>⟨⟨h0,fun k=>absurd k h1,fun _=>h2,fun _ y hy=>(by rw [hg] at hy;cases hy),fun _ _=>(by omega)⟩,(Prod.mk.inj h).1.symm⟩,fun h=>by rw [h.2]⟩
  |some y=>
   show (if ((y.kind==2) != (e.kind==2))=true then (([]:List Ent),(8:Int)) else (putT t e,0))=(a,0)↔_
   by_cases h3:((y.kind==2) != (e.kind==2))=true
   ·rw [if_pos h3]
    refine ⟨fun h=>absurd (Prod.mk.inj h).2 (by decide),fun h=> ?_⟩
    have:=h.1.like (by omega) y hg
    rw [this] at h3
    simp at h3
   ·rw [if_neg h3]
    exact ⟨fun h=>⟨⟨h0,fun k=>absurd k h1,fun _=>h2,fun _ z hz=>(by rw [hg] at hz;cases hz;simpa using h3),fun _ hn=>(by rw [hg] at hn;cases hn)⟩,(Prod.mk.inj h).1.symm⟩,fun h=>by rw [h.2]⟩
def keepT (e z:Ent):Prop:=(e.kind≤3→z.path≠e.path)∧(e.kind=4→under z.path e.path=false)
theorem Xwg {t:List Ent} (h:SrtT t) (e z:Ent):z∈opT t e↔(e.kind≤3∧z=e)∨(z∈t∧keepT e z):=by
 unfold opT keepT
 by_cases h1:3<e.kind
 ·rw [if_pos h1]
  by_cases h2:e.kind=4
  ·rw [if_pos h2,List.mem_filter]
   constructor
   ·rintro ⟨a,b⟩;exact .inr ⟨a,fun k=>by omega,fun _=>by simpa using b⟩
   ·rintro (⟨k,_⟩|⟨a,_,b⟩)
    ·omega
    ·exact ⟨a,by simpa using b h2⟩
  ·rw [if_neg h2]
   constructor
   ·intro a;exact .inr ⟨a,fun k=>by omega,fun k=>absurd k h2⟩
   ·rintro (⟨k,_⟩|⟨a,_⟩)
    ·omega
    ·exact a
 ·rw [if_neg h1,Xb8 h]
  constructor
  ·rintro (k|⟨a,b⟩)
   ·exact .inl ⟨by omega,k⟩
   ·exact .inr ⟨a,fun _=>b,fun k=>by omega⟩
  ·rintro (⟨_,k⟩|⟨a,b,_⟩)
   ·exact .inl k
   ·exact .inr ⟨a,b (by omega)⟩
theorem Xta (t:List Ent) (e:Ent):(putT t e).length≤t.length+1:=by
 have:∀(l out:List Ent) (d:Bool),(putTGo e d out l).length≤out.length+l.length+1:=by
  intro l
  induction l with
  |nil=>intro out d;cases d<;>simp [putTGo]
  |cons y l ih=>
   intro out d
   rw [putTGo]
   cases hc:(!d&& !(ltE y e))
   ·refine Nat.le_trans (ih _ _) ?_
    cases h:(y.path==e.path)<;>simp<;>omega
   ·have hd:(d || !(ltE y e))=true:=by
     simp only [Bool.and_eq_true] at hc
     rw [hc.2];simp
    rw [hd,Xg7]
    have:=List.length_filter_le (fun y:Ent=> !(y.path==e.path)) l
    cases h:(y.path==e.path)<;>simp<;>omega
 simpa [putT] using this t [] false
theorem Xwh (t:List Ent) (e:Ent):(opT t e).length≤t.length+1:=by
 unfold opT
 by_cases h1:3<e.kind
 ·rw [if_pos h1]
  by_cases h2:e.kind=4
  ·rw [if_pos h2];exact Nat.le_trans (List.length_filter_le _ _) (Nat.le_succ _)
  ·rw [if_neg h2];exact Nat.le_succ _
 ·rw [if_neg h1];exact Xta t e
end Go.Proofs.YtjdednajelommaaGreatDoor
namespace Go.Proofs.YtjdednajelommaaGreatDoor
def bs (p:Nat→Bool) (lo hi:Nat):Nat:=
 if h:lo<hi then (if p ((lo+hi) / 2) then bs p lo ((lo+hi) / 2) else bs p ((lo+hi) / 2+1) hi) else lo
termination_by hi-lo
decreasing_by all_goals omega
theorem Xt9 (p:Nat→Bool) (lo hi:Nat) (h:lo≤hi):lo≤bs p lo hi∧bs p lo hi≤hi:=by
 induction lo,hi using bs.induct p with
 |case1 lo hi hlt hp ih=>rw [bs,dif_pos hlt,if_pos hp];have:=ih (by omega);omega
 |case2 lo hi hlt hp ih=>rw [bs,dif_pos hlt,if_neg hp];have:=ih (by omega);omega
 |case3 lo hi hlt=>rw [bs,dif_neg hlt];omega
theorem Xw8 (p:Nat→Bool) (lo hi:Nat) (h:lo≤hi):(lo<bs p lo hi→p (bs p lo hi-1)=false)∧(bs p lo hi<hi→p (bs p lo hi)=true):=by
 induction lo,hi using bs.induct p with
 |case1 lo hi hlt hp ih=>
  rw [bs,dif_pos hlt,if_pos hp]
  have h1:=ih (by omega)
  refine ⟨h1.1,fun h2=> ?_⟩
  by_cases h3:bs p lo ((lo+hi) / 2)<(lo+hi) / 2
  ·exact h1.2 h3
  ·have:=Xt9 p lo ((lo+hi) / 2) (by omega)
   rw [show bs p lo ((lo+hi) / 2)=(lo+hi) / 2 by omega];exact hp
 |case2 lo hi hlt hp ih=>
  rw [bs,dif_pos hlt,if_neg hp]
  have h1:=ih (by omega)
  refine ⟨fun h2=> ?_,h1.2⟩
  by_cases h3:(lo+hi) / 2+1<bs p ((lo+hi) / 2+1) hi
  ·exact h1.1 h3
  ·have:=Xt9 p ((lo+hi) / 2+1) hi (by omega)
   rw [show bs p ((lo+hi) / 2+1) hi-1=(lo+hi) / 2 by omega];simpa using hp
 |case3 lo hi hlt=>rw [bs,dif_neg hlt];exact ⟨fun h=>by omega,fun h=>by omega⟩
theorem Xs9 {t:List Ent} (h:SrtT t) (e:Ent) {i:Nat} (hi:i<t.length) (hp:t[i].path=e.path):putT t e=t.set i e:=by
 have hle:∀(a:Ent),ltE a e=ltE a t[i]:=fun a=>by unfold ltE;rw [hp]
 have hle2:∀(a:Ent),ltE e a=ltE t[i] a:=fun a=>by unfold ltE;rw [hp]
 have hpw:=List.pairwise_iff_getElem.1 h
 have hsrt:SrtT (t.set i e):=by
  refine List.pairwise_iff_getElem.2 fun a b ha hb hab=> ?_
  rw [List.length_set] at ha hb
  have h0:=hpw a b ha hb hab
  rw [List.getElem_set,List.getElem_set]
  by_cases h1:i=a
  ·subst h1
   rw [if_pos rfl,if_neg (by omega)]
   show ltE e t[b]=true
   rw [hle2];exact h0
  ·rw [if_neg h1]
   by_cases h2:i=b
   ·subst h2
    rw [if_pos rfl]
    show ltE t[a] e=true
    rw [hle];exact h0
   ·rw [if_neg h2];exact h0
 refine SrtT.ext (Xe9 h e) hsrt fun z=> ?_
 rw [Xb8 h]
 constructor
 ·rintro (rfl|⟨hz,hne⟩)
  ·exact List.mem_set hi _
  ·obtain ⟨j,hj,rfl⟩:=List.getElem_of_mem hz
   have hij:i≠j:=fun e2=>hne (by subst e2;exact hp)
   have:(t.set i e)[j]'(by rw [List.length_set];exact hj)=t[j]:=List.getElem_set_ne hij _
   rw [←this]
   exact List.getElem_mem _
 ·intro hz
  obtain ⟨j,hj,rfl⟩:=List.getElem_of_mem hz
  rw [List.length_set] at hj
  rw [List.getElem_set]
  by_cases hij:i=j
  ·rw [if_pos hij];exact .inl rfl
  ·rw [if_neg hij]
   refine .inr ⟨List.getElem_mem _,fun he=> ?_⟩
   have hne:t[j].path≠t[i].path:=by
    rcases Nat.lt_or_gt_of_ne hij with h1|h1
    ·exact (Xf5 (hpw i j hi hj h1)).symm
    ·exact Xf5 (hpw j i hj hi h1)
   exact hne (he.trans hp.symm)
theorem Xtb {t:List Ent} (h:SrtT t) (e:Ent) {i:Nat} (hi:i≤t.length) (hl:∀k (hk:k<t.length),k<i→ltE t[k] e=true) (hg:∀k (hk:k<t.length),i≤k→ltE e t[k]=true):putT t e=t.take i++e::t.drop i:=by
 have hpw:=List.pairwise_iff_getElem.1 h
 have hsrt:SrtT (t.take i++e::t.drop i):=by
  refine List.pairwise_append.2 ⟨List.Pairwise.sublist (List.take_sublist _ _) h,List.pairwise_cons.2 ⟨fun b hb=> ?_,List.Pairwise.sublist (List.drop_sublist _ _) h⟩,fun a ha b hb=> ?_⟩
  ·obtain ⟨j,hj,rfl⟩:=List.getElem_of_mem hb
   rw [List.getElem_drop]
   exact hg _ (by simp at hj;omega) (by omega)
  ·obtain ⟨j,hj,rfl⟩:=List.getElem_of_mem ha
   have hj2:j<i∧j<t.length:=by simp at hj;omega
   rw [List.getElem_take]
   rcases List.mem_cons.1 hb with rfl|hb
   ·exact hl j hj2.2 hj2.1
   ·obtain ⟨q,hq,rfl⟩:=List.getElem_of_mem hb
    rw [List.getElem_drop]
    exact hpw j (i+q) hj2.2 (by simp at hq;omega) (by omega)
 refine SrtT.ext (Xe9 h e) hsrt fun z=> ?_
 rw [Xb8 h,List.mem_append,List.mem_cons]
 constructor
 ·rintro (rfl|⟨hz,hne⟩)
  ·exact .inr (.inl rfl)
  ·rw [←List.take_append_drop i t,List.mem_append] at hz
   rcases hz with hz|hz
   ·exact .inl hz
   ·exact .inr (.inr hz)
 ·rintro (hz|rfl|hz)
  ·obtain ⟨j,hj,rfl⟩:=List.getElem_of_mem hz
   have hj2:j<i∧j<t.length:=by simp at hj;omega
   rw [List.getElem_take]
   exact .inr ⟨List.getElem_mem _,Xf5 (hl j hj2.2 hj2.1)⟩
  ·exact .inl rfl
  ·obtain ⟨j,hj,rfl⟩:=List.getElem_of_mem hz
   rw [List.getElem_drop]
   exact .inr ⟨List.getElem_mem _,(Xf5 (hg (i+j) (by simp at hj;omega) (by omega))).symm⟩
def notLess (t:List Ent) (p:Bytes) (i:Nat):Bool:=match t[i]? with|some x=> !(ltP (els x.path) (els p))|none=>true
theorem Xwe {t:List Ent} (h:SrtT t) (e:Ent) (hn:∀x∈t,x.path≠e.path):putT t e=t.take (bs (notLess t e.path) 0 t.length)++e::t.drop (bs (notLess t e.path) 0 t.length):=by
 have hle:=Xt9 (notLess t e.path) 0 t.length (Nat.zero_le _)
 have hsp:=Xw8 (notLess t e.path) 0 t.length (Nat.zero_le _)
 generalize bs (notLess t e.path) 0 t.length=i at hle hsp
 have hpw:=List.pairwise_iff_getElem.1 h
 refine Xtb h e hle.2 (fun k hk hki=> ?_) (fun k hk hik=> ?_)
 ·have h1:=hsp.1 (by omega)
  rw [notLess,List.getElem?_eq_getElem (by omega)] at h1
  have h2:ltE (t[i-1]'(by omega)) e=true:=by simpa using h1
  by_cases hk2:k=i-1
  ·subst hk2;exact h2
  ·exact Xcl (hpw k (i-1) hk (by omega) (by omega)) h2
 ·have h1:=hsp.2 (by omega)
  rw [notLess,List.getElem?_eq_getElem (by omega)] at h1
  have h2:ltE (t[i]'(by omega)) e=false:=by simpa using h1
  have h3:ltE e (t[i]'(by omega))=true:=by
   rcases Xhc e (t[i]'(by omega)) with h3|h3|h3
   ·exact h3
   ·exact absurd h3.symm (hn _ (List.getElem_mem _))
   ·rw [h2] at h3;exact absurd h3 (by simp)
  by_cases hk2:k=i
  ·subst hk2;exact h3
  ·exact Xcl h3 (hpw i k (by omega) hk (by omega))
end Go.Proofs.YtjdednajelommaaGreatDoor
namespace Go.Proofs.YtjdednajelommaaGreatDoor
structure Ho where
 p:Bytes
 u:Int
 deriving DecidableEq
def actP (l:List Ho) (d:Int):List Ho:=l.filter fun h=>decide (d≤h.u)
def heldP (l:List Ho) (p:Bytes) (d:Int):Bool:=(actP l d).any fun h=>under p h.p
def belowP (l:List Ho) (p:Bytes) (d:Int):Bool:=(actP l d).any fun h=>under h.p p
def alwP (l:List Ho) (k:Int) (p:Bytes) (d:Int):Int:=
 if k=1∨k=2∨k=3 then (if heldP l p d then 15 else 0) else if k=4 then (if heldP l p d || belowP l p d then 15 else 0) else 0
def restH (l:List Ho) (p:Bytes):List Ho:=l.filter fun h=> !(h.p==p)
def insH (h:Ho):List Ho→List Ho
 | []=> [h]
 |x::l=>if ltP (els h.p) (els x.p) then h::x::l else x::insH h l
def untilH (p:Bytes):List Ho→Int→Int
 | [],u=>u
 |h::l,u=>untilH p l (if h.p=p then max u h.u else u)
def hasH (l:List Ho) (p:Bytes):Bool:=l.any fun h=>h.p==p
def appH (l:List Ho) (e:Ent) (d:Int):List Ho × Int:=
 if e.kind=5 then (insH ⟨e.path,untilH e.path (actP l d) (digits e.target)⟩ (restH (actP l d) e.path),0)
 else if e.kind=6 then (if hasH (actP l d) e.path then (restH (actP l d) e.path,0) else ([],9))
 else (actP l d,0)
structure HOk (l:List Ho):Prop where
 ne:l.Pairwise fun a b=>a.p≠b.p
 u0:∀h∈l,0≤h.u
 u1:∀h∈l,h.u≤1000000000
 path:∀h∈l,pathErr h.p=0
theorem Xre:HOk []:=⟨List.Pairwise.nil,fun _ h=>(by cases h),fun _ h=>(by cases h),fun _ h=>(by cases h)⟩
theorem HOk.sub {l m:List Ho} (h:HOk l) (hs:m.Sublist l):HOk m:=⟨h.ne.sublist hs,fun x hx=>h.u0 x (hs.subset hx),fun x hx=>h.u1 x (hs.subset hx),fun x hx=>h.path x (hs.subset hx)⟩
theorem HOk.act {l:List Ho} (h:HOk l) (d:Int):HOk (actP l d):=h.sub List.filter_sublist
theorem HOk.rest {l:List Ho} (h:HOk l) (p:Bytes):HOk (restH l p):=h.sub List.filter_sublist
theorem Xff (h:Ho):∀ {l:List Ho} {x:Ho},x∈insH h l↔x=h∨x∈l
 | [],x=>by simp [insH]
 |y::l,x=>by
  rw [insH]
  split
  ·rw [List.mem_cons]
  ·rw [List.mem_cons,Xff h,List.mem_cons]
   constructor
   ·rintro (k|k|k)
    ·exact .inr (.inl k)
    ·exact .inl k
    ·exact .inr (.inr k)
   ·rintro (k|k|k)
    ·exact .inr (.inl k)
    ·exact .inl k
    ·exact .inr (.inr k)
theorem Xn3 (h:Ho):∀l:List Ho,(insH h l).length=l.length+1
 | []=>rfl
 |y::l=>by
  rw [insH]
  split
  ·rfl
  ·rw [List.length_cons,Xn3 h l,List.length_cons]
theorem Xrd {h:Ho}:∀ {l:List Ho},l.Pairwise (fun a b=>a.p≠b.p)→(∀x∈l,x.p≠h.p)→(insH h l).Pairwise fun a b=>a.p≠b.p
 | [],_,_=>List.pairwise_singleton _ _
 |y::l,hl,hn=>by
  rw [insH]
  obtain ⟨h1,h2⟩:=List.pairwise_cons.1 hl
  split
  ·exact List.pairwise_cons.2 ⟨fun x hx k=>hn x hx k.symm,hl⟩
  ·refine List.pairwise_cons.2 ⟨fun x hx=> ?_,Xrd h2 fun x hx=>hn x (List.mem_cons_of_mem _ hx)⟩
   rcases (Xff h).1 hx with rfl|hx
   ·exact hn y (List.mem_cons_self ..)
   ·exact h1 x hx
theorem Xs5 {l:List Ho} {p:Bytes}:∀x∈restH l p,x.p≠p:=fun x hx k=>by
 have:=(List.mem_filter.1 hx).2
 rw [k] at this
 simp at this
theorem Xgr (p:Bytes):∀(l:List Ho) (u:Int),(∀h∈l,0≤h.u∧h.u≤1000000000)→0≤u→u≤1000000000→0≤untilH p l u∧untilH p l u≤1000000000
 | [],u,_,h0,h1=>⟨h0,h1⟩
 |h::l,u,hl,h0,h1=>by
  have hh:=hl h (List.mem_cons_self ..)
  have hr:=fun x hx=>hl x (List.mem_cons_of_mem _ hx)
  rw [untilH]
  split
  ·exact Xgr p l _ hr (by omega) (by omega)
  ·exact Xgr p l _ hr h0 h1
theorem Xlq {s:Bytes} (h:dateOk s=true):0≤digits s∧digits s≤1000000000:=by
 unfold dateOk at h
 simp only [Bool.and_eq_true,decide_eq_true_eq] at h
 refine ⟨?_,h.2⟩
 have h0:=h.1.2
 unfold digits
 have key:∀(l:Bytes) (a:Int),0≤a→(l.all fun c=>decide (48≤c)&&decide (c≤57))=true→0≤l.foldl (fun (n:Int) c=>10*n+((c.toNat:Int)-48)) a:=by
  intro l
  induction l with
  |nil=>intro a ha _;exact ha
  |cons c l ih=>
   intro a ha hl
   rw [List.all_cons,Bool.and_eq_true] at hl
   rw [List.foldl_cons]
   have h48:(48:UInt8)≤c:=by
    have:=hl.1
    simp only [Bool.and_eq_true,decide_eq_true_eq] at this
    exact this.1
   have h48':48≤c.toNat:=h48
   exact ih _ (by omega) hl.2
 exact key s 0 (by omega) h0
theorem Xk4 {e:Ent} (he:entErr e=0) (hk:e.kind=5):dateOk e.target=true:=by
 unfold entErr at he
 rw [if_neg (by omega)] at he
 by_cases h1:pathErr e.path≠0
 ·rw [if_pos h1] at he;exact absurd he h1
 rw [if_neg h1] at he
 split at he
 ·omega
 by_cases h2:chk e.attrs≠0
 ·rw [if_pos h2] at he;exact absurd he h2
 rw [if_neg h2] at he
 split at he
 ·omega
 rename_i h3
 have ht:targetOk e=true:=by
  cases hh:targetOk e with
  |true=>rfl
  |false=>exact absurd (.inr hh) h3
 unfold targetOk at ht
 rw [if_neg (by omega),if_pos hk] at ht
 exact ht
theorem Xxe {l m:List Ho} {e:Ent} {d n:Int} (h:HOk l) (he:entErr e=0) (ha:appH l e d=(m,n)):HOk m:=by
 unfold appH at ha
 by_cases h5:e.kind=5
 ·rw [if_pos h5] at ha
  obtain ⟨rfl,rfl⟩:=Prod.mk.inj ha
  have hr:=(h.act d).rest e.path
  have hd:=Xlq (Xk4 he h5)
  have hu:=Xgr e.path (actP l d) (digits e.target) (fun x hx=>⟨(h.act d).u0 x hx,(h.act d).u1 x hx⟩) hd.1 hd.2
  refine ⟨Xrd hr.ne fun x hx=>Xs5 x hx,fun x hx=> ?_,fun x hx=> ?_,fun x hx=> ?_⟩
  ·rcases (Xff _).1 hx with rfl|hx
   ·exact hu.1
   ·exact hr.u0 x hx
  ·rcases (Xff _).1 hx with rfl|hx
   ·exact hu.2
   ·exact hr.u1 x hx
  ·rcases (Xff _).1 hx with rfl|hx
   ·exact (Xb5 he).2.2.1
   ·exact hr.path x hx
 ·rw [if_neg h5] at ha
  split at ha
  ·split at ha
   ·obtain ⟨rfl,rfl⟩:=Prod.mk.inj ha
    exact (h.act d).rest e.path
   ·obtain ⟨rfl,rfl⟩:=Prod.mk.inj ha
    exact Xre
  ·obtain ⟨rfl,rfl⟩:=Prod.mk.inj ha
   exact h.act d
theorem Xui {l m:List Ho} {e:Ent} {d n:Int} (ha:appH l e d=(m,n)):m.length≤l.length+1:=by
 have h1:(actP l d).length≤l.length:=List.length_filter_le _ _
 have h2:∀p,(restH (actP l d) p).length≤(actP l d).length:=fun p=>List.length_filter_le _ _
 have h3:=h2 e.path
 unfold appH at ha
 split at ha
 ·obtain ⟨rfl,rfl⟩:=Prod.mk.inj ha
  rw [Xn3];omega
 ·split at ha
  ·split at ha
   ·obtain ⟨rfl,rfl⟩:=Prod.mk.inj ha;omega
   ·obtain ⟨rfl,rfl⟩:=Prod.mk.inj ha;simp
  ·obtain ⟨rfl,rfl⟩:=Prod.mk.inj ha;omega
def wasH (p:Bytes):List Ho→Int→Int
 | [],u=>u
 |h::l,u=>wasH p l (if h.p=p then h.u else u)
theorem rest_len {l:List Ho} {p:Bytes}:((restH l p).length=l.length)↔hasH l p=false:=by
 unfold restH hasH
 rw [List.length_filter_eq_length_iff,List.any_eq_false]
 constructor
 ·intro h x hx
  have:=h x hx
  simpa using this
 ·intro h x hx
  have:=h x hx
  simpa using this
end Go.Proofs.YtjdednajelommaaGreatDoor
