/-
  Walks and laws that the claim's theorem uses: texts PbB PbC PbD Dat AtBx ShT, joined; comments out. Conditions: as each theorem says.
-/
import Derived.Test.YtmdfjnhfhidmhaaGreatDoorK06
import Derived.Lib.AtoiAll
import Derived.Shelf.Strings.SlTrimAscii
import Derived.Test.YtmdfjnhfhidmhaaGreatDoorProg
set_option linter.all false
namespace Go.Proofs.YtmdfjnhfhidmhaaGreatDoor
open Go.RowKit
section
variable {α:Type}
def idxL (l:List α) (p:α→Bool):Int:=match l.findIdx? p with|some i=>i|none=> -1
theorem Xdw {l:List α} {p:α→Bool} (h:l.any p=false):idxL l p= -1:=by
 have:l.findIdx? p=none:=by
  rw [List.findIdx?_eq_none_iff]
  intro x hx
  cases hp:p x with
  |false=>rfl
  |true=>rw [List.any_eq_true.2 ⟨x,hx,hp⟩] at h;exact absurd h (by simp)
 rw [idxL,this]
theorem Xdv {l:List α} {p:α→Bool} {i:Nat} (hi:i<l.length) (hp:p l[i]=true) (hn:(l.take i).any p=false):idxL l p=i:=by
 have:l.findIdx? p=some i:=by
  rw [List.findIdx?_eq_some_iff_getElem]
  refine ⟨hi,hp,fun j hj=> ?_⟩
  cases hq:p l[j] with
  |false=>simp
  |true=>
   have hjl:j<(l.take i).length:=by simp;omega
   rw [List.any_eq_true.2 ⟨(l.take i)[j],List.getElem_mem hjl,by rw [List.getElem_take];exact hq⟩] at hn
   exact absurd hn (by simp)
 rw [idxL,this]
theorem Xbl (l:List α) (p:α→Bool):(∃i:Nat,∃h:i<l.length,idxL l p=i∧p l[i]=true∧(l.take i).any p=false)∨(idxL l p= -1∧l.any p=false):=by
 unfold idxL
 cases h:l.findIdx? p with
 |none=>
  right
  refine ⟨rfl,?_⟩
  rw [List.findIdx?_eq_none_iff] at h
  cases ha:l.any p with
  |false=>rfl
  |true=>
   obtain ⟨x,hx,hp⟩:=List.any_eq_true.1 ha
   rw [h x hx] at hp;exact absurd hp (by simp)
 |some i=>
  left
  rw [List.findIdx?_eq_some_iff_getElem] at h
  obtain ⟨hi,h1,h2⟩:=h
  refine ⟨i,hi,rfl,h1,?_⟩
  cases ha:(l.take i).any p with
  |false=>rfl
  |true=>
   obtain ⟨x,hx,hp⟩:=List.any_eq_true.1 ha
   obtain ⟨j,hj,rfl⟩:=List.getElem_of_mem hx
   rw [List.getElem_take] at hp
   have hji:j<i:=by simp at hj;omega
   have:=h2 j hji
   simp [hp] at this
end
def allowedR (r:Nat):Bool:= !(notAllowed r)
set_option maxRecDepth 100000 in
set_option maxHeartbeats 400000 in
theorem Xmu (c:Nat) (w:World):Calls Tryz.prog 219 #[.int .i32 (c:Int)] w fun e w'=>e= .returned (.bool (allowedR c))∧w'=w:=by
 rcases (show (97≤c∧c≤122)∨122<c∨(48≤c∧c≤57)∨c=46∨c=95∨c=45∨(c<48∧c≠46∧c≠45)∨(57<c∧c<97∧c≠95) by omega) with hc|hc|hc|hc|hc|hc|hc|hc
 ·have d97:decide (97≤(c:Int))=true:=by simp;omega
  have d122:decide ((c:Int)≤122)=true:=by simp;omega
  have d48:decide (48≤(c:Int))=true:=by simp;omega
  have d57:decide ((c:Int)≤57)=false:=by simp;omega
  have n46:((c:Int)==46)=false:=by simp;omega
  have n95:((c:Int)==95)=false:=by simp;omega
  have n45:((c:Int)==45)=false:=by simp;omega
  have Hv:=Qh (show allowedR c=true by unfold allowedR notAllowed;simp;omega)
  clear hc
  go_enter Tryz.func219,Tryz.ntmps219
  go_wp2
  go_ret
  exact ⟨Xay Hv.out.symm,rfl⟩
 ·have d97:decide (97≤(c:Int))=true:=by simp;omega
  have d122:decide ((c:Int)≤122)=false:=by simp;omega
  have d48:decide (48≤(c:Int))=true:=by simp;omega
  have d57:decide ((c:Int)≤57)=false:=by simp;omega
  have n46:((c:Int)==46)=false:=by simp;omega
  have n95:((c:Int)==95)=false:=by simp;omega
  have n45:((c:Int)==45)=false:=by simp;omega
  have Hv:=Qh (show allowedR c=false by unfold allowedR notAllowed;simp;omega)
  clear hc
  go_enter Tryz.func219,Tryz.ntmps219
  go_wp2
  go_ret
  exact ⟨Xay Hv.out.symm,rfl⟩
 ·have d97:decide (97≤(c:Int))=false:=by simp;omega
  have d122:decide ((c:Int)≤122)=true:=by simp;omega
  have d48:decide (48≤(c:Int))=true:=by simp;omega
  have d57:decide ((c:Int)≤57)=true:=by simp;omega
  have n46:((c:Int)==46)=false:=by simp;omega
  have n95:((c:Int)==95)=false:=by simp;omega
  have n45:((c:Int)==45)=false:=by simp;omega
  have Hv:=Qh (show allowedR c=true by unfold allowedR notAllowed;simp;omega)
  clear hc
  go_enter Tryz.func219,Tryz.ntmps219
  go_wp2
  go_ret
  exact ⟨Xay Hv.out.symm,rfl⟩
 ·have d97:decide (97≤(c:Int))=false:=by simp;omega
  have d122:decide ((c:Int)≤122)=true:=by simp;omega
  have d48:decide (48≤(c:Int))=false:=by simp;omega
  have d57:decide ((c:Int)≤57)=true:=by simp;omega
  have n46:((c:Int)==46)=true:=by simp;omega
  have n95:((c:Int)==95)=false:=by simp;omega
  have n45:((c:Int)==45)=false:=by simp;omega
  have Hv:=Qh (show allowedR c=true by unfold allowedR notAllowed;simp;omega)
  clear hc
  go_enter Tryz.func219,Tryz.ntmps219
  go_wp2
  go_ret
  exact ⟨Xay Hv.out.symm,rfl⟩
 ·have d97:decide (97≤(c:Int))=false:=by simp;omega
  have d122:decide ((c:Int)≤122)=true:=by simp;omega
  have d48:decide (48≤(c:Int))=true:=by simp;omega
  have d57:decide ((c:Int)≤57)=false:=by simp;omega
  have n46:((c:Int)==46)=false:=by simp;omega
  have n95:((c:Int)==95)=true:=by simp;omega
  have n45:((c:Int)==45)=false:=by simp;omega
  have Hv:=Qh (show allowedR c=true by unfold allowedR notAllowed;simp;omega)
  clear hc
  go_enter Tryz.func219,Tryz.ntmps219
  go_wp2
  go_ret
  exact ⟨Xay Hv.out.symm,rfl⟩
 ·have d97:decide (97≤(c:Int))=false:=by simp;omega
  have d122:decide ((c:Int)≤122)=true:=by simp;omega
  have d48:decide (48≤(c:Int))=false:=by simp;omega
  have d57:decide ((c:Int)≤57)=true:=by simp;omega
  have n46:((c:Int)==46)=false:=by simp;omega
  have n95:((c:Int)==95)=false:=by simp;omega
  have n45:((c:Int)==45)=true:=by simp;omega
  have Hv:=Qh (show allowedR c=true by unfold allowedR notAllowed;simp;omega)
  clear hc
  go_enter Tryz.func219,Tryz.ntmps219
  go_wp2
  go_ret
  exact ⟨Xay Hv.out.symm,rfl⟩
 ·have d97:decide (97≤(c:Int))=false:=by simp;omega
  have d122:decide ((c:Int)≤122)=true:=by simp;omega
  have d48:decide (48≤(c:Int))=false:=by simp;omega
  have d57:decide ((c:Int)≤57)=true:=by simp;omega
  have n46:((c:Int)==46)=false:=by simp;omega
  have n95:((c:Int)==95)=false:=by simp;omega
  have n45:((c:Int)==45)=false:=by simp;omega
  have Hv:=Qh (show allowedR c=false by unfold allowedR notAllowed;simp;omega)
  clear hc
  go_enter Tryz.func219,Tryz.ntmps219
  go_wp2
  go_ret
  exact ⟨Xay Hv.out.symm,rfl⟩
 ·have d97:decide (97≤(c:Int))=false:=by simp;omega
  have d122:decide ((c:Int)≤122)=true:=by simp;omega
  have d48:decide (48≤(c:Int))=true:=by simp;omega
  have d57:decide ((c:Int)≤57)=false:=by simp;omega
  have n46:((c:Int)==46)=false:=by simp;omega
  have n95:((c:Int)==95)=false:=by simp;omega
  have n45:((c:Int)==45)=false:=by simp;omega
  have Hv:=Qh (show allowedR c=false by unfold allowedR notAllowed;simp;omega)
  clear hc
  go_enter Tryz.func219,Tryz.ntmps219
  go_wp2
  go_ret
  exact ⟨Xay Hv.out.symm,rfl⟩
set_option maxRecDepth 100000 in
theorem Xhm (c:Nat) (w:World):Calls Tryz.prog 218 #[.int .i32 (c:Int)] w fun e w'=>e= .returned (.bool (notAllowed c))∧w'=w:=by
 go_enter Tryz.func218,Tryz.ntmps218
 go_wp2_with fail
 refine (Xmu c _).mono ?_
 rintro e w1 ⟨rfl,rfl⟩
 go_wp2
 go_ret
 exact ⟨Xay (by rw [allowedR,Bool.not_not]),rfl⟩
set_option maxRecDepth 100000 in
set_option maxHeartbeats 400000 in
theorem Xio (s:Bytes) (hs:s.length≤9223372036854775807) (w:World):
 Calls Tryz.prog 177 #[S s] w fun e w'=>e= .returned (.bool (comp s))∧Below w.heap.size w w':=by
 by_cases h1:1≤s.length
 case neg=>
  have hd1:decide (1≤s.length)=false:=Qf h1
  have Hok:=Qh (show comp s=false by simp [comp,h1])
  go_enter Tryz.func177,Tryz.ntmps177
  go_wp2
  go_ret
  exact ⟨Xay Hok.out.symm,Qb _ _⟩
 have hd1:decide (1≤s.length)=true:=Qt h1
 by_cases h32:s.length≤32
 case neg=>
  have hd2:decide (s.length≤32)=false:=Qf h32
  have Hok:=Qh (show comp s=false by simp [comp,h32])
  go_enter Tryz.func177,Tryz.ntmps177
  go_wp2
  go_ret
  exact ⟨Xay Hok.out.symm,Qb _ _⟩
 have hd2:decide (s.length≤32)=true:=Qt h32
 by_cases h46:s= [46]
 case pos=>
  subst h46
  have Hok:=Qh (show comp [46]=false by rfl)
  clear hs h1 hd1 h32 hd2
  go_enter Tryz.func177,Tryz.ntmps177
  go_wp2
  go_ret
  exact ⟨Xay Hok.out.symm,Qb _ _⟩
 have f46:(s != [46])=true:=by simpa using h46
 have g46:(s== [46])=false:=by simpa using h46
 by_cases h47:s= [46,46]
 case pos=>
  subst h47
  have Hok:=Qh (show comp [46,46]=false by rfl)
  clear hs h1 hd1 h32 hd2 h46 f46 g46
  go_enter Tryz.func177,Tryz.ntmps177
  go_wp2
  go_ret
  exact ⟨Xay Hok.out.symm,Qb _ _⟩
 have f47:(s != [46,46])=true:=by simpa using h47
 have g47:(s== [46,46])=false:=by simpa using h47
 have Hok:=Qh (show comp s= !(decide (0≤Lib.idxFunc notAllowed true ⟨s.toArray⟩)) by rw [Xq6,Bool.not_not];simp [comp,h1,h32,f46,f47])
 have Hcf:=Qh (Xer 218 notAllowed s w (fun _ _=>by kernel_rfl) (fun x W=>Xhm x W))
 generalize decide (0≤Lib.idxFunc notAllowed true ⟨s.toArray⟩)=bb at Hok Hcf
 clear h46 h47
 go_enter Tryz.func177,Tryz.ntmps177
 go_wp2_with fail
 refine Hcf.out.mono ?_
 rintro e w1 ⟨rfl,hb1⟩
 go_wp2
 go_ret
 exact ⟨Xay Hok.out.symm,hb1⟩
set_option maxRecDepth 100000 in
set_option maxHeartbeats 400000 in
theorem Xcl (I:IH) (hI:Glob I) (s:Bytes) (hs:s.length≤4294967280) (w:World) (hw:Ok I w):
 Calls Tryz.prog 140 #[S s] w (RetS tStr I w (els s)):=by
 by_cases h0:s= []
 ·obtain ⟨p1,p2,p3,p4⟩:=Xdx h0
  have Hs:=Qh (show els s= [] by rw [h0];rfl)
  clear h0
  go_enter Tryz.func140,Tryz.ntmps140
  go_wp2
  go_ret
  rw [Hs.out]
  exact ⟨_,I,rfl,Qb _ _,Ext.refl _ _,hw,RdS.nil _ _⟩
 ·obtain ⟨p1,p2,p3,p4⟩:=Xdr h0
  have Hs:=Qh (show els s=elsGo [] s by rw [els,if_neg h0])
  have Hl:=Qh (Xon I hI s hs w hw)
  generalize elsGo [] s=l at Hs Hl
  clear h0
  go_enter Tryz.func140,Tryz.ntmps140
  go_wp2_with fail
  refine Hl.out.mono ?_
  rintro e w1 ⟨v1,I1,rfl,hb1,hx1,hok1,hr1⟩
  obtain ⟨ao,cap,rfl,hcap,hcm,_⟩:=id hr1
  go_wp2
  go_ret
  rw [Hs.out]
  exact ⟨_,I1,rfl,hb1,hx1,hok1,hr1⟩
set_option maxRecDepth 100000 in
theorem Xoh (s:Bytes) (hs:s.length≤9223372036854775807) (w:World):
 Calls Tryz.prog 176 #[S s] w fun e w'=>e= .returned (.bool (!(comp s)))∧Below w.heap.size w w':=by
 go_enter Tryz.func176,Tryz.ntmps176
 go_wp2_with fail
 refine (Xio s hs _).mono ?_
 rintro e w1 ⟨rfl,hb1⟩
 go_wp2
 go_ret
 exact ⟨rfl,hb1⟩
set_option maxRecDepth 100000 in
set_option maxHeartbeats 400000 in
theorem Xgg (I:IH) (v:Value) (l:List Bytes) (hv:RdS tStr I v l) (g:Nat) (p:Bytes→Bool) (w:World) (hw:Ok I w) (eg:∀args w,(callFunc g args).run Tryz.prog w= .ok (.enter g args) w) (hp:∀x∈l,∀W:World,Calls Tryz.prog g #[S x] W fun e w'=>e= .returned (.bool (p x))∧Below W.heap.size W w'):
 Calls Tryz.prog 216 #[v,.func (.func g) #[] #[]] w fun e w'=>e= .returned (.int .i64 (idxL l p))∧Below w.heap.size w w':=by
 have hlen:=hv.len_le
 obtain ⟨ao,cap,rfl,hcap,hcm,_⟩:=id hv
 have Hv:=Qh hv;clear hv
 have Hp:=Qh hp;clear hp
 go_enter Tryz.func216,Tryz.ntmps216
 go_wp2_with fail
 go_loopw [8] (fun s8 wr=> ∃k:Nat,k≤l.length∧s8= .int .i64 k∧(l.take k).any p=false∧Below w.heap.size w wr) (fun i _=>l.length-(intOf i).toNat)
 case atStart=>exact ⟨0,Nat.zero_le _,rfl,rfl,Qb _ _⟩
 case round=>
  obtain ⟨k,hk,rfl,hr,hb⟩:=hrel
  have Hr:=Qh hr;clear hr
  by_cases hlt:k<l.length
  ·have hwr:Ok I wr:=hw.below (Qn _) hb
   obtain ⟨x,b,off,cap',hlx,hvv,hc0⟩:=Xnt Hv.out hwr k hlt
   cases hvv
   have Hlx:=Qh hlx
   have Hcall:=Qh (Hp.out x (by rw [←hlx];exact List.getElem_mem hlt))
   clear hlx
   go_wp2_with fail
   refine (Hcall.out _).mono ?_
   rintro e w1 ⟨rfl,hb1⟩
   have hb1':=hb.trans (hb1.mono hb.size)
   clear hb1 Hcall
   cases hpx:p x
   ·have Hn:=Qh (show (l.take (k+1)).any p=false by rw [List.take_succ_eq_append_getElem hlt,List.any_append,Hr.out,Hlx.out];simp [hpx])
    clear hpx
    go_wp2
    go_roundw
    case rel=>exact ⟨k+1,by omega,by go_num,Hn.out,hb1'⟩
    case measure=>simp [intOf];omega
   ·have Hn:=Qh (Xdv (p:=p) hlt (by rw [Hlx.out];exact hpx) Hr.out)
    clear hpx
    go_wp2
    go_ret
    exact ⟨Xaj Hn.out.symm,hb1'⟩
  ·have Hn:=Qh (show idxL l p= -1 from Xdw (by have:=Hr.out;rwa [List.take_of_length_le (by omega)] at this))
   go_wp2
   go_ret
   exact ⟨Xaj Hn.out.symm,hb⟩
set_option maxRecDepth 100000 in
theorem Xd6 (I:IH) (v:Value) (l:List Bytes) (hv:RdS tStr I v l) (g:Nat) (p:Bytes→Bool) (w:World) (hw:Ok I w) (eg:∀args w,(callFunc g args).run Tryz.prog w= .ok (.enter g args) w) (hp:∀x∈l,∀W:World,Calls Tryz.prog g #[S x] W fun e w'=>e= .returned (.bool (p x))∧Below W.heap.size W w'):
 Calls Tryz.prog 175 #[v,.func (.func g) #[] #[]] w fun e w'=>e= .returned (.bool (l.any p))∧Below w.heap.size w w':=by
 have Hi:=Qh (Xgg I v l hv g p w hw eg hp)
 obtain ⟨ao,cap,rfl,hcap,hcm,_⟩:=id hv
 clear hv hp eg
 rcases Xbl l p with ⟨i,hi,e1,e2,_⟩|⟨e1,e2⟩
 ·have Ha:=Qh (show l.any p=true from List.any_eq_true.2 ⟨l[i],List.getElem_mem hi,e2⟩)
  have hd:decide ((0:Int)≤(i:Int))=true:=Qt (by omega)
  rw [e1] at Hi
  clear e1 e2
  go_enter Tryz.func175,Tryz.ntmps175
  go_wp2_with fail
  refine Hi.out.mono ?_
  rintro e w1 ⟨rfl,hb1⟩
  go_wp2
  go_ret
  exact ⟨Xay Ha.out.symm,hb1⟩
 ·have Ha:=Qh e2
  rw [e1] at Hi
  clear e1 e2
  go_enter Tryz.func175,Tryz.ntmps175
  go_wp2_with fail
  refine Hi.out.mono ?_
  rintro e w1 ⟨rfl,hb1⟩
  go_wp2
  go_ret
  exact ⟨Xay Ha.out.symm,hb1⟩
theorem Xt7 (l:List Bytes):l.any (fun s=> !(comp s))= !(l.all comp):=by
 induction l with
 |nil=>rfl
 |cons x l ih=>rw [List.any_cons,List.all_cons,ih,Bool.not_and]
set_option maxRecDepth 100000 in
set_option maxHeartbeats 400000 in
theorem Xlb (I:IH) (hI:Glob I) (s:Bytes) (hs:s.length≤4294967280) (w:World) (hw:Ok I w):
 Calls Tryz.prog 130 #[S s] w fun e w'=>e= .returned (.int .i64 (pathErr s))∧Below w.heap.size w w':=by
 have Hel:=Qh (Xcl I hI s hs w hw)
 have Hll:=Qh (fun (q:Bytes) (h:q∈els s)=>Xtn h)
 by_cases h200:s.length≤200
 case neg=>
  have hd:decide (200<s.length)=true:=Qt (by omega)
  have Hp:=Qh (show pathErr s=6 by rw [pathErr,if_pos (by omega)])
  go_enter Tryz.func130,Tryz.ntmps130
  go_wp2_with fail
  refine Hel.out.mono ?_
  rintro e w1 ⟨v1,I1,rfl,hb1,hx1,hok1,hr1⟩
  obtain ⟨ao,cap,rfl,hcap,hcm,_⟩:=id hr1
  clear hr1
  go_wp2
  go_ret
  exact ⟨Xaj Hp.out.symm,hb1⟩
 have hd:decide (200<s.length)=false:=Qf (by omega)
 have Hp:=Qh (show pathErr s=if 8<(els s).length then 6 else if (els s).all comp then 0 else 7 by rw [pathErr,if_neg (by omega)])
 generalize els s=l at Hel Hp Hll
 by_cases h8:8<l.length
 case pos=>
  have Hp2:=Qh (show pathErr s=6 by rw [Hp.out,if_pos h8])
  go_enter Tryz.func130,Tryz.ntmps130
  go_wp2_with fail
  refine Hel.out.mono ?_
  rintro e w1 ⟨v1,I1,rfl,hb1,hx1,hok1,hr1⟩
  obtain ⟨ao,cap,rfl,hcap,hcm,_⟩:=id hr1
  clear hr1
  go_wp2
  go_ret
  exact ⟨Xaj Hp2.out.symm,hb1⟩
 have Hp2:=Qh (show pathErr s=if l.all comp then 0 else 7 by rw [Hp.out,if_neg h8])
 go_enter Tryz.func130,Tryz.ntmps130
 go_wp2_with fail
 refine Hel.out.mono ?_
 rintro e w1 ⟨v1,I1,rfl,hb1,hx1,hok1,hr1⟩
 have Hcf:=Qh (Xd6 I1 v1 l hr1 176 (fun s=> !(comp s)) w1 hok1 (fun _ _=>by kernel_rfl) (fun x hx W=>Xoh x (by have:=Hll.out x hx;omega) W))
 rw [Xt7] at Hcf
 obtain ⟨ao,cap,rfl,hcap,hcm,_⟩:=id hr1
 clear hr1
 go_wp2_with fail
 refine Hcf.out.mono ?_
 rintro e w2 ⟨rfl,hb2⟩
 cases ha:l.all comp
 ·have Hn:=Qh (show pathErr s=7 by rw [Hp2.out,ha];rfl)
  clear ha
  go_wp2
  go_ret
  exact ⟨Xaj Hn.out.symm,hb1.trans (hb2.mono hb1.size)⟩
 ·have Hn:=Qh (show pathErr s=0 by rw [Hp2.out,ha];rfl)
  clear ha
  go_wp2
  go_ret
  exact ⟨Xaj Hn.out.symm,hb1.trans (hb2.mono hb1.size)⟩
set_option maxRecDepth 100000 in
set_option maxHeartbeats 400000 in
theorem Xdo (I:IH) (hI:Glob I) (s:Bytes) (hs:s.length≤4294967280) (w:World) (hw:Ok I w):
 Calls Tryz.prog 136 #[S s] w (RetL tStr I w (splP s).1 (splP s).2):=by
 have Hc:=Qh (Xlb I hI s hs w hw)
 by_cases h0:pathErr s=0
 ·rw [h0] at Hc
  have Hspl:=Qh (Xd2 h0)
  clear h0
  go_enter Tryz.func136,Tryz.ntmps136
  go_wp2_with fail
  refine Hc.out.mono ?_
  rintro e w1 ⟨rfl,hb1⟩
  have hok1:Ok I w1:=hw.below (Qn _) hb1
  go_wp2_with fail
  refine (Xcl I hI s hs _ hok1).mono ?_
  rintro e w2 ⟨v2,I2,rfl,hb2,hx2,hok2,hr2⟩
  obtain ⟨ao,cap,rfl,hcap,hcm,_⟩:=id hr2
  go_wp2
  go_ret2
  rw [Hspl.out]
  exact ⟨_,I2,rfl,hb1.trans (hb2.mono hb1.size),hx2.mono hb1.size,hok2,hr2⟩
 ·have Hspl:=Qh (Xj6 h0)
  obtain ⟨q,hq⟩:∃q,pathErr s=q:=⟨_,rfl⟩
  have hn:(q != 0)=true:=by rw [←hq];simpa using h0
  rw [hq] at Hspl Hc
  clear hq h0
  go_enter Tryz.func136,Tryz.ntmps136
  go_wp2_with fail
  refine Hc.out.mono ?_
  rintro e w1 ⟨rfl,hb1⟩
  have hok1:Ok I w1:=hw.below (Qn _) hb1
  go_wp2
  go_ret2
  rw [Hspl.out]
  exact ⟨_,I,rfl,hb1,Ext.refl _ _,hok1,RdS.nil _ _⟩
set_option maxRecDepth 100000 in
set_option maxHeartbeats 400000 in
theorem Xog (I:IH) (hI:Glob I) (s:Bytes) (hs:s.length≤4294967280) (w:World) (hw:Ok I w):
 Calls Tryz.prog 83 #[S s] w fun e w'=>e= .returned (.tuple #[S (parP s).1,.int .i64 (parP s).2])∧Below w.heap.size w w':=by
 by_cases h0:pathErr s=0
 ·have Hsp:=Qh (by have:=Xdo I hI s hs w hw;rw [Xd2 h0] at this;exact this)
  have hs2:=(Xbw h0).1
  have hs8:=(Xbw h0).2.1
  have Hpp:=Qh (show parP s=if s= [] then ([],1) else (upP s,0) by rw [parP,if_neg (by omega)])
  have hjl:(joinP (els s)).length≤200:=by rw [Xds];exact hs2
  have hel:=Xtm (s:=s)
  have hup:upP s=joinP ((els s).take ((els s).length-1)):=by rw [upP,List.dropLast_eq_take]
  have Hjt:=Qh (Xhr (els s) ((els s).length-1))
  generalize els s=l at Hsp hjl hel hup Hjt hs8
  have Hel:=Qh hel
  have Hup:=Qh hup
  clear h0 hel hup
  go_enter Tryz.func83,Tryz.ntmps83
  go_wp2_with fail
  refine Hsp.out.mono ?_
  rintro e w1 ⟨v1,I1,rfl,hb1,hx1,hok1,hr1⟩
  obtain ⟨ao,cap,rfl,hcap,hcm,_⟩:=id hr1
  have Hr1:=Qh hr1
  clear hr1 hx1
  have hml:maxLen=9223372036854775807:=rfl
  by_cases hl0:l.length=0
  ·have Hn:=Qh (show parP s=([],1) by rw [Hpp.out,if_pos (Hel.out.1 (List.eq_nil_of_length_eq_zero hl0))])
   have hz:((l.length:Int)==0)=true:=by rw [hl0];rfl
   clear hl0 hml
   go_wp2
   go_ret2
   rw [Hn.out]
   exact ⟨rfl,hb1⟩
  ·have Hn:=Qh (show parP s=(joinP (l.take (l.length-1)),0) by
    rw [Hpp.out,if_neg (fun e=>hl0 (by rw [Hel.out.2 e];rfl)),Hup.out])
   have hz:((l.length:Int)==0)=false:=by rw [beq_eq_false_iff_ne];omega
   have hlp:1≤l.length:=by omega
   have hi:IntKind.i64.wrap ((l.length:Int)-1)=(l.length:Int)-1:=IntWalk.i64_in _ (by omega)
   have hj:(0:Int)≤(l.length:Int)-1:=by omega
   have hj2:(l.length:Int)-1≤(cap:Int):=by omega
   have hm:((l.length:Int)-1).toNat=l.length-1:=by omega
   have Hr2:=Qh (Hr1.out.takeS (n:=l.length-1) (by omega))
   have Hj2:=Qh (Xq1 I1 _ _ Hr2.out (by have:=Hjt.out;omega) (by rw [List.length_take];omega) w1 hok1)
   clear hl0 hml
   go_wp2_with fail
   refine Hj2.out.mono ?_
   rintro e w2 ⟨rfl,hb2⟩
   go_wp2
   go_ret2
   rw [Hn.out]
   exact ⟨rfl,hb1.trans (hb2.mono hb1.size)⟩
 ·have Hsp:=Qh (by have:=Xdo I hI s hs w hw;rw [Xj6 h0] at this;exact this)
  obtain ⟨q,hq⟩:∃q,pathErr s=q:=⟨_,rfl⟩
  have hn:(q != 0)=true:=by rw [←hq];simpa using h0
  have Hpp:=Qh (show parP s=([],q) by rw [parP,if_pos h0,hq])
  rw [hq] at Hsp
  clear hq h0
  go_enter Tryz.func83,Tryz.ntmps83
  go_wp2_with fail
  refine Hsp.out.mono ?_
  rintro e w1 ⟨v1,I1,rfl,hb1,hx1,hok1,hr1⟩
  obtain ⟨ao,cap,rfl,hcap,hcm,_⟩:=id hr1
  go_wp2
  go_ret2
  rw [Hpp.out]
  exact ⟨rfl,hb1⟩
set_option maxRecDepth 100000 in
set_option maxHeartbeats 1000000 in
theorem Xhn (I:IH) (hI:Glob I) (p d:Bytes) (hp:p.length≤4294967280) (hd:d.length≤4294967280) (w:World) (hw:Ok I w):
 Calls Tryz.prog 81 #[S p,S d] w fun e w'=>e= .returned (.bool (under p d))∧Below w.heap.size w w':=by
 have Hsp:=Qh (Xdo I hI p hp w hw)
 have Hu:=Qh (show under p d=(decide (pathErr p=0)&&decide (pathErr d=0)&&(els d).isPrefixOf (els p)) from rfl)
 have hq1:(splP p).2=pathErr p:=by rw [splP];split<;>simp_all
 have hq2:(splP d).2=pathErr d:=by rw [splP];split<;>simp_all
 have Hl1:=Qh (fun h:pathErr p=0=>show (splP p).1=els p by rw [Xd2 h])
 have Hl2:=Qh (fun h:pathErr d=0=>show (splP d).1=els d by rw [Xd2 h])
 have Hsd:=Qh (fun I hI w hw=>Xdo I hI d hd w hw)
 rw [hq1] at Hsp
 rw [hq2] at Hsd
 generalize (splP p).1=l at Hsp Hl1
 generalize (splP d).1=m at Hsd Hl2
 clear hq1 hq2
 go_enter Tryz.func81,Tryz.ntmps81
 go_wp2_with fail
 refine Hsp.out.mono ?_
 rintro e w1 ⟨v1,I1,rfl,hb1,hx1,hok1,hr1⟩
 have hI1:=hI.mono (hx1.keep hw (Qn _))
 have Hr1:=Qh hr1
 clear hr1
 obtain ⟨ao0,cap0,rfl,_,_,_⟩:=id Hr1.out
 go_wp2_with fail
 refine (Hsd.out I1 hI1 _ hok1).mono ?_
 rintro e w2 ⟨v2,I2,rfl,hb2,hx2,hok2,hr2⟩
 have hr1:=Hr1.out.mono (hx2.keep hok1 (Qn _))
 have hb2':=hb1.trans (hb2.mono hb1.size)
 obtain ⟨ao,cap,e1,hcap,hcm,_⟩:=id hr1
 cases e1
 obtain ⟨ao2,cap2,rfl,hcap2,hcm2,_⟩:=id hr2
 have hlen:=hr1.len_le
 have hlen2:=hr2.len_le
 have Hl:=Qh hr1
 have Hm:=Qh hr2
 clear hr1 hr2 Hr1 hb1 hb2 hx1 hx2
 by_cases h0:pathErr p=0
 case neg=>
  have Hn:=Qh (show under p d=false by rw [Hu.out,Qf h0];rfl)
  obtain ⟨q,hq⟩:∃q,pathErr p=q:=⟨_,rfl⟩
  have hn:(q==0)=false:=by rw [←hq];simpa using h0
  rw [hq]
  clear hq h0
  go_wp2
  go_ret
  exact ⟨Xay Hn.out.symm,hb2'⟩
 by_cases h1:pathErr d=0
 case neg=>
  have Hn:=Qh (show under p d=false by rw [Hu.out,Qf h1,Bool.and_false];rfl)
  obtain ⟨q,hq⟩:∃q,pathErr d=q:=⟨_,rfl⟩
  have hn:(q==0)=false:=by rw [←hq];simpa using h1
  rw [hq,h0]
  clear hq h1 h0
  go_wp2
  go_ret
  exact ⟨Xay Hn.out.symm,hb2'⟩
 have Hu2:=Qh (show under p d=m.isPrefixOf l by rw [Hu.out,Qt h0,Qt h1,Hl1.out h0,Hl2.out h1];rfl)
 rw [h0,h1]
 clear h0 h1
 by_cases hlm:m.length≤l.length
 case neg=>
  have hd1:decide (m.length≤l.length)=false:=Qf hlm
  have Hn:=Qh (show under p d=false by rw [Hu2.out];exact Xin (by omega))
  go_wp2
  go_ret
  exact ⟨Xay Hn.out.symm,hb2'⟩
 have hd1:decide (m.length≤l.length)=true:=Qt hlm
 have hcc:m.length≤cap0:=by omega
 have Hn:=Qh (show under p d=decide (l.take m.length=m) by rw [Hu2.out];exact Xkf l m)
 have Heq:=Qh (Xop I2 _ _ _ _ (Hl.out.takeS hlm) Hm.out w2 hok2)
 generalize decide (l.take m.length=m)=bb at Hn Heq
 go_wp2_with fail
 refine Heq.out.mono ?_
 rintro e w3 ⟨rfl,hb3⟩
 go_wp2
 go_ret
 exact ⟨Xay Hn.out.symm,hb2'.trans (hb3.mono hb2'.size)⟩
def cmpS (x y:Bytes):Int:=if Op.bytesLess x y then -1 else if Op.bytesLess y x then 1 else 0
set_option maxRecDepth 100000 in
theorem Xcf (x:Bytes) (w:World):Calls Tryz.prog 183 #[S x] w fun e w'=>e= .returned (.bool false)∧w'=w:=by
 have f:(x != x)=false:=by simp
 have f2:(x==x)=true:=by simp
 go_enter Tryz.func183,Tryz.ntmps183
 go_wp2
 go_ret
 exact ⟨by first|rfl|(simp),rfl⟩
set_option maxRecDepth 100000 in
set_option maxHeartbeats 400000 in
theorem Xtf (x y:Bytes) (w:World):Calls Tryz.prog 141 #[S x,S y] w fun e w'=>e= .returned (.int .i64 (cmpS x y))∧w'=w:=by
 rcases Xc3 x y with ht|ht|ht
 ·have Hn:=Qh (show cmpS x y= -1 by rw [cmpS,ht];rfl)
  go_enter Tryz.func141,Tryz.ntmps141
  go_wp2_with fail
  refine (Xcf x _).mono ?_
  rintro e w1 ⟨rfl,rfl⟩
  go_wp2_with fail
  refine (Xcf y _).mono ?_
  rintro e w2 ⟨rfl,rfl⟩
  go_wp2
  go_ret
  exact ⟨Xaj Hn.out.symm,rfl⟩
 ·have f1:Op.bytesLess x y=false:=by rw [ht];exact Xa2 _
  have f2:Op.bytesLess y x=false:=by rw [ht];exact Xa2 _
  have f3:(x==y)=true:=by simp [ht]
  have f4:(!(x==y))=false:=by simp [ht]
  have Hn:=Qh (show cmpS x y=0 by rw [cmpS,f1,f2];rfl)
  clear ht
  go_enter Tryz.func141,Tryz.ntmps141
  go_wp2_with fail
  refine (Xcf x _).mono ?_
  rintro e w1 ⟨rfl,rfl⟩
  go_wp2_with fail
  refine (Xcf y _).mono ?_
  rintro e w2 ⟨rfl,rfl⟩
  go_wp2
  go_ret
  exact ⟨Xaj Hn.out.symm,rfl⟩
 ·have f1:=Xd0 ht
  have f3:(x==y)=false:=by simpa using (Xpo ht).symm
  have f4:(!(x==y))=true:=by rw [f3];rfl
  have Hn:=Qh (show cmpS x y=1 by rw [cmpS,f1,ht];rfl)
  go_enter Tryz.func141,Tryz.ntmps141
  go_wp2_with fail
  refine (Xcf x _).mono ?_
  rintro e w1 ⟨rfl,rfl⟩
  go_wp2_with fail
  refine (Xcf y _).mono ?_
  rintro e w2 ⟨rfl,rfl⟩
  go_wp2
  go_ret
  exact ⟨Xaj Hn.out.symm,rfl⟩
theorem Xna (x y:Bytes):(cmpS x y= -1∧Op.bytesLess x y=true)∨(cmpS x y=0∧x=y)∨(cmpS x y=1∧Op.bytesLess y x=true):=by
 rcases Xc3 x y with ht|ht|ht
 ·exact .inl ⟨by rw [cmpS,ht];rfl,ht⟩
 ·exact .inr (.inl ⟨by rw [cmpS,ht,Xa2];rfl,ht⟩)
 ·exact .inr (.inr ⟨by rw [cmpS,Xd0 ht,ht];rfl,ht⟩)
set_option maxRecDepth 100000 in
set_option maxHeartbeats 1000000 in
theorem Xfi (I:IH) (v1 v2:Value) (l m:List Bytes) (hv1:RdS tStr I v1 l) (hv2:RdS tStr I v2 m) (w:World) (hw:Ok I w):
 Calls Tryz.prog 139 #[v1,v2,.func (.func 141) #[] #[]] w fun e w'=>e= .returned (.int .i64 (cmpL l m))∧Below w.heap.size w w':=by
 have hlen:=hv1.len_le
 have hlen2:=hv2.len_le
 obtain ⟨ao,cap,rfl,hcap,hcm,_⟩:=id hv1
 obtain ⟨ao2,cap2,rfl,hcap2,hcm2,_⟩:=id hv2
 have Hl:=Qh hv1
 have Hm:=Qh hv2
 clear hv1 hv2
 have eg:∀args w,(callFunc 141 args).run Tryz.prog w= .ok (.enter 141 args) w:=fun _ _=>by kernel_rfl
 go_enter Tryz.func139,Tryz.ntmps139
 go_wp2_with fail
 go_loopw [13] (fun s13 wr=> ∃k:Nat,k≤l.length∧k≤m.length∧s13= .int .i64 k∧l.take k=m.take k∧Below w.heap.size w wr) (fun i _=>l.length-(intOf i).toNat)
 case atStart=>exact ⟨0,Nat.zero_le _,Nat.zero_le _,rfl,rfl,Qb _ _⟩
 case round=>
  obtain ⟨k,hk,hk2,rfl,hr,hb⟩:=hrel
  have Hr:=Qh hr
  have Hcd:=Qh (Xpj hr hk hk2)
  clear hr
  have hwr:Ok I wr:=hw.below (Qn _) hb
  by_cases hlt:k<l.length
  case neg=>
   have Hdl:=Qh (show l.drop k= [] from List.drop_of_length_le (by omega))
   by_cases hlt2:k<m.length
   ·have hd1:decide (l.length<m.length)=true:=Qt (by omega)
    have Hn:=Qh (show cmpL l m= -1 by rw [Hcd.out,Hdl.out,List.drop_eq_getElem_cons hlt2];rfl)
    go_wp2
    go_ret
    exact ⟨Xaj Hn.out.symm,hb⟩
   ·have hd1:decide (l.length<m.length)=false:=Qf (by omega)
    have Hn:=Qh (show cmpL l m=0 by rw [Hcd.out,Hdl.out,List.drop_of_length_le (by omega)];rfl)
    go_wp2
    go_ret
    exact ⟨Xaj Hn.out.symm,hb⟩
  obtain ⟨x,b,off,cap',hlx,hvv,hx0⟩:=Xnt Hl.out hwr k hlt
  cases hvv
  by_cases hlt2:k<m.length
  case neg=>
   have hd1:decide (m.length≤k)=true:=Qt (by omega)
   have Hn:=Qh (show cmpL l m=1 by rw [Hcd.out,List.drop_of_length_le (l:=m) (by omega),List.drop_eq_getElem_cons hlt];rfl)
   clear hlx
   go_wp2
   go_ret
   exact ⟨Xaj Hn.out.symm,hb⟩
  have hd1:decide (m.length≤k)=false:=Qf (by omega)
  obtain ⟨y,b',off',cap'',hly,hvv,hy0⟩:=Xnt Hm.out hwr k hlt2
  cases hvv
  have Hcd2:=Qh (show cmpL l m=cmpL (x::l.drop (k+1)) (y::m.drop (k+1)) by rw [Hcd.out,List.drop_eq_getElem_cons hlt,List.drop_eq_getElem_cons hlt2,hlx,hly])
  have Hlx:=Qh hlx
  have Hly:=Qh hly
  have Hc:=Qh (Xtf x y)
  have hcs:=Xna x y
  generalize cmpS x y=c at Hc hcs
  clear hlx hly
  rcases hcs with ⟨hc,ht⟩|⟨hc,ht⟩|⟨hc,ht⟩
  ·subst hc
   have Hn:=Qh (show cmpL l m= -1 by rw [Hcd2.out];exact Xjq ht _ _)
   clear ht
   go_wp2_with fail
   refine (Hc.out _).mono ?_
   rintro e w1 ⟨rfl,rfl⟩
   go_wp2
   go_ret
   exact ⟨Xaj Hn.out.symm,hb⟩
  ·subst hc
   have Hn:=Qh (show l.take (k+1)=m.take (k+1) by rw [List.take_succ_eq_append_getElem hlt,List.take_succ_eq_append_getElem hlt2,Hr.out,Hlx.out,Hly.out,ht])
   clear ht
   go_wp2_with fail
   refine (Hc.out _).mono ?_
   rintro e w1 ⟨rfl,rfl⟩
   go_wp2
   go_roundw
   case rel=>exact ⟨k+1,by omega,by omega,by go_num,Hn.out,hb⟩
   case measure=>simp [intOf];omega
  ·subst hc
   have Hn:=Qh (show cmpL l m=1 by rw [Hcd2.out];exact Xjr ht _ _)
   clear ht
   go_wp2_with fail
   refine (Hc.out _).mono ?_
   rintro e w1 ⟨rfl,rfl⟩
   go_wp2
   go_ret
   exact ⟨Xaj Hn.out.symm,hb⟩
set_option maxRecDepth 100000 in
set_option maxHeartbeats 400000 in
theorem Xgr (I:IH) (hI:Glob I) (p d:Bytes) (hp:p.length≤4294967280) (hd:d.length≤4294967280) (w:World) (hw:Ok I w):
 Calls Tryz.prog 87 #[S p,S d] w fun e w'=>e= .returned (.int .i64 (cmpP p d))∧Below w.heap.size w w':=by
 have Hu:=Qh (Xtv p d)
 have Hep:=Qh (Xcl I hI p hp w hw)
 have Hed:=Qh (fun I hI w hw=>Xcl I hI d hd w hw)
 generalize els p=l at Hu Hep
 generalize els d=m at Hu Hed
 go_enter Tryz.func87,Tryz.ntmps87
 go_wp2_with fail
 refine Hep.out.mono ?_
 rintro e w1 ⟨v1,I1,rfl,hb1,hx1,hok1,hr1⟩
 have hI1:=hI.mono (hx1.keep hw (Qn _))
 have Hr1:=Qh hr1
 clear hr1
 obtain ⟨ao0,cap0,rfl,_,_,_⟩:=id Hr1.out
 go_wp2_with fail
 refine (Hed.out I1 hI1 _ hok1).mono ?_
 rintro e w2 ⟨v2,I2,rfl,hb2,hx2,hok2,hr2⟩
 have hr1:=Hr1.out.mono (hx2.keep hok1 (Qn _))
 have hb2':=hb1.trans (hb2.mono hb1.size)
 have Hc:=Qh (Xfi I2 _ _ l m hr1 hr2 w2 hok2)
 obtain ⟨ao2,cap2,rfl,_,_,_⟩:=id hr2
 clear hr1 hr2 Hr1 hx1 hx2
 go_wp2_with fail
 refine Hc.out.mono ?_
 rintro e w3 ⟨rfl,hb3⟩
 go_wp2
 go_ret
 exact ⟨Xaj Hu.out.symm,hb2'.trans (hb3.mono hb2'.size)⟩
end Go.Proofs.YtmdfjnhfhidmhaaGreatDoor
namespace Go.Proofs.YtmdfjnhfhidmhaaGreatDoor
def digN (acc:Nat) (l:Bytes):Nat:=l.foldl (fun n c=>10*n+(c.toNat-48)) acc
theorem Xjj (acc:Nat) (l:Bytes) (c:UInt8):digN acc (l++ [c])=10*digN acc l+(c.toNat-48):=by simp [digN,List.foldl_append]
theorem Xea {c:UInt8} (h:digC c=true):48≤c.toNat∧c.toNat≤57:=by
 rw [Xlv,Bool.and_eq_true,decide_eq_true_iff,decide_eq_true_iff] at h
 exact h
theorem Xfz:∀(l:Bytes),l.all digC=true→ ∀(a:Nat),l.foldl (fun (n:Int) c=>10*n+((c.toNat:Int)-48)) (a:Int)=(digN a l:Nat)
 | [],_,_=>rfl
 |c::l,h,a=>by
  rw [List.all_cons,Bool.and_eq_true] at h
  have hc:=Xea h.1
  have:=Xfz l h.2 (10*a+(c.toNat-48))
  rw [List.foldl_cons,show (10*(a:Int)+((c.toNat:Int)-48))=((10*a+(c.toNat-48):Nat):Int) by omega,this]
  rfl
theorem Xd9 {l:Bytes} (h:l.all digC=true):digits l=(digN 0 l:Nat):=Xfz l h 0
theorem Xlc:∀(l:Bytes) (acc:Nat),l.all digC=true→(acc+1)*10 ^ l.length≤100000000000→Lib.parseUint10 acc l= .ok (digN acc l)
 | [],_,_,_=>rfl
 |c::l,acc,h,hb=>by
  rw [List.all_cons,Bool.and_eq_true] at h
  have hc:=Xea h.1
  rw [List.length_cons,Nat.pow_succ] at hb
  have h10:1≤10 ^ l.length:=Nat.pos_of_ne_zero (by simp)
  have hacc:(acc+1)*10≤100000000000:=by
   have:(acc+1)*10*1≤(acc+1)*10*10 ^ l.length:=Nat.mul_le_mul_left _ h10
   rw [Nat.mul_comm (10 ^ l.length) 10,←Nat.mul_assoc] at hb
   omega
  have hn:(acc*10+(c.toNat-48)+1)*10 ^ l.length≤100000000000:=by
   refine Nat.le_trans (Nat.mul_le_mul_right _ (show acc*10+(c.toNat-48)+1≤(acc+1)*10 by omega)) ?_
   rw [Nat.mul_assoc,Nat.mul_comm 10 (10 ^ l.length)]
   exact hb
  rw [Lib.parseUint10,if_pos hc,if_neg (by omega),if_neg (by omega),Xlc l _ h.2 hn]
  show Lib.NumEnd.ok (digN _ l)=Lib.NumEnd.ok (digN (10*acc+(c.toNat-48)) l)
  rw [Nat.mul_comm acc 10]
theorem Xlu {c:UInt8} {l:Bytes} (h:(c::l).all digC=true) (hc:c≠48):10 ^ l.length≤digN 0 (c::l):=by
 have key:∀(n:Nat) (l:Bytes),l.length=n→ ∀a,a*10 ^ n≤digN a l:=by
  intro n
  induction n with
  |zero=>intro l h a;rw [List.eq_nil_of_length_eq_zero h];simp [digN]
  |succ n ih=>
   intro l h a
   cases l with
   |nil=>simp at h
   |cons c l=>
    have:=ih l (by simpa using h) (10*a+(c.toNat-48))
    refine Nat.le_trans ?_ this
    rw [Nat.pow_succ,Nat.mul_comm (10 ^ n) 10,←Nat.mul_assoc]
    exact Nat.mul_le_mul_right _ (by omega)
 rw [List.all_cons,Bool.and_eq_true] at h
 have hb:=Xea h.1
 have hne:c.toNat≠48:=fun e=>hc (by
  have:c=UInt8.ofNat c.toNat:=by simp
  rw [this,e];rfl)
 have:=key l.length l rfl (10*0+(c.toNat-48))
 refine Nat.le_trans ?_ this
 have h1:1≤10*0+(c.toNat-48):=by omega
 simpa using Nat.mul_le_mul_right (10 ^ l.length) h1
def NoZ (s:Bytes):Prop:=s.length=1∨s.head? ≠some 48
theorem Xrg:∀(n:Nat) (s:Bytes),s.length=n→s≠ []→s.all digC=true→NoZ s→Lib.decDigits (digN 0 s)=s:=by
 intro n
 induction n with
 |zero=>intro s h h0;exact absurd (List.eq_nil_of_length_eq_zero h) h0
 |succ n ih=>
  intro s h h0 ha hz
  have e:s=s.dropLast++ [s.getLast h0]:=(List.dropLast_concat_getLast h0).symm
  have hl:s.dropLast.length=n:=by rw [List.length_dropLast,h];omega
  have ha2:=ha
  rw [e,List.all_append,Bool.and_eq_true] at ha2
  have hc:digC (s.getLast h0)=true:=by simpa using ha2.2
  have hb:=Xea hc
  have hoc:UInt8.ofNat (48+((s.getLast h0).toNat-48))=s.getLast h0:=by
   rw [show 48+((s.getLast h0).toNat-48)=(s.getLast h0).toNat by omega];simp
  by_cases hn:n=0
  ·have ht:s.dropLast= []:=List.eq_nil_of_length_eq_zero (by omega)
   rw [e,ht,List.nil_append]
   have:digN 0 [s.getLast h0]=(s.getLast h0).toNat-48:=by simp [digN]
   rw [this,Lib.decDigits,dif_pos (by omega),hoc]
  ·have ht0:s.dropLast≠ []:=by intro e2;rw [e2] at hl;simp at hl;omega
   have hh:s.head? ≠some 48:=by
    rcases hz with hz|hz
    ·omega
    ·exact hz
   have hhd:s.dropLast.head? =s.head? :=by
    cases hd:s.dropLast with
    |nil=>exact absurd hd ht0
    |cons a t=>rw [e,hd];rfl
   have i1:=ih s.dropLast hl ht0 ha2.1 (.inr (by rw [hhd];exact hh))
   have hge:1≤digN 0 s.dropLast:=by
    cases hd:s.dropLast with
    |nil=>exact absurd hd ht0
    |cons a t=>
     have ha3:(a::t).all digC=true:=by rw [←hd];exact ha2.1
     have:10 ^ t.length≤digN 0 (a::t):=Xlu ha3 (fun e3=>hh (by rw [←hhd,hd,e3];rfl))
     have h10:1≤10 ^ t.length:=Nat.pos_of_ne_zero (by simp)
     omega
   have hs:digN 0 s=10*digN 0 s.dropLast+((s.getLast h0).toNat-48):=by
    conv=>lhs;rw [e]
    exact Xjj _ _ _
   rw [hs,Lib.decDigits,dif_neg (by omega),show (10*digN 0 s.dropLast+((s.getLast h0).toNat-48)) / 10=digN 0 s.dropLast by omega,show (10*digN 0 s.dropLast+((s.getLast h0).toNat-48))%10=(s.getLast h0).toNat-48 by omega,i1,hoc]
   exact e.symm
theorem Xpe {n:Nat} (h:n<10):digC (UInt8.ofNat (48+n))=true:=by
 rw [Xlv]
 simp
 omega
theorem Xjk:∀(u:Nat),(Lib.decDigits u).all digC=true∧Lib.decDigits u≠ []∧digN 0 (Lib.decDigits u)=u∧(10≤u→(Lib.decDigits u).head? ≠some 48)∧(1≤u→(Lib.decDigits u).head? ≠some 48):=by
 intro u
 induction u using Nat.strongRecOn with
 |_ u ih=>
  by_cases h:u<10
  ·have e:Lib.decDigits u= [UInt8.ofNat (48+u)]:=by rw [Lib.decDigits,dif_pos h]
   have hd:=Xpe h
   have ht:(UInt8.ofNat (48+u)).toNat=48+u:=by simp;omega
   rw [e]
   refine ⟨by rw [List.all_cons,hd];rfl,by simp,by simp only [digN,List.foldl_cons,List.foldl_nil,ht];omega,fun h2=>by omega,fun h2 he=> ?_⟩
   simp only [List.head?_cons,Option.some.injEq] at he
   have:=congrArg UInt8.toNat he
   rw [ht] at this
   have h48:(48:UInt8).toNat=48:=rfl
   omega
  ·have e:Lib.decDigits u=Lib.decDigits (u / 10)++ [UInt8.ofNat (48+u%10)]:=by rw [Lib.decDigits,dif_neg h]
   obtain ⟨i1,i2,i3,i4,i5⟩:=ih (u / 10) (by omega)
   have hd:=Xpe (n:=u%10) (by omega)
   have ht:(UInt8.ofNat (48+u%10)).toNat=48+u%10:=by simp;omega
   have hhd:(Lib.decDigits u).head? ≠some 48:=by
    rw [e]
    cases hc:Lib.decDigits (u / 10) with
    |nil=>exact absurd hc i2
    |cons a t=>
     have:=i5 (by omega)
     rw [hc] at this
     exact this
   refine ⟨?_,?_,?_,fun _=>hhd,fun _=>hhd⟩
   ·rw [e,List.all_append,i1,List.all_cons,hd];rfl
   ·rw [e];simp
   ·rw [e,Xjj,i3,ht];omega
theorem Xlx (s:Bytes):dateOk s=true↔ ∃n:Int,Lib.atoiAll s= .ok n∧0≤n∧n≤1000000000∧Lib.itoa n=s:=by
 have hd:(fun c:UInt8=>decide (48≤c)&&decide (c≤57))=digC:=rfl
 constructor
 ·intro h
  unfold dateOk at h
  rw [hd] at h
  simp only [Bool.and_eq_true,decide_eq_true_eq] at h
  obtain ⟨⟨⟨⟨h1,h2⟩,h3⟩,h4⟩,h5⟩:=h
  have h0:s≠ []:=by intro e;rw [e] at h1;simp at h1
  have hz:NoZ s:=by
   by_cases hl:s.length=1
   ·exact .inl hl
   ·right
    intro e
    rw [e,Qt (show 1<s.length by omega)] at h3
    simp at h3
  rw [Xd9 h4] at h5
  refine ⟨(digN 0 s:Nat),?_,by omega,h5,?_⟩
  ·cases hs:s with
   |nil=>exact absurd hs h0
   |cons c r=>
    have ha:(c::r).all digC=true:=by rw [←hs];exact h4
    have hc:digC c=true:=by rw [List.all_cons,Bool.and_eq_true] at ha;exact ha.1
    have hb:=Xea hc
    have hlen:(c::r).length≤10:=by rw [←hs];exact h2
    have hp:=Xlc (c::r) 0 ha (by
     have:10 ^ (c::r).length≤10 ^ 10:=Nat.pow_le_pow_right (by decide) hlen
     omega)
    rw [Lib.atoiAll]
    rw [if_neg (by omega),Lib.parseMag,if_neg (by simp),hp]
    rw [hs] at h5
    simp only
    rw [if_neg (by omega),if_neg (by omega),if_neg (by omega)]
  ·rw [Lib.itoa,if_neg (by omega),Int.toNat_natCast]
   exact Xrg _ s rfl h0 h4 hz
 ·rintro ⟨n,_,h0,h1,h2⟩
  obtain ⟨u,rfl⟩:=Int.eq_ofNat_of_zero_le h0
  rw [Lib.itoa,if_neg (by omega),Int.toNat_natCast] at h2
  obtain ⟨f1,f2,f3,f4,f5⟩:=Xjk u
  rw [h2] at f1 f2 f3 f4 f5
  have hdg:digits s=u:=by rw [Xd9 f1,f3]
  unfold dateOk
  rw [hd,f1,hdg,Qt h1]
  have hl1:1≤s.length:=List.length_pos_iff.2 f2
  have hz:(decide (1<s.length)&&s.head? ==some 48)=false:=by
   cases hb:(decide (1<s.length)&&s.head? ==some 48) with
   |false=>rfl
   |true=>
    rw [Bool.and_eq_true,decide_eq_true_iff,beq_iff_eq] at hb
    by_cases hu:1≤u
    ·exact absurd hb.2 (f5 hu)
    ·have:u=0:=by omega
     subst this
     have:s= [48]:=by rw [←h2,Lib.decDigits,dif_pos (by decide)];rfl
     rw [this] at hb
     simp at hb
  have hl10:s.length≤10:=by
   cases hs:s with
   |nil=>simp
   |cons c r=>
    by_cases hu:1≤u
    ·have hc:c≠48:=fun e=>f5 hu (by rw [hs,e];rfl)
     have:=Xlu (c:=c) (l:=r) (by rw [←hs];exact f1) hc
     rw [←hs,f3] at this
     have hlt:¬10≤r.length:=by
      intro h10
      have:10 ^ 10≤10 ^ r.length:=Nat.pow_le_pow_right (by decide) h10
      omega
     simp only [List.length_cons];omega
    ·have:u=0:=by omega
     subst this
     have:s= [48]:=by rw [←h2,Lib.decDigits,dif_pos (by decide)];rfl
     rw [hs] at this
     rw [this];simp
  rw [hz,Qt hl1,Qt hl10]
  rfl
end Go.Proofs.YtmdfjnhfhidmhaaGreatDoor
namespace Go.Proofs.YtmdfjnhfhidmhaaGreatDoor
open Go.RowKit
theorem Xt5 {W w1:World} {n:Nat} {x:At} {T:TypeId} (hn:n=W.heap.size) (hb:Below (W.alloc (.cells #[S x.k,S x.v] T)).heap.size (W.alloc (.cells #[S x.k,S x.v] T)) w1):
 w1.cell? ⟨n,0,none⟩=some (S x.k)∧w1.cell? ⟨n,1,none⟩=some (S x.v):=by
 subst hn
 refine ⟨?_,?_⟩<;>(rw [hb.cell (by simp)];simp)
end Go.Proofs.YtmdfjnhfhidmhaaGreatDoor
namespace Go.Proofs
open Go.Shelf
def Tryz.lays160_ren:Go.Shelf.Ren:=⟨fun|160=>144|232=>186|231=>185|227=>187|234=>189|233=>188|236=>191|235=>190|228=>225|271=>228|151=>227|197=>226|120=>258|152=>257|260=>256|137=>267|119=>268|224=>269|225=>270|217=>277|266=>284|n=>n,fun|9=>9|4=>4|3=>3|5=>5|117=>221|116=>220|0=>0|124=>224|21=>21|105=>256|46=>186|119=>290|139=>293|138=>292|n=>n,fun|3=>3|4=>4|n=>n⟩
theorem Tryz.lays160:Go.Proofs.Lays.n160 Tryz.prog Tryz.lays160_ren:= {
 mixed:=by kernel_rfl
 f119:=Tryz.func268.trans (congrArg some (by kernel_rfl))
 f120:=Tryz.func258.trans (congrArg some (by kernel_rfl))
 f137:=Tryz.func267.trans (congrArg some (by kernel_rfl))
 f151:=Tryz.func227.trans (congrArg some (by kernel_rfl))
 f152:=Tryz.func257.trans (congrArg some (by kernel_rfl))
 f160:=Tryz.func144.trans (congrArg some (by kernel_rfl))
 f197:=Tryz.func226.trans (congrArg some (by kernel_rfl))
 f217:=Tryz.func277.trans (congrArg some (by kernel_rfl))
 f224:=Tryz.func269.trans (congrArg some (by kernel_rfl))
 f225:=Tryz.func270.trans (congrArg some (by kernel_rfl))
 f227:=Tryz.func187.trans (congrArg some (by kernel_rfl))
 f228:=Tryz.func225.trans (congrArg some (by kernel_rfl))
 f231:=Tryz.func185.trans (congrArg some (by kernel_rfl))
 f232:=Tryz.func186.trans (congrArg some (by kernel_rfl))
 f233:=Tryz.func188.trans (congrArg some (by kernel_rfl))
 f234:=Tryz.func189.trans (congrArg some (by kernel_rfl))
 f235:=Tryz.func190.trans (congrArg some (by kernel_rfl))
 f236:=Tryz.func191.trans (congrArg some (by kernel_rfl))
 f260:=Tryz.func256.trans (congrArg some (by kernel_rfl))
 f266:=Tryz.func284.trans (congrArg some (by kernel_rfl))
 f271:=Tryz.func228.trans (congrArg some (by kernel_rfl))
 t0:=Tryz.underlying0
 a0:=Tryz.isAgg0
 z0:=Tryz.sizeOf0
 v0:=Tryz.zeroValue0
 t3:=Tryz.underlying3
 a3:=Tryz.isAgg3
 z3:=Tryz.sizeOf3
 v3:=Tryz.zeroValue3
 t4:=Tryz.underlying4
 a4:=Tryz.isAgg4
 z4:=Tryz.sizeOf4
 v4:=Tryz.zeroValue4
 t5:=Tryz.underlying5
 a5:=Tryz.isAgg5
 z5:=Tryz.sizeOf5
 v5:=Tryz.zeroValue5
 t9:=Tryz.underlying9
 a9:=Tryz.isAgg9
 z9:=Tryz.sizeOf9
 v9:=Tryz.zeroValue9
 t21:=Tryz.underlying21
 a21:=Tryz.isAgg21
 z21:=Tryz.sizeOf21
 v21:=Tryz.zeroValue21
 t46:=Tryz.underlying186
 a46:=Tryz.isAgg186
 z46:=Tryz.sizeOf186
 v46:=Tryz.zeroValue186
 t105:=Tryz.underlying256
 a105:=Tryz.isAgg256
 z105:=Tryz.sizeOf256
 v105:=Tryz.zeroValue256
 t116:=Tryz.underlying220
 a116:=Tryz.isAgg220
 z116:=Tryz.sizeOf220
 t117:=Tryz.underlying221
 a117:=Tryz.isAgg221
 z117:=Tryz.sizeOf221
 v117:=Tryz.zeroValue221
 t119:=Tryz.underlying290
 a119:=Tryz.isAgg290
 z119:=Tryz.sizeOf290
 t124:=Tryz.underlying224
 a124:=Tryz.isAgg224
 z124:=Tryz.sizeOf224
 v124:=Tryz.zeroValue224
 t138:=Tryz.underlying292
 a138:=Tryz.isAgg292
 z138:=Tryz.sizeOf292
 v138:=Tryz.zeroValue292
 t139:=Tryz.underlying293
 a139:=Tryz.isAgg293
 z139:=Tryz.sizeOf293
 v139:=Tryz.zeroValue293
 g3:=by kernel_rfl
 g4:=by kernel_rfl }
open Go.RowKit in
theorem Tryz.strings_Trim (s cutset:ByteArray) (w:World) (hs:s.size≤9223372036854775807) (hcs:cutset.size<4294967281) (hascii:∀(j:Nat) b,cutset.data.toList[j]? =some b→b.toNat<128):
 Calls Tryz.prog 144 #[.string s,.string cutset] w fun e w'=>e= .returned (.string ⟨(Lib.trimS s.data.toList cutset.data.toList).toArray⟩)∧RowKit.Below w.heap.size w w':=Any.strings_Trim_laid Tryz.lays160 (by kernel_rfl) s cutset w hs hcs hascii
end Go.Proofs
