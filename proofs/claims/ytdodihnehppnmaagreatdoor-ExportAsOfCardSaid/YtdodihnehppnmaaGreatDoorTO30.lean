/-
  Walks and laws that the claim's theorem uses: texts HsA StB HsB HsC StC RhR, joined; comments out. Conditions: as each theorem says.
-/
import Derived.Test.YtdodihnehppnmaaGreatDoorTO23
set_option linter.all false
namespace Go.Proofs.YtdodihnehppnmaaGreatDoor
open Go.RowKit
theorem Xmh {d:Int}:∀ {l:List Ses},l.any (fun x=>decide (d<x.date))=false→asOf d l=l.length
 | [],_=>rfl
 |x::l,h=>by
  rw [List.any_cons,Bool.or_eq_false_iff] at h
  rw [asOf,if_neg (of_decide_eq_false h.1),Xmh h.2];rfl
theorem Xmg {d:Int}:∀ {l:List Ses} {i:Nat} (hi:i<l.length),decide (d<l[i].date)=true→(l.take i).any (fun x=>decide (d<x.date))=false→asOf d l=i
 | [],_,hi,_,_=>absurd hi (by simp)
 |x::l,0,_,hp,_=>by
  have hp':d<x.date:=of_decide_eq_true hp
  rw [asOf,if_pos hp']
 |x::l,i+1,hi,hp,hn=>by
  rw [List.take_succ_cons,List.any_cons,Bool.or_eq_false_iff] at hn
  rw [asOf,if_neg (of_decide_eq_false hn.1),Xmg (l:=l) (by simpa using hi) hp hn.2]
abbrev sttV (vt vh:Value):Value:= .agg #[vt,vh]
set_option maxRecDepth 100000 in
set_option maxHeartbeats 400000 in
theorem Xrw (I:IH) (vt vh:Value) (t:List Ent) (hs:List Ho) (hvt:RdS tEnt I vt t) (hvh:RdS tHo I vh hs) (p:Bytes) (w:World) (hw:Ok I w):
 Calls Tryz.prog 175 #[sttV vt vh,S p] w fun r w'=>r= .returned (.bool (getE t p).2)∧Below w.heap.size w w':=by
 have Hg:=Qh (fun w hw=>Xvo I vt t hvt p w hw)
 obtain ⟨at',ct,rfl,_,_,_⟩:=id hvt
 obtain ⟨ah,ch,rfl,_,_,_⟩:=id hvh
 obtain ⟨⟨x,b⟩,hx⟩:∃q,getE t p=q:=⟨_,rfl⟩
 rw [hx] at Hg ⊢
 clear hvt hvh hx
 go_enter Tryz.func175,Tryz.ntmps175
 go_wp2_with fail
 refine (Hg.out _ (hw.alloc _)).mono ?_
 rintro e1 w1 ⟨va,vx,rfl,h1,h2,hb1⟩
 obtain ⟨oa,oc,rfl,_,_,_⟩:=id h1
 obtain ⟨ox,od,rfl,_,_,_⟩:=id h2
 have hb1':=((Qb w.heap.size w).alloc (Qn _) (.cells #[.slice at' t.length ct,.slice ah hs.length ch] 103)).trans (hb1.mono (by simp))
 clear h1 h2 hb1
 go_wp2
 go_ret
 exact ⟨rfl,hb1'.alloc hb1'.size _⟩
set_option maxRecDepth 100000 in
set_option maxHeartbeats 400000 in
theorem Xda (I:IH) (e:Ent) (va vx:Value) (hva:RdS tAt I va e.attrs) (hvx:RdS tXt I vx e.exts) (w:World):
 Calls Tryz.prog 174 #[entV e va vx] w fun r w'=>r= .returned (.bool (e.kind==1 || e.kind==2 || e.kind==3))∧Below w.heap.size w w':=by
 obtain ⟨aa,ca,rfl,_,_,_⟩:=id hva
 obtain ⟨ax,cx,rfl,_,_,_⟩:=id hvx
 clear hva hvx
 obtain ⟨b1,h1⟩:∃b,(e.kind==1)=b:=⟨_,rfl⟩
 obtain ⟨b2,h2⟩:∃b,(e.kind==2)=b:=⟨_,rfl⟩
 obtain ⟨b3,h3⟩:∃b,(e.kind==3)=b:=⟨_,rfl⟩
 have Hn:=Qh (show (e.kind==1 || e.kind==2 || e.kind==3)=(b1 || b2 || b3) by rw [h1,h2,h3])
 cases b1
 ·cases b2
  ·cases b3
   ·go_enter Tryz.func174,Tryz.ntmps174
    go_wp2
    go_ret
    exact ⟨Xan Hn.out.symm,(Qb w.heap.size w).alloc (Qn _) _⟩
   ·go_enter Tryz.func174,Tryz.ntmps174
    go_wp2
    go_ret
    exact ⟨Xan Hn.out.symm,(Qb w.heap.size w).alloc (Qn _) _⟩
  ·go_enter Tryz.func174,Tryz.ntmps174
   go_wp2
   go_ret
   exact ⟨Xan Hn.out.symm,(Qb w.heap.size w).alloc (Qn _) _⟩
 ·go_enter Tryz.func174,Tryz.ntmps174
  go_wp2
  go_ret
  exact ⟨Xan Hn.out.symm,(Qb w.heap.size w).alloc (Qn _) _⟩
def PredSes (I:IH) (g:Nat) (cb:Array Value) (l:List Ses) (p:Ses→Bool) (C:World→Prop):Prop:=
 ∀x∈l,∀(ve:Value) (W:World),RdS tEnt I ve x.ents→C W→Calls Tryz.prog g (#[sesV x ve]++cb) W fun e w'=>e= .returned (.bool (p x))∧Below W.heap.size W w'
set_option maxRecDepth 100000 in
set_option maxHeartbeats 1000000 in
theorem Xgt (I:IH) (v:Value) (l:List Ses) (hv:RdS tSes I v l) (g:Nat) (cb:Array Value) (p:Ses→Bool) (w:World) (hw:Ok I w) (eg:∀args w,(callFunc g args).run Tryz.prog w= .ok (.enter g args) w) (hp:PredSes I g cb l p (Below w.heap.size w)):
 Calls Tryz.prog 59 #[v,.func (.func g) #[] cb] w fun e w'=>e= .returned (.int .i64 (idxL l p))∧Below w.heap.size w w':=by
 have hlen:=hv.len_le
 obtain ⟨ao,cap,rfl,hcap,hcm,_⟩:=id hv
 have Hv:=Qh hv;clear hv
 have Hp:=Qh hp;clear hp
 go_enter Tryz.func59,Tryz.ntmps59
 go_wp2_with fail
 go_loopw [8] (fun s8 wr=> ∃k:Nat,k≤l.length∧s8= .int .i64 k∧(l.take k).any p=false∧Below w.heap.size w wr) (fun i _=>l.length-(intOf i).toNat)
 case atStart=>exact ⟨0,Nat.zero_le _,rfl,rfl,Qb _ _⟩
 case round=>
  obtain ⟨k,hk,rfl,hr,hb⟩:=hrel
  have Hr:=Qh hr;clear hr
  by_cases hlt:k<l.length
  ·have hwr:Ok I wr:=hw.below (Qn _) hb
   obtain ⟨x,ve,b,off,cap',hlx,hvv,⟨c0,c1,c2,c3,c4,c5⟩,h1⟩:=Xgs Hv.out hwr k hlt
   cases hvv
   have Hlx:=Qh hlx
   have Hcall:=Qh (Hp.out x (by rw [←hlx];exact List.getElem_mem hlt) ve wr h1 hb)
   obtain ⟨oe,ce,rfl,_,_,_⟩:=id h1
   clear hlx h1
   go_wp2_with fail
   refine Hcall.out.mono ?_
   rintro e w1 ⟨rfl,hb1⟩
   have hb1':=hb.trans (hb1.mono hb.size)
   clear hb1 Hcall c0 c1 c2 c3 c4 c5
   cases hpx:p x
   ·have Hn:=Qh (show (l.take (k+1)).any p=false by rw [List.take_succ_eq_append_getElem hlt,List.any_append,Hr.out,Hlx.out];simp [hpx])
    clear hpx
    go_wp2
    go_roundw
    case rel=>exact ⟨k+1,by omega,by go_num,Hn.out,hb1'⟩
    case measure=>simp [intOf];omega
   ·have Hn:=Qh (Xfh (p:=p) hlt (by rw [Hlx.out];exact hpx) Hr.out)
    clear hpx
    go_wp2
    go_ret
    exact ⟨Xac Hn.out.symm,hb1'⟩
  ·have Hn:=Qh (show idxL l p= -1 from Xfi (by have:=Hr.out;rwa [List.take_of_length_le (by omega)] at this))
   go_wp2
   go_ret
   exact ⟨Xac Hn.out.symm,hb⟩
set_option maxRecDepth 100000 in
theorem Xun (I:IH) (d:Int) (b:Nat) (l:List Ses) (w:World) (hc:w.cell? ⟨b,0,none⟩=some (.int .i64 d)):PredSes I 60 #[.pointer (some ⟨b,0,none⟩)] l (fun x=>decide (d<x.date)) (Below w.heap.size w):=by
 intro x _ ve W h1 hW
 obtain ⟨oe,ce,rfl,_,_,_⟩:=id h1
 have hcW:=Xab (.cells #[.int .i64 x.num,.int .i64 x.date,S x.prev,.slice oe x.ents.length ce,S x.stream,S x.sl] 35) (Xaa hW hc)
 clear hc h1
 show Calls Tryz.prog _ #[sesV x (.slice oe x.ents.length ce),.pointer (some ⟨b,0,none⟩)] W _
 go_enter Tryz.func60,Tryz.ntmps60
 go_wp2
 go_ret
 exact ⟨rfl,(Qb _ _).alloc (Qn _) _⟩
set_option maxRecDepth 100000 in
set_option maxHeartbeats 400000 in
theorem Xrx (I:IH) (v:Value) (l:List Ses) (hv:RdS tSes I v l) (d:Int) (w:World) (hw:Ok I w):
 Calls Tryz.prog 22 #[v,.int .i64 d] w fun r w'=>r= .returned (.int .i64 (asOf d l))∧Below w.heap.size w w':=by
 have Hi:=Qh (Xgt I v l hv _ _ _ _ (hw.alloc (.cells #[.int .i64 d] 3)) (fun _ _=>by kernel_rfl) (Xun I d w.heap.size l (w.alloc (.cells #[.int .i64 d] 3)) (by simp)))
 have hlen:=hv.len_le
 obtain ⟨ao,cap,rfl,hcap,hcm,_⟩:=id hv
 clear hv
 rcases Xbz l (fun x=>decide (d<x.date)) with ⟨i,hi,e1,e2,e3⟩|⟨e1,e2⟩
 ·have Hn:=Qh (show ((asOf d l:Nat):Int)=(i:Int) by rw [Xmg hi e2 e3])
  rw [e1] at Hi
  clear e1 e2 e3
  go_enter Tryz.func22,Tryz.ntmps22
  go_wp2_with fail
  refine Hi.out.mono ?_
  rintro e w1 ⟨rfl,hb1⟩
  go_wp2
  go_ret
  exact ⟨Xac Hn.out.symm,((Qb _ _).alloc (Qn _) _).trans (hb1.mono (by simp))⟩
 ·have Hn:=Qh (show ((asOf d l:Nat):Int)=(l.length:Int) by rw [Xmh e2])
  rw [e1] at Hi
  clear e1 e2
  go_enter Tryz.func22,Tryz.ntmps22
  go_wp2_with fail
  refine Hi.out.mono ?_
  rintro e w1 ⟨rfl,hb1⟩
  go_wp2
  go_ret
  exact ⟨Xac Hn.out.symm,((Qb _ _).alloc (Qn _) _).trans (hb1.mono (by simp))⟩
abbrev xtV (x:Xt):Value:= .agg #[.int .i64 x.s,.int .i64 x.o,.int .i64 x.n]
def PredXt (g:Nat) (cb:Array Value) (l:List Xt) (p:Xt→Bool) (C:World→Prop):Prop:=
 ∀x∈l,∀W:World,C W→Calls Tryz.prog g (#[xtV x]++cb) W fun e w'=>e= .returned (.bool (p x))∧Below W.heap.size W w'
def XtB (x:Xt):Prop:=0≤x.s∧x.s≤255∧0≤x.o∧x.o≤2147483647∧1≤x.n∧x.n≤65536
theorem Xki {l:List Ses} {x:Xt} (h:x.s=0):xtIn l x=true:=by simp [xtIn,h]
theorem Xtg {l:List Ses} {x:Xt} (h0:x.s≠0) (h:(l.length:Int)<x.s):xtIn l x=false:=by
 unfold xtIn
 rw [Qf (show ¬x.s≤(l.length:Int) by omega)]
 simpa using h0
theorem Xvq {l:List Ses} {x:Xt} {k:Nat} (hk:k<l.length) {y:Ses} (hy:l[k]=y) (h:x.s=(k:Int)+1):xtIn l x=decide (x.o+x.n≤(y.stream.length:Int)):=by
 unfold xtIn
 rw [Qt (show x.s≤(l.length:Int) by omega),show (x.s-1).toNat=k by omega,List.getElem?_eq_getElem hk,hy,show (x.s==0)=false by simp;omega]
 rfl
structure StM (T:TypeId) (n:Nat) (I:IH) (W:World) (s:Stt) (vt vh:Value):Prop where
 row:W.heap[n]? =some (.cells #[vt,vh] T (0,0))
 tree:RdS tEnt I vt s.tree
 holds:RdS tHo I vh s.holds
 ok:Ok I W
 free:I n=none
section
variable {T:TypeId} {n:Nat} {I I':IH} {W W':World} {s s':Stt} {vt vh vt' vh':Value}
theorem StM.c0 (h:StM T n I W s vt vh):W.cell? ⟨n,0,none⟩=some vt:=(cell_of_row W _ 0 _ _ _ h.row).trans rfl
theorem StM.c1 (h:StM T n I W s vt vh):W.cell? ⟨n,1,none⟩=some vh:=(cell_of_row W _ 1 _ _ _ h.row).trans rfl
theorem StM.f0 (h:StM T n I W s vt vh):W.frozen? ⟨n,0,none⟩=false:=frozen_of_row W _ 0 _ _ h.row
theorem StM.f1 (h:StM T n I W s vt vh):W.frozen? ⟨n,1,none⟩=false:=frozen_of_row W _ 1 _ _ h.row
theorem StM.lt (h:StM T n I W s vt vh):n<W.heap.size:=(Array.getElem?_eq_some_iff.1 h.row).1
theorem StM.below (h:StM T n I W s vt vh) (hb:Below W.heap.size W W'):StM T n I W' s vt vh:=
 ⟨(hb.block _ h.lt).trans h.row,h.tree,h.holds,h.ok.below (Qn _) hb,h.free⟩
theorem StM.past (h:StM T n I W s vt vh) (o:Obj):StM T n I (W.alloc o) s vt vh:=h.below ((Qb _ _).alloc (Qn _) o)
theorem StM.ext (h:StM T n I W s vt vh) (hb:Below W.heap.size W W') (hx:Ext W.heap.size I I') (hok:Ok I' W'):StM T n I' W' s vt vh:=
 ⟨(hb.block _ h.lt).trans h.row,h.tree.mono (hx.keep h.ok (Qn _)),h.holds.mono (hx.keep h.ok (Qn _)),hok,(hx _ h.lt).trans h.free⟩
theorem StM.set (h:StM T n I W s vt vh) (h1:RdS tEnt I vt' s'.tree) (h2:RdS tHo I vh' s'.holds):StM T n I ((W.setCell ⟨n,0,none⟩ vt').setCell ⟨n,1,none⟩ vh') s' vt' vh':=
 ⟨heap_setCell_same _ n 1 _ _ vh' (heap_setCell_same W n 0 _ _ vt' h.row),h1,h2,(h.ok.setCell h.free _).setCell h.free _,h.free⟩
theorem StM.new (hw:Ok I W) (_:T=T):StM T W.heap.size I (W.alloc (.cells #[.slice none 0 0,.slice none 0 0] T)) nilS (.slice none 0 0) (.slice none 0 0):=
 ⟨heap_alloc_new W _,RdS.nil _ _,RdS.nil _ _,hw.alloc _,hw.fresh (Qn _)⟩
end
theorem Xxt {l0 l:List Ses} {k:Nat} {s:Stt} {prev:Bytes} {date:Int} (hk:k<l.length) {x:Ses} (hx:l[k]=x):chkFromH l0 k s prev date (l.drop k)=
 if (dirDig x).2≠0 then (dirDig x).2 else if x.num≠k+1∨x.date<date then 14 else if x.prev≠prev then 20
 else if (entsH (l0.take (k+1)) x.date s x.ents).2≠0 then (entsH (l0.take (k+1)) x.date s x.ents).2 else chkFromH l0 (k+1) (entsH (l0.take (k+1)) x.date s x.ents).1 (dirDig x).1 x.date (l.drop (k+1)):=by
 rw [List.drop_eq_getElem_cons hk,hx,chkFromH]
theorem Xsi {L:List Ses} {d:Int} {s:Stt} {es:List Ent} {j:Nat} (hj:j<es.length) {y:Ent} (hy:es[j]=y):entsH L d s (es.drop j)=
 if (stpP s y d).2≠0 then ((stpP s y d).1,(stpP s y d).2) else if storedP L y=false then ((stpP s y d).1,2) else entsH L d (stpP s y d).1 (es.drop (j+1)):=by
 rw [List.drop_eq_getElem_cons hj,hy,entsH]
theorem Xtc {d:Int} {l:List Ses} {k:Nat} (hk:k<l.length) {x:Ses} (hx:l[k]=x):asOf d (l.drop k)=if d<x.date then 0 else asOf d (l.drop (k+1))+1:=by
 rw [List.drop_eq_getElem_cons hk,hx];rfl
set_option maxRecDepth 100000 in
set_option maxHeartbeats 1000000 in
theorem Xpt (I:IH) (v:Value) (l:List Ses) (hv:RdS tSes I v l) (d:Int) (w:World) (hw:Ok I w):
 Calls Tryz.prog 46 #[v,.int .i64 d] w fun r w'=>r= .returned (.int .i64 (asOf d l))∧Below w.heap.size w w':=by
 have hlen:=hv.len_le
 obtain ⟨ao,cap,rfl,hcap,hcm,_⟩:=id hv
 have Hv:=Qh hv;clear hv
 go_enter Tryz.func46,Tryz.ntmps46
 go_wp2_with fail
 go_loopw [9] (fun s9 wr=> ∃k:Nat,k≤l.length∧s9= .int .i64 k∧k+asOf d (l.drop k)=asOf d l∧Below w.heap.size w wr) (fun i _=>l.length-(intOf i).toNat)
 case atStart=>exact ⟨0,Nat.zero_le _,rfl,by simp,Qb _ _⟩
 case round=>
  obtain ⟨k,hk,rfl,hr,hb⟩:=hrel
  have Hr:=Qh hr;clear hr
  have hwr:Ok I wr:=hw.below (Qn _) hb
  by_cases hlt:k<l.length
  ·obtain ⟨x,ve,b,off,cap',hlx,hvv,⟨c0,c1,c2,c3,c4,c5⟩,h1⟩:=Xgs Hv.out hwr k hlt
   cases hvv
   obtain ⟨oe,ce,rfl,_,_,_⟩:=id h1
   have Hst:=Qh (Xtc (d:=d) hlt hlx)
   have hba:=hb.alloc hb.size (.cells #[.int .i64 x.num,.int .i64 x.date,S x.prev,.slice oe x.ents.length ce,S x.stream,S x.sl] 35)
   clear hlx h1
   by_cases hq:d<x.date
   ·have dq:decide (d<x.date)=true:=Qt hq
    have Hn:=Qh (show ((asOf d l:Nat):Int)=(k:Int) by rw [←Hr.out,Hst.out,if_pos hq];simp)
    clear hq
    go_wp2
    go_ret
    exact ⟨Xac Hn.out.symm,hba⟩
   ·have dq:decide (d<x.date)=false:=Qf hq
    have Hn:=Qh (show k+1+asOf d (l.drop (k+1))=asOf d l by have:=Hr.out;rw [Hst.out,if_neg hq] at this;omega)
    clear hq
    go_wp2
    go_roundw
    case rel=>exact ⟨k+1,by omega,by go_num,Hn.out,hba⟩
    case measure=>simp [intOf];omega
  ·have Hn:=Qh (show ((asOf d l:Nat):Int)=(l.length:Int) by
    have:=Hr.out
    rw [List.drop_of_length_le (by omega)] at this
    have h0:asOf d []=0:=rfl
    omega)
   go_wp2
   go_ret
   exact ⟨Xac Hn.out.symm,hb⟩
def RetT (I:IH) (w:World) (s:Stt) (n:Int) (e:Ending) (w':World):Prop:=
 ∃vt vh I',e= .returned (.tuple #[sttV vt vh,.int .i64 n])∧Below w.heap.size w w'∧Ext w.heap.size I I'∧Ok I' w'∧RdS tEnt I' vt s.tree∧RdS tHo I' vh s.holds
theorem Xto {s:Stt} {e:Ent} {d:Int} (h:(applyT s.tree e).2≠0):stpP s e d=(s,(applyT s.tree e).2):=by rw [stpP,if_pos h]
set_option maxRecDepth 100000 in
set_option maxHeartbeats 2000000 in
theorem Xlo (I:IH) (hI:Glob I) (s:Stt) (vt vh:Value) (hvt:RdS tEnt I vt s.tree) (hvh:RdS tHo I vh s.holds) (hs:SmlT s.tree) (hsr:SrtT s.tree) (hn:s.tree.length≤100000) (e:Ent) (va vx:Value) (hva:RdS tAt I va e.attrs) (hvx:RdS tXt I vx e.exts) (hwf:e.Wf) (hpl:e.path.length≤4294967280) (htl:e.target.length≤4294967280) (d:Int) (h:(applyT s.tree e).2≠0) (w:World) (hw:Ok I w):
 Calls Tryz.prog 114 #[sttV vt vh,entV e va vx,.int .i64 d] w (RetT I w (stpP s e d).1 (stpP s e d).2):=by
 have Ha:=Qh (fun w hw=>Xpa I hI vt s.tree hvt hs hsr hn e va vx hva hvx hwf hpl htl w hw)
 rw [Xto h]
 have Hvt:=Qh hvt
 have Hvh:=Qh hvh
 obtain ⟨at',ct,rfl,_,_,_⟩:=id hvt
 obtain ⟨ah,ch,rfl,_,_,_⟩:=id hvh
 obtain ⟨aa,ca,rfl,_,_,_⟩:=id hva
 obtain ⟨ax,cx,rfl,_,_,_⟩:=id hvx
 obtain ⟨t2,n,hx⟩:∃t2 n,applyT s.tree e=(t2,n):=⟨_,_,rfl⟩
 rw [hx] at Ha h ⊢
 have hn0:(n != 0)=true:=by simpa using h
 clear hvt hvh hva hvx h hx
 have hok2:Ok I (((w.alloc (.cells #[.slice at' s.tree.length ct,.slice ah s.holds.length ch] 103)).alloc (.cells #[.int .i64 e.kind,S e.path,.slice aa e.attrs.length ca,S e.target,.int .i64 e.size,S e.digest,.slice ax e.exts.length cx] 26)).alloc (.cells #[.slice none 0 0,.slice none 0 0] 103)):=((hw.alloc _).alloc _).alloc _
 go_enter Tryz.func114,Tryz.ntmps114
 go_wp2_with fail
 refine (Ha.out _ hok2).mono ?_
 rintro e1 w1 ⟨v2,I1,rfl,hb1,hx1,hok1,hr2⟩
 obtain ⟨a2,c2',rfl,_,_,_⟩:=id hr2
 have s0:w1.cell? ⟨w.heap.size,0,none⟩=some (.slice at' s.tree.length ct):=Xaa hb1 (Xab _ (Xab _ (by simp)))
 have s1:w1.cell? ⟨w.heap.size,1,none⟩=some (.slice ah s.holds.length ch):=Xaa hb1 (Xab _ (Xab _ (by simp)))
 have hrow:w1.heap[w.heap.size+1+1]? =some (.cells #[.slice none 0 0,.slice none 0 0] 103 (0,0)):=(hb1.block _ (by simp)).trans (by have:=heap_alloc_new ((w.alloc (.cells #[.slice at' s.tree.length ct,.slice ah s.holds.length ch] 103)).alloc (.cells #[.int .i64 e.kind,S e.path,.slice aa e.attrs.length ca,S e.target,.int .i64 e.size,S e.digest,.slice ax e.exts.length cx] 26)) (.cells #[.slice none 0 0,.slice none 0 0] 103);simpa using this)
 have r0:w1.cell? ⟨w.heap.size+1+1,0,none⟩=some (.slice none 0 0):=(cell_of_row w1 _ 0 _ _ _ hrow).trans rfl
 have r1:w1.cell? ⟨w.heap.size+1+1,1,none⟩=some (.slice none 0 0):=(cell_of_row w1 _ 1 _ _ _ hrow).trans rfl
 have f0:=frozen_of_row w1 _ 0 _ _ hrow
 have f1:=frozen_of_row w1 _ 1 _ _ hrow
 have hb1':Below w.heap.size w w1:=((((Qb w.heap.size w).alloc (Qn _) (.cells #[.slice at' s.tree.length ct,.slice ah s.holds.length ch] 103)).alloc (by simp) (.cells #[.int .i64 e.kind,S e.path,.slice aa e.attrs.length ca,S e.target,.int .i64 e.size,S e.digest,.slice ax e.exts.length cx] 26)).alloc (by simp;omega) (.cells #[.slice none 0 0,.slice none 0 0] 103)).trans (hb1.mono (by simp;omega))
 clear hr2 hb1 hok2 Ha
 have hi2:(Tryz.prog.info? 103).map (·.size)=some 2:=by kernel_rfl
 have Hi2:=Qh hi2
 have Hrow:=Qh hrow
 have hokw:Ok I w1:=hw.below (Qn _) hb1'
 have hfr:I (w.heap.size+1+1)=none:=hw.fresh (by omega)
 clear hi2 hrow
 go_wp2
 have hW:=heap_setCell_same _ (w.heap.size+1+1) 1 _ _ (.slice ah s.holds.length ch) (heap_setCell_same w1 (w.heap.size+1+1) 0 _ _ (.slice at' s.tree.length ct) Hrow.out)
 refine bodyPost_ret (v:= .tuple #[sttV (.slice at' s.tree.length ct) (.slice ah s.holds.length ch),.int .i64 n]) ?_ rfl ?_
 ·rw [results_cell_tmp rfl]
  simp [asAddr,run_loadVar_row _ (w.heap.size+1+1) 103 103 #[.slice at' s.tree.length ct,.slice ah s.holds.length ch] (0,0) _ hW Tryz.underlying103 rfl Hi2.out]
 ·exact ⟨_,_,I,rfl,(hb1'.setCell (by simp;omega) _).setCell (by simp;omega) _,Ext.refl _ _,(hokw.setCell hfr _).setCell hfr _,Hvt.out,Hvh.out⟩
structure ApW (n:Nat) (W:World) (vt vh:Value) (e:Ent) (va vx:Value):Prop where
 s0:W.cell? ⟨n,0,none⟩=some vt
 s1:W.cell? ⟨n,1,none⟩=some vh
 eb:EntB W (n+1) e va vx
 row:W.heap[n+1+1]? =some (.cells #[.slice none 0 0,.slice none 0 0] 103 (0,0))
theorem ApW.thru {n:Nat} {W W':World} {vt vh:Value} {e:Ent} {va vx:Value} (h:ApW n W vt vh e va vx) (hb:Below W.heap.size W W'):ApW n W' vt vh e va vx:=
 ⟨Xaa hb h.s0,Xaa hb h.s1,h.eb.thru hb,(hb.block _ (Array.getElem?_eq_some_iff.1 h.row).1).trans h.row⟩
theorem Xh3 (t:List Ent) (p:Bytes):(getE t p).2=(getT t p).isSome:=by
 unfold getE
 cases getT t p<;>rfl
set_option maxRecDepth 100000 in
set_option maxHeartbeats 4000000 in
theorem Xul (I:IH) (hI:Glob I) (s:Stt) (vt vh:Value) (hvt:RdS tEnt I vt s.tree) (hvh:RdS tHo I vh s.holds) (hs:SmlT s.tree) (hsr:SrtT s.tree) (hn:s.tree.length≤100000) (hk:HOk s.holds) (hnh:s.holds.length≤100000) (e:Ent) (va vx:Value) (hva:RdS tAt I va e.attrs) (hvx:RdS tXt I vx e.exts) (hwf:e.Wf) (hpl:e.path.length≤4294967280) (htl:e.target.length≤4294967280) (d:Int) (w:World) (hw:Ok I w):
 Calls Tryz.prog 114 #[sttV vt vh,entV e va vx,.int .i64 d] w (RetT I w (stpP s e d).1 (stpP s e d).2):=by
 by_cases h:(applyT s.tree e).2=0
 case neg=>exact Xlo I hI s vt vh hvt hvh hs hsr hn e va vx hva hvx hwf hpl htl d h w hw
 have Ha:=Qh (fun w hw=>Xpa I hI vt s.tree hvt hs hsr hn e va vx hva hvx hwf hpl htl w hw)
 have he:entErr e=0:=(applyT_iff.1 (Xct h)).1.ent
 have hke:=Xbj he
 have HG:=Qh hI
 have Hk:=Qh hk
 have Hvt:=Qh hvt
 have Hvh:=Qh hvh
 have Hva:=Qh hva
 have Hvx:=Qh hvx
 have Hap:=Qh (fun I hI v va vx hv hva hvx w hw=>Xtw I hI v s.holds hv hk hnh e va vx hva hvx he d w hw)
 obtain ⟨at',ct,rfl,_,_,_⟩:=id hvt
 obtain ⟨ah,ch,rfl,_,_,_⟩:=id hvh
 obtain ⟨aa,ca,rfl,_,_,_⟩:=id hva
 obtain ⟨ax,cx,rfl,_,_,_⟩:=id hvx
 have hi2:(Tryz.prog.info? 103).map (·.size)=some 2:=by kernel_rfl
 have Hi2:=Qh hi2
 obtain ⟨t2,ht2⟩:∃t2,(applyT s.tree e).1=t2:=⟨_,rfl⟩
 have hx:applyT s.tree e=(t2,0):=by rw [←ht2,←h]
 obtain ⟨h2,m,hah⟩:∃h2 m,appH s.holds e d=(h2,m):=⟨_,_,rfl⟩
 obtain ⟨al,hal⟩:∃al,alwP s.holds e.kind e.path d=al:=⟨_,rfl⟩
 obtain ⟨hb,hgt⟩:∃hb,(getE s.tree e.path).2=hb:=⟨_,rfl⟩
 obtain ⟨cr,hcr⟩:∃cr,(e.kind==1 || e.kind==2 || e.kind==3)=cr:=⟨_,rfl⟩
 have hcr3:(3<e.kind)↔cr=false:=by
  rw [←hcr]
  have e1:(e.kind==1)=decide (e.kind=1):=rfl
  have e2:(e.kind==2)=decide (e.kind=2):=rfl
  have e3:(e.kind==3)=decide (e.kind=3):=rfl
  rw [e1,e2,e3]
  simp only [Bool.or_eq_false_iff,decide_eq_false_iff_not]
  omega
 have hask:askP s e d=if cr=false∨hb=true then al else 0:=by
  unfold askP
  rw [hal,←Xh3,hgt]
  by_cases q:3<e.kind∨hb=true
  ·rw [if_pos q,if_pos (q.imp hcr3.1 id)]
  ·rw [if_neg q,if_neg fun k=>q (k.imp hcr3.2 id)]
 have hst:stpP s e d=if askP s e d≠0 then (s,askP s e d) else if m≠0 then (s,m) else (⟨t2,h2⟩,0):=by
  rw [stpP,if_neg (by omega),hah,ht2]
 rw [hx] at Ha
 rw [hah] at Hap
 have Hcr:=Qh hcr
 have Hgt:=Qh hgt
 have Hal:=Qh hal
 clear hvt hvh hva hvx hi2 hx hah hcr hgt hal hcr3 hI hk h ht2 hs hsr he hke hn hwf htl
 cases cr
 case false=>
  by_cases ha:al=0
  ·have HnewN:=Qh (fun (hm:m=0)=>show stpP s e d=(⟨t2,h2⟩,0) by rw [hst,(show askP s e d=al by rw [hask,if_pos (.inl rfl)]),if_neg (show ¬(al≠0) by omega),if_neg (show ¬(m≠0) by omega)])
   have HnewE:=Qh (fun (hm:¬m=0)=>show stpP s e d=(s,m) by rw [hst,(show askP s e d=al by rw [hask,if_pos (.inl rfl)]),if_neg (show ¬(al≠0) by omega),if_pos hm])
   subst ha
   clear hst hask
   go_enter Tryz.func114,Tryz.ntmps114
   go_wp2_with fail
   refine (Ha.out _ (((hw.alloc _).alloc _).alloc _)).mono ?_
   rintro e1 w1 ⟨v2,I1,rfl,hb1,hx1,hok1,hr2⟩
   have hrow:w1.heap[w.heap.size+1+1]? =some (.cells #[.slice none 0 0,.slice none 0 0] 103 (0,0)):=(hb1.block _ (by simp)).trans (by have:=heap_alloc_new ((w.alloc (.cells #[.slice at' s.tree.length ct,.slice ah s.holds.length ch] 103)).alloc (.cells #[.int .i64 e.kind,S e.path,.slice aa e.attrs.length ca,S e.target,.int .i64 e.size,S e.digest,.slice ax e.exts.length cx] 26)) (.cells #[.slice none 0 0,.slice none 0 0] 103);simpa using this)
   have heb:EntB ((w.alloc (.cells #[.slice at' s.tree.length ct,.slice ah s.holds.length ch] 103)).alloc (.cells #[.int .i64 e.kind,S e.path,.slice aa e.attrs.length ca,S e.target,.int .i64 e.size,S e.digest,.slice ax e.exts.length cx] 26)) (w.heap.size+1) e (.slice aa e.attrs.length ca) (.slice ax e.exts.length cx):=entB (by simp) (Qb _ _)
   have AW1:=Qh (ApW.mk (Xaa hb1 (Xab _ (Xab _ (by simp)))) (Xaa hb1 (Xab _ (Xab _ (by simp)))) ((heb.past _).thru hb1) hrow:ApW w.heap.size w1 (.slice at' s.tree.length ct) (.slice ah s.holds.length ch) e (.slice aa e.attrs.length ca) (.slice ax e.exts.length cx))
   have hb1':Below w.heap.size w w1:=((((Qb w.heap.size w).alloc (Qn _) (.cells #[.slice at' s.tree.length ct,.slice ah s.holds.length ch] 103)).alloc (by simp) (.cells #[.int .i64 e.kind,S e.path,.slice aa e.attrs.length ca,S e.target,.int .i64 e.size,S e.digest,.slice ax e.exts.length cx] 26)).alloc (by simp;omega) (.cells #[.slice none 0 0,.slice none 0 0] 103)).trans (hb1.mono (by simp;omega))
   have hx1':Ext (w.heap.size+1+1+1) I I1:=hx1.mono (by simp)
   have hkp:=(hx1'.mono (show w.heap.size≤_ by omega)).keep hw (Qn _)
   have Hx1:=Qh hx1'
   have Hr2:=Qh hr2
   have HG1:=Qh (HG.out.mono hkp)
   have Hvt1:=Qh (Hvt.out.mono hkp)
   have Hvh1:=Qh (Hvh.out.mono hkp)
   have Hva1:=Qh (Hva.out.mono hkp)
   have Hvx1:=Qh (Hvx.out.mono hkp)
   obtain ⟨a2,c2',rfl,_,_,_⟩:=id hr2
   clear hb1 hrow heb hx1 hx1' hkp hr2 Ha
   obtain ⟨s0,s1,⟨c0,c1,c2,c3,c4,c5,c6⟩,_⟩:=AW1.out
   go_wp2_with fail
   refine (Xda I1 e _ _ Hva1.out Hvx1.out w1).mono ?_
   rintro e2 w2 ⟨rfl,hb2⟩
   rw [Hcr.out]
   have hok2:Ok I1 w2:=hok1.below (Qn _) hb2
   have AW2:=Qh (AW1.out.thru hb2)
   have hb2':=hb1'.trans (hb2.mono hb1'.size)
   clear hb2 hb1' AW1 hok1 s0 s1 c0 c1 c2 c3 c4 c5 c6
   obtain ⟨s0,s1,⟨c0,c1,c2,c3,c4,c5,c6⟩,_⟩:=AW2.out
   go_wp2_with fail
   refine (Xeb I1 HG1.out _ s.holds Hvh1.out Hk.out hnh e _ _ Hva1.out Hvx1.out hpl d w2 hok2).mono ?_
   rintro e4 w4 ⟨rfl,hb4⟩
   rw [Hal.out]
   have hok4:Ok I1 w4:=hok2.below (Qn _) hb4
   have AW4:=Qh (AW2.out.thru hb4)
   have hb4':=hb2'.trans (hb4.mono hb2'.size)
   clear hb4 hb2' AW2 hok2 s0 s1 c0 c1 c2 c3 c4 c5 c6
   obtain ⟨s0,s1,⟨c0,c1,c2,c3,c4,c5,c6⟩,_⟩:=AW4.out
   by_cases hm:m=0
   ·have Hn:=Qh (HnewN.out hm)
    subst hm
    go_wp2_with fail
    refine (Hap.out I1 HG1.out _ _ _ Hvh1.out Hva1.out Hvx1.out w4 hok4).mono ?_
    rintro e5 w5 ⟨vh2,I2,rfl,hb5,hx2,hok5,hr3⟩
    obtain ⟨a3,c3',rfl,_,_,_⟩:=id hr3
    have Hr3:=Qh hr3
    have AW5:=Qh (AW4.out.thru hb5)
    have Hx2:=Qh (Hx1.out.trans hx2 (by have:=(Array.getElem?_eq_some_iff.1 AW4.out.row).1;omega))
    have Hkp2:=Qh (hx2.keep hok4 (Qn _))
    have hb5':=hb4'.trans (hb5.mono hb4'.size)
    clear hb5 hb4' AW4 hok4 s0 s1 c0 c1 c2 c3 c4 c5 c6 hr3 hx2
    obtain ⟨s0,s1,⟨c0,c1,c2,c3,c4,c5,c6⟩,_⟩:=AW5.out
    have r0:w5.cell? ⟨w.heap.size+1+1,0,none⟩=some (.slice none 0 0):=(cell_of_row w5 _ 0 _ _ _ AW5.out.row).trans rfl
    have r1:w5.cell? ⟨w.heap.size+1+1,1,none⟩=some (.slice none 0 0):=(cell_of_row w5 _ 1 _ _ _ AW5.out.row).trans rfl
    have f0:=frozen_of_row w5 _ 0 _ _ AW5.out.row
    have f1:=frozen_of_row w5 _ 1 _ _ AW5.out.row
    go_wp2
    have hW:=heap_setCell_same _ (w.heap.size+1+1) 1 _ _ (.slice a3 h2.length c3') (heap_setCell_same w5 (w.heap.size+1+1) 0 _ _ (.slice a2 t2.length c2') AW5.out.row)
    refine bodyPost_ret (v:= .tuple #[sttV (.slice a2 t2.length c2') (.slice a3 h2.length c3'),.int .i64 0]) ?_ rfl ?_
    ·rw [results_cell_tmp rfl]
     simp [asAddr,run_loadVar_row _ (w.heap.size+1+1) 103 103 #[(.slice a2 t2.length c2'),(.slice a3 h2.length c3')] (0,0) _ hW Tryz.underlying103 rfl Hi2.out]
    ·rw [Hn.out]
     have hfr:I2 (w.heap.size+1+1)=none:=(Hx2.out _ (by omega)).trans (hw.fresh (by omega))
     exact ⟨_,_,I2,rfl,(hb5'.setCell (by simp;omega) _).setCell (by simp;omega) _,Ext.mono Hx2.out (by omega),(Ok.setCell hok5 hfr _).setCell hfr _,(Hr2.out.mono Hkp2.out),Hr3.out⟩
   ·have Hn:=Qh (HnewE.out hm)
    have hm0:(m != 0)=true:=by simpa using hm
    clear hm
    go_wp2_with fail
    refine (Hap.out I1 HG1.out _ _ _ Hvh1.out Hva1.out Hvx1.out w4 hok4).mono ?_
    rintro e5 w5 ⟨vh2,I2,rfl,hb5,hx2,hok5,hr3⟩
    obtain ⟨a3,c3',rfl,_,_,_⟩:=id hr3
    have Hr3:=Qh hr3
    have AW5:=Qh (AW4.out.thru hb5)
    have Hx2:=Qh (Hx1.out.trans hx2 (by have:=(Array.getElem?_eq_some_iff.1 AW4.out.row).1;omega))
    have Hkp2:=Qh (hx2.keep hok4 (Qn _))
    have hb5':=hb4'.trans (hb5.mono hb4'.size)
    clear hb5 hb4' AW4 hok4 s0 s1 c0 c1 c2 c3 c4 c5 c6 hr3 hx2
    obtain ⟨s0,s1,⟨c0,c1,c2,c3,c4,c5,c6⟩,_⟩:=AW5.out
    have r0:w5.cell? ⟨w.heap.size+1+1,0,none⟩=some (.slice none 0 0):=(cell_of_row w5 _ 0 _ _ _ AW5.out.row).trans rfl
    have r1:w5.cell? ⟨w.heap.size+1+1,1,none⟩=some (.slice none 0 0):=(cell_of_row w5 _ 1 _ _ _ AW5.out.row).trans rfl
    have f0:=frozen_of_row w5 _ 0 _ _ AW5.out.row
    have f1:=frozen_of_row w5 _ 1 _ _ AW5.out.row
    go_wp2
    have hW:=heap_setCell_same _ (w.heap.size+1+1) 1 _ _ (.slice ah s.holds.length ch) (heap_setCell_same w5 (w.heap.size+1+1) 0 _ _ (.slice at' s.tree.length ct) AW5.out.row)
    refine bodyPost_ret (v:= .tuple #[sttV (.slice at' s.tree.length ct) (.slice ah s.holds.length ch),.int .i64 m]) ?_ rfl ?_
    ·rw [results_cell_tmp rfl]
     simp [asAddr,run_loadVar_row _ (w.heap.size+1+1) 103 103 #[(.slice at' s.tree.length ct),(.slice ah s.holds.length ch)] (0,0) _ hW Tryz.underlying103 rfl Hi2.out]
    ·rw [Hn.out]
     have hfr:I2 (w.heap.size+1+1)=none:=(Hx2.out _ (by omega)).trans (hw.fresh (by omega))
     exact ⟨_,_,I2,rfl,(hb5'.setCell (by simp;omega) _).setCell (by simp;omega) _,Ext.mono Hx2.out (by omega),(Ok.setCell hok5 hfr _).setCell hfr _,(Hvt1.out.mono Hkp2.out),(Hvh1.out.mono Hkp2.out)⟩
  ·have Hn:=Qh (show stpP s e d=(s,al) by rw [hst,(show askP s e d=al by rw [hask,if_pos (.inl rfl)]),if_pos ha])
   have ha0:(al != 0)=true:=by simpa using ha
   clear hst hask ha Hap
   go_enter Tryz.func114,Tryz.ntmps114
   go_wp2_with fail
   refine (Ha.out _ (((hw.alloc _).alloc _).alloc _)).mono ?_
   rintro e1 w1 ⟨v2,I1,rfl,hb1,hx1,hok1,hr2⟩
   have hrow:w1.heap[w.heap.size+1+1]? =some (.cells #[.slice none 0 0,.slice none 0 0] 103 (0,0)):=(hb1.block _ (by simp)).trans (by have:=heap_alloc_new ((w.alloc (.cells #[.slice at' s.tree.length ct,.slice ah s.holds.length ch] 103)).alloc (.cells #[.int .i64 e.kind,S e.path,.slice aa e.attrs.length ca,S e.target,.int .i64 e.size,S e.digest,.slice ax e.exts.length cx] 26)) (.cells #[.slice none 0 0,.slice none 0 0] 103);simpa using this)
   have heb:EntB ((w.alloc (.cells #[.slice at' s.tree.length ct,.slice ah s.holds.length ch] 103)).alloc (.cells #[.int .i64 e.kind,S e.path,.slice aa e.attrs.length ca,S e.target,.int .i64 e.size,S e.digest,.slice ax e.exts.length cx] 26)) (w.heap.size+1) e (.slice aa e.attrs.length ca) (.slice ax e.exts.length cx):=entB (by simp) (Qb _ _)
   have AW1:=Qh (ApW.mk (Xaa hb1 (Xab _ (Xab _ (by simp)))) (Xaa hb1 (Xab _ (Xab _ (by simp)))) ((heb.past _).thru hb1) hrow:ApW w.heap.size w1 (.slice at' s.tree.length ct) (.slice ah s.holds.length ch) e (.slice aa e.attrs.length ca) (.slice ax e.exts.length cx))
   have hb1':Below w.heap.size w w1:=((((Qb w.heap.size w).alloc (Qn _) (.cells #[.slice at' s.tree.length ct,.slice ah s.holds.length ch] 103)).alloc (by simp) (.cells #[.int .i64 e.kind,S e.path,.slice aa e.attrs.length ca,S e.target,.int .i64 e.size,S e.digest,.slice ax e.exts.length cx] 26)).alloc (by simp;omega) (.cells #[.slice none 0 0,.slice none 0 0] 103)).trans (hb1.mono (by simp;omega))
   have hx1':Ext (w.heap.size+1+1+1) I I1:=hx1.mono (by simp)
   have hkp:=(hx1'.mono (show w.heap.size≤_ by omega)).keep hw (Qn _)
   have Hx1:=Qh hx1'
   have Hr2:=Qh hr2
   have HG1:=Qh (HG.out.mono hkp)
   have Hvt1:=Qh (Hvt.out.mono hkp)
   have Hvh1:=Qh (Hvh.out.mono hkp)
   have Hva1:=Qh (Hva.out.mono hkp)
   have Hvx1:=Qh (Hvx.out.mono hkp)
   obtain ⟨a2,c2',rfl,_,_,_⟩:=id hr2
   clear hb1 hrow heb hx1 hx1' hkp hr2 Ha
   obtain ⟨s0,s1,⟨c0,c1,c2,c3,c4,c5,c6⟩,_⟩:=AW1.out
   go_wp2_with fail
   refine (Xda I1 e _ _ Hva1.out Hvx1.out w1).mono ?_
   rintro e2 w2 ⟨rfl,hb2⟩
   rw [Hcr.out]
   have hok2:Ok I1 w2:=hok1.below (Qn _) hb2
   have AW2:=Qh (AW1.out.thru hb2)
   have hb2':=hb1'.trans (hb2.mono hb1'.size)
   clear hb2 hb1' AW1 hok1 s0 s1 c0 c1 c2 c3 c4 c5 c6
   obtain ⟨s0,s1,⟨c0,c1,c2,c3,c4,c5,c6⟩,_⟩:=AW2.out
   go_wp2_with fail
   refine (Xeb I1 HG1.out _ s.holds Hvh1.out Hk.out hnh e _ _ Hva1.out Hvx1.out hpl d w2 hok2).mono ?_
   rintro e4 w4 ⟨rfl,hb4⟩
   rw [Hal.out]
   have hok4:Ok I1 w4:=hok2.below (Qn _) hb4
   have AW4:=Qh (AW2.out.thru hb4)
   have hb4':=hb2'.trans (hb4.mono hb2'.size)
   clear hb4 hb2' AW2 hok2 s0 s1 c0 c1 c2 c3 c4 c5 c6
   obtain ⟨s0,s1,⟨c0,c1,c2,c3,c4,c5,c6⟩,_⟩:=AW4.out
   have r0:w4.cell? ⟨w.heap.size+1+1,0,none⟩=some (.slice none 0 0):=(cell_of_row w4 _ 0 _ _ _ AW4.out.row).trans rfl
   have r1:w4.cell? ⟨w.heap.size+1+1,1,none⟩=some (.slice none 0 0):=(cell_of_row w4 _ 1 _ _ _ AW4.out.row).trans rfl
   have f0:=frozen_of_row w4 _ 0 _ _ AW4.out.row
   have f1:=frozen_of_row w4 _ 1 _ _ AW4.out.row
   go_wp2
   have hW:=heap_setCell_same _ (w.heap.size+1+1) 1 _ _ (.slice ah s.holds.length ch) (heap_setCell_same w4 (w.heap.size+1+1) 0 _ _ (.slice at' s.tree.length ct) AW4.out.row)
   refine bodyPost_ret (v:= .tuple #[sttV (.slice at' s.tree.length ct) (.slice ah s.holds.length ch),.int .i64 al]) ?_ rfl ?_
   ·rw [results_cell_tmp rfl]
    simp [asAddr,run_loadVar_row _ (w.heap.size+1+1) 103 103 #[(.slice at' s.tree.length ct),(.slice ah s.holds.length ch)] (0,0) _ hW Tryz.underlying103 rfl Hi2.out]
   ·rw [Hn.out]
    have hfr:I1 (w.heap.size+1+1)=none:=(Hx1.out _ (by omega)).trans (hw.fresh (by omega))
    exact ⟨_,_,I1,rfl,(hb4'.setCell (by simp;omega) _).setCell (by simp;omega) _,Ext.mono Hx1.out (by omega),(Ok.setCell hok4 hfr _).setCell hfr _,Hvt1.out,Hvh1.out⟩
 case true=>
  cases hb
  case false=>
   have HnewN:=Qh (fun (hm:m=0)=>show stpP s e d=(⟨t2,h2⟩,0) by rw [hst,(show askP s e d=0 by rw [hask,if_neg (by simp)]),if_neg (show ¬((0:Int)≠0) by decide),if_neg (show ¬(m≠0) by omega)])
   have HnewE:=Qh (fun (hm:¬m=0)=>show stpP s e d=(s,m) by rw [hst,(show askP s e d=0 by rw [hask,if_neg (by simp)]),if_neg (show ¬((0:Int)≠0) by decide),if_pos hm])
   clear hst hask
   go_enter Tryz.func114,Tryz.ntmps114
   go_wp2_with fail
   refine (Ha.out _ (((hw.alloc _).alloc _).alloc _)).mono ?_
   rintro e1 w1 ⟨v2,I1,rfl,hb1,hx1,hok1,hr2⟩
   have hrow:w1.heap[w.heap.size+1+1]? =some (.cells #[.slice none 0 0,.slice none 0 0] 103 (0,0)):=(hb1.block _ (by simp)).trans (by have:=heap_alloc_new ((w.alloc (.cells #[.slice at' s.tree.length ct,.slice ah s.holds.length ch] 103)).alloc (.cells #[.int .i64 e.kind,S e.path,.slice aa e.attrs.length ca,S e.target,.int .i64 e.size,S e.digest,.slice ax e.exts.length cx] 26)) (.cells #[.slice none 0 0,.slice none 0 0] 103);simpa using this)
   have heb:EntB ((w.alloc (.cells #[.slice at' s.tree.length ct,.slice ah s.holds.length ch] 103)).alloc (.cells #[.int .i64 e.kind,S e.path,.slice aa e.attrs.length ca,S e.target,.int .i64 e.size,S e.digest,.slice ax e.exts.length cx] 26)) (w.heap.size+1) e (.slice aa e.attrs.length ca) (.slice ax e.exts.length cx):=entB (by simp) (Qb _ _)
   have AW1:=Qh (ApW.mk (Xaa hb1 (Xab _ (Xab _ (by simp)))) (Xaa hb1 (Xab _ (Xab _ (by simp)))) ((heb.past _).thru hb1) hrow:ApW w.heap.size w1 (.slice at' s.tree.length ct) (.slice ah s.holds.length ch) e (.slice aa e.attrs.length ca) (.slice ax e.exts.length cx))
   have hb1':Below w.heap.size w w1:=((((Qb w.heap.size w).alloc (Qn _) (.cells #[.slice at' s.tree.length ct,.slice ah s.holds.length ch] 103)).alloc (by simp) (.cells #[.int .i64 e.kind,S e.path,.slice aa e.attrs.length ca,S e.target,.int .i64 e.size,S e.digest,.slice ax e.exts.length cx] 26)).alloc (by simp;omega) (.cells #[.slice none 0 0,.slice none 0 0] 103)).trans (hb1.mono (by simp;omega))
   have hx1':Ext (w.heap.size+1+1+1) I I1:=hx1.mono (by simp)
   have hkp:=(hx1'.mono (show w.heap.size≤_ by omega)).keep hw (Qn _)
   have Hx1:=Qh hx1'
   have Hr2:=Qh hr2
   have HG1:=Qh (HG.out.mono hkp)
   have Hvt1:=Qh (Hvt.out.mono hkp)
   have Hvh1:=Qh (Hvh.out.mono hkp)
   have Hva1:=Qh (Hva.out.mono hkp)
   have Hvx1:=Qh (Hvx.out.mono hkp)
   obtain ⟨a2,c2',rfl,_,_,_⟩:=id hr2
   clear hb1 hrow heb hx1 hx1' hkp hr2 Ha
   obtain ⟨s0,s1,⟨c0,c1,c2,c3,c4,c5,c6⟩,_⟩:=AW1.out
   go_wp2_with fail
   refine (Xda I1 e _ _ Hva1.out Hvx1.out w1).mono ?_
   rintro e2 w2 ⟨rfl,hb2⟩
   rw [Hcr.out]
   have hok2:Ok I1 w2:=hok1.below (Qn _) hb2
   have AW2:=Qh (AW1.out.thru hb2)
   have hb2':=hb1'.trans (hb2.mono hb1'.size)
   clear hb2 hb1' AW1 hok1 s0 s1 c0 c1 c2 c3 c4 c5 c6
   obtain ⟨s0,s1,⟨c0,c1,c2,c3,c4,c5,c6⟩,_⟩:=AW2.out
   go_wp2_with fail
   refine (Xrw I1 _ _ s.tree s.holds Hvt1.out Hvh1.out e.path w2 hok2).mono ?_
   rintro e3 w3 ⟨rfl,hb3⟩
   rw [Hgt.out]
   have hok3:Ok I1 w3:=hok2.below (Qn _) hb3
   have AW3:=Qh (AW2.out.thru hb3)
   have hb3':=hb2'.trans (hb3.mono hb2'.size)
   clear hb3 hb2' AW2 hok2 s0 s1 c0 c1 c2 c3 c4 c5 c6
   obtain ⟨s0,s1,⟨c0,c1,c2,c3,c4,c5,c6⟩,_⟩:=AW3.out
   by_cases hm:m=0
   ·have Hn:=Qh (HnewN.out hm)
    subst hm
    go_wp2_with fail
    refine (Hap.out I1 HG1.out _ _ _ Hvh1.out Hva1.out Hvx1.out w3 hok3).mono ?_
    rintro e5 w5 ⟨vh2,I2,rfl,hb5,hx2,hok5,hr3⟩
    obtain ⟨a3,c3',rfl,_,_,_⟩:=id hr3
    have Hr3:=Qh hr3
    have AW5:=Qh (AW3.out.thru hb5)
    have Hx2:=Qh (Hx1.out.trans hx2 (by have:=(Array.getElem?_eq_some_iff.1 AW3.out.row).1;omega))
    have Hkp2:=Qh (hx2.keep hok3 (Qn _))
    have hb5':=hb3'.trans (hb5.mono hb3'.size)
    clear hb5 hb3' AW3 hok3 s0 s1 c0 c1 c2 c3 c4 c5 c6 hr3 hx2
    obtain ⟨s0,s1,⟨c0,c1,c2,c3,c4,c5,c6⟩,_⟩:=AW5.out
    have r0:w5.cell? ⟨w.heap.size+1+1,0,none⟩=some (.slice none 0 0):=(cell_of_row w5 _ 0 _ _ _ AW5.out.row).trans rfl
    have r1:w5.cell? ⟨w.heap.size+1+1,1,none⟩=some (.slice none 0 0):=(cell_of_row w5 _ 1 _ _ _ AW5.out.row).trans rfl
    have f0:=frozen_of_row w5 _ 0 _ _ AW5.out.row
    have f1:=frozen_of_row w5 _ 1 _ _ AW5.out.row
    go_wp2
    have hW:=heap_setCell_same _ (w.heap.size+1+1) 1 _ _ (.slice a3 h2.length c3') (heap_setCell_same w5 (w.heap.size+1+1) 0 _ _ (.slice a2 t2.length c2') AW5.out.row)
    refine bodyPost_ret (v:= .tuple #[sttV (.slice a2 t2.length c2') (.slice a3 h2.length c3'),.int .i64 0]) ?_ rfl ?_
    ·rw [results_cell_tmp rfl]
     simp [asAddr,run_loadVar_row _ (w.heap.size+1+1) 103 103 #[(.slice a2 t2.length c2'),(.slice a3 h2.length c3')] (0,0) _ hW Tryz.underlying103 rfl Hi2.out]
    ·rw [Hn.out]
     have hfr:I2 (w.heap.size+1+1)=none:=(Hx2.out _ (by omega)).trans (hw.fresh (by omega))
     exact ⟨_,_,I2,rfl,(hb5'.setCell (by simp;omega) _).setCell (by simp;omega) _,Ext.mono Hx2.out (by omega),(Ok.setCell hok5 hfr _).setCell hfr _,(Hr2.out.mono Hkp2.out),Hr3.out⟩
   ·have Hn:=Qh (HnewE.out hm)
    have hm0:(m != 0)=true:=by simpa using hm
    clear hm
    go_wp2_with fail
    refine (Hap.out I1 HG1.out _ _ _ Hvh1.out Hva1.out Hvx1.out w3 hok3).mono ?_
    rintro e5 w5 ⟨vh2,I2,rfl,hb5,hx2,hok5,hr3⟩
    obtain ⟨a3,c3',rfl,_,_,_⟩:=id hr3
    have Hr3:=Qh hr3
    have AW5:=Qh (AW3.out.thru hb5)
    have Hx2:=Qh (Hx1.out.trans hx2 (by have:=(Array.getElem?_eq_some_iff.1 AW3.out.row).1;omega))
    have Hkp2:=Qh (hx2.keep hok3 (Qn _))
    have hb5':=hb3'.trans (hb5.mono hb3'.size)
    clear hb5 hb3' AW3 hok3 s0 s1 c0 c1 c2 c3 c4 c5 c6 hr3 hx2
    obtain ⟨s0,s1,⟨c0,c1,c2,c3,c4,c5,c6⟩,_⟩:=AW5.out
    have r0:w5.cell? ⟨w.heap.size+1+1,0,none⟩=some (.slice none 0 0):=(cell_of_row w5 _ 0 _ _ _ AW5.out.row).trans rfl
    have r1:w5.cell? ⟨w.heap.size+1+1,1,none⟩=some (.slice none 0 0):=(cell_of_row w5 _ 1 _ _ _ AW5.out.row).trans rfl
    have f0:=frozen_of_row w5 _ 0 _ _ AW5.out.row
    have f1:=frozen_of_row w5 _ 1 _ _ AW5.out.row
    go_wp2
    have hW:=heap_setCell_same _ (w.heap.size+1+1) 1 _ _ (.slice ah s.holds.length ch) (heap_setCell_same w5 (w.heap.size+1+1) 0 _ _ (.slice at' s.tree.length ct) AW5.out.row)
    refine bodyPost_ret (v:= .tuple #[sttV (.slice at' s.tree.length ct) (.slice ah s.holds.length ch),.int .i64 m]) ?_ rfl ?_
    ·rw [results_cell_tmp rfl]
     simp [asAddr,run_loadVar_row _ (w.heap.size+1+1) 103 103 #[(.slice at' s.tree.length ct),(.slice ah s.holds.length ch)] (0,0) _ hW Tryz.underlying103 rfl Hi2.out]
    ·rw [Hn.out]
     have hfr:I2 (w.heap.size+1+1)=none:=(Hx2.out _ (by omega)).trans (hw.fresh (by omega))
     exact ⟨_,_,I2,rfl,(hb5'.setCell (by simp;omega) _).setCell (by simp;omega) _,Ext.mono Hx2.out (by omega),(Ok.setCell hok5 hfr _).setCell hfr _,(Hvt1.out.mono Hkp2.out),(Hvh1.out.mono Hkp2.out)⟩
  case true=>
   by_cases ha:al=0
   ·have HnewN:=Qh (fun (hm:m=0)=>show stpP s e d=(⟨t2,h2⟩,0) by rw [hst,(show askP s e d=al by rw [hask,if_pos (.inr rfl)]),if_neg (show ¬(al≠0) by omega),if_neg (show ¬(m≠0) by omega)])
    have HnewE:=Qh (fun (hm:¬m=0)=>show stpP s e d=(s,m) by rw [hst,(show askP s e d=al by rw [hask,if_pos (.inr rfl)]),if_neg (show ¬(al≠0) by omega),if_pos hm])
    subst ha
    clear hst hask
    go_enter Tryz.func114,Tryz.ntmps114
    go_wp2_with fail
    refine (Ha.out _ (((hw.alloc _).alloc _).alloc _)).mono ?_
    rintro e1 w1 ⟨v2,I1,rfl,hb1,hx1,hok1,hr2⟩
    have hrow:w1.heap[w.heap.size+1+1]? =some (.cells #[.slice none 0 0,.slice none 0 0] 103 (0,0)):=(hb1.block _ (by simp)).trans (by have:=heap_alloc_new ((w.alloc (.cells #[.slice at' s.tree.length ct,.slice ah s.holds.length ch] 103)).alloc (.cells #[.int .i64 e.kind,S e.path,.slice aa e.attrs.length ca,S e.target,.int .i64 e.size,S e.digest,.slice ax e.exts.length cx] 26)) (.cells #[.slice none 0 0,.slice none 0 0] 103);simpa using this)
    have heb:EntB ((w.alloc (.cells #[.slice at' s.tree.length ct,.slice ah s.holds.length ch] 103)).alloc (.cells #[.int .i64 e.kind,S e.path,.slice aa e.attrs.length ca,S e.target,.int .i64 e.size,S e.digest,.slice ax e.exts.length cx] 26)) (w.heap.size+1) e (.slice aa e.attrs.length ca) (.slice ax e.exts.length cx):=entB (by simp) (Qb _ _)
    have AW1:=Qh (ApW.mk (Xaa hb1 (Xab _ (Xab _ (by simp)))) (Xaa hb1 (Xab _ (Xab _ (by simp)))) ((heb.past _).thru hb1) hrow:ApW w.heap.size w1 (.slice at' s.tree.length ct) (.slice ah s.holds.length ch) e (.slice aa e.attrs.length ca) (.slice ax e.exts.length cx))
    have hb1':Below w.heap.size w w1:=((((Qb w.heap.size w).alloc (Qn _) (.cells #[.slice at' s.tree.length ct,.slice ah s.holds.length ch] 103)).alloc (by simp) (.cells #[.int .i64 e.kind,S e.path,.slice aa e.attrs.length ca,S e.target,.int .i64 e.size,S e.digest,.slice ax e.exts.length cx] 26)).alloc (by simp;omega) (.cells #[.slice none 0 0,.slice none 0 0] 103)).trans (hb1.mono (by simp;omega))
    have hx1':Ext (w.heap.size+1+1+1) I I1:=hx1.mono (by simp)
    have hkp:=(hx1'.mono (show w.heap.size≤_ by omega)).keep hw (Qn _)
    have Hx1:=Qh hx1'
    have Hr2:=Qh hr2
    have HG1:=Qh (HG.out.mono hkp)
    have Hvt1:=Qh (Hvt.out.mono hkp)
    have Hvh1:=Qh (Hvh.out.mono hkp)
    have Hva1:=Qh (Hva.out.mono hkp)
    have Hvx1:=Qh (Hvx.out.mono hkp)
    obtain ⟨a2,c2',rfl,_,_,_⟩:=id hr2
    clear hb1 hrow heb hx1 hx1' hkp hr2 Ha
    obtain ⟨s0,s1,⟨c0,c1,c2,c3,c4,c5,c6⟩,_⟩:=AW1.out
    go_wp2_with fail
    refine (Xda I1 e _ _ Hva1.out Hvx1.out w1).mono ?_
    rintro e2 w2 ⟨rfl,hb2⟩
    rw [Hcr.out]
    have hok2:Ok I1 w2:=hok1.below (Qn _) hb2
    have AW2:=Qh (AW1.out.thru hb2)
    have hb2':=hb1'.trans (hb2.mono hb1'.size)
    clear hb2 hb1' AW1 hok1 s0 s1 c0 c1 c2 c3 c4 c5 c6
    obtain ⟨s0,s1,⟨c0,c1,c2,c3,c4,c5,c6⟩,_⟩:=AW2.out
    go_wp2_with fail
    refine (Xrw I1 _ _ s.tree s.holds Hvt1.out Hvh1.out e.path w2 hok2).mono ?_
    rintro e3 w3 ⟨rfl,hb3⟩
    rw [Hgt.out]
    have hok3:Ok I1 w3:=hok2.below (Qn _) hb3
    have AW3:=Qh (AW2.out.thru hb3)
    have hb3':=hb2'.trans (hb3.mono hb2'.size)
    clear hb3 hb2' AW2 hok2 s0 s1 c0 c1 c2 c3 c4 c5 c6
    obtain ⟨s0,s1,⟨c0,c1,c2,c3,c4,c5,c6⟩,_⟩:=AW3.out
    go_wp2_with fail
    refine (Xeb I1 HG1.out _ s.holds Hvh1.out Hk.out hnh e _ _ Hva1.out Hvx1.out hpl d w3 hok3).mono ?_
    rintro e4 w4 ⟨rfl,hb4⟩
    rw [Hal.out]
    have hok4:Ok I1 w4:=hok3.below (Qn _) hb4
    have AW4:=Qh (AW3.out.thru hb4)
    have hb4':=hb3'.trans (hb4.mono hb3'.size)
    clear hb4 hb3' AW3 hok3 s0 s1 c0 c1 c2 c3 c4 c5 c6
    obtain ⟨s0,s1,⟨c0,c1,c2,c3,c4,c5,c6⟩,_⟩:=AW4.out
    by_cases hm:m=0
    ·have Hn:=Qh (HnewN.out hm)
     subst hm
     go_wp2_with fail
     refine (Hap.out I1 HG1.out _ _ _ Hvh1.out Hva1.out Hvx1.out w4 hok4).mono ?_
     rintro e5 w5 ⟨vh2,I2,rfl,hb5,hx2,hok5,hr3⟩
     obtain ⟨a3,c3',rfl,_,_,_⟩:=id hr3
     have Hr3:=Qh hr3
     have AW5:=Qh (AW4.out.thru hb5)
     have Hx2:=Qh (Hx1.out.trans hx2 (by have:=(Array.getElem?_eq_some_iff.1 AW4.out.row).1;omega))
     have Hkp2:=Qh (hx2.keep hok4 (Qn _))
     have hb5':=hb4'.trans (hb5.mono hb4'.size)
     clear hb5 hb4' AW4 hok4 s0 s1 c0 c1 c2 c3 c4 c5 c6 hr3 hx2
     obtain ⟨s0,s1,⟨c0,c1,c2,c3,c4,c5,c6⟩,_⟩:=AW5.out
     have r0:w5.cell? ⟨w.heap.size+1+1,0,none⟩=some (.slice none 0 0):=(cell_of_row w5 _ 0 _ _ _ AW5.out.row).trans rfl
     have r1:w5.cell? ⟨w.heap.size+1+1,1,none⟩=some (.slice none 0 0):=(cell_of_row w5 _ 1 _ _ _ AW5.out.row).trans rfl
     have f0:=frozen_of_row w5 _ 0 _ _ AW5.out.row
     have f1:=frozen_of_row w5 _ 1 _ _ AW5.out.row
     go_wp2
     have hW:=heap_setCell_same _ (w.heap.size+1+1) 1 _ _ (.slice a3 h2.length c3') (heap_setCell_same w5 (w.heap.size+1+1) 0 _ _ (.slice a2 t2.length c2') AW5.out.row)
     refine bodyPost_ret (v:= .tuple #[sttV (.slice a2 t2.length c2') (.slice a3 h2.length c3'),.int .i64 0]) ?_ rfl ?_
     ·rw [results_cell_tmp rfl]
      simp [asAddr,run_loadVar_row _ (w.heap.size+1+1) 103 103 #[(.slice a2 t2.length c2'),(.slice a3 h2.length c3')] (0,0) _ hW Tryz.underlying103 rfl Hi2.out]
     ·rw [Hn.out]
      have hfr:I2 (w.heap.size+1+1)=none:=(Hx2.out _ (by omega)).trans (hw.fresh (by omega))
      exact ⟨_,_,I2,rfl,(hb5'.setCell (by simp;omega) _).setCell (by simp;omega) _,Ext.mono Hx2.out (by omega),(Ok.setCell hok5 hfr _).setCell hfr _,(Hr2.out.mono Hkp2.out),Hr3.out⟩
    ·have Hn:=Qh (HnewE.out hm)
     have hm0:(m != 0)=true:=by simpa using hm
     clear hm
     go_wp2_with fail
     refine (Hap.out I1 HG1.out _ _ _ Hvh1.out Hva1.out Hvx1.out w4 hok4).mono ?_
     rintro e5 w5 ⟨vh2,I2,rfl,hb5,hx2,hok5,hr3⟩
     obtain ⟨a3,c3',rfl,_,_,_⟩:=id hr3
     have Hr3:=Qh hr3
     have AW5:=Qh (AW4.out.thru hb5)
     have Hx2:=Qh (Hx1.out.trans hx2 (by have:=(Array.getElem?_eq_some_iff.1 AW4.out.row).1;omega))
     have Hkp2:=Qh (hx2.keep hok4 (Qn _))
     have hb5':=hb4'.trans (hb5.mono hb4'.size)
     clear hb5 hb4' AW4 hok4 s0 s1 c0 c1 c2 c3 c4 c5 c6 hr3 hx2
     obtain ⟨s0,s1,⟨c0,c1,c2,c3,c4,c5,c6⟩,_⟩:=AW5.out
     have r0:w5.cell? ⟨w.heap.size+1+1,0,none⟩=some (.slice none 0 0):=(cell_of_row w5 _ 0 _ _ _ AW5.out.row).trans rfl
     have r1:w5.cell? ⟨w.heap.size+1+1,1,none⟩=some (.slice none 0 0):=(cell_of_row w5 _ 1 _ _ _ AW5.out.row).trans rfl
     have f0:=frozen_of_row w5 _ 0 _ _ AW5.out.row
     have f1:=frozen_of_row w5 _ 1 _ _ AW5.out.row
     go_wp2
     have hW:=heap_setCell_same _ (w.heap.size+1+1) 1 _ _ (.slice ah s.holds.length ch) (heap_setCell_same w5 (w.heap.size+1+1) 0 _ _ (.slice at' s.tree.length ct) AW5.out.row)
     refine bodyPost_ret (v:= .tuple #[sttV (.slice at' s.tree.length ct) (.slice ah s.holds.length ch),.int .i64 m]) ?_ rfl ?_
     ·rw [results_cell_tmp rfl]
      simp [asAddr,run_loadVar_row _ (w.heap.size+1+1) 103 103 #[(.slice at' s.tree.length ct),(.slice ah s.holds.length ch)] (0,0) _ hW Tryz.underlying103 rfl Hi2.out]
     ·rw [Hn.out]
      have hfr:I2 (w.heap.size+1+1)=none:=(Hx2.out _ (by omega)).trans (hw.fresh (by omega))
      exact ⟨_,_,I2,rfl,(hb5'.setCell (by simp;omega) _).setCell (by simp;omega) _,Ext.mono Hx2.out (by omega),(Ok.setCell hok5 hfr _).setCell hfr _,(Hvt1.out.mono Hkp2.out),(Hvh1.out.mono Hkp2.out)⟩
   ·have Hn:=Qh (show stpP s e d=(s,al) by rw [hst,(show askP s e d=al by rw [hask,if_pos (.inr rfl)]),if_pos ha])
    have ha0:(al != 0)=true:=by simpa using ha
    clear hst hask ha Hap
    go_enter Tryz.func114,Tryz.ntmps114
    go_wp2_with fail
    refine (Ha.out _ (((hw.alloc _).alloc _).alloc _)).mono ?_
    rintro e1 w1 ⟨v2,I1,rfl,hb1,hx1,hok1,hr2⟩
    have hrow:w1.heap[w.heap.size+1+1]? =some (.cells #[.slice none 0 0,.slice none 0 0] 103 (0,0)):=(hb1.block _ (by simp)).trans (by have:=heap_alloc_new ((w.alloc (.cells #[.slice at' s.tree.length ct,.slice ah s.holds.length ch] 103)).alloc (.cells #[.int .i64 e.kind,S e.path,.slice aa e.attrs.length ca,S e.target,.int .i64 e.size,S e.digest,.slice ax e.exts.length cx] 26)) (.cells #[.slice none 0 0,.slice none 0 0] 103);simpa using this)
    have heb:EntB ((w.alloc (.cells #[.slice at' s.tree.length ct,.slice ah s.holds.length ch] 103)).alloc (.cells #[.int .i64 e.kind,S e.path,.slice aa e.attrs.length ca,S e.target,.int .i64 e.size,S e.digest,.slice ax e.exts.length cx] 26)) (w.heap.size+1) e (.slice aa e.attrs.length ca) (.slice ax e.exts.length cx):=entB (by simp) (Qb _ _)
    have AW1:=Qh (ApW.mk (Xaa hb1 (Xab _ (Xab _ (by simp)))) (Xaa hb1 (Xab _ (Xab _ (by simp)))) ((heb.past _).thru hb1) hrow:ApW w.heap.size w1 (.slice at' s.tree.length ct) (.slice ah s.holds.length ch) e (.slice aa e.attrs.length ca) (.slice ax e.exts.length cx))
    have hb1':Below w.heap.size w w1:=((((Qb w.heap.size w).alloc (Qn _) (.cells #[.slice at' s.tree.length ct,.slice ah s.holds.length ch] 103)).alloc (by simp) (.cells #[.int .i64 e.kind,S e.path,.slice aa e.attrs.length ca,S e.target,.int .i64 e.size,S e.digest,.slice ax e.exts.length cx] 26)).alloc (by simp;omega) (.cells #[.slice none 0 0,.slice none 0 0] 103)).trans (hb1.mono (by simp;omega))
    have hx1':Ext (w.heap.size+1+1+1) I I1:=hx1.mono (by simp)
    have hkp:=(hx1'.mono (show w.heap.size≤_ by omega)).keep hw (Qn _)
    have Hx1:=Qh hx1'
    have Hr2:=Qh hr2
    have HG1:=Qh (HG.out.mono hkp)
    have Hvt1:=Qh (Hvt.out.mono hkp)
    have Hvh1:=Qh (Hvh.out.mono hkp)
    have Hva1:=Qh (Hva.out.mono hkp)
    have Hvx1:=Qh (Hvx.out.mono hkp)
    obtain ⟨a2,c2',rfl,_,_,_⟩:=id hr2
    clear hb1 hrow heb hx1 hx1' hkp hr2 Ha
    obtain ⟨s0,s1,⟨c0,c1,c2,c3,c4,c5,c6⟩,_⟩:=AW1.out
    go_wp2_with fail
    refine (Xda I1 e _ _ Hva1.out Hvx1.out w1).mono ?_
    rintro e2 w2 ⟨rfl,hb2⟩
    rw [Hcr.out]
    have hok2:Ok I1 w2:=hok1.below (Qn _) hb2
    have AW2:=Qh (AW1.out.thru hb2)
    have hb2':=hb1'.trans (hb2.mono hb1'.size)
    clear hb2 hb1' AW1 hok1 s0 s1 c0 c1 c2 c3 c4 c5 c6
    obtain ⟨s0,s1,⟨c0,c1,c2,c3,c4,c5,c6⟩,_⟩:=AW2.out
    go_wp2_with fail
    refine (Xrw I1 _ _ s.tree s.holds Hvt1.out Hvh1.out e.path w2 hok2).mono ?_
    rintro e3 w3 ⟨rfl,hb3⟩
    rw [Hgt.out]
    have hok3:Ok I1 w3:=hok2.below (Qn _) hb3
    have AW3:=Qh (AW2.out.thru hb3)
    have hb3':=hb2'.trans (hb3.mono hb2'.size)
    clear hb3 hb2' AW2 hok2 s0 s1 c0 c1 c2 c3 c4 c5 c6
    obtain ⟨s0,s1,⟨c0,c1,c2,c3,c4,c5,c6⟩,_⟩:=AW3.out
    go_wp2_with fail
    refine (Xeb I1 HG1.out _ s.holds Hvh1.out Hk.out hnh e _ _ Hva1.out Hvx1.out hpl d w3 hok3).mono ?_
    rintro e4 w4 ⟨rfl,hb4⟩
    rw [Hal.out]
    have hok4:Ok I1 w4:=hok3.below (Qn _) hb4
    have AW4:=Qh (AW3.out.thru hb4)
    have hb4':=hb3'.trans (hb4.mono hb3'.size)
    clear hb4 hb3' AW3 hok3 s0 s1 c0 c1 c2 c3 c4 c5 c6
    obtain ⟨s0,s1,⟨c0,c1,c2,c3,c4,c5,c6⟩,_⟩:=AW4.out
    have r0:w4.cell? ⟨w.heap.size+1+1,0,none⟩=some (.slice none 0 0):=(cell_of_row w4 _ 0 _ _ _ AW4.out.row).trans rfl
    have r1:w4.cell? ⟨w.heap.size+1+1,1,none⟩=some (.slice none 0 0):=(cell_of_row w4 _ 1 _ _ _ AW4.out.row).trans rfl
    have f0:=frozen_of_row w4 _ 0 _ _ AW4.out.row
    have f1:=frozen_of_row w4 _ 1 _ _ AW4.out.row
    go_wp2
    have hW:=heap_setCell_same _ (w.heap.size+1+1) 1 _ _ (.slice ah s.holds.length ch) (heap_setCell_same w4 (w.heap.size+1+1) 0 _ _ (.slice at' s.tree.length ct) AW4.out.row)
    refine bodyPost_ret (v:= .tuple #[sttV (.slice at' s.tree.length ct) (.slice ah s.holds.length ch),.int .i64 al]) ?_ rfl ?_
    ·rw [results_cell_tmp rfl]
     simp [asAddr,run_loadVar_row _ (w.heap.size+1+1) 103 103 #[(.slice at' s.tree.length ct),(.slice ah s.holds.length ch)] (0,0) _ hW Tryz.underlying103 rfl Hi2.out]
    ·rw [Hn.out]
     have hfr:I1 (w.heap.size+1+1)=none:=(Hx1.out _ (by omega)).trans (hw.fresh (by omega))
     exact ⟨_,_,I1,rfl,(hb4'.setCell (by simp;omega) _).setCell (by simp;omega) _,Ext.mono Hx1.out (by omega),(Ok.setCell hok4 hfr _).setCell hfr _,Hvt1.out,Hvh1.out⟩
theorem Xdg {W:World} {n:Nat} {u v x:Value} {a:Addr} (h:W.cell? a=some x) (hne:a.block≠n):((W.setCell ⟨n,0,none⟩ u).setCell ⟨n,1,none⟩ v).cell? a=some x:=by
 rw [World.cell?_of_block (Below.heap_setCell _ _ _ _ hne),World.cell?_of_block (Below.heap_setCell _ _ _ _ hne)];exact h
theorem SesB.set2 {W:World} {n b:Nat} {u v:Value} {s:Ses} {ve:Value} (h:SesB W b s ve) (hne:b≠n):SesB ((W.setCell ⟨n,0,none⟩ u).setCell ⟨n,1,none⟩ v) b s ve:=
 ⟨Xdg h.c0 hne,Xdg h.c1 hne,Xdg h.c2 hne,Xdg h.c3 hne,Xdg h.c4 hne,Xdg h.c5 hne⟩
theorem Xvi {s:Stt} {e:Ent} {d:Int} (h:(stpP s e d).2=0):∀x∈e.exts,XtB x:=(Xbf (step_ok h).2.2).xts
theorem Xeg {I:IH} (W:World) (n:Nat) (hn:n=W.heap.size):OwnS tHo 227 I (W.alloc (.cells #[] 227)) n (.slice (some ⟨n,0,none⟩) 0 0) []:=by
 subst hn
 exact ⟨[],World.ownsRow_made W #[] 0 (Qn _) (Nat.zero_le _) (by simp),LiesL.nil _ _⟩
theorem Xp8 {l:List Ho} {p:Bytes} {d:Int} {k:Nat} (hk:k<l.length) {x:Ho} (hx:l[k]=x):heldP (l.take (k+1)) p d=(heldP (l.take k) p d || (decide (d≤x.u)&&under p x.p)):=by
 rw [List.take_succ_eq_append_getElem hk,hx]
 simp [heldP,actP]
theorem Xn2 {l:List Ho} {p:Bytes} {d:Int} {k:Nat} (hk:k<l.length) {x:Ho} (hx:l[k]=x):belowP (l.take (k+1)) p d=(belowP (l.take k) p d || (decide (d≤x.u)&&under x.p p)):=by
 rw [List.take_succ_eq_append_getElem hk,hx]
 simp [belowP,actP]
theorem Xrz {l:List Ho} {p:Bytes} {d:Int} {k:Nat} (hk:k<l.length) {x:Ho} (hx:l[k]=x) (h1:decide (d≤x.u)=true) (h2:under p x.p=true):heldP l p d=true:=by
 unfold heldP
 rw [List.any_eq_true]
 exact ⟨x,List.mem_filter.2 ⟨by rw [←hx];exact List.getElem_mem hk,h1⟩,h2⟩
theorem Xql {l:List Ho} {p:Bytes} {d:Int} {k:Nat} (hk:k<l.length) {x:Ho} (hx:l[k]=x) (h1:decide (d≤x.u)=true) (h2:under x.p p=true):belowP l p d=true:=by
 unfold belowP
 rw [List.any_eq_true]
 exact ⟨x,List.mem_filter.2 ⟨by rw [←hx];exact List.getElem_mem hk,h1⟩,h2⟩
theorem Xqq {p:Bytes} {l:List Ho} {k:Nat} {u U:Int} {x:Ho} (hk:k<l.length) (hx:l[k]=x) (h:wasH p (l.drop k) u=U):wasH p (l.drop (k+1)) (if x.p=p then x.u else u)=U:=by
 rw [List.drop_eq_getElem_cons hk,hx,wasH] at h;exact h
set_option maxRecDepth 100000 in
set_option maxHeartbeats 1000000 in
theorem Xkv (I:IH) (v:Value) (l:List Ho) (hv:RdS tHo I v l) (hn:l.length≤100000) (d:Int) (w:World) (hw:Ok I w):
 Calls Tryz.prog 211 #[v,.int .i64 d] w fun e w'=> ∃v',e= .returned v'∧OwnS tHo 227 I w' w.heap.size v' (actP l d)∧Below w.heap.size w w':=by
 obtain ⟨ao,cap,rfl,hcap,hcm,_⟩:=id hv
 have Hv:=Qh hv;clear hv
 have H0:=Qh (Xeg (I:=I) w w.heap.size rfl)
 go_enter Tryz.func211,Tryz.ntmps211
 go_wp2_with fail
 go_loopw [5,6] (fun s5 s6 wr=> ∃k:Nat,k≤l.length∧s6= .int .i64 k∧OwnS tHo 227 I wr w.heap.size s5 (actP (l.take k) d)∧Below w.heap.size w wr) (fun _ i _=>l.length-(intOf i).toNat)
 case atStart=>exact ⟨0,Nat.zero_le _,rfl,H0.out,(Qb _ _).alloc (Qn _) _⟩
 case round=>
  clear H0
  obtain ⟨k,hk,rfl,hown,hb⟩:=hrel
  have Hown:=Qh hown
  clear hown
  have hfl:(actP (l.take k) d).length≤k:=Nat.le_trans (List.length_filter_le _ _) (by simp;omega)
  by_cases hlt:k<l.length
  ·obtain ⟨x,b,off,cap',hlx,hvv,c0,c1⟩:=hoAt Hv.out (hw.below (Qn _) hb) k hlt
   cases hvv
   have Hst:=Qh (Xf3 (fun h=>decide (d≤h.u)) hlt hlx)
   clear hlx
   cases hq:decide (d≤x.u)
   ·have Hn:=Qh (show actP (l.take (k+1)) d=actP (l.take k) d from Xnk Hst.out hq)
    go_wp2
    go_roundw
    case rel=>exact ⟨k+1,by omega,by go_num,Hown.out.castH Hn.out.symm,hb⟩
    case measure=>simp [intOf];omega
   ·have Hn:=Qh (show actP (l.take (k+1)) d=actP (l.take k) d++ [x] from Xj3 Hst.out hq)
    have hs1:=hb.size
    go_wp2_with (at_builtin;refine Xad (w0:=wr) Xbq rfl _ _ rfl _ _ _ rfl Hown.out x [S x.p,.int .i64 x.u] _ rfl rfl (by omega) (by omega) hs1 ?_)
    intro v9 w9 hown9 hg9
    have hb9:=Below.own hb hg9 Hown.out (Qn _) hs1
    go_wp2
    go_roundw
    case rel=>exact ⟨k+1,by omega,by go_num,hown9.castH Hn.out.symm,hb9⟩
    case measure=>simp [intOf];omega
  ·have hall:l.take k=l:=List.take_of_length_le (by omega)
   rw [hall] at Hown
   clear hall hfl
   go_wp2
   go_ret
   exact ⟨_,rfl,Hown.out,hb⟩
set_option maxRecDepth 100000 in
set_option maxHeartbeats 1000000 in
theorem Xpu (I:IH) (v:Value) (l:List Ho) (hv:RdS tHo I v l) (hn:l.length≤100000) (p:Bytes) (d:Int) (w:World) (hw:Ok I w):
 Calls Tryz.prog 210 #[v,S p,.int .i64 d] w fun e w'=>e= .returned (.bool (heldP l p d))∧Below w.heap.size w w':=by
 obtain ⟨ao,cap,rfl,hcap,hcm,_⟩:=id hv
 have Hv:=Qh hv;clear hv
 go_enter Tryz.func210,Tryz.ntmps210
 go_wp2_with fail
 go_loopw [7] (fun s7 wr=> ∃k:Nat,k≤l.length∧s7= .int .i64 k∧heldP (l.take k) p d=false∧Below w.heap.size w wr) (fun i _=>l.length-(intOf i).toNat)
 case atStart=>exact ⟨0,Nat.zero_le _,rfl,rfl,Qb _ _⟩
 case round=>
  obtain ⟨k,hk,rfl,hr,hb⟩:=hrel
  have Hr:=Qh hr;clear hr
  have hwr:Ok I wr:=hw.below (Qn _) hb
  by_cases hlt:k<l.length
  ·obtain ⟨x,b,off,cap',hlx,hvv,c0,c1⟩:=hoAt Hv.out hwr k hlt
   cases hvv
   have Hst:=Qh (Xp8 (p:=p) (d:=d) hlt hlx)
   have Hlx:=Qh hlx
   have Hun:=Qh (fun w hw=>Xdi I p x.p w hw)
   clear hlx
   cases hq:decide (d≤x.u)
   ·have Hn:=Qh (show heldP (l.take (k+1)) p d=false by rw [Hst.out,Hr.out,hq];rfl)
    go_wp2
    go_roundw
    case rel=>exact ⟨k+1,by omega,by go_num,Hn.out,hb⟩
    case measure=>simp [intOf];omega
   ·go_wp2_with fail
    refine (Hun.out _ hwr).mono ?_
    rintro e1 w1 ⟨rfl,hb1⟩
    have hb1':=hb.trans (hb1.mono hb.size)
    clear hb1
    cases hu:under p x.p
    ·have Hn:=Qh (show heldP (l.take (k+1)) p d=false by rw [Hst.out,Hr.out,hq,hu];rfl)
     go_wp2
     go_roundw
     case rel=>exact ⟨k+1,by omega,by go_num,Hn.out,hb1'⟩
     case measure=>simp [intOf];omega
    ·have Hn:=Qh (Xrz (p:=p) (d:=d) hlt Hlx.out hq hu)
     go_wp2
     go_ret
     exact ⟨Xan Hn.out.symm,hb1'⟩
  ·have Hn:=Qh (show heldP l p d=false by have:=Hr.out;rwa [List.take_of_length_le (by omega)] at this)
   go_wp2
   go_ret
   exact ⟨Xan Hn.out.symm,hb⟩
set_option maxRecDepth 100000 in
set_option maxHeartbeats 2000000 in
theorem Xb7 (I:IH) (v:Value) (l:List Ho) (hv:RdS tHo I v l) (hn:l.length≤100000) (e:Ent) (va vx:Value) (hva:RdS tAt I va e.attrs) (hvx:RdS tXt I vx e.exts) (d:Int) (w:World) (hw:Ok I w):
 Calls Tryz.prog 145 #[v,entV e va vx,.int .i64 d] w fun r w'=>r= .returned (.int .i64 (alwP l e.kind e.path d))∧Below w.heap.size w w':=by
 have Hh:=Qh (fun w hw=>Xpu I v l hv hn e.path d w hw)
 obtain ⟨ao,cap,rfl,hcap,hcm,_⟩:=id hv
 obtain ⟨aa,ca,rfl,_,_,_⟩:=id hva
 obtain ⟨ax,cx,rfl,_,_,_⟩:=id hvx
 have Hv:=Qh hv
 clear hv hva hvx
 by_cases h1:e.kind=1
 ·have k1:((e.kind:Int)==1)=true:=by simpa using h1
  have k4:((e.kind:Int)==4)=false:=by have:e.kind≠4:=by omega
                                      simpa using this
  have Hn:=Qh (show alwP l e.kind e.path d=if heldP l e.path d then 15 else 0 by rw [alwP,if_pos (.inl h1)])
  generalize heldP l e.path d=b at Hh Hn
  clear h1
  go_enter Tryz.func145,Tryz.ntmps145
  go_wp2_with fail
  refine (Hh.out _ (hw.alloc _)).mono ?_
  rintro e1 w1 ⟨rfl,hb1⟩
  have HB1:=Qh (entB (e:=e) rfl hb1)
  have hok1:Ok I w1:=(hw.alloc _).below (Qn _) hb1
  have hb1':=((Qb w.heap.size w).alloc (Qn _) (.cells #[.int .i64 e.kind,S e.path,.slice aa e.attrs.length ca,S e.target,.int .i64 e.size,S e.digest,.slice ax e.exts.length cx] 26)).trans (hb1.mono (by simp))
  clear hb1
  obtain ⟨c0,c1,c2,c3,c4,c5,c6⟩:=HB1.out
  cases b
  ·go_wp2
   go_ret
   exact ⟨Xac Hn.out.symm,hb1'⟩
  ·go_wp2
   go_ret
   exact ⟨Xac Hn.out.symm,hb1'⟩
 have k1:((e.kind:Int)==1)=false:=by simpa using h1
 by_cases h2:e.kind=2
 ·have k2:((e.kind:Int)==2)=true:=by simpa using h2
  have k4:((e.kind:Int)==4)=false:=by have:e.kind≠4:=by omega
                                      simpa using this
  have Hn:=Qh (show alwP l e.kind e.path d=if heldP l e.path d then 15 else 0 by rw [alwP,if_pos (.inr (.inl h2))])
  generalize heldP l e.path d=b at Hh Hn
  clear h1 h2
  go_enter Tryz.func145,Tryz.ntmps145
  go_wp2_with fail
  refine (Hh.out _ (hw.alloc _)).mono ?_
  rintro e1 w1 ⟨rfl,hb1⟩
  have HB1:=Qh (entB (e:=e) rfl hb1)
  have hok1:Ok I w1:=(hw.alloc _).below (Qn _) hb1
  have hb1':=((Qb w.heap.size w).alloc (Qn _) (.cells #[.int .i64 e.kind,S e.path,.slice aa e.attrs.length ca,S e.target,.int .i64 e.size,S e.digest,.slice ax e.exts.length cx] 26)).trans (hb1.mono (by simp))
  clear hb1
  obtain ⟨c0,c1,c2,c3,c4,c5,c6⟩:=HB1.out
  cases b
  ·go_wp2
   go_ret
   exact ⟨Xac Hn.out.symm,hb1'⟩
  ·go_wp2
   go_ret
   exact ⟨Xac Hn.out.symm,hb1'⟩
 have k2:((e.kind:Int)==2)=false:=by simpa using h2
 by_cases h3:e.kind=3
 ·have k3:((e.kind:Int)==3)=true:=by simpa using h3
  have k4:((e.kind:Int)==4)=false:=by have:e.kind≠4:=by omega
                                      simpa using this
  have Hn:=Qh (show alwP l e.kind e.path d=if heldP l e.path d then 15 else 0 by rw [alwP,if_pos (.inr (.inr h3))])
  generalize heldP l e.path d=b at Hh Hn
  clear h1 h2 h3
  go_enter Tryz.func145,Tryz.ntmps145
  go_wp2_with fail
  refine (Hh.out _ (hw.alloc _)).mono ?_
  rintro e1 w1 ⟨rfl,hb1⟩
  have HB1:=Qh (entB (e:=e) rfl hb1)
  have hok1:Ok I w1:=(hw.alloc _).below (Qn _) hb1
  have hb1':=((Qb w.heap.size w).alloc (Qn _) (.cells #[.int .i64 e.kind,S e.path,.slice aa e.attrs.length ca,S e.target,.int .i64 e.size,S e.digest,.slice ax e.exts.length cx] 26)).trans (hb1.mono (by simp))
  clear hb1
  obtain ⟨c0,c1,c2,c3,c4,c5,c6⟩:=HB1.out
  cases b
  ·go_wp2
   go_ret
   exact ⟨Xac Hn.out.symm,hb1'⟩
  ·go_wp2
   go_ret
   exact ⟨Xac Hn.out.symm,hb1'⟩
 have k3:((e.kind:Int)==3)=false:=by simpa using h3
 have hno:¬(e.kind=1∨e.kind=2∨e.kind=3):=fun q=>by omega
 by_cases h4:e.kind=4
 case neg=>
  have k4:((e.kind:Int)==4)=false:=by simpa using h4
  have Hn:=Qh (show alwP l e.kind e.path d=0 by rw [alwP,if_neg hno,if_neg h4])
  clear h1 h2 h3 h4 hno
  go_enter Tryz.func145,Tryz.ntmps145
  go_wp2
  go_ret
  exact ⟨Xac Hn.out.symm,(Qb w.heap.size w).alloc (Qn _) _⟩
 have k4:((e.kind:Int)==4)=true:=by simpa using h4
 have Hn:=Qh (show alwP l e.kind e.path d=if heldP l e.path d || belowP l e.path d then 15 else 0 by rw [alwP,if_neg hno,if_pos h4])
 clear h1 h2 h3 h4 hno
 generalize heldP l e.path d=b at Hh Hn
 go_enter Tryz.func145,Tryz.ntmps145
 go_wp2_with fail
 refine (Hh.out _ (hw.alloc _)).mono ?_
 rintro e1 w1 ⟨rfl,hb1⟩
 have HB1:=Qh (entB (e:=e) rfl hb1)
 have hok1:Ok I w1:=(hw.alloc _).below (Qn _) hb1
 have hb1':=((Qb w.heap.size w).alloc (Qn _) (.cells #[.int .i64 e.kind,S e.path,.slice aa e.attrs.length ca,S e.target,.int .i64 e.size,S e.digest,.slice ax e.exts.length cx] 26)).trans (hb1.mono (by simp))
 clear hb1
 obtain ⟨c0,c1,c2,c3,c4,c5,c6⟩:=HB1.out
 cases b
 case true=>
  go_wp2
  go_ret
  exact ⟨Xac Hn.out.symm,hb1'⟩
 go_wp2_with fail
 clear c0 c1 c2 c3 c4 c5 c6
 go_loopw [8] (fun s8 wr=> ∃k:Nat,k≤l.length∧s8= .int .i64 k∧belowP (l.take k) e.path d=false∧Below w1.heap.size w1 wr) (fun i _=>l.length-(intOf i).toNat)
 case atStart=>exact ⟨0,Nat.zero_le _,rfl,rfl,Qb _ _⟩
 case round=>
  obtain ⟨k,hk,rfl,hr,hb⟩:=hrel
  have Hr:=Qh hr;clear hr
  have hwr:Ok I wr:=hok1.below (Qn _) hb
  have hb':=hb1'.trans (hb.mono hb1'.size)
  by_cases hlt:k<l.length
  ·obtain ⟨x,b,off,cap',hlx,hvv,x0,x1⟩:=hoAt Hv.out hwr k hlt
   cases hvv
   have Hst:=Qh (Xn2 (p:=e.path) (d:=d) hlt hlx)
   have Hlx:=Qh hlx
   have Hun:=Qh (fun w hw=>Xdi I x.p e.path w hw)
   obtain ⟨c0,c1,c2,c3,c4,c5,c6⟩:=HB1.out.thru hb
   have g1:=cell_regrown c1
   have y0:=cell_regrown x0
   have y1:=cell_regrown x1
   clear hlx c0 c1 c2 c3 c4 c5 c6 x0 x1
   cases hq:decide (d≤x.u)
   ·have Hn2:=Qh (show belowP (l.take (k+1)) e.path d=false by rw [Hst.out,Hr.out,hq];rfl)
    go_wp2_with fail
    refine wp_region_quiet_below (by kernel_rfl) (by kernel_rfl) ?_
    repeat (go_big_quiet_step ((fail)))
    refine wpQuiet_nil ?_
    intro w2 hwq
    have hb2:Below (wr).heap.size (wr) w2:=by
     obtain ⟨pq,rfl⟩:=hwq
     exact below_regrown _ _ _
    clear hwq
    go_wp2
    go_roundw
    case rel=>exact ⟨k+1,by omega,by go_num,Hn2.out,hb.trans (hb2.mono hb.size)⟩
    case measure=>simp [intOf];omega
   ·go_wp2_with fail
    refine wp_region_quiet_below (by kernel_rfl) (by kernel_rfl) ?_
    repeat (go_big_quiet_step ((with_reducible exact Calls.regrown_of (Hun.out _ (hwr.below (Qn _) (below_regrown _ _ _))))))
    refine wpQuiet_nil ?_
    intro w2 hwq
    have hb2:Below (wr).heap.size (wr) w2:=by
     obtain ⟨pq,rfl⟩:=hwq
     exact below_regrown _ _ _
    clear hwq
    have hb2':=hb.trans (hb2.mono hb.size)
    cases hu:under x.p e.path
    ·have Hn2:=Qh (show belowP (l.take (k+1)) e.path d=false by rw [Hst.out,Hr.out,hq,hu];rfl)
     go_wp2
     go_roundw
     case rel=>exact ⟨k+1,by omega,by go_num,Hn2.out,hb2'⟩
     case measure=>simp [intOf];omega
    ·have Hn2:=Qh (show alwP l e.kind e.path d=15 by rw [Hn.out,Xql hlt Hlx.out hq hu];rfl)
     go_wp2
     go_ret
     exact ⟨Xac Hn2.out.symm,hb'.trans (hb2.mono hb'.size)⟩
  ·have Hn2:=Qh (show alwP l e.kind e.path d=0 by
    have:=Hr.out
    rw [List.take_of_length_le (by omega)] at this
    rw [Hn.out,this];rfl)
   go_wp2
   go_ret
   exact ⟨Xac Hn2.out.symm,hb'⟩
set_option maxRecDepth 100000 in
set_option maxHeartbeats 1000000 in
theorem Xe6 (I:IH) (v:Value) (l:List Ho) (hv:RdS tHo I v l) (hn:l.length≤100000) (p:Bytes) (w:World) (hw:Ok I w):
 Calls Tryz.prog 213 #[v,S p] w fun e w'=> ∃v',e= .returned (.tuple #[v',.int .i64 (wasH p l (-1))])∧OwnS tHo 227 I w' w.heap.size v' (restH l p)∧Below w.heap.size w w':=by
 obtain ⟨ao,cap,rfl,hcap,hcm,_⟩:=id hv
 have Hv:=Qh hv;clear hv
 have H0:=Qh (Xeg (I:=I) w w.heap.size rfl)
 obtain ⟨U,hU⟩:∃U,wasH p l (-1)=U:=⟨_,rfl⟩
 rw [hU]
 have HU:=Qh hU
 clear hU
 go_enter Tryz.func213,Tryz.ntmps213
 go_wp2_with fail
 go_loopw [6,7,8] (fun s6 s7 s8 wr=> ∃(k:Nat) (u:Int),k≤l.length∧s8= .int .i64 k∧s7= .int .i64 u∧wasH p (l.drop k) u=U∧OwnS tHo 227 I wr w.heap.size s6 (restH (l.take k) p)∧Below w.heap.size w wr) (fun _ _ i _=>l.length-(intOf i).toNat)
 case atStart=>exact ⟨0,-1,Nat.zero_le _,rfl,rfl,HU.out,H0.out,(Qb _ _).alloc (Qn _) _⟩
 case round=>
  clear H0
  obtain ⟨k,u,hk,rfl,rfl,hu,hown,hb⟩:=hrel
  have Hown:=Qh hown
  have Hu:=Qh hu
  clear hown hu
  have hfl:(restH (l.take k) p).length≤k:=Nat.le_trans (List.length_filter_le _ _) (by simp;omega)
  by_cases hlt:k<l.length
  ·obtain ⟨x,b,off,cap',hlx,hvv,c0,c1⟩:=hoAt Hv.out (hw.below (Qn _) hb) k hlt
   cases hvv
   have Hst:=Qh (Xf3 (fun h=> !(h.p==p)) hlt hlx)
   have Hsu:=Qh (Xqq hlt hlx Hu.out)
   clear hlx Hu
   cases hq:(x.p==p)
   ·have Hn:=Qh (show restH (l.take (k+1)) p=restH (l.take k) p++ [x] from Xj3 Hst.out (by rw [hq];rfl))
    have Hn2:=Qh (show wasH p (l.drop (k+1)) u=U by have:=Hsu.out;rwa [if_neg (by simpa using hq)] at this)
    have hs1:=hb.size
    go_wp2_with (at_builtin;refine Xad (w0:=wr) Xbq rfl _ _ rfl _ _ _ rfl Hown.out x [S x.p,.int .i64 x.u] _ rfl rfl (by omega) (by omega) hs1 ?_)
    intro v9 w9 hown9 hg9
    have hb9:=Below.own hb hg9 Hown.out (Qn _) hs1
    go_wp2
    go_roundw
    case rel=>exact ⟨k+1,u,by omega,by go_num,rfl,Hn2.out,hown9.castH Hn.out.symm,hb9⟩
    case measure=>simp [intOf];omega
   ·have Hn:=Qh (show restH (l.take (k+1)) p=restH (l.take k) p from Xnk Hst.out (by rw [hq];rfl))
    have Hn2:=Qh (show wasH p (l.drop (k+1)) x.u=U by have:=Hsu.out;rwa [if_pos (by simpa using hq)] at this)
    go_wp2
    go_roundw
    case rel=>exact ⟨k+1,x.u,by omega,by go_num,rfl,Hn2.out,Hown.out.castH Hn.out.symm,hb⟩
    case measure=>simp [intOf];omega
  ·have hall:l.take k=l:=List.take_of_length_le (by omega)
   have hend:u=U:=by have:=Hu.out;rwa [List.drop_of_length_le (by omega)] at this
   rw [hall] at Hown
   subst hend
   clear hall hfl
   go_wp2
   go_ret2
   exact ⟨_,rfl,Hown.out,hb⟩
set_option maxRecDepth 100000 in
set_option maxHeartbeats 1000000 in
theorem Xpv (s:Bytes) (hd:dateOk s=true) (w:World):
 Calls Tryz.prog 212 #[S s] w fun e w'=>e= .returned (.int .i64 (digits s))∧Below w.heap.size w w':=by
 obtain ⟨ha,hne,hall,hz⟩:=Xkc hd
 have hbd:=(Xfo hd).2
 have hlen:=List.length_pos_iff.2 hne
 obtain ⟨p1,p2,p3,p4⟩:=Xcw hne
 have h10:=Xf6 hd
 have d10:decide (10<s.length)=false:=Qf (by omega)
 have hx0:=run_at (P:=Tryz.prog) Tryz.underlying9 s 0 0 rfl hlen
 have Hall:=Qh hall
 have hcase:(¬1<s.length∧decide (1<s.length)=false)∨(1<s.length∧decide (1<s.length)=true∧(((s.getD 0 0).toNat:Int)==48)=false):=by
  by_cases h5:1<s.length
  ·right
   refine ⟨h5,Qt h5,?_⟩
   have:((s.getD 0 0).toNat:Int)≠48:=fun e=>by
    have:=hz (by omega)
    rw [this] at h5
    simp at h5
   simpa using this
  ·exact .inl ⟨h5,Qf h5⟩
 obtain ⟨U,hU⟩:∃U,digits s=U:=⟨_,rfl⟩
 have HU:=Qh hU
 rw [hU] at hbd ⊢
 have dU:decide (1000000000<U)=false:=Qf (by omega)
 generalize (s.getD 0 0).toNat=c0 at hx0 hcase
 clear ha hne hall hz hd hU
 rcases hcase with ⟨h5,hd3⟩|⟨h5,hd3,he3⟩
 all_goals
  go_enter Tryz.func212,Tryz.ntmps212
  go_wp2_with fail
  go_loop [3,4] (fun s3 s4=> ∃k:Nat,k≤s.length∧s4= .int .i64 k∧s3= .int .i64 (digits (s.take k))) (fun _ i=>s.length-(intOf i).toNat)
  case atStart=>exact ⟨0,Nat.zero_le _,rfl,rfl⟩
  case round=>
   obtain ⟨k,hk,rfl,rfl⟩:=hrel
   have hdb:=Xl3 k (s.take k) (by rw [List.length_take];omega) (List.all_eq_true.2 fun c hc=>List.all_eq_true.1 Hall.out c (List.mem_of_mem_take hc))
   by_cases hlt:k<s.length
   ·have hx:=run_at (P:=Tryz.prog) Tryz.underlying9 s (k:Int) k rfl hlt
    have hpk:(10:Int) ^ k≤10000000000:=by
     have:(10:Nat) ^ k≤10 ^ 10:=Nat.pow_le_pow_right (by decide) (by omega)
     have h2:((10 ^ k:Nat):Int)≤((10 ^ 10:Nat):Int):=by exact_mod_cast this
     simpa using h2
    have htk:s.take (k+1)=s.take k++ [s.getD k 0]:=by rw [List.take_succ_eq_append_getElem hlt];simp [List.getD,hlt]
    have hds:digits (s.take (k+1))=10*digits (s.take k)+(((s.getD k 0).toNat:Int)-48):=by rw [htk,Xez]
    have hmem:s.getD k 0∈s:=by simp [List.getD,hlt]
    obtain ⟨b1,b2⟩:=Xc4 (List.all_eq_true.1 Hall.out _ hmem)
    clear htk hmem
    generalize (s.getD k 0).toNat=c at hx hds b1 b2
    generalize digits (s.take k)=n at hdb hds ⊢
    generalize ((10:Int) ^ k)=p10 at hdb hpk
    have Hds:=Qh hds
    have e48:decide ((c:Int)<48)=false:=Qf (by omega)
    have e57:decide (57<(c:Int))=false:=Qf (by omega)
    have m1:IntKind.u8.wrap ((c:Int)-48)=(c:Int)-48:=IntWalk.u8_in _ (by omega)
    have m2:IntKind.i64.wrap ((c:Int)-48)=(c:Int)-48:=IntWalk.i64_in _ (by omega)
    clear hds
    go_wp2
    go_round
    case rel=>exact ⟨k+1,by omega,by go_num,by rw [Hds.out]⟩
    case measure=>simp [intOf];omega
   ·have hend:digits (s.take k)=U:=by rw [List.take_of_length_le (by omega)];exact HU.out
    rw [hend]
    clear hend hdb
    go_wp2
    go_ret
    exact ⟨rfl,Qb _ _⟩
end Go.Proofs.YtdodihnehppnmaaGreatDoor
