/-
  Walks and laws that the claim's theorem uses: texts RhA Dat AtBx ShT AtK AtL PeA RowK RhB, joined; comments out. Conditions: as each theorem says.
-/
import Derived.Test.YtjdednajelommaaGreatDoorQ04
import Derived.Lib.AtoiAll
import Derived.Lib.ItoaNum
import Derived.Shelf.Strings.SlTrimAscii
import Derived.Test.YtjdednajelommaaGreatDoorProg
import Derived.Lib.SmallJoins
import Derived.Lib.AppendIntMem
import Derived.Shelf.Spec.SlicesInsert
import Derived.Lib.AppendZerosOnto
namespace Go.Proofs.YtjdednajelommaaGreatDoor
open Go.RowKit
def tHo:Ty Ho:=Ty.flat 2 (fun x=> [S x.p,.int .i64 x.u]) (fun _=>rfl) (fun _ u h=>by simp at h;rcases h with rfl|rfl<;>rfl)
theorem hoAt {I:IH} {v:Value} {l:List Ho} {w:World} (h:RdS tHo I v l) (hw:Ok I w) (i:Nat) (hi:i<l.length):∃x b off cap,l[i]=x∧v= .slice (some ⟨b,off,none⟩) l.length cap∧
 w.cell? ⟨b,off+i*2,none⟩=some (S x.p)∧w.cell? ⟨b,off+i*2+1,none⟩=some (.int .i64 x.u):=by
 obtain ⟨b,off,cap,cs,hv,hcs,hc⟩:=h.at_ hw hi
 have hcs':cs= [S l[i].p,.int .i64 l[i].u]:=hcs
 subst hcs'
 exact ⟨_,b,off,cap,rfl,hv,hc 0 _ rfl,hc 1 _ rfl⟩
theorem Xjl:(Tryz.prog.info? 132).map (fun i=>(i.zero,i.size,i.bytes))=some (some (.agg #[.string ⟨#[]⟩,.int .i64 0]),2,24):=by kernel_rfl
theorem Xwk:ElemOk Tryz.prog 44 132 tHo 24:=ElemOk.of Tryz.underlying44 Xjl rfl (by decide) rfl
abbrev hoV (x:Ho):Value:= .agg #[S x.p,.int .i64 x.u]
def PredH (g:Nat) (cb:Array Value) (l:List Ho) (p:Ho→Bool) (C:World→Prop):Prop:=
 ∀x∈l,∀W:World,C W→Calls Tryz.prog g (#[hoV x]++cb) W fun e w'=>e= .returned (.bool (p x))∧Below W.heap.size W w'
theorem Xpm (f:Ho→Bool) {a:List Ho} {k:Nat} (hk:k<a.length) {x:Ho} (hx:a[k]=x):(a.take (k+1)).filter f=(a.take k).filter f++(if f x=true then [x] else []):=by
 rw [List.take_succ_eq_append_getElem hk,hx,List.filter_append]
 cases h:f x<;>simp [h]
theorem Xtp {α:Type} {T U:List α} {c:Bool} {p:α} (h:T=U++(if c=true then [p] else [])) (hc:c=true):T=U++ [p]:=by rw [h,if_pos hc]
theorem Xwj {α:Type} {T U:List α} {c:Bool} {p:α} (h:T=U++(if c=true then [p] else [])) (hc:c=false):T=U:=by rw [h,hc,if_neg (by simp),List.append_nil]
theorem OwnS.castH {α:Type} {T:Ty α} {E:TypeId} {I:IH} {w:World} {B:Nat} {v:Value} {l l':List α} (h:OwnS T E I w B v l) (e:l=l'):OwnS T E I w B v l':=e▸h
set_option maxRecDepth 100000 in
set_option maxHeartbeats 1000000 in
theorem Xcg (I:IH) (v:Value) (l:List Ho) (hv:RdS tHo I v l) (hn:l.length≤100000) (g:Nat) (cb:Array Value) (p:Ho→Bool) (w:World) (hw:Ok I w) (eg:∀args w,(callFunc g args).run Tryz.prog w= .ok (.enter g args) w) (hp:PredH g cb l p (Below w.heap.size w)):
 Calls Tryz.prog 77 #[v,.func (.func g) #[] cb] w fun e w'=> ∃v',e= .returned v'∧OwnS tHo 132 I w' w.heap.size v' (l.filter p)∧Below w.heap.size w w':=by
 obtain ⟨ao,cap,rfl,hcap,hcm,_⟩:=id hv
 have Hv:=Qh hv;clear hv
 have Hp:=Qh hp;clear hp
 go_enter Tryz.func77,Tryz.ntmps77
 go_wp2_with fail
 go_loopw [5,10] (fun s5 s10 wr=> ∃k:Nat,k≤l.length∧s10= .int .i64 k∧OwnS tHo 132 I wr w.heap.size s5 ((l.take k).filter p)∧Below w.heap.size w wr) (fun _ i _=>l.length-(intOf i).toNat)
 case atStart=>exact ⟨0,Nat.zero_le _,rfl,OwnS.nil _ _ _ _ _,Qb _ _⟩
 case round=>
  obtain ⟨k,hk,rfl,hown,hb⟩:=hrel
  have Hown:=Qh hown
  clear hown
  have hwr:Ok I wr:=hw.below (Qn _) hb
  have hfl:((l.take k).filter p).length≤k:=Nat.le_trans (List.length_filter_le _ _) (by simp;omega)
  by_cases hlt:k<l.length
  ·obtain ⟨x,b,off,cap',hlx,hvv,c0,c1⟩:=hoAt Hv.out hwr k hlt
   cases hvv
   have Hst:=Qh (Xpm p hlt hlx)
   have Hcall:=Qh (Hp.out x (by rw [←hlx];exact List.getElem_mem hlt) (wr.alloc (.cells #[S x.p,.int .i64 x.u] 132)) (hb.alloc hb.size _))
   clear hlx
   go_wp2_with fail
   refine Hcall.out.mono ?_
   rintro e w1 ⟨rfl,hb1⟩
   have x0:=Xaa hb1 (show (wr.alloc (.cells #[S x.p,.int .i64 x.u] 132)).cell? ⟨wr.heap.size,0,none⟩=some (S x.p) by simp)
   have x1:=Xaa hb1 (show (wr.alloc (.cells #[S x.p,.int .i64 x.u] 132)).cell? ⟨wr.heap.size,1,none⟩=some (.int .i64 x.u) by simp)
   have hb1':=(hb.alloc hb.size (.cells #[S x.p,.int .i64 x.u] 132)).trans (hb1.mono (by have:=hb.size;simp;omega))
   have Hown1:=Qh ((Hown.out.alloc (.cells #[S x.p,.int .i64 x.u] 132)).below hb1)
   have hs1:=hb1'.size
   clear hb1 Hcall c0 c1 Hown
   cases hpx:p x
   ·have Hn:=Qh (Xwj Hst.out hpx)
    clear hpx
    go_wp2
    go_roundw
    case rel=>exact ⟨k+1,by omega,by go_num,Hown1.out.castH Hn.out.symm,hb1'⟩
    case measure=>simp [intOf];omega
   ·have Hn:=Qh (Xtp Hst.out hpx)
    clear hpx
    go_wp2_with (at_builtin;refine Xat (w0:=w1) Xwk rfl _ _ rfl _ _ _ rfl Hown1.out x [S x.p,.int .i64 x.u] _ rfl rfl (by omega) (by omega) hs1 ?_)
    intro v9 w9 hown9 hg9
    have hb9:=Below.own hb1' hg9 Hown1.out (Qn _) hs1
    go_wp2
    go_roundw
    case rel=>exact ⟨k+1,by omega,by go_num,hown9.castH Hn.out.symm,hb9⟩
    case measure=>simp [intOf];omega
  ·have hall:l.take k=l:=List.take_of_length_le (by omega)
   rw [hall] at Hown
   clear hall hfl
   go_wp2
   go_ret
   exact ⟨_,rfl,Hown.out,hb⟩
set_option maxRecDepth 100000 in
set_option maxHeartbeats 1000000 in
theorem Xel (I:IH) (v:Value) (l:List Ho) (hv:RdS tHo I v l) (g:Nat) (cb:Array Value) (p:Ho→Bool) (w:World) (hw:Ok I w) (eg:∀args w,(callFunc g args).run Tryz.prog w= .ok (.enter g args) w) (hp:PredH g cb l p (Below w.heap.size w)):
 Calls Tryz.prog 80 #[v,.func (.func g) #[] cb] w fun e w'=>e= .returned (.int .i64 (idxL l p))∧Below w.heap.size w w':=by
 have hlen:=hv.len_le
 obtain ⟨ao,cap,rfl,hcap,hcm,_⟩:=id hv
 have Hv:=Qh hv;clear hv
 have Hp:=Qh hp;clear hp
 go_enter Tryz.func80,Tryz.ntmps80
 go_wp2_with fail
 go_loopw [8] (fun s8 wr=> ∃k:Nat,k≤l.length∧s8= .int .i64 k∧(l.take k).any p=false∧Below w.heap.size w wr) (fun i _=>l.length-(intOf i).toNat)
 case atStart=>exact ⟨0,Nat.zero_le _,rfl,rfl,Qb _ _⟩
 case round=>
  obtain ⟨k,hk,rfl,hr,hb⟩:=hrel
  have Hr:=Qh hr;clear hr
  by_cases hlt:k<l.length
  ·have hwr:Ok I wr:=hw.below (Qn _) hb
   obtain ⟨x,b,off,cap',hlx,hvv,c0,c1⟩:=hoAt Hv.out hwr k hlt
   cases hvv
   have Hlx:=Qh hlx
   have Hcall:=Qh (Hp.out x (by rw [←hlx];exact List.getElem_mem hlt) wr hb)
   clear hlx
   go_wp2_with fail
   refine Hcall.out.mono ?_
   rintro e w1 ⟨rfl,hb1⟩
   have hb1':=hb.trans (hb1.mono hb.size)
   clear hb1 Hcall c0 c1
   cases hpx:p x
   ·have Hn:=Qh (show (l.take (k+1)).any p=false by rw [List.take_succ_eq_append_getElem hlt,List.any_append,Hr.out,Hlx.out];simp [hpx])
    clear hpx
    go_wp2
    go_roundw
    case rel=>exact ⟨k+1,by omega,by go_num,Hn.out,hb1'⟩
    case measure=>simp [intOf];omega
   ·have Hn:=Qh (Xhi (p:=p) hlt (by rw [Hlx.out];exact hpx) Hr.out)
    clear hpx
    go_wp2
    go_ret
    exact ⟨Xal Hn.out.symm,hb1'⟩
  ·have Hn:=Qh (show idxL l p= -1 from Xhj (by have:=Hr.out;rwa [List.take_of_length_le (by omega)] at this))
   go_wp2
   go_ret
   exact ⟨Xal Hn.out.symm,hb⟩
set_option maxRecDepth 100000 in
set_option maxHeartbeats 400000 in
theorem Xc9 (I:IH) (v:Value) (l:List Ho) (hv:RdS tHo I v l) (g:Nat) (cb:Array Value) (p:Ho→Bool) (w:World) (hw:Ok I w) (eg:∀args w,(callFunc g args).run Tryz.prog w= .ok (.enter g args) w) (hp:PredH g cb l p (Below w.heap.size w)):
 Calls Tryz.prog 153 #[v,.func (.func g) #[] cb] w fun e w'=>e= .returned (.bool (l.any p))∧Below w.heap.size w w':=by
 have Hi:=Qh (Xel I v l hv g cb p w hw eg hp)
 obtain ⟨ao,cap,rfl,hcap,hcm,_⟩:=id hv
 clear hv hp eg
 rcases Xce l p with ⟨i,hi,e1,e2,_⟩|⟨e1,e2⟩
 ·have Ha:=Qh (show l.any p=true from List.any_eq_true.2 ⟨l[i],List.getElem_mem hi,e2⟩)
  have hd:decide ((0:Int)≤(i:Int))=true:=Qt (by omega)
  rw [e1] at Hi
  clear e1 e2
  go_enter Tryz.func153,Tryz.ntmps153
  go_wp2_with fail
  refine Hi.out.mono ?_
  rintro e w1 ⟨rfl,hb1⟩
  go_wp2
  go_ret
  exact ⟨Xax Ha.out.symm,hb1⟩
 ·have Ha:=Qh e2
  rw [e1] at Hi
  clear e1 e2
  go_enter Tryz.func153,Tryz.ntmps153
  go_wp2_with fail
  refine Hi.out.mono ?_
  rintro e w1 ⟨rfl,hb1⟩
  go_wp2
  go_ret
  exact ⟨Xax Ha.out.symm,hb1⟩
set_option maxRecDepth 100000 in
theorem Xo5 (d:Int) (b:Nat) (l:List Ho) (w:World) (hc:w.cell? ⟨b,0,none⟩=some (.int .i64 d)):PredH 83 #[.pointer (some ⟨b,0,none⟩)] l (fun h=>decide (d≤h.u)) (Below w.heap.size w):=by
 intro x _ W hW
 have hcW:=Xai (.cells #[S x.p,.int .i64 x.u] 132) (Xaa hW hc)
 clear hc
 show Calls Tryz.prog _ #[hoV x,.pointer (some ⟨b,0,none⟩)] W _
 go_enter Tryz.func83,Tryz.ntmps83
 go_wp2
 go_ret
 exact ⟨rfl,(Qb _ _).alloc (Qn _) _⟩
set_option maxRecDepth 100000 in
theorem Xe4 (I:IH) (v:Value) (l:List Ho) (hv:RdS tHo I v l) (hn:l.length≤100000) (d:Int) (w:World) (hw:Ok I w):
 Calls Tryz.prog 38 #[v,.int .i64 d] w fun e w'=> ∃v',e= .returned v'∧OwnS tHo 132 I w' w.heap.size v' (actP l d)∧Below w.heap.size w w':=by
 have Hp:=Qh (Xo5 d w.heap.size l (w.alloc (.cells #[.int .i64 d] 3)) (by simp))
 have Hs:=Qh (Xcg I v l hv hn _ _ _ _ (hw.alloc (.cells #[.int .i64 d] 3)) (fun _ _=>by kernel_rfl) Hp.out)
 obtain ⟨ao,cap,rfl,hcap,hcm,_⟩:=id hv
 clear hv Hp
 go_enter Tryz.func38,Tryz.ntmps38
 go_wp2_with fail
 refine Hs.out.mono ?_
 rintro e w1 ⟨v1,rfl,hown,hb⟩
 go_wp2
 go_ret
 exact ⟨_,rfl,hown.lower (by simp),((Qb _ _).alloc (Qn _) _).trans (hb.mono (by simp))⟩
set_option maxRecDepth 100000 in
theorem Xs4 (I:IH) (hI:Glob I) (p:Bytes) (hp:p.length≤4294967280) (b:Nat) (l:List Ho) (hl:∀h∈l,h.p.length≤4294967280) (w:World) (hw:Ok I w) (hc:w.cell? ⟨b,0,none⟩=some (S p)):PredH 208 #[.pointer (some ⟨b,0,none⟩)] l (fun h=>under p h.p) (Below w.heap.size w):=by
 intro x hx W hW
 have Hu:=Qh (Xjg I hI p x.p hp (hl x hx) (W.alloc (.cells #[S x.p,.int .i64 x.u] 132)) ((hw.below (Qn _) hW).alloc _))
 have hcW:=Xai (.cells #[S x.p,.int .i64 x.u] 132) (Xaa hW hc)
 clear hc
 show Calls Tryz.prog _ #[hoV x,.pointer (some ⟨b,0,none⟩)] W _
 go_enter Tryz.func208,Tryz.ntmps208
 go_wp2_with fail
 refine Hu.out.mono ?_
 rintro e w1 ⟨rfl,hb1⟩
 go_wp2
 go_ret
 exact ⟨rfl,((Qb _ _).alloc (Qn _) _).trans (hb1.mono (by simp))⟩
theorem HOk.short {l:List Ho} (h:HOk l):∀x∈l,x.p.length≤4294967280:=fun x hx=>by have:=(Xcb (h.path x hx)).1;omega
set_option maxRecDepth 100000 in
set_option maxHeartbeats 400000 in
theorem Xv4 (I:IH) (hI:Glob I) (v:Value) (l:List Ho) (hv:RdS tHo I v l) (hk:HOk l) (hn:l.length≤100000) (p:Bytes) (hp:p.length≤4294967280) (d:Int) (w:World) (hw:Ok I w):
 Calls Tryz.prog 151 #[v,S p,.int .i64 d] w fun e w'=>e= .returned (.bool (heldP l p d))∧Below w.heap.size w w':=by
 have Ha:=Qh (Xe4 I v l hv hn d (w.alloc (.cells #[S p] 9)) (hw.alloc _))
 have Hk:=Qh (hk.act d)
 have Hfr:=Qh (fun b (hb:(w.alloc (.cells #[S p] 9)).heap.size≤b)=>(hw.alloc (.cells #[S p] 9)).fresh (b:=b) hb)
 have HI:=Qh hI
 obtain ⟨ao,cap,rfl,hcap,hcm,_⟩:=id hv
 clear hv hk hI
 go_enter Tryz.func151,Tryz.ntmps151
 go_wp2_with fail
 refine Ha.out.mono ?_
 rintro e w1 ⟨v1,rfl,hown,hb⟩
 have hok1:Ok I w1:=(hw.alloc _).below (Qn _) hb
 obtain ⟨I1,hI1,hI2,hI3,_⟩:=hown.freeze hok1 Hfr.out
 have hc1:w1.cell? ⟨w.heap.size,0,none⟩=some (S p):=Xaa hb (by simp)
 have Hp:=Qh (Xs4 I1 (HI.out.mono (hI1.keep (hw.alloc (.cells #[S p] 9)) (Qn _))) p hp w.heap.size (actP l d) Hk.out.short w1 hI2 hc1)
 have Hc:=Qh (Xc9 I1 _ _ hI3 _ _ _ w1 hI2 (fun _ _=>by kernel_rfl) Hp.out)
 have hb':=((Qb w.heap.size w).alloc (Qn _) (.cells #[S p] 9)).trans (hb.mono (by simp))
 obtain ⟨a1,c1,rfl,_,_,_⟩:=id hI3
 clear hb hown hI3 hI2 hI1 hc1 Ha Hp
 go_wp2_with fail
 refine Hc.out.mono ?_
 rintro e w2 ⟨rfl,hb2⟩
 go_wp2
 go_ret
 exact ⟨rfl,hb'.trans (hb2.mono hb'.size)⟩
end Go.Proofs.YtjdednajelommaaGreatDoor
namespace Go.Proofs.YtjdednajelommaaGreatDoor
def digN (acc:Nat) (l:Bytes):Nat:=l.foldl (fun n c=>10*n+(c.toNat-48)) acc
theorem Xlo (acc:Nat) (l:Bytes) (c:UInt8):digN acc (l++ [c])=10*digN acc l+(c.toNat-48):=by simp [digN,List.foldl_append]
theorem Xfz {c:UInt8} (h:digC c=true):48≤c.toNat∧c.toNat≤57:=by
 rw [Xgk,Bool.and_eq_true,decide_eq_true_iff,decide_eq_true_iff] at h
 exact h
theorem Xhy:∀(l:Bytes),l.all digC=true→ ∀(a:Nat),l.foldl (fun (n:Int) c=>10*n+((c.toNat:Int)-48)) (a:Int)=(digN a l:Nat)
 | [],_,_=>rfl
 |c::l,h,a=>by
  rw [List.all_cons,Bool.and_eq_true] at h
  have hc:=Xfz h.1
  have:=Xhy l h.2 (10*a+(c.toNat-48))
  rw [List.foldl_cons,show (10*(a:Int)+((c.toNat:Int)-48))=((10*a+(c.toNat-48):Nat):Int) by omega,this]
  rfl
theorem Xfy {l:Bytes} (h:l.all digC=true):digits l=(digN 0 l:Nat):=Xhy l h 0
theorem Xny:∀(l:Bytes) (acc:Nat),l.all digC=true→(acc+1)*10 ^ l.length≤100000000000→Lib.parseUint10 acc l= .ok (digN acc l)
 | [],_,_,_=>rfl
 |c::l,acc,h,hb=>by
  rw [List.all_cons,Bool.and_eq_true] at h
  have hc:=Xfz h.1
  rw [List.length_cons,Nat.pow_succ] at hb
  have h10:1≤10 ^ l.length:=Nat.pos_of_ne_zero (by simp)
  have hacc:(acc+1)*10≤100000000000:=by
   have:(acc+1)*10*1≤(acc+1)*10*10 ^ l.length:=Nat.mul_le_mul_left _ h10
   rw [Nat.mul_comm (10 ^ l.length) 10,←Nat.mul_assoc] at hb
   omega
  have hn:(acc*10+(c.toNat-48)+1)*10 ^ l.length≤100000000000:=by
   refine Nat.le_trans (Nat.mul_le_mul_right _ (show acc*10+(c.toNat-48)+1≤(acc+1)*10 by omega)) ?_
   rw [Nat.mul_assoc,Nat.mul_comm 10 (10 ^ l.length)]
   exact hb
  rw [Lib.parseUint10,if_pos hc,if_neg (by omega),if_neg (by omega),Xny l _ h.2 hn]
  show Lib.NumEnd.ok (digN _ l)=Lib.NumEnd.ok (digN (10*acc+(c.toNat-48)) l)
  rw [Nat.mul_comm acc 10]
theorem Xob {c:UInt8} {l:Bytes} (h:(c::l).all digC=true) (hc:c≠48):10 ^ l.length≤digN 0 (c::l):=by
 have key:∀(n:Nat) (l:Bytes),l.length=n→ ∀a,a*10 ^ n≤digN a l:=by
  intro n
  induction n with
  |zero=>intro l h a;rw [List.eq_nil_of_length_eq_zero h];simp [digN]
  |succ n ih=>
   intro l h a
   cases l with
   |nil=>simp at h
   |cons c l=>
    have:=ih l (by simpa using h) (10*a+(c.toNat-48))
    refine Nat.le_trans ?_ this
    rw [Nat.pow_succ,Nat.mul_comm (10 ^ n) 10,←Nat.mul_assoc]
    exact Nat.mul_le_mul_right _ (by omega)
 rw [List.all_cons,Bool.and_eq_true] at h
 have hb:=Xfz h.1
 have hne:c.toNat≠48:=fun e=>hc (by
  have:c=UInt8.ofNat c.toNat:=by simp
  rw [this,e];rfl)
 have:=key l.length l rfl (10*0+(c.toNat-48))
 refine Nat.le_trans ?_ this
 have h1:1≤10*0+(c.toNat-48):=by omega
 simpa using Nat.mul_le_mul_right (10 ^ l.length) h1
def NoZ (s:Bytes):Prop:=s.length=1∨s.head? ≠some 48
theorem Xt0:∀(n:Nat) (s:Bytes),s.length=n→s≠ []→s.all digC=true→NoZ s→Lib.decDigits (digN 0 s)=s:=by
 intro n
 induction n with
 |zero=>intro s h h0;exact absurd (List.eq_nil_of_length_eq_zero h) h0
 |succ n ih=>
  intro s h h0 ha hz
  have e:s=s.dropLast++ [s.getLast h0]:=(List.dropLast_concat_getLast h0).symm
  have hl:s.dropLast.length=n:=by rw [List.length_dropLast,h];omega
  have ha2:=ha
  rw [e,List.all_append,Bool.and_eq_true] at ha2
  have hc:digC (s.getLast h0)=true:=by simpa using ha2.2
  have hb:=Xfz hc
  have hoc:UInt8.ofNat (48+((s.getLast h0).toNat-48))=s.getLast h0:=by
   rw [show 48+((s.getLast h0).toNat-48)=(s.getLast h0).toNat by omega];simp
  by_cases hn:n=0
  ·have ht:s.dropLast= []:=List.eq_nil_of_length_eq_zero (by omega)
   rw [e,ht,List.nil_append]
   have:digN 0 [s.getLast h0]=(s.getLast h0).toNat-48:=by simp [digN]
   rw [this,Lib.decDigits,dif_pos (by omega),hoc]
  ·have ht0:s.dropLast≠ []:=by intro e2;rw [e2] at hl;simp at hl;omega
   have hh:s.head? ≠some 48:=by
    rcases hz with hz|hz
    ·omega
    ·exact hz
   have hhd:s.dropLast.head? =s.head? :=by
    cases hd:s.dropLast with
    |nil=>exact absurd hd ht0
    |cons a t=>rw [e,hd];rfl
   have i1:=ih s.dropLast hl ht0 ha2.1 (.inr (by rw [hhd];exact hh))
   have hge:1≤digN 0 s.dropLast:=by
    cases hd:s.dropLast with
    |nil=>exact absurd hd ht0
    |cons a t=>
     have ha3:(a::t).all digC=true:=by rw [←hd];exact ha2.1
     have:10 ^ t.length≤digN 0 (a::t):=Xob ha3 (fun e3=>hh (by rw [←hhd,hd,e3];rfl))
     have h10:1≤10 ^ t.length:=Nat.pos_of_ne_zero (by simp)
     omega
   have hs:digN 0 s=10*digN 0 s.dropLast+((s.getLast h0).toNat-48):=by
    conv=>lhs;rw [e]
    exact Xlo _ _ _
   rw [hs,Lib.decDigits,dif_neg (by omega),show (10*digN 0 s.dropLast+((s.getLast h0).toNat-48)) / 10=digN 0 s.dropLast by omega,show (10*digN 0 s.dropLast+((s.getLast h0).toNat-48))%10=(s.getLast h0).toNat-48 by omega,i1,hoc]
   exact e.symm
theorem Xr0 {n:Nat} (h:n<10):digC (UInt8.ofNat (48+n))=true:=by
 rw [Xgk]
 simp
 omega
theorem Xlp:∀(u:Nat),(Lib.decDigits u).all digC=true∧Lib.decDigits u≠ []∧digN 0 (Lib.decDigits u)=u∧(10≤u→(Lib.decDigits u).head? ≠some 48)∧(1≤u→(Lib.decDigits u).head? ≠some 48):=by
 intro u
 induction u using Nat.strongRecOn with
 |_ u ih=>
  by_cases h:u<10
  ·have e:Lib.decDigits u= [UInt8.ofNat (48+u)]:=by rw [Lib.decDigits,dif_pos h]
   have hd:=Xr0 h
   have ht:(UInt8.ofNat (48+u)).toNat=48+u:=by simp;omega
   rw [e]
   refine ⟨by rw [List.all_cons,hd];rfl,by simp,by simp only [digN,List.foldl_cons,List.foldl_nil,ht];omega,fun h2=>by omega,fun h2 he=> ?_⟩
   simp only [List.head?_cons,Option.some.injEq] at he
   have:=congrArg UInt8.toNat he
   rw [ht] at this
   have h48:(48:UInt8).toNat=48:=rfl
   omega
  ·have e:Lib.decDigits u=Lib.decDigits (u / 10)++ [UInt8.ofNat (48+u%10)]:=by rw [Lib.decDigits,dif_neg h]
   obtain ⟨i1,i2,i3,i4,i5⟩:=ih (u / 10) (by omega)
   have hd:=Xr0 (n:=u%10) (by omega)
   have ht:(UInt8.ofNat (48+u%10)).toNat=48+u%10:=by simp;omega
   have hhd:(Lib.decDigits u).head? ≠some 48:=by
    rw [e]
    cases hc:Lib.decDigits (u / 10) with
    |nil=>exact absurd hc i2
    |cons a t=>
     have:=i5 (by omega)
     rw [hc] at this
     exact this
   refine ⟨?_,?_,?_,fun _=>hhd,fun _=>hhd⟩
   ·rw [e,List.all_append,i1,List.all_cons,hd];rfl
   ·rw [e];simp
   ·rw [e,Xlo,i3,ht];omega
theorem Xod (s:Bytes):dateOk s=true↔ ∃n:Int,Lib.atoiAll s= .ok n∧0≤n∧n≤1000000000∧Lib.itoa n=s:=by
 have hd:(fun c:UInt8=>decide (48≤c)&&decide (c≤57))=digC:=rfl
 constructor
 ·intro h
  unfold dateOk at h
  rw [hd] at h
  simp only [Bool.and_eq_true,decide_eq_true_eq] at h
  obtain ⟨⟨⟨⟨h1,h2⟩,h3⟩,h4⟩,h5⟩:=h
  have h0:s≠ []:=by intro e;rw [e] at h1;simp at h1
  have hz:NoZ s:=by
   by_cases hl:s.length=1
   ·exact .inl hl
   ·right
    intro e
    rw [e,Qt (show 1<s.length by omega)] at h3
    simp at h3
  rw [Xfy h4] at h5
  refine ⟨(digN 0 s:Nat),?_,by omega,h5,?_⟩
  ·cases hs:s with
   |nil=>exact absurd hs h0
   |cons c r=>
    have ha:(c::r).all digC=true:=by rw [←hs];exact h4
    have hc:digC c=true:=by rw [List.all_cons,Bool.and_eq_true] at ha;exact ha.1
    have hb:=Xfz hc
    have hlen:(c::r).length≤10:=by rw [←hs];exact h2
    have hp:=Xny (c::r) 0 ha (by
     have:10 ^ (c::r).length≤10 ^ 10:=Nat.pow_le_pow_right (by decide) hlen
     omega)
    rw [Lib.atoiAll]
    rw [if_neg (by omega),Lib.parseMag,if_neg (by simp),hp]
    rw [hs] at h5
    simp only
    rw [if_neg (by omega),if_neg (by omega),if_neg (by omega)]
  ·rw [Lib.itoa,if_neg (by omega),Int.toNat_natCast]
   exact Xt0 _ s rfl h0 h4 hz
 ·rintro ⟨n,_,h0,h1,h2⟩
  obtain ⟨u,rfl⟩:=Int.eq_ofNat_of_zero_le h0
  rw [Lib.itoa,if_neg (by omega),Int.toNat_natCast] at h2
  obtain ⟨f1,f2,f3,f4,f5⟩:=Xlp u
  rw [h2] at f1 f2 f3 f4 f5
  have hdg:digits s=u:=by rw [Xfy f1,f3]
  unfold dateOk
  rw [hd,f1,hdg,Qt h1]
  have hl1:1≤s.length:=List.length_pos_iff.2 f2
  have hz:(decide (1<s.length)&&s.head? ==some 48)=false:=by
   cases hb:(decide (1<s.length)&&s.head? ==some 48) with
   |false=>rfl
   |true=>
    rw [Bool.and_eq_true,decide_eq_true_iff,beq_iff_eq] at hb
    by_cases hu:1≤u
    ·exact absurd hb.2 (f5 hu)
    ·have:u=0:=by omega
     subst this
     have:s= [48]:=by rw [←h2,Lib.decDigits,dif_pos (by decide)];rfl
     rw [this] at hb
     simp at hb
  have hl10:s.length≤10:=by
   cases hs:s with
   |nil=>simp
   |cons c r=>
    by_cases hu:1≤u
    ·have hc:c≠48:=fun e=>f5 hu (by rw [hs,e];rfl)
     have:=Xob (c:=c) (l:=r) (by rw [←hs];exact f1) hc
     rw [←hs,f3] at this
     have hlt:¬10≤r.length:=by
      intro h10
      have:10 ^ 10≤10 ^ r.length:=Nat.pow_le_pow_right (by decide) h10
      omega
     simp only [List.length_cons];omega
    ·have:u=0:=by omega
     subst this
     have:s= [48]:=by rw [←h2,Lib.decDigits,dif_pos (by decide)];rfl
     rw [hs] at this
     rw [this];simp
  rw [hz,Qt hl1,Qt hl10]
  rfl
end Go.Proofs.YtjdednajelommaaGreatDoor
namespace Go.Proofs.YtjdednajelommaaGreatDoor
open Go.RowKit
theorem Xxc {W w1:World} {n:Nat} {x:At} {T:TypeId} (hn:n=W.heap.size) (hb:Below (W.alloc (.cells #[S x.k,S x.v] T)).heap.size (W.alloc (.cells #[S x.k,S x.v] T)) w1):
 w1.cell? ⟨n,0,none⟩=some (S x.k)∧w1.cell? ⟨n,1,none⟩=some (S x.v):=by
 subst hn
 refine ⟨?_,?_⟩<;>(rw [hb.cell (by simp)];simp)
end Go.Proofs.YtjdednajelommaaGreatDoor
namespace Go.Proofs
open Go.Shelf
def Tryz.lays160_ren:Go.Shelf.Ren:=⟨fun|160=>129|232=>173|231=>172|227=>174|234=>176|233=>175|236=>178|235=>177|228=>222|271=>225|151=>224|197=>223|120=>260|152=>259|260=>258|137=>270|119=>271|224=>272|225=>273|217=>280|266=>286|n=>n,fun|9=>9|4=>4|3=>3|5=>5|117=>199|116=>198|0=>0|124=>202|21=>21|105=>243|46=>162|119=>286|139=>289|138=>288|n=>n,fun|3=>3|4=>4|n=>n⟩
theorem Tryz.lays160:Go.Proofs.Lays.n160 Tryz.prog Tryz.lays160_ren:= {
 mixed:=by kernel_rfl
 f119:=Tryz.func271.trans (congrArg some (by kernel_rfl))
 f120:=Tryz.func260.trans (congrArg some (by kernel_rfl))
 f137:=Tryz.func270.trans (congrArg some (by kernel_rfl))
 f151:=Tryz.func224.trans (congrArg some (by kernel_rfl))
 f152:=Tryz.func259.trans (congrArg some (by kernel_rfl))
 f160:=Tryz.func129.trans (congrArg some (by kernel_rfl))
 f197:=Tryz.func223.trans (congrArg some (by kernel_rfl))
 f217:=Tryz.func280.trans (congrArg some (by kernel_rfl))
 f224:=Tryz.func272.trans (congrArg some (by kernel_rfl))
 f225:=Tryz.func273.trans (congrArg some (by kernel_rfl))
 f227:=Tryz.func174.trans (congrArg some (by kernel_rfl))
 f228:=Tryz.func222.trans (congrArg some (by kernel_rfl))
 f231:=Tryz.func172.trans (congrArg some (by kernel_rfl))
 f232:=Tryz.func173.trans (congrArg some (by kernel_rfl))
 f233:=Tryz.func175.trans (congrArg some (by kernel_rfl))
 f234:=Tryz.func176.trans (congrArg some (by kernel_rfl))
 f235:=Tryz.func177.trans (congrArg some (by kernel_rfl))
 f236:=Tryz.func178.trans (congrArg some (by kernel_rfl))
 f260:=Tryz.func258.trans (congrArg some (by kernel_rfl))
 f266:=Tryz.func286.trans (congrArg some (by kernel_rfl))
 f271:=Tryz.func225.trans (congrArg some (by kernel_rfl))
 t0:=Tryz.underlying0
 a0:=Tryz.isAgg0
 z0:=Tryz.sizeOf0
 v0:=Tryz.zeroValue0
 t3:=Tryz.underlying3
 a3:=Tryz.isAgg3
 z3:=Tryz.sizeOf3
 v3:=Tryz.zeroValue3
 t4:=Tryz.underlying4
 a4:=Tryz.isAgg4
 z4:=Tryz.sizeOf4
 v4:=Tryz.zeroValue4
 t5:=Tryz.underlying5
 a5:=Tryz.isAgg5
 z5:=Tryz.sizeOf5
 v5:=Tryz.zeroValue5
 t9:=Tryz.underlying9
 a9:=Tryz.isAgg9
 z9:=Tryz.sizeOf9
 v9:=Tryz.zeroValue9
 t21:=Tryz.underlying21
 a21:=Tryz.isAgg21
 z21:=Tryz.sizeOf21
 v21:=Tryz.zeroValue21
 t46:=Tryz.underlying162
 a46:=Tryz.isAgg162
 z46:=Tryz.sizeOf162
 v46:=Tryz.zeroValue162
 t105:=Tryz.underlying243
 a105:=Tryz.isAgg243
 z105:=Tryz.sizeOf243
 v105:=Tryz.zeroValue243
 t116:=Tryz.underlying198
 a116:=Tryz.isAgg198
 z116:=Tryz.sizeOf198
 t117:=Tryz.underlying199
 a117:=Tryz.isAgg199
 z117:=Tryz.sizeOf199
 v117:=Tryz.zeroValue199
 t119:=Tryz.underlying286
 a119:=Tryz.isAgg286
 z119:=Tryz.sizeOf286
 t124:=Tryz.underlying202
 a124:=Tryz.isAgg202
 z124:=Tryz.sizeOf202
 v124:=Tryz.zeroValue202
 t138:=Tryz.underlying288
 a138:=Tryz.isAgg288
 z138:=Tryz.sizeOf288
 v138:=Tryz.zeroValue288
 t139:=Tryz.underlying289
 a139:=Tryz.isAgg289
 z139:=Tryz.sizeOf289
 v139:=Tryz.zeroValue289
 g3:=by kernel_rfl
 g4:=by kernel_rfl }
open Go.RowKit in
theorem Tryz.strings_Trim (s cutset:ByteArray) (w:World) (hs:s.size≤9223372036854775807) (hcs:cutset.size<4294967281) (hascii:∀(j:Nat) b,cutset.data.toList[j]? =some b→b.toNat<128):
 Calls Tryz.prog 129 #[.string s,.string cutset] w fun e w'=>e= .returned (.string ⟨(Lib.trimS s.data.toList cutset.data.toList).toArray⟩)∧RowKit.Below w.heap.size w w':=Any.strings_Trim_laid Tryz.lays160 (by kernel_rfl) s cutset w hs hcs hascii
end Go.Proofs
namespace Go.Proofs.YtjdednajelommaaGreatDoor
open Go.RowKit
abbrev cutset0:Bytes:= [97,98,99,100,101,102,103,104,105,106,107,108,109,110,111,112,113,114,115,116,117,118,119,120,121,122,48,49,50,51,52,53,54,55,56,57,46,95,45]
set_option maxRecDepth 100000 in
theorem Xlr (c:UInt8):cutset0.contains c=keyChar c:=by
 have h:∀n:Fin 256,cutset0.contains (UInt8.ofNat n.1)=keyChar (UInt8.ofNat n.1):=by decide
 have:=h ⟨c.toNat,c.toNat_lt⟩
 simpa using this
theorem Xj6 (s cs:Bytes):Lib.trimS s cs= []↔s.all (cs.contains ·)=true:=by
 have hd:∀l:Bytes,l.dropWhile (cs.contains ·)= []↔l.all (cs.contains ·)=true:=by
  intro l
  induction l with
  |nil=>simp
  |cons x l ih=>
   rw [List.dropWhile_cons,List.all_cons]
   cases h:cs.contains x
   ·simp
   ·simp only [if_true,Bool.true_and];exact ih
 have hdd:∀l:Bytes,(l.dropWhile (cs.contains ·)).all (cs.contains ·)=l.all (cs.contains ·):=by
  intro l
  induction l with
  |nil=>rfl
  |cons x l ih=>
   rw [List.dropWhile_cons]
   cases h:cs.contains x
   ·rfl
   ·simp only [if_true];rw [ih,List.all_cons,h,Bool.true_and]
 unfold Lib.trimS Lib.trimLeftS Lib.trimRightS
 rw [hd,List.all_reverse,hdd,List.all_reverse]
set_option maxRecDepth 100000 in
theorem Xtl (s:Bytes) (hs:s.length≤9223372036854775807) (w:World):
 Calls Tryz.prog 129 #[S s,S cutset0] w fun e w'=>e= .returned (S (Lib.trimS s cutset0))∧Below w.heap.size w w':=by
 have h:=Tryz.strings_Trim ⟨s.toArray⟩ ⟨cutset0.toArray⟩ w (by rw [ByteArray.size_mk',List.size_toArray];exact hs) (by decide) (ascii_of_all (by decide))
 exact h
def keyErr (s:Bytes):Int:=if keyOk s then 0 else 7
set_option maxRecDepth 100000 in
set_option maxHeartbeats 400000 in
theorem Xse (s:Bytes) (hs:s.length≤9223372036854775807) (w:World):
 Calls Tryz.prog 217 #[S s] w fun e w'=>e= .returned (.int .i64 (keyErr s))∧Below w.heap.size w w':=by
 by_cases h1:s= []
 ·have hE:keyErr s=7:=by rw [h1];rfl
  have HE:=Qh hE
  have f1:(s== [])=true:=by rw [h1];rfl
  have f2:s.isEmpty=true:=by rw [h1];rfl
  have f3:(!s.isEmpty)=false:=by rw [h1];rfl
  clear hE h1
  go_enter Tryz.func217,Tryz.ntmps217
  go_wp2
  go_ret
  exact ⟨Xal HE.out.symm,Qb _ _⟩
 ·have hlen:1≤s.length:=by cases s<;>simp_all
  have f1:(s== [])=false:=by simpa using h1
  have f2:s.isEmpty=false:=by cases s<;>simp_all
  have f3:(!s.isEmpty)=true:=by rw [f2];rfl
  clear h1
  by_cases h32:s.length≤32
  ·have hd1:decide (32<s.length)=false:=Qf (by omega)
   have hk:keyOk s=s.all (cutset0.contains ·):=by
    have:(fun c=>cutset0.contains c)=keyChar:=funext Xlr
    rw [this];simp [keyOk,h32,hlen]
   have ht:=Xj6 s cutset0
   have Htr:=Qh (Xtl s hs)
   generalize hT:Lib.trimS s cutset0=T at ht Htr
   by_cases hTn:T= []
   ·have HE:=Qh (show keyErr s=0 by rw [keyErr,hk,if_pos (ht.1 hTn)])
    have g1:(T== [])=true:=by rw [hTn];rfl
    have g2:T.isEmpty=true:=by rw [hTn];rfl
    have g3:(!T.isEmpty)=false:=by rw [hTn];rfl
    clear hTn ht hk hT
    go_enter Tryz.func217,Tryz.ntmps217
    go_wp2_with fail
    refine (Htr.out _).mono ?_
    rintro e w1 ⟨rfl,hb1⟩
    go_wp2
    go_ret
    exact ⟨Xal HE.out.symm,hb1⟩
   ·have HE:=Qh (show keyErr s=7 by rw [keyErr,hk,if_neg (fun h=>hTn (ht.2 h))])
    have g1:(T== [])=false:=by simpa using hTn
    have g2:T.isEmpty=false:=by cases T<;>simp_all
    have g3:(!T.isEmpty)=true:=by rw [g2];rfl
    clear hTn ht hk hT
    go_enter Tryz.func217,Tryz.ntmps217
    go_wp2_with fail
    refine (Htr.out _).mono ?_
    rintro e w1 ⟨rfl,hb1⟩
    go_wp2
    go_ret
    exact ⟨Xal HE.out.symm,hb1⟩
  ·have hd1:decide (32<s.length)=true:=Qt (by omega)
   have HE:=Qh (show keyErr s=7 by rw [keyErr,if_neg (by simp [keyOk,h32])])
   go_enter Tryz.func217,Tryz.ntmps217
   go_wp2
   go_ret
   exact ⟨Xal HE.out.symm,Qb _ _⟩
set_option maxRecDepth 100000 in
set_option maxHeartbeats 400000 in
theorem Xxb (x:At) (hx:x.Wf) (w:World):
 Calls Tryz.prog 165 #[x.val] w fun e w'=>e= .returned (.int .i64 (atErr x))∧Below w.heap.size w w':=by
 obtain ⟨hx1,hx2⟩:=hx
 cases hk:keyOk x.k
 ·have HE:=Qh (show keyErr x.k=7 by rw [keyErr,hk];rfl)
  have HA:=Qh (show atErr x=7 by rw [atErr,if_pos hk])
  clear hk
  go_enter Tryz.func165,Tryz.ntmps165
  go_wp2_with fail
  refine (Xse x.k hx1 _).mono ?_
  rintro e w1 ⟨rfl,hb1⟩
  rw [HE.out]
  go_wp2
  go_ret
  exact ⟨Xal HA.out.symm,((Qb _ _).alloc (Qn _) _).trans (hb1.mono (by simp))⟩
 ·have HE:=Qh (show keyErr x.k=0 by rw [keyErr,hk];rfl)
  have Hk:=Qh hk
  clear hk
  by_cases h64:x.v.length≤64
  ·have hd:decide (64<x.v.length)=false:=Qf (by omega)
   have HA:=Qh (show atErr x=0 by rw [atErr,if_neg (by rw [Hk.out];simp),if_neg (by omega)])
   go_enter Tryz.func165,Tryz.ntmps165
   go_wp2_with fail
   refine (Xse x.k hx1 _).mono ?_
   rintro e w1 ⟨rfl,hb1⟩
   rw [HE.out]
   obtain ⟨hc0,hc1⟩:=Xxc rfl hb1
   go_wp2
   go_ret
   exact ⟨Xal HA.out.symm,((Qb _ _).alloc (Qn _) _).trans (hb1.mono (by simp))⟩
  ·have hd:decide (64<x.v.length)=true:=Qt (by omega)
   have HA:=Qh (show atErr x=6 by rw [atErr,if_neg (by rw [Hk.out];simp),if_pos (by omega)])
   go_enter Tryz.func165,Tryz.ntmps165
   go_wp2_with fail
   refine (Xse x.k hx1 _).mono ?_
   rintro e w1 ⟨rfl,hb1⟩
   rw [HE.out]
   obtain ⟨hc0,hc1⟩:=Xxc rfl hb1
   go_wp2
   go_ret
   exact ⟨Xal HA.out.symm,((Qb _ _).alloc (Qn _) _).trans (hb1.mono (by simp))⟩
theorem Xlw:∀(a b:Bytes),Lib.compareBytes a b=if Op.bytesLess a b then -1 else if a==b then 0 else 1
 | [],[]=>rfl
 | [],_::_=>rfl
 |_::_,[]=>rfl
 |x::a,y::b=>by
  rw [Lib.compareBytes,Xlw a b,Op.bytesLess]
  by_cases h1:x<y
  ·simp [h1]
  ·by_cases h2:y<x
   ·have:¬x=y:=fun e=>by subst e;exact UInt8.lt_irrefl _ h2
    simp [h1,h2,this]
   ·have e:x=y:=UInt8.le_antisymm (UInt8.not_lt.1 h2) (UInt8.not_lt.1 h1)
    subst e
    simp
set_option maxRecDepth 100000 in
theorem Xmz (a b:Bytes) (w:World):Calls Tryz.prog 166 #[S a,S b] w fun e w'=>e= .returned (.int .i64 (Lib.compareBytes a b))∧Below w.heap.size w w':=
 (Tryz.strings_Compare ⟨a.toArray⟩ ⟨b.toArray⟩ w).mono fun _ _ ⟨h1,h2⟩=>⟨h1,by rw [h2];exact Qb _ _⟩
set_option maxRecDepth 100000 in
set_option maxHeartbeats 1000000 in
theorem Xue (I:IH) (v:Value) (l:List At) (hv:RdS tAt I v l) (hl:∀x∈l,x.Wf) (w:World) (hw:Ok I w):
 Calls Tryz.prog 118 #[v] w fun e w'=>e= .returned (.int .i64 (chk l))∧Below w.heap.size w w':=by
 have hlen:=hv.len_le
 obtain ⟨ao,cap,rfl,hcap,hcm,_⟩:=id hv
 have Hv:=Qh hv;clear hv
 have Hl:=Qh hl;clear hl
 by_cases h16:l.length≤16
 ·have hd:decide (16<l.length)=false:=Qf (by omega)
  have Hchk:=Qh (show chk l=chkFrom none l by rw [chk,if_neg (by omega)])
  go_enter Tryz.func118,Tryz.ntmps118
  go_wp2_with fail
  go_loopw [11] (fun s11 wr=> ∃k:Nat,k≤l.length∧s11= .int .i64 k∧chkFrom (if k=0 then none else l[k-1]?) (l.drop k)=chkFrom none l∧Below w.heap.size w wr) (fun i _=>l.length-(intOf i).toNat)
  case atStart=>exact ⟨0,Nat.zero_le _,rfl,rfl,Qb _ _⟩
  case round=>
   obtain ⟨k,hk,rfl,hr,hb⟩:=hrel
   have Hr:=Qh hr;clear hr
   by_cases hlt:k<l.length
   ·have hwr:Ok I wr:=hw.below (Qn _) hb
    obtain ⟨x,b,off,cap',hlx,hvv,hc0,hc1⟩:=atAt Hv.out hwr k hlt
    cases hvv
    have hxm:x∈l:=by rw [←hlx];exact List.getElem_mem hlt
    have Hxw:=Qh (Hl.out x hxm)
    have Hst:=Qh (show chk l=if atErr x≠0 then atErr x else if ((if k=0 then none else l[k-1]?).any fun q=>q.k==x.k) then 8 else if ((if k=0 then none else l[k-1]?).any fun q=>Op.bytesLess x.k q.k) then 14 else chkFrom (some x) (l.drop (k+1)) by
     rw [Hchk.out,←Hr.out,List.drop_eq_getElem_cons hlt,hlx,Xf7])
    have Hkx:=Qh (show l[k]? =some x by rw [List.getElem?_eq_getElem hlt,hlx])
    clear hlx hxm
    go_wp2_with fail
    refine (Xxb x Hxw.out _).mono ?_
    rintro e w1 ⟨rfl,hb1⟩
    obtain ⟨hx0,hx1⟩:=Xxc rfl hb1
    have hb1':=(hb.alloc hb.size _).trans (hb1.mono (by have:=hb.size;simp;omega))
    have hw1:Ok I w1:=hw.below (Qn _) hb1'
    clear hb1 hc0 hc1
    by_cases h0:atErr x=0
    ·have H0:=Qh h0
     rw [h0]
     clear h0
     by_cases hk0:k=0
     ·have hd3:((k:Int)==0)=true:=by rw [hk0];rfl
      have Hnx:=Qh (show chkFrom (if k+1=0 then none else l[k+1-1]?) (l.drop (k+1))=chkFrom none l by
       rw [←Hchk.out,Hst.out,H0.out,if_neg (by omega),Nat.add_sub_cancel,Hkx.out];simp [hk0])
      clear hk0
      go_wp2
      go_roundw
      case rel=>exact ⟨k+1,by omega,by go_num,Hnx.out,hb1'⟩
      case measure=>simp [intOf];omega
     ·obtain ⟨q,b',off',cap'',hlq,hvv,hp0,hp1⟩:=atAt Hv.out hw1 (k-1) (by omega)
      cases hvv
      have Hst2:=Qh (show chk l=if (q.k==x.k) then 8 else if Op.bytesLess x.k q.k then 14 else chkFrom (some x) (l.drop (k+1)) by
       rw [Hst.out,H0.out,if_neg (by omega),if_neg hk0,List.getElem?_eq_getElem (by omega),hlq];rfl)
      have hd3:((k:Int)==0)=false:=by rw [beq_eq_false_iff_ne];omega
      have hi:IntKind.i64.wrap ((k:Int)-1)=(k:Int)-1:=IntWalk.i64_in _ (by omega)
      have hj:0≤(k:Int)-1:=by omega
      have hm:((k:Int)-1).toNat=k-1:=by omega
      have hg0:=cell_regrown hx0
      have hq0:=cell_regrown hp0
      have hcmp:=Xlw q.k x.k
      have Hcmp:=Qh (fun W=>Xmz q.k x.k W)
      generalize Lib.compareBytes q.k x.k=r at hcmp Hcmp
      clear hlq
      rcases Xfj q.k x.k with ht|ht|ht
      ·have hr1:r= -1:=by rw [hcmp,ht];rfl
       have Hnx:=Qh (show chkFrom (if k+1=0 then none else l[k+1-1]?) (l.drop (k+1))=chkFrom none l by
        have hbe:(q.k==x.k)=false:=by simpa using Xsc ht
        rw [←Hchk.out,Hst2.out,Xfk ht,hbe,Nat.add_sub_cancel,Hkx.out];simp)
       subst hr1
       clear ht hcmp
       go_wp2_with fail
       refine wp_region_quiet_below (by kernel_rfl) (by kernel_rfl) ?_
       repeat (go_big_quiet_step ((with_reducible exact Calls.regrown_of (Hcmp.out _))))
       refine wpQuiet_nil ?_
       intro w2 hwq
       have hb2:Below (w1).heap.size (w1) w2:=by
        obtain ⟨pq,rfl⟩:=hwq
        exact below_regrown _ _ _
       clear hwq
       go_wp2
       go_roundw
       case rel=>exact ⟨k+1,by omega,by go_num,Hnx.out,hb1'.trans (hb2.mono hb1'.size)⟩
       case measure=>simp [intOf];omega
      ·have hbe:(q.k==x.k)=true:=by rw [ht];exact beq_self_eq_true _
       have hbl:Op.bytesLess q.k x.k=false:=by rw [ht];exact Xbx _
       have hr1:r=0:=by rw [hcmp,hbl,hbe];rfl
       have Hnx:=Qh (show chk l=8 by rw [Hst2.out,if_pos hbe])
       subst hr1
       clear ht hcmp hbe hbl
       go_wp2_with fail
       refine wp_region_quiet_below (by kernel_rfl) (by kernel_rfl) ?_
       repeat (go_big_quiet_step ((with_reducible exact Calls.regrown_of (Hcmp.out _))))
       refine wpQuiet_nil ?_
       intro w2 hwq
       have hb2:Below (w1).heap.size (w1) w2:=by
        obtain ⟨pq,rfl⟩:=hwq
        exact below_regrown _ _ _
       clear hwq
       go_wp2
       go_ret
       exact ⟨Xal Hnx.out.symm,hb1'.trans (hb2.mono hb1'.size)⟩
      ·have hne:(q.k==x.k)=false:=by simpa using (Xsc ht).symm
       have hr1:r=1:=by rw [hcmp,Xfk ht,hne];rfl
       have Hnx:=Qh (show chk l=14 by rw [Hst2.out,if_neg (by rw [hne];simp),if_pos ht])
       subst hr1
       clear ht hcmp hne
       go_wp2_with fail
       refine wp_region_quiet_below (by kernel_rfl) (by kernel_rfl) ?_
       repeat (go_big_quiet_step ((with_reducible exact Calls.regrown_of (Hcmp.out _))))
       refine wpQuiet_nil ?_
       intro w2 hwq
       have hb2:Below (w1).heap.size (w1) w2:=by
        obtain ⟨pq,rfl⟩:=hwq
        exact below_regrown _ _ _
       clear hwq
       go_wp2
       go_ret
       exact ⟨Xal Hnx.out.symm,hb1'.trans (hb2.mono hb1'.size)⟩
    ·obtain ⟨q,hq⟩:∃q,atErr x=q:=⟨_,rfl⟩
     have hn0:(q != 0)=true:=by rw [←hq];simpa using h0
     have Hs:=Qh (show chk l=q by rw [Hst.out,if_pos h0,hq])
     rw [hq]
     clear hq h0
     go_wp2
     go_ret
     exact ⟨Xal Hs.out.symm,hb1'⟩
   ·go_wp2
    go_ret
    refine ⟨Xal ?_,hb⟩
    rw [Hchk.out,←Hr.out,List.drop_of_length_le (by omega)];rfl
 ·have hd:decide (16<l.length)=true:=Qt (by omega)
  go_enter Tryz.func118,Tryz.ntmps118
  go_wp2
  go_ret
  exact ⟨Xal (by rw [chk,if_pos (by omega)]),Qb _ _⟩
theorem Glob.tab {I : IH} {w : World} (h : Glob I) (hw : Ok I w) : Lib.TabIs Tryz.prog w "internal/strconv.uint64pow10" .u64 Lib.pow10Tab := by
 obtain ⟨e,f,hh⟩:=hw _ _ h.pow
 unfold Lib.TabIs World.var?
 have hg : Tryz.prog.globalNamed "internal/strconv.uint64pow10" = some 5 := by kernel_rfl
 simp [hg,hh]
theorem Glob.vsyn {I : IH} {w : World} (h : Glob I) (hw : Ok I w) : ∃ tp p, w.var? Tryz.prog "strconv.ErrSyntax" = some #[.iface tp p] := by
 obtain ⟨tp,p,h1⟩:=h.syn
 obtain ⟨e,f,hh⟩:=hw _ _ h1
 refine ⟨tp,p,?_⟩
 unfold World.var?
 have hg : Tryz.prog.globalNamed "strconv.ErrSyntax" = some 1 := by kernel_rfl
 simp [hg,hh]
theorem Glob.vrng {I : IH} {w : World} (h : Glob I) (hw : Ok I w) : ∃ tp p, w.var? Tryz.prog "strconv.ErrRange" = some #[.iface tp p] := by
 obtain ⟨tp,p,h1⟩:=h.rng
 obtain ⟨e,f,hh⟩:=hw _ _ h1
 refine ⟨tp,p,?_⟩
 unfold World.var?
 have hg : Tryz.prog.globalNamed "strconv.ErrRange" = some 2 := by kernel_rfl
 simp [hg,hh]
theorem Xjj (I:IH) (hI:Glob I) (n:Int) (w:World) (hw:Ok I w) (h0: -9223372036854775808≤n) (h1:n≤9223372036854775807):
 Calls Tryz.prog 198 #[.int .i64 n] w fun e w'=>e= .returned (S (Lib.itoa n))∧Below w.heap.size w w':=
 (Tryz.strconv_Itoa n h0 h1 w (hI.tab hw)).mono fun e w' ⟨he,k,os,hq⟩=>⟨he,by rw [hq];exact Lib.below_grow _ _ (Qn _) _ _⟩
def AtoiBad (w:World) (e:Ending) (w':World):Prop:= ∃n N,e= .returned (.tuple #[.int .i64 n,.iface 249 (.pointer (some ⟨N,0,none⟩))])∧Below w.heap.size w w'
theorem Xhe (s:Bytes) (hs:s.length≤4294967280) (n:Int) (h:Lib.atoiAll s= .ok n) (w:World):
 Calls Tryz.prog 130 #[S s] w fun e w'=>e= .returned (.tuple #[.int .i64 n,.nilIface])∧Below w.heap.size w w':=by
 have hsz:(⟨s.toArray⟩:ByteArray).size=s.length:=by simp [ByteArray.size]
 refine (Tryz.strconv_Atoi_ok ⟨s.toArray⟩ (by omega) n h w).mono fun e w' ⟨h1,h2⟩=>⟨h1,?_⟩
 rcases h2 with h2|⟨t,h2⟩
 ·rw [h2];exact Qb _ _
 ·rw [h2];exact Joins.below_bytesWorld _ _ _ _ (Qn _)
theorem Xky (I:IH) (hI:Glob I) (s:Bytes) (hs:s.length≤4294967280) (h:∀n,Lib.atoiAll s≠ .ok n) (w:World) (hw:Ok I w):
 Calls Tryz.prog 130 #[S s] w (AtoiBad w):=by
 have hsz:(⟨s.toArray⟩:ByteArray).size=s.length:=by simp [ByteArray.size]
 by_cases hr:Lib.atoiAll s= .range
 ·obtain ⟨tp,p,hv⟩:=hI.vrng hw
  exact (Tryz.strconv_Atoi_range_var ⟨s.toArray⟩ (by omega) hr tp p w hv).mono fun e w' ⟨N,h1,_,_,h4⟩=>⟨_,N,h1,h4⟩
 ·obtain ⟨tp,p,hv⟩:=hI.vsyn hw
  exact (Tryz.strconv_Atoi_syntax_var ⟨s.toArray⟩ (by omega) h hr tp p w hv).mono fun e w' ⟨N,h1,_,_,h4⟩=>⟨0,N,h1,h4⟩
set_option maxRecDepth 100000 in
set_option maxHeartbeats 1000000 in
theorem Xrt (I:IH) (hI:Glob I) (s:Bytes) (hs:s.length≤4294967280) (w:World) (hw:Ok I w):
 Calls Tryz.prog 167 #[S s] w fun e w'=>e= .returned (.bool (dateOk s))∧Below w.heap.size w w':=by
 have hdi:=Xod s
 by_cases hok:∃n,Lib.atoiAll s= .ok n
 case neg=>
  have Hn:=Qh (show dateOk s=false by
   cases h:dateOk s with
   |false=>rfl
   |true=>obtain ⟨n,h1,_⟩:=hdi.1 h;exact absurd ⟨n,h1⟩ hok)
  have Hat:=Qh (Xky I hI s hs (fun n h=>hok ⟨n,h⟩) w hw)
  clear hdi hok
  go_enter Tryz.func167,Tryz.ntmps167
  go_wp2_with fail
  refine Hat.out.mono ?_
  rintro e w1 ⟨n,N,rfl,hb1⟩
  go_wp2
  go_ret
  exact ⟨Xax Hn.out.symm,hb1⟩
 obtain ⟨n,hn⟩:=hok
 have Hat:=Qh (Xhe s hs n hn w)
 have Hd:=Qh (show dateOk s=(decide (0≤n)&&decide (n≤1000000000)&&decide (Lib.itoa n=s)) by
  rw [Bool.eq_iff_iff,hdi]
  simp only [Bool.and_eq_true,decide_eq_true_eq]
  constructor
  ·rintro ⟨m,h1,h2,h3,h4⟩
   rw [hn] at h1
   injection h1 with h1
   subst h1
   exact ⟨⟨h2,h3⟩,h4⟩
  ·rintro ⟨⟨h2,h3⟩,h4⟩
   exact ⟨n,hn,h2,h3,h4⟩)
 clear hdi hn
 by_cases h0:0≤n
 case neg=>
  have Hn:=Qh (show dateOk s=false by rw [Hd.out,Qf h0];rfl)
  go_enter Tryz.func167,Tryz.ntmps167
  go_wp2_with fail
  refine Hat.out.mono ?_
  rintro e w1 ⟨rfl,hb1⟩
  go_wp2
  go_ret
  exact ⟨(by first|exact Xax Hn.out.symm|(rw [Hn.out];congr 1;simp;omega)),hb1⟩
 by_cases h1:n≤1000000000
 case neg=>
  have Hn:=Qh (show dateOk s=false by rw [Hd.out,Qf h1,Bool.and_false];rfl)
  go_enter Tryz.func167,Tryz.ntmps167
  go_wp2_with fail
  refine Hat.out.mono ?_
  rintro e w1 ⟨rfl,hb1⟩
  go_wp2
  go_ret
  exact ⟨(by first|exact Xax Hn.out.symm|(rw [Hn.out];congr 1;simp;omega)),hb1⟩
 have Hn:=Qh (show dateOk s=(Lib.itoa n==s) by
  rw [Hd.out,Qt h0,Qt h1]
  by_cases h:Lib.itoa n=s<;>simp [h])
 have Hit:=Qh (fun w hw=>Xjj I hI n w hw (by omega) (by omega))
 obtain ⟨t,ht⟩:∃t,Lib.itoa n=t:=⟨_,rfl⟩
 rw [ht] at Hit Hn
 clear ht
 go_enter Tryz.func167,Tryz.ntmps167
 go_wp2_with fail
 refine Hat.out.mono ?_
 rintro e w1 ⟨rfl,hb1⟩
 go_wp2_with fail
 refine (Hit.out _ (hw.below (Qn _) hb1)).mono ?_
 rintro e w2 ⟨rfl,hb2⟩
 go_wp2
 go_ret
 exact ⟨Xax Hn.out.symm,hb1.trans (hb2.mono hb1.size)⟩
set_option maxRecDepth 100000 in
set_option maxHeartbeats 400000 in
theorem Xrs (I:IH) (hI:Glob I) (x:Ent) (hx:x.target.length≤4294967280) (va vx:Value) (w:World) (hw:Ok I w):
 Calls Tryz.prog 119 #[entV x va vx] w fun e w'=>e= .returned (.bool (targetOk x))∧Below w.heap.size w w':=by
 by_cases h3:x.kind=3
 ·have f3:((x.kind:Int)==3)=true:=by simpa using h3
  by_cases h1:x.target= []
  ·have Ht:=Qh (show targetOk x=false by rw [targetOk,if_pos h3,h1];rfl)
   obtain ⟨p1,p2,p3,p4⟩:=Xd5 h1
   clear h3 h1
   go_enter Tryz.func119,Tryz.ntmps119
   go_wp2
   go_ret
   exact ⟨Xax Ht.out.symm,(Qb _ _).alloc (Qn _) _⟩
  have hl1:1≤x.target.length:=List.length_pos_iff.2 h1
  have Ht:=Qh (show targetOk x=decide (x.target.length≤200) by rw [targetOk,if_pos h3,Qt hl1];rfl)
  obtain ⟨p1,p2,p3,p4⟩:=Xdx h1
  clear h3 h1
  go_enter Tryz.func119,Tryz.ntmps119
  go_wp2
  go_ret
  exact ⟨Xax (by rw [Ht.out,decide_eq_decide];omega),(Qb _ _).alloc (Qn _) _⟩
 have f3:((x.kind:Int)==3)=false:=by simpa using h3
 by_cases h5:x.kind=5
 ·have f5:((x.kind:Int)==5)=true:=by simpa using h5
  have Ht:=Qh (show targetOk x=dateOk x.target by rw [targetOk,if_neg h3,if_pos h5])
  clear h3 h5
  go_enter Tryz.func119,Tryz.ntmps119
  go_wp2_with fail
  refine (Xrt I hI x.target hx _ (hw.alloc _)).mono ?_
  rintro e w1 ⟨rfl,hb1⟩
  go_wp2
  go_ret
  exact ⟨Xax Ht.out.symm,((Qb _ _).alloc (Qn _) _).trans (hb1.mono (by simp))⟩
 have f5:((x.kind:Int)==5)=false:=by simpa using h5
 have Ht:=Qh (show targetOk x=x.target.isEmpty by rw [targetOk,if_neg h3,if_neg h5])
 clear h3 h5
 go_enter Tryz.func119,Tryz.ntmps119
 go_wp2
 go_ret
 exact ⟨Xax (by rw [Ht.out]),(Qb _ _).alloc (Qn _) _⟩
theorem Xbj {P:Program} (w:World) (dT sT ty elem:TypeId) (size g o dLen dCap:Nat) (a:Addr) (sLen sCap:Nat) (cur:Array Value) (t:TypeId) (cs:List Value)
 (hu:P.underlying dT=some (.slice elem)) (hs:(P.info? elem).map (·.size)=some size)
 (hg:w.heap[g]? =some (.cells cur t (0,0))) (hn:cs.length=Nat.min sLen dLen*size)
 (hsrc:∀j v,cs[j]? =some v→w.cell? (a.add j)=some v) (hfit:o+cs.length≤cur.size) (h1:∀v∈cs,v.oneCell'=true):
 (Builtin.copy_ #[dT,sT] ty #[.slice (some ⟨g,o,none⟩) dLen dCap,.slice (some a) sLen sCap]).run P w=
   .ok (goInt (Nat.min sLen dLen)) (w.setRow g (cur.toList.take o++cs++cur.toList.drop (o+cs.length)).toArray):=by
 have hst:=run_storeCells_at P g o t cs 0 cur w hg (by simpa using hfit) h1
 cases hq:P.info? elem with
 |none=>simp [hq] at hs
 |some i=>
  have hi:i.size=size:=by simpa [hq] using hs
  have hf:=run_firstCells_some (P:=P) w i.size (Nat.min sLen dLen) a sLen sCap cs (by rw [hi];exact hn) hsrc
  simp only [Nat.min_def] at hf ⊢
  simp [Builtin.copy_,run_underlying hu,Builtin.lenOf,sizeOf,typeInfo,hq,Nat.min_def,hf,hst]
def over (cur:Array Value) (o:Nat) (cs:List Value):Array Value:=(cur.toList.take o++cs++cur.toList.drop (o+cs.length)).toArray
theorem Xbg (cur:Array Value) (o:Nat) (cs:List Value) (h:o+cs.length≤cur.size):(over cur o cs).size=cur.size:=by
 simp [over];omega
theorem Xg8 (cur:Array Value) (o:Nat) (cs:List Value) (h:o≤cur.size):(over cur o cs).toList.take (o+cs.length)=cur.toList.take o++cs:=by
 simp only [over]
 rw [List.take_append_of_le_length (by simp;omega)]
 rw [List.take_of_length_le (by simp;omega)]
theorem insert_row (cur:Array Value) (xs news:List Value) (p k:Nat) (hp:p≤xs.length) (hx:cur.toList.take xs.length=xs) (hk:news.length=k) (hsz:xs.length+k≤cur.size):
 (over (over cur (p+k) (xs.drop p)) p news).toList.take (xs.length+k)=xs.take p++news++xs.drop p:=by
 have hcl:cur.toList.length=cur.size:=by simp
 have h1:(over cur (p+k) (xs.drop p)).toList=cur.toList.take (p+k)++xs.drop p++cur.toList.drop (p+k+(xs.drop p).length):=rfl
 have h2:∀c:Array Value,(over c p news).toList=c.toList.take p++news++c.toList.drop (p+k):=fun c=>by simp [over,hk]
 rw [h2,h1]
 have e1:(cur.toList.take (p+k)++xs.drop p++cur.toList.drop (p+k+(xs.drop p).length)).take p=xs.take p:=by
  rw [List.append_assoc,List.take_append_of_le_length (by simp;omega),List.take_take,Nat.min_eq_left (by omega)]
  conv=>rhs;rw [←hx]
  rw [List.take_take,Nat.min_eq_left hp]
 have e2:(cur.toList.take (p+k)++xs.drop p++cur.toList.drop (p+k+(xs.drop p).length)).drop (p+k)=xs.drop p++cur.toList.drop (p+k+(xs.drop p).length):=by
  rw [List.append_assoc,List.drop_append_of_le_length (by simp;omega)]
  rw [List.drop_eq_nil_of_le (by simp;omega),List.nil_append]
 rw [e1,e2,←List.append_assoc,List.take_append_of_le_length (by simp;omega),List.take_of_length_le (by simp;omega)]
theorem Xhh (cur:Array Value) (xs news:List Value) (p k:Nat) (hp:p≤xs.length) (hx:cur.toList.take p=xs.take p) (hk:news.length=k) (hsz:xs.length+k≤cur.size):
 (over (over cur p news) (p+k) (xs.drop p)).toList.take (xs.length+k)=xs.take p++news++xs.drop p:=by
 have h1:=Xg8 cur p news (by omega)
 rw [hk,hx] at h1
 have h2:=Xg8 (over cur p news) (p+k) (xs.drop p) (by rw [Xbg _ _ _ (by omega)];omega)
 rw [h1,List.length_drop,show p+k+(xs.length-p)=xs.length+k by omega] at h2
 exact h2
theorem Xaw {w:World} {g:Nat} {cur:Array Value}:w.grownBy (w.setRow g cur) (some g):=
 ⟨rfl,rfl,rfl,by simp,fun k _ hk=>setRow_other w g k _ (fun e=>hk (by rw [e]))⟩
theorem Xbs {a b c:World} {row:Option Nat} (h:a.grownBy b row) (k:b.grownBy c row):a.grownBy c row:=
 ⟨k.os.trans h.os,k.tape.trans h.tape,k.output.trans h.output,Nat.le_trans h.size k.size,fun j hj hne=>(k.block j (Nat.lt_of_lt_of_le hj h.size) hne).trans (h.block j hj hne)⟩
theorem Xoc {s:Bytes} (h:dateOk s=true):Lib.atoiAll s= .ok (digits s)∧s≠ []∧s.all digC=true∧((s.getD 0 0).toNat=48→s= [48]):=by
 have h':=h
 obtain ⟨n,h1,h2,h3,h4⟩:=(Xod s).1 h
 obtain ⟨u,rfl⟩:=Int.eq_ofNat_of_zero_le h2
 rw [Lib.itoa,if_neg (by omega),Int.toNat_natCast] at h4
 obtain ⟨f1,f2,f3,f4,f5⟩:=Xlp u
 rw [h4] at f1 f2 f3 f4 f5
 have hdg:digits s=u:=by rw [Xfy f1,f3]
 refine ⟨by rw [hdg];exact h1,f2,f1,fun hc=> ?_⟩
 cases s with
 |nil=>exact absurd rfl f2
 |cons c r=>
  have hc':c=48:=by
   apply UInt8.toNat_inj.1
   simpa using hc
  subst hc'
  have hu:u=0:=by
   by_cases k:1≤u
   ·exact absurd rfl (f5 k)
   ·omega
  subst hu
  rw [←h4];first|(rw [Lib.decDigits];rfl)|simp [Lib.decDigits]|decide
def digSet:Bytes:= [48,49,50,51,52,53,54,55,56,57]
set_option maxRecDepth 100000 in
theorem Xpr:∀c:UInt8,digC c=true→digSet.contains c=true:=by
 intro c h
 have hb:=Xfz h
 have key:∀n:Fin 256,48≤n.1→n.1≤57→digSet.contains (UInt8.ofNat n.1)=true:=by decide
 have:=key ⟨c.toNat,c.toNat_lt⟩ hb.1 hb.2
 simpa using this
theorem Xmc {s:Bytes} (h:s.all digC=true):Lib.trimS s digSet= []:=by
 rw [Xj6,List.all_eq_true]
 intro c hc
 exact Xpr c (List.all_eq_true.1 h c hc)
theorem Xq7 (s:Bytes) (hs:s.length≤9223372036854775807) (w:World):
 Calls Tryz.prog 129 #[S s,S digSet] w fun e w'=>e= .returned (S (Lib.trimS s digSet))∧Below w.heap.size w w':=by
 have h:=Tryz.strings_Trim ⟨s.toArray⟩ ⟨digSet.toArray⟩ w (by rw [ByteArray.size_mk',List.size_toArray];exact hs) (by decide) (ascii_of_all (by decide))
 exact h
set_option maxRecDepth 100000 in
set_option maxHeartbeats 1000000 in
theorem Xqp (s:Bytes) (hs:s.length≤4294967280) (hd:dateOk s=true) (w:World):
 Calls Tryz.prog 79 #[S s] w fun e w'=>e= .returned (.tuple #[.int .i64 (digits s),.bool true])∧Below w.heap.size w w':=by
 obtain ⟨ha,hne,hall,hz⟩:=Xoc hd
 have hbd:=(Xlq hd).2
 have hlen:=List.length_pos_iff.2 hne
 obtain ⟨p1,p2,p3,p4⟩:=Xdx hne
 have Ht:=Qh (Xq7 s (by omega) w)
 rw [Xmc hall] at Ht
 have Ha:=Qh (fun w=>Xhe s hs _ ha w)
 have hx0:=run_at (P:=Tryz.prog) Tryz.underlying9 s 0 0 rfl hlen
 have q1:decide (digits s≤1000000000)=true:=Qt hbd
 generalize digits s=n at Ha hbd q1 ⊢
 have HD:=Qh (show digSet= [48,49,50,51,52,53,54,55,56,57] from rfl)
 rw [HD.out] at Ht
 clear hd ha hall hne
 by_cases hc:(s.getD 0 0).toNat=48
 ·have hs0:=hz hc
  have k1:(((s.getD 0 0).toNat:Int)==48)=true:=by rw [hc];rfl
  have k2:(s== [48])=true:=by rw [hs0];rfl
  have Hs:=Qh hs0
  clear hs0 hc hz
  generalize (s.getD 0 0).toNat=c at hx0 k1
  go_enter Tryz.func79,Tryz.ntmps79
  go_wp2_with fail
  refine Ht.out.mono ?_
  rintro e w1 ⟨rfl,hb1⟩
  go_wp2_with fail
  refine (Ha.out _).mono ?_
  rintro e w2 ⟨rfl,hb2⟩
  go_wp2
  go_ret2
  exact ⟨rfl,hb1.trans (hb2.mono hb1.size)⟩
 ·have k1:(((s.getD 0 0).toNat:Int)==48)=false:=by
   have:((s.getD 0 0).toNat:Int)≠48:=by omega
   simpa using this
  clear hc hz
  generalize (s.getD 0 0).toNat=c at hx0 k1
  go_enter Tryz.func79,Tryz.ntmps79
  go_wp2_with fail
  refine Ht.out.mono ?_
  rintro e w1 ⟨rfl,hb1⟩
  go_wp2_with fail
  refine (Ha.out _).mono ?_
  rintro e w2 ⟨rfl,hb2⟩
  go_wp2
  go_ret2
  exact ⟨rfl,hb1.trans (hb2.mono hb1.size)⟩
set_option maxRecDepth 100000 in
theorem Xmk (I:IH) (hI:Glob I) (p:Bytes) (hp:p.length≤4294967280) (b:Nat) (l:List Ho) (hl:∀h∈l,h.p.length≤4294967280) (w:World) (hw:Ok I w) (hc:w.cell? ⟨b,1,none⟩=some (S p)):PredH 152 #[.pointer (some ⟨b,0,none⟩)] l (fun h=>under h.p p) (Below w.heap.size w):=by
 intro x hx W hW
 have Hu:=Qh (Xjg I hI x.p p (hl x hx) hp (W.alloc (.cells #[S x.p,.int .i64 x.u] 132)) ((hw.below (Qn _) hW).alloc _))
 have hcW:=Xai (.cells #[S x.p,.int .i64 x.u] 132) (Xaa hW hc)
 clear hc
 show Calls Tryz.prog _ #[hoV x,.pointer (some ⟨b,0,none⟩)] W _
 go_enter Tryz.func152,Tryz.ntmps152
 go_wp2_with fail
 refine Hu.out.mono ?_
 rintro e w1 ⟨rfl,hb1⟩
 go_wp2
 go_ret
 exact ⟨rfl,((Qb _ _).alloc (Qn _) _).trans (hb1.mono (by simp))⟩
set_option maxRecDepth 100000 in
set_option maxHeartbeats 2000000 in
theorem Xo4 (I:IH) (hI:Glob I) (v:Value) (l:List Ho) (hv:RdS tHo I v l) (hk:HOk l) (hn:l.length≤100000) (e:Ent) (va vx:Value) (hva:RdS tAt I va e.attrs) (hvx:RdS tXt I vx e.exts) (hp:e.path.length≤4294967280) (d:Int) (w:World) (hw:Ok I w):
 Calls Tryz.prog 97 #[v,entV e va vx,.int .i64 d] w fun r w'=>r= .returned (.int .i64 (alwP l e.kind e.path d))∧Below w.heap.size w w':=by
 have Hh:=Qh (fun w hw=>Xv4 I hI v l hv hk hn e.path hp d w hw)
 have Ha:=Qh (fun w hw=>Xe4 I v l hv hn d w hw)
 have HI:=Qh hI
 have Hk:=Qh (hk.act d)
 obtain ⟨ao,cap,rfl,hcap,hcm,_⟩:=id hv
 obtain ⟨aa,ca,rfl,_,_,_⟩:=id hva
 obtain ⟨ax,cx,rfl,_,_,_⟩:=id hvx
 clear hv hva hvx hI hk
 by_cases h1:e.kind=1
 ·have k1:((e.kind:Int)==1)=true:=by simpa using h1
  have Hn:=Qh (show alwP l e.kind e.path d=if heldP l e.path d then 15 else 0 by rw [alwP,if_pos (.inl h1)])
  generalize heldP l e.path d=b at Hh Hn
  clear h1
  go_enter Tryz.func97,Tryz.ntmps97
  go_wp2_with fail
  refine (Hh.out _ (hw.alloc _)).mono ?_
  rintro e1 w1 ⟨rfl,hb1⟩
  have hb1':=((Qb w.heap.size w).alloc (Qn _) (.cells #[.int .i64 e.kind,S e.path,.slice aa e.attrs.length ca,S e.target,.int .i64 e.size,S e.digest,.slice ax e.exts.length cx] 68)).trans (hb1.mono (by simp))
  cases b
  ·go_wp2
   go_ret
   exact ⟨Xal Hn.out.symm,hb1'⟩
  ·go_wp2
   go_ret
   exact ⟨Xal Hn.out.symm,hb1'⟩
 have k1:((e.kind:Int)==1)=false:=by simpa using h1
 by_cases h2:e.kind=2
 ·have k2:((e.kind:Int)==2)=true:=by simpa using h2
  have Hn:=Qh (show alwP l e.kind e.path d=if heldP l e.path d then 15 else 0 by rw [alwP,if_pos (.inr (.inl h2))])
  generalize heldP l e.path d=b at Hh Hn
  clear h1 h2
  go_enter Tryz.func97,Tryz.ntmps97
  go_wp2_with fail
  refine (Hh.out _ (hw.alloc _)).mono ?_
  rintro e1 w1 ⟨rfl,hb1⟩
  have hb1':=((Qb w.heap.size w).alloc (Qn _) (.cells #[.int .i64 e.kind,S e.path,.slice aa e.attrs.length ca,S e.target,.int .i64 e.size,S e.digest,.slice ax e.exts.length cx] 68)).trans (hb1.mono (by simp))
  cases b
  ·go_wp2
   go_ret
   exact ⟨Xal Hn.out.symm,hb1'⟩
  ·go_wp2
   go_ret
   exact ⟨Xal Hn.out.symm,hb1'⟩
 have k2:((e.kind:Int)==2)=false:=by simpa using h2
 by_cases h3:e.kind=3
 ·have k3:((e.kind:Int)==3)=true:=by simpa using h3
  have Hn:=Qh (show alwP l e.kind e.path d=if heldP l e.path d then 15 else 0 by rw [alwP,if_pos (.inr (.inr h3))])
  generalize heldP l e.path d=b at Hh Hn
  clear h1 h2 h3
  go_enter Tryz.func97,Tryz.ntmps97
  go_wp2_with fail
  refine (Hh.out _ (hw.alloc _)).mono ?_
  rintro e1 w1 ⟨rfl,hb1⟩
  have hb1':=((Qb w.heap.size w).alloc (Qn _) (.cells #[.int .i64 e.kind,S e.path,.slice aa e.attrs.length ca,S e.target,.int .i64 e.size,S e.digest,.slice ax e.exts.length cx] 68)).trans (hb1.mono (by simp))
  cases b
  ·go_wp2
   go_ret
   exact ⟨Xal Hn.out.symm,hb1'⟩
  ·go_wp2
   go_ret
   exact ⟨Xal Hn.out.symm,hb1'⟩
 have k3:((e.kind:Int)==3)=false:=by simpa using h3
 have hno:¬(e.kind=1∨e.kind=2∨e.kind=3):=fun q=>by omega
 by_cases h4:e.kind=4
 case neg=>
  have k4:((e.kind:Int)==4)=false:=by simpa using h4
  have Hn:=Qh (show alwP l e.kind e.path d=0 by rw [alwP,if_neg hno,if_neg h4])
  clear h1 h2 h3 h4 hno
  go_enter Tryz.func97,Tryz.ntmps97
  go_wp2
  go_ret
  exact ⟨Xal Hn.out.symm,(Qb w.heap.size w).alloc (Qn _) _⟩
 have k4:((e.kind:Int)==4)=true:=by simpa using h4
 have Hn:=Qh (show alwP l e.kind e.path d=if heldP l e.path d || belowP l e.path d then 15 else 0 by rw [alwP,if_neg hno,if_pos h4])
 clear h1 h2 h3 h4 hno
 have Hbe:=Qh (show belowP l e.path d=(actP l d).any (fun h=>under h.p e.path) from rfl)
 generalize heldP l e.path d=b at Hh Hn
 generalize belowP l e.path d=c at Hn Hbe
 go_enter Tryz.func97,Tryz.ntmps97
 go_wp2_with fail
 refine (Hh.out _ (hw.alloc _)).mono ?_
 rintro e1 w1 ⟨rfl,hb1⟩
 have HB1:=Qh (entB (e:=e) rfl hb1)
 have hok1:Ok I w1:=(hw.alloc _).below (Qn _) hb1
 have hb1':=((Qb w.heap.size w).alloc (Qn _) (.cells #[.int .i64 e.kind,S e.path,.slice aa e.attrs.length ca,S e.target,.int .i64 e.size,S e.digest,.slice ax e.exts.length cx] 68)).trans (hb1.mono (by simp))
 clear hb1
 cases b
 case true=>
  go_wp2
  go_ret
  exact ⟨Xal Hn.out.symm,hb1'⟩
 have Hfr:=Qh (fun b (hb:w1.heap.size≤b)=>hok1.fresh (b:=b) hb)
 go_wp2_with fail
 refine (Ha.out _ hok1).mono ?_
 rintro e2 w2 ⟨v2,rfl,hown,hb2⟩
 have hok2:Ok I w2:=hok1.below (Qn _) hb2
 obtain ⟨I2,hI1,hI2,hI3,_⟩:=hown.freeze hok2 Hfr.out
 have Hp:=Qh (Xmk I2 (HI.out.mono (hI1.keep hok1 (Qn _))) e.path hp w.heap.size (actP l d) Hk.out.short w2 hI2 (HB1.out.thru hb2).c1)
 have Hc:=Qh (Xc9 I2 _ _ hI3 _ _ _ w2 hI2 (fun _ _=>by kernel_rfl) Hp.out)
 rw [←Hbe.out] at Hc
 have hb2':=hb1'.trans (hb2.mono hb1'.size)
 obtain ⟨a1,c1,rfl,_,_,_⟩:=id hI3
 clear hb2 hown hI3 hI2 hI1 Ha Hp hb1'
 go_wp2_with fail
 refine Hc.out.mono ?_
 rintro e3 w3 ⟨rfl,hb3⟩
 have hb3':=hb2'.trans (hb3.mono hb2'.size)
 cases c
 ·go_wp2
  go_ret
  exact ⟨Xal Hn.out.symm,hb3'⟩
 ·go_wp2
  go_ret
  exact ⟨Xal Hn.out.symm,hb3'⟩
end Go.Proofs.YtjdednajelommaaGreatDoor
