/-
  Walks and laws that the claim's theorem uses: texts QuD QuF QuG QuI QuM QuB QuC QuW QuN QuK, joined; comments out. Conditions: as each theorem says.
-/
import Derived.Test.YtmdfjnhfhidmhaaGreatDoorK39
set_option linter.all false
namespace Go.Proofs.YtmdfjnhfhidmhaaGreatDoor
open Go.RowKit
theorem Xgk:(Tryz.prog.info? 54).map (fun i=>(i.zero,i.size,i.bytes))=some (some (.agg #[.string ⟨#[]⟩,.int .i64 0,.int .i64 0,.int .i64 0,.int .i64 0]),5,48):=by kernel_rfl
set_option maxRecDepth 100000 in
set_option maxHeartbeats 400000 in
theorem Xjy (I:IH) (v:Value) (l:List _) (hv:RdS tAcc I v l) (w:World) (hw:Ok I w) (hbig:l.length*48≤140737488355328):
 Calls Tryz.prog 52 #[v] w fun e w'=> ∃v',e= .returned v'∧OwnS tAcc 54 I w' w.heap.size v' l∧Below w.heap.size w w':=by
 obtain ⟨i0,hi,hz0,hz1,hz2⟩:=info_parts Xgk
 have q22:∀(w:World) (a:Option Addr) (n c n' c':Nat),(binOp .eql 22 (.slice a n c) (.slice none n' c')).run Tryz.prog w= .ok (.bool a.isNone) w:=fun w a n c n' c'=>Lib.run_eql_slice_nil w _ _ a n c n' c' Tryz.underlying22
 obtain ⟨ao,cap,xs,rfl,hcap,hcm,hL,hx⟩:=hv.cells hw (by decide)
 have HL:=Qh hL
 have Hx:=Qh hx
 clear hL hx hv
 cases ao with
 |none=>
  have h0:l.length=0:=by
   rcases Nat.eq_zero_or_pos l.length with h|h
   ·exact h
   ·obtain ⟨b,off,arr,e,_⟩:=Hx.out h;cases e
  have:l= []:=List.eq_nil_of_length_eq_zero h0
  subst this
  go_enter Tryz.func52,Tryz.ntmps52
  go_wp2
  go_ret
  exact ⟨_,rfl,OwnS.nil _ _ _ _ _,Qb _ _⟩
 |some a=>
  go_enter Tryz.func52,Tryz.ntmps52
  go_wp2_with (at_builtin;refine wpList_append_own _ rfl _ _ 22 rfl w.heap.size 54 i0 _ 5 48 Tryz.underlying22 hi hz0 hz1 hz2 rfl (by decide) _ _ _ rfl (World.ownsRow_made w #[] 0 (Qn _) (Nat.zero_le _) (by simp)) a l.length cap xs rfl ?qc1 ?qc2 ?qc3 ?qc4 ?qc5 ?qc6 ?_)
  case qc1=>exact HL.out.1
  case qc2=>
   intro j u hj
   have hl:0<l.length:=by
    have:=(List.getElem?_eq_some_iff.1 hj).1
    rw [HL.out.1] at this
    rcases Nat.eq_zero_or_pos l.length with h|h
    ·rw [h] at this;omega
    ·exact h
   obtain ⟨b,off,arr,e,_,hb,hc⟩:=Hx.out hl
   cases e
   rw [Addr.add_lit]
   rw [World.cell?_alloc_lt _ _ _ hb]
   exact hc j u hj
  case qc3=>exact HL.out.oneCell
  case qc4=>rw [Nat.zero_add];omega
  case qc5=>rw [Nat.zero_add];exact hbig
  case qc6=>simp
  intro v' w1 hown hgrow _
  go_wp2
  go_ret
  refine ⟨v',rfl,⟨xs,(by have hq:=hown;first|exact hq|(simp at hq;exact hq)),HL.out⟩,?_⟩
  exact ((Qb _ w).alloc (Qn _) _).grown hgrow (by simp) (by intro k hk;simp [Value.ownBlock] at hk;omega)
section
variable {I:IH} {W:World} {B g cap:Nat} {v:Value} {l:List Acc}
theorem Xip (h:OwnS tAcc 54 I W B v l) {i:Nat} (hi:i<l.length):∃g cap,v= .slice (some ⟨g,0,none⟩) l.length cap∧l.length≤cap∧B≤g∧g<W.heap.size∧
 W.cell? ⟨g,i*5+3,none⟩=some (.int .i64 l[i].ub)∧W.cell? ⟨g,i*5+4,none⟩=some (.int .i64 l[i].uf)∧(∀j,W.frozen? ⟨g,j,none⟩=false):=by
 obtain ⟨xs,h1,h2⟩:=h
 rcases h1.2 with ⟨_,hz⟩|⟨g,cap,cur,hv,hb,hg,hnc,_⟩
 ·omega
 subst hv
 have hlt:g<W.heap.size:=(Array.getElem?_eq_some_iff.1 hg).1
 have hxl:xs.length=l.length*5:=h2.1
 obtain ⟨cs,k1,k2⟩:=h2.2 i hi
 have k1':cs=accCs l[i]:=k1
 subst k1'
 refine ⟨g,cap,rfl,hnc,hb,hlt,?_,?_,fun j=>h1.frozenAt j⟩
 ·rw [h1.cellAt _ (by show i*5+3<l.length*5;omega)];exact k2 3 _ rfl
 ·rw [h1.cellAt _ (by show i*5+4<l.length*5;omega)];exact k2 4 _ rfl
theorem Xgu (h:OwnS tAcc 54 I W B (.slice (some ⟨g,0,none⟩) l.length cap) l) {i j:Nat} {u:Value} {x:Acc} (hi:i<l.length) (hj:j<5) (hx:accCs x=(accCs l[i]).set j u) (hu:u.oneCell'=true):
 OwnS tAcc 54 I (W.setCell ⟨g,i*5+j,none⟩ u) B (.slice (some ⟨g,0,none⟩) l.length cap) (l.set i x):=by
 obtain ⟨xs,h1,h2⟩:=h
 have hxl:xs.length=l.length*5:=h2.1
 have hs:=(h1.stored (i*5+j) u).1
 refine ⟨_,by rw [List.length_set];exact hs,by rw [List.length_set,List.length_set];exact h2.1,fun k hk=> ?_⟩
 rw [List.length_set] at hk
 obtain ⟨cs,k1,k2⟩:=h2.2 k hk
 have k1':cs=accCs l[k]:=k1
 subst k1'
 by_cases he:i=k
 ·subst he
  refine ⟨accCs x,by show _=accCs _;rw [List.getElem_set_self],fun m z hm=> ?_⟩
  show _=_
  rw [hx] at hm
  by_cases e:j=m
  ·subst e
   rw [List.getElem?_set_self (by show j<5;exact hj)] at hm
   show (xs.set (i*5+j) u)[i*5+j]? =some z
   rw [List.getElem?_set_self (by omega)]
   exact hm
  ·rw [List.getElem?_set_ne e] at hm
   show (xs.set (i*5+j) u)[i*5+m]? =some z
   rw [List.getElem?_set_ne (by omega)]
   exact k2 m z hm
 ·refine ⟨accCs l[k],by show _=accCs _;rw [List.getElem_set_ne he],fun m z hm=> ?_⟩
  have hm5:m<5:=(List.getElem?_eq_some_iff.1 hm).1
  show (xs.set (i*5+j) u)[k*5+m]? =some z
  rw [List.getElem?_set_ne (by omega)]
  exact k2 m z hm
end
theorem Xeo {r:Rqs}:∀(l pre:List Acc),l.any (fun x=>x.owner==r.owner)=false→chargeG pre l r=([],9)
 | [],_,_=>rfl
 |a::l,pre,h=>by
  rw [List.any_cons,Bool.or_eq_false_iff] at h
  rw [chargeG,if_neg (by simpa using h.1)]
  exact Xeo l _ h.2
theorem Xen {r:Rqs}:∀(l pre:List Acc) (i:Nat) (hi:i<l.length),(l[i].owner==r.owner)=true→(l.take i).any (fun x=>x.owner==r.owner)=false→
 chargeG pre l r=if overA l[i] r.c then ([],16) else (pre++l.set i (payA l[i] r.c),0)
 | [],_,_,hi,_,_=>absurd hi (by simp)
 |a::l,pre,0,_,hp,_=>by
  have hp:a.owner=r.owner:=by simpa using hp
  rw [chargeG,if_pos hp]
  rfl
 |a::l,pre,i+1,hi,hp,hn=>by
  rw [List.take_succ_cons,List.any_cons,Bool.or_eq_false_iff] at hn
  rw [chargeG,if_neg (by simpa using hn.1),Xen l _ i (by simpa using hi) hp hn.2]
  simp
theorem Xne {l:List Acc} {r:Rqs} {i:Nat} (hi:i<l.length) (hp:(l[i].owner==r.owner)=true) (hn:(l.take i).any (fun x=>x.owner==r.owner)=false):
 chargeP l r=if overA l[i] r.c then ([],16) else (l.set i (payA l[i] r.c),0):=Xen l [] i hi hp hn
def PredAcc (g:Nat) (cb:Array Value) (p:Acc→Bool) (C:World→Prop):Prop:=
 ∀(x:Acc) (W:World),C W→Calls Tryz.prog g (#[accV x]++cb) W fun e w'=>e= .returned (.bool (p x))∧Below W.heap.size W w'
set_option maxRecDepth 100000 in
set_option maxHeartbeats 1000000 in
theorem Xeq (I:IH) (v:Value) (l:List Acc) (hv:RdS tAcc I v l) (g:Nat) (cb:Array Value) (p:Acc→Bool) (w:World) (hw:Ok I w) (eg:∀args w,(callFunc g args).run Tryz.prog w= .ok (.enter g args) w) (hp:PredAcc g cb p (Below w.heap.size w)):
 Calls Tryz.prog 49 #[v,.func (.func g) #[] cb] w fun e w'=>e= .returned (.int .i64 (idxL l p))∧Below w.heap.size w w':=by
 have hlen:=hv.len_le
 obtain ⟨ao,cap,rfl,hcap,hcm,_⟩:=id hv
 have Hv:=Qh hv;clear hv
 have Hp:=Qh hp;clear hp
 go_enter Tryz.func49,Tryz.ntmps49
 go_wp2_with fail
 go_loopw [8] (fun s8 wr=> ∃k:Nat,k≤l.length∧s8= .int .i64 k∧(l.take k).any p=false∧Below w.heap.size w wr) (fun i _=>l.length-(intOf i).toNat)
 case atStart=>exact ⟨0,Nat.zero_le _,rfl,rfl,Qb _ _⟩
 case round=>
  obtain ⟨k,hk,rfl,hr,hb⟩:=hrel
  have Hr:=Qh hr;clear hr
  by_cases hlt:k<l.length
  ·have hwr:Ok I wr:=hw.below (Qn _) hb
   obtain ⟨x,b,off,cap',hlx,hvv,hX⟩:=Xni Hv.out hwr k hlt
   cases hvv
   obtain ⟨c0,c1,c2,c3,c4⟩:=(⟨hX.c0,hX.c1,hX.c2,hX.c3,hX.c4⟩:_∧_∧_∧_∧_)
   have Hlx:=Qh hlx
   have Hcall:=Qh (Hp.out x wr hb)
   clear hlx hX
   go_wp2_with fail
   refine Hcall.out.mono ?_
   rintro e w1 ⟨rfl,hb1⟩
   have hb1':=hb.trans (hb1.mono hb.size)
   clear hb1 Hcall c0 c1 c2 c3 c4
   cases hpx:p x
   ·have Hn:=Qh (show (l.take (k+1)).any p=false by rw [List.take_succ_eq_append_getElem hlt,List.any_append,Hr.out,Hlx.out];simp [hpx])
    clear hpx
    go_wp2
    go_roundw
    case rel=>exact ⟨k+1,by omega,by go_num,Hn.out,hb1'⟩
    case measure=>simp [intOf];omega
   ·have Hn:=Qh (Xdv (p:=p) hlt (by rw [Hlx.out];exact hpx) Hr.out)
    clear hpx
    go_wp2
    go_ret
    exact ⟨Xaj Hn.out.symm,hb1'⟩
  ·have Hn:=Qh (show idxL l p= -1 from Xdw (by have:=Hr.out;rwa [List.take_of_length_le (by omega)] at this))
   go_wp2
   go_ret
   exact ⟨Xaj Hn.out.symm,hb⟩
set_option maxRecDepth 100000 in
theorem Xmr (o:Bytes) (b:Nat) (w:World) (hc:w.cell? ⟨b,0,none⟩=some (S o)):PredAcc 50 #[.pointer (some ⟨b,0,none⟩)] (fun x=>x.owner==o) (Below w.heap.size w):=by
 intro x W hW
 have hcW:=Xad (.cells #[S x.owner,.int .i64 x.b,.int .i64 x.f,.int .i64 x.ub,.int .i64 x.uf] 54) (Xaa hW hc)
 clear hc
 show Calls Tryz.prog _ #[accV x,.pointer (some ⟨b,0,none⟩)] W _
 go_enter Tryz.func50,Tryz.ntmps50
 go_wp2
 go_ret
 exact ⟨rfl,(Qb _ _).alloc (Qn _) _⟩
structure AccsIn (l:List Acc):Prop where
 ok:∀a∈l,a.Ok
 b:∀a∈l,a.b≤9223372036854775807
 f:∀a∈l,a.f≤9223372036854775807
theorem Xol {a:Acc} {c:Chg} (h1:¬a.b-a.ub<costB c) (h2:¬a.f-a.uf<costF c):¬overA a c:=fun h=>h.elim h1 h2
theorem Xoj {I:IH} {W:World} {B g cap i:Nat} {l:List Acc} {a:Acc} {c:Chg} (h:OwnS tAcc 54 I W B (.slice (some ⟨g,0,none⟩) l.length cap) l) (hi:i<l.length) (ha:l[i]=a):
 (W.setCell ⟨g,i*5+3,none⟩ (.int .i64 (a.ub+costB c))).cell? ⟨g,i*5+4,none⟩=some (.int .i64 a.uf)∧
 (∀j,(W.setCell ⟨g,i*5+3,none⟩ (.int .i64 (a.ub+costB c))).frozen? ⟨g,j,none⟩=false)∧
 OwnS tAcc 54 I ((W.setCell ⟨g,i*5+3,none⟩ (.int .i64 (a.ub+costB c))).setCell ⟨g,i*5+4,none⟩ (.int .i64 (a.uf+costF c))) B (.slice (some ⟨g,0,none⟩) l.length cap) (l.set i (payA a c)):=by
 have h1:=Xgu (j:=3) (u:= .int .i64 (a.ub+costB c)) (x:=⟨a.owner,a.b,a.f,a.ub+costB c,a.uf⟩) h hi (by decide) (by rw [ha];rfl) rfl
 have hi1:i<(l.set i ⟨a.owner,a.b,a.f,a.ub+costB c,a.uf⟩).length:=by simpa using hi
 obtain ⟨g',cap',e,_,_,_,_,y4,y5⟩:=Xip h1 hi1
 injection e with e1 e2 e3
 injection e1 with e1
 injection e1 with e1
 subst e1
 rw [List.getElem_set_self] at y4
 have h1':OwnS tAcc 54 I (W.setCell ⟨g,i*5+3,none⟩ (.int .i64 (a.ub+costB c))) B (.slice (some ⟨g,0,none⟩) (l.set i ⟨a.owner,a.b,a.f,a.ub+costB c,a.uf⟩).length cap) (l.set i ⟨a.owner,a.b,a.f,a.ub+costB c,a.uf⟩):=by
  rw [List.length_set];exact h1
 have h2:=Xgu (j:=4) (u:= .int .i64 (a.uf+costF c)) (x:=payA a c) h1' hi1 (by decide) (by rw [List.getElem_set_self];rfl) rfl
 rw [List.length_set,List.set_set] at h2
 exact ⟨y4,y5,h2⟩
theorem Xnd {I:IH} {w W w':World} {B g cap i:Nat} {l:List Acc} {a:Acc} {r:Rqs} {e:Ending} (h:OwnS tAcc 54 I W B (.slice (some ⟨g,0,none⟩) l.length cap) l) (hi:i<l.length) (ha:l[i]=a) (hok:Ok I W) (hB:w.heap.size≤B) (hg:B≤g)
 (hw:Ok I w) (hb:Below w.heap.size w W) (hc:chargeP l r=if overA a r.c then ([],16) else (l.set i (payA a r.c),0)) (hn:¬overA a r.c) (he:e= .returned (.tuple #[.slice (some ⟨g,0,none⟩) l.length cap,.int .i64 0]))
 (hw':w'=(W.setCell ⟨g,i*5+3,none⟩ (.int .i64 (a.ub+costB r.c))).setCell ⟨g,i*5+4,none⟩ (.int .i64 (a.uf+costF r.c))):RetL tAcc I w (chargeP l r).1 (chargeP l r).2 e w':=by
 rw [hc,if_neg hn]
 subst hw' he
 obtain ⟨_,_,h2⟩:=Xoj (c:=r.c) h hi ha
 have hJ:∀b,B≤b→I b=none:=fun b hb=>hw.fresh (by omega)
 have hok2:=(hok.setCell (a:=⟨g,i*5+3,none⟩) (hJ g hg) (.int .i64 (a.ub+costB r.c))).setCell (a:=⟨g,i*5+4,none⟩) (hJ g hg) (.int .i64 (a.uf+costF r.c))
 obtain ⟨J,hx,hokJ,hr,_⟩:=h2.freeze hok2 hJ
 exact ⟨_,J,rfl,(hb.setCell (p:=⟨g,i*5+3,none⟩) (by show w.heap.size≤g;omega) _).setCell (p:=⟨g,i*5+4,none⟩) (by show w.heap.size≤g;omega) _,hx.mono hB,hokJ,hr⟩
set_option maxRecDepth 100000 in
set_option maxHeartbeats 2000000 in
theorem Xoa (I:IH) (v:Value) (l:List Acc) (hv:RdS tAcc I v l) (hl:AccsIn l) (hln:l.length≤1000) (r:Rqs) (va:Value) (hva:RdS tAt I va r.c.attrs) (hcl:r.c.content.length≤9223372036854775807) (w:World) (hw:Ok I w):
 Calls Tryz.prog 17 #[v,rqV r va] w (RetL tAcc I w (chargeP l r).1 (chargeP l r).2):=by
 have Hc:=Qh (fun w=>Xsr I r.c va hva w)
 have Hv:=Qh hv
 obtain ⟨aa,ca,rfl,_,_,_⟩:=id hva
 have Hi:=Qh (Xeq I v l hv _ _ _ _ (hw.alloc (.cells #[S r.owner,.int .i64 r.c.kind,S r.c.path,.slice aa r.c.attrs.length ca,S r.c.target,S r.c.content] 27)) (fun _ _=>by kernel_rfl) (Xmr r.owner w.heap.size (w.alloc (.cells #[S r.owner,.int .i64 r.c.kind,S r.c.path,.slice aa r.c.attrs.length ca,S r.c.target,S r.c.content] 27)) (by simp)))
 have hlen:=hv.len_le
 have hcn:=Xkr r.c
 have hcb:costB r.c≤9223372036854775807:=by unfold costB;split<;>omega
 obtain ⟨ao,cap,rfl,_,_,_⟩:=id hv
 clear hv hva
 rcases Xbl l (fun x=>x.owner==r.owner) with ⟨i,hi,e1,e2,e3⟩|⟨e1,e2⟩
 case inr=>
  have Hn:=Qh (show chargeP l r=([],9) from Xeo l [] e2)
  rw [e1] at Hi
  clear e1 e2 hcn hcb
  go_enter Tryz.func17,Tryz.ntmps17
  go_wp2_with fail
  refine Hi.out.mono ?_
  rintro e w1 ⟨rfl,hb1⟩
  have hb1':=((Qb w.heap.size w).alloc (Qn _) (.cells #[S r.owner,.int .i64 r.c.kind,S r.c.path,.slice aa r.c.attrs.length ca,S r.c.target,S r.c.content] 27)).trans (hb1.mono (by simp))
  clear hb1 Hi
  go_wp2
  go_ret2
  rw [Hn.out]
  exact ⟨_,I,rfl,hb1',Ext.refl _ _,hw.below (Qn _) hb1',RdS.nil _ _⟩
 have Hch:=Qh (Xne hi e2 e3)
 rw [e1] at Hi
 clear e1 e2 e3
 obtain ⟨a,ha⟩:∃a,l[i]=a:=⟨_,rfl⟩
 rw [ha] at Hch
 have ham:a∈l:=by rw [←ha];exact List.getElem_mem hi
 obtain ⟨u0,u1,f0,f1⟩:=(⟨(hl.ok a ham).ub0,(hl.ok a ham).ub1,(hl.ok a ham).uf0,(hl.ok a ham).uf1⟩:_∧_∧_∧_)
 have hab:=hl.b a ham
 have haf:=hl.f a ham
 have Ha:=Qh ha
 have m1:IntKind.i64.wrap (a.b-a.ub)=a.b-a.ub:=IntWalk.i64_in _ (by omega)
 have m2:IntKind.i64.wrap (a.f-a.uf)=a.f-a.uf:=IntWalk.i64_in _ (by omega)
 have hi0:decide ((i:Int)<0)=false:=Qf (by omega)
 clear ha ham hl
 go_enter Tryz.func17,Tryz.ntmps17
 go_wp2_with fail
 refine Hi.out.mono ?_
 rintro e w1 ⟨rfl,hb1⟩
 have hbox:=(hb1.block w.heap.size (by simp)).trans (heap_alloc_new w (.cells #[S r.owner,.int .i64 r.c.kind,S r.c.path,.slice aa r.c.attrs.length ca,S r.c.target,S r.c.content] 27))
 have b1:w1.cell? ⟨w.heap.size,1,none⟩=some _:=(cell_of_row _ _ 1 _ _ _ hbox).trans rfl
 have b2:w1.cell? ⟨w.heap.size,2,none⟩=some _:=(cell_of_row _ _ 2 _ _ _ hbox).trans rfl
 have b3:w1.cell? ⟨w.heap.size,3,none⟩=some _:=(cell_of_row _ _ 3 _ _ _ hbox).trans rfl
 have b4:w1.cell? ⟨w.heap.size,4,none⟩=some _:=(cell_of_row _ _ 4 _ _ _ hbox).trans rfl
 have b5:w1.cell? ⟨w.heap.size,5,none⟩=some _:=(cell_of_row _ _ 5 _ _ _ hbox).trans rfl
 have hb1':=((Qb w.heap.size w).alloc (Qn _) (.cells #[S r.owner,.int .i64 r.c.kind,S r.c.path,.slice aa r.c.attrs.length ca,S r.c.target,S r.c.content] 27)).trans (hb1.mono (by simp))
 clear hb1 Hi hbox
 go_wp2_with fail
 refine (Hc.out _).mono ?_
 rintro e2 w2 ⟨rfl,hb2⟩
 have hb2':=hb1'.trans (hb2.mono hb1'.size)
 have hw2:Ok I w2:=hw.below (Qn _) hb2'
 obtain ⟨x,b,off,cap',hlx,hvv,hX⟩:=Xni Hv.out hw2 i hi
 obtain rfl:a=x:=Ha.out.symm.trans hlx
 cases hvv
 obtain ⟨c0,c1,c2,c3,c4⟩:=(⟨hX.c0,hX.c1,hX.c2,hX.c3,hX.c4⟩:_∧_∧_∧_∧_)
 clear hb1' hb2 b1 b2 b3 b4 b5 hX hlx Hc
 have hb3':=hb2'.alloc hb2'.size (.cells #[S a.owner,.int .i64 a.b,.int .i64 a.f,.int .i64 a.ub,.int .i64 a.uf] 54)
 have hw3:=hw2.alloc (.cells #[S a.owner,.int .i64 a.b,.int .i64 a.f,.int .i64 a.ub,.int .i64 a.uf] 54)
 by_cases q1:a.b-a.ub<costB r.c
 ·have i1:decide (a.b-a.ub<costB r.c)=true:=Qt q1
  have Hn:=Qh (show chargeP l r=([],16) by rw [Hch.out,if_pos (.inl q1)])
  clear q1 Hch
  go_wp2_with fail
  go_ret2
  rw [Hn.out]
  exact ⟨_,I,rfl,hb3',Ext.refl _ _,hw3,RdS.nil _ _⟩
 have i1:decide (a.b-a.ub<costB r.c)=false:=Qf q1
 by_cases q2:a.f-a.uf<costF r.c
 ·have i2:decide (a.f-a.uf<costF r.c)=true:=Qt q2
  have Hn:=Qh (show chargeP l r=([],16) by rw [Hch.out,if_pos (.inr q2)])
  clear q1 q2 Hch
  go_wp2_with fail
  go_ret2
  rw [Hn.out]
  exact ⟨_,I,rfl,hb3',Ext.refl _ _,hw3,RdS.nil _ _⟩
 have i2:decide (a.f-a.uf<costF r.c)=false:=Qf q2
 have m3:IntKind.i64.wrap (a.ub+costB r.c)=a.ub+costB r.c:=IntWalk.i64_in _ (by omega)
 have m4:IntKind.i64.wrap (a.uf+costF r.c)=a.uf+costF r.c:=IntWalk.i64_in _ (by omega)
 have Hno:=Qh (Xol q1 q2)
 clear q1 q2
 go_wp2_with fail
 refine (Xjy I _ l Hv.out _ hw3 (by omega)).mono ?_
 rintro e3 w4 ⟨v4,rfl,hown,hb4⟩
 have hs2:=hb2'.size
 have hb4':=hb3'.trans (hb4.mono (by simp;omega))
 have hw4:=hw3.below (Qn _) hb4
 obtain ⟨g,capg,rfl,_,hBg,hgl,y3,y4,y5⟩:=Xip hown hi
 obtain ⟨p4,p5,_⟩:=Xoj (c:=r.c) hown hi Ha.out
 rw [Ha.out] at y3 y4
 have f3:=y5 (i*5+3)
 have f4:=p5 (i*5+4)
 have Ho:=Qh hown
 clear hown y5 p5 c0 c1 c2 c3 c4 hb4 hb3' hw3 hw2 hb2' y4
 simp only [World.size_alloc] at hBg Ho
 go_wp2_with fail
 go_ret2
 exact Xnd Ho.out hi Ha.out hw4 (by omega) hBg hw hb4' Hch.out Hno.out rfl rfl

theorem Xhx:ElemOk Tryz.prog 46 29 tErr 8:=ElemOk.of (z:= .int .i64 0) Tryz.underlying46 (by kernel_rfl) rfl (by decide) rfl
structure AccsFit (l:List Acc):Prop where
 ok:AccsOk l
 b:∀a∈l,a.b≤9223372036854775807
 f:∀a∈l,a.f≤9223372036854775807
 len:l.length≤1000
theorem AccsFit.acc {l:List Acc} (h:AccsFit l):AccsIn l:=⟨h.ok.ok,h.b,h.f⟩
theorem AccsFit.charge {l m:List Acc} (h:AccsFit l) {r:Rqs} (hc:chargeP l r=(m,0)):AccsFit m:=by
 obtain ⟨h1,h2⟩:=h.ok.charge hc
 obtain ⟨rfl,_⟩:=Xf3 h.ok.srt hc
 refine ⟨h1,fun a ha=> ?_,fun a ha=> ?_,by rw [h2];exact h.len⟩
 ·obtain ⟨x,hx,rfl⟩:=List.mem_map.1 ha
  have:=h.b x hx
  unfold payO
  split<;>exact this
 ·obtain ⟨x,hx,rfl⟩:=List.mem_map.1 ha
  have:=h.f x hx
  unfold payO
  split<;>exact this
theorem AccsFit.ing {s:Ing} (h:AccsFit s.l) (r:Rqs):AccsFit (ingS s r).l:=by
 rcases Xcu s r with ⟨e,_,h1,_⟩|⟨h1,_,h2⟩
 ·rw [h1];exact h
 ·rw [h2];exact h.charge (Prod.ext rfl h1:chargeP s.l r=((chargeP s.l r).1,0))
theorem Xuj {n:Nat} {s:Ing} (h:DrOk n s.d) (hn:n≤60000) {r:Rqs} (hc:r.c.content.length≤65536):DrOk (n+1) (ingS s r).d:=by
 rcases Xcu s r with ⟨e,_,h1,_⟩|⟨_,_,h2⟩
 ·rw [h1];exact h.mono (by omega)
 ·rw [h2];exact Xse h hn hc
theorem Xui (s:Ing) (r:Rqs):(ingS s r).es.length=s.es.length+1:=by
 rcases Xcu s r with ⟨e,_,h1,_⟩|⟨_,_,h2⟩
 ·rw [h1];simp
 ·rw [h2];simp
def ingK (s:Ing) (rs:List Rqs) (k:Nat):Ing:=(rs.take k).foldl ingS s
theorem Xi2 (s:Ing) (rs:List Rqs) {k:Nat} (hk:k<rs.length) {r:Rqs} (hr:rs[k]=r):ingK s rs (k+1)=ingS (ingK s rs k) r:=by
 unfold ingK
 rw [List.take_succ_eq_append_getElem hk,hr,List.foldl_append]
 rfl
theorem Xth (d:Drf) (l:List Acc) (rs:List Rqs) {k:Nat} (hk:k≤rs.length):(ingK ⟨d,l,[]⟩ rs k).es.length=k:=by
 induction k with
 |zero=>rfl
 |succ k ih=>rw [Xi2 _ rs (by omega) rfl,Xui,ih (by omega)]
theorem Xlj {d:Drf} {l:List Acc} (h:AccsFit l) (rs:List Rqs):∀k,AccsFit (ingK ⟨d,l,[]⟩ rs k).l:=by
 intro k
 unfold ingK
 generalize rs.take k=q
 have:∀(q:List Rqs) (s:Ing),AccsFit s.l→AccsFit (q.foldl ingS s).l:=by
  intro q
  induction q with
  |nil=>intro s h;exact h
  |cons r q ih=>intro s h;exact ih _ (h.ing r)
 exact this q _ h
theorem MAt.ownO {I J:IH} {w0 W W':World} (h:MAt I w0 J W) {row:Option Nat} (hg:W.grownBy W' row) (hr:∀g,row=some g→J g=none∧w0.heap.size≤g):MAt I w0 J W':=
 ⟨h.ok.grown hg (fun g e=>(hr g e).1),h.keep,h.bel.grown hg h.size (fun g e=>(hr g e).2)⟩
theorem WrB.ownO {J:IH} {w w':World} {B:Nat} {d:Drf} {ve vk vt vh:Value} (h:WrB J w B d ve vk vt vh) {row:Option Nat} (hg:w.grownBy w' row) (hn:∀g,row=some g→J g=none) (hne:row≠some B):WrB J w' B d ve vk vt vh:=
 ⟨h.ok.grown hg hn,h.no,h.rd,(hg.block _ h.lt (fun e=>hne e.symm)).trans h.row⟩
def RetIn (I:IH) (w:World) (s:Ing) (e:Ending) (w':World):Prop:=
 ∃ve vk vt vh va vs J,e= .returned (.tuple #[drV s.d ve vk vt vh,va,vs])∧Below w.heap.size w w'∧Ext w.heap.size I J∧Ok J w'∧DrRd J s.d ve vk vt vh∧RdS tAcc J va s.l∧RdS tErr J vs s.es
structure InM (I:IH) (w:World) (s:Ing) (B0:Nat) (J:IH) (W:World) (ve vk vt vh va vs:Value):Prop where
 at_:MAt I w J W
 ext:Ext w.heap.size I J
 zr:ZeR J W (w.heap.size+1) zeroD 43
 wr:WrB J W w.heap.size s.d ve vk vt vh
 acc:RdS tAcc J va s.l
 es:OwnS tErr 29 (fun _=>none) W B0 vs s.es
 no:∀g,vs.ownBlock=some g→J g=none
 hB:w.heap.size+1<B0
 hB':B0≤W.heap.size
section
variable {I J J':IH} {w W W':World} {s:Ing} {B0:Nat} {ve vk vt vh va vs:Value}
theorem InM.quiet (h:InM I w s B0 J W ve vk vt vh va vs) (hb:Below W.heap.size W W'):InM I w s B0 J W' ve vk vt vh va vs:=
 ⟨h.at_.quiet hb,h.ext,h.zr.quiet hb,h.wr.below hb,h.acc,h.es.below hb,h.no,h.hB,Nat.le_trans h.hB' hb.size⟩
theorem InM.past (h:InM I w s B0 J W ve vk vt vh va vs) (o:Obj):InM I w s B0 J (W.alloc o) ve vk vt vh va vs:=h.quiet ((Qb _ _).alloc (Qn _) o)
theorem InM.grow (h:InM I w s B0 J W ve vk vt vh va vs) (hb:Below W.heap.size W W') (hx:Ext W.heap.size J J') (hok:Ok J' W'):InM I w s B0 J' W' ve vk vt vh va vs:=
 ⟨h.at_.ext hb hx hok,h.ext.trans hx h.at_.size,h.zr.ext hb hx,h.wr.ext hb hx hok,h.acc.mono (hx.keep h.at_.ok (Qn _)),h.es.below hb,fun g e=>(hx g (Xda h.es e).2).trans (h.no g e),h.hB,Nat.le_trans h.hB' hb.size⟩
theorem InM.box (h:InM I w s B0 J W ve vk vt vh va vs) {d:Drf} {l:List Acc} {ve' vk' vt' vh' va':Value} (hg:W.grownBy W' (some w.heap.size)) (hr:W'.heap[w.heap.size]? =some (.cells #[.int .i64 d.num,.int .i64 d.date,S d.prev,ve',vk',.int .i64 d.sto.ses,S d.sto.str,vt',vh'] 43 (0,0))) (hd:DrRd J d ve' vk' vt' vh') (ha:RdS tAcc J va' l):
 InM I w ⟨d,l,s.es⟩ B0 J W' ve' vk' vt' vh' va' vs:=by
 have hok:=h.at_.own hg h.wr.no (Qn _)
 exact ⟨hok,h.ext,h.zr.own hg (fun e=>by injection e with e;omega),⟨hok.ok,h.wr.no,hd,hr⟩,ha,h.es.kept hg (.inr (h.es.ne_lt (by have:=h.hB;omega))),h.no,h.hB,Nat.le_trans h.hB' hg.size⟩
theorem InM.newBox (h:InM I w s B0 J W ve vk vt vh va vs) {n:Nat} {zr:Array Value} {ty:TypeId} (hg:W.grownBy W' (some n)) (hn:B0≤n) (hz:W.heap[n]? =some (.cells zr ty (0,0))) (hJ:J n=none) (hv:vs.ownBlock≠some n):InM I w s B0 J W' ve vk vt vh va vs:=by
 have hB:=h.hB
 have hs:=h.at_.size
 exact ⟨h.at_.own hg hJ (by omega),h.ext,h.zr.own hg (fun e=>by injection e with e;omega),h.wr.ownO hg (fun g e=>by injection e with e;subst e;exact hJ) (fun e=>by injection e with e;omega),h.acc,h.es.kept hg (.inr hv),h.no,h.hB,Nat.le_trans h.hB' hg.size⟩
theorem InM.ret (h:InM I w s B0 J W ve vk vt vh va vs) (hg:W.grownBy W' (some (w.heap.size+1))):RetIn I w s (.returned (.tuple #[drV s.d ve vk vt vh,va,vs])) W':=by
 have hB:=h.hB
 have hA:=h.at_.own hg h.zr.no (by omega)
 have hes:=h.es.kept hg (.inr (h.es.ne_lt hB))
 have hes2:=hes.mono (I':=J) (fun b c h=>by cases h)
 obtain ⟨J2,hk,hx,hok,hr,_⟩:=hes2.freezeA hA.ok h.no
 exact ⟨_,_,_,_,_,_,J2,rfl,hA.bel,h.ext.trans hx (by omega),hok,h.wr.rd.mono hk,h.acc.mono hk,hr⟩
theorem InM.note (h:InM I w s B0 J W ve vk vt vh va vs) {vs':Value} {e:Int} (hg:W.grownBy W' vs.ownBlock) (ho:OwnS tErr 29 (fun _=>none) W' B0 vs' (s.es++ [e])) (hl:∀g,vs'.ownBlock=some g→vs.ownBlock=some g∨W.heap.size≤g):
 InM I w ⟨s.d,s.l,s.es++ [e]⟩ B0 J W' ve vk vt vh va vs':=by
 have hs:=h.at_.size
 have hB:=h.hB
 have hne:∀b,b<B0→vs.ownBlock≠some b:=fun b hb=>h.es.ne_lt hb
 exact ⟨h.at_.ownO hg (fun g e=>⟨h.no g e,by have:=h.es.own_ge e;omega⟩),h.ext,h.zr.own hg (fun e=>hne _ hB e.symm),h.wr.ownO hg h.no (hne _ (by omega)),h.acc,ho,fun g e=>(hl g e).elim (h.no g) (fun q=>h.at_.ok.fresh q),h.hB,Nat.le_trans h.hB' hg.size⟩
end
theorem Xu2 {s:Ing} {r:Rqs} {m:List Acc} {e:Int} (h:chargeP s.l r=(m,e)) (he:e≠0):ingS s r=⟨s.d,s.l,s.es++ [e]⟩:=by
 unfold ingS;rw [h,if_pos he]
theorem Xu1 {s:Ing} {r:Rqs} {m:List Acc} {d:Drf} {e:Int} (h:chargeP s.l r=(m,0)) (h2:addP s.d r.c=(d,e)) (he:e≠0):ingS s r=⟨s.d,s.l,s.es++ [e]⟩:=by
 unfold ingS;rw [h,if_neg (by simp),h2,if_pos he]
theorem Xu0 {s:Ing} {r:Rqs} {m:List Acc} {d:Drf} (h:chargeP s.l r=(m,0)) (h2:addP s.d r.c=(d,0)):ingS s r=⟨d,m,s.es++ [0]⟩:=by
 unfold ingS;rw [h,if_neg (by simp),h2,if_neg (by simp)]
set_option maxRecDepth 100000 in
set_option maxHeartbeats 4000000 in
theorem Xfa (I:IH) (hI:Glob I) (d:Drf) (hd:DrOk 0 d) (ve vk vt vh:Value) (hr:DrRd I d ve vk vt vh) (vl:Value) (l:List Acc) (hl:RdS tAcc I vl l) (hok:AccsFit l) (vr:Value) (rs:List Rqs) (hrs:RdS tRq I vr rs) (hc:∀r∈rs,r.c.Wf∧r.c.attrs.length≤1000000) (hn:rs.length≤150) (w:World) (hw:Ok I w):
 Calls Tryz.prog 21 #[drV d ve vk vt vh,vl,vr] w (RetIn I w (ingP d l rs)):=by
 have Hi9:=Qh (show (Tryz.prog.info? 43).map (·.size)=some 9 by kernel_rfl)
 obtain ⟨ae,ce,rfl,_,_,_⟩:=id hr.ents
 obtain ⟨ak,ck,rfl,_,_,_⟩:=id hr.cks
 obtain ⟨at',ct,rfl,_,_,_⟩:=id hr.tree
 obtain ⟨ah,ch,rfl,_,_,_⟩:=id hr.holds
 have A0:=Qh (((MAt.start hw).past (.cells #[.int .i64 d.num,.int .i64 d.date,S d.prev,.slice ae d.ents.length ce,.slice ak d.sto.cks.length ck,.int .i64 d.sto.ses,S d.sto.str,.slice at' d.tree.length ct,.slice ah d.holds.length ch] 43)).past (.cells zeroD 43))
 have D0:=Qh (show WrB I ((w.alloc (.cells #[.int .i64 d.num,.int .i64 d.date,S d.prev,.slice ae d.ents.length ce,.slice ak d.sto.cks.length ck,.int .i64 d.sto.ses,S d.sto.str,.slice at' d.tree.length ct,.slice ah d.holds.length ch] 43)).alloc (.cells zeroD 43)) w.heap.size d _ _ _ _ from ⟨A0.out.ok,hw.fresh (Qn _),hr,(((Qb _ _).alloc (Qn _) _).block _ (by simp)).trans (heap_alloc_new w _)⟩)
 have Z0:=Qh (show ZeR I ((w.alloc (.cells #[.int .i64 d.num,.int .i64 d.date,S d.prev,.slice ae d.ents.length ce,.slice ak d.sto.cks.length ck,.int .i64 d.sto.ses,S d.sto.str,.slice at' d.tree.length ct,.slice ah d.holds.length ch] 43)).alloc (.cells zeroD 43)) (w.heap.size+1) zeroD 43 from ⟨hw.fresh (by omega),by have:=heap_alloc_new (w.alloc (.cells #[.int .i64 d.num,.int .i64 d.date,S d.prev,.slice ae d.ents.length ce,.slice ak d.sto.cks.length ck,.int .i64 d.sto.ses,S d.sto.str,.slice at' d.tree.length ct,.slice ah d.holds.length ch] 43)) (.cells zeroD 43);simpa using this⟩)
 have Hcl:=Qh (Xjy I vl l hl _ A0.out.ok (by have:=hok.len;omega))
 have HG:=Qh hI
 have Hc:=Qh hc
 have Hrs:=Qh hrs
 have Hok:=Qh hok
 have Hd:=Qh hd
 obtain ⟨ao,cap,rfl,_,_,_⟩:=id hl
 obtain ⟨ro,rcap,rfl,_,_,_⟩:=id hrs
 clear hI hc hrs hok hd hl hr
 go_enter Tryz.func21,Tryz.ntmps21
 go_wp2_with fail
 refine Hcl.out.mono ?_
 rintro e1 w1 ⟨v1,rfl,hown,hb1⟩
 have A1:=Qh (A0.out.quiet hb1)
 obtain ⟨J1,hx1,hokJ,hr1,_⟩:=hown.freeze A1.out.ok (fun b hb=>hw.fresh (by simp at hb;omega))
 have hs1:=hb1.size
 simp only [World.size_alloc] at hs1 hx1
 have M1:=Qh (show InM I w ⟨d,l,[]⟩ w1.heap.size J1 w1 _ _ _ _ v1 (.slice none 0 0) from
  ⟨⟨hokJ,fun b c h=>hx1.keep hw (by omega) b c h,A1.out.bel⟩,hx1.mono (by omega),⟨(hx1 _ (by omega)).trans Z0.out.no,(Z0.out.quiet hb1).row⟩,⟨hokJ,(hx1 _ (by omega)).trans D0.out.no,D0.out.rd.mono (fun b c h=>hx1.keep hw (by omega) b c h),(D0.out.below hb1).row⟩,hr1,OwnS.nil _ _ _ _ _,fun g e=>(by cases e),by omega,Qn _⟩)
 have Hdr:=Qh (show DrOk 0 (ingK ⟨d,l,[]⟩ rs 0).d from Hd.out)
 obtain ⟨o1,c1,rfl,_,_,_⟩:=id hr1
 clear hown hx1 hokJ hr1 hb1 A0 A1 D0 Z0 Hcl
 generalize w1.heap.size=B0 at M1
 go_wp2_with fail
 go_loopw [9,10,12,13,14,15,20] (fun s9 s10 _ _ _ _ s20 wr=> ∃(k:Nat) (J:IH) (ve vk vt vh:Value),k≤rs.length∧s20= .int .i64 k∧InM I w (ingK ⟨d,l,[]⟩ rs k) B0 J wr ve vk vt vh s9 s10∧DrOk k (ingK ⟨d,l,[]⟩ rs k).d) (fun _ _ _ _ _ _ i _=>rs.length-(intOf i).toNat)
 case atStart=>exact ⟨0,J1,_,_,_,_,Nat.zero_le _,rfl,M1.out,Hdr.out⟩
 case round=>
  clear M1 Hdr
  obtain ⟨k,J,ve,vk,vt,vh,hk,rfl,hM,hdr⟩:=hrel
  have M:=Qh hM
  have HdK:=Qh hdr
  clear hM hdr
  obtain ⟨ae,ce,rfl,_,_,_⟩:=id M.out.wr.rd.ents
  obtain ⟨ak,ck,rfl,_,_,_⟩:=id M.out.wr.rd.cks
  obtain ⟨at',ct,rfl,_,_,_⟩:=id M.out.wr.rd.tree
  obtain ⟨ah,ch,rfl,_,_,_⟩:=id M.out.wr.rd.holds
  obtain ⟨ao2,cap2,rfl,_,_,_⟩:=id M.out.acc
  have Hel:=Qh (Xth d l rs hk)
  have HoK:=Qh (Xlj (d:=d) Hok.out rs k)
  by_cases hlt:k<rs.length
  ·obtain ⟨r,va,b,off,cap',hlr,hvv,hR,hva⟩:=rqAt (Hrs.out.mono M.out.at_.keep) M.out.at_.ok k hlt
   cases hvv
   obtain ⟨c0,c1,c2,c3,c4,c5⟩:=(⟨hR.c0,hR.c1,hR.c2,hR.c3,hR.c4,hR.c5⟩:_∧_∧_∧_∧_∧_)
   have hcm:=Hc.out r (by rw [←hlr];exact List.getElem_mem hlt)
   have Hsn:=Qh (Xi2 ⟨d,l,[]⟩ rs hlt hlr)
   obtain ⟨s,hs⟩:∃s,ingK ⟨d,l,[]⟩ rs k=s:=⟨_,rfl⟩
   rw [hs] at M HdK Hsn Hel HoK ⊢
   have Hdr:=Qh (show DrOk (k+1) (ingK ⟨d,l,[]⟩ rs (k+1)).d by rw [Hsn.out];exact Xuj HdK.out (by omega) hcm.1.content)
   obtain ⟨oa,ca,rfl,_,_,_⟩:=id hva
   have Ma:=Qh (M.out.past (.cells #[S r.owner,.int .i64 r.c.kind,S r.c.path,.slice oa r.c.attrs.length ca,S r.c.target,S r.c.content] 27))
   have hch:=Xoa J _ _ M.out.acc HoK.out.acc HoK.out.len r _ hva (by have:=hcm.1.content;omega) _ Ma.out.at_.ok
   have had:=(fun (J':IH) (hk:∀b c,J b=some c→J' b=some c) ve vk vt vh (hr:DrRd J' s.d ve vk vt vh) w hw=>Xr9 J' (HG.out.mono (fun b c h=>hk b c (M.out.at_.keep b c h))) s.d HdK.out (by omega) ve vk vt vh hr r.c hcm.1 hcm.2 _ (hva.mono hk) w hw)
   obtain ⟨lm,en,hlm⟩:∃lm en,chargeP s.l r=(lm,en):=⟨_,_,rfl⟩
   obtain ⟨dn,rn,hdn⟩:∃dn rn,addP s.d r.c=(dn,rn):=⟨_,_,rfl⟩
   rw [hlm] at hch
   rw [hdn] at had
   dsimp only at hch had
   have Hch:=Qh hch
   have Had:=Qh had
   have Hlm:=Qh hlm
   have Hdn:=Qh hdn
   have hbox:=heap_alloc_new wr (.cells #[S r.owner,.int .i64 r.c.kind,S r.c.path,.slice oa r.c.attrs.length ca,S r.c.target,S r.c.content] 27)
   have HbX:=Qh hbox
   have hMB:=M.out.hB'
   have hMw:=M.out.at_.size
   clear hR hlr hva hcm hs hch had hlm hdn hbox M HdK
   go_wp2_with fail
   refine Hch.out.mono ?_
   rintro e1 w1 ⟨v1,J1,rfl,hb1,hx1,hok1,hr1⟩
   obtain ⟨o1,cc1,rfl,_,_,_⟩:=id hr1
   have M1:=Qh (Ma.out.grow hb1 hx1 hok1)
   have HK1:=Qh (fun b c h=>hx1.keep Ma.out.at_.ok (Qn _) b c h)
   have hbx:=(hb1.block wr.heap.size (by simp)).trans HbX.out
   have HR1:=Qh hr1
   clear c0 c1 c2 c3 c4 c5 hb1 hx1 hok1 hr1 Ma Hch HbX
   by_cases h0:en=0
   ·subst h0
    obtain ⟨b0,b1,b2,b3,b4,b5,b6,b7,b8⟩:=drB_row (d:=s.d) (M1.out.past (.cells zeroD 43)).wr.row
    have hbx2:=(((Qb w1.heap.size w1).alloc (Qn _) (.cells zeroD 43)).block wr.heap.size (Array.getElem?_eq_some_iff.1 hbx).1).trans hbx
    have y1:(w1.alloc (.cells zeroD 43)).cell? ⟨wr.heap.size,1,none⟩=some _:=(cell_of_row _ _ 1 _ _ _ hbx2).trans rfl
    have y2:(w1.alloc (.cells zeroD 43)).cell? ⟨wr.heap.size,2,none⟩=some _:=(cell_of_row _ _ 2 _ _ _ hbx2).trans rfl
    have y3:(w1.alloc (.cells zeroD 43)).cell? ⟨wr.heap.size,3,none⟩=some _:=(cell_of_row _ _ 3 _ _ _ hbx2).trans rfl
    have y4:(w1.alloc (.cells zeroD 43)).cell? ⟨wr.heap.size,4,none⟩=some _:=(cell_of_row _ _ 4 _ _ _ hbx2).trans rfl
    have y5:(w1.alloc (.cells zeroD 43)).cell? ⟨wr.heap.size,5,none⟩=some _:=(cell_of_row _ _ 5 _ _ _ hbx2).trans rfl
    have M2:=Qh (M1.out.past (.cells zeroD 43))
    have Zb:=Qh (show ZeR J1 (w1.alloc (.cells zeroD 43)) w1.heap.size zeroD 43 from ⟨M1.out.at_.ok.fresh (Qn _),heap_alloc_new _ _⟩)
    clear hbx hbx2
    go_wp2_with fail
    refine (Had.out J1 HK1.out _ _ _ _ M2.out.wr.rd _ M2.out.at_.ok).mono ?_
    rintro e5 w5 ⟨ve5,vk5,vt5,vh5,J5,rfl,hb5,hx5,hok5,hrd5⟩
    obtain ⟨ae5,ce5,rfl,_,_,_⟩:=id hrd5.ents
    obtain ⟨ak5,ck5,rfl,_,_,_⟩:=id hrd5.cks
    obtain ⟨at5,ct5,rfl,_,_,_⟩:=id hrd5.tree
    obtain ⟨ah5,ch5,rfl,_,_,_⟩:=id hrd5.holds
    have M5:=Qh (M2.out.grow hb5 hx5 hok5)
    have HR5:=Qh (HR1.out.mono (hx5.keep M2.out.at_.ok (Qn _)))
    have hzb:=(Zb.out.ext hb5 hx5).row
    have hzJ:=(Zb.out.ext hb5 hx5).no
    have hvn:=M1.out.es.ne_ge (Qn w1.heap.size)
    have HD5:=Qh hrd5
    have hs2:=M2.out.at_.size
    have hM1:=M1.out.at_.size
    have hM1B:=M1.out.hB'
    clear b0 b1 b2 b3 b4 b5 b6 b7 b8 y1 y2 y3 y4 y5 hb5 hx5 hok5 hrd5 Had M1 M2 HR1 Zb HK1
    go_upto_region 10 with (
     refine Xab rfl rfl 43 _ _ rfl w1.heap.size 0 (drCs dn (.slice ae5 dn.ents.length ce5) (.slice ak5 dn.sto.cks.length ck5) (.slice at5 dn.tree.length ct5) (.slice ah5 dn.holds.length ch5)) (drV dn (.slice ae5 dn.ents.length ce5) (.slice ak5 dn.sto.cks.length ck5) (.slice at5 dn.tree.length ct5) (.slice ah5 dn.holds.length ch5)) (by simp [Act.eval]) (by simp [Act.eval]) (by rfl) zeroD 43 hzb (by simp) (by kernel_rfl) (by simp [Value.oneCell']) (drCs dn (.slice ae5 dn.ents.length ce5) (.slice ak5 dn.sto.cks.length ck5) (.slice at5 dn.tree.length ct5) (.slice ah5 dn.holds.length ch5)).toArray (by rfl) ?_
     intro w6 hg6 hr6)
    have M6:=Qh (M5.out.newBox hg6 (by omega) hzb hzJ hvn)
    clear hg6 M5 hzb hzJ hvn
    by_cases h0:rn=0
    ·subst h0
     have Hst:=Qh (Xu0 Hlm.out Hdn.out)
     obtain ⟨b0,b1,b2,b3,b4,b5,b6,b7,b8⟩:=drB_row (d:=dn) hr6
     have hrow:=M6.out.wr.row
     go_upto_region 12 with (
      refine Xab rfl rfl 43 _ _ rfl w.heap.size 0 (drCs dn (.slice ae5 dn.ents.length ce5) (.slice ak5 dn.sto.cks.length ck5) (.slice at5 dn.tree.length ct5) (.slice ah5 dn.holds.length ch5)) (drV dn (.slice ae5 dn.ents.length ce5) (.slice ak5 dn.sto.cks.length ck5) (.slice at5 dn.tree.length ct5) (.slice ah5 dn.holds.length ch5)) (by simp [Act.eval]) (by simp [Act.eval]) (by rfl) _ 43 hrow (by simp) (by kernel_rfl) (by simp [Value.oneCell']) (drCs dn (.slice ae5 dn.ents.length ce5) (.slice ak5 dn.sto.cks.length ck5) (.slice at5 dn.tree.length ct5) (.slice ah5 dn.holds.length ch5)).toArray (by rfl) ?_
      intro w7 hg7 hr7)
     have M7:=Qh (M6.out.box hg7 hr7 HD5.out HR5.out)
     clear hg7 hr7 hr6 hrow b0 b1 b2 b3 b4 b5 b6 b7 b8 M6
     go_upto_region 13 with (
      at_builtin
      refine Xbb Xhx rfl _ _ rfl rfl (M7.out.es.alloc (.cells #[.int .i64 (0)] 29)) (vx:= .slice (some ⟨w7.heap.size,0,none⟩) 1 1) (by simp [Act.eval]) (SrcS.of_one (T:=tErr) (x:=0) (cs:= [.int .i64 (0)]) rfl (fun j u hu=>by rw [World.cell?_alloc_new];simpa using hu)) (by rw [Hel.out];simp;omega) (by rw [Hel.out];simp;omega) (by have:=M7.out.hB';simp;omega) ?_
      intro v9 w9 ho9 hg9 hl9)
     have M9:=Qh ((M7.out.past (.cells #[.int .i64 (0)] 29)).note hg9 ho9 hl9)
     clear ho9 hg9 hl9
     go_wp2_with fail
     go_roundw
     case rel=>exact ⟨k+1,J5,_,_,_,_,by omega,by go_num,by rw [Hsn.out,Hst.out];exact M9.out,Hdr.out⟩
     case measure=>simp [intOf];omega
    ·have Hst:=Qh (Xu1 Hlm.out Hdn.out h0)
     have i1:(rn==0)=false:=by simpa using h0
     clear h0 hr6
     go_upto_region 13 with (
      at_builtin
      refine Xbb Xhx rfl _ _ rfl rfl (M6.out.es.alloc (.cells #[.int .i64 (rn)] 29)) (vx:= .slice (some ⟨w6.heap.size,0,none⟩) 1 1) (by simp [Act.eval]) (SrcS.of_one (T:=tErr) (x:=rn) (cs:= [.int .i64 (rn)]) rfl (fun j u hu=>by rw [World.cell?_alloc_new];simpa using hu)) (by rw [Hel.out];simp;omega) (by rw [Hel.out];simp;omega) (by have:=M6.out.hB';simp;omega) ?_
      intro v9 w9 ho9 hg9 hl9)
     have M9:=Qh ((M6.out.past (.cells #[.int .i64 (rn)] 29)).note hg9 ho9 hl9)
     clear ho9 hg9 hl9
     go_wp2_with fail
     go_roundw
     case rel=>exact ⟨k+1,J5,_,_,_,_,by omega,by go_num,by rw [Hsn.out,Hst.out];exact M9.out,Hdr.out⟩
     case measure=>simp [intOf];omega
   ·have Hst:=Qh (Xu2 Hlm.out h0)
    have i1:(en==0)=false:=by simpa using h0
    clear h0 hbx Had
    go_upto_region 13 with (
     at_builtin
     refine Xbb Xhx rfl _ _ rfl rfl (M1.out.es.alloc (.cells #[.int .i64 (en)] 29)) (vx:= .slice (some ⟨w1.heap.size,0,none⟩) 1 1) (by simp [Act.eval]) (SrcS.of_one (T:=tErr) (x:=en) (cs:= [.int .i64 (en)]) rfl (fun j u hu=>by rw [World.cell?_alloc_new];simpa using hu)) (by rw [Hel.out];simp;omega) (by rw [Hel.out];simp;omega) (by have:=M1.out.hB';simp;omega) ?_
     intro v9 w9 ho9 hg9 hl9)
    have M9:=Qh ((M1.out.past (.cells #[.int .i64 (en)] 29)).note hg9 ho9 hl9)
    clear ho9 hg9 hl9
    go_wp2_with fail
    go_roundw
    case rel=>exact ⟨k+1,J1,_,_,_,_,by omega,by go_num,by rw [Hsn.out,Hst.out];exact M9.out,Hdr.out⟩
    case measure=>simp [intOf];omega
  ·have hke:k=rs.length:=by omega
   subst hke
   have Hfin:=Qh (show ingK ⟨d,l,[]⟩ rs rs.length=ingP d l rs by unfold ingK ingP;rw [List.take_length])
   rw [Hfin.out] at M ⊢
   obtain ⟨s,hs⟩:∃s,ingP d l rs=s:=⟨_,rfl⟩
   have Hs9:=Qh hs
   rw [hs] at M ⊢
   clear hs Hfin HdK Hel HoK
   obtain ⟨b0,b1,b2,b3,b4,b5,b6,b7,b8⟩:=drB_row (d:=s.d) M.out.wr.row
   have hZr:=M.out.zr.row
   go_wp2_with (refine Xab rfl rfl 43 _ _ rfl (w.heap.size+1) 0 (drCs s.d (.slice ae s.d.ents.length ce) (.slice ak s.d.sto.cks.length ck) (.slice at' s.d.tree.length ct) (.slice ah s.d.holds.length ch)) (drV s.d (.slice ae s.d.ents.length ce) (.slice ak s.d.sto.cks.length ck) (.slice at' s.d.tree.length ct) (.slice ah s.d.holds.length ch)) (by simp [Act.eval]) (by simp [Act.eval]) (by rfl) zeroD 43 hZr (by simp) (by kernel_rfl) (by simp [Value.oneCell']) (drCs s.d (.slice ae s.d.ents.length ce) (.slice ak s.d.sto.cks.length ck) (.slice at' s.d.tree.length ct) (.slice ah s.d.holds.length ch)).toArray (by rfl) ?_
                intro w9 hg9 hr9)
   refine bodyPost_ret (v:= .tuple #[drV s.d (.slice ae s.d.ents.length ce) (.slice ak s.d.sto.cks.length ck) (.slice at' s.d.tree.length ct) (.slice ah s.d.holds.length ch),.slice ao2 s.l.length cap2,u10]) ?_ rfl ?_
   ·rw [Xa4 rfl]
    simp [asAddr,run_loadVar_row w9 (w.heap.size+1) 43 43 _ (0,0) _ hr9 Tryz.underlying43 rfl Hi9.out]
   ·rw [Hs9.out]
    exact M.out.ret hg9
theorem Xk7 {α:Type} {T:Ty α} {E:TypeId} {J:IH} {W:World} {g:Nat} {cs:List Value} {l:List α} (hw:Ok J W) (hg:W.heap[g]? =some (.cells cs.toArray E (0,0))) (hn:J g=none) (hx:LiesL T J cs l) (hl:l.length≤1000):
 ∃J',(∀b c,J b=some c→J' b=some c)∧Ext g J J'∧Ok J' W∧(∀b,b≠g→J' b=J b)∧RdS T J' (.slice (some ⟨g,0,none⟩) l.length l.length) l:=by
 have hkeep:∀b c,J b=some c→(J.add g cs.toArray) b=some c:=fun b c hc=>by
  unfold IH.add
  by_cases e:b=g
  ·subst e;rw [hn] at hc;cases hc
  ·rw [if_neg e];exact hc
 refine ⟨J.add g cs.toArray,hkeep,Ext.add (Qn _) J _,hw.add hg,fun b hb=>by simp [IH.add,hb],⟨_,l.length,rfl,Qn _,by unfold maxLen;omega,fun _=>⟨g,0,cs.toArray,rfl,by simp [IH.add],fun i hi=> ?_⟩⟩⟩
 obtain ⟨c,k1,k2⟩:=hx.2 i hi
 exact ⟨c,T.mono hkeep k1,fun j u hu=>by rw [Nat.zero_add];simpa using k2 j u hu⟩
def awC:Chg:=⟨4,[97],[],[],[]⟩
abbrev awCs:List Value:=rqCs (fileR [97] [49,50,51,52,53,54]) (.slice none 0 0)++rqCs (fileR [98] [49,50,51,52]) (.slice none 0 0)++rqCs (fileR [99] []) (.slice none 0 0)++rqCs ⟨[97,110,110],awC⟩ (.slice none 0 0)
abbrev awRow:Array Value:=awCs.toArray
theorem Xut (J:IH):LiesL tRq J awCs awR:=
 ((LiesL.one (T:=tRq) (x:=fileR [97] [49,50,51,52,53,54]) (cs:=rqCs _ (.slice none 0 0)) ⟨_,rfl,RdS.nil _ _⟩).append (LiesL.one (T:=tRq) (x:=fileR [98] [49,50,51,52]) (cs:=rqCs _ (.slice none 0 0)) ⟨_,rfl,RdS.nil _ _⟩) |>.append (LiesL.one (T:=tRq) (x:=fileR [99] []) (cs:=rqCs _ (.slice none 0 0)) ⟨_,rfl,RdS.nil _ _⟩)).append (LiesL.one (T:=tRq) (x:=⟨[97,110,110],awC⟩) (cs:=rqCs _ (.slice none 0 0)) ⟨_,rfl,RdS.nil _ _⟩)
set_option maxRecDepth 100000 in
theorem Xd7 (p c:Bytes) (w:World):Calls Tryz.prog 48 #[S p,S c] w fun e w'=>e= .returned (rqV (fileR p c) (.slice none 0 0))∧Below w.heap.size w w':=by
 go_enter Tryz.func48,Tryz.ntmps48
 go_wp2_with (refine Xab rfl rfl 27 _ _ rfl w.heap.size 0 (rqCs (fileR p c) (.slice none 0 0)) (rqV (fileR p c) (.slice none 0 0)) (by simp [Act.eval,fileR]) (by simp [Act.eval,fileR]) (by rfl) #[.string ⟨#[]⟩,.int .i64 0,.string ⟨#[]⟩,.slice none 0 0,.string ⟨#[]⟩,.string ⟨#[]⟩] 27 (heap_alloc_new _ _) (by simp) (by kernel_rfl) (by simp [Value.oneCell']) (rqCs (fileR p c) (.slice none 0 0)).toArray (by rfl) ?_
              intro w9 hg9 hr9)
 refine bodyPost_ret (results_cell_row rfl _ _ w.heap.size _ (rqCs (fileR p c) (.slice none 0 0)).toArray (0,0) _ rfl hr9 Tryz.underlying27 rfl (by kernel_rfl)) rfl ⟨rfl,((Qb _ _).alloc (Qn _) _).grown hg9 (by simp) (fun k e=>by injection e with e;omega)⟩
theorem Xur {J:IH}:LiesL tErr J [.int .i64 0,.int .i64 0,.int .i64 16,.int .i64 0] [0,0,16,0]:=
 ((LiesL.one (T:=tErr) (x:=0) (cs:= [.int .i64 0]) rfl).append (LiesL.one (T:=tErr) (x:=0) (cs:= [.int .i64 0]) rfl) |>.append (LiesL.one (T:=tErr) (x:=16) (cs:= [.int .i64 16]) rfl)).append (LiesL.one (T:=tErr) (x:=0) (cs:= [.int .i64 0]) rfl)
theorem Xus:AccsFit [annA]:=⟨AccsOk.of (by decide +kernel),fun a h=>by rw [List.mem_singleton.1 h];decide,fun a h=>by rw [List.mem_singleton.1 h];decide,by decide⟩
theorem Xu4:∀r∈awR,r.c.Wf∧r.c.attrs.length≤1000000:=fun r hr=>by
 unfold awR at hr
 simp only [List.mem_cons,List.not_mem_nil,or_false] at hr
 rcases hr with rfl|rfl|rfl|rfl<;>exact ⟨⟨by decide,by decide,by decide,fun x hx=>(by cases hx),by decide,by decide⟩,by decide⟩
abbrev qaL (dB:Drf) (ve vk vt vh vl:Value) (s:Ing) (x:((Option Addr × Nat) × (Option Addr × Nat) × (Option Addr × Nat) × (Option Addr × Nat) × (Option Addr × Nat) × (Option Addr × Nat)) × Nat × Nat):List (Option Tmp × Value):=
 [(some 17,drV dB ve vk vt vh),(some 18,vl),(some 19,.func (.func 48) #[] #[]),(some 20,rqV (fileR [97] [49,50,51,52,53,54]) (.slice none 0 0)),(some 21,.func (.func 48) #[] #[]),(some 22,rqV (fileR [98] [49,50,51,52]) (.slice none 0 0)),(some 23,.func (.func 48) #[] #[]),(some 24,rqV (fileR [99] []) (.slice none 0 0)),(some 25,chgV awC (.slice none 0 0)),(some 26,rqV ⟨[97,110,110],awC⟩ (.slice none 0 0)),(some 27,.slice (some ⟨x.2.1,0,none⟩) 4 4),(some 28,.tuple #[drV s.d (.slice x.1.1.1 s.d.ents.length x.1.1.2) (.slice x.1.2.1.1 s.d.sto.cks.length x.1.2.1.2) (.slice x.1.2.2.1.1 s.d.tree.length x.1.2.2.1.2) (.slice x.1.2.2.2.1.1 s.d.holds.length x.1.2.2.2.1.2),.slice x.1.2.2.2.2.1.1 s.l.length x.1.2.2.2.2.1.2,.slice x.1.2.2.2.2.2.1 s.es.length x.1.2.2.2.2.2.2]),(some 16,.tuple #[drV s.d (.slice x.1.1.1 s.d.ents.length x.1.1.2) (.slice x.1.2.1.1 s.d.sto.cks.length x.1.2.1.2) (.slice x.1.2.2.1.1 s.d.tree.length x.1.2.2.1.2) (.slice x.1.2.2.2.1.1 s.d.holds.length x.1.2.2.2.1.2),.slice x.1.2.2.2.2.1.1 s.l.length x.1.2.2.2.2.1.2,.slice x.1.2.2.2.2.2.1 s.es.length x.1.2.2.2.2.2.2]),(some 29,drV s.d (.slice x.1.1.1 s.d.ents.length x.1.1.2) (.slice x.1.2.1.1 s.d.sto.cks.length x.1.2.1.2) (.slice x.1.2.2.1.1 s.d.tree.length x.1.2.2.1.2) (.slice x.1.2.2.2.1.1 s.d.holds.length x.1.2.2.2.1.2)),(some 30,.slice x.1.2.2.2.2.1.1 s.l.length x.1.2.2.2.2.1.2),(some 31,.slice x.1.2.2.2.2.2.1 s.es.length x.1.2.2.2.2.2.2),(some 5,.pointer (some ⟨x.2.2,0,none⟩)),(none,undef),(some 6,.slice x.1.2.2.2.2.1.1 s.l.length x.1.2.2.2.2.1.2),(some 7,.slice x.1.2.2.2.2.2.1 s.es.length x.1.2.2.2.2.2.2)]
theorem Xbd {dB:Drf} {ve vk vt vh vl:Value} {s:Ing} {x:((Option Addr × Nat) × (Option Addr × Nat) × (Option Addr × Nat) × (Option Addr × Nat) × (Option Addr × Nat) × (Option Addr × Nat)) × Nat × Nat}:ApartF (qaL dB ve vk vt vh vl s x):=by
 unfold ApartF
 simp
set_option maxRecDepth 100000 in
set_option maxHeartbeats 4000000 in
theorem Xiz (I:IH) (hI:Glob I) (w:World) (hw:Ok I w):
 Calls Tryz.prog 16 #[] w fun e w'=>e= .returned (.bool true)∧Below w.heap.size w w':=by
 have A0:=(MAt.start hw).past (.cells (accCs annA).toArray 54)
 obtain ⟨K,hk,_,hok,_,hrL⟩:=one_row (T:=tAcc) (x:=annA) (cs:=accCs annA) A0.ok (heap_alloc_new w _) (hw.fresh (Qn _)) rfl
 have A1:=Qh (show MAt I w K _ from ⟨hok,hk,A0.bel⟩)
 have HG:=Qh (hI.mono hk)
 have hbe:begErr [] 1=0:=by decide
 have hb:=Xk2 K (hI.mono hk) 7 1 0 [] Xec (by decide) (by decide) (.slice none 0 0) (RdS.nil _ _) 1 _ hok
 rw [Xpp hbe] at hb
 have HdO:=Qh (Xho Xec (by decide) (by decide) hbe:DrOk 0 (openP [] 1))
 have Hes:=Qh Xu5
 have HL:=Qh hrL
 obtain ⟨dB,hdB⟩:∃dB,openP [] 1=dB:=⟨_,rfl⟩
 rw [hdB] at hb HdO Hes
 have HB:=Qh hb
 clear A0 hk hok hrL hI hb hdB hbe
 go_enter Tryz.func16,Tryz.ntmps16
 go_wp2_with fail
 refine (HB.out).mono ?_
 rintro e1 w1 ⟨ve1,vk1,vt1,vh1,J1,rfl,hb1,hx1,hok1,hrd1⟩
 obtain ⟨ae1,ce1,rfl,_,_,_⟩:=id hrd1.ents
 obtain ⟨ak1,ck1,rfl,_,_,_⟩:=id hrd1.cks
 obtain ⟨at1,ct1,rfl,_,_,_⟩:=id hrd1.tree
 obtain ⟨ah1,ch1,rfl,_,_,_⟩:=id hrd1.holds
 go_upto_region 3 with (
  refine Xab rfl rfl 43 _ _ rfl w1.heap.size 0 (drCs dB (.slice ae1 dB.ents.length ce1) (.slice ak1 dB.sto.cks.length ck1) (.slice at1 dB.tree.length ct1) (.slice ah1 dB.holds.length ch1)) (drV dB (.slice ae1 dB.ents.length ce1) (.slice ak1 dB.sto.cks.length ck1) (.slice at1 dB.tree.length ct1) (.slice ah1 dB.holds.length ch1)) (by simp [Act.eval]) (by simp [Act.eval]) (by rfl) zeroD 43 (heap_alloc_new _ _) (by simp) (by kernel_rfl) (by simp [Value.oneCell']) (drCs dB (.slice ae1 dB.ents.length ce1) (.slice ak1 dB.sto.cks.length ck1) (.slice at1 dB.tree.length ct1) (.slice ah1 dB.holds.length ch1)).toArray (by rfl) ?_
  intro w2 hg2 hr2)
 have hb2:Below w1.heap.size w1 w2:=((Qb _ _).alloc (Qn _) _).grown hg2 (by simp) (fun k e=>by injection e with e;omega)
 have hf1:J1 w1.heap.size=none:=hok1.fresh (Qn _)
 have A3:=Qh ((A1.out.ext hb1 hx1 hok1).quiet hb2)
 have D3:=Qh (show WrB J1 w2 w1.heap.size dB _ _ _ _ from ⟨A3.out.ok,hf1,hrd1,hr2⟩)
 have HL3:=Qh (HL.out.mono (hx1.keep A1.out.ok (Qn _)))
 have HK3:=Qh (fun b c h=>hx1.keep A1.out.ok (Qn _) b c h)
 clear hb1 hx1 hok1 hrd1 hg2 hr2 hb2 hf1 A1 HB HL
 generalize w1.heap.size=BA at D3
 have HBX:=Qh (show BA<w2.heap.size∧J1 BA=none∧BA<w2.heap.size∧J1 BA=none∧(BA≠BA∨BA<w2.heap.size) from ⟨D3.out.lt,D3.out.no,D3.out.lt,D3.out.no,.inr D3.out.lt⟩)
 have hin:=(fun J6 (h6:∀b c,J1 b=some c→J6 b=some c) vr (hr:RdS tRq J6 vr awR) w hw=>Xfa J6 (HG.out.mono (fun b c h=>h6 b c (HK3.out b c h))) dB HdO.out _ _ _ _ (D3.out.rd.mono h6) _ [annA] (HL3.out.mono h6) Xus vr awR hr Xu4 (by decide) w hw)
 obtain ⟨s,hs⟩:∃s,ingP dB [annA] awR=s:=⟨_,rfl⟩
 rw [hs] at hin Hes
 have Hin:=Qh hin
 obtain ⟨b0,b1,b2,b3,b4,b5,b6,b7,b8⟩:=drB_row (d:=dB) D3.out.row
 clear hin hs HG HK3 HdO HL3
 go_wp2_with fail
 refine Xak (X:=((Option Addr × Nat) × (Option Addr × Nat) × (Option Addr × Nat) × (Option Addr × Nat) × (Option Addr × Nat) × (Option Addr × Nat)) × Nat × Nat) (qaL dB (.slice ae1 dB.ents.length ce1) (.slice ak1 dB.sto.cks.length ck1) (.slice at1 dB.tree.length ct1) (.slice ah1 dB.holds.length ch1) (.slice (some ⟨w.heap.size,0,none⟩) 1 1) s) (RgE w2 11 241 10 242 16 243 234 244 (fun x w=>x.2.2<w.heap.size∧J1 x.2.2=none∧x.2.1<w.heap.size∧J1 x.2.1=none∧(x.2.2≠x.2.1∨x.2.1<w2.heap.size)) (fun x w=> ∃J',Ext w2.heap.size J1 J'∧Ok J' w∧DrRd J' s.d (.slice x.1.1.1 s.d.ents.length x.1.1.2) (.slice x.1.2.1.1 s.d.sto.cks.length x.1.2.1.2) (.slice x.1.2.2.1.1 s.d.tree.length x.1.2.2.1.2) (.slice x.1.2.2.2.1.1 s.d.holds.length x.1.2.2.2.1.2)∧RdS tAcc J' (.slice x.1.2.2.2.2.1.1 s.l.length x.1.2.2.2.2.1.2) s.l∧RdS tErr J' (.slice x.1.2.2.2.2.2.1 s.es.length x.1.2.2.2.2.2.2) s.es∧J' x.2.2=none) (fun x w=>w.heap[x.2.1]? =some (.cells awRow 27 (0,0))∧w2.heap.size≤x.2.1) (fun x w=>w.heap[x.2.2]? =some (.cells zeroD 43 (0,0))∧w2.heap.size≤x.2.2) (fun _ _=>True) (fun x w=>(∃J',Ext w2.heap.size J1 J'∧Ok J' w∧DrRd J' s.d (.slice x.1.1.1 s.d.ents.length x.1.1.2) (.slice x.1.2.1.1 s.d.sto.cks.length x.1.2.1.2) (.slice x.1.2.2.1.1 s.d.tree.length x.1.2.2.1.2) (.slice x.1.2.2.2.1.1 s.d.holds.length x.1.2.2.2.1.2)∧RdS tAcc J' (.slice x.1.2.2.2.2.1.1 s.l.length x.1.2.2.2.2.1.2) s.l∧RdS tErr J' (.slice x.1.2.2.2.2.2.1 s.es.length x.1.2.2.2.2.2.2) s.es∧J' x.2.2=none)∧(w.heap[x.2.2]? =some (.cells zeroD 43 (0,0))∧w2.heap.size≤x.2.2)) (fun x=>x.2.2) 43 17 221 222 (fun x=>(drCs s.d (.slice x.1.1.1 s.d.ents.length x.1.1.2) (.slice x.1.2.1.1 s.d.sto.cks.length x.1.2.1.2) (.slice x.1.2.2.1.1 s.d.tree.length x.1.2.2.1.2) (.slice x.1.2.2.2.1.1 s.d.holds.length x.1.2.2.2.1.2)).toArray) (fun x=>(drCs s.d (.slice x.1.1.1 s.d.ents.length x.1.1.2) (.slice x.1.2.1.1 s.d.sto.cks.length x.1.2.1.2) (.slice x.1.2.2.1.1 s.d.tree.length x.1.2.2.1.2) (.slice x.1.2.2.2.1.1 s.d.holds.length x.1.2.2.2.1.2)).toArray) (fun x=>(drCs s.d (.slice x.1.1.1 s.d.ents.length x.1.1.2) (.slice x.1.2.1.1 s.d.sto.cks.length x.1.2.1.2) (.slice x.1.2.2.1.1 s.d.tree.length x.1.2.2.1.2) (.slice x.1.2.2.2.1.1 s.d.holds.length x.1.2.2.2.1.2)).toArray)) (by kernel_rfl) (by kernel_rfl) ?_ ?_ ?_
 ·exact ⟨(default,BA,BA),RgE.start _ _ HBX.out⟩
 ·rintro x s' a' w' i hsz hcl ha hC hi
  obtain ⟨hun,oi,hoi,hall⟩:=mem_ready.1 hi
  have ev:=Xg4 Xbd ha
  have hlt:=Xc9 hun
  rcases i with _|_|_|_|_|_|_|_|_|_|_|_|_|_|_|_|_|_|_|_|i
  rotate_left 20
  ·simp at hoi
  all_goals
   have hoj:=hoi
   simp at hoi
   subst hoi
   simp [Region.binds] at hall
   try have hl:=Xas 6 17 hcl (by decide +kernel) hun
   try have hbw:=hC.off hl
   try have b0:=Xaa hbw b0
   try have b1:=Xaa hbw b1
   try have b2:=Xaa hbw b2
   try have b3:=Xaa hbw b3
   try have b4:=Xaa hbw b4
   try have b5:=Xaa hbw b5
   try have b6:=Xaa hbw b6
   try have b7:=Xaa hbw b7
   try have b8:=Xaa hbw b8
   refine wpOp_step hoj (fun K' hK=> ?_)
   rw [if_pos (by rfl)]
  rotate_left 3
  ·unfold Oper.wp
   simp [go_sem,ev,evF,hall,Oper.upon]
   refine (Xd7 [97] [49,50,51,52,53,54] w').mono ?_
   rintro r4 w4 ⟨rfl,hb4⟩
   exact hK _ _ ⟨x,Xax Xbd ha rfl hun,hC.step hl (hbw.trans (hb4.mono hbw.size)) (by decide) (fun h=>⟨Nat.lt_of_lt_of_le h.1 hb4.size,h.2.1,Nat.lt_of_lt_of_le h.2.2.1 hb4.size,h.2.2.2⟩) (fun h _=>h.elim (fun e=>absurd e (by decide)) (fun ⟨_,_,q⟩=>(q.elim fun J9 h9=>⟨J9,h9.1,h9.2.1.below (Qn _) hb4,h9.2.2⟩))) (fun h _=>h.elim (fun e=>absurd e (by decide)) (fun ⟨_,_,q⟩=>⟨(hb4.block _ (Array.getElem?_eq_some_iff.1 q.1).1).trans q.1,q.2⟩)) (fun h _=>h.elim (fun e=>absurd e (by decide)) (fun ⟨_,_,q⟩=>⟨(hb4.block _ (Array.getElem?_eq_some_iff.1 q.1).1).trans q.1,q.2⟩)) (fun _ _=>trivial) hlt⟩
  rotate_left 1
  ·unfold Oper.wp
   simp [go_sem,ev,evF,hall,Oper.upon]
   refine (Xd7 [98] [49,50,51,52] w').mono ?_
   rintro r4 w4 ⟨rfl,hb4⟩
   exact hK _ _ ⟨x,Xax Xbd ha rfl hun,hC.step hl (hbw.trans (hb4.mono hbw.size)) (by decide) (fun h=>⟨Nat.lt_of_lt_of_le h.1 hb4.size,h.2.1,Nat.lt_of_lt_of_le h.2.2.1 hb4.size,h.2.2.2⟩) (fun h _=>h.elim (fun e=>absurd e (by decide)) (fun ⟨_,_,q⟩=>(q.elim fun J9 h9=>⟨J9,h9.1,h9.2.1.below (Qn _) hb4,h9.2.2⟩))) (fun h _=>h.elim (fun e=>absurd e (by decide)) (fun ⟨_,_,q⟩=>⟨(hb4.block _ (Array.getElem?_eq_some_iff.1 q.1).1).trans q.1,q.2⟩)) (fun h _=>h.elim (fun e=>absurd e (by decide)) (fun ⟨_,_,q⟩=>⟨(hb4.block _ (Array.getElem?_eq_some_iff.1 q.1).1).trans q.1,q.2⟩)) (fun _ _=>trivial) hlt⟩
  rotate_left 1
  ·unfold Oper.wp
   simp [go_sem,ev,evF,hall,Oper.upon]
   refine (Xd7 [99] [] w').mono ?_
   rintro r4 w4 ⟨rfl,hb4⟩
   exact hK _ _ ⟨x,Xax Xbd ha rfl hun,hC.step hl (hbw.trans (hb4.mono hbw.size)) (by decide) (fun h=>⟨Nat.lt_of_lt_of_le h.1 hb4.size,h.2.1,Nat.lt_of_lt_of_le h.2.2.1 hb4.size,h.2.2.2⟩) (fun h _=>h.elim (fun e=>absurd e (by decide)) (fun ⟨_,_,q⟩=>(q.elim fun J9 h9=>⟨J9,h9.1,h9.2.1.below (Qn _) hb4,h9.2.2⟩))) (fun h _=>h.elim (fun e=>absurd e (by decide)) (fun ⟨_,_,q⟩=>⟨(hb4.block _ (Array.getElem?_eq_some_iff.1 q.1).1).trans q.1,q.2⟩)) (fun h _=>h.elim (fun e=>absurd e (by decide)) (fun ⟨_,_,q⟩=>⟨(hb4.block _ (Array.getElem?_eq_some_iff.1 q.1).1).trans q.1,q.2⟩)) (fun _ _=>trivial) hlt⟩
  rotate_left 2
  ·unfold Oper.wp
   simp [go_sem,ev,evF,hall,Oper.upon,b0,b1,b2,b3,b4,b5,b6,b7,b8]
   have ha:=ha.trans (Xa3 (L:=qaL dB (.slice ae1 dB.ents.length ce1) (.slice ak1 dB.sto.cks.length ck1) (.slice at1 dB.tree.length ct1) (.slice ah1 dB.holds.length ch1) (.slice (some ⟨w.heap.size,0,none⟩) 1 1) s x) (M:=qaL dB (.slice ae1 dB.ents.length ce1) (.slice ak1 dB.sto.cks.length ck1) (.slice at1 dB.tree.length ct1) (.slice ah1 dB.holds.length ch1) (.slice (some ⟨w.heap.size,0,none⟩) 1 1) s (x.1,w'.heap.size,x.2.2)) [10] rfl (fun j hne=>by
    rcases j with _|_|_|_|_|_|_|_|_|_|_|_|_|_|_|_|_|_|_|_|j<;>first|rfl|(exact absurd (by decide) hne)|simp) (List.forall_mem_cons.2 ⟨Xam hun,List.forall_mem_nil _⟩))
   exact hK _ _ ⟨(x.1,w'.heap.size,x.2.2),Xax Xbd ha rfl hun,hC.step hl (hbw.trans (((Qb _ _).alloc (Qn _) _).mono hbw.size)) (by decide) (fun h=>⟨Nat.lt_of_lt_of_le h.1 (by simp),h.2.1,by simp,A3.out.ok.fresh hbw.size,.inl (Nat.ne_of_lt h.1)⟩) (fun h _=>h.elim (fun e=>absurd e (by decide)) (fun ⟨_,_,q⟩=>(q.elim fun J9 h9=>⟨J9,h9.1,h9.2.1.below (Qn _) ((Qb w'.heap.size w').alloc (Qn _) (.cells awRow 27)),h9.2.2⟩))) (fun _ _=>⟨heap_alloc_new _ _,hbw.size⟩) (fun h _=>h.elim (fun e=>absurd e (by decide)) (fun ⟨_,_,q⟩=>⟨(((Qb w'.heap.size w').alloc (Qn _) (.cells awRow 27)).block _ (Array.getElem?_eq_some_iff.1 q.1).1).trans q.1,q.2⟩)) (fun _ _=>trivial) hlt⟩
  ·have h2:=hC.f2 (by first|simpa using hall|simp [hall]) (Xan (by simp [hsz])) hl
   have h0:=hC.inv hl
   obtain ⟨J6,hk6,_,hok6,hne6,hr6⟩:=Xk7 (T:=tRq) (l:=awR) (cs:=awCs) (A3.out.ok.below (Qn _) hbw) h2.1 h0.2.2.2.1 (Xut _) (by decide)
   unfold Oper.wp
   simp [go_sem,ev,evF,hall,Oper.upon]
   refine (Hin.out J6 hk6 _ hr6 w' hok6).mono ?_
   rintro r4 w4 ⟨v5,v6,v7,v8,v9,v0,J7,rfl,hb4,hx7,hok7,hr7,hra,hre⟩
   obtain ⟨a5,k5,rfl,_,_,_⟩:=id hr7.ents
   obtain ⟨a6,k6,rfl,_,_,_⟩:=id hr7.cks
   obtain ⟨a7,k7,rfl,_,_,_⟩:=id hr7.tree
   obtain ⟨a8,k8,rfl,_,_,_⟩:=id hr7.holds
   obtain ⟨a9,k9,rfl,_,_,_⟩:=id hra
   obtain ⟨a0,k0,rfl,_,_,_⟩:=id hre
   have ha:=ha.trans (Xa3 (L:=qaL dB (.slice ae1 dB.ents.length ce1) (.slice ak1 dB.sto.cks.length ck1) (.slice at1 dB.tree.length ct1) (.slice ah1 dB.holds.length ch1) (.slice (some ⟨w.heap.size,0,none⟩) 1 1) s x) (M:=qaL dB (.slice ae1 dB.ents.length ce1) (.slice ak1 dB.sto.cks.length ck1) (.slice at1 dB.tree.length ct1) (.slice ah1 dB.holds.length ch1) (.slice (some ⟨w.heap.size,0,none⟩) 1 1) s (((a5,k5),(a6,k6),(a7,k7),(a8,k8),(a9,k9),(a0,k0)),x.2)) [11,12,13,14,15,18,19] rfl (fun j hne=>by
    rcases j with _|_|_|_|_|_|_|_|_|_|_|_|_|_|_|_|_|_|_|_|j<;>first|rfl|(exact absurd (by decide) hne)|simp) (List.forall_mem_cons.2 ⟨Xam hun,List.forall_mem_cons.2 ⟨Xas 6 12 hcl (by kernel_rfl) hun,List.forall_mem_cons.2 ⟨Xas 6 13 hcl (by kernel_rfl) hun,List.forall_mem_cons.2 ⟨Xas 6 14 hcl (by kernel_rfl) hun,List.forall_mem_cons.2 ⟨Xas 6 15 hcl (by kernel_rfl) hun,List.forall_mem_cons.2 ⟨Xas 6 18 hcl (by kernel_rfl) hun,List.forall_mem_cons.2 ⟨Xas 6 19 hcl (by kernel_rfl) hun,List.forall_mem_nil _⟩⟩⟩⟩⟩⟩⟩))
   exact hK _ _ ⟨(((a5,k5),(a6,k6),(a7,k7),(a8,k8),(a9,k9),(a0,k0)),x.2),Xax Xbd ha rfl hun,hC.step hl (hbw.trans (hb4.mono hbw.size)) (by decide) (fun h=>⟨Nat.lt_of_lt_of_le h.1 hb4.size,h.2.1,Nat.lt_of_lt_of_le h.2.2.1 hb4.size,h.2.2.2⟩) (fun _ _=>⟨J7,fun b hb=>(hx7 b (Nat.lt_of_lt_of_le hb hbw.size)).trans (hne6 b (Nat.ne_of_lt (Nat.lt_of_lt_of_le hb h2.2))),hok7,hr7,hra,hre,(hx7 _ h0.1).trans ((hne6 _ (h0.2.2.2.2.resolve_right (Nat.not_lt.2 h2.2))).trans h0.2.1)⟩) (fun h _=>h.elim (fun e=>absurd e (by decide)) (fun ⟨_,_,q⟩=>⟨(hb4.block _ (Array.getElem?_eq_some_iff.1 q.1).1).trans q.1,q.2⟩)) (fun h _=>h.elim (fun e=>absurd e (by decide)) (fun ⟨_,_,q⟩=>⟨(hb4.block _ (Array.getElem?_eq_some_iff.1 q.1).1).trans q.1,q.2⟩)) (fun _ _=>trivial) hlt⟩
  rotate_left 4
  ·unfold Oper.wp
   simp [go_sem,ev,evF,hall,Oper.upon,b0,b1,b2,b3,b4,b5,b6,b7,b8]
   have ha:=ha.trans (Xa3 (L:=qaL dB (.slice ae1 dB.ents.length ce1) (.slice ak1 dB.sto.cks.length ck1) (.slice at1 dB.tree.length ct1) (.slice ah1 dB.holds.length ch1) (.slice (some ⟨w.heap.size,0,none⟩) 1 1) s x) (M:=qaL dB (.slice ae1 dB.ents.length ce1) (.slice ak1 dB.sto.cks.length ck1) (.slice at1 dB.tree.length ct1) (.slice ah1 dB.holds.length ch1) (.slice (some ⟨w.heap.size,0,none⟩) 1 1) s (x.1,x.2.1,w'.heap.size)) [16] rfl (fun j hne=>by
    rcases j with _|_|_|_|_|_|_|_|_|_|_|_|_|_|_|_|_|_|_|_|j<;>first|rfl|(exact absurd (by decide) hne)|simp) (List.forall_mem_cons.2 ⟨Xam hun,List.forall_mem_nil _⟩))
   exact hK _ _ ⟨(x.1,x.2.1,w'.heap.size),Xax Xbd ha rfl hun,hC.step hl (hbw.trans (((Qb _ _).alloc (Qn _) _).mono hbw.size)) (by decide) (fun h=>⟨by simp,A3.out.ok.fresh hbw.size,Nat.lt_of_lt_of_le h.2.2.1 (by simp),h.2.2.2.1,.inl (Nat.ne_of_lt h.2.2.1).symm⟩) (fun h _=>h.elim (fun e=>absurd e (by decide)) (fun ⟨_,_,q⟩=>(q.elim fun J9 h9=>⟨J9,h9.1,h9.2.1.below (Qn _) ((Qb w'.heap.size w').alloc (Qn _) (.cells zeroD 43)),h9.2.2.1,h9.2.2.2.1,h9.2.2.2.2.1,h9.2.1.fresh (Qn _)⟩))) (fun h _=>h.elim (fun e=>absurd e (by decide)) (fun ⟨_,_,q⟩=>⟨(((Qb w'.heap.size w').alloc (Qn _) (.cells zeroD 43)).block _ (Array.getElem?_eq_some_iff.1 q.1).1).trans q.1,q.2⟩)) (fun _ _=>⟨heap_alloc_new _ _,hbw.size⟩) (fun _ _=>trivial) hlt⟩
  ·have hrow:w'.heap[x.2.2]? =some (.cells _ 43 (0,0)):=(hC.f3 (by first|simpa using hall|simp [hall]) (Xan (by simp [hsz])) hl).1
   refine Xag 43 _ _ rfl (x.2.2) 0 (drCs s.d (.slice x.1.1.1 s.d.ents.length x.1.1.2) (.slice x.1.2.1.1 s.d.sto.cks.length x.1.2.1.2) (.slice x.1.2.2.1.1 s.d.tree.length x.1.2.2.1.2) (.slice x.1.2.2.2.1.1 s.d.holds.length x.1.2.2.2.1.2)) (drV s.d (.slice x.1.1.1 s.d.ents.length x.1.1.2) (.slice x.1.2.1.1 s.d.sto.cks.length x.1.2.1.2) (.slice x.1.2.2.1.1 s.d.tree.length x.1.2.2.1.2) (.slice x.1.2.2.2.1.1 s.d.holds.length x.1.2.2.2.1.2)) (by simp [Act.eval,ev,evF,hall]) (by simp [Act.eval,ev,evF,hall]) (by rfl) _ _ hrow (by simp) (by kernel_rfl) (by simp [Value.oneCell']) ?_
   exact hK _ _ ⟨x,Xac (d:=none) (v:=undef) Xbd ha rfl hun,hC.put1 hun ⟨hC.f1 (by first|simpa using hall|simp [hall]) (Xan (by simp [hsz])) hl,hC.f3 (by first|simpa using hall|simp [hall]) (Xan (by simp [hsz])) hl⟩ (Xan (by simp [hsz])) (Xan (by simp [hsz])) (by decide) hrow (by rfl)⟩
  all_goals
   unfold Oper.wp
   first
   |(simp [go_sem,ev,evF,hall,Oper.upon,b0,b1,b2,b3,b4,b5,b6,b7,b8];exact hK _ _ ⟨x,Xax Xbd ha rfl hun,hC.pure (by decide)⟩)
   |(simp [go_sem,ev,evF,Oper.upon,b0,b1,b2,b3,b4,b5,b6,b7,b8];exact hK _ _ ⟨x,Xax Xbd ha rfl hun,hC.pure (by decide)⟩)
 ·rintro x s' a' w5 hup ha hC
  obtain ⟨wb,hbW,hFin,hgr,hrow⟩:=hC.on (hup 17 (by decide))
  simp only [ite_self] at hrow
  rw [Xa6 _ _ _ _ (fun i hi=>by rw [Nat.zero_add];exact hup i (by simpa using hi))] at ha
  subst ha
  simp only [fillAll,Act.put,List.setIfInBounds_toArray,List.set_cons_succ,List.set_cons_zero]
  obtain ⟨⟨⟨ve6,vf6⟩,⟨vk6,vl6⟩,⟨vt6,vu6⟩,⟨vh6,vi6⟩,⟨va6,vb6⟩,⟨vs6,vx6⟩⟩,bq6,bx6⟩:=x
  dsimp only at hFin hgr hrow ⊢
  obtain ⟨⟨J9,hx9,hok9,hr9,hra9,hre9,hn9⟩,hbox,hbl⟩:=hFin
  have hwz:=A3.out.size
  have A5:=Qh ((A3.out.ext hbW hx9 hok9).own hgr hn9 (by omega))
  have A6:=Qh (A5.out.past (.cells #[.int .i64 0,.int .i64 0,.int .i64 16,.int .i64 0] 29))
  obtain ⟨J6,hk6,_,hok6,_,hr6⟩:=Xk7 (T:=tErr) (l:= [0,0,16,0]) (cs:= [.int .i64 0,.int .i64 0,.int .i64 16,.int .i64 0]) A6.out.ok (heap_alloc_new w5 (.cells #[.int .i64 0,.int .i64 0,.int .i64 16,.int .i64 0] 29)) (A5.out.ok.fresh (Qn _)) Xur (by decide)
  have Hse:=Qh (Xgf J6 _ (.slice (some ⟨w5.heap.size,0,none⟩) 4 4) s.es (hre9.mono hk6) (by rw [Hes.out];exact hr6) _ hok6)
  clear hbW hgr hrow hx9 hok9 hr9 hra9 hre9 b0 b1 b2 b3 b4 b5 b6 b7 b8 hC hup hbox hbl hn9 A3 A5 D3 hok6 hr6 hk6 Hin Hes HBX
  go_wp2_with fail
  refine Hse.out.mono ?_
  rintro e7 w7 ⟨rfl,hb7⟩
  have A7:=Qh (A6.out.quiet hb7)
  go_wp2
  go_ret
  exact ⟨rfl,A7.out.bel⟩
theorem Xtu {s:Bytes} (h:comp s=true):∀c∈s,c≠47:=fun c hc e=>by
 unfold comp at h
 simp only [Bool.and_eq_true] at h
 have:=List.all_eq_true.1 h.2 c hc
 subst e
 exact absurd this (by decide)
theorem Xl0 {s:Bytes} (h:comp s=true):1≤s.length∧s.length≤32:=by
 unfold comp at h
 simp only [Bool.and_eq_true,decide_eq_true_eq] at h
 exact ⟨h.1.1.1.1,h.1.1.1.2⟩
theorem Xl1 {s:Bytes} (h:comp s=true):els s= [s]:=by
 have h1:=Xl0 h
 have hn:s≠ []:=fun e=>by rw [e] at h1;simp at h1
 rw [els,if_neg hn,Xfw s [] (Xtu h)]
 rfl
theorem Xpi {s:Bytes} (h:comp s=true):pathErr s=0:=by
 have h1:=Xl0 h
 rw [pathErr,if_neg (by omega),Xl1 h,if_neg (by simp),if_pos (by simp [h])]
theorem Xoi {s:Bytes} (h:pathErr s=0) (h1:(els s).length=1):comp s=true:=by
 obtain ⟨q,hq⟩:=List.length_eq_one_iff.1 h1
 have hs:s=q:=by
  have:=Xds s
  rw [hq] at this
  exact this.symm
 unfold pathErr at h
 split at h
 ·omega
 ·split at h
  ·omega
  ·split at h
   ·rename_i h2
    rw [hq] at h2
    rw [hs]
    simpa using h2
   ·omega
theorem Xql {P:Program} (w:World) (ts:Array TypeId) (t:TypeId) (k:IntKind) (a b c d:Int):
 (Builtin.min_ ts t #[.int k a,.int k b,.int k c,.int k d]).run P w= .ok (.int k (min (min (min a b) c) d)) w:=by
 have e:∀x y:Int,(if y<x then y else x)=min x y:=fun x y=>by
  rw [Int.min_def]
  split<;>split<;>omega
 simp [Builtin.min_,Builtin.min2,e]
theorem accB {W w1:World} {n:Nat} {a:Acc} {T:TypeId} (hn:n=W.heap.size) (hb:Below (W.alloc (.cells #[S a.owner,.int .i64 a.b,.int .i64 a.f,.int .i64 a.ub,.int .i64 a.uf] T)).heap.size (W.alloc (.cells #[S a.owner,.int .i64 a.b,.int .i64 a.f,.int .i64 a.ub,.int .i64 a.uf] T)) w1):
 w1.cell? ⟨n,0,none⟩=some (S a.owner)∧w1.cell? ⟨n,1,none⟩=some (.int .i64 a.b)∧w1.cell? ⟨n,2,none⟩=some (.int .i64 a.f)∧w1.cell? ⟨n,3,none⟩=some (.int .i64 a.ub)∧w1.cell? ⟨n,4,none⟩=some (.int .i64 a.uf):=by
 subst hn
 refine ⟨?_,?_,?_,?_,?_⟩<;>(rw [hb.cell (by simp)];simp)
theorem Xme {a:Acc} (h:comp a.owner=false):accErr a=7:=by rw [accErr,if_pos h]
theorem Xr5 {a:Acc} (h:comp a.owner=true) (k:a.b<0∨a.f<0∨a.ub<0∨a.uf<0):accErr a=2:=by rw [accErr,if_neg (by rw [h];simp),if_pos k]
theorem Xmd {a:Acc} (h:comp a.owner=true) (k:¬(a.b<0∨a.f<0∨a.ub<0∨a.uf<0)) (k2:a.b<a.ub∨a.f<a.uf):accErr a=16:=by rw [accErr,if_neg (by rw [h];simp),if_neg k,if_pos k2]
theorem Xr6 {a:Acc} (h:comp a.owner=true) (k:¬(a.b<0∨a.f<0∨a.ub<0∨a.uf<0)) (k2:¬(a.b<a.ub∨a.f<a.uf)):accErr a=0:=by rw [accErr,if_neg (by rw [h];simp),if_neg k,if_neg k2]
set_option maxRecDepth 100000 in
set_option maxHeartbeats 1000000 in
theorem Xqq (I:IH) (hI:Glob I) (a:Acc) (hl:a.owner.length≤4294967280) (w:World) (hw:Ok I w):
 Calls Tryz.prog 97 #[accV a] w fun r w'=>r= .returned (.int .i64 (accErr a))∧Below w.heap.size w w':=by
 have Hs:=Qh (fun w hw=>Xdo I hI a.owner hl w hw)
 have Hsp:=Qh (show comp a.owner=false∧((splP a.owner).2≠0∨(splP a.owner).2=0∧(splP a.owner).1.length≠1)∨comp a.owner=true∧(splP a.owner).2=0∧(splP a.owner).1.length=1 by
  cases hc:comp a.owner
  ·refine .inl ⟨rfl,?_⟩
   by_cases h0:pathErr a.owner=0
   ·rw [Xd2 h0]
    exact .inr ⟨rfl,fun e=>by rw [Xoi h0 e] at hc;cases hc⟩
   ·rw [Xj6 h0]
    exact .inl h0
  ·refine .inr ⟨rfl,?_⟩
   rw [Xd2 (Xpi hc),Xl1 hc]
   exact ⟨rfl,rfl⟩)
 obtain ⟨⟨L,n⟩,hL⟩:∃p,splP a.owner=p:=⟨_,rfl⟩
 rw [hL] at Hs Hsp
 dsimp only at Hs Hsp
 clear hL
 have hmin:=fun (w:World) ts t=>Xql (P:=Tryz.prog) w ts t .i64 a.b a.f a.ub a.uf
 go_enter Tryz.func97,Tryz.ntmps97
 go_wp2_with fail
 refine (Hs.out _ (hw.alloc _)).mono ?_
 rintro e w1 ⟨v1,I1,rfl,hb1,hx1,hok1,hr1⟩
 obtain ⟨ao,cap,rfl,_,_,_⟩:=id hr1
 obtain ⟨c0,c1,c2,c3,c4⟩:=accB rfl hb1
 have hb1':Below w.heap.size w w1:=((Qb _ _).alloc (Qn _) _).trans (hb1.mono (by simp))
 clear hb1 hx1 hok1 hr1 Hs
 rcases Hsp.out with ⟨hc,h|⟨rfl,h⟩⟩|⟨hc,rfl,h⟩
 ·have i1:(n != 0)=true:=by simpa using h
  have Hn:=Qh (Xme hc)
  clear hc h Hsp
  go_wp2
  go_ret
  exact ⟨Xaj Hn.out.symm,hb1'⟩
 ·have i1:((L.length:Int) != 1)=true:=by simp;omega
  have Hn:=Qh (Xme hc)
  clear hc h Hsp
  go_wp2
  go_ret
  exact ⟨Xaj Hn.out.symm,hb1'⟩
 ·have i1:((L.length:Int) != 1)=false:=by simp;omega
  have Hc:=Qh hc
  clear hc h Hsp
  by_cases k1:a.b<0∨a.f<0∨a.ub<0∨a.uf<0
  ·have i2:decide (min a.b (min a.f (min a.ub a.uf))<0)=true:=Qt (by omega)
   have Hn:=Qh (Xr5 Hc.out k1)
   clear k1
   go_wp2
   go_ret
   exact ⟨Xaj Hn.out.symm,hb1'⟩
  ·have i2:decide (min a.b (min a.f (min a.ub a.uf))<0)=false:=Qf (by omega)
   by_cases k2:a.b<a.ub
   ·have i3:decide (a.b<a.ub)=true:=Qt k2
    have Hn:=Qh (Xmd Hc.out k1 (.inl k2))
    clear k1 k2
    go_wp2
    go_ret
    exact ⟨Xaj Hn.out.symm,hb1'⟩
   ·have i3:decide (a.b<a.ub)=false:=Qf k2
    by_cases k3:a.f<a.uf
    ·have i4:decide (a.f<a.uf)=true:=Qt k3
     have Hn:=Qh (Xmd Hc.out k1 (.inr k3))
     clear k1 k2 k3
     go_wp2
     go_ret
     exact ⟨Xaj Hn.out.symm,hb1'⟩
    ·have i4:decide (a.f<a.uf)=false:=Qf k3
     have Hn:=Qh (Xr6 Hc.out k1 (by omega))
     clear k1 k2 k3
     go_wp2
     go_ret
     exact ⟨Xaj Hn.out.symm,hb1'⟩
theorem Xrr (p x:Bytes):(Op.bytesLess p x=true∧Op.bytesLess x p=false∧(x==p)=false∧(p==x)=false)∨(Op.bytesLess p x=false∧(Op.bytesLess x p=true∨(Op.bytesLess x p=false∧(x==p)=true∧(p==x)=true))):=by
 have no:∀ {a b:Bytes},Op.bytesLess a b=true→Op.bytesLess b a=false:=fun {a b} h=>by
  cases h2:Op.bytesLess b a
  ·rfl
  ·have:=Xdz h h2
   rw [Xa2] at this
   cases this
 have ne:∀ {a b:Bytes},Op.bytesLess a b=true→a≠b:=fun {a b} h e=>by rw [e,Xa2] at h;cases h
 rcases Xc3 p x with h|h|h
 ·exact .inl ⟨h,no h,by simpa using (ne h).symm,by simpa using ne h⟩
 ·subst h
  exact .inr ⟨Xa2 _,.inr ⟨Xa2 _,by simp,by simp⟩⟩
 ·exact .inr ⟨no h,.inl h⟩
set_option maxRecDepth 100000 in
set_option maxHeartbeats 1000000 in
theorem Xhl (I:IH) (hI:Glob I) (v:Value) (l:List Acc) (hv:RdS tAcc I v l) (hl:∀a∈l,a.owner.length≤4294967280) (w:World) (hw:Ok I w):
 Calls Tryz.prog 44 #[v] w fun e w'=>e= .returned (.int .i64 (accsErr l))∧Below w.heap.size w w':=by
 have hlen:=hv.len_le
 obtain ⟨ao,cap,rfl,hcap,hcm,_⟩:=id hv
 have Hv:=Qh hv;clear hv
 have Hl:=Qh hl;clear hl
 go_enter Tryz.func44,Tryz.ntmps44
 go_wp2_with fail
 go_loopw [8] (fun sk wr=> ∃k:Nat,k≤l.length∧sk= .int .i64 k∧accsFrom (if k=0 then none else l[k-1]?) (l.drop k)=accsErr l∧Below w.heap.size w wr) (fun i _=>l.length-(intOf i).toNat)
 case atStart=>exact ⟨0,Nat.zero_le _,rfl,rfl,Qb _ _⟩
 case round=>
  obtain ⟨k,hk,rfl,hr,hb⟩:=hrel
  have Hr:=Qh hr;clear hr
  by_cases hlt:k<l.length
  ·have hwr:Ok I wr:=hw.below (Qn _) hb
   obtain ⟨x,b,off,cap',hlr,hvv,hX⟩:=Xni Hv.out hwr k hlt
   cases hvv
   obtain ⟨c0,c1,c2,c3,c4⟩:=(⟨hX.c0,hX.c1,hX.c2,hX.c3,hX.c4⟩:_∧_∧_∧_∧_)
   have Hlr:=Qh hlr;clear hlr
   have hxl:=Hl.out x (by rw [←Hlr.out];exact List.getElem_mem hlt)
   have Hst:=Qh (show accsErr l=if accErr x≠0 then accErr x else if ((if k=0 then none else l[k-1]?).any fun p=> !(Op.bytesLess p.owner x.owner)) then 14 else accsFrom (some x) (l.drop (k+1)) by
    rw [←Hr.out,List.drop_eq_getElem_cons hlt,Hlr.out];rfl)
   have Hkr:=Qh (show l[k]? =some x by rw [List.getElem?_eq_getElem hlt,Hlr.out])
   clear hX
   go_wp2_with fail
   refine (Xqq I hI x hxl _ (hwr.alloc _)).mono ?_
   rintro e w1 ⟨rfl,hb1⟩
   obtain ⟨hx0,hx1,hx2,hx3,hx4⟩:=accB rfl hb1
   have hb1':Below w.heap.size w w1:=hb.trans (Below.trans ((Qb _ _).alloc hb.size _) (hb1.mono (by simp;have:=hb.size;omega)))
   clear hb1 c0 c1 c2 c3 c4 hx1 hx2 hx3 hx4 hwr
   by_cases h0:accErr x=0
   ·rw [h0]
    have hw1:Ok I w1:=hw.below (Qn _) hb1'
    by_cases hk0:k=0
    ·have hd:decide (0<k)=false:=by simp;omega
     go_wp2_with fail
     refine wp_region_quiet_below (by kernel_rfl) (by kernel_rfl) ?_
     repeat (go_big_quiet_step ((fail)))
     refine wpQuiet_nil ?_
     intro w2 hwq
     have hb2:Below (w1).heap.size (w1) w2:=by
      obtain ⟨pq,rfl⟩:=hwq
      exact below_regrown _ _ _
     clear hwq
     go_wp2
     go_roundw
     case rel=>exact ⟨k+1,by omega,by go_num,(by rw [Hst.out,h0];subst hk0;simp [show l[0]? =some x from Hkr.out]),hb1'.trans (hb2.mono hb1'.size)⟩
     case measure=>simp [intOf];omega
    ·obtain ⟨p,b',off',cap'',hlp,hvv,hP⟩:=Xni Hv.out hw1 (k-1) (by omega)
     cases hvv
     have Hkp:=Qh (show l[k-1]? =some p by rw [List.getElem?_eq_getElem (by omega),hlp])
     have hg0:=cell_regrown hP.c0
     have hy0:=cell_regrown hx0
     have hd:decide (0<k)=true:=by simp;omega
     have hi:IntKind.i64.wrap ((k:Int)-1)=(k:Int)-1:=IntWalk.i64_in _ (by omega)
     have hj:0≤(k:Int)-1:=by omega
     have hm:((k:Int)-1).toNat=k-1:=by omega
     clear hP hlp
     rcases Xrr p.owner x.owner with ⟨e1,e2,e3,e4⟩|⟨e1,e2|⟨e2,e3,e4⟩⟩
     ·have Hn:=Qh (show accsFrom (if k+1=0 then none else l[k+1-1]?) (l.drop (k+1))=accsErr l by rw [Hst.out,h0];simp [hk0,Hkp.out,e1,Hkr.out])
      go_wp2_with fail
      refine wp_region_quiet_below (by kernel_rfl) (by kernel_rfl) ?_
      repeat (go_big_quiet_step ((fail)))
      refine wpQuiet_nil ?_
      intro w2 hwq
      have hb2:Below (w1).heap.size (w1) w2:=by
       obtain ⟨pq,rfl⟩:=hwq
       exact below_regrown _ _ _
      clear hwq
      go_wp2
      go_roundw
      case rel=>exact ⟨k+1,by omega,by go_num,Hn.out,hb1'.trans (hb2.mono hb1'.size)⟩
      case measure=>simp [intOf];omega
     all_goals
      have Hn:=Qh (show accsErr l=14 by rw [Hst.out,h0];simp [hk0,Hkp.out,e1])
      go_wp2_with fail
      refine wp_region_quiet_below (by kernel_rfl) (by kernel_rfl) ?_
      repeat (go_big_quiet_step ((fail)))
      refine wpQuiet_nil ?_
      intro w2 hwq
      have hb2:Below (w1).heap.size (w1) w2:=by
       obtain ⟨pq,rfl⟩:=hwq
       exact below_regrown _ _ _
      clear hwq
      go_wp2
      go_ret
      exact ⟨Xaj Hn.out.symm,hb1'.trans (hb2.mono hb1'.size)⟩
   ·have hn:(accErr x != 0)=true:=by simpa using h0
    go_wp2
    go_ret
    exact ⟨Xaj (by rw [Hst.out,if_pos h0]),hb1'⟩
  ·go_wp2
   go_ret
   refine ⟨Xaj ?_,hb⟩
   rw [←Hr.out,List.drop_of_length_le (by omega)];rfl
theorem Xia {l:List Rqs} {k:Nat} (hk:k<l.length) {r:Rqs} (hr:l[k]=r):weightP (l.take (k+1))=weightP (l.take k)+weightR r:=by
 rw [List.take_succ_eq_append_getElem hk,hr]
 simp [weightP]
theorem Xmf (l:List Rqs) (k:Nat):weightP (l.take k)≤weightP l:=by
 have h:weightP l=weightP (l.take k)+weightP (l.drop k):=by
  conv=>lhs;rw [←List.take_append_drop k l]
  unfold weightP
  rw [List.map_append,List.sum_append]
 omega
def weightA (l:List At):Nat:=(l.map fun a=>10+a.k.length+a.v.length).sum
theorem Xib {l:List At} {k:Nat} (hk:k<l.length) {x:At} (hx:l[k]=x):weightA (l.take (k+1))=weightA (l.take k)+(10+x.k.length+x.v.length):=by
 rw [List.take_succ_eq_append_getElem hk,hx]
 simp [weightA]
theorem Xmg (l:List At) (k:Nat):weightA (l.take k)≤weightA l:=by
 have h:weightA l=weightA (l.take k)+weightA (l.drop k):=by
  conv=>lhs;rw [←List.take_append_drop k l]
  unfold weightA
  rw [List.map_append,List.sum_append]
 omega
set_option maxRecDepth 100000 in
set_option maxHeartbeats 2000000 in
theorem Xmq (I:IH) (v:Value) (l:List Rqs) (hv:RdS tRq I v l) (hw0:weightP l≤4611686018427387904) (w:World) (hw:Ok I w):
 Calls Tryz.prog 46 #[v] w fun e w'=>e= .returned (.int .i64 (weightP l))∧Below w.heap.size w w':=by
 have hlen:=hv.len_le
 obtain ⟨ao,cap,rfl,_,_,_⟩:=id hv
 have Hv:=Qh hv;clear hv
 have Hw:=Qh hw0;clear hw0
 go_enter Tryz.func46,Tryz.ntmps46
 go_wp2_with fail
 go_loopw [3,4] (fun s3 s4 wr=> ∃k:Nat,k≤l.length∧s4= .int .i64 k∧s3= .int .i64 (weightP (l.take k))∧Below w.heap.size w wr) (fun _ i _=>l.length-(intOf i).toNat)
 case atStart=>exact ⟨0,Nat.zero_le _,rfl,rfl,Qb _ _⟩
 case round=>
  obtain ⟨k,hk,rfl,rfl,hb⟩:=hrel
  have hwr:Ok I wr:=hw.below (Qn _) hb
  by_cases hlt:k<l.length
  ·obtain ⟨r,va,b,off,cap',hlr,hvv,hR,h1⟩:=rqAt Hv.out hwr k hlt
   cases hvv
   have Hlr:=Qh hlr
   have Hsn:=Qh (Xia hlt hlr)
   have hwl:=Xmf l (k+1)
   have hwb:=Hw.out
   rw [Hsn.out] at hwl
   have hwd:weightR r=10+r.owner.length+r.c.path.length+r.c.target.length+r.c.content.length+weightA r.c.attrs:=rfl
   have HR:=Qh hR
   have H1:=Qh h1
   obtain ⟨oa,ca,rfl,_,_,_⟩:=id h1
   obtain ⟨N,hN⟩:∃N,weightP (l.take k)=N:=⟨_,rfl⟩
   rw [hN] at hwl
   have HN:=Qh hN
   rw [hN]
   obtain ⟨c0,c1,c2,c3,c4,c5⟩:=(⟨hR.c0,hR.c1,hR.c2,hR.c3,hR.c4,hR.c5⟩:_∧_∧_∧_∧_∧_)
   have b0:=cell_regrown (Xad (.cells #[.int .i64 r.c.kind,S r.c.path,.slice oa r.c.attrs.length ca,S r.c.target,S r.c.content] 25) c0)
   have hbox:=heap_alloc_new wr (.cells #[.int .i64 r.c.kind,S r.c.path,.slice oa r.c.attrs.length ca,S r.c.target,S r.c.content] 25)
   have y1:(wr.alloc (.cells #[.int .i64 r.c.kind,S r.c.path,.slice oa r.c.attrs.length ca,S r.c.target,S r.c.content] 25)).cell? ⟨wr.heap.size,1,none⟩=some _:=(cell_of_row _ _ 1 _ _ _ hbox).trans rfl
   have y3:(wr.alloc (.cells #[.int .i64 r.c.kind,S r.c.path,.slice oa r.c.attrs.length ca,S r.c.target,S r.c.content] 25)).cell? ⟨wr.heap.size,3,none⟩=some _:=(cell_of_row _ _ 3 _ _ _ hbox).trans rfl
   have y4:(wr.alloc (.cells #[.int .i64 r.c.kind,S r.c.path,.slice oa r.c.attrs.length ca,S r.c.target,S r.c.content] 25)).cell? ⟨wr.heap.size,4,none⟩=some _:=(cell_of_row _ _ 4 _ _ _ hbox).trans rfl
   have Hbox:=Qh hbox
   have g1:=cell_regrown y1
   have g3:=cell_regrown y3
   have g4:=cell_regrown y4
   have m1:IntKind.i64.wrap ((N:Int)+10)=(N:Int)+10:=IntWalk.i64_in _ (by omega)
   have m2:IntKind.i64.wrap ((N:Int)+10+(r.owner.length:Int))=(N:Int)+10+(r.owner.length:Int):=IntWalk.i64_in _ (by omega)
   have m3:IntKind.i64.wrap ((N:Int)+10+(r.owner.length:Int)+(r.c.path.length:Int))=(N:Int)+10+(r.owner.length:Int)+(r.c.path.length:Int):=IntWalk.i64_in _ (by omega)
   have m4:IntKind.i64.wrap ((N:Int)+10+(r.owner.length:Int)+(r.c.path.length:Int)+(r.c.target.length:Int))=(N:Int)+10+(r.owner.length:Int)+(r.c.path.length:Int)+(r.c.target.length:Int):=IntWalk.i64_in _ (by omega)
   have m5:IntKind.i64.wrap ((N:Int)+10+(r.owner.length:Int)+(r.c.path.length:Int)+(r.c.target.length:Int)+(r.c.content.length:Int))=(N:Int)+10+(r.owner.length:Int)+(r.c.path.length:Int)+(r.c.target.length:Int)+(r.c.content.length:Int):=IntWalk.i64_in _ (by omega)
   clear hlr h1 hbox y1 y3 y4 hN hwb hR
   go_wp2_with fail
   refine wp_region_quiet_below (by kernel_rfl) (by kernel_rfl) ?_
   repeat (go_big_quiet_step ((fail)))
   refine wpQuiet_nil ?_
   intro w2 hwq
   have hb2:Below (wr.alloc (.cells #[.int .i64 r.c.kind,S r.c.path,.slice oa r.c.attrs.length ca,S r.c.target,S r.c.content] 25)).heap.size (wr.alloc (.cells #[.int .i64 r.c.kind,S r.c.path,.slice oa r.c.attrs.length ca,S r.c.target,S r.c.content] 25)) w2:=by
    obtain ⟨pq,rfl⟩:=hwq
    exact below_regrown _ _ _
   clear hwq
   have hbw2:Below w.heap.size w w2:=(hb.alloc hb.size (.cells #[.int .i64 r.c.kind,S r.c.path,.slice oa r.c.attrs.length ca,S r.c.target,S r.c.content] 25)).trans (hb2.mono (by have:=hb.size;simp;omega))
   have hbox2:=(hb2.block wr.heap.size (by simp)).trans Hbox.out
   have Hy2:=Qh (show w2.cell? ⟨wr.heap.size,2,none⟩=some (.slice oa r.c.attrs.length ca) from (cell_of_row _ _ 2 _ _ _ hbox2).trans rfl)
   clear c0 c1 c2 c3 c4 c5 b0 g1 g3 g4 m1 m2 m3 m4 m5 hbox2 Hbox hb2 hb
   have hal:=H1.out.len_le
   go_wp2_with fail
   go_loopw [3,6] (fun s3 s6 wr=> ∃j:Nat,j≤r.c.attrs.length∧s6= .int .i64 j∧s3= .int .i64 (N+10+r.owner.length+r.c.path.length+r.c.target.length+r.c.content.length+weightA (r.c.attrs.take j):Nat)∧Below w2.heap.size w2 wr) (fun _ i _=>r.c.attrs.length-(intOf i).toNat)
   case atStart=>exact ⟨0,Nat.zero_le _,rfl,by simp [weightA],Qb _ _⟩
   case round=>
    obtain ⟨j,hj,rfl,rfl,hbq⟩:=hrel
    have hbwq:=hbw2.trans (hbq.mono hbw2.size)
    have hwq:Ok I wr:=hw.below (Qn _) hbwq
    have y2:=Xaa hbq Hy2.out
    by_cases hjt:j<r.c.attrs.length
    ·obtain ⟨x,bx,ox,cx,hlx,hvv,x0,x1⟩:=atAt H1.out hwq j hjt
     cases hvv
     have Has:=Qh (Xib hjt hlx)
     have hal2:=Xmg r.c.attrs (j+1)
     rw [Has.out] at hal2
     have hwb:=Hw.out
     obtain ⟨M,hM⟩:∃M,N+10+r.owner.length+r.c.path.length+r.c.target.length+r.c.content.length+weightA (r.c.attrs.take j)=M:=⟨_,rfl⟩
     have HM:=Qh hM
     rw [hM]
     have z2:=cell_regrown y2
     have x0:=cell_regrown x0
     have x1:=cell_regrown x1
     have m1:IntKind.i64.wrap ((M:Int)+10)=(M:Int)+10:=IntWalk.i64_in _ (by omega)
     have m2:IntKind.i64.wrap ((M:Int)+10+(x.k.length:Int))=(M:Int)+10+(x.k.length:Int):=IntWalk.i64_in _ (by omega)
     have m3:IntKind.i64.wrap ((M:Int)+10+(x.k.length:Int)+(x.v.length:Int))=(M:Int)+10+(x.k.length:Int)+(x.v.length:Int):=IntWalk.i64_in _ (by omega)
     clear hlx hM hal2 hwd hwl hwb
     go_wp2_with fail
     refine wp_region_quiet_below (by kernel_rfl) (by kernel_rfl) ?_
     repeat (go_big_quiet_step ((fail)))
     refine wpQuiet_nil ?_
     intro w3 hwq
     have hb3:Below (wr).heap.size (wr) w3:=by
      obtain ⟨pq,rfl⟩:=hwq
      exact below_regrown _ _ _
     clear hwq
     go_wp2
     go_roundw
     case rel=>exact ⟨j+1,by omega,by go_num,by rw [Has.out];congr 1;have:=HM.out;push_cast;omega,hbq.trans (hb3.mono hbq.size)⟩
     case measure=>simp [intOf];omega
    ·have hje:j=r.c.attrs.length:=by omega
     subst hje
     rw [List.take_length]
     go_wp2
     go_roundw
     case rel=>exact ⟨k+1,by omega,by go_num,by rw [Hsn.out,HN.out,hwd];congr 1;push_cast;omega,hbwq⟩
     case measure=>simp [intOf];omega
  ·have hke:k=l.length:=by omega
   subst hke
   rw [List.take_length]
   go_wp2
   go_ret
   exact ⟨rfl,hb⟩
set_option maxRecDepth 100000 in
set_option maxHeartbeats 1000000 in
theorem Xiy (I:IH) (vl:Value) (l:List Acc) (hl:RdS tAcc I vl l) (v:Value) (rs:List Rqs) (hv:RdS tRq I v rs) (hw0:weightP rs≤4611686018427387904) (w:World) (hw:Ok I w):
 Calls Tryz.prog 14 #[vl,v] w fun e w'=>e= .returned (.bool (decide (12<l.length∨1500<weightP rs)))∧Below w.heap.size w w':=by
 have Hw:=Qh (fun w hw=>Xmq I v rs hv hw0 w hw)
 obtain ⟨ao,cap,rfl,_,_,_⟩:=id hl
 obtain ⟨bo,bap,rfl,_,_,_⟩:=id hv
 clear hl hv
 by_cases q:12<l.length
 ·have i1:decide (12<l.length)=true:=Qt q
  have i2:decide ((12:Int)<(l.length:Int))=true:=Qt (by omega)
  have Hn:=Qh (show decide (12<l.length∨1500<weightP rs)=true from Qt (.inl q))
  clear q
  go_enter Tryz.func14,Tryz.ntmps14
  go_wp2
  go_ret
  exact ⟨Xay Hn.out.symm,Qb _ _⟩
 ·have i1:decide (12<l.length)=false:=Qf q
  have i2:decide ((12:Int)<(l.length:Int))=false:=Qf (by omega)
  have Hn:=Qh (show decide (12<l.length∨1500<weightP rs)=decide ((1500:Int)<(weightP rs:Int)) by
   by_cases h:1500<weightP rs
   ·rw [Qt (show 12<l.length∨1500<weightP rs from .inr h),Qt (show (1500:Int)<(weightP rs:Int) by omega)]
   ·rw [Qf (show ¬(12<l.length∨1500<weightP rs) from fun k=>k.elim q h),Qf (show ¬(1500:Int)<(weightP rs:Int) by omega)])
  obtain ⟨N,hN⟩:∃N:Nat,weightP rs=N:=⟨_,rfl⟩
  rw [hN] at Hw Hn
  obtain ⟨bb,hbb⟩:∃b,decide ((1500:Int)<(N:Int))=b:=⟨_,rfl⟩
  have i3:decide (1500<N)=bb:=by
   rw [←hbb]
   by_cases h:1500<N
   ·rw [Qt h,Qt (by omega)]
   ·rw [Qf h,Qf (by omega)]
  rw [hbb] at Hn
  have HN:=Qh hN
  clear q hN
  go_enter Tryz.func14,Tryz.ntmps14
  go_wp2_with fail
  refine (Hw.out _ hw).mono ?_
  rintro e w1 ⟨rfl,hb1⟩
  cases bb
  ·go_wp2
   go_ret
   exact ⟨Xay (by rw [HN.out];exact Hn.out.symm),hb1⟩
  ·go_wp2
   go_ret
   exact ⟨Xay (by rw [HN.out];exact Hn.out.symm),hb1⟩

abbrev qkL (d dn:Drf) (ve vk vt vh:Value) (b off n lc k:Nat) (c:Chg) (va:Value) (rn:Int) (x:((Option Addr × Nat) × (Option Addr × Nat) × (Option Addr × Nat) × (Option Addr × Nat)) × Nat):List (Option Tmp × Value):=
 [(some 34,drV d ve vk vt vh),(some 35,.slice (some ⟨b,off,none⟩) n lc),(some 36,.int .i64 (k:Int)),(some 37,.pointer (some ⟨b,off+k*6,none⟩)),(some 38,.pointer (some ⟨b,off+k*6+1,none⟩)),(some 39,chgV c va),(some 40,.tuple #[drV dn (.slice x.1.1.1 dn.ents.length x.1.1.2) (.slice x.1.2.1.1 dn.sto.cks.length x.1.2.1.2) (.slice x.1.2.2.1.1 dn.tree.length x.1.2.2.1.2) (.slice x.1.2.2.2.1 dn.holds.length x.1.2.2.2.2),.int .i64 rn]),(some 33,.tuple #[drV dn (.slice x.1.1.1 dn.ents.length x.1.1.2) (.slice x.1.2.1.1 dn.sto.cks.length x.1.2.1.2) (.slice x.1.2.2.1.1 dn.tree.length x.1.2.2.1.2) (.slice x.1.2.2.2.1 dn.holds.length x.1.2.2.2.2),.int .i64 rn]),(some 41,drV dn (.slice x.1.1.1 dn.ents.length x.1.1.2) (.slice x.1.2.1.1 dn.sto.cks.length x.1.2.1.2) (.slice x.1.2.2.1.1 dn.tree.length x.1.2.2.1.2) (.slice x.1.2.2.2.1 dn.holds.length x.1.2.2.2.2)),(some 42,.int .i64 rn),(some 13,.pointer (some ⟨x.2,0,none⟩)),(none,undef),(some 14,.int .i64 rn)]
end Go.Proofs.YtmdfjnhfhidmhaaGreatDoor
