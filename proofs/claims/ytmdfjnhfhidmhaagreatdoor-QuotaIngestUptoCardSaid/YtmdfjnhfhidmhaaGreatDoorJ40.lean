/- Lemmas for the claim's theorem;conditions: as each says. -/
import Derived.Test.YtmdfjnhfhidmhaaGreatDoorJ39
set_option maxHeartbeats 0
set_option maxRecDepth 100000
set_option linter.all false
namespace Go.Proofs.YtmdfjnhfhidmhaaGreatDoor
open Go.RowKit
variable{r:jG}{a:Acc}{l:List Acc}{s:xP}{d:ig}{i:Nat}{W:World}{k:Nat}{I:IH}{m:List Acc}{n:Nat}{J:IH}{c:jK}{B g:Nat}{ve vk vt vh:Value}{e:Int}{cap:Nat}{w w':World}{α:Type}{T:Ty α}
theorem Xek:(Tryz.prog.info? 54).map (fun i=>(i.zero,i.size,i.bytes))=some (some (.agg #[.string ⟨#[]⟩,.int .i64 0,.int .i64 0,.int .i64 0,.int .i64 0]),5,48):=by kernel_rfl
theorem Xmd(I:IH)(v:Value)(l:List _)(hv:aZ iY I v l)(w:World)(hw:Ok I w)(fO:l.length*48≤140737488355328):
 Calls Tryz.prog 52 #[v] w fun e w'=> ∃v',e= .returned v'∧aK iY 54 I w' w.heap.size v' l∧Below w.heap.size w w':=by
 obtain⟨i0,hi,oV,ow,uD⟩:=info_parts Xek;have q22:∀(w:World) (a:Option Addr) (n c n' c':Nat),(binOp .eql 22 (.slice a n c) (.slice none n' c')).run Tryz.prog w= .ok (.bool a.isNone) w:=fun w a n c n' c'=>Lib.run_eql_slice_nil w _ _ a n c n' c' Tryz.underlying22;obtain⟨ao,cap,xs,rfl,dO,fJ,hL,hx⟩:=hv.cells hw (by decide);have HL:=Qh hL;have Hx:=Qh hx;clear hL hx hv;cases ao with
 |none=>
  have h0:l.length=0:=by
   rcases Nat.eq_zero_or_pos l.length with h|h
   ·exact h
   ·obtain⟨b,off,arr,e,_⟩:=Hx.O h;cases e
  have:l=[]:=List.eq_nil_of_length_eq_zero h0;subst this;go_enter Tryz.func52,Tryz.ntmps52
  go_wp2;go_ret;exact⟨_,rfl,aK.nil _ _ _ _ _,Qb _ _⟩
 |some a=>
  go_enter Tryz.func52,Tryz.ntmps52
  go_wp2_with (at_builtin;refine wpList_append_own _ rfl _ _ 22 rfl w.heap.size 54 i0 _ 5 48 Tryz.underlying22 hi oV ow uD rfl (by decide) _ _ _ rfl (World.ownsRow_made w #[] 0 (Qn _) (Nat.zero_le _) (by simp)) a l.length cap xs rfl ?qc1 ?qc2 ?qc3 ?qc4 ?qc5 ?qc6 ?_)
  case qc1=>exact HL.O.1
  case qc2=>
   intro j u hj;have hl:0<l.length:=by
    have:=(List.getElem?_eq_some_iff.1 hj).1;rw[HL.O.1]at this;rcases Nat.eq_zero_or_pos l.length with h|h
    ·rw[h]at this;omega
    ·exact h
   obtain⟨b,off,arr,e,_,hb,hc⟩:=Hx.O hl;cases e;rw[Addr.add_lit];rw[World.cell?_alloc_lt _ _ _ hb];exact hc j u hj
  case qc3=>exact HL.O.oneCell
  case qc4=>rw[Nat.zero_add];omega
  case qc5=>rw[Nat.zero_add];exact fO
  case qc6=>simp
  intro v' w1 bg lW _;go_wp2;go_ret;refine⟨v',rfl,⟨xs,(by have hq:=bg;first|exact hq|(simp at hq;exact hq)),HL.O⟩,?_⟩;exact((Qb _ w).alloc (Qn _) _).grown lW (by simp) (by intro k hk;simp[Value.ownBlock]at hk;omega)
section
variable {I:IH} {W:World} {B g cap:Nat} {v:Value} {l:List Acc}
theorem Xhf(h:aK iY 54 I W B v l)(hi:i<l.length):∃g cap,v= .slice (some ⟨g,0,none⟩) l.length cap∧l.length≤cap∧B≤g∧g<W.heap.size∧
 W.cell? ⟨g,i*5+3,none⟩=some (.int .i64 l[i].ub)∧W.cell? ⟨g,i*5+4,none⟩=some (.int .i64 l[i].uf)∧(∀j,W.frozen? ⟨g,j,none⟩=false):=by
 obtain⟨xs,h1,h2⟩:=h;rcases h1.2 with⟨_,hz⟩|⟨g,cap,cur,hv,hb,hg,Ej,_⟩
 ·omega
 subst hv;have hlt:g<W.heap.size:=(Qg hg);have nD:xs.length=l.length*5:=h2.1;obtain⟨cs,k1,k2⟩:=h2.2 i hi;have k1':cs=nU l[i]:=k1;subst k1';refine⟨g,cap,rfl,Ej,hb,hlt,?_,?_,fun j=>h1.frozenAt j⟩
 ·rw[h1.cellAt _ (by show i*5+3<l.length*5;omega)];exact k2 3 _ rfl
 ·rw[h1.cellAt _ (by show i*5+4<l.length*5;omega)];exact k2 4 _ rfl
theorem Xiy(h:aK iY 54 I W B (.slice (some ⟨g,0,none⟩) l.length cap) l){j:Nat}{u:Value}{x:Acc}(hi:i<l.length)(hj:j<5)(hx:nU x=(nU l[i]).set j u)(hu:u.oneCell'=true):
 aK iY 54 I (W.setCell ⟨g,i*5+j,none⟩ u) B (.slice (some ⟨g,0,none⟩) l.length cap) (l.set i x):=by
 obtain⟨xs,h1,h2⟩:=h;have nD:xs.length=l.length*5:=h2.1;have hs:=(h1.stored (i*5+j) u).1;refine⟨_,by rw[List.length_set];exact hs,by rw[List.length_set,List.length_set];exact h2.1,fun k hk=> ?_⟩;rw[List.length_set]at hk;obtain⟨cs,k1,k2⟩:=h2.2 k hk;have k1':cs=nU l[k]:=k1;subst k1';by_cases he:i=k
 ·subst he;refine⟨nU x,by show _=nU _;rw[List.getElem_set_self],fun m z hm=> ?_⟩;show _=_;rw[hx]at hm;by_cases e:j=m
  ·subst e;rw[List.getElem?_set_self (by show j<5;exact hj)]at hm;show(xs.set (i*5+j) u)[i*5+j]?=some z;rw[List.getElem?_set_self (by omega)];exact hm
  ·rw[List.getElem?_set_ne e]at hm;show(xs.set (i*5+j) u)[i*5+m]?=some z;rw[List.getElem?_set_ne (by omega)];exact k2 m z hm
 ·refine⟨nU l[k],by show _=nU _;rw[List.getElem_set_ne he],fun m z hm=> ?_⟩;have CW:m<5:=(List.getElem?_eq_some_iff.1 hm).1;show(xs.set (i*5+j) u)[k*5+m]?=some z;rw[List.getElem?_set_ne (by omega)];exact k2 m z hm
end
theorem Xd3:∀(l pre:List Acc),l.any (fun x=>x.owner==r.owner)=false→jU pre l r=([],9)
 | [],_,_=>rfl
 |a::l,pre,h=>by
  rw[List.any_cons,Bool.or_eq_false_iff]at h;rw[jU,if_neg (by simpa using h.1)];exact Xd3 l _ h.2
theorem Xgf:∀(l pre:List Acc) (i:Nat) (hi:i<l.length),(l[i].owner==r.owner)=true→(l.take i).any (fun x=>x.owner==r.owner)=false→
 jU pre l r=if mW l[i] r.c then([],16)else(pre++l.set i (uo l[i] r.c),0)
 | [],_,_,hi,_,_=>absurd hi (by simp)
 |a::l,pre,0,_,hp,_=>by
  have hp:a.owner=r.owner:=by simpa using hp
  rw[jU,if_pos hp];rfl
 |a::l,pre,i+1,hi,hp,hn=>by
  rw[List.take_succ_cons,List.any_cons,Bool.or_eq_false_iff]at hn;rw[jU,if_neg (by simpa using hn.1),Xgf l _ i (by simpa using hi) hp hn.2];simp
theorem Xjd(hi:i<l.length)(hp:(l[i].owner==r.owner)=true)(hn:(l.take i).any (fun x=>x.owner==r.owner)=false):
 bV l r=if mW l[i] r.c then([],16)else(l.set i (uo l[i] r.c),0):=Xgf l [] i hi hp hn
def CK(g:Nat)(cb:Array Value)(p:Acc→Bool)(C:World→Prop):Prop:=
 ∀(x:Acc) (W:World),C W→Calls Tryz.prog g (#[Dz x]++cb) W fun e w'=>e= .returned (.bool (p x))∧Below W.heap.size W w'
theorem Xgi(I:IH)(v:Value)(l:List Acc)(hv:aZ iY I v l)(g:Nat)(cb:Array Value)(p:Acc→Bool)(w:World)(hw:Ok I w)(eg:∀args w,(callFunc g args).run Tryz.prog w= .ok (.enter g args) w)(hp:CK g cb p (Below w.heap.size w)):
 Calls Tryz.prog 49 #[v,.func (.func g) #[] cb] w fun e w'=>e= .returned (.int .i64 (ol l p))∧Below w.heap.size w w':=by
 have hlen:=hv.bF;obtain⟨ao,cap,rfl,dO,fJ,_⟩:=id hv;have Hv:=Qh hv;clear hv;have Hp:=Qh hp;clear hp;go_enter Tryz.func49,Tryz.ntmps49
 go_wp2_with fail
 go_loopw [8] (fun s8 wr=> ∃k:Nat,k≤l.length∧s8= .int .i64 k∧(l.take k).any p=false∧Below w.heap.size w wr) (fun i _=>l.length-(intOf i).toNat)
 case atStart=>exact⟨0,Nat.zero_le _,rfl,rfl,Qb _ _⟩
 case round=>
  obtain⟨k,hk,rfl,hr,hb⟩:=hrel;have Hr:=Qh hr;clear hr;by_cases hlt:k<l.length
  ·have dG:Ok I wr:=hw.below (Qn _) hb;obtain⟨x,b,off,cap',dA,cZ,hX⟩:=Ju Hv.O dG k hlt;cases cZ;obtain⟨c0,c1,c2,c3,c4⟩:=(⟨hX.c0,hX.c1,hX.c2,hX.c3,hX.c4⟩:_∧_∧_∧_∧_);have qM:=Qh dA;have kX:=Qh (Hp.O x wr hb);clear dA hX;go_wp2_with fail
   refine kX.O.mono ?_;rintro e w1 ⟨rfl,aD⟩;have aH:=hb.trans (aD.mono hb.size);clear aD kX c0 c1 c2 c3 c4;cases hpx:p x
   ·have Hn:=Qh (show(l.take (k+1)).any p=false by rw[List.take_succ_eq_append_getElem hlt,List.any_append,Hr.O,qM.O];simp[hpx]);clear hpx;go_wp2;go_roundw;case rel=>exact⟨k+1,by omega,by go_num,Hn.O,aH⟩
    case measure=>simp[intOf];omega
   ·have Hn:=Qh (UU (p:=p) hlt (by rw[qM.O];exact hpx) Hr.O);clear hpx;go_wp2;go_ret;exact⟨di Hn.O.symm,aH⟩
  ·have Hn:=Qh (show ol l p= -1 from UT (by have:=Hr.O;rwa[List.take_of_length_le (by omega)]at this));go_wp2;go_ret;exact⟨di Hn.O.symm,hb⟩
theorem Xpp(o:af)(b:Nat)(w:World)(hc:w.cell? ⟨b,0,none⟩=some (S o)):CK 50 #[.pointer (some ⟨b,0,none⟩)] (fun x=>x.owner==o) (Below w.heap.size w):=by
 intro x W hW;have Lc:=kP (.cells #[S x.owner,.int .i64 x.b,.int .i64 x.f,.int .i64 x.ub,.int .i64 x.uf] 54) (bK hW hc);clear hc;show Calls Tryz.prog _ #[Dz x,.pointer (some ⟨b,0,none⟩)] W _;go_enter Tryz.func50,Tryz.ntmps50
 go_wp2;go_ret;exact⟨rfl,(Qb _ _).alloc (Qn _) _⟩
theorem Xvc:dS Tryz.prog 22 54 iY 48:=dS.of Tryz.underlying22 Xek rfl (by decide) rfl
structure Bj (l:List Acc):Prop where
 ok:∀a∈l,a.Ok
 b:∀a∈l,a.b≤9223372036854775807
 f:∀a∈l,a.f≤9223372036854775807
theorem Xk8(h1:¬a.b-a.ub<dF c)(h2:¬a.f-a.uf<dZ c):¬mW a c:=fun h=>h.elim h1 h2
theorem Xm4(h:aK iY 54 I W B (.slice (some ⟨g,0,none⟩) l.length cap) l)(hi:i<l.length)(ha:l[i]=a):
 (W.setCell ⟨g,i*5+3,none⟩ (.int .i64 (a.ub+dF c))).cell? ⟨g,i*5+4,none⟩=some (.int .i64 a.uf)∧
 (∀j,(W.setCell ⟨g,i*5+3,none⟩ (.int .i64 (a.ub+dF c))).frozen? ⟨g,j,none⟩=false)∧
 aK iY 54 I ((W.setCell ⟨g,i*5+3,none⟩ (.int .i64 (a.ub+dF c))).setCell ⟨g,i*5+4,none⟩ (.int .i64 (a.uf+dZ c))) B (.slice (some ⟨g,0,none⟩) l.length cap) (l.set i (uo a c)):=by
 have h1:=Xiy (j:=3) (u:= .int .i64 (a.ub+dF c)) (x:=⟨a.owner,a.b,a.f,a.ub+dF c,a.uf⟩) h hi (by decide) (by rw[ha];rfl) rfl;have En:i<(l.set i ⟨a.owner,a.b,a.f,a.ub+dF c,a.uf⟩).length:=by simpa using hi
 obtain⟨g',cap',e,_,_,_,_,y4,y5⟩:=Xhf h1 En;injection e with e1 e2 e3
 injection e1 with e1
 injection e1 with e1
 subst e1;rw[List.getElem_set_self]at y4;have Ei:aK iY 54 I (W.setCell ⟨g,i*5+3,none⟩ (.int .i64 (a.ub+dF c))) B (.slice (some ⟨g,0,none⟩) (l.set i ⟨a.owner,a.b,a.f,a.ub+dF c,a.uf⟩).length cap) (l.set i ⟨a.owner,a.b,a.f,a.ub+dF c,a.uf⟩):=by
  rw[List.length_set];exact h1
 have h2:=Xiy (j:=4) (u:= .int .i64 (a.uf+dZ c)) (x:=uo a c) Ei En (by decide) (by rw[List.getElem_set_self];rfl) rfl;rw[List.length_set,List.set_set]at h2;exact⟨y4,y5,h2⟩
theorem Xjc{e:Ending}(h:aK iY 54 I W B (.slice (some ⟨g,0,none⟩) l.length cap) l)(hi:i<l.length)(ha:l[i]=a)(iQ:Ok I W)(hB:w.heap.size≤B)(hg:B≤g)
 (hw:Ok I w) (hb:Below w.heap.size w W) (hc:bV l r=if mW a r.c then([],16)else(l.set i (uo a r.c),0)) (hn:¬mW a r.c) (he:e= .returned (.tuple #[.slice (some ⟨g,0,none⟩) l.length cap,.int .i64 0]))
 (hw':w'=(W.setCell ⟨g,i*5+3,none⟩ (.int .i64 (a.ub+dF r.c))).setCell ⟨g,i*5+4,none⟩ (.int .i64 (a.uf+dZ r.c))):xz iY I w (bV l r).1 (bV l r).2 e w':=by
 rw[hc,if_neg hn];subst hw' he;obtain⟨_,_,h2⟩:=Xm4 (c:=r.c) h hi ha;have hJ:∀b,B≤b→I b=none:=fun b hb=>hw.fresh (by omega);have aX:=(iQ.setCell (a:=⟨g,i*5+3,none⟩) (hJ g hg) (.int .i64 (a.ub+dF r.c))).setCell (a:=⟨g,i*5+4,none⟩) (hJ g hg) (.int .i64 (a.uf+dZ r.c));obtain⟨J,hx,nJ,hr,_⟩:=h2.freeze aX hJ;exact⟨_,J,rfl,(hb.setCell (p:=⟨g,i*5+3,none⟩) (by show w.heap.size≤g;omega) _).setCell (p:=⟨g,i*5+4,none⟩) (by show w.heap.size≤g;omega) _,hx.mono hB,nJ,hr⟩
theorem Xrd(I:IH)(v:Value)(l:List Acc)(hv:aZ iY I v l)(hl:Bj l)(DV:l.length≤1000)(r:jG)(va:Value)(fq:aZ lD I va r.c.aj)(dC:r.c.aF.length≤9223372036854775807)(w:World)(hw:Ok I w):
 Calls Tryz.prog 17 #[v,KV r va] w (xz iY I w (bV l r).1 (bV l r).2):=by
 have Hc:=Qh (fun w=>Xv1 I r.c va fq w);have Hv:=Qh hv;obtain⟨aa,ca,rfl,_,_,_⟩:=id fq;have Hi:=Qh (Xgi I v l hv _ _ _ _ (hw.alloc (.cells #[S r.owner,.int .i64 r.c.au,S r.c.ag,.slice aa r.c.aj.length ca,S r.c.target,S r.c.aF] 27)) (fun _ _=>by kernel_rfl) (Xpp r.owner w.heap.size (w.alloc (.cells #[S r.owner,.int .i64 r.c.au,S r.c.ag,.slice aa r.c.aj.length ca,S r.c.target,S r.c.aF] 27)) (by simp)));have hlen:=hv.bF;have PN:=YY r.c;have hcb:dF r.c≤9223372036854775807:=by unfold dF;split<;>omega
 obtain⟨ao,cap,rfl,_,_,_⟩:=id hv;clear hv fq;rcases LZ l (fun x=>x.owner==r.owner)with⟨i,hi,e1,e2,e3⟩|⟨e1,e2⟩
 case inr=>
  have Hn:=Qh (show bV l r=([],9)from Xd3 l [] e2);rw[e1]at Hi;clear e1 e2 PN hcb;go_enter Tryz.func17,Tryz.ntmps17
  go_wp2_with fail
  refine Hi.O.mono ?_;rintro e w1 ⟨rfl,aD⟩;have aH:=((Qb w.heap.size w).alloc (Qn _) (.cells #[S r.owner,.int .i64 r.c.au,S r.c.ag,.slice aa r.c.aj.length ca,S r.c.target,S r.c.aF] 27)).trans (aD.mono (by simp));clear aD Hi;go_wp2;go_ret2;rw[Hn.O];exact⟨_,I,rfl,aH,Ext.refl _ _,hw.below (Qn _) aH,aZ.nil _ _⟩
 have yf:=Qh (Xjd hi e2 e3);rw[e1]at Hi;clear e1 e2 e3;obtain⟨a,ha⟩:∃a,l[i]=a:=⟨_,rfl⟩;rw[ha]at yf;have Ae:a∈l:=by rw[←ha];exact List.getElem_mem hi
 obtain⟨u0,u1,f0,f1⟩:=(⟨(hl.ok a Ae).Vj,(hl.ok a Ae).Vk,(hl.ok a Ae).Vl,(hl.ok a Ae).Vm⟩:_∧_∧_∧_);have hab:=hl.b a Ae;have haf:=hl.f a Ae;have Ha:=Qh ha;have m1:IntKind.i64.wrap (a.b-a.ub)=a.b-a.ub:=IntWalk.i64_in _ (by omega);have m2:IntKind.i64.wrap (a.f-a.uf)=a.f-a.uf:=IntWalk.i64_in _ (by omega);have hi0:decide ((i:Int)<0)=false:=Qf (by omega);clear ha Ae hl;go_enter Tryz.func17,Tryz.ntmps17
 go_wp2_with fail
 refine Hi.O.mono ?_;rintro e w1 ⟨rfl,aD⟩;have jw:=(aD.block w.heap.size (by simp)).trans (heap_alloc_new w (.cells #[S r.owner,.int .i64 r.c.au,S r.c.ag,.slice aa r.c.aj.length ca,S r.c.target,S r.c.aF] 27));have b1:w1.cell? ⟨w.heap.size,1,none⟩=some _:=(cell_of_row _ _ 1 _ _ _ jw).trans rfl;have b2:w1.cell? ⟨w.heap.size,2,none⟩=some _:=(cell_of_row _ _ 2 _ _ _ jw).trans rfl;have b3:w1.cell? ⟨w.heap.size,3,none⟩=some _:=(cell_of_row _ _ 3 _ _ _ jw).trans rfl;have b4:w1.cell? ⟨w.heap.size,4,none⟩=some _:=(cell_of_row _ _ 4 _ _ _ jw).trans rfl;have b5:w1.cell? ⟨w.heap.size,5,none⟩=some _:=(cell_of_row _ _ 5 _ _ _ jw).trans rfl;have aH:=((Qb w.heap.size w).alloc (Qn _) (.cells #[S r.owner,.int .i64 r.c.au,S r.c.ag,.slice aa r.c.aj.length ca,S r.c.target,S r.c.aF] 27)).trans (aD.mono (by simp));clear aD Hi jw;go_wp2_with fail
 refine(Hc.O _).mono ?_;rintro e2 w2 ⟨rfl,aL⟩;have aY:=aH.trans (aL.mono aH.size);have Es:Ok I w2:=hw.below (Qn _) aY;obtain⟨x,b,off,cap',dA,cZ,hX⟩:=Ju Hv.O Es i hi;obtain rfl:a=x:=Ha.O.symm.trans dA;cases cZ;obtain⟨c0,c1,c2,c3,c4⟩:=(⟨hX.c0,hX.c1,hX.c2,hX.c3,hX.c4⟩:_∧_∧_∧_∧_);clear aH aL b1 b2 b3 b4 b5 hX dA Hc;have gp:=aY.alloc aY.size (.cells #[S a.owner,.int .i64 a.b,.int .i64 a.f,.int .i64 a.ub,.int .i64 a.uf] 54);have qP:=Es.alloc (.cells #[S a.owner,.int .i64 a.b,.int .i64 a.f,.int .i64 a.ub,.int .i64 a.uf] 54);by_cases q1:a.b-a.ub<dF r.c
 ·have i1:decide (a.b-a.ub<dF r.c)=true:=Qt q1;have Hn:=Qh (show bV l r=([],16) by rw[yf.O,if_pos (.inl q1)]);clear q1 yf;go_wp2_with fail
  go_ret2;rw[Hn.O];exact⟨_,I,rfl,gp,Ext.refl _ _,qP,aZ.nil _ _⟩
 have i1:decide (a.b-a.ub<dF r.c)=false:=Qf q1;by_cases q2:a.f-a.uf<dZ r.c
 ·have i2:decide (a.f-a.uf<dZ r.c)=true:=Qt q2;have Hn:=Qh (show bV l r=([],16) by rw[yf.O,if_pos (.inr q2)]);clear q1 q2 yf;go_wp2_with fail
  go_ret2;rw[Hn.O];exact⟨_,I,rfl,gp,Ext.refl _ _,qP,aZ.nil _ _⟩
 have i2:decide (a.f-a.uf<dZ r.c)=false:=Qf q2;have m3:IntKind.i64.wrap (a.ub+dF r.c)=a.ub+dF r.c:=IntWalk.i64_in _ (by omega);have m4:IntKind.i64.wrap (a.uf+dZ r.c)=a.uf+dZ r.c:=IntWalk.i64_in _ (by omega);have yH:=Qh (Xk8 q1 q2);clear q1 q2;go_wp2_with fail
 refine(Xmd I _ l Hv.O _ qP (by omega)).mono ?_;rintro e3 w4 ⟨v4,rfl,bg,aR⟩;have rU:=aY.size;have bI:=gp.trans (aR.mono (by simp;omega));have GX:=qP.below (Qn _) aR;obtain⟨g,uX,rfl,_,yF,hgl,y3,y4,y5⟩:=Xhf bg hi;obtain⟨p4,p5,_⟩:=Xm4 (c:=r.c) bg hi Ha.O;rw[Ha.O]at y3 y4;have f3:=y5 (i*5+3);have f4:=p5 (i*5+4);have Ho:=Qh bg;clear bg y5 p5 c0 c1 c2 c3 c4 aR gp qP Es aY y4;simp only[World.size_alloc]at yF Ho;go_wp2_with fail
 go_ret2;exact Xjc Ho.O hi Ha.O GX (by omega) yF hw bI yf.O yH.O rfl rfl
theorem Xmz(a:Option Addr)(c:Nat)(hc:c≤9223372036854775807):aZ T I (.slice a 0 c) []:=
 ⟨a,c,rfl,Nat.zero_le _,by unfold maxLen;omega,fun h=>absurd h (by simp)⟩
theorem Xpm(I:IH)(v:Value)(l:List Acc)(hv:aZ iY I v l)(hl:Bj l)(DV:l.length≤1000)(r:jG)(va:Value)(fq:aZ lD I va r.c.aj)(dC:r.c.aF.length≤9223372036854775807)(w:World)(hw:Ok I w):
 Calls Tryz.prog 18 #[v,KV r va] w (xz iY I w (bV l r).1 (bV l r).2):=by
 have Hc:=Qh (fun w=>Xtz I r.c va fq w);have Hv:=Qh hv;obtain⟨aa,ca,rfl,_,_,_⟩:=id fq;have hlen:=hv.bF;have PN:=YY r.c;have hcb:dF r.c≤9223372036854775807:=by unfold dF;split<;>omega
 obtain⟨ao,cap,rfl,_,_,_⟩:=id hv;clear hv fq;have KW:(w.alloc (.cells #[S r.owner,.int .i64 r.c.au,S r.c.ag,.slice aa r.c.aj.length ca,S r.c.target,S r.c.aF] 27)).heap[w.heap.size]?=_:=heap_alloc_new w (.cells #[S r.owner,.int .i64 r.c.au,S r.c.ag,.slice aa r.c.aj.length ca,S r.c.target,S r.c.aF] 27);have sI:=Qh KW;clear KW;go_enter Tryz.func18,Tryz.ntmps18
 go_wp2_with fail
 refine(Hc.O _).mono ?_;rintro e w1 ⟨rfl,aD⟩;have jw:=(aD.block w.heap.size (by simp)).trans sI.O;have aH:=((Qb w.heap.size w).alloc (Qn _) (.cells #[S r.owner,.int .i64 r.c.au,S r.c.ag,.slice aa r.c.aj.length ca,S r.c.target,S r.c.aF] 27)).trans (aD.mono (by simp));have Hb0:=Qh (show w1.cell? ⟨w.heap.size,0,none⟩=some (S r.owner)from(cell_of_row _ _ 0 _ _ _ jw).trans rfl);have MK:=aH.size;clear aD Hc sI jw;have Hl:=Qh hl;clear hl;go_wp2_with fail
 go_loopw [8] (fun s8 wr=> ∃k:Nat,k≤l.length∧s8= .int .i64 k∧(l.take k).any (fun x=>x.owner==r.owner)=false∧Below w1.heap.size w1 wr) (fun i _=>l.length-(intOf i).toNat)
 case atStart=>exact⟨0,Nat.zero_le _,rfl,rfl,Qb _ _⟩
 case round=>
  obtain⟨k,hk,rfl,hr,hb⟩:=hrel;have Hr:=Qh hr;clear hr;have cu:=aH.trans (hb.mono MK);have dG:Ok I wr:=hw.below (Qn _) cu;by_cases hlt:k<l.length
  ·obtain⟨a,b,off,cap',PK,cZ,hX⟩:=Ju Hv.O dG k hlt;cases cZ;have c0:=cell_regrown hX.c0;have b0:=cell_regrown (bK hb Hb0.O);have Ha:=Qh PK;have HX:=Qh hX;have Ae:a∈l:=by rw[←PK];exact List.getElem_mem hlt
   clear PK hX;cases hao:a.owner==r.owner
   ·have i1:(a.owner !=r.owner)=true:=by rw[bne,hao];rfl
    have Hn:=Qh (show(l.take (k+1)).any (fun x=>x.owner==r.owner)=false by rw[List.take_succ_eq_append_getElem hlt,List.any_append,Hr.O,Ha.O];simp[hao]);clear Ae;go_wp2_with fail
    refine wp_region_quiet_below (by kernel_rfl) (by kernel_rfl) ?_;repeat(go_big_quiet_step ((fail)))
    refine wpQuiet_nil ?_;intro w2 bq;have aL:Below (wr).heap.size (wr) w2:=by
     obtain⟨pq,rfl⟩:=bq;exact below_regrown _ _ _
    clear bq;go_wp2;go_roundw;case rel=>exact⟨k+1,by omega,by go_num,Hn.O,hb.trans (aL.mono hb.size)⟩
    case measure=>simp[intOf];omega
   ·have i1:(a.owner !=r.owner)=false:=by rw[bne,hao];rfl
    have yf:=Qh (Xjd hlt (by rw[Ha.O];exact hao) Hr.O);rw[Ha.O]at yf;obtain⟨u0,u1,f0,f1⟩:=(⟨(Hl.O.ok a Ae).Vj,(Hl.O.ok a Ae).Vk,(Hl.O.ok a Ae).Vl,(Hl.O.ok a Ae).Vm⟩:_∧_∧_∧_);have hab:=Hl.O.b a Ae;have haf:=Hl.O.f a Ae;have m1:IntKind.i64.wrap (a.b-a.ub)=a.b-a.ub:=IntWalk.i64_in _ (by omega);have m2:IntKind.i64.wrap (a.f-a.uf)=a.f-a.uf:=IntWalk.i64_in _ (by omega);clear Ae;go_wp2_with fail
    refine wp_region_quiet_below (by kernel_rfl) (by kernel_rfl) ?_;repeat(go_big_quiet_step ((fail)))
    refine wpQuiet_nil ?_;intro w2 bq;have aL:Below (wr).heap.size (wr) w2:=by
     obtain⟨pq,rfl⟩:=bq;exact below_regrown _ _ _
    clear bq;have Ug:=HX.O.aQ aL;have c1:=cell_regrown Ug.c1;have c2:=cell_regrown Ug.c2;have c3:=cell_regrown Ug.c3;have c4:=cell_regrown Ug.c4;have qL:=cu.trans (aL.mono cu.size);clear Ug c0 b0 aL dG cu;by_cases q1:a.b-a.ub<dF r.c
    ·have i2:decide (a.b-a.ub<dF r.c)=true:=Qt q1;have Hn:=Qh (show bV l r=([],16) by rw[yf.O,if_pos (.inl q1)]);clear q1 yf;go_wp2_with fail
     refine wp_region_quiet_below (by kernel_rfl) (by kernel_rfl) ?_;repeat(go_big_quiet_step ((fail)))
     refine wpQuiet_nil ?_;intro w3 bq;have dX:Below (w2).heap.size (w2) w3:=by
      obtain⟨pq,rfl⟩:=bq;exact below_regrown _ _ _
     clear bq;have qy:=qL.trans (dX.mono qL.size);go_wp2;go_ret2;rw[Hn.O];exact⟨_,I,rfl,qy.alloc qy.size _,Ext.refl _ _,(hw.below (Qn _) qy).alloc _,Xmz _ _ (by omega)⟩
    have i2:decide (a.b-a.ub<dF r.c)=false:=Qf q1;by_cases q2:a.f-a.uf<dZ r.c
    ·have i3:decide (a.f-a.uf<dZ r.c)=true:=Qt q2;have Hn:=Qh (show bV l r=([],16) by rw[yf.O,if_pos (.inr q2)]);clear q1 q2 yf;go_wp2_with fail
     refine wp_region_quiet_below (by kernel_rfl) (by kernel_rfl) ?_;repeat(go_big_quiet_step ((fail)))
     refine wpQuiet_nil ?_;intro w3 bq;have dX:Below (w2).heap.size (w2) w3:=by
      obtain⟨pq,rfl⟩:=bq;exact below_regrown _ _ _
     clear bq;have qy:=qL.trans (dX.mono qL.size);go_wp2;go_ret2;rw[Hn.O];exact⟨_,I,rfl,qy.alloc qy.size _,Ext.refl _ _,(hw.below (Qn _) qy).alloc _,Xmz _ _ (by omega)⟩
    have i3:decide (a.f-a.uf<dZ r.c)=false:=Qf q2;have m3:IntKind.i64.wrap (a.ub+dF r.c)=a.ub+dF r.c:=IntWalk.i64_in _ (by omega);have m4:IntKind.i64.wrap (a.uf+dZ r.c)=a.uf+dZ r.c:=IntWalk.i64_in _ (by omega);have yH:=Qh (Xk8 q1 q2);clear q1 q2;go_wp2_with fail
    refine wp_region_quiet_below (by kernel_rfl) (by kernel_rfl) ?_;repeat(go_big_quiet_step ((fail)))
    refine wpQuiet_nil ?_;intro w3 bq;have dX:Below (w2).heap.size (w2) w3:=by
     obtain⟨pq,rfl⟩:=bq;exact below_regrown _ _ _
    clear bq;have qy:=qL.trans (dX.mono qL.size);have qP:Ok I w3:=hw.below (Qn _) qy;have xq:=qy.size;clear c1 c2 c3 c4 dX qL
    go_upto_region 9 with(
     at_builtin
     refine KR Xvc rfl _ _ rfl (B:=w3.heap.size) (l:=[]) rfl (SF w3) rfl (iV.uO Hv.O (qP.alloc _) (by decide)) (by simp;omega) (by simp;omega) (by simp) ?_;intro v4 w4 I8 hg4 hl4)
    have Ho:=Qh (show aK iY 54 I w4 w3.heap.size v4 l from I8);have DX:=hg4.size;have aR:Below w3.heap.size w3 w4:=Below.own ((Qb _ _).alloc (Qn _) _) hg4 (SF (T:=iY) (I:=I) w3) (Qn _) (by simp);have CZ:=qy.trans (aR.mono qy.size);have GX:Ok I w4:=qP.below (Qn _) aR;clear I8 hg4 hl4 aR qP;obtain⟨g,uX,rfl,_,yF,hgl,y3,y4,y5⟩:=Xhf Ho.O hlt;obtain⟨p4,p5,p6⟩:=Xm4 (c:=r.c) Ho.O hlt Ha.O;clear p6;rw[Ha.O]at y3 y4;have f3:=y5 (k*5+3);have f4:=p5 (k*5+4);clear y5 p5 y4 DX m1 m2 i1 i2 i3 PN u0 u1 f0 f1 hab haf hao hcb dC;go_wp2;go_ret2;exact Xjc Ho.O hlt Ha.O GX xq yF hw CZ yf.O yH.O rfl rfl
  ·have Hn:=Qh (show bV l r=([],9)from Xd3 l [] (by have:=Hr.O;rwa[List.take_of_length_le (by omega)]at this));go_wp2;go_ret2;rw[Hn.O];exact⟨_,I,rfl,cu.alloc cu.size _,Ext.refl _ _,dG.alloc _,Xmz _ _ (by omega)⟩
theorem PD:dS Tryz.prog 46 29 lT 8:=dS.of (z:= .int .i64 0) Tryz.underlying46 (by kernel_rfl) rfl (by decide) rfl
structure gH (l:List Acc):Prop where
 ok:oN l
 b:∀a∈l,a.b≤9223372036854775807
 f:∀a∈l,a.f≤9223372036854775807
 len:l.length≤1000
theorem gH.acc(h:gH l):Bj l:=⟨h.ok.ok,h.b,h.f⟩
theorem gH.AO(h:gH l)(hc:bV l r=(m,0)):gH m:=by
 obtain⟨h1,h2⟩:=h.ok.AO hc;obtain⟨rfl,_⟩:=Xnk h.ok.BN hc;refine⟨h1,fun a ha=> ?_,fun a ha=> ?_,by rw[h2];exact h.len⟩
 ·obtain⟨x,hx,rfl⟩:=List.mem_map.1 ha;have:=h.b x hx;unfold AL;split<;>exact this
 ·obtain⟨x,hx,rfl⟩:=List.mem_map.1 ha;have:=h.f x hx;unfold AL;split<;>exact this
theorem gH.ing(h:gH s.l)(r:jG):gH (pO s r).l:=by
 rcases YZ s r with⟨e,_,h1,_⟩|⟨h1,_,h2⟩
 ·rw[h1];exact h
 ·rw[h2];exact h.AO (Prod.ext rfl h1:bV s.l r=((bV s.l r).1,0))
theorem Xvg(h:lv n s.d)(hn:n≤60000)(hc:r.c.aF.length≤65536):lv (n+1) (pO s r).d:=by
 rcases YZ s r with⟨e,_,h1,_⟩|⟨_,_,h2⟩
 ·rw[h1];exact h.mono (by omega)
 ·rw[h2];exact Xvl h hn hc
theorem Xxe(s:xP)(r:jG):(pO s r).es.length=s.es.length+1:=by
 rcases YZ s r with⟨e,_,h1,_⟩|⟨_,_,h2⟩
 ·rw[h1];simp
 ·rw[h2];simp
def mZ(s:xP)(rs:List jG)(k:Nat):xP:=(rs.take k).foldl pO s
theorem Xhq(s:xP)(rs:List jG)(hk:k<rs.length)(hr:rs[k]=r):mZ s rs (k+1)=pO (mZ s rs k) r:=by
 unfold mZ;rw[List.take_succ_eq_append_getElem hk,hr,List.foldl_append];rfl
theorem Xrw(d:ig)(l:List Acc)(rs:List jG)(hk:k≤rs.length):(mZ ⟨d,l,[]⟩ rs k).es.length=k:=by
 induction k with
 |zero=>rfl
 |succ k ih=>rw[Xhq _ rs (by omega) rfl,Xxe,ih (by omega)]
theorem Xoc(h:gH l)(rs:List jG):∀k,gH (mZ ⟨d,l,[]⟩ rs k).l:=by
 intro k;unfold mZ;generalize rs.take k=q;have:∀(q:List jG) (s:xP),gH s.l→gH (q.foldl pO s).l:=by
  intro q;induction q with
  |nil=>intro s h;exact h
  |cons r q ih=>intro s h;exact ih _ (h.ing r)
 exact this q _ h
theorem mH.Jw{w0 W':World}(h:mH I w0 J W){row:Option Nat}(hg:W.grownBy W' row)(hr:∀g,row=some g→J g=none∧w0.heap.size≤g):mH I w0 J W':=
 ⟨h.ok.grown hg (fun g e=>(hr g e).1),h.keep,h.eY.grown hg h.size (fun g e=>(hr g e).2)⟩
theorem xg.Jw(h:xg J w B d ve vk vt vh){row:Option Nat}(hg:w.grownBy w' row)(hn:∀g,row=some g→J g=none)(bn:row≠some B):xg J w' B d ve vk vt vh:=
 ⟨h.ok.grown hg hn,h.no,h.rd,(hg.block _ h.lt (fun e=>bn e.symm)).trans h.row⟩
def FV(I:IH)(w:World)(s:xP)(e:Ending)(w':World):Prop:=
 ∃ve vk vt vh va vs J,e= .returned (.tuple #[gU s.d ve vk vt vh,va,vs])∧Below w.heap.size w w'∧Ext w.heap.size I J∧Ok J w'∧l5 J s.d ve vk vt vh∧aZ iY J va s.l∧aZ lT J vs s.es
structure uC (I:IH) (w:World) (s:xP) (B0:Nat) (J:IH) (W:World) (ve vk vt vh va vs:Value):Prop where
 at_:mH I w J W
 ext:Ext w.heap.size I J
 zr:zB J W (w.heap.size+1) bE 43
 wr:xg J W w.heap.size s.d ve vk vt vh
 acc:aZ iY J va s.l
 es:aK lT 29 (fun _=>none) W B0 vs s.es
 no:∀g,vs.ownBlock=some g→J g=none
 hB:w.heap.size+1<B0
 hB':B0≤W.heap.size
section
variable {I J J':IH} {w W W':World} {s:xP} {B0:Nat} {ve vk vt vh va vs:Value}
theorem uC.quiet(h:uC I w s B0 J W ve vk vt vh va vs)(hb:Below W.heap.size W W'):uC I w s B0 J W' ve vk vt vh va vs:=
 ⟨h.at_.quiet hb,h.ext,h.zr.quiet hb,h.wr.below hb,h.acc,h.es.below hb,h.no,h.hB,Nat.le_trans h.hB' hb.size⟩
theorem uC.past(h:uC I w s B0 J W ve vk vt vh va vs)(o:Obj):uC I w s B0 J (W.alloc o) ve vk vt vh va vs:=h.quiet ((Qb _ _).alloc (Qn _) o)
theorem uC.grow(h:uC I w s B0 J W ve vk vt vh va vs)(hb:Below W.heap.size W W')(hx:Ext W.heap.size J J')(iQ:Ok J' W'):uC I w s B0 J' W' ve vk vt vh va vs:=
 ⟨h.at_.ext hb hx iQ,h.ext.trans hx h.at_.size,h.zr.ext hb hx,h.wr.ext hb hx iQ,h.acc.mono (hx.keep h.at_.ok (Qn _)),h.es.below hb,fun g e=>(hx g (zZ h.es e).2).trans (h.no g e),h.hB,Nat.le_trans h.hB' hb.size⟩
theorem uC.box(h:uC I w s B0 J W ve vk vt vh va vs){KC tN NA NB IM:Value}(hg:W.grownBy W' (some w.heap.size))(hr:W'.heap[w.heap.size]?=some (.cells #[.int .i64 d.num,.int .i64 d.aG,S d.bR,KC,tN,.int .i64 d.aU.aV,S d.aU.str,NA,NB] 43 (0,0)))(hd:l5 J d KC tN NA NB)(ha:aZ iY J IM l):
 uC I w ⟨d,l,s.es⟩ B0 J W' KC tN NA NB IM vs:=by
 have iQ:=h.at_.own hg h.wr.no (Qn _);exact⟨iQ,h.ext,h.zr.own hg (fun e=>by injection e with e;omega),⟨iQ.ok,h.wr.no,hd,hr⟩,ha,h.es.kept hg (.inr (h.es.cK (by have:=h.hB;omega))),h.no,h.hB,Nat.le_trans h.hB' hg.size⟩
theorem uC.FW(h:uC I w s B0 J W ve vk vt vh va vs){zr:Array Value}{ty:TypeId}(hg:W.grownBy W' (some n))(hn:B0≤n)(hz:W.heap[n]?=some (.cells zr ty (0,0)))(hJ:J n=none)(hv:vs.ownBlock≠some n):uC I w s B0 J W' ve vk vt vh va vs:=by
 have hB:=h.hB;have hs:=h.at_.size;exact⟨h.at_.own hg hJ (by omega),h.ext,h.zr.own hg (fun e=>by injection e with e;omega),h.wr.Jw hg (fun g e=>by injection e with e;subst e;exact hJ) (fun e=>by injection e with e;omega),h.acc,h.es.kept hg (.inr hv),h.no,h.hB,Nat.le_trans h.hB' hg.size⟩
theorem uC.ret(h:uC I w s B0 J W ve vk vt vh va vs)(hg:W.grownBy W' (some (w.heap.size+1))):FV I w s (.returned (.tuple #[gU s.d ve vk vt vh,va,vs])) W':=by
 have hB:=h.hB;have hA:=h.at_.own hg h.zr.no (by omega);have hes:=h.es.kept hg (.inr (h.es.cK hB));have aaX:=hes.mono (I':=J) (fun b c h=>by cases h);obtain⟨J2,hk,hx,iQ,hr,_⟩:=aaX.uA hA.ok h.no;exact⟨_,_,_,_,_,_,J2,rfl,hA.eY,h.ext.trans hx (by omega),iQ,h.wr.rd.mono hk,h.acc.mono hk,hr⟩
theorem uC.note(h:uC I w s B0 J W ve vk vt vh va vs){vs':Value}(hg:W.grownBy W' vs.ownBlock)(ho:aK lT 29 (fun _=>none) W' B0 vs' (s.es++[e]))(hl:∀g,vs'.ownBlock=some g→vs.ownBlock=some g∨W.heap.size≤g):
 uC I w ⟨s.d,s.l,s.es++[e]⟩ B0 J W' ve vk vt vh va vs':=by
 have hs:=h.at_.size;have hB:=h.hB;have bn:∀b,b<B0→vs.ownBlock≠some b:=fun b hb=>h.es.cK hb;exact⟨h.at_.Jw hg (fun g e=>⟨h.no g e,by have:=h.es.qo e;omega⟩),h.ext,h.zr.own hg (fun e=>bn _ hB e.symm),h.wr.Jw hg h.no (bn _ (by omega)),h.acc,ho,fun g e=>(hl g e).elim (h.no g) (fun q=>h.at_.ok.fresh q),h.hB,Nat.le_trans h.hB' hg.size⟩
end
theorem Xxh(h:bV s.l r=(m,e))(he:e≠0):pO s r=⟨s.d,s.l,s.es++[e]⟩:=by
 unfold pO;rw[h,if_pos he]
theorem Xxg(h:bV s.l r=(m,0))(h2:iy s.d r.c=(d,e))(he:e≠0):pO s r=⟨s.d,s.l,s.es++[e]⟩:=by
 unfold pO;rw[h,if_neg (by simp),h2,if_pos he]
theorem Xxf(h:bV s.l r=(m,0))(h2:iy s.d r.c=(d,0)):pO s r=⟨d,m,s.es++[0]⟩:=by
 unfold pO;rw[h,if_neg (by simp),h2,if_neg (by simp)]
theorem Xk5(I:IH)(hI:eG I)(d:ig)(hd:lv 0 d)(ve vk vt vh:Value)(hr:l5 I d ve vk vt vh)(vl:Value)(l:List Acc)(hl:aZ iY I vl l)(iQ:gH l)(vr:Value)(rs:List jG)(oI:aZ CJ I vr rs)(hc:∀r∈rs,r.c.Wf∧r.c.aj.length≤1000000)(hn:rs.length≤150)(w:World)(hw:Ok I w):
 Calls Tryz.prog 21 #[gU d ve vk vt vh,vl,vr] w (FV I w (vB d l rs)):=by
 have si:=Qh (show(Tryz.prog.info? 43).map (·.size)=some 9 by kernel_rfl);obtain⟨ae,ce,rfl,_,_,_⟩:=id hr.aB;obtain⟨ak,ck,rfl,_,_,_⟩:=id hr.aJ;obtain⟨at',ct,rfl,_,_,_⟩:=id hr.aI;obtain⟨ah,ch,rfl,_,_,_⟩:=id hr.holds;have A0:=Qh (((mH.start hw).past (.cells #[.int .i64 d.num,.int .i64 d.aG,S d.bR,.slice ae d.aB.length ce,.slice ak d.aU.aJ.length ck,.int .i64 d.aU.aV,S d.aU.str,.slice at' d.aI.length ct,.slice ah d.holds.length ch] 43)).past (.cells bE 43));have D0:=Qh (show xg I ((w.alloc (.cells #[.int .i64 d.num,.int .i64 d.aG,S d.bR,.slice ae d.aB.length ce,.slice ak d.aU.aJ.length ck,.int .i64 d.aU.aV,S d.aU.str,.slice at' d.aI.length ct,.slice ah d.holds.length ch] 43)).alloc (.cells bE 43)) w.heap.size d _ _ _ _ from⟨A0.O.ok,hw.fresh (Qn _),hr,(((Qb _ _).alloc (Qn _) _).block _ (by simp)).trans (heap_alloc_new w _)⟩);have Z0:=Qh (show zB I ((w.alloc (.cells #[.int .i64 d.num,.int .i64 d.aG,S d.bR,.slice ae d.aB.length ce,.slice ak d.aU.aJ.length ck,.int .i64 d.aU.aV,S d.aU.str,.slice at' d.aI.length ct,.slice ah d.holds.length ch] 43)).alloc (.cells bE 43)) (w.heap.size+1) bE 43 from⟨hw.fresh (by omega),by have:=heap_alloc_new (w.alloc (.cells #[.int .i64 d.num,.int .i64 d.aG,S d.bR,.slice ae d.aB.length ce,.slice ak d.aU.aJ.length ck,.int .i64 d.aU.aV,S d.aU.str,.slice at' d.aI.length ct,.slice ah d.holds.length ch] 43)) (.cells bE 43);simpa using this⟩);have qO:=Qh (Xmd I vl l hl _ A0.O.ok (by have:=iQ.len;omega));have HG:=Qh hI;have Hc:=Qh hc;have rZ:=Qh oI;have o7:=Qh iQ;have Hd:=Qh hd;obtain⟨ao,cap,rfl,_,_,_⟩:=id hl;obtain⟨ro,Bl,rfl,_,_,_⟩:=id oI;clear hI hc oI iQ hd hl hr;go_enter Tryz.func21,Tryz.ntmps21
 go_wp2_with fail
 refine qO.O.mono ?_;rintro e1 w1 ⟨v1,rfl,bg,aD⟩;have A1:=Qh (A0.O.quiet aD);obtain⟨J1,gu,nJ,gy,_⟩:=bg.freeze A1.O.ok (fun b hb=>hw.fresh (by simp at hb;omega));have qj:=aD.size;simp only[World.size_alloc]at qj gu
 have M1:=Qh (show uC I w ⟨d,l,[]⟩ w1.heap.size J1 w1 _ _ _ _ v1 (.slice none 0 0)from
  ⟨⟨nJ,fun b c h=>gu.keep hw (by omega) b c h,A1.O.eY⟩,gu.mono (by omega),⟨(gu _ (by omega)).trans Z0.O.no,(Z0.O.quiet aD).row⟩,⟨nJ,(gu _ (by omega)).trans D0.O.no,D0.O.rd.mono (fun b c h=>gu.keep hw (by omega) b c h),(D0.O.below aD).row⟩,gy,aK.nil _ _ _ _ _,fun g e=>(by cases e),by omega,Qn _⟩)
 have wo:=Qh (show lv 0 (mZ ⟨d,l,[]⟩ rs 0).d from Hd.O);obtain⟨o1,c1,rfl,_,_,_⟩:=id gy;clear bg gu nJ gy aD A0 A1 D0 Z0 qO;generalize w1.heap.size=B0 at M1;go_wp2_with fail
 go_loopw [9,10,12,13,14,15,20] (fun s9 s10 _ _ _ _ s20 wr=> ∃(k:Nat) (J:IH) (ve vk vt vh:Value),k≤rs.length∧s20= .int .i64 k∧uC I w (mZ ⟨d,l,[]⟩ rs k) B0 J wr ve vk vt vh s9 s10∧lv k (mZ ⟨d,l,[]⟩ rs k).d) (fun _ _ _ _ _ _ i _=>rs.length-(intOf i).toNat)
 case atStart=>exact⟨0,J1,_,_,_,_,Nat.zero_le _,rfl,M1.O,wo.O⟩
 case round=>
  clear M1 wo;obtain⟨k,J,ve,vk,vt,vh,hk,rfl,hM,OE⟩:=hrel;have M:=Qh hM;have FX:=Qh OE;clear hM OE;obtain⟨ae,ce,rfl,_,_,_⟩:=id M.O.wr.rd.aB;obtain⟨ak,ck,rfl,_,_,_⟩:=id M.O.wr.rd.aJ;obtain⟨at',ct,rfl,_,_,_⟩:=id M.O.wr.rd.aI;obtain⟨ah,ch,rfl,_,_,_⟩:=id M.O.wr.rd.holds;obtain⟨pF,cap2,rfl,_,_,_⟩:=id M.O.acc;have qp:=Qh (Xrw d l rs hk);have Jy:=Qh (Xoc (d:=d) o7.O rs k);by_cases hlt:k<rs.length
  ·obtain⟨r,va,b,off,cap',uy,cZ,hR,fq⟩:=NF (rZ.O.mono M.O.at_.keep) M.O.at_.ok k hlt;cases cZ;obtain⟨c0,c1,c2,c3,c4,c5⟩:=(⟨hR.c0,hR.c1,hR.c2,hR.c3,hR.c4,hR.c5⟩:_∧_∧_∧_∧_∧_);have fJ:=Hc.O r (by rw[←uy];exact List.getElem_mem hlt);have vY:=Qh (Xhq ⟨d,l,[]⟩ rs hlt uy);obtain⟨s,hs⟩:∃s,mZ ⟨d,l,[]⟩ rs k=s:=⟨_,rfl⟩;rw[hs]at M FX vY qp Jy ⊢;have wo:=Qh (show lv (k+1) (mZ ⟨d,l,[]⟩ rs (k+1)).d by rw[vY.O];exact Xvg FX.O (by omega) fJ.1.aF);obtain⟨oa,ca,rfl,_,_,_⟩:=id fq;have Ma:=Qh (M.O.past (.cells #[S r.owner,.int .i64 r.c.au,S r.c.ag,.slice oa r.c.aj.length ca,S r.c.target,S r.c.aF] 27));have DU:=Xrd J _ _ M.O.acc Jy.O.acc Jy.O.len r _ fq (by have:=fJ.1.aF;omega) _ Ma.O.at_.ok;have GN:=(fun(J':IH) (hk:∀b c,J b=some c→J' b=some c) ve vk vt vh (hr:l5 J' s.d ve vk vt vh) w hw=>Xve J' (HG.O.mono (fun b c h=>hk b c (M.O.at_.keep b c h))) s.d FX.O (by omega) ve vk vt vh hr r.c fJ.1 fJ.2 _ (fq.mono hk) w hw);obtain⟨lm,en,nA⟩:∃lm en,bV s.l r=(lm,en):=⟨_,_,rfl⟩;obtain⟨dn,rn,DT⟩:∃dn rn,iy s.d r.c=(dn,rn):=⟨_,_,rfl⟩;rw[nA]at DU;rw[DT]at GN;dsimp only at DU GN;have yf:=Qh DU;have NG:=Qh GN;have NH:=Qh nA;have KU:=Qh DT;have jw:=heap_alloc_new wr (.cells #[S r.owner,.int .i64 r.c.au,S r.c.ag,.slice oa r.c.aj.length ca,S r.c.target,S r.c.aF] 27);have HbX:=Qh jw;have hMB:=M.O.hB';have hMw:=M.O.at_.size;clear hR uy fq fJ hs DU GN nA DT jw M FX;go_wp2_with fail
   refine yf.O.mono ?_;rintro e1 w1 ⟨v1,J1,rfl,aD,gu,aM,gy⟩;obtain⟨o1,cc1,rfl,_,_,_⟩:=id gy;have M1:=Qh (Ma.O.grow aD gu aM);have Tp:=Qh (fun b c h=>gu.keep Ma.O.at_.ok (Qn _) b c h);have p8:=(aD.block wr.heap.size (by simp)).trans HbX.O;have Uh:=Qh gy;clear c0 c1 c2 c3 c4 c5 aD gu aM gy Ma yf HbX;by_cases h0:en=0
   ·subst h0;obtain⟨b0,b1,b2,b3,b4,b5,b6,b7,b8⟩:=drB_row (d:=s.d) (M1.O.past (.cells bE 43)).wr.row;have DC:=(((Qb w1.heap.size w1).alloc (Qn _) (.cells bE 43)).block wr.heap.size (Qg p8)).trans p8;have y1:(w1.alloc (.cells bE 43)).cell? ⟨wr.heap.size,1,none⟩=some _:=(cell_of_row _ _ 1 _ _ _ DC).trans rfl;have y2:(w1.alloc (.cells bE 43)).cell? ⟨wr.heap.size,2,none⟩=some _:=(cell_of_row _ _ 2 _ _ _ DC).trans rfl;have y3:(w1.alloc (.cells bE 43)).cell? ⟨wr.heap.size,3,none⟩=some _:=(cell_of_row _ _ 3 _ _ _ DC).trans rfl;have y4:(w1.alloc (.cells bE 43)).cell? ⟨wr.heap.size,4,none⟩=some _:=(cell_of_row _ _ 4 _ _ _ DC).trans rfl;have y5:(w1.alloc (.cells bE 43)).cell? ⟨wr.heap.size,5,none⟩=some _:=(cell_of_row _ _ 5 _ _ _ DC).trans rfl;have M2:=Qh (M1.O.past (.cells bE 43));have Zb:=Qh (show zB J1 (w1.alloc (.cells bE 43)) w1.heap.size bE 43 from⟨M1.O.at_.ok.fresh (Qn _),heap_alloc_new _ _⟩);clear p8 DC;go_wp2_with fail
    refine(NG.O J1 Tp.O _ _ _ _ M2.O.wr.rd _ M2.O.at_.ok).mono ?_;rintro e5 w5 ⟨ve5,vk5,vt5,vh5,J5,rfl,bM,Ah,dL,mY⟩;obtain⟨zC,zD,rfl,_,_,_⟩:=id mY.aB;obtain⟨zF,zG,rfl,_,_,_⟩:=id mY.aJ;obtain⟨xM,zH,rfl,_,_,_⟩:=id mY.aI;obtain⟨zI,zJ,rfl,_,_,_⟩:=id mY.holds;have M5:=Qh (M2.O.grow bM Ah dL);have HR5:=Qh (Uh.O.mono (Ah.keep M2.O.at_.ok (Qn _)));have hzb:=(Zb.O.ext bM Ah).row;have hzJ:=(Zb.O.ext bM Ah).no;have hvn:=M1.O.es.nP (Qn w1.heap.size);have HD5:=Qh mY;have rU:=M2.O.at_.size;have hM1:=M1.O.at_.size;have aaY:=M1.O.hB';clear b0 b1 b2 b3 b4 b5 b6 b7 b8 y1 y2 y3 y4 y5 bM Ah dL mY NG M1 M2 Uh Zb Tp
    go_upto_region 10 with(
     refine kC rfl rfl 43 _ _ rfl w1.heap.size 0 (dz dn (.slice zC dn.aB.length zD) (.slice zF dn.aU.aJ.length zG) (.slice xM dn.aI.length zH) (.slice zI dn.holds.length zJ)) (gU dn (.slice zC dn.aB.length zD) (.slice zF dn.aU.aJ.length zG) (.slice xM dn.aI.length zH) (.slice zI dn.holds.length zJ)) (by simp[Act.eval]) (by simp[Act.eval]) (by rfl) bE 43 hzb (by simp) (by kernel_rfl) (by simp[Value.oneCell']) (dz dn (.slice zC dn.aB.length zD) (.slice zF dn.aU.aJ.length zG) (.slice xM dn.aI.length zH) (.slice zI dn.holds.length zJ)).toArray (by rfl) ?_;intro w6 Cz tC)
    have M6:=Qh (M5.O.FW Cz (by omega) hzb hzJ hvn);clear Cz M5 hzb hzJ hvn;by_cases h0:rn=0
    ·subst h0;have bu:=Qh (Xxf NH.O KU.O);obtain⟨b0,b1,b2,b3,b4,b5,b6,b7,b8⟩:=drB_row (d:=dn) tC;have aS:=M6.O.wr.row
     go_upto_region 12 with(
      refine kC rfl rfl 43 _ _ rfl w.heap.size 0 (dz dn (.slice zC dn.aB.length zD) (.slice zF dn.aU.aJ.length zG) (.slice xM dn.aI.length zH) (.slice zI dn.holds.length zJ)) (gU dn (.slice zC dn.aB.length zD) (.slice zF dn.aU.aJ.length zG) (.slice xM dn.aI.length zH) (.slice zI dn.holds.length zJ)) (by simp[Act.eval]) (by simp[Act.eval]) (by rfl) _ 43 aS (by simp) (by kernel_rfl) (by simp[Value.oneCell']) (dz dn (.slice zC dn.aB.length zD) (.slice zF dn.aU.aJ.length zG) (.slice xM dn.aI.length zH) (.slice zI dn.holds.length zJ)).toArray (by rfl) ?_;intro w7 gL nM)
     have M7:=Qh (M6.O.box gL nM HD5.O HR5.O);clear gL nM tC aS b0 b1 b2 b3 b4 b5 b6 b7 b8 M6
     go_upto_region 13 with(
      at_builtin
      refine KR PD rfl _ _ rfl rfl (M7.O.es.alloc (.cells #[.int .i64 (0)] 29)) (vx:= .slice (some ⟨w7.heap.size,0,none⟩) 1 1) (by simp[Act.eval]) (iV.jR (T:=lT) (x:=0) (cs:=[.int .i64 (0)]) rfl (fun j u hu=>by rw[World.cell?_alloc_new];simpa using hu)) (by rw[qp.O];simp;omega) (by rw[qp.O];simp;omega) (by have:=M7.O.hB';simp;omega) ?_;intro v9 w9 j5 bP jf)
     have M9:=Qh ((M7.O.past (.cells #[.int .i64 (0)] 29)).note bP j5 jf);clear j5 bP jf;go_wp2_with fail
     go_roundw;case rel=>exact⟨k+1,J5,_,_,_,_,by omega,by go_num,by rw[vY.O,bu.O];exact M9.O,wo.O⟩
     case measure=>simp[intOf];omega
    ·have bu:=Qh (Xxg NH.O KU.O h0);have i1:(rn==0)=false:=by simpa using h0
     clear h0 tC
     go_upto_region 13 with(
      at_builtin
      refine KR PD rfl _ _ rfl rfl (M6.O.es.alloc (.cells #[.int .i64 (rn)] 29)) (vx:= .slice (some ⟨w6.heap.size,0,none⟩) 1 1) (by simp[Act.eval]) (iV.jR (T:=lT) (x:=rn) (cs:=[.int .i64 (rn)]) rfl (fun j u hu=>by rw[World.cell?_alloc_new];simpa using hu)) (by rw[qp.O];simp;omega) (by rw[qp.O];simp;omega) (by have:=M6.O.hB';simp;omega) ?_;intro v9 w9 j5 bP jf)
     have M9:=Qh ((M6.O.past (.cells #[.int .i64 (rn)] 29)).note bP j5 jf);clear j5 bP jf;go_wp2_with fail
     go_roundw;case rel=>exact⟨k+1,J5,_,_,_,_,by omega,by go_num,by rw[vY.O,bu.O];exact M9.O,wo.O⟩
     case measure=>simp[intOf];omega
   ·have bu:=Qh (Xxh NH.O h0);have i1:(en==0)=false:=by simpa using h0
    clear h0 p8 NG
    go_upto_region 13 with(
     at_builtin
     refine KR PD rfl _ _ rfl rfl (M1.O.es.alloc (.cells #[.int .i64 (en)] 29)) (vx:= .slice (some ⟨w1.heap.size,0,none⟩) 1 1) (by simp[Act.eval]) (iV.jR (T:=lT) (x:=en) (cs:=[.int .i64 (en)]) rfl (fun j u hu=>by rw[World.cell?_alloc_new];simpa using hu)) (by rw[qp.O];simp;omega) (by rw[qp.O];simp;omega) (by have:=M1.O.hB';simp;omega) ?_;intro v9 w9 j5 bP jf)
    have M9:=Qh ((M1.O.past (.cells #[.int .i64 (en)] 29)).note bP j5 jf);clear j5 bP jf;go_wp2_with fail
    go_roundw;case rel=>exact⟨k+1,J1,_,_,_,_,by omega,by go_num,by rw[vY.O,bu.O];exact M9.O,wo.O⟩
    case measure=>simp[intOf];omega
  ·have nY:k=rs.length:=by omega
   subst nY;have lJ:=Qh (show mZ ⟨d,l,[]⟩ rs rs.length=vB d l rs by unfold mZ vB;rw[List.take_length]);rw[lJ.O]at M ⊢;obtain⟨s,hs⟩:∃s,vB d l rs=s:=⟨_,rfl⟩;have Hs9:=Qh hs;rw[hs]at M ⊢;clear hs lJ FX qp Jy;obtain⟨b0,b1,b2,b3,b4,b5,b6,b7,b8⟩:=drB_row (d:=s.d) M.O.wr.row;have NE:=M.O.zr.row
   go_wp2_with (refine kC rfl rfl 43 _ _ rfl (w.heap.size+1) 0 (dz s.d (.slice ae s.d.aB.length ce) (.slice ak s.d.aU.aJ.length ck) (.slice at' s.d.aI.length ct) (.slice ah s.d.holds.length ch)) (gU s.d (.slice ae s.d.aB.length ce) (.slice ak s.d.aU.aJ.length ck) (.slice at' s.d.aI.length ct) (.slice ah s.d.holds.length ch)) (by simp[Act.eval]) (by simp[Act.eval]) (by rfl) bE 43 NE (by simp) (by kernel_rfl) (by simp[Value.oneCell']) (dz s.d (.slice ae s.d.aB.length ce) (.slice ak s.d.aU.aJ.length ck) (.slice at' s.d.aI.length ct) (.slice ah s.d.holds.length ch)).toArray (by rfl) ?_
                intro w9 bP jX)
   refine bodyPost_ret (v:= .tuple #[gU s.d (.slice ae s.d.aB.length ce) (.slice ak s.d.aU.aJ.length ck) (.slice at' s.d.aI.length ct) (.slice ah s.d.holds.length ch),.slice pF s.l.length cap2,u10]) ?_ rfl ?_
   ·rw[Gw rfl];simp[asAddr,run_loadVar_row w9 (w.heap.size+1) 43 43 _ (0,0) _ jX Tryz.underlying43 rfl si.O]
   ·rw[Hs9.O];exact M.O.ret bP
theorem Xny{E:TypeId}{cs:List Value}{l:List α}(hw:Ok J W)(hg:W.heap[g]?=some (.cells cs.toArray E (0,0)))(hn:J g=none)(hx:bA T J cs l)(hl:l.length≤1000):
 ∃J',(∀b c,J b=some c→J' b=some c)∧Ext g J J'∧Ok J' W∧(∀b,b≠g→J' b=J b)∧aZ T J' (.slice (some ⟨g,0,none⟩) l.length l.length) l:=by
 have kY:∀b c,J b=some c→(J.add g cs.toArray) b=some c:=fun b c hc=>by
  unfold IH.add;by_cases e:b=g
  ·subst e;rw[hn]at hc;cases hc
  ·rw[if_neg e];exact hc
 refine⟨J.add g cs.toArray,kY,Ext.add (Qn _) J _,hw.add hg,fun b hb=>by simp[IH.add,hb],⟨_,l.length,rfl,Qn _,by unfold maxLen;omega,fun _=>⟨g,0,cs.toArray,rfl,by simp[IH.add],fun i hi=> ?_⟩⟩⟩;obtain⟨c,k1,k2⟩:=hx.2 i hi;exact⟨c,T.mono kY k1,fun j u hu=>by rw[Nat.zero_add];simpa using k2 j u hu⟩
def VX:jK:=⟨4,[97],[],[],[]⟩
abbrev NI:List Value:=uw (jW [97] [49,50,51,52,53,54]) (.slice none 0 0)++uw (jW [98] [49,50,51,52]) (.slice none 0 0)++uw (jW [99] []) (.slice none 0 0)++uw ⟨[97,110,110],VX⟩ (.slice none 0 0)
abbrev FY:Array Value:=NI.toArray
theorem Xxt(J:IH):bA CJ J NI Kw:=
 ((bA.one (T:=CJ) (x:=jW [97] [49,50,51,52,53,54]) (cs:=uw _ (.slice none 0 0)) ⟨_,rfl,aZ.nil _ _⟩).append (bA.one (T:=CJ) (x:=jW [98] [49,50,51,52]) (cs:=uw _ (.slice none 0 0)) ⟨_,rfl,aZ.nil _ _⟩) |>.append (bA.one (T:=CJ) (x:=jW [99] []) (cs:=uw _ (.slice none 0 0)) ⟨_,rfl,aZ.nil _ _⟩)).append (bA.one (T:=CJ) (x:=⟨[97,110,110],VX⟩) (cs:=uw _ (.slice none 0 0)) ⟨_,rfl,aZ.nil _ _⟩)
theorem Xfx(p c:af)(w:World):Calls Tryz.prog 48 #[S p,S c] w fun e w'=>e= .returned (KV (jW p c) (.slice none 0 0))∧Below w.heap.size w w':=by
 go_enter Tryz.func48,Tryz.ntmps48
 go_wp2_with (refine kC rfl rfl 27 _ _ rfl w.heap.size 0 (uw (jW p c) (.slice none 0 0)) (KV (jW p c) (.slice none 0 0)) (by simp[Act.eval,jW]) (by simp[Act.eval,jW]) (by rfl) #[.string ⟨#[]⟩,.int .i64 0,.string ⟨#[]⟩,.slice none 0 0,.string ⟨#[]⟩,.string ⟨#[]⟩] 27 (heap_alloc_new _ _) (by simp) (by kernel_rfl) (by simp[Value.oneCell']) (uw (jW p c) (.slice none 0 0)).toArray (by rfl) ?_
              intro w9 bP jX)
 refine bodyPost_ret (results_cell_row rfl _ _ w.heap.size _ (uw (jW p c) (.slice none 0 0)).toArray (0,0) _ rfl jX Tryz.underlying27 rfl (by kernel_rfl)) rfl ⟨rfl,((Qb _ _).alloc (Qn _) _).grown bP (by simp) (fun k e=>by injection e with e;omega)⟩
theorem Xxr:bA lT J [.int .i64 0,.int .i64 0,.int .i64 16,.int .i64 0] [0,0,16,0]:=
 ((bA.one (T:=lT) (x:=0) (cs:=[.int .i64 0]) rfl).append (bA.one (T:=lT) (x:=0) (cs:=[.int .i64 0]) rfl) |>.append (bA.one (T:=lT) (x:=16) (cs:=[.int .i64 16]) rfl)).append (bA.one (T:=lT) (x:=0) (cs:=[.int .i64 0]) rfl)
theorem Xxs:gH [AP]:=⟨oN.of (by decide+kernel),fun a h=>by rw[List.mem_singleton.1 h];decide,fun a h=>by rw[List.mem_singleton.1 h];decide,by decide⟩
theorem Xx2:∀r∈Kw,r.c.Wf∧r.c.aj.length≤1000000:=fun r hr=>by
 unfold Kw at hr;simp only[List.mem_cons,List.not_mem_nil,or_false]at hr;rcases hr with rfl|rfl|rfl|rfl<;>exact⟨⟨by decide,by decide,by decide,fun x hx=>(by cases hx),by decide,by decide⟩,by decide⟩
abbrev KX(dB:ig)(ve vk vt vh vl:Value)(s:xP)(x:((Option Addr×Nat)×(Option Addr×Nat)×(Option Addr×Nat)×(Option Addr×Nat)×(Option Addr×Nat)×(Option Addr×Nat))×Nat×Nat):List (Option Tmp×Value):=
 [(some 17,gU dB ve vk vt vh),(some 18,vl),(some 19,.func (.func 48) #[] #[]),(some 20,KV (jW [97] [49,50,51,52,53,54]) (.slice none 0 0)),(some 21,.func (.func 48) #[] #[]),(some 22,KV (jW [98] [49,50,51,52]) (.slice none 0 0)),(some 23,.func (.func 48) #[] #[]),(some 24,KV (jW [99] []) (.slice none 0 0)),(some 25,Be VX (.slice none 0 0)),(some 26,KV ⟨[97,110,110],VX⟩ (.slice none 0 0)),(some 27,.slice (some ⟨x.2.1,0,none⟩) 4 4),(some 28,.tuple #[gU s.d (.slice x.1.1.1 s.d.aB.length x.1.1.2) (.slice x.1.2.1.1 s.d.aU.aJ.length x.1.2.1.2) (.slice x.1.2.2.1.1 s.d.aI.length x.1.2.2.1.2) (.slice x.1.2.2.2.1.1 s.d.holds.length x.1.2.2.2.1.2),.slice x.1.2.2.2.2.1.1 s.l.length x.1.2.2.2.2.1.2,.slice x.1.2.2.2.2.2.1 s.es.length x.1.2.2.2.2.2.2]),(some 16,.tuple #[gU s.d (.slice x.1.1.1 s.d.aB.length x.1.1.2) (.slice x.1.2.1.1 s.d.aU.aJ.length x.1.2.1.2) (.slice x.1.2.2.1.1 s.d.aI.length x.1.2.2.1.2) (.slice x.1.2.2.2.1.1 s.d.holds.length x.1.2.2.2.1.2),.slice x.1.2.2.2.2.1.1 s.l.length x.1.2.2.2.2.1.2,.slice x.1.2.2.2.2.2.1 s.es.length x.1.2.2.2.2.2.2]),(some 29,gU s.d (.slice x.1.1.1 s.d.aB.length x.1.1.2) (.slice x.1.2.1.1 s.d.aU.aJ.length x.1.2.1.2) (.slice x.1.2.2.1.1 s.d.aI.length x.1.2.2.1.2) (.slice x.1.2.2.2.1.1 s.d.holds.length x.1.2.2.2.1.2)),(some 30,.slice x.1.2.2.2.2.1.1 s.l.length x.1.2.2.2.2.1.2),(some 31,.slice x.1.2.2.2.2.2.1 s.es.length x.1.2.2.2.2.2.2),(some 5,.pointer (some ⟨x.2.2,0,none⟩)),(none,undef),(some 6,.slice x.1.2.2.2.2.1.1 s.l.length x.1.2.2.2.2.1.2),(some 7,.slice x.1.2.2.2.2.2.1 s.es.length x.1.2.2.2.2.2.2)]
theorem GI{dB:ig}{vl:Value}{x:((Option Addr×Nat)×(Option Addr×Nat)×(Option Addr×Nat)×(Option Addr×Nat)×(Option Addr×Nat)×(Option Addr×Nat))×Nat×Nat}:cO (KX dB ve vk vt vh vl s x):=by
 unfold cO;simp
theorem Xrt(I:IH)(hI:eG I)(w:World)(hw:Ok I w):
 Calls Tryz.prog 16 #[] w fun e w'=>e= .returned (.bool true)∧Below w.heap.size w w':=by
 have A0:=(mH.start hw).past (.cells (nU AP).toArray 54);obtain⟨K,hk,_,iQ,_,hrL⟩:=one_row (T:=iY) (x:=AP) (cs:=nU AP) A0.ok (heap_alloc_new w _) (hw.fresh (Qn _)) rfl;have A1:=Qh (show mH I w K _ from⟨iQ,hk,A0.eY⟩);have HG:=Qh (hI.mono hk);have Ep:gY [] 1=0:=by decide
 have hb:=Xns K (hI.mono hk) 7 1 0 [] Rp (by decide) (by decide) (.slice none 0 0) (aZ.nil _ _) 1 _ iQ;rw[Xs0 Ep]at hb;have Ad:=Qh (YV Rp (by decide) (by decide) Ep:lv 0 (jT [] 1));have VY:=Qh Xx3;have HL:=Qh hrL;obtain⟨dB,GH⟩:∃dB,jT [] 1=dB:=⟨_,rfl⟩;rw[GH]at hb Ad VY;have HB:=Qh hb;clear A0 hk iQ hrL hI hb GH Ep;go_enter Tryz.func16,Tryz.ntmps16
 go_wp2_with fail
 refine(HB.O).mono ?_;rintro e1 w1 ⟨ve1,vk1,vt1,vh1,J1,rfl,aD,gu,aM,eU⟩;obtain⟨vS,vT,rfl,_,_,_⟩:=id eU.aB;obtain⟨vU,ck1,rfl,_,_,_⟩:=id eU.aJ;obtain⟨um,vV,rfl,_,_,_⟩:=id eU.aI;obtain⟨vW,vX,rfl,_,_,_⟩:=id eU.holds
 go_upto_region 3 with(
  refine kC rfl rfl 43 _ _ rfl w1.heap.size 0 (dz dB (.slice vS dB.aB.length vT) (.slice vU dB.aU.aJ.length ck1) (.slice um dB.aI.length vV) (.slice vW dB.holds.length vX)) (gU dB (.slice vS dB.aB.length vT) (.slice vU dB.aU.aJ.length ck1) (.slice um dB.aI.length vV) (.slice vW dB.holds.length vX)) (by simp[Act.eval]) (by simp[Act.eval]) (by rfl) bE 43 (heap_alloc_new _ _) (by simp) (by kernel_rfl) (by simp[Value.oneCell']) (dz dB (.slice vS dB.aB.length vT) (.slice vU dB.aU.aJ.length ck1) (.slice um dB.aI.length vV) (.slice vW dB.holds.length vX)).toArray (by rfl) ?_;intro w2 hg2 kD)
 have aL:Below w1.heap.size w1 w2:=((Qb _ _).alloc (Qn _) _).grown hg2 (by simp) (fun k e=>by injection e with e;omega);have Lj:J1 w1.heap.size=none:=aM.fresh (Qn _);have A3:=Qh ((A1.O.ext aD gu aM).quiet aL);have D3:=Qh (show xg J1 w2 w1.heap.size dB _ _ _ _ from⟨A3.O.ok,Lj,eU,kD⟩);have HL3:=Qh (HL.O.mono (gu.keep A1.O.ok (Qn _)));have HK3:=Qh (fun b c h=>gu.keep A1.O.ok (Qn _) b c h);clear aD gu aM eU hg2 kD aL Lj A1 HB HL;generalize w1.heap.size=BA at D3;have HBX:=Qh (show BA<w2.heap.size∧J1 BA=none∧BA<w2.heap.size∧J1 BA=none∧(BA≠BA∨BA<w2.heap.size)from⟨D3.O.lt,D3.O.no,D3.O.lt,D3.O.no,.inr D3.O.lt⟩);have uE:=(fun J6 (h6:∀b c,J1 b=some c→J6 b=some c) vr (hr:aZ CJ J6 vr Kw) w hw=>Xk5 J6 (HG.O.mono (fun b c h=>h6 b c (HK3.O b c h))) dB Ad.O _ _ _ _ (D3.O.rd.mono h6) _ [AP] (HL3.O.mono h6) Xxs vr Kw hr Xx2 (by decide) w hw);obtain⟨s,hs⟩:∃s,vB dB [AP] Kw=s:=⟨_,rfl⟩;rw[hs]at uE VY;have Hin:=Qh uE;obtain⟨b0,b1,b2,b3,b4,b5,b6,b7,b8⟩:=drB_row (d:=dB) D3.O.row;clear uE hs HG HK3 Ad HL3;go_wp2_with fail
 refine yz (X:=((Option Addr×Nat)×(Option Addr×Nat)×(Option Addr×Nat)×(Option Addr×Nat)×(Option Addr×Nat)×(Option Addr×Nat))×Nat×Nat) (KX dB (.slice vS dB.aB.length vT) (.slice vU dB.aU.aJ.length ck1) (.slice um dB.aI.length vV) (.slice vW dB.holds.length vX) (.slice (some ⟨w.heap.size,0,none⟩) 1 1) s) (nL w2 11 241 10 242 16 243 234 244 (fun x w=>x.2.2<w.heap.size∧J1 x.2.2=none∧x.2.1<w.heap.size∧J1 x.2.1=none∧(x.2.2≠x.2.1∨x.2.1<w2.heap.size)) (fun x w=> ∃J',Ext w2.heap.size J1 J'∧Ok J' w∧l5 J' s.d (.slice x.1.1.1 s.d.aB.length x.1.1.2) (.slice x.1.2.1.1 s.d.aU.aJ.length x.1.2.1.2) (.slice x.1.2.2.1.1 s.d.aI.length x.1.2.2.1.2) (.slice x.1.2.2.2.1.1 s.d.holds.length x.1.2.2.2.1.2)∧aZ iY J' (.slice x.1.2.2.2.2.1.1 s.l.length x.1.2.2.2.2.1.2) s.l∧aZ lT J' (.slice x.1.2.2.2.2.2.1 s.es.length x.1.2.2.2.2.2.2) s.es∧J' x.2.2=none) (fun x w=>w.heap[x.2.1]?=some (.cells FY 27 (0,0))∧w2.heap.size≤x.2.1) (fun x w=>w.heap[x.2.2]?=some (.cells bE 43 (0,0))∧w2.heap.size≤x.2.2) (fun _ _=>True) (fun x w=>(∃J',Ext w2.heap.size J1 J'∧Ok J' w∧l5 J' s.d (.slice x.1.1.1 s.d.aB.length x.1.1.2) (.slice x.1.2.1.1 s.d.aU.aJ.length x.1.2.1.2) (.slice x.1.2.2.1.1 s.d.aI.length x.1.2.2.1.2) (.slice x.1.2.2.2.1.1 s.d.holds.length x.1.2.2.2.1.2)∧aZ iY J' (.slice x.1.2.2.2.2.1.1 s.l.length x.1.2.2.2.2.1.2) s.l∧aZ lT J' (.slice x.1.2.2.2.2.2.1 s.es.length x.1.2.2.2.2.2.2) s.es∧J' x.2.2=none)∧(w.heap[x.2.2]?=some (.cells bE 43 (0,0))∧w2.heap.size≤x.2.2)) (fun x=>x.2.2) 43 17 221 222 (fun x=>(dz s.d (.slice x.1.1.1 s.d.aB.length x.1.1.2) (.slice x.1.2.1.1 s.d.aU.aJ.length x.1.2.1.2) (.slice x.1.2.2.1.1 s.d.aI.length x.1.2.2.1.2) (.slice x.1.2.2.2.1.1 s.d.holds.length x.1.2.2.2.1.2)).toArray) (fun x=>(dz s.d (.slice x.1.1.1 s.d.aB.length x.1.1.2) (.slice x.1.2.1.1 s.d.aU.aJ.length x.1.2.1.2) (.slice x.1.2.2.1.1 s.d.aI.length x.1.2.2.1.2) (.slice x.1.2.2.2.1.1 s.d.holds.length x.1.2.2.2.1.2)).toArray) (fun x=>(dz s.d (.slice x.1.1.1 s.d.aB.length x.1.1.2) (.slice x.1.2.1.1 s.d.aU.aJ.length x.1.2.1.2) (.slice x.1.2.2.1.1 s.d.aI.length x.1.2.2.1.2) (.slice x.1.2.2.2.1.1 s.d.holds.length x.1.2.2.2.1.2)).toArray)) (by kernel_rfl) (by kernel_rfl) ?_ ?_ ?_
 ·exact⟨(default,BA,BA),nL.start _ _ HBX.O⟩
 ·rintro x s' a' w' i dM dC ha hC hi;obtain⟨aN,oi,fP,aC⟩:=mem_ready.1 hi;have ev:=Je GI ha;have hlt:=u6 aN;rcases i with _|_|_|_|_|_|_|_|_|_|_|_|_|_|_|_|_|_|_|_|i
  rotate_left 20
  ·simp at fP
  all_goals
   have dV:=fP;simp at fP;subst fP;simp[Region.binds]at aC;try have hl:=tO 6 17 dC (by decide+kernel) aN
   try have cu:=hC.off hl
   try have b0:=bK cu b0
   try have b1:=bK cu b1
   try have b2:=bK cu b2
   try have b3:=bK cu b3
   try have b4:=bK cu b4
   try have b5:=bK cu b5
   try have b6:=bK cu b6
   try have b7:=bK cu b7
   try have b8:=bK cu b8
   refine wpOp_step dV (fun K' hK=> ?_);rw[if_pos (by rfl)]
  rotate_left 3
  ·unfold Oper.wp;simp[go_sem,ev,ik,aC,Oper.upon];refine(Xfx [97] [49,50,51,52,53,54] w').mono ?_;rintro r4 w4 ⟨rfl,aR⟩;exact hK _ _ ⟨x,mF GI ha rfl aN,hC.step hl (cu.trans (aR.mono cu.size)) (by decide) (fun h=>⟨Nat.lt_of_lt_of_le h.1 aR.size,h.2.1,Nat.lt_of_lt_of_le h.2.2.1 aR.size,h.2.2.2⟩) (fun h _=>h.elim (fun e=>absurd e (by decide)) (fun⟨_,_,q⟩=>(q.elim fun J9 h9=>⟨J9,h9.1,h9.2.1.below (Qn _) aR,h9.2.2⟩))) (fun h _=>h.elim (fun e=>absurd e (by decide)) (fun⟨_,_,q⟩=>⟨(aR.block _ (Qg q.1)).trans q.1,q.2⟩)) (fun h _=>h.elim (fun e=>absurd e (by decide)) (fun⟨_,_,q⟩=>⟨(aR.block _ (Qg q.1)).trans q.1,q.2⟩)) (fun _ _=>trivial) hlt⟩
  rotate_left 1
  ·unfold Oper.wp;simp[go_sem,ev,ik,aC,Oper.upon];refine(Xfx [98] [49,50,51,52] w').mono ?_;rintro r4 w4 ⟨rfl,aR⟩;exact hK _ _ ⟨x,mF GI ha rfl aN,hC.step hl (cu.trans (aR.mono cu.size)) (by decide) (fun h=>⟨Nat.lt_of_lt_of_le h.1 aR.size,h.2.1,Nat.lt_of_lt_of_le h.2.2.1 aR.size,h.2.2.2⟩) (fun h _=>h.elim (fun e=>absurd e (by decide)) (fun⟨_,_,q⟩=>(q.elim fun J9 h9=>⟨J9,h9.1,h9.2.1.below (Qn _) aR,h9.2.2⟩))) (fun h _=>h.elim (fun e=>absurd e (by decide)) (fun⟨_,_,q⟩=>⟨(aR.block _ (Qg q.1)).trans q.1,q.2⟩)) (fun h _=>h.elim (fun e=>absurd e (by decide)) (fun⟨_,_,q⟩=>⟨(aR.block _ (Qg q.1)).trans q.1,q.2⟩)) (fun _ _=>trivial) hlt⟩
  rotate_left 1
  ·unfold Oper.wp;simp[go_sem,ev,ik,aC,Oper.upon];refine(Xfx [99] [] w').mono ?_;rintro r4 w4 ⟨rfl,aR⟩;exact hK _ _ ⟨x,mF GI ha rfl aN,hC.step hl (cu.trans (aR.mono cu.size)) (by decide) (fun h=>⟨Nat.lt_of_lt_of_le h.1 aR.size,h.2.1,Nat.lt_of_lt_of_le h.2.2.1 aR.size,h.2.2.2⟩) (fun h _=>h.elim (fun e=>absurd e (by decide)) (fun⟨_,_,q⟩=>(q.elim fun J9 h9=>⟨J9,h9.1,h9.2.1.below (Qn _) aR,h9.2.2⟩))) (fun h _=>h.elim (fun e=>absurd e (by decide)) (fun⟨_,_,q⟩=>⟨(aR.block _ (Qg q.1)).trans q.1,q.2⟩)) (fun h _=>h.elim (fun e=>absurd e (by decide)) (fun⟨_,_,q⟩=>⟨(aR.block _ (Qg q.1)).trans q.1,q.2⟩)) (fun _ _=>trivial) hlt⟩
  rotate_left 2
  ·unfold Oper.wp;simp[go_sem,ev,ik,aC,Oper.upon,b0,b1,b2,b3,b4,b5,b6,b7,b8];have ha:=ha.trans (uq (L:=KX dB (.slice vS dB.aB.length vT) (.slice vU dB.aU.aJ.length ck1) (.slice um dB.aI.length vV) (.slice vW dB.holds.length vX) (.slice (some ⟨w.heap.size,0,none⟩) 1 1) s x) (M:=KX dB (.slice vS dB.aB.length vT) (.slice vU dB.aU.aJ.length ck1) (.slice um dB.aI.length vV) (.slice vW dB.holds.length vX) (.slice (some ⟨w.heap.size,0,none⟩) 1 1) s (x.1,w'.heap.size,x.2.2)) [10] rfl (fun j bn=>by
    rcases j with _|_|_|_|_|_|_|_|_|_|_|_|_|_|_|_|_|_|_|_|j<;>first|rfl|(exact absurd (by decide) bn)|simp) (List.forall_mem_cons.2 ⟨jZ aN,List.forall_mem_nil _⟩))
   exact hK _ _ ⟨(x.1,w'.heap.size,x.2.2),mF GI ha rfl aN,hC.step hl (cu.trans (((Qb _ _).alloc (Qn _) _).mono cu.size)) (by decide) (fun h=>⟨Nat.lt_of_lt_of_le h.1 (by simp),h.2.1,by simp,A3.O.ok.fresh cu.size,.inl (Nat.ne_of_lt h.1)⟩) (fun h _=>h.elim (fun e=>absurd e (by decide)) (fun⟨_,_,q⟩=>(q.elim fun J9 h9=>⟨J9,h9.1,h9.2.1.below (Qn _) ((Qb w'.heap.size w').alloc (Qn _) (.cells FY 27)),h9.2.2⟩))) (fun _ _=>⟨heap_alloc_new _ _,cu.size⟩) (fun h _=>h.elim (fun e=>absurd e (by decide)) (fun⟨_,_,q⟩=>⟨(((Qb w'.heap.size w').alloc (Qn _) (.cells FY 27)).block _ (Qg q.1)).trans q.1,q.2⟩)) (fun _ _=>trivial) hlt⟩
  ·have h2:=hC.f2 (by first|simpa using aC|simp[aC]) (mI (by simp[dM])) hl;have h0:=hC.inv hl;obtain⟨J6,VZ,_,iO,Tq,tC⟩:=Xny (T:=CJ) (l:=Kw) (cs:=NI) (A3.O.ok.below (Qn _) cu) h2.1 h0.2.2.2.1 (Xxt _) (by decide);unfold Oper.wp;simp[go_sem,ev,ik,aC,Oper.upon];refine(Hin.O J6 VZ _ tC w' iO).mono ?_;rintro r4 w4 ⟨v5,v6,v7,v8,v9,v0,J7,rfl,aR,wN,iP,nM,Eu,zL⟩;obtain⟨a5,k5,rfl,_,_,_⟩:=id nM.aB;obtain⟨a6,k6,rfl,_,_,_⟩:=id nM.aJ;obtain⟨a7,k7,rfl,_,_,_⟩:=id nM.aI;obtain⟨a8,k8,rfl,_,_,_⟩:=id nM.holds;obtain⟨a9,k9,rfl,_,_,_⟩:=id Eu;obtain⟨a0,k0,rfl,_,_,_⟩:=id zL;have ha:=ha.trans (uq (L:=KX dB (.slice vS dB.aB.length vT) (.slice vU dB.aU.aJ.length ck1) (.slice um dB.aI.length vV) (.slice vW dB.holds.length vX) (.slice (some ⟨w.heap.size,0,none⟩) 1 1) s x) (M:=KX dB (.slice vS dB.aB.length vT) (.slice vU dB.aU.aJ.length ck1) (.slice um dB.aI.length vV) (.slice vW dB.holds.length vX) (.slice (some ⟨w.heap.size,0,none⟩) 1 1) s (((a5,k5),(a6,k6),(a7,k7),(a8,k8),(a9,k9),(a0,k0)),x.2)) [11,12,13,14,15,18,19] rfl (fun j bn=>by
    rcases j with _|_|_|_|_|_|_|_|_|_|_|_|_|_|_|_|_|_|_|_|j<;>first|rfl|(exact absurd (by decide) bn)|simp) (List.forall_mem_cons.2 ⟨jZ aN,List.forall_mem_cons.2 ⟨tO 6 12 dC (by kernel_rfl) aN,List.forall_mem_cons.2 ⟨tO 6 13 dC (by kernel_rfl) aN,List.forall_mem_cons.2 ⟨tO 6 14 dC (by kernel_rfl) aN,List.forall_mem_cons.2 ⟨tO 6 15 dC (by kernel_rfl) aN,List.forall_mem_cons.2 ⟨tO 6 18 dC (by kernel_rfl) aN,List.forall_mem_cons.2 ⟨tO 6 19 dC (by kernel_rfl) aN,List.forall_mem_nil _⟩⟩⟩⟩⟩⟩⟩))
   exact hK _ _ ⟨(((a5,k5),(a6,k6),(a7,k7),(a8,k8),(a9,k9),(a0,k0)),x.2),mF GI ha rfl aN,hC.step hl (cu.trans (aR.mono cu.size)) (by decide) (fun h=>⟨Nat.lt_of_lt_of_le h.1 aR.size,h.2.1,Nat.lt_of_lt_of_le h.2.2.1 aR.size,h.2.2.2⟩) (fun _ _=>⟨J7,fun b hb=>(wN b (Nat.lt_of_lt_of_le hb cu.size)).trans (Tq b (Nat.ne_of_lt (Nat.lt_of_lt_of_le hb h2.2))),iP,nM,Eu,zL,(wN _ h0.1).trans ((Tq _ (h0.2.2.2.2.resolve_right (Nat.not_lt.2 h2.2))).trans h0.2.1)⟩) (fun h _=>h.elim (fun e=>absurd e (by decide)) (fun⟨_,_,q⟩=>⟨(aR.block _ (Qg q.1)).trans q.1,q.2⟩)) (fun h _=>h.elim (fun e=>absurd e (by decide)) (fun⟨_,_,q⟩=>⟨(aR.block _ (Qg q.1)).trans q.1,q.2⟩)) (fun _ _=>trivial) hlt⟩
  rotate_left 4
  ·unfold Oper.wp;simp[go_sem,ev,ik,aC,Oper.upon,b0,b1,b2,b3,b4,b5,b6,b7,b8];have ha:=ha.trans (uq (L:=KX dB (.slice vS dB.aB.length vT) (.slice vU dB.aU.aJ.length ck1) (.slice um dB.aI.length vV) (.slice vW dB.holds.length vX) (.slice (some ⟨w.heap.size,0,none⟩) 1 1) s x) (M:=KX dB (.slice vS dB.aB.length vT) (.slice vU dB.aU.aJ.length ck1) (.slice um dB.aI.length vV) (.slice vW dB.holds.length vX) (.slice (some ⟨w.heap.size,0,none⟩) 1 1) s (x.1,x.2.1,w'.heap.size)) [16] rfl (fun j bn=>by
    rcases j with _|_|_|_|_|_|_|_|_|_|_|_|_|_|_|_|_|_|_|_|j<;>first|rfl|(exact absurd (by decide) bn)|simp) (List.forall_mem_cons.2 ⟨jZ aN,List.forall_mem_nil _⟩))
   exact hK _ _ ⟨(x.1,x.2.1,w'.heap.size),mF GI ha rfl aN,hC.step hl (cu.trans (((Qb _ _).alloc (Qn _) _).mono cu.size)) (by decide) (fun h=>⟨by simp,A3.O.ok.fresh cu.size,Nat.lt_of_lt_of_le h.2.2.1 (by simp),h.2.2.2.1,.inl (Nat.ne_of_lt h.2.2.1).symm⟩) (fun h _=>h.elim (fun e=>absurd e (by decide)) (fun⟨_,_,q⟩=>(q.elim fun J9 h9=>⟨J9,h9.1,h9.2.1.below (Qn _) ((Qb w'.heap.size w').alloc (Qn _) (.cells bE 43)),h9.2.2.1,h9.2.2.2.1,h9.2.2.2.2.1,h9.2.1.fresh (Qn _)⟩))) (fun h _=>h.elim (fun e=>absurd e (by decide)) (fun⟨_,_,q⟩=>⟨(((Qb w'.heap.size w').alloc (Qn _) (.cells bE 43)).block _ (Qg q.1)).trans q.1,q.2⟩)) (fun _ _=>⟨heap_alloc_new _ _,cu.size⟩) (fun _ _=>trivial) hlt⟩
  ·have aS:w'.heap[x.2.2]?=some (.cells _ 43 (0,0)):=(hC.f3 (by first|simpa using aC|simp[aC]) (mI (by simp[dM])) hl).1;refine wE 43 _ _ rfl (x.2.2) 0 (dz s.d (.slice x.1.1.1 s.d.aB.length x.1.1.2) (.slice x.1.2.1.1 s.d.aU.aJ.length x.1.2.1.2) (.slice x.1.2.2.1.1 s.d.aI.length x.1.2.2.1.2) (.slice x.1.2.2.2.1.1 s.d.holds.length x.1.2.2.2.1.2)) (gU s.d (.slice x.1.1.1 s.d.aB.length x.1.1.2) (.slice x.1.2.1.1 s.d.aU.aJ.length x.1.2.1.2) (.slice x.1.2.2.1.1 s.d.aI.length x.1.2.2.1.2) (.slice x.1.2.2.2.1.1 s.d.holds.length x.1.2.2.2.1.2)) (by simp[Act.eval,ev,ik,aC]) (by simp[Act.eval,ev,ik,aC]) (by rfl) _ _ aS (by simp) (by kernel_rfl) (by simp[Value.oneCell']) ?_;exact hK _ _ ⟨x,eO (d:=none) (v:=undef) GI ha rfl aN,hC.pQ aN ⟨hC.f1 (by first|simpa using aC|simp[aC]) (mI (by simp[dM])) hl,hC.f3 (by first|simpa using aC|simp[aC]) (mI (by simp[dM])) hl⟩ (mI (by simp[dM])) (mI (by simp[dM])) (by decide) aS (by rfl)⟩
  all_goals
   unfold Oper.wp;first
   |(simp[go_sem,ev,ik,aC,Oper.upon,b0,b1,b2,b3,b4,b5,b6,b7,b8];exact hK _ _ ⟨x,mF GI ha rfl aN,hC.pure (by decide)⟩)
   |(simp[go_sem,ev,ik,Oper.upon,b0,b1,b2,b3,b4,b5,b6,b7,b8];exact hK _ _ ⟨x,mF GI ha rfl aN,hC.pure (by decide)⟩)
 ·rintro x s' a' w5 gz ha hC;obtain⟨wb,gV,kr,gI,aS⟩:=hC.on (gz 17 (by decide));simp only[ite_self]at aS;rw[xL _ _ _ _ (fun i hi=>by rw[Nat.zero_add];exact gz i (by simpa using hi))]at ha;subst ha;simp only[eH,Act.put,List.setIfInBounds_toArray,List.set_cons_succ,List.set_cons_zero];obtain⟨⟨⟨V3,V4⟩,⟨SN,V5⟩,⟨V6,V7⟩,⟨V8,V9⟩,⟨va6,vb6⟩,⟨vs6,vx6⟩⟩,bq6,bx6⟩:=x;dsimp only at kr gI aS ⊢;obtain⟨⟨J9,CB,tY,jX,aa1,Tt,Tu⟩,jw,rW⟩:=kr;have hwz:=A3.O.size;have A5:=Qh ((A3.O.ext gV CB tY).own gI Tu (by omega));have A6:=Qh (A5.O.past (.cells #[.int .i64 0,.int .i64 0,.int .i64 16,.int .i64 0] 29));obtain⟨J6,VZ,_,iO,_,tC⟩:=Xny (T:=lT) (l:=[0,0,16,0]) (cs:=[.int .i64 0,.int .i64 0,.int .i64 16,.int .i64 0]) A6.O.ok (heap_alloc_new w5 (.cells #[.int .i64 0,.int .i64 0,.int .i64 16,.int .i64 0] 29)) (A5.O.ok.fresh (Qn _)) Xxr (by decide);have Hse:=Qh (Xeh J6 _ (.slice (some ⟨w5.heap.size,0,none⟩) 4 4) s.es (Tt.mono VZ) (by rw[VY.O];exact tC) _ iO);clear gV gI aS CB tY jX aa1 Tt b0 b1 b2 b3 b4 b5 b6 b7 b8 hC gz jw rW Tu A3 A5 D3 iO tC VZ Hin VY HBX;go_wp2_with fail
  refine Hse.O.mono ?_;rintro e7 w7 ⟨rfl,ji⟩;have A7:=Qh (A6.O.quiet ji);go_wp2;go_ret;exact⟨rfl,A7.O.eY⟩
theorem Xwq{s:af}(h:comp s=true):∀c∈s,c≠47:=fun c hc e=>by
 unfold comp at h;simp only[Bool.and_eq_true]at h;have:=List.all_eq_true.1 h.2 c hc;subst e;exact absurd this (by decide)
theorem Xop{s:af}(h:comp s=true):1≤s.length∧s.length≤32:=by
 unfold comp at h;simp only[Bool.and_eq_true,decide_eq_true_eq]at h;exact⟨h.1.1.1.1,h.1.1.1.2⟩
theorem Xoq{s:af}(h:comp s=true):els s=[s]:=by
 have h1:=Xop h;have hn:s≠[]:=fun e=>by rw[e]at h1;simp at h1
 rw[els,if_neg hn,Xh1 s [] (Xwq h)];rfl
theorem Xst{s:af}(h:comp s=true):aO s=0:=by
 have h1:=Xop h;rw[aO,if_neg (by omega),Xoq h,if_neg (by simp),if_pos (by simp[h])]
theorem Xri{s:af}(h:aO s=0)(h1:(els s).length=1):comp s=true:=by
 obtain⟨q,hq⟩:=List.length_eq_one_iff.1 h1;have hs:s=q:=by
  have:=P6 s;rw[hq]at this;exact this.symm
 unfold aO at h;split at h
 ·omega
 ·split at h
  ·omega
  ·split at h
   ·rename_i h2;rw[hq]at h2;rw[hs];simpa using h2
   ·omega
theorem Xtu{P:Program}(w:World)(ts:Array TypeId)(t:TypeId)(k:IntKind)(a b c d:Int):
 (Builtin.min_ ts t #[.int k a,.int k b,.int k c,.int k d]).run P w= .ok (.int k (min (min (min a b) c) d)) w:=by
 have e:∀x y:Int,(if y<x then y else x)=min x y:=fun x y=>by
  rw[Int.min_def];split<;>split<;>omega
 simp[Builtin.min_,Builtin.min2,e]
theorem NJ{w1:World}{T:TypeId}(hn:n=W.heap.size)(hb:Below (W.alloc (.cells #[S a.owner,.int .i64 a.b,.int .i64 a.f,.int .i64 a.ub,.int .i64 a.uf] T)).heap.size (W.alloc (.cells #[S a.owner,.int .i64 a.b,.int .i64 a.f,.int .i64 a.ub,.int .i64 a.uf] T)) w1):
 w1.cell? ⟨n,0,none⟩=some (S a.owner)∧w1.cell? ⟨n,1,none⟩=some (.int .i64 a.b)∧w1.cell? ⟨n,2,none⟩=some (.int .i64 a.f)∧w1.cell? ⟨n,3,none⟩=some (.int .i64 a.ub)∧w1.cell? ⟨n,4,none⟩=some (.int .i64 a.uf):=by
 subst hn;refine⟨?_,?_,?_,?_,?_⟩<;>(rw[hb.cell (by simp)];simp)
theorem Xkf(h:comp a.owner=false):fD a=7:=by rw[fD,if_pos h]
theorem Tv(h:comp a.owner=true)(k:a.b<0∨a.f<0∨a.ub<0∨a.uf<0):fD a=2:=by rw[fD,if_neg (by rw[h];simp),if_pos k]
theorem Wd(h:comp a.owner=true)(k:¬(a.b<0∨a.f<0∨a.ub<0∨a.uf<0))(k2:a.b<a.ub∨a.f<a.uf):fD a=16:=by rw[fD,if_neg (by rw[h];simp),if_neg k,if_pos k2]
theorem Xoy(h:comp a.owner=true)(k:¬(a.b<0∨a.f<0∨a.ub<0∨a.uf<0))(k2:¬(a.b<a.ub∨a.f<a.uf)):fD a=0:=by rw[fD,if_neg (by rw[h];simp),if_neg k,if_neg k2]
theorem Xt1(I:IH)(hI:eG I)(a:Acc)(hl:a.owner.length≤4294967280)(w:World)(hw:Ok I w):
 Calls Tryz.prog 97 #[Dz a] w fun r w'=>r= .returned (.int .i64 (fD a))∧Below w.heap.size w w':=by
 have Hs:=Qh (fun w hw=>QA I hI a.owner hl w hw);have oC:=Qh (show comp a.owner=false∧((lZ a.owner).2≠0∨(lZ a.owner).2=0∧(lZ a.owner).1.length≠1)∨comp a.owner=true∧(lZ a.owner).2=0∧(lZ a.owner).1.length=1 by
  cases hc:comp a.owner
  ·refine .inl ⟨rfl,?_⟩;by_cases h0:aO a.owner=0
   ·rw[JX h0];exact .inr ⟨rfl,fun e=>by rw[Xri h0 e]at hc;cases hc⟩
   ·rw[Qo h0];exact .inl h0
  ·refine .inr ⟨rfl,?_⟩;rw[JX (Xst hc),Xoq hc];exact⟨rfl,rfl⟩)
 obtain⟨⟨L,n⟩,hL⟩:∃p,lZ a.owner=p:=⟨_,rfl⟩;rw[hL]at Hs oC;dsimp only at Hs oC;clear hL;have asf:=fun(w:World) ts t=>Xtu (P:=Tryz.prog) w ts t .i64 a.b a.f a.ub a.uf;go_enter Tryz.func97,Tryz.ntmps97
 go_wp2_with fail
 refine(Hs.O _ (hw.alloc _)).mono ?_;rintro e w1 ⟨v1,I1,rfl,aD,gu,aM,gy⟩;obtain⟨ao,cap,rfl,_,_,_⟩:=id gy;obtain⟨c0,c1,c2,c3,c4⟩:=NJ rfl aD;have aH:Below w.heap.size w w1:=((Qb _ _).alloc (Qn _) _).trans (aD.mono (by simp));clear aD gu aM gy Hs;rcases oC.O with⟨hc,h|⟨rfl,h⟩⟩|⟨hc,rfl,h⟩
 ·have i1:(n !=0)=true:=by simpa using h
  have Hn:=Qh (Xkf hc);clear hc h oC;go_wp2;go_ret;exact⟨di Hn.O.symm,aH⟩
 ·have i1:((L.length:Int) !=1)=true:=by simp;omega
  have Hn:=Qh (Xkf hc);clear hc h oC;go_wp2;go_ret;exact⟨di Hn.O.symm,aH⟩
 ·have i1:((L.length:Int) !=1)=false:=by simp;omega
  have Hc:=Qh hc;clear hc h oC;by_cases k1:a.b<0∨a.f<0∨a.ub<0∨a.uf<0
  ·have i2:decide (min a.b (min a.f (min a.ub a.uf))<0)=true:=Qt (by omega);have Hn:=Qh (Tv Hc.O k1);clear k1;go_wp2;go_ret;exact⟨di Hn.O.symm,aH⟩
  ·have i2:decide (min a.b (min a.f (min a.ub a.uf))<0)=false:=Qf (by omega);by_cases k2:a.b<a.ub
   ·have i3:decide (a.b<a.ub)=true:=Qt k2;have Hn:=Qh (Wd Hc.O k1 (.inl k2));clear k1 k2;go_wp2;go_ret;exact⟨di Hn.O.symm,aH⟩
   ·have i3:decide (a.b<a.ub)=false:=Qf k2;by_cases k3:a.f<a.uf
    ·have i4:decide (a.f<a.uf)=true:=Qt k3;have Hn:=Qh (Wd Hc.O k1 (.inr k3));clear k1 k2 k3;go_wp2;go_ret;exact⟨di Hn.O.symm,aH⟩
    ·have i4:decide (a.f<a.uf)=false:=Qf k3;have Hn:=Qh (Xoy Hc.O k1 (by omega));clear k1 k2 k3;go_wp2;go_ret;exact⟨di Hn.O.symm,aH⟩
theorem Xrb(a:Acc)(hl:a.owner.length≤9223372036854775807)(w:World):
 Calls Tryz.prog 47 #[Dz a] w fun r w'=>r= .returned (.int .i64 (fD a))∧Below w.heap.size w w':=by
 have Hs:=Qh (fun w=>Xdr a.owner hl w);go_enter Tryz.func47,Tryz.ntmps47
 go_wp2_with fail
 refine(Hs.O _).mono ?_;rintro e w1 ⟨rfl,aD⟩;obtain⟨c0,c1,c2,c3,c4⟩:=NJ rfl aD;have aH:Below w.heap.size w w1:=((Qb _ _).alloc (Qn _) _).trans (aD.mono (by simp));clear aD Hs;cases hc:comp a.owner
 ·have Hn:=Qh (Xkf hc);clear hc;go_wp2;go_ret;exact⟨di Hn.O.symm,aH⟩
 ·have Hc:=Qh hc;clear hc;by_cases k1:a.b<0
  ·have i1:decide (a.b<0)=true:=Qt k1;have Hn:=Qh (Tv Hc.O (.inl k1));clear k1;go_wp2;go_ret;exact⟨di Hn.O.symm,aH⟩
  ·have i1:decide (a.b<0)=false:=Qf k1;by_cases k2:a.f<0
   ·have i2:decide (a.f<0)=true:=Qt k2;have Hn:=Qh (Tv Hc.O (.inr (.inl k2)));clear k1 k2;go_wp2;go_ret;exact⟨di Hn.O.symm,aH⟩
   ·have i2:decide (a.f<0)=false:=Qf k2;by_cases k3:a.ub<0
    ·have i3:decide (a.ub<0)=true:=Qt k3;have Hn:=Qh (Tv Hc.O (.inr (.inr (.inl k3))));clear k1 k2 k3;go_wp2;go_ret;exact⟨di Hn.O.symm,aH⟩
    ·have i3:decide (a.ub<0)=false:=Qf k3;by_cases k4:a.uf<0
     ·have i4:decide (a.uf<0)=true:=Qt k4;have Hn:=Qh (Tv Hc.O (.inr (.inr (.inr k4))));clear k1 k2 k3 k4;go_wp2;go_ret;exact⟨di Hn.O.symm,aH⟩
     ·have i4:decide (a.uf<0)=false:=Qf k4;by_cases k5:a.b<a.ub
      ·have i5:decide (a.b<a.ub)=true:=Qt k5;have Hn:=Qh (Wd Hc.O (by omega) (.inl k5));clear k1 k2 k3 k4 k5;go_wp2;go_ret;exact⟨di Hn.O.symm,aH⟩
      ·have i5:decide (a.b<a.ub)=false:=Qf k5;by_cases k6:a.f<a.uf
       ·have i6:decide (a.f<a.uf)=true:=Qt k6;have Hn:=Qh (Wd Hc.O (by omega) (.inr k6));clear k1 k2 k3 k4 k5 k6;go_wp2;go_ret;exact⟨di Hn.O.symm,aH⟩
       ·have i6:decide (a.f<a.uf)=false:=Qf k6;have Hn:=Qh (Xoy Hc.O (by omega) (by omega));clear k1 k2 k3 k4 k5 k6;go_wp2;go_ret;exact⟨di Hn.O.symm,aH⟩
theorem Xou(p x:af):(Op.bytesLess p x=true∧Op.bytesLess x p=false∧(x==p)=false∧(p==x)=false)∨(Op.bytesLess p x=false∧(Op.bytesLess x p=true∨(Op.bytesLess x p=false∧(x==p)=true∧(p==x)=true))):=by
 have no:∀{a b:af},Op.bytesLess a b=true→Op.bytesLess b a=false:=fun{a b} h=>by
  cases h2:Op.bytesLess b a
  ·rfl
  ·have:=PY h h2;rw[zU]at this;cases this
 have ne:∀{a b:af},Op.bytesLess a b=true→a≠b:=fun{a b} h e=>by rw[e,zU]at h;cases h
 rcases Lm p x with h|h|h
 ·exact .inl ⟨h,no h,by simpa using(ne h).symm,by simpa using ne h⟩
 ·subst h;exact .inr ⟨zU _,.inr ⟨zU _,by simp,by simp⟩⟩
 ·exact .inr ⟨no h,.inl h⟩
theorem Xxv(I:IH)(hI:eG I)(v:Value)(l:List Acc)(hv:aZ iY I v l)(hl:∀a∈l,a.owner.length≤4294967280)(w:World)(hw:Ok I w):
 Calls Tryz.prog 44 #[v] w fun e w'=>e= .returned (.int .i64 (gZ l))∧Below w.heap.size w w':=by
 have hlen:=hv.bF;obtain⟨ao,cap,rfl,dO,fJ,_⟩:=id hv;have Hv:=Qh hv;clear hv;have Hl:=Qh hl;clear hl;go_enter Tryz.func44,Tryz.ntmps44
 go_wp2_with fail
 go_loopw [8] (fun sk wr=> ∃k:Nat,k≤l.length∧sk= .int .i64 k∧jv (if k=0 then none else l[k-1]?) (l.drop k)=gZ l∧Below w.heap.size w wr) (fun i _=>l.length-(intOf i).toNat)
 case atStart=>exact⟨0,Nat.zero_le _,rfl,rfl,Qb _ _⟩
 case round=>
  obtain⟨k,hk,rfl,hr,hb⟩:=hrel;have Hr:=Qh hr;clear hr;by_cases hlt:k<l.length
  ·have dG:Ok I wr:=hw.below (Qn _) hb;obtain⟨x,b,off,cap',uy,cZ,hX⟩:=Ju Hv.O dG k hlt;cases cZ;obtain⟨c0,c1,c2,c3,c4⟩:=(⟨hX.c0,hX.c1,hX.c2,hX.c3,hX.c4⟩:_∧_∧_∧_∧_);have KY:=Qh uy;clear uy;have nD:=Hl.O x (by rw[←KY.O];exact List.getElem_mem hlt);have bu:=Qh (show gZ l=if fD x≠0 then fD x else if((if k=0 then none else l[k-1]?).any fun p=> !(Op.bytesLess p.owner x.owner))then 14 else jv (some x) (l.drop (k+1)) by
    rw[←Hr.O,List.drop_eq_getElem_cons hlt,KY.O];rfl)
   have Dc:=Qh (show l[k]?=some x by rw[List.getElem?_eq_getElem hlt,KY.O]);clear hX;go_wp2_with fail
   refine(Xt1 I hI x nD _ (dG.alloc _)).mono ?_;rintro e w1 ⟨rfl,aD⟩;obtain⟨oG,gu,oQ,yh,rT⟩:=NJ rfl aD;have aH:Below w.heap.size w w1:=hb.trans (Below.trans ((Qb _ _).alloc hb.size _) (aD.mono (by simp;have:=hb.size;omega)));clear aD c0 c1 c2 c3 c4 gu oQ yh rT dG;by_cases h0:fD x=0
   ·rw[h0];have wL:Ok I w1:=hw.below (Qn _) aH;by_cases vG:k=0
    ·have hd:decide (0<k)=false:=by simp;omega
     go_wp2_with fail
     refine wp_region_quiet_below (by kernel_rfl) (by kernel_rfl) ?_;repeat(go_big_quiet_step ((fail)))
     refine wpQuiet_nil ?_;intro w2 bq;have aL:Below (w1).heap.size (w1) w2:=by
      obtain⟨pq,rfl⟩:=bq;exact below_regrown _ _ _
     clear bq;go_wp2;go_roundw;case rel=>exact⟨k+1,by omega,by go_num,(by rw[bu.O,h0];subst vG;simp[show l[0]?=some x from Dc.O]),aH.trans (aL.mono aH.size)⟩
     case measure=>simp[intOf];omega
    ·obtain⟨p,b',off',nQ,hlp,cZ,hP⟩:=Ju Hv.O wL (k-1) (by omega);cases cZ;have Jo:=Qh (show l[k-1]?=some p by rw[List.getElem?_eq_getElem (by omega),hlp]);have GR:=cell_regrown hP.c0;have CO:=cell_regrown oG;have hd:decide (0<k)=true:=by simp;omega
     have hi:IntKind.i64.wrap ((k:Int)-1)=(k:Int)-1:=IntWalk.i64_in _ (by omega);have hj:0≤(k:Int)-1:=by omega
     have hm:((k:Int)-1).toNat=k-1:=by omega
     clear hP hlp;rcases Xou p.owner x.owner with⟨e1,e2,e3,e4⟩|⟨e1,e2|⟨e2,e3,e4⟩⟩
     ·have Hn:=Qh (show jv (if k+1=0 then none else l[k+1-1]?) (l.drop (k+1))=gZ l by rw[bu.O,h0];simp[vG,Jo.O,e1,Dc.O]);go_wp2_with fail
      refine wp_region_quiet_below (by kernel_rfl) (by kernel_rfl) ?_;repeat(go_big_quiet_step ((fail)))
      refine wpQuiet_nil ?_;intro w2 bq;have aL:Below (w1).heap.size (w1) w2:=by
       obtain⟨pq,rfl⟩:=bq;exact below_regrown _ _ _
      clear bq;go_wp2;go_roundw;case rel=>exact⟨k+1,by omega,by go_num,Hn.O,aH.trans (aL.mono aH.size)⟩
      case measure=>simp[intOf];omega
     all_goals
      have Hn:=Qh (show gZ l=14 by rw[bu.O,h0];simp[vG,Jo.O,e1]);go_wp2_with fail
      refine wp_region_quiet_below (by kernel_rfl) (by kernel_rfl) ?_;repeat(go_big_quiet_step ((fail)))
      refine wpQuiet_nil ?_;intro w2 bq;have aL:Below (w1).heap.size (w1) w2:=by
       obtain⟨pq,rfl⟩:=bq;exact below_regrown _ _ _
      clear bq;go_wp2;go_ret;exact⟨di Hn.O.symm,aH.trans (aL.mono aH.size)⟩
   ·have hn:(fD x !=0)=true:=by simpa using h0
    go_wp2;go_ret;exact⟨di (by rw[bu.O,if_pos h0]),aH⟩
  ·go_wp2;go_ret;refine⟨di ?_,hb⟩;rw[←Hr.O,List.drop_of_length_le (by omega)];rfl
theorem Xrc(I:IH)(v:Value)(l:List Acc)(hv:aZ iY I v l)(hl:∀a∈l,a.owner.length≤9223372036854775807)(w:World)(hw:Ok I w):
 Calls Tryz.prog 15 #[v] w fun e w'=>e= .returned (.int .i64 (gZ l))∧Below w.heap.size w w':=by
 have hlen:=hv.bF;obtain⟨ao,cap,rfl,dO,fJ,_⟩:=id hv;have Hv:=Qh hv;clear hv;have Hl:=Qh hl;clear hl;go_enter Tryz.func15,Tryz.ntmps15
 go_wp2_with fail
 go_loopw [3] (fun sk wr=> ∃k:Nat,k≤l.length∧sk= .int .i64 k∧jv (if k=0 then none else l[k-1]?) (l.drop k)=gZ l∧Below w.heap.size w wr) (fun i _=>l.length-(intOf i).toNat)
 case atStart=>exact⟨0,Nat.zero_le _,rfl,rfl,Qb _ _⟩
 case round=>
  obtain⟨k,hk,rfl,hr,hb⟩:=hrel;have Hr:=Qh hr;clear hr;by_cases hlt:k<l.length
  ·have dG:Ok I wr:=hw.below (Qn _) hb;obtain⟨x,b,off,cap',uy,cZ,hX⟩:=Ju Hv.O dG k hlt;cases cZ;obtain⟨c0,c1,c2,c3,c4⟩:=(⟨hX.c0,hX.c1,hX.c2,hX.c3,hX.c4⟩:_∧_∧_∧_∧_);have KY:=Qh uy;clear uy;have nD:=Hl.O x (by rw[←KY.O];exact List.getElem_mem hlt);have bu:=Qh (show gZ l=if fD x≠0 then fD x else if((if k=0 then none else l[k-1]?).any fun p=> !(Op.bytesLess p.owner x.owner))then 14 else jv (some x) (l.drop (k+1)) by
    rw[←Hr.O,List.drop_eq_getElem_cons hlt,KY.O];rfl)
   have Dc:=Qh (show l[k]?=some x by rw[List.getElem?_eq_getElem hlt,KY.O]);clear hX;go_wp2_with fail
   refine(Xrb x nD _).mono ?_;rintro e w1 ⟨rfl,aD⟩;have oG:=bK aD c0;have aH:Below w.heap.size w w1:=hb.trans (aD.mono hb.size);clear aD c0 c1 c2 c3 c4 dG;by_cases h0:fD x=0
   ·rw[h0];have wL:Ok I w1:=hw.below (Qn _) aH;by_cases vG:k=0
    ·have hd:decide (0<k)=false:=by simp;omega
     go_wp2_with fail
     refine wp_region_quiet_below (by kernel_rfl) (by kernel_rfl) ?_;repeat(go_big_quiet_step ((fail)))
     refine wpQuiet_nil ?_;intro w2 bq;have aL:Below (w1).heap.size (w1) w2:=by
      obtain⟨pq,rfl⟩:=bq;exact below_regrown _ _ _
     clear bq;go_wp2;go_roundw;case rel=>exact⟨k+1,by omega,by go_num,(by rw[bu.O,h0];subst vG;simp[show l[0]?=some x from Dc.O]),aH.trans (aL.mono aH.size)⟩
     case measure=>simp[intOf];omega
    ·obtain⟨p,b',off',nQ,hlp,cZ,hP⟩:=Ju Hv.O wL (k-1) (by omega);cases cZ;have Jo:=Qh (show l[k-1]?=some p by rw[List.getElem?_eq_getElem (by omega),hlp]);have GR:=cell_regrown hP.c0;have CO:=cell_regrown oG;have hd:decide (0<k)=true:=by simp;omega
     have hi:IntKind.i64.wrap ((k:Int)-1)=(k:Int)-1:=IntWalk.i64_in _ (by omega);have hj:0≤(k:Int)-1:=by omega
     have hm:((k:Int)-1).toNat=k-1:=by omega
     clear hP hlp;rcases Xou p.owner x.owner with⟨e1,e2,e3,e4⟩|⟨e1,e2|⟨e2,e3,e4⟩⟩
     ·have Hn:=Qh (show jv (if k+1=0 then none else l[k+1-1]?) (l.drop (k+1))=gZ l by rw[bu.O,h0];simp[vG,Jo.O,e1,Dc.O]);go_wp2_with fail
      refine wp_region_quiet_below (by kernel_rfl) (by kernel_rfl) ?_;repeat(go_big_quiet_step ((fail)))
      refine wpQuiet_nil ?_;intro w2 bq;have aL:Below (w1).heap.size (w1) w2:=by
       obtain⟨pq,rfl⟩:=bq;exact below_regrown _ _ _
      clear bq;go_wp2;go_roundw;case rel=>exact⟨k+1,by omega,by go_num,Hn.O,aH.trans (aL.mono aH.size)⟩
      case measure=>simp[intOf];omega
     all_goals
      have Hn:=Qh (show gZ l=14 by rw[bu.O,h0];simp[vG,Jo.O,e1]);go_wp2_with fail
      refine wp_region_quiet_below (by kernel_rfl) (by kernel_rfl) ?_;repeat(go_big_quiet_step ((fail)))
      refine wpQuiet_nil ?_;intro w2 bq;have aL:Below (w1).heap.size (w1) w2:=by
       obtain⟨pq,rfl⟩:=bq;exact below_regrown _ _ _
      clear bq;go_wp2;go_ret;exact⟨di Hn.O.symm,aH.trans (aL.mono aH.size)⟩
   ·have hn:(fD x !=0)=true:=by simpa using h0
    go_wp2;go_ret;exact⟨di (by rw[bu.O,if_pos h0]),aH⟩
  ·go_wp2;go_ret;refine⟨di ?_,hb⟩;rw[←Hr.O,List.drop_of_length_le (by omega)];rfl
theorem Xkk{l:List jG}(hk:k<l.length)(hr:l[k]=r):bN (l.take (k+1))=bN (l.take k)+jV r:=by
 rw[List.take_succ_eq_append_getElem hk,hr];simp[bN]
theorem Xoz(l:List jG)(k:Nat):bN (l.take k)≤bN l:=by
 have h:bN l=bN (l.take k)+bN (l.drop k):=by
  conv=>lhs;rw[←List.take_append_drop k l]
  unfold bN;rw[List.map_append,List.sum_append]
 omega
def iZ(l:List At):Nat:=(l.map fun a=>10+a.k.length+a.v.length).sum
theorem Xkl{l:List At}(hk:k<l.length){x:At}(hx:l[k]=x):iZ (l.take (k+1))=iZ (l.take k)+(10+x.k.length+x.v.length):=by
 rw[List.take_succ_eq_append_getElem hk,hx];simp[iZ]
theorem Xo0(l:List At)(k:Nat):iZ (l.take k)≤iZ l:=by
 have h:iZ l=iZ (l.take k)+iZ (l.drop k):=by
  conv=>lhs;rw[←List.take_append_drop k l]
  unfold iZ;rw[List.map_append,List.sum_append]
 omega
theorem Xpk(I:IH)(v:Value)(l:List jG)(hv:aZ CJ I v l)(WE:bN l≤4611686018427387904)(w:World)(hw:Ok I w):
 Calls Tryz.prog 46 #[v] w fun e w'=>e= .returned (.int .i64 (bN l))∧Below w.heap.size w w':=by
 have hlen:=hv.bF;obtain⟨ao,cap,rfl,_,_,_⟩:=id hv;have Hv:=Qh hv;clear hv;have Hw:=Qh WE;clear WE;go_enter Tryz.func46,Tryz.ntmps46
 go_wp2_with fail
 go_loopw [3,4] (fun s3 s4 wr=> ∃k:Nat,k≤l.length∧s4= .int .i64 k∧s3= .int .i64 (bN (l.take k))∧Below w.heap.size w wr) (fun _ i _=>l.length-(intOf i).toNat)
 case atStart=>exact⟨0,Nat.zero_le _,rfl,rfl,Qb _ _⟩
 case round=>
  obtain⟨k,hk,rfl,rfl,hb⟩:=hrel;have dG:Ok I wr:=hw.below (Qn _) hb;by_cases hlt:k<l.length
  ·obtain⟨r,va,b,off,cap',uy,cZ,hR,h1⟩:=NF Hv.O dG k hlt;cases cZ;have KY:=Qh uy;have vY:=Qh (Xkk hlt uy);have Oe:=Xoz l (k+1);have hwb:=Hw.O;rw[vY.O]at Oe;have hwd:jV r=10+r.owner.length+r.c.ag.length+r.c.target.length+r.c.aF.length+iZ r.c.aj:=rfl;have HR:=Qh hR;have H1:=Qh h1;obtain⟨oa,ca,rfl,_,_,_⟩:=id h1;obtain⟨N,hN⟩:∃N,bN (l.take k)=N:=⟨_,rfl⟩;rw[hN]at Oe;have HN:=Qh hN;rw[hN];obtain⟨c0,c1,c2,c3,c4,c5⟩:=(⟨hR.c0,hR.c1,hR.c2,hR.c3,hR.c4,hR.c5⟩:_∧_∧_∧_∧_∧_);have b0:=cell_regrown (kP (.cells #[.int .i64 r.c.au,S r.c.ag,.slice oa r.c.aj.length ca,S r.c.target,S r.c.aF] 25) c0);have jw:=heap_alloc_new wr (.cells #[.int .i64 r.c.au,S r.c.ag,.slice oa r.c.aj.length ca,S r.c.target,S r.c.aF] 25);have y1:(wr.alloc (.cells #[.int .i64 r.c.au,S r.c.ag,.slice oa r.c.aj.length ca,S r.c.target,S r.c.aF] 25)).cell? ⟨wr.heap.size,1,none⟩=some _:=(cell_of_row _ _ 1 _ _ _ jw).trans rfl;have y3:(wr.alloc (.cells #[.int .i64 r.c.au,S r.c.ag,.slice oa r.c.aj.length ca,S r.c.target,S r.c.aF] 25)).cell? ⟨wr.heap.size,3,none⟩=some _:=(cell_of_row _ _ 3 _ _ _ jw).trans rfl;have y4:(wr.alloc (.cells #[.int .i64 r.c.au,S r.c.ag,.slice oa r.c.aj.length ca,S r.c.target,S r.c.aF] 25)).cell? ⟨wr.heap.size,4,none⟩=some _:=(cell_of_row _ _ 4 _ _ _ jw).trans rfl;have sI:=Qh jw;have g1:=cell_regrown y1;have g3:=cell_regrown y3;have g4:=cell_regrown y4;have m1:IntKind.i64.wrap ((N:Int)+10)=(N:Int)+10:=IntWalk.i64_in _ (by omega);have m2:IntKind.i64.wrap ((N:Int)+10+(r.owner.length:Int))=(N:Int)+10+(r.owner.length:Int):=IntWalk.i64_in _ (by omega);have m3:IntKind.i64.wrap ((N:Int)+10+(r.owner.length:Int)+(r.c.ag.length:Int))=(N:Int)+10+(r.owner.length:Int)+(r.c.ag.length:Int):=IntWalk.i64_in _ (by omega);have m4:IntKind.i64.wrap ((N:Int)+10+(r.owner.length:Int)+(r.c.ag.length:Int)+(r.c.target.length:Int))=(N:Int)+10+(r.owner.length:Int)+(r.c.ag.length:Int)+(r.c.target.length:Int):=IntWalk.i64_in _ (by omega);have m5:IntKind.i64.wrap ((N:Int)+10+(r.owner.length:Int)+(r.c.ag.length:Int)+(r.c.target.length:Int)+(r.c.aF.length:Int))=(N:Int)+10+(r.owner.length:Int)+(r.c.ag.length:Int)+(r.c.target.length:Int)+(r.c.aF.length:Int):=IntWalk.i64_in _ (by omega);clear uy h1 jw y1 y3 y4 hN hwb hR;go_wp2_with fail
   refine wp_region_quiet_below (by kernel_rfl) (by kernel_rfl) ?_;repeat(go_big_quiet_step ((fail)))
   refine wpQuiet_nil ?_;intro w2 bq;have aL:Below (wr.alloc (.cells #[.int .i64 r.c.au,S r.c.ag,.slice oa r.c.aj.length ca,S r.c.target,S r.c.aF] 25)).heap.size (wr.alloc (.cells #[.int .i64 r.c.au,S r.c.ag,.slice oa r.c.aj.length ca,S r.c.target,S r.c.aF] 25)) w2:=by
    obtain⟨pq,rfl⟩:=bq;exact below_regrown _ _ _
   clear bq;have qL:Below w.heap.size w w2:=(hb.alloc hb.size (.cells #[.int .i64 r.c.au,S r.c.ag,.slice oa r.c.aj.length ca,S r.c.target,S r.c.aF] 25)).trans (aL.mono (by have:=hb.size;simp;omega));have KZ:=(aL.block wr.heap.size (by simp)).trans sI.O;have Hy2:=Qh (show w2.cell? ⟨wr.heap.size,2,none⟩=some (.slice oa r.c.aj.length ca)from(cell_of_row _ _ 2 _ _ _ KZ).trans rfl);clear c0 c1 c2 c3 c4 c5 b0 g1 g3 g4 m1 m2 m3 m4 m5 KZ sI aL hb;have uI:=H1.O.bF;go_wp2_with fail
   go_loopw [3,6] (fun s3 s6 wr=> ∃j:Nat,j≤r.c.aj.length∧s6= .int .i64 j∧s3= .int .i64 (N+10+r.owner.length+r.c.ag.length+r.c.target.length+r.c.aF.length+iZ (r.c.aj.take j):Nat)∧Below w2.heap.size w2 wr) (fun _ i _=>r.c.aj.length-(intOf i).toNat)
   case atStart=>exact⟨0,Nat.zero_le _,rfl,by simp[iZ],Qb _ _⟩
   case round=>
    obtain⟨j,hj,rfl,rfl,WG⟩:=hrel;have Tw:=qL.trans (WG.mono qL.size);have bq:Ok I wr:=hw.below (Qn _) Tw;have y2:=bK WG Hy2.O;by_cases BL:j<r.c.aj.length
    ·obtain⟨x,bx,ox,cx,dA,cZ,x0,x1⟩:=yK H1.O bq j BL;cases cZ;have Has:=Qh (Xkl BL dA);have Tx:=Xo0 r.c.aj (j+1);rw[Has.O]at Tx;have hwb:=Hw.O;obtain⟨M,hM⟩:∃M,N+10+r.owner.length+r.c.ag.length+r.c.target.length+r.c.aF.length+iZ (r.c.aj.take j)=M:=⟨_,rfl⟩;have HM:=Qh hM;rw[hM];have z2:=cell_regrown y2;have x0:=cell_regrown x0;have x1:=cell_regrown x1;have m1:IntKind.i64.wrap ((M:Int)+10)=(M:Int)+10:=IntWalk.i64_in _ (by omega);have m2:IntKind.i64.wrap ((M:Int)+10+(x.k.length:Int))=(M:Int)+10+(x.k.length:Int):=IntWalk.i64_in _ (by omega);have m3:IntKind.i64.wrap ((M:Int)+10+(x.k.length:Int)+(x.v.length:Int))=(M:Int)+10+(x.k.length:Int)+(x.v.length:Int):=IntWalk.i64_in _ (by omega);clear dA hM Tx hwd Oe hwb;go_wp2_with fail
     refine wp_region_quiet_below (by kernel_rfl) (by kernel_rfl) ?_;repeat(go_big_quiet_step ((fail)))
     refine wpQuiet_nil ?_;intro w3 bq;have dX:Below (wr).heap.size (wr) w3:=by
      obtain⟨pq,rfl⟩:=bq;exact below_regrown _ _ _
     clear bq;go_wp2;go_roundw;case rel=>exact⟨j+1,by omega,by go_num,by rw[Has.O];congr 1;have:=HM.O;push_cast;omega,WG.trans (dX.mono WG.size)⟩
     case measure=>simp[intOf];omega
    ·have Q0:j=r.c.aj.length:=by omega
     subst Q0;rw[List.take_length];go_wp2;go_roundw;case rel=>exact⟨k+1,by omega,by go_num,by rw[vY.O,HN.O,hwd];congr 1;push_cast;omega,Tw⟩
     case measure=>simp[intOf];omega
  ·have nY:k=l.length:=by omega
   subst nY;rw[List.take_length];go_wp2;go_ret;exact⟨rfl,hb⟩
theorem Xrr(I:IH)(vl:Value)(l:List Acc)(hl:aZ iY I vl l)(v:Value)(rs:List jG)(hv:aZ CJ I v rs)(WE:bN rs≤4611686018427387904)(w:World)(hw:Ok I w):
 Calls Tryz.prog 14 #[vl,v] w fun e w'=>e= .returned (.bool (decide (12<l.length∨1500<bN rs)))∧Below w.heap.size w w':=by
 have Hw:=Qh (fun w hw=>Xpk I v rs hv WE w hw);obtain⟨ao,cap,rfl,_,_,_⟩:=id hl;obtain⟨bo,bap,rfl,_,_,_⟩:=id hv;clear hl hv;by_cases q:12<l.length
 ·have i1:decide (12<l.length)=true:=Qt q;have i2:decide ((12:Int)<(l.length:Int))=true:=Qt (by omega);have Hn:=Qh (show decide (12<l.length∨1500<bN rs)=true from Qt (.inl q));clear q;go_enter Tryz.func14,Tryz.ntmps14
  go_wp2;go_ret;exact⟨ib Hn.O.symm,Qb _ _⟩
 ·have i1:decide (12<l.length)=false:=Qf q;have i2:decide ((12:Int)<(l.length:Int))=false:=Qf (by omega);have Hn:=Qh (show decide (12<l.length∨1500<bN rs)=decide ((1500:Int)<(bN rs:Int)) by
   by_cases h:1500<bN rs
   ·rw[Qt (show 12<l.length∨1500<bN rs from .inr h),Qt (show(1500:Int)<(bN rs:Int) by omega)]
   ·rw[Qf (show ¬(12<l.length∨1500<bN rs)from fun k=>k.elim q h),Qf (show ¬(1500:Int)<(bN rs:Int) by omega)])
  obtain⟨N,hN⟩:∃N:Nat,bN rs=N:=⟨_,rfl⟩;rw[hN]at Hw Hn;obtain⟨bb,kV⟩:∃b,decide ((1500:Int)<(N:Int))=b:=⟨_,rfl⟩;have i3:decide (1500<N)=bb:=by
   rw[←kV];by_cases h:1500<N
   ·rw[Qt h,Qt (by omega)]
   ·rw[Qf h,Qf (by omega)]
  rw[kV]at Hn;have HN:=Qh hN;clear q hN;go_enter Tryz.func14,Tryz.ntmps14
  go_wp2_with fail
  refine(Hw.O _ hw).mono ?_;rintro e w1 ⟨rfl,aD⟩;cases bb
  ·go_wp2;go_ret;exact⟨ib (by rw[HN.O];exact Hn.O.symm),aD⟩
  ·go_wp2;go_ret;exact⟨ib (by rw[HN.O];exact Hn.O.symm),aD⟩

abbrev PE(d dn:ig)(ve vk vt vh:Value)(b off n lc k:Nat)(c:jK)(va:Value)(rn:Int)(x:((Option Addr×Nat)×(Option Addr×Nat)×(Option Addr×Nat)×(Option Addr×Nat))×Nat):List (Option Tmp×Value):=
 [(some 34,gU d ve vk vt vh),(some 35,.slice (some ⟨b,off,none⟩) n lc),(some 36,.int .i64 (k:Int)),(some 37,.pointer (some ⟨b,off+k*6,none⟩)),(some 38,.pointer (some ⟨b,off+k*6+1,none⟩)),(some 39,Be c va),(some 40,.tuple #[gU dn (.slice x.1.1.1 dn.aB.length x.1.1.2) (.slice x.1.2.1.1 dn.aU.aJ.length x.1.2.1.2) (.slice x.1.2.2.1.1 dn.aI.length x.1.2.2.1.2) (.slice x.1.2.2.2.1 dn.holds.length x.1.2.2.2.2),.int .i64 rn]),(some 33,.tuple #[gU dn (.slice x.1.1.1 dn.aB.length x.1.1.2) (.slice x.1.2.1.1 dn.aU.aJ.length x.1.2.1.2) (.slice x.1.2.2.1.1 dn.aI.length x.1.2.2.1.2) (.slice x.1.2.2.2.1 dn.holds.length x.1.2.2.2.2),.int .i64 rn]),(some 41,gU dn (.slice x.1.1.1 dn.aB.length x.1.1.2) (.slice x.1.2.1.1 dn.aU.aJ.length x.1.2.1.2) (.slice x.1.2.2.1.1 dn.aI.length x.1.2.2.1.2) (.slice x.1.2.2.2.1 dn.holds.length x.1.2.2.2.2)),(some 42,.int .i64 rn),(some 13,.pointer (some ⟨x.2,0,none⟩)),(none,undef),(some 14,.int .i64 rn)]
theorem NK{dn:ig}{b off lc:Nat}{va:Value}{rn:Int}{x:((Option Addr×Nat)×(Option Addr×Nat)×(Option Addr×Nat)×(Option Addr×Nat))×Nat}:cO (PE d dn ve vk vt vh b off n lc k c va rn x):=by
 unfold cO;simp
theorem Xpl(I:IH)(d:ig)(hd:lv 0 d)(ve vk vt vh:Value)(hr:l5 I d ve vk vt vh)(vl:Value)(l:List Acc)(hl:aZ iY I vl l)(iQ:gH l)(vr:Value)(rs:List jG)(oI:aZ CJ I vr rs)(hc:∀r∈rs,r.c.Wf∧r.c.aj.length≤1000000)(hn:rs.length≤150)(w:World)(hw:Ok I w):
 Calls Tryz.prog 22 #[gU d ve vk vt vh,vl,vr] w (FV I w (vB d l rs)):=by
 have si:=Qh (show(Tryz.prog.info? 43).map (·.size)=some 9 by kernel_rfl);obtain⟨ae,ce,rfl,_,_,_⟩:=id hr.aB;obtain⟨ak,ck,rfl,_,_,_⟩:=id hr.aJ;obtain⟨at',ct,rfl,_,_,_⟩:=id hr.aI;obtain⟨ah,ch,rfl,_,_,_⟩:=id hr.holds;have A0:=Qh (((mH.start hw).past (.cells #[.int .i64 d.num,.int .i64 d.aG,S d.bR,.slice ae d.aB.length ce,.slice ak d.aU.aJ.length ck,.int .i64 d.aU.aV,S d.aU.str,.slice at' d.aI.length ct,.slice ah d.holds.length ch] 43)).past (.cells bE 43));have D0:=Qh (show xg I ((w.alloc (.cells #[.int .i64 d.num,.int .i64 d.aG,S d.bR,.slice ae d.aB.length ce,.slice ak d.aU.aJ.length ck,.int .i64 d.aU.aV,S d.aU.str,.slice at' d.aI.length ct,.slice ah d.holds.length ch] 43)).alloc (.cells bE 43)) w.heap.size d _ _ _ _ from⟨A0.O.ok,hw.fresh (Qn _),hr,(((Qb _ _).alloc (Qn _) _).block _ (by simp)).trans (heap_alloc_new w _)⟩);have Z0:=Qh (show zB I ((w.alloc (.cells #[.int .i64 d.num,.int .i64 d.aG,S d.bR,.slice ae d.aB.length ce,.slice ak d.aU.aJ.length ck,.int .i64 d.aU.aV,S d.aU.str,.slice at' d.aI.length ct,.slice ah d.holds.length ch] 43)).alloc (.cells bE 43)) (w.heap.size+1) bE 43 from⟨hw.fresh (by omega),by have:=heap_alloc_new (w.alloc (.cells #[.int .i64 d.num,.int .i64 d.aG,S d.bR,.slice ae d.aB.length ce,.slice ak d.aU.aJ.length ck,.int .i64 d.aU.aV,S d.aU.str,.slice at' d.aI.length ct,.slice ah d.holds.length ch] 43)) (.cells bE 43);simpa using this⟩);have Hc:=Qh hc;have rZ:=Qh oI;have o7:=Qh iQ;have Hd:=Qh hd;obtain⟨ao,cap,rfl,_,_,_⟩:=id hl;obtain⟨ro,Bl,rfl,_,_,_⟩:=id oI;have Hl:=Qh hl;clear hc oI iQ hd hl hr
 have M1:=Qh (show uC I w ⟨d,l,[]⟩ (w.heap.size+2) I (((w.alloc (.cells #[.int .i64 d.num,.int .i64 d.aG,S d.bR,.slice ae d.aB.length ce,.slice ak d.aU.aJ.length ck,.int .i64 d.aU.aV,S d.aU.str,.slice at' d.aI.length ct,.slice ah d.holds.length ch] 43)).alloc (.cells bE 43)).alloc (.cells #[] 29)) _ _ _ _ (.slice ao l.length cap) (.slice (some ⟨w.heap.size+2,0,none⟩) 0 0)from
  ⟨A0.O.past _,Ext.refl _ _,Z0.O.quiet ((Qb _ _).alloc (Qn _) _),D0.O.below ((Qb _ _).alloc (Qn _) _),Hl.O,by have:=SF (T:=lT) (E:=29) (I:=fun _=>none) ((w.alloc (.cells #[.int .i64 d.num,.int .i64 d.aG,S d.bR,.slice ae d.aB.length ce,.slice ak d.aU.aJ.length ck,.int .i64 d.aU.aV,S d.aU.str,.slice at' d.aI.length ct,.slice ah d.holds.length ch] 43)).alloc (.cells bE 43));simpa using this,fun g e=>by simp[Value.ownBlock]at e;exact hw.fresh (by omega),by omega,by simp⟩)
 have wo:=Qh (show lv 0 (mZ ⟨d,l,[]⟩ rs 0).d from Hd.O);clear A0 D0 Z0 Hl;go_enter Tryz.func22,Tryz.ntmps22
 go_wp2_with fail
 go_loopw [1,9,10,11,12,13,14] (fun s9 s10 s20 _ _ _ _ wr=> ∃(k:Nat) (J:IH) (ve vk vt vh:Value),k≤rs.length∧s20= .int .i64 k∧uC I w (mZ ⟨d,l,[]⟩ rs k) (w.heap.size+2) J wr ve vk vt vh s9 s10∧lv k (mZ ⟨d,l,[]⟩ rs k).d) (fun _ _ i _ _ _ _ _=>rs.length-(intOf i).toNat)
 case atStart=>exact⟨0,I,_,_,_,_,Nat.zero_le _,rfl,M1.O,wo.O⟩
 case round=>
  clear M1 wo;obtain⟨k,J,ve,vk,vt,vh,hk,rfl,hM,OE⟩:=hrel;have M:=Qh hM;have FX:=Qh OE;clear hM OE;obtain⟨ae,ce,rfl,_,_,_⟩:=id M.O.wr.rd.aB;obtain⟨ak,ck,rfl,_,_,_⟩:=id M.O.wr.rd.aJ;obtain⟨at',ct,rfl,_,_,_⟩:=id M.O.wr.rd.aI;obtain⟨ah,ch,rfl,_,_,_⟩:=id M.O.wr.rd.holds;obtain⟨pF,cap2,rfl,_,_,_⟩:=id M.O.acc;have qp:=Qh (Xrw d l rs hk);have Jy:=Qh (Xoc (d:=d) o7.O rs k);by_cases hlt:k<rs.length
  ·obtain⟨r,va,b,off,cap',uy,cZ,hR,fq⟩:=NF (rZ.O.mono M.O.at_.keep) M.O.at_.ok k hlt;cases cZ;obtain⟨c0,c1,c2,c3,c4,c5⟩:=(⟨hR.c0,hR.c1,hR.c2,hR.c3,hR.c4,hR.c5⟩:_∧_∧_∧_∧_∧_);have fJ:=Hc.O r (by rw[←uy];exact List.getElem_mem hlt);have vY:=Qh (Xhq ⟨d,l,[]⟩ rs hlt uy);obtain⟨s,hs⟩:∃s,mZ ⟨d,l,[]⟩ rs k=s:=⟨_,rfl⟩;rw[hs]at M FX vY qp Jy ⊢;have wo:=Qh (show lv (k+1) (mZ ⟨d,l,[]⟩ rs (k+1)).d by rw[vY.O];exact Xvg FX.O (by omega) fJ.1.aF);obtain⟨oa,ca,rfl,_,_,_⟩:=id fq;have DU:=Xpm J _ _ M.O.acc Jy.O.acc Jy.O.len r _ fq (by have:=fJ.1.aF;omega) _ M.O.at_.ok;have GN:=(fun(J':IH) (hk:∀b c,J b=some c→J' b=some c) ve vk vt vh (hr:l5 J' s.d ve vk vt vh) w hw=>Xv0 J' s.d FX.O (by omega) ve vk vt vh hr r.c fJ.1 fJ.2 _ (fq.mono hk) w hw);obtain⟨lm,en,nA⟩:∃lm en,bV s.l r=(lm,en):=⟨_,_,rfl⟩;obtain⟨dn,rn,DT⟩:∃dn rn,iy s.d r.c=(dn,rn):=⟨_,_,rfl⟩;rw[nA]at DU;rw[DT]at GN;dsimp only at DU GN;have yf:=Qh DU;have NG:=Qh GN;have NH:=Qh nA;have KU:=Qh DT;have HRq:=Qh hR;have CR:=hlt;clear hR uy fq fJ hs DU GN nA DT FX;go_wp2_with fail
   refine yf.O.mono ?_;rintro e1 w1 ⟨v1,J1,rfl,aD,gu,aM,gy⟩;obtain⟨o1,cc1,rfl,_,_,_⟩:=id gy;have M1:=Qh (M.O.grow aD gu aM);have Tp:=Qh (fun b c h=>gu.keep M.O.at_.ok (Qn _) b c h);have NL:=HRq.O.aQ aD;have Uh:=Qh gy;clear c0 c1 c2 c3 c4 c5 aD gu aM gy M yf HRq;by_cases h0:en=0
   ·subst h0;obtain⟨b0,b1,b2,b3,b4,b5,b6,b7,b8⟩:=drB_row (d:=s.d) M1.O.wr.row;obtain⟨c1,c2,c3,c4,c5⟩:=(⟨NL.c1,NL.c2,NL.c3,NL.c4,NL.c5⟩:_∧_∧_∧_∧_);have Tz:=Qh (fun w hw=>NG.O J1 Tp.O _ _ _ _ M1.O.wr.rd w hw);clear NL;go_wp2_with fail
    refine yz (X:=((Option Addr×Nat)×(Option Addr×Nat)×(Option Addr×Nat)×(Option Addr×Nat))×Nat) (PE s.d dn (.slice ae s.d.aB.length ce) (.slice ak s.d.aU.aJ.length ck) (.slice at' s.d.aI.length ct) (.slice ah s.d.holds.length ch) b off rs.length Bl k r.c (.slice oa r.c.aj.length ca) rn) (nL w1 6 234 225 235 10 236 227 237 (fun x w=>x.2<w.heap.size∧J1 x.2=none) (fun x w=> ∃J',Ext w1.heap.size J1 J'∧Ok J' w∧l5 J' dn (.slice x.1.1.1 dn.aB.length x.1.1.2) (.slice x.1.2.1.1 dn.aU.aJ.length x.1.2.1.2) (.slice x.1.2.2.1.1 dn.aI.length x.1.2.2.1.2) (.slice x.1.2.2.2.1 dn.holds.length x.1.2.2.2.2)∧J' x.2=none) (fun _ _=>True) (fun x w=>w.heap[x.2]?=some (.cells bE 43 (0,0))∧w1.heap.size≤x.2) (fun _ _=>True) (fun x w=>(∃J',Ext w1.heap.size J1 J'∧Ok J' w∧l5 J' dn (.slice x.1.1.1 dn.aB.length x.1.1.2) (.slice x.1.2.1.1 dn.aU.aJ.length x.1.2.1.2) (.slice x.1.2.2.1.1 dn.aI.length x.1.2.2.1.2) (.slice x.1.2.2.2.1 dn.holds.length x.1.2.2.2.2)∧J' x.2=none)∧(w.heap[x.2]?=some (.cells bE 43 (0,0))∧w1.heap.size≤x.2)) (fun x=>x.2) 43 11 214 215 (fun x=>(dz dn (.slice x.1.1.1 dn.aB.length x.1.1.2) (.slice x.1.2.1.1 dn.aU.aJ.length x.1.2.1.2) (.slice x.1.2.2.1.1 dn.aI.length x.1.2.2.1.2) (.slice x.1.2.2.2.1 dn.holds.length x.1.2.2.2.2)).toArray) (fun x=>(dz dn (.slice x.1.1.1 dn.aB.length x.1.1.2) (.slice x.1.2.1.1 dn.aU.aJ.length x.1.2.1.2) (.slice x.1.2.2.1.1 dn.aI.length x.1.2.2.1.2) (.slice x.1.2.2.2.1 dn.holds.length x.1.2.2.2.2)).toArray) (fun x=>(dz dn (.slice x.1.1.1 dn.aB.length x.1.1.2) (.slice x.1.2.1.1 dn.aU.aJ.length x.1.2.1.2) (.slice x.1.2.2.1.1 dn.aI.length x.1.2.2.1.2) (.slice x.1.2.2.2.1 dn.holds.length x.1.2.2.2.2)).toArray)) (by kernel_rfl) (by kernel_rfl) ?_ ?_ ?_
    ·exact⟨(default,w.heap.size),nL.start _ _ ⟨M1.O.wr.lt,M1.O.wr.no⟩⟩
    ·rintro x s' a' w' i dM dC ha hC hi;obtain⟨aN,oi,fP,aC⟩:=mem_ready.1 hi;have ev:=Je NK ha;have hlt:=u6 aN;rcases i with _|_|_|_|_|_|_|_|_|_|_|_|_|i
     rotate_left 13
     ·simp at fP
     all_goals
      have dV:=fP;simp at fP;subst fP;simp[Region.binds]at aC;try have hl:=tO 6 11 dC (by decide+kernel) aN
      try have cu:=hC.off hl
      try have b0:=bK cu b0
      try have b1:=bK cu b1
      try have b2:=bK cu b2
      try have b3:=bK cu b3
      try have b4:=bK cu b4
      try have b5:=bK cu b5
      try have b6:=bK cu b6
      try have b7:=bK cu b7
      try have b8:=bK cu b8
      try have c1:=bK cu c1
      try have c2:=bK cu c2
      try have c3:=bK cu c3
      try have c4:=bK cu c4
      try have c5:=bK cu c5
      refine wpOp_step dV (fun K' hK=> ?_);rw[if_pos (by rfl)]
     rotate_left 3
     ·unfold Oper.wp;simp[go_sem,ev,ik,aC,Oper.upon,CR];exact hK _ _ ⟨x,mF NK ha rfl aN,hC.pure (by decide)⟩
     rotate_left 2
     ·unfold Oper.wp;simp[go_sem,ev,ik,aC,Oper.upon];refine(Tz.O w' (M1.O.at_.ok.below (Qn _) cu)).mono ?_;rintro r4 w4 ⟨v5,v6,v7,v8,J7,rfl,aR,wN,iP,nM⟩;obtain⟨a5,k5,rfl,_,_,_⟩:=id nM.aB;obtain⟨a6,k6,rfl,_,_,_⟩:=id nM.aJ;obtain⟨a7,k7,rfl,_,_,_⟩:=id nM.aI;obtain⟨a8,k8,rfl,_,_,_⟩:=id nM.holds;have ha:=ha.trans (uq (L:=PE s.d dn (.slice ae s.d.aB.length ce) (.slice ak s.d.aU.aJ.length ck) (.slice at' s.d.aI.length ct) (.slice ah s.d.holds.length ch) b off rs.length Bl k r.c (.slice oa r.c.aj.length ca) rn x) (M:=PE s.d dn (.slice ae s.d.aB.length ce) (.slice ak s.d.aU.aJ.length ck) (.slice at' s.d.aI.length ct) (.slice ah s.d.holds.length ch) b off rs.length Bl k r.c (.slice oa r.c.aj.length ca) rn (((a5,k5),(a6,k6),(a7,k7),(a8,k8)),x.2)) [6,7,8] rfl (fun j bn=>by
       rcases j with _|_|_|_|_|_|_|_|_|_|_|_|_|j<;>first|rfl|(exact absurd (by decide) bn)|simp) (List.forall_mem_cons.2 ⟨jZ aN,List.forall_mem_cons.2 ⟨tO 6 7 dC (by kernel_rfl) aN,List.forall_mem_cons.2 ⟨tO 6 8 dC (by kernel_rfl) aN,List.forall_mem_nil _⟩⟩⟩))
      exact hK _ _ ⟨(((a5,k5),(a6,k6),(a7,k7),(a8,k8)),x.2),mF NK ha rfl aN,hC.step hl (cu.trans (aR.mono cu.size)) (by decide) (fun h=>⟨Nat.lt_of_lt_of_le h.1 aR.size,h.2⟩) (fun _ _=>⟨J7,fun b hb=>wN b (Nat.lt_of_lt_of_le hb cu.size),iP,nM,(wN _ (hC.inv hl).1).trans (hC.inv hl).2⟩) (fun _ _=>trivial) (fun h _=>h.elim (fun e=>absurd e (by decide)) (fun⟨_,_,q⟩=>⟨(aR.block _ (Qg q.1)).trans q.1,q.2⟩)) (fun _ _=>trivial) hlt⟩
     rotate_left 3
     ·unfold Oper.wp;simp[go_sem,ev,ik,aC,Oper.upon,b0,b1,b2,b3,b4,b5,b6,b7,b8,c1,c2,c3,c4,c5,CR];have ha:=ha.trans (uq (L:=PE s.d dn (.slice ae s.d.aB.length ce) (.slice ak s.d.aU.aJ.length ck) (.slice at' s.d.aI.length ct) (.slice ah s.d.holds.length ch) b off rs.length Bl k r.c (.slice oa r.c.aj.length ca) rn x) (M:=PE s.d dn (.slice ae s.d.aB.length ce) (.slice ak s.d.aU.aJ.length ck) (.slice at' s.d.aI.length ct) (.slice ah s.d.holds.length ch) b off rs.length Bl k r.c (.slice oa r.c.aj.length ca) rn (x.1,w'.heap.size)) [10] rfl (fun j bn=>by
       rcases j with _|_|_|_|_|_|_|_|_|_|_|_|_|j<;>first|rfl|(exact absurd (by decide) bn)|simp) (List.forall_mem_cons.2 ⟨jZ aN,List.forall_mem_nil _⟩))
      exact hK _ _ ⟨(x.1,w'.heap.size),mF NK ha rfl aN,hC.step hl (cu.trans (((Qb _ _).alloc (Qn _) _).mono cu.size)) (by decide) (fun _=>⟨by simp,M1.O.at_.ok.fresh cu.size⟩) (fun h _=>h.elim (fun e=>absurd e (by decide)) (fun⟨_,_,q⟩=>(q.elim fun J9 h9=>⟨J9,h9.1,h9.2.1.below (Qn _) ((Qb w'.heap.size w').alloc (Qn _) (.cells bE 43)),h9.2.2.1,h9.2.1.fresh (Qn _)⟩))) (fun _ _=>trivial) (fun _ _=>⟨heap_alloc_new _ _,cu.size⟩) (fun _ _=>trivial) hlt⟩
     ·have aS:w'.heap[x.2]?=some (.cells _ 43 (0,0)):=(hC.f3 (by first|simpa using aC|simp[aC]) (mI (by simp[dM])) hl).1;refine wE 43 _ _ rfl (x.2) 0 (dz dn (.slice x.1.1.1 dn.aB.length x.1.1.2) (.slice x.1.2.1.1 dn.aU.aJ.length x.1.2.1.2) (.slice x.1.2.2.1.1 dn.aI.length x.1.2.2.1.2) (.slice x.1.2.2.2.1 dn.holds.length x.1.2.2.2.2)) (gU dn (.slice x.1.1.1 dn.aB.length x.1.1.2) (.slice x.1.2.1.1 dn.aU.aJ.length x.1.2.1.2) (.slice x.1.2.2.1.1 dn.aI.length x.1.2.2.1.2) (.slice x.1.2.2.2.1 dn.holds.length x.1.2.2.2.2)) (by simp[Act.eval,ev,ik,aC]) (by simp[Act.eval,ev,ik,aC]) (by rfl) _ _ aS (by simp) (by kernel_rfl) (by simp[Value.oneCell']) ?_;exact hK _ _ ⟨x,eO (d:=none) (v:=undef) NK ha rfl aN,hC.pQ aN ⟨hC.f1 (by first|simpa using aC|simp[aC]) (mI (by simp[dM])) hl,hC.f3 (by first|simpa using aC|simp[aC]) (mI (by simp[dM])) hl⟩ (mI (by simp[dM])) (mI (by simp[dM])) (by decide) aS (by rfl)⟩
     all_goals
      unfold Oper.wp;first
      |(simp[go_sem,ev,ik,aC,Oper.upon,b0,b1,b2,b3,b4,b5,b6,b7,b8,c1,c2,c3,c4,c5,CR];exact hK _ _ ⟨x,mF NK ha rfl aN,hC.pure (by decide)⟩)
      |(simp[go_sem,ev,ik,Oper.upon,b0,b1,b2,b3,b4,b5,b6,b7,b8,c1,c2,c3,c4,c5,CR];exact hK _ _ ⟨x,mF NK ha rfl aN,hC.pure (by decide)⟩)
    ·rintro x s' a' w6 gz ha hC;obtain⟨wb,gV,kr,gI,aS⟩:=hC.on (gz 11 (by decide));simp only[ite_self]at aS;rw[xL _ _ _ _ (fun i hi=>by rw[Nat.zero_add];exact gz i (by simpa using hi))]at ha;subst ha;simp only[eH,Act.put,List.setIfInBounds_toArray,List.set_cons_succ,List.set_cons_zero];obtain⟨⟨⟨V3,V4⟩,⟨SN,V5⟩,⟨V6,V7⟩,⟨V8,V9⟩⟩,bx6⟩:=x;dsimp only at kr gI aS ⊢;obtain⟨⟨J9,CB,tY,jX,Tu⟩,jw,rW⟩:=kr;have aaY:=M1.O.hB';have M6:=Qh ((M1.O.grow gV CB tY).FW gI (by omega) jw Tu (M1.O.es.nP rW));have HR9:=Qh (Uh.O.mono (CB.keep M1.O.at_.ok (Qn _)));have HD9:=Qh jX;clear gV gI CB tY jX b0 b1 b2 b3 b4 b5 b6 b7 b8 c1 c2 c3 c4 c5 Tz NG hC gz jw rW Tu M1 Uh Tp;by_cases h0:rn=0
     ·subst h0;have bu:=Qh (Xxf NH.O KU.O);obtain⟨b0,b1,b2,b3,b4,b5,b6,b7,b8⟩:=drB_row (d:=dn) aS;have PT:=M6.O.wr.row
      go_upto_region 11 with(
       refine kC rfl rfl 43 _ _ rfl w.heap.size 0 (dz dn (.slice V3 dn.aB.length V4) (.slice SN dn.aU.aJ.length V5) (.slice V6 dn.aI.length V7) (.slice V8 dn.holds.length V9)) (gU dn (.slice V3 dn.aB.length V4) (.slice SN dn.aU.aJ.length V5) (.slice V6 dn.aI.length V7) (.slice V8 dn.holds.length V9)) (by simp[Act.eval]) (by simp[Act.eval]) (by rfl) _ 43 PT (by simp) (by kernel_rfl) (by simp[Value.oneCell']) (dz dn (.slice V3 dn.aB.length V4) (.slice SN dn.aU.aJ.length V5) (.slice V6 dn.aI.length V7) (.slice V8 dn.holds.length V9)).toArray (by rfl) ?_;intro w7 gL nM)
      have M7:=Qh (M6.O.box gL nM HD9.O HR9.O);clear gL nM aS PT b0 b1 b2 b3 b4 b5 b6 b7 b8 M6
      go_upto_region 4 with(
       at_builtin
       refine KR PD rfl _ _ rfl rfl (M7.O.es.alloc (.cells #[.int .i64 (0)] 29)) (vx:= .slice (some ⟨w7.heap.size,0,none⟩) 1 1) (by simp[Act.eval]) (iV.jR (T:=lT) (x:=0) (cs:=[.int .i64 (0)]) rfl (fun j u hu=>by rw[World.cell?_alloc_new];simpa using hu)) (by rw[qp.O];simp;omega) (by rw[qp.O];simp;omega) (by have:=M7.O.hB';simp;omega) ?_;intro v9 w9 j5 bP jf)
      have M9:=Qh ((M7.O.past (.cells #[.int .i64 (0)] 29)).note bP j5 jf);clear j5 bP jf;go_wp2_with fail
      go_roundw;case rel=>exact⟨k+1,J9,_,_,_,_,by omega,by go_num,by rw[vY.O,bu.O];exact M9.O,wo.O⟩
      case measure=>simp[intOf];omega
     ·have bu:=Qh (Xxg NH.O KU.O h0);have i1:(rn==0)=false:=by simpa using h0
      clear h0 aS
      go_upto_region 4 with(
       at_builtin
       refine KR PD rfl _ _ rfl rfl (M6.O.es.alloc (.cells #[.int .i64 (rn)] 29)) (vx:= .slice (some ⟨w6.heap.size,0,none⟩) 1 1) (by simp[Act.eval]) (iV.jR (T:=lT) (x:=rn) (cs:=[.int .i64 (rn)]) rfl (fun j u hu=>by rw[World.cell?_alloc_new];simpa using hu)) (by rw[qp.O];simp;omega) (by rw[qp.O];simp;omega) (by have:=M6.O.hB';simp;omega) ?_;intro v9 w9 j5 bP jf)
      have M9:=Qh ((M6.O.past (.cells #[.int .i64 (rn)] 29)).note bP j5 jf);clear j5 bP jf;go_wp2_with fail
      go_roundw;case rel=>exact⟨k+1,J9,_,_,_,_,by omega,by go_num,by rw[vY.O,bu.O];exact M9.O,wo.O⟩
      case measure=>simp[intOf];omega
   ·have bu:=Qh (Xxh NH.O h0);have i1:(en==0)=false:=by simpa using h0
    clear h0 NL NG
    go_upto_region 4 with(
     at_builtin
     refine KR PD rfl _ _ rfl rfl (M1.O.es.alloc (.cells #[.int .i64 (en)] 29)) (vx:= .slice (some ⟨w1.heap.size,0,none⟩) 1 1) (by simp[Act.eval]) (iV.jR (T:=lT) (x:=en) (cs:=[.int .i64 (en)]) rfl (fun j u hu=>by rw[World.cell?_alloc_new];simpa using hu)) (by rw[qp.O];simp;omega) (by rw[qp.O];simp;omega) (by have:=M1.O.hB';simp;omega) ?_;intro v9 w9 j5 bP jf)
    have M9:=Qh ((M1.O.past (.cells #[.int .i64 (en)] 29)).note bP j5 jf);clear j5 bP jf;go_wp2_with fail
    go_roundw;case rel=>exact⟨k+1,J1,_,_,_,_,by omega,by go_num,by rw[vY.O,bu.O];exact M9.O,wo.O⟩
    case measure=>simp[intOf];omega
  ·have nY:k=rs.length:=by omega
   subst nY;have lJ:=Qh (show mZ ⟨d,l,[]⟩ rs rs.length=vB d l rs by unfold mZ vB;rw[List.take_length]);rw[lJ.O]at M ⊢;obtain⟨s,hs⟩:∃s,vB d l rs=s:=⟨_,rfl⟩;have Hs9:=Qh hs;rw[hs]at M ⊢;clear hs lJ FX qp Jy;obtain⟨b0,b1,b2,b3,b4,b5,b6,b7,b8⟩:=drB_row (d:=s.d) M.O.wr.row;have NE:=M.O.zr.row
   go_wp2_with (refine kC rfl rfl 43 _ _ rfl (w.heap.size+1) 0 (dz s.d (.slice ae s.d.aB.length ce) (.slice ak s.d.aU.aJ.length ck) (.slice at' s.d.aI.length ct) (.slice ah s.d.holds.length ch)) (gU s.d (.slice ae s.d.aB.length ce) (.slice ak s.d.aU.aJ.length ck) (.slice at' s.d.aI.length ct) (.slice ah s.d.holds.length ch)) (by simp[Act.eval]) (by simp[Act.eval]) (by rfl) bE 43 NE (by simp) (by kernel_rfl) (by simp[Value.oneCell']) (dz s.d (.slice ae s.d.aB.length ce) (.slice ak s.d.aU.aJ.length ck) (.slice at' s.d.aI.length ct) (.slice ah s.d.holds.length ch)).toArray (by rfl) ?_
                intro w9 bP jX)
   refine bodyPost_ret (v:= .tuple #[gU s.d (.slice ae s.d.aB.length ce) (.slice ak s.d.aU.aJ.length ck) (.slice at' s.d.aI.length ct) (.slice ah s.d.holds.length ch),.slice pF s.l.length cap2,u9]) ?_ rfl ?_
   ·rw[Gw rfl];simp[asAddr,run_loadVar_row w9 (w.heap.size+1) 43 43 _ (0,0) _ jX Tryz.underlying43 rfl si.O]
   ·rw[Hs9.O];exact M.O.ret bP
