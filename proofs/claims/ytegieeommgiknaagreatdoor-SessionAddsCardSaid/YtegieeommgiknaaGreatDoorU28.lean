/- Lemmas for the claim's theorem;conditions: as each says. -/
import Derived.Test.YtegieeommgiknaaGreatDoorU27
set_option maxHeartbeats 0
set_option maxRecDepth 100000
set_option linter.all false
namespace Go.Proofs.YtegieeommgiknaaGreatDoor
open Go.RowKit
variable{n:Nat}{ao:Option Addr}{le cp:Nat}
theorem Xrq:eZ Tryz.prog 51 60 nk 32:=eZ.of Tryz.underlying51 Xd9 rfl (by decide) rfl
theorem Rk{α:Type}{T:Ty α}{E:TypeId}{I:IH}(W:World):aQ T E I (W.alloc (.cells #[] E)) W.heap.size (.slice (some ⟨W.heap.size,0,none⟩) 0 0) []:=
 ⟨[],World.ownsRow_made W #[] 0 (Qn _) (Nat.zero_le _) (e:=E) (size:=T.size) (by simp),dF.nil _ _⟩
def RcM(I:IH)(w:World)(d:fU)(ve vk vt vh:Value)(c:ic)(va:Value)(n6 n7:Nat)(wx:World):Prop:=
 ∃e q a1 k1 a2 k2 a3 k3 J,fQ d.bf c=(e,q)∧Gm I w d ve vk vt vh c va e (.slice a1 e.ag.length k1) (.slice a2 e.aC.length k2) q (.slice a3 q.aJ.length k3) n6 n7 J wx
abbrev NT(n:Nat)(av:Int)(aj:af)(ao:Option Addr)(le cp:Nat)(target:af)(x:Nat×(Option Addr×Nat)×Nat):List (Option Tmp×Value):=
 [(some 16,.pointer (some ⟨n+1,0,none⟩)),(some 17,.int .i64 av),(some 18,.pointer (some ⟨n+1,1,none⟩)),(some 19,S aj),(some 20,.slice (some ⟨x.1,0,none⟩) 0 0),(some 21,.pointer (some ⟨n+1,2,none⟩)),(some 22,.slice ao le cp),(some 23,.slice x.2.1.1 le x.2.1.2),(some 24,.pointer (some ⟨n+1,3,none⟩)),(some 25,S target),(some 26,.agg #[.int .i64 av,S aj,.slice x.2.1.1 le x.2.1.2,S target,.int .i64 0,.string ⟨#[]⟩,.slice none 0 0]),(some 6,.pointer (some ⟨x.2.2,0,none⟩)),(none,undef)]
theorem Qy{av:Int}{aj:af}{target:af}{x:Nat×(Option Addr×Nat)×Nat}:bC (NT n av aj ao le cp target x):=by
 unfold bC;simp
abbrev Ke(n le yx cp:Nat)(ao:Option Addr)(e:bD)(xa xx:Value)(x:Nat×(Option Addr×Nat)×Nat×(Option Addr×Nat)):List (Option Tmp×Value):=
 [(some 129,.slice (some ⟨x.1,0,none⟩) 0 0),(some 130,.pointer (some ⟨n,3,none⟩)),(some 131,.slice ao le cp),(some 132,.slice x.2.1.1 le x.2.1.2),(some 133,iF e xa xx),(some 134,.slice (some ⟨x.2.2.1,0,none⟩) 1 1),(some 135,.slice x.2.2.2.1 yx x.2.2.2.2),(some 136,.pointer (some ⟨n,3,none⟩)),(none,undef)]
theorem NU{yx:Nat}{e:bD}{xa xx:Value}{x:Nat×(Option Addr×Nat)×Nat×(Option Addr×Nat)}:bC (Ke n le yx cp ao e xa xx x):=by
 unfold bC;simp
theorem Xr8(I:IH)  (d:fU) (hd:lU n d) (hn:n≤150) (ve vk vt vh:Value) (hr:qy I d ve vk vt vh) (c:ic) (hc:c.Wf) (yz:c.ag.length≤1000000) (va:Value) (gK:aZ nk I va c.ag) (w:World) (hw:Ok I w):
 Calls Tryz.prog 15 #[gP d ve vk vt vh,Bj c va] w (uq I w (gQ d c).1 (gQ d c).2):=by
 have Gn:=hd.bf (by omega)
 have bO:=hc.aI
 obtain ⟨sm,vL⟩:∃sm,dW c.aI=sm:=⟨_,rfl⟩
 have yt:=Qh (fun (b:Nat) (W:World) (hc:W.cell? ⟨b,0,none⟩=some (S c.aI))=>(by
  have:=Y1 b 0 1 c.aI (by omega) W hc
  rwa [vL] at this:Calls Tryz.prog 39 #[.slice (some ⟨b,0,none⟩) 1 1] W fun e w'=>e= .returned (S sm)∧Below W.heap.size W w'))
 obtain ⟨q2,xs,pn,Cq⟩:∃q2 xs pn,jA d.bf c.aI=(q2,xs,pn):=⟨_,_,_,rfl⟩
 have WW:pn=0:=by have:=(Y4 Gn bO).2;rw [Cq] at this;exact this
 subst WW
 have xI:=Qh (fun J (hk:∀b c,I b=some c→J b=some c) w hw=>(by
  have:=ZX 4294901760 10000000 (by decide) (by decide) J d.bf vk (hr.aJ.mono hk) ⟨by have:=Gn.s0;omega,by have:=Gn.s1;omega,Gn.str,by have:=hd.aJ;omega,fun k hk=>(Gn.cx k hk).x⟩ c.aI (by omega) w hw
  rwa [Cq] at this:Calls Tryz.prog 40 #[fD d.bf vk,S c.aI] w (CF J w (q2,xs,0))))
 have Hn1:=Qh (fun (h:c.av=1)=>show fQ d.bf c=(⟨c.av,c.aj,c.ag,c.target,(c.aI.length:Nat),sm,xs⟩,q2) by rw [fQ,if_pos h,Cq,vL])
 have BS:=Qh (fun (h:¬c.av=1)=>show fQ d.bf c=(⟨c.av,c.aj,c.ag,c.target,0,[],[]⟩,d.bf) by rw [fQ,if_neg h])
 have Zk:=Qh (Y7 Gn hc)
 have Hfl:=Qh (Xji d.bf c)
 have ww:=Qh (Y5 Gn bO)
 have qp:=hc.aj
 have zu:=hc.target
 have jO:=Qh hd.st
 have uU:=hd.aB
 have Hr:=Qh hr
 have Uu:=Qh gK
 have oM:=Qh (show (Tryz.prog.info? 46).map (·.size)=some 9 by kernel_rfl)
 obtain ⟨eo,ec,rfl,_,_,_⟩:=id hr.aB
 obtain ⟨ko,kc,rfl,_,_,_⟩:=id hr.aJ
 obtain ⟨tt,tc,rfl,_,_,_⟩:=id hr.aF
 obtain ⟨ho,ii,rfl,_,_,_⟩:=id hr.holds
 obtain ⟨ao,ac,rfl,_,_,_⟩:=id gK
 obtain ⟨W3,tY⟩:∃W3,(((w.alloc (.cells #[.int .i64 d.num,.int .i64 d.aA,S d.bE,.slice eo d.aB.length ec,.slice ko d.bf.aJ.length kc,.int .i64 d.bf.bg,S d.bf.str,.slice tt d.aF.length tc,.slice ho d.holds.length ii] 46)).alloc (.cells #[.int .i64 c.av,S c.aj,.slice ao c.ag.length ac,S c.target,S c.aI] 53)).alloc (.cells aY 46))=W3:=⟨_,rfl⟩
 obtain ⟨oD,rX,pK,mF⟩:=MC w _ _ _ _ _ _ W3 tY
 have A3:=Qh (show lJ I w I W3 by rw [←tY];exact (((lJ.start hw).past _).past _).past _)
 have SA:=Qh rX
 have V8:=Qh pK
 have GC:=Qh mF
 obtain ⟨g0,g1,g2,g3,g4⟩:=chgB_row pK
 have Jj:=Qh (fun b (h:w.heap.size≤b)=>hw.fresh h)
 clear hr gK rX pK mF Gn Cq vL hc
 go_enter Tryz.func15,Tryz.ntmps15
 go_wp2_with fail
 clear tY
 refine qR (X:=Nat × (Option Addr × Nat) × Nat) (NT w.heap.size c.av c.aj ao c.ag.length ac c.target) (jX W3 4 7 7 235 11 236 227 237 (fun _ _=>True) (fun x w=>aQ nk 60 I w W3.heap.size (.slice (some ⟨x.1,0,none⟩) 0 0) []) (fun x w=>aQ nk 60 I w W3.heap.size (.slice x.2.1.1 c.ag.length x.2.1.2) c.ag) (fun x w=>w.heap[x.2.2]? =some (.cells cu 63 (0,0))∧W3.heap.size≤x.2.2) (fun _ _=>True) (fun x w=>aQ nk 60 I w W3.heap.size (.slice x.2.1.1 c.ag.length x.2.1.2) c.ag∧(w.heap[x.2.2]? =some (.cells cu 63 (0,0))∧W3.heap.size≤x.2.2)) (fun x=>x.2.2) 63 12 214 215 (fun x=> #[.int .i64 c.av,S c.aj,.slice x.2.1.1 c.ag.length x.2.1.2,S c.target,.int .i64 0,.string ⟨#[]⟩,.slice none 0 0]) (fun x=> #[.int .i64 c.av,S c.aj,.slice x.2.1.1 c.ag.length x.2.1.2,S c.target,.int .i64 0,.string ⟨#[]⟩,.slice none 0 0]) (fun x=> #[.int .i64 c.av,S c.aj,.slice x.2.1.1 c.ag.length x.2.1.2,S c.target,.int .i64 0,.string ⟨#[]⟩,.slice none 0 0])) (by kernel_rfl) (by kernel_rfl) ?_ ?_ ?_
 ·exact ⟨(0,default,0),jX.start _ _ trivial⟩
 ·rintro x s' a' w' i bS bO ha hC hi
  obtain ⟨aH,oi,dI,au⟩:=mem_ready.1 hi
  have ev:=vV Qy ha
  have hlt:=oO aH
  rcases i with _|_|_|_|_|_|_|_|_|_|_|_|_|i
  rotate_left 13
  ·simp at dI
  all_goals
   have dH:=dI
   simp at dI
   subst dI
   simp [Region.binds] at au
   try have hl:=kz 6 12 bO (by decide +kernel) aH
   try have aT:=hC.off hl
   try have g0:=aV aT g0
   try have g1:=aV aT g1
   try have g2:=aV aT g2
   try have g3:=aV aT g3
   refine wpOp_step dH (fun K' hK=> ?_)
   rw [if_pos (by rfl)]
  rotate_left 4
  ·unfold Oper.wp
   simp [go_sem,ev,dG,au,Oper.upon,g0,g1,g2,g3]
   have ha:=ha.trans (lT (L:=NT w.heap.size c.av c.aj ao c.ag.length ac c.target x) (M:=NT w.heap.size c.av c.aj ao c.ag.length ac c.target (w'.heap.size,x.2)) [4] rfl (fun j bq=>by
    rcases j with _|_|_|_|_|_|_|_|_|_|_|_|_|j<;>first|rfl|(exact absurd (by decide) bq)|simp) (List.forall_mem_cons.2 ⟨gG aH,List.forall_mem_nil _⟩))
   exact hK _ _ ⟨(w'.heap.size,x.2),gD Qy ha rfl aH,hC.step hl (aT.trans (((Qb _ _).alloc (Qn _) _).mono aT.size)) (by decide) (fun _=>trivial) (fun _ _=>(Rk w').lower aT.size) (fun h _=>h.elim (fun e=>absurd e (by decide)) (fun ⟨_,_,q⟩=>q.alloc _)) (fun h _=>h.elim (fun e=>absurd e (by decide)) (fun ⟨_,_,q⟩=>⟨(Below.heap_alloc _ _ _ (Qg q.1)).trans q.1,q.2⟩)) (fun _ _=>trivial) hlt⟩
  rotate_left 2
  ·have h1:=hC.f1 (by first|simpa using au|simp [au]) (gG aH) hl
   refine G8 Xrq _ _ rfl (by simp [Act.eval,ev,dG,au]) h1 (by simp [Act.eval,ev,dG,au]) (jY.vX Uu.O (A3.O.ok.below (Qn _) aT) (by decide)) (by simp only [List.length_nil];omega) (by simp only [List.length_nil];omega) aT.size ?_
   rintro v9 w9 kV bK l7
   rw [List.nil_append] at kV
   obtain ⟨a9,k9,rfl⟩:=wT kV
   have ha:=ha.trans (lT (L:=NT w.heap.size c.av c.aj ao c.ag.length ac c.target x) (M:=NT w.heap.size c.av c.aj ao c.ag.length ac c.target (x.1,(a9,k9),x.2.2)) [7,10] rfl (fun j bq=>by
    rcases j with _|_|_|_|_|_|_|_|_|_|_|_|_|j<;>first|rfl|(exact absurd (by decide) bq)|simp) (List.forall_mem_cons.2 ⟨gG aH,List.forall_mem_cons.2 ⟨kz 6 10 bO (by kernel_rfl) aH,List.forall_mem_nil _⟩⟩))
   exact hK _ _ ⟨(x.1,(a9,k9),x.2.2),gD Qy ha rfl aH,hC.step hl (aT.grown bK aT.size (fun k e=>(xk h1 e).1)) (by decide) (fun _=>trivial) (fun _ h=>absurd rfl h) (fun _ _=>kV) (fun h _=>h.elim (fun e=>absurd e (by decide)) (fun ⟨_,_,q⟩=>⟨(bK.block _ (Qg q.1) (fun e=>BR h1 q.1 (by decide) e.symm)).trans q.1,q.2⟩)) (fun _ _=>trivial) hlt⟩
  rotate_left 3
  ·unfold Oper.wp
   simp [go_sem,ev,dG,au,Oper.upon,g0,g1,g2,g3]
   have ha:=ha.trans (lT (L:=NT w.heap.size c.av c.aj ao c.ag.length ac c.target x) (M:=NT w.heap.size c.av c.aj ao c.ag.length ac c.target (x.1,x.2.1,w'.heap.size)) [11] rfl (fun j bq=>by
    rcases j with _|_|_|_|_|_|_|_|_|_|_|_|_|j<;>first|rfl|(exact absurd (by decide) bq)|simp) (List.forall_mem_cons.2 ⟨gG aH,List.forall_mem_nil _⟩))
   exact hK _ _ ⟨(x.1,x.2.1,w'.heap.size),gD Qy ha rfl aH,hC.step hl (aT.trans (((Qb _ _).alloc (Qn _) _).mono aT.size)) (by decide) (fun _=>trivial) (fun h _=>h.elim (fun e=>absurd e (by decide)) (fun ⟨_,_,q⟩=>q.alloc _)) (fun h _=>h.elim (fun e=>absurd e (by decide)) (fun ⟨_,_,q⟩=>q.alloc _)) (fun _ _=>⟨heap_alloc_new _ _,aT.size⟩) (fun _ _=>trivial) hlt⟩
  ·have aK:w'.heap[x.2.2]? =some (.cells _ 63 (0,0)):=(hC.f3 (by first|simpa using au|simp [au]) (gX (by simp [bS])) hl).1
   refine oK 63 _ _ rfl (x.2.2) 0 [.int .i64 c.av,S c.aj,.slice x.2.1.1 c.ag.length x.2.1.2,S c.target,.int .i64 0,.string ⟨#[]⟩,.slice none 0 0] (.agg #[.int .i64 c.av,S c.aj,.slice x.2.1.1 c.ag.length x.2.1.2,S c.target,.int .i64 0,.string ⟨#[]⟩,.slice none 0 0]) (by simp [Act.eval,ev,dG,au]) (by simp [Act.eval,ev,dG,au]) (by rfl) _ _ aK (by simp) (by kernel_rfl) (by simp [Value.oneCell']) ?_
   exact hK _ _ ⟨x,dS (d:=none) (v:=undef) Qy ha rfl aH,hC.jP aH ⟨hC.f2 (by first|simpa using au|simp [au]) (gX (by simp [bS])) hl,hC.f3 (by first|simpa using au|simp [au]) (gX (by simp [bS])) hl⟩ (gX (by simp [bS])) (gX (by simp [bS])) (by decide) aK (by rfl)⟩
  all_goals
   unfold Oper.wp
   first
   |(simp [go_sem,ev,dG,au,Oper.upon,g0,g1,g2,g3];exact hK _ _ ⟨x,gD Qy ha rfl aH,hC.pure (by decide)⟩)
   |(simp [go_sem,ev,dG,Oper.upon,g0,g1,g2,g3];exact hK _ _ ⟨x,gD Qy ha rfl aH,hC.pure (by decide)⟩)
 ·rintro x s' a' w4 eu ha hC
  obtain ⟨wb,eG,ed,dR,aK⟩:=hC.on (eu 12 (by decide))
  simp only [ite_self] at aK
  rw [qz _ _ _ _ (fun i hi=>by rw [Nat.zero_add];exact eu i (by simpa using hi))] at ha
  subst ha
  simp only [dE,Act.put,List.setIfInBounds_toArray,List.set_cons_succ,List.set_cons_zero]
  obtain ⟨xe,⟨mg,k7⟩,m⟩:=x
  dsimp only at ed dR aK ⊢
  obtain ⟨yN,yM⟩:=ed
  have bq:=BR yN yM.1 (by decide)
  have F7:=yN.kept dR (.inr bq)
  have hm:w.heap.size+3≤m:=by have:=yM.2;omega
  have yc:=(Qg aK)
  have dz:Ok I w4:=(A3.O.ok.below (Qn _) eG).grown dR (fun g e=>by injection e with e;exact Jj.O _ (by omega))
  have aS:Below w.heap.size w w4:=(A3.O.eU.trans (eG.mono A3.O.size)).grown dR (by have:=eG.size;omega) (fun k e=>by injection e with e;omega)
  obtain ⟨J,x9,q8,Bh,NG⟩:=F7.freeze dz (fun b hb=>Jj.O _ (by omega))
  have M1:=Qh (show ∀b,b<w.heap.size+3→w4.heap[b]? =W3.heap[b]? from fun b hb=>(dR.block _ (by have:=eG.size;omega) (fun e=>by injection e with e;omega)).trans (eG.block _ (by omega)))
  have Jc:J m=none:=by rw [NG m bq];exact Jj.O _ (by omega)
  have HJ:=Qh (show lJ I w J w4∧Ext w.heap.size I J∧J (w.heap.size+2)=none∧J w.heap.size=none from ⟨⟨q8,x9.keep hw (by omega),aS⟩,x9.mono (by omega),(x9 _ (by omega)).trans (Jj.O _ (by omega)),(x9 _ (by omega)).trans (Jj.O _ (by omega))⟩)
  have HrJ:=Qh Bh
  have EH:=Qh aK
  obtain ⟨b0,b1,b2,b3,b4,b5,b6,b7,b8⟩:=drB_row (d:=d) ((M1.O _ (by omega)).trans SA.O)
  clear hC eu dR eG yN yM bq F7 dz aS x9 q8 Bh NG aK g0 g1 g2 g3 g4
  go_upto_region 3 with (refine fO rfl rfl 43 _ _ rfl w4.heap.size 0 [.slice ko d.bf.aJ.length kc,.int .i64 d.bf.bg,S d.bf.str] (fD d.bf (.slice ko d.bf.aJ.length kc)) (by simp [Act.eval]) (by simp [Act.eval]) (by rfl) #[.slice none 0 0,.int .i64 0,.string ⟨#[]⟩] 43 (heap_alloc_new _ _) (by simp) (by kernel_rfl) (by simp [Value.oneCell']) #[.slice ko d.bf.aJ.length kc,.int .i64 d.bf.bg,S d.bf.str] (by rfl) ?_
                         intro w5 hg5 oN)
  have df:Below w4.heap.size w4 w5:=((Qb _ _).alloc (Qn _) _).grown hg5 (by simp) (fun k e=>by injection e with e;omega)
  have ZJ:=(Qg oN)
  have M:=Qh (show Gm I w d (.slice eo d.aB.length ec) (.slice ko d.bf.aJ.length kc) (.slice tt d.aF.length tc) (.slice ho d.holds.length ii) c (.slice ao c.ag.length ac) ⟨c.av,c.aj,c.ag,c.target,0,[],[]⟩ (.slice mg c.ag.length k7) (.slice none 0 0) d.bf (.slice ko d.bf.aJ.length kc) m w4.heap.size J w5 from by
   have hz:∀b,b<w.heap.size+3→w5.heap[b]? =W3.heap[b]? :=fun b hb=>(df.block _ (by omega)).trans (M1.O b hb)
   exact ⟨HJ.O.1.quiet df,HJ.O.2.1,HJ.O.2.2.1,HJ.O.2.2.2,(hz _ (by omega)).trans SA.O,chgB_row ((hz _ (by omega)).trans V8.O),(hz _ (by omega)).trans GC.O,entB_row ((df.block _ yc).trans EH.O),stoB_row oN,HrJ.O,aZ.nil _ _,Hr.O.aJ.mono HJ.O.1.keep⟩)
  have PM:=Qh ((df.block _ yc).trans EH.O)
  have yw:J w4.heap.size=none:=HJ.O.1.ok.fresh (Qn _)
  clear hg5 df b0 b1 b2 b3 b4 b5 b6 b7 b8 M1 EH HrJ SA V8 GC
  obtain ⟨g0,g1,g2,g3,g4⟩:=M.O.cg
  clear HJ
  go_upto_if 31 with fail
  go_cut [] (fun wx=>RcM I w d (.slice eo d.aB.length ec) (.slice ko d.bf.aJ.length kc) (.slice tt d.aF.length tc) (.slice ho d.holds.length ii) c (.slice ao c.ag.length ac) m w4.heap.size wx)
  case first=>
   by_cases hk:c.av=1
   case neg=>
    have f1:(c.av==1)=false:=by simpa using hk
    have Hn:=Qh (BS.O hk)
    clear hk
    go_wp2_with fail
    go_meet
    exact ⟨_,_,mg,k7,none,0,ko,kc,J,Hn.O,M.O⟩
   case pos=>
    have f1:(c.av==1)=true:=by simpa using hk
    have Hn:=Qh (Hn1.O hk)
    have dle:decide ((c.aI.length:Int)≤65536)=true:=Qt (by omega)
    clear hk
    obtain ⟨R2,hR2⟩:∃R2,R2=(#[.int .i64 c.av,S c.aj,.slice mg c.ag.length k7,S c.target,.int .i64 (c.aI.length:Int),S sm,.slice none 0 0]:Array Value):=⟨_,rfl⟩
    go_wp2_with (refine fO rfl rfl 3 _ _ rfl m 4 [.int .i64 (c.aI.length:Int)] (.int .i64 (c.aI.length:Int)) (by simp [Act.eval]) (by simp [Act.eval]) (by rfl) _ 63 PM.O (by simp) (by kernel_rfl) (by simp [Value.oneCell']) #[.int .i64 c.av,S c.aj,.slice mg c.ag.length k7,S c.target,.int .i64 (c.aI.length:Int),.string ⟨#[]⟩,.slice none 0 0] (by rfl) ?_
                 intro w6 GY mP
                 have vK:=GY.size
                 have g4:w6.cell? ⟨w.heap.size+1,4,none⟩=some (S c.aI):=fC GY (by simp;omega) g4)
    refine (yt.O w6.heap.size _ (by simp)).mono ?_
    rintro e7 w7 ⟨rfl,ji⟩
    have xV:=ji.size
    rw [World.size_alloc] at xV
    have aeq:=(Qg mP)
    have gN:=(ji.block m (by simp;omega)).trans ((Below.heap_alloc _ _ _ aeq).trans mP)
    have Zl:∀b,b<w5.heap.size→b≠m→w7.heap[b]? =w5.heap[b]? :=fun b hb hn=>(ji.block b (by simp;omega)).trans ((Below.heap_alloc _ _ _ (by omega)).trans (GY.block b hb (fun h=>by injection h with h;omega)))
    have hQ7:=(Zl w4.heap.size (by omega) (by omega)).trans oN
    have A7:=Qh (show lJ I w J w7 from ((show lJ I w J w6 from ⟨M.O.at_.ok.grown GY (fun g h=>by injection h with h;subst h;exact Jc),M.O.at_.keep,M.O.at_.eU.grown GY M.O.at_.size (fun k h=>by injection h with h;omega)⟩).past _).quiet ji)
    obtain ⟨b0,b1,b2,b3,b4,b5,b6,b7,b8⟩:=drB_row (d:=d) ((Zl _ (by omega) (by omega)).trans M.O.dr)
    have g4:w7.cell? ⟨w.heap.size+1,4,none⟩=some (S c.aI):=(World.cell?_of_block (Zl (w.heap.size+1) (by omega) (by omega))).trans M.O.cg.c4
    go_wp2_with (refine fO rfl rfl 9 _ _ rfl m 5 [S sm] (S sm) (by simp [Act.eval]) (by simp [Act.eval]) (by rfl) _ 63 gN (by simp) (by kernel_rfl) (by simp [Value.oneCell']) R2 (by rw [hR2];rfl) ?_
                 intro w8 qO F8
                 have b4:=fC qO (by simp;omega) b4
                 have b5:=fC qO (by simp;omega) b5
                 have b6:=fC qO (by simp;omega) b6
                 have g4:=fC qO (by simp;omega) g4)
    have GZ:=qO.size
    have A8:=Qh (show lJ I w J w8 from ⟨A7.O.ok.grown qO (fun g h=>by injection h with h;subst h;exact Jc),A7.O.keep,A7.O.eU.grown qO A7.O.size (fun k h=>by injection h with h;omega)⟩)
    have Gg:∀b,b<w5.heap.size→b≠m→w8.heap[b]? =w5.heap[b]? :=fun b hb hn=>(qO.block b (by omega) (fun h=>by injection h with h;omega)).trans (Zl b hb hn)
    refine (xI.O J A8.O.keep w8 A8.O.ok).mono ?_
    rintro e9 w9 ⟨Ud,vx9,J9,rfl,iO,jZ,jD,x8,Kz⟩
    obtain ⟨DT,DU,rfl,_,_,_⟩:=id x8
    obtain ⟨Ae,Af,rfl,_,_,_⟩:=id Kz
    have EJ:=iO.size
    have hQ9:=(iO.block w4.heap.size (by omega)).trans ((Gg w4.heap.size (by omega) (by omega)).trans oN)
    have J8:=(iO.block m (by omega)).trans F8
    rw [hR2] at J8
    clear b0 b1 b2 b3 b4 b5 b6 b7 b8 g0 g1 g2 g3 g4 oN gN F8 hQ7 hR2
    go_wp2_with (first
     |(refine fO rfl rfl 43 _ _ rfl w4.heap.size 0 [.slice DT q2.aJ.length DU,.int .i64 q2.bg,S q2.str] (fD q2 (.slice DT q2.aJ.length DU)) (by simp [Act.eval]) (by simp [Act.eval]) (by rfl) _ 43 hQ9 (by simp) (by kernel_rfl) (by simp [Value.oneCell']) #[.slice DT q2.aJ.length DU,.int .i64 q2.bg,S q2.str] (by rfl) ?_
       intro mf nY tH)
     |(refine fO rfl rfl 61 _ _ rfl m 6 [.slice Ae xs.length Af] (.slice Ae xs.length Af) (by simp [Act.eval]) (by simp [Act.eval]) (by rfl) _ 63 ((nY.block _ (by omega) (fun h=>by injection h with h;omega)).trans J8) (by simp) (by kernel_rfl) (by simp [Value.oneCell']) #[.int .i64 c.av,S c.aj,.slice mg c.ag.length k7,S c.target,.int .i64 (c.aI.length:Int),S sm,.slice Ae xs.length Af] (by rfl) ?_
       intro sM nE wG))
    go_meet
    have CU:=nY.size
    have Zm:=jZ.keep A8.O.ok (Qn _)
    have hz:∀b,b<w5.heap.size→b≠m→b≠w4.heap.size→sM.heap[b]? =w5.heap[b]? :=fun b hb hn h4=>(nE.block b (by omega) (fun h=>by injection h with h;omega)).trans ((nY.block b (by omega) (fun h=>by injection h with h;omega)).trans ((iO.block b (by omega)).trans (Gg b hb hn)))
    have j4:J9 w4.heap.size=none:=(jZ _ (by omega)).trans yw
    have jm:J9 m=none:=(jZ _ (by omega)).trans Jc
    have A9:=A8.O.ext iO jZ jD
    exact ⟨_,_,mg,k7,Ae,Af,DT,DU,J9,Hn.O,⟨(A9.ok.grown nY (fun g h=>by injection h with h;subst h;exact j4)).grown nE (fun g h=>by injection h with h;subst h;exact jm),A9.keep,(A9.eU.grown nY (by omega) (fun k h=>by injection h with h;omega)).grown nE (by omega) (fun k h=>by injection h with h;omega)⟩,
     M.O.ext.trans jZ (by omega),(jZ _ (by omega)).trans M.O.no,(jZ _ (by omega)).trans M.O.OB,(hz _ (by omega) (by omega) (by omega)).trans M.O.dr,⟨(World.cell?_of_block (hz (w.heap.size+1) (by omega) (by omega) (by omega))).trans M.O.cg.c0,(World.cell?_of_block (hz (w.heap.size+1) (by omega) (by omega) (by omega))).trans M.O.cg.c1,(World.cell?_of_block (hz (w.heap.size+1) (by omega) (by omega) (by omega))).trans M.O.cg.c2,(World.cell?_of_block (hz (w.heap.size+1) (by omega) (by omega) (by omega))).trans M.O.cg.c3,(World.cell?_of_block (hz (w.heap.size+1) (by omega) (by omega) (by omega))).trans M.O.cg.c4⟩,
     (hz _ (by omega) (by omega) (by omega)).trans M.O.O,entB_row wG,stoB_row ((nE.block _ (by omega) (fun h=>by injection h with h;omega)).trans tH),M.O.ra.mono Zm,Kz,x8⟩
  case rest=>
  obtain ⟨e,q,a1,k1,a2,k2,a3,k3,J,rO,hM⟩:=hcut
  have M:=Qh hM
  have fM:=Qh (Xtw rO)
  have lQ:e.Wf:=by have:=Zk.O;rw [rO] at this;exact this
  have aer:e.aj.length≤4294967280:=by have:=Hfl.O.2.1;rw [rO] at this;show _≤_;rw [show e.aj=c.aj from this];exact qp
  have qo:e.aC.length≤65536:=by have:=ww.O.len;rw [rO] at this;exact Nat.le_trans this bO
  have mY:=Qh (fun J xa xx Cn Ca w hw=>Yd J e xa xx Cn Ca lQ w hw)
  rw [Yc (by omega)] at mY
  have zA:=Qh (fun J (hk:∀b c,I b=some c→J b=some c) xa xx Cn Ca w hw=>ZY J (.slice tt d.aF.length tc) d.aF (Hr.O.aF.mono hk) jO.O.GR (by have:=jO.O.ok.Bc;show d.stt.aF.length≤_;omega) e xa xx Cn Ca lQ aer (by omega) w hw)
  have CE:=Qh (fun J (hk:∀b c,I b=some c→J b=some c) w hw=>Xhz J (.slice tt d.aF.length tc) d.aF (Hr.O.aF.mono hk) e.aj w hw)
  have PW:=Qh (fun J (hk:∀b c,I b=some c→J b=some c) xa xx Cn Ca w hw=>Xkd J (.slice ho d.holds.length ii) d.holds (Hr.O.holds.mono hk) (by have:=jO.O.ok.hlen;show d.stt.holds.length≤_;omega) e xa xx Cn Ca d.aA w hw)
  have iA:=Qh (fun J (hk:∀b c,I b=some c→J b=some c) xa xx Cn Ca (h1:aX e=0) w hw=>Z0 J (.slice ho d.holds.length ii) d.holds (Hr.O.holds.mono hk) jO.O.ok.holds (by have:=jO.O.ok.hlen;show d.stt.holds.length≤_;omega) e xa xx Cn Ca h1 d.aA w hw)
  clear hM rO BS Hn1 xI yt g0 g1 g2 g3 g4 PM yw ZJ oN Jc
  obtain ⟨x0,x1,x2,x3,x4,x5,x6⟩:=M.O.en
  go_wp2_with fail
  refine (mY.O J _ _ M.O.ra M.O.rx wc M.O.at_.ok).mono ?_
  rintro e0 w0 ⟨rfl,tX⟩
  replace M:=Qh (M.O.quiet tX)
  clear x0 x1 x2 x3 x4 x5 x6 tX mY
  obtain ⟨r,Fb⟩:∃r,aX e=r:=⟨_,rfl⟩
  rw [Fb] at fM iA ⊢
  go_upto_if 58 with fail
  by_cases h0:r=0
  case neg=>
   have f1:(r != 0)=true:=by simpa using h0
   have Hn:=Qh (fM.O.trans (if_pos h0))
   clear fM h0
   obtain ⟨b0,b1,b2,b3,b4,b5,b6,b7,b8⟩:=drB_row (d:=d) M.O.dr
   have bR:=M.O.O
   go_wp2_with (refine fO rfl rfl 46 _ _ rfl (w.heap.size+2) 0 (dA d (.slice eo d.aB.length ec) (.slice ko d.bf.aJ.length kc) (.slice tt d.aF.length tc) (.slice ho d.holds.length ii)) (gP d (.slice eo d.aB.length ec) (.slice ko d.bf.aJ.length kc) (.slice tt d.aF.length tc) (.slice ho d.holds.length ii)) (by simp [Act.eval]) (by simp [Act.eval]) (by rfl) _ 46 bR (by simp) (by kernel_rfl) (by simp [Value.oneCell']) (dA d (.slice eo d.aB.length ec) (.slice ko d.bf.aJ.length kc) (.slice tt d.aF.length tc) (.slice ho d.holds.length ii)).toArray (by rfl) ?_
                intro w9 bK fB)
   refine bodyPost_ret (v:= .tuple #[gP d (.slice eo d.aB.length ec) (.slice ko d.bf.aJ.length kc) (.slice tt d.aF.length tc) (.slice ho d.holds.length ii),.int .i64 r]) ?_ rfl (M.O.ret Hr.O bK Hn.O)
   rw [results_cell_tmp rfl]
   simp [asAddr,run_loadVar_row w9 (w.heap.size+2) 46 46 _ (0,0) _ fB Tryz.underlying46 rfl oM.O]
  subst h0
  replace fM:=Qh (fM.O.trans (if_neg (by decide)))
  obtain ⟨g0,g1,g2,g3,g4⟩:=M.O.cg
  obtain ⟨B,hB⟩:∃B:Bool,decide (c.av≠1∧c.aI≠ [])=B:=⟨_,rfl⟩
  go_upto_region 11 with fail
  go_cut [68] (fun s68 wx=>s68= .bool B∧w0=wx)
  case first=>
   by_cases q2:c.av=1
   ·have i3:(c.av != 1)=false:=by simp [q2]
    have gV:B=false:=by rw [←hB];exact Qf (fun h=>h.1 q2)
    subst gV
    clear hB q2
    go_wp2_with fail
    go_meet
    exact ⟨rfl,rfl⟩
   ·have i3:(c.av != 1)=true:=by simpa using q2
    by_cases q1:c.aI= []
    ·have i1:c.aI.isEmpty=true:=by simp [q1]
     have i2:(c.aI== [])=true:=by simp [q1]
     have gV:B=false:=by rw [←hB];exact Qf (fun h=>h.2 q1)
     subst gV
     clear hB q1 q2
     go_wp2_with fail
     go_meet
     exact ⟨rfl,rfl⟩
    ·have i1:c.aI.isEmpty=false:=by simpa using q1
     have i2:(c.aI== [])=false:=by simpa using q1
     have gV:B=true:=by rw [←hB];exact Qt ⟨q2,q1⟩
     subst gV
     clear hB q1 q2
     go_wp2_with fail
     go_meet
     exact ⟨rfl,rfl⟩
  case rest=>
  obtain ⟨rfl,hcut⟩:=hcut
  subst hcut
  clear g0 g1 g2 g3 g4
  cases B
  case true=>
   have Hn:=Qh (fM.O.trans (if_pos (of_decide_eq_true hB)))
   clear fM hB
   obtain ⟨b0,b1,b2,b3,b4,b5,b6,b7,b8⟩:=drB_row (d:=d) M.O.dr
   have bR:=M.O.O
   go_wp2_with (refine fO rfl rfl 46 _ _ rfl (w.heap.size+2) 0 (dA d (.slice eo d.aB.length ec) (.slice ko d.bf.aJ.length kc) (.slice tt d.aF.length tc) (.slice ho d.holds.length ii)) (gP d (.slice eo d.aB.length ec) (.slice ko d.bf.aJ.length kc) (.slice tt d.aF.length tc) (.slice ho d.holds.length ii)) (by simp [Act.eval]) (by simp [Act.eval]) (by rfl) _ 46 bR (by simp) (by kernel_rfl) (by simp [Value.oneCell']) (dA d (.slice eo d.aB.length ec) (.slice ko d.bf.aJ.length kc) (.slice tt d.aF.length tc) (.slice ho d.holds.length ii)).toArray (by rfl) ?_
                intro w9 bK fB)
   refine bodyPost_ret (v:= .tuple #[gP d (.slice eo d.aB.length ec) (.slice ko d.bf.aJ.length kc) (.slice tt d.aF.length tc) (.slice ho d.holds.length ii),.int .i64 1]) ?_ rfl (M.O.ret Hr.O bK Hn.O)
   rw [results_cell_tmp rfl]
   simp [asAddr,run_loadVar_row w9 (w.heap.size+2) 46 46 _ (0,0) _ fB Tryz.underlying46 rfl oM.O]
  replace fM:=Qh (fM.O.trans (if_neg (of_decide_eq_false hB)))
  clear hB
  obtain ⟨y0,y1,y2⟩:=M.O.st
  obtain ⟨b0,b1,b2,b3,b4,b5,b6,b7,b8⟩:=drB_row (d:=d) M.O.dr
  obtain ⟨B,hB⟩:∃B:Bool,decide (400≤d.aB.length∨14680064<q.str.length)=B:=⟨_,rfl⟩
  go_upto_region 13 with fail
  go_cut [79] (fun s79 wx=>s79= .bool B∧w0=wx)
  case first=>
   by_cases q1:400≤d.aB.length
   ·have i1:decide ((400:Int)≤(d.aB.length:Int))=true:=Qt (by omega)
    have gV:B=true:=by rw [←hB];exact Qt (.inl q1)
    subst gV
    clear hB q1
    go_wp2_with fail
    go_meet
    exact ⟨rfl,rfl⟩
   ·have i1:decide ((400:Int)≤(d.aB.length:Int))=false:=Qf (by omega)
    by_cases q2:14680064<q.str.length
    ·have i3:decide ((14680064:Int)<(q.str.length:Int))=true:=Qt (by omega)
     have gV:B=true:=by rw [←hB];exact Qt (.inr q2)
     subst gV
     clear hB q1 q2
     go_wp2_with fail
     go_meet
     exact ⟨rfl,rfl⟩
    ·have i3:decide ((14680064:Int)<(q.str.length:Int))=false:=Qf (by omega)
     have gV:B=false:=by rw [←hB];exact Qf (by omega)
     subst gV
     clear hB q1 q2
     go_wp2_with fail
     go_meet
     exact ⟨rfl,rfl⟩
  case rest=>
  obtain ⟨rfl,hcut⟩:=hcut
  subst hcut
  clear y0 y1 y2
  cases B
  case true=>
   have Hn:=Qh (fM.O.trans (if_pos (of_decide_eq_true hB)))
   clear fM hB b0 b1 b2 b3 b4 b5 b6 b7 b8
   obtain ⟨b0,b1,b2,b3,b4,b5,b6,b7,b8⟩:=drB_row (d:=d) M.O.dr
   have bR:=M.O.O
   go_wp2_with (refine fO rfl rfl 46 _ _ rfl (w.heap.size+2) 0 (dA d (.slice eo d.aB.length ec) (.slice ko d.bf.aJ.length kc) (.slice tt d.aF.length tc) (.slice ho d.holds.length ii)) (gP d (.slice eo d.aB.length ec) (.slice ko d.bf.aJ.length kc) (.slice tt d.aF.length tc) (.slice ho d.holds.length ii)) (by simp [Act.eval]) (by simp [Act.eval]) (by rfl) _ 46 bR (by simp) (by kernel_rfl) (by simp [Value.oneCell']) (dA d (.slice eo d.aB.length ec) (.slice ko d.bf.aJ.length kc) (.slice tt d.aF.length tc) (.slice ho d.holds.length ii)).toArray (by rfl) ?_
                intro w9 bK fB)
   refine bodyPost_ret (v:= .tuple #[gP d (.slice eo d.aB.length ec) (.slice ko d.bf.aJ.length kc) (.slice tt d.aF.length tc) (.slice ho d.holds.length ii),.int .i64 6]) ?_ rfl (M.O.ret Hr.O bK Hn.O)
   rw [results_cell_tmp rfl]
   simp [asAddr,run_loadVar_row w9 (w.heap.size+2) 46 46 _ (0,0) _ fB Tryz.underlying46 rfl oM.O]
  replace fM:=Qh (fM.O.trans (if_neg (of_decide_eq_false hB)))
  clear hB
  obtain ⟨x0,x1,x2,x3,x4,x5,x6⟩:=M.O.en
  obtain ⟨t2,r2,Eo⟩:∃t2 r2,dh d.aF e=(t2,r2):=⟨_,_,rfl⟩
  obtain ⟨h2,r4,Rj⟩:∃h2 r4,appH d.holds e d.aA=(h2,r4):=⟨_,_,rfl⟩
  obtain ⟨al,ug⟩:∃al,kE d.holds e.av e.aj d.aA=al:=⟨_,rfl⟩
  obtain ⟨ye,bx,hgx⟩:∃ye bx,mV d.aF e.aj=(ye,bx):=⟨_,_,rfl⟩
  have vI:rE d.stt e d.aA=if 3<e.av∨bx=true then al else 0:=by
   have h2:=Xsz d.aF e.aj
   rw [hgx] at h2
   rw [show bx=(gu d.aF e.aj).isSome from h2,←ug]
   rfl
  have JL:fK d.stt e d.aA=if r2≠0 then (d.stt,r2) else if rE d.stt e d.aA≠0 then (d.stt,rE d.stt e d.aA) else if r4≠0 then (d.stt,r4) else (⟨t2,h2⟩,0):=by
   unfold fK
   rw [show dh d.stt.aF e=(t2,r2) from Eo,show appH d.stt.holds e d.aA=(h2,r4) from Rj]
  rw [JL,vI] at fM
  rw [Eo] at zA
  rw [Rj] at iA
  rw [ug] at PW
  rw [hgx] at CE
  clear Eo Rj ug hgx vI JL
  go_wp2_with fail
  refine (zA.O J M.O.at_.keep _ _ M.O.ra M.O.rx _ M.O.at_.ok).mono ?_
  rintro e4 w5' ⟨Xp,J4,rfl,aS,pX,dz,Ah⟩
  have M4:=Qh (M.O.aR aS pX dz)
  obtain ⟨o4,c4,rfl,_,_,_⟩:=id Ah
  clear b0 b1 b2 b3 b4 b5 b6 b7 b8 x0 x1 x2 x3 x4 x5 x6 M aS pX dz zA
  go_upto_if 89 with fail
  by_cases h0:r2=0
  case neg=>
   have f1:(r2 != 0)=true:=by simpa using h0
   have Hn:=Qh (show gQ d c=(d,r2) by rw [fM.O,if_pos h0,if_pos h0])
   clear fM h0
   obtain ⟨b0,b1,b2,b3,b4,b5,b6,b7,b8⟩:=drB_row (d:=d) M4.O.dr
   have bR:=M4.O.O
   go_wp2_with (refine fO rfl rfl 46 _ _ rfl (w.heap.size+2) 0 (dA d (.slice eo d.aB.length ec) (.slice ko d.bf.aJ.length kc) (.slice tt d.aF.length tc) (.slice ho d.holds.length ii)) (gP d (.slice eo d.aB.length ec) (.slice ko d.bf.aJ.length kc) (.slice tt d.aF.length tc) (.slice ho d.holds.length ii)) (by simp [Act.eval]) (by simp [Act.eval]) (by rfl) _ 46 bR (by simp) (by kernel_rfl) (by simp [Value.oneCell']) (dA d (.slice eo d.aB.length ec) (.slice ko d.bf.aJ.length kc) (.slice tt d.aF.length tc) (.slice ho d.holds.length ii)).toArray (by rfl) ?_
                intro w9 bK fB)
   refine bodyPost_ret (v:= .tuple #[gP d (.slice eo d.aB.length ec) (.slice ko d.bf.aJ.length kc) (.slice tt d.aF.length tc) (.slice ho d.holds.length ii),.int .i64 r2]) ?_ rfl (M4.O.ret Hr.O bK Hn.O)
   rw [results_cell_tmp rfl]
   simp [asAddr,run_loadVar_row w9 (w.heap.size+2) 46 46 _ (0,0) _ fB Tryz.underlying46 rfl oM.O]
  subst h0
  rw [if_neg (show ¬((0:Int)≠0) by decide)] at fM
  obtain ⟨b0,b1,b2,b3,b4,b5,b6,b7,b8⟩:=drB_row (d:=d) M4.O.dr
  obtain ⟨x0,x1,x2,x3,x4,x5,x6⟩:=M4.O.en
  go_wp2_with fail
  refine (CE.O J4 M4.O.at_.keep _ M4.O.at_.ok).mono ?_
  rintro e5 w6' ⟨vy1,vy2,rfl,Kn,Xi,df⟩
  obtain ⟨ay,cy,rfl,_,_,_⟩:=id Kn
  obtain ⟨az,cz,rfl,_,_,_⟩:=id Xi
  clear b0 b1 b2 b3 b4 b5 b6 b7 b8 x0 x1 x2 x3 x4 x5 x6 Kn Xi CE
  have M5:=Qh (M4.O.quiet df)
  clear M4 df
  go_upto_region 19 with (refine fO rfl rfl 63 _ _ rfl w6'.heap.size 0 (eO ye (.slice ay ye.ag.length cy) (.slice az ye.aC.length cz)) (iF ye (.slice ay ye.ag.length cy) (.slice az ye.aC.length cz)) (by simp [Act.eval]) (by simp [Act.eval]) (by rfl) cu 63 (heap_alloc_new _ _) (by simp) (by kernel_rfl) (by simp [Value.oneCell']) (lg ye (.slice ay ye.ag.length cy) (.slice az ye.aC.length cz)) (by rfl) ?_
                          intro w7' iy gN)
  replace M5:=Qh (M5.O.quiet (((Qb _ _).alloc (Qn _) _).grown iy (by simp) (fun k e=>by injection e with e;omega)))
  clear iy gN
  obtain ⟨x0,x1,x2,x3,x4,x5,x6⟩:=M5.O.en
  obtain ⟨B,hB⟩:∃B:Bool,decide (3<e.av∨bx=true)=B:=⟨_,rfl⟩
  go_cut [105] (fun aes wx=>aes= .bool B∧w7'=wx)
  case first=>
   cases bx
   ·by_cases q1:3<e.av
    ·have i1:decide (3<e.av)=true:=Qt q1
     have gV:B=true:=by rw [←hB];exact Qt (.inl q1)
     subst gV
     clear hB q1
     go_wp2_with fail
     go_meet
     exact ⟨rfl,rfl⟩
    ·have i1:decide (3<e.av)=false:=Qf q1
     have gV:B=false:=by rw [←hB];exact Qf (by simp;omega)
     subst gV
     clear hB q1
     go_wp2_with fail
     go_meet
     exact ⟨rfl,rfl⟩
   ·have gV:B=true:=by rw [←hB];exact Qt (.inr rfl)
    subst gV
    clear hB
    go_wp2_with fail
    go_meet
    exact ⟨rfl,rfl⟩
  case rest=>
  obtain ⟨rfl,hcut⟩:=hcut
  subst hcut
  clear x0 x1 x2 x3 x4 x5 x6
  obtain ⟨b0,b1,b2,b3,b4,b5,b6,b7,b8⟩:=drB_row (d:=d) M5.O.dr
  obtain ⟨x0,x1,x2,x3,x4,x5,x6⟩:=M5.O.en
  have Hq:=Qh (show B=true→(if 3<e.av∨bx=true then al else 0)=al from fun h=>if_pos (of_decide_eq_true (hB.trans h)))
  have Wj:=Qh (show B=false→(if 3<e.av∨bx=true then al else 0)=0 from fun h=>if_neg (of_decide_eq_false (hB.trans h)))
  obtain ⟨ak,ZK⟩:∃ak,(if 3<e.av∨bx=true then al else 0)=ak:=⟨_,rfl⟩
  rw [ZK] at Hq Wj fM
  clear hB ZK
  go_upto_if 105 with fail
  go_cut [] (fun wx=>ak=0∧Gm I w d (.slice eo d.aB.length ec) (.slice ko d.bf.aJ.length kc) (.slice tt d.aF.length tc) (.slice ho d.holds.length ii) c (.slice ao c.ag.length ac) e (.slice a1 e.ag.length k1) (.slice a2 e.aC.length k2) q (.slice a3 q.aJ.length k3) m w4.heap.size J4 wx)
  case first=>
   cases B
   case false=>
    go_wp2_with fail
    go_meet
    exact ⟨(by first|exact Wj.O rfl|exact Wj.O trivial),M5.O⟩
   case true=>
    have hq:=Qh (Hq.O rfl)
    go_wp2_with fail
    refine (PW.O J4 M5.O.at_.keep _ _ M5.O.ra M5.O.rx _ M5.O.at_.ok).mono ?_
    rintro e8 w8' ⟨rfl,mH⟩
    have M8:=Qh (M5.O.quiet mH)
    clear b0 b1 b2 b3 b4 b5 b6 b7 b8 x0 x1 x2 x3 x4 x5 x6 mH PW M5
    go_upto_if 113 with fail
    by_cases h0:al=0
    case neg=>
     have f1:(al != 0)=true:=by simpa using h0
     have Hn:=Qh (show gQ d c=(d,al) by rw [fM.O,hq.O,if_pos h0,if_pos h0])
     clear fM h0 hq Hq Wj
     obtain ⟨b0,b1,b2,b3,b4,b5,b6,b7,b8⟩:=drB_row (d:=d) M8.O.dr
     have bR:=M8.O.O
     go_wp2_with (refine fO rfl rfl 46 _ _ rfl (w.heap.size+2) 0 (dA d (.slice eo d.aB.length ec) (.slice ko d.bf.aJ.length kc) (.slice tt d.aF.length tc) (.slice ho d.holds.length ii)) (gP d (.slice eo d.aB.length ec) (.slice ko d.bf.aJ.length kc) (.slice tt d.aF.length tc) (.slice ho d.holds.length ii)) (by simp [Act.eval]) (by simp [Act.eval]) (by rfl) _ 46 bR (by simp) (by kernel_rfl) (by simp [Value.oneCell']) (dA d (.slice eo d.aB.length ec) (.slice ko d.bf.aJ.length kc) (.slice tt d.aF.length tc) (.slice ho d.holds.length ii)).toArray (by rfl) ?_
                  intro w9 bK fB)
     refine bodyPost_ret (v:= .tuple #[gP d (.slice eo d.aB.length ec) (.slice ko d.bf.aJ.length kc) (.slice tt d.aF.length tc) (.slice ho d.holds.length ii),.int .i64 al]) ?_ rfl (M8.O.ret Hr.O bK Hn.O)
     rw [results_cell_tmp rfl]
     simp [asAddr,run_loadVar_row w9 (w.heap.size+2) 46 46 _ (0,0) _ fB Tryz.underlying46 rfl oM.O]
    case pos=>
     subst h0
     go_wp2_with fail
     go_meet
     exact ⟨hq.O,M8.O⟩
  case rest=>
  obtain ⟨ZK,hM⟩:=hcut
  subst ZK
  replace M5:=Qh hM
  rw [if_neg (show ¬((0:Int)≠0) by decide)] at fM
  clear hM Hq Wj b0 b1 b2 b3 b4 b5 b6 b7 b8 x0 x1 x2 x3 x4 x5 x6 PW
  obtain ⟨b0,b1,b2,b3,b4,b5,b6,b7,b8⟩:=drB_row (d:=d) M5.O.dr
  obtain ⟨x0,x1,x2,x3,x4,x5,x6⟩:=M5.O.en
  go_wp2_with fail
  refine (iA.O J4 M5.O.at_.keep _ _ M5.O.ra M5.O.rx trivial _ M5.O.at_.ok).mono ?_
  rintro e6 w6 ⟨vh2,J6,rfl,gF,kW,fF,Be⟩
  have M6:=Qh (M5.O.aR gF kW fF)
  have Qs:=Ah.mono (kW.keep M5.O.at_.ok (Qn _))
  obtain ⟨o6,c6,rfl,_,_,_⟩:=id Be
  clear b0 b1 b2 b3 b4 b5 b6 b7 b8 x0 x1 x2 x3 x4 x5 x6 M5 gF kW fF iA Ah
  go_upto_if 126 with fail
  by_cases h0:r4=0
  case neg=>
   have f1:(r4 != 0)=true:=by simpa using h0
   have Hn:=Qh (show gQ d c=(d,r4) by rw [fM.O,if_pos h0,if_pos h0])
   clear fM h0
   obtain ⟨b0,b1,b2,b3,b4,b5,b6,b7,b8⟩:=drB_row (d:=d) M6.O.dr
   have bR:=M6.O.O
   go_wp2_with (refine fO rfl rfl 46 _ _ rfl (w.heap.size+2) 0 (dA d (.slice eo d.aB.length ec) (.slice ko d.bf.aJ.length kc) (.slice tt d.aF.length tc) (.slice ho d.holds.length ii)) (gP d (.slice eo d.aB.length ec) (.slice ko d.bf.aJ.length kc) (.slice tt d.aF.length tc) (.slice ho d.holds.length ii)) (by simp [Act.eval]) (by simp [Act.eval]) (by rfl) _ 46 bR (by simp) (by kernel_rfl) (by simp [Value.oneCell']) (dA d (.slice eo d.aB.length ec) (.slice ko d.bf.aJ.length kc) (.slice tt d.aF.length tc) (.slice ho d.holds.length ii)).toArray (by rfl) ?_
                intro w9 bK fB)
   refine bodyPost_ret (v:= .tuple #[gP d (.slice eo d.aB.length ec) (.slice ko d.bf.aJ.length kc) (.slice tt d.aF.length tc) (.slice ho d.holds.length ii),.int .i64 r4]) ?_ rfl (M6.O.ret Hr.O bK Hn.O)
   rw [results_cell_tmp rfl]
   simp [asAddr,run_loadVar_row w9 (w.heap.size+2) 46 46 _ (0,0) _ fB Tryz.underlying46 rfl oM.O]
  subst h0
  have Hn:=Qh (show gQ d c=(⟨d.num,d.aA,d.bE,d.aB++ [e],q,t2,h2⟩,0) by rw [fM.O];rfl)
  clear fM
  have b3:=(drB_row (d:=d) M6.O.dr).c3
  obtain ⟨x0,x1,x2,x3,x4,x5,x6⟩:=M6.O.en
  have vK:=M6.O.at_.size
  have I9:=(Qg M6.O.dr)
  have kg:=(Qg M6.O.O)
  go_wp2_with fail
  refine qR (X:=Nat × (Option Addr × Nat) × Nat × (Option Addr × Nat)) (Ke w.heap.size d.aB.length ((d.aB++ [e]).length) ec eo e (.slice a1 e.ag.length k1) (.slice a2 e.aC.length k2)) (jX w6 0 3 3 6 5 6 6 233 (fun x w=>x.2.2.1<w.heap.size) (fun x w=>aQ bM 63 J6 w w6.heap.size (.slice (some ⟨x.1,0,none⟩) 0 0) ([])∧x.1≠x.2.2.1) (fun x w=>aQ bM 63 J6 w w6.heap.size (.slice x.2.1.1 d.aB.length x.2.1.2) (d.aB)∧(Value.slice x.2.1.1 d.aB.length x.2.1.2).ownBlock≠some x.2.2.1) (fun x w=>w.heap[x.2.2.1]? =some (.cells (lg e (.slice a1 e.ag.length k1) (.slice a2 e.aC.length k2)) 63 (0,0))) (fun x w=>aQ bM 63 J6 w w6.heap.size (.slice x.2.2.2.1 (d.aB++ [e]).length x.2.2.2.2) (d.aB++ [e])) (fun x w=>aQ bM 63 J6 w w6.heap.size (.slice x.2.2.2.1 (d.aB++ [e]).length x.2.2.2.2) (d.aB++ [e])) (fun x=>w.heap.size) 46 8 210 211 (fun x=> #[.int .i64 d.num,.int .i64 d.aA,S d.bE,.slice x.2.2.2.1 (d.aB++ [e]).length x.2.2.2.2,.slice ko d.bf.aJ.length kc,.int .i64 d.bf.bg,S d.bf.str,.slice tt d.aF.length tc,.slice ho d.holds.length ii]) (fun x=> #[.int .i64 d.num,.int .i64 d.aA,S d.bE,.slice x.2.2.2.1 (d.aB++ [e]).length x.2.2.2.2,.slice ko d.bf.aJ.length kc,.int .i64 d.bf.bg,S d.bf.str,.slice tt d.aF.length tc,.slice ho d.holds.length ii]) (fun x=> #[.int .i64 d.num,.int .i64 d.aA,S d.bE,.slice x.2.2.2.1 (d.aB++ [e]).length x.2.2.2.2,.slice ko d.bf.aJ.length kc,.int .i64 d.bf.bg,S d.bf.str,.slice tt d.aF.length tc,.slice ho d.holds.length ii])) (by kernel_rfl) (by kernel_rfl) ?_ ?_ ?_
  ·exact ⟨(0,default,0,default),jX.start _ _ (show 0<w6.heap.size by omega)⟩
  ·rintro x s' a' w' i bS bO ha hC hi
   obtain ⟨aH,oi,dI,au⟩:=mem_ready.1 hi
   have ev:=vV NU ha
   have hlt:=oO aH
   rcases i with _|_|_|_|_|_|_|_|_|i
   rotate_left 9
   ·simp at dI
   all_goals
    have dH:=dI
    simp at dI
    subst dI
    simp [Region.binds] at au
    try have hl:=kz 6 8 bO (by decide +kernel) aH
    try have aT:=hC.off hl
    try have b3:=aV aT b3
    try have x0:=aV aT x0
    try have x1:=aV aT x1
    try have x2:=aV aT x2
    try have x3:=aV aT x3
    try have x4:=aV aT x4
    try have x5:=aV aT x5
    try have x6:=aV aT x6
    refine wpOp_step dH (fun K' hK=> ?_)
    rw [if_pos (by rfl)]
   ·unfold Oper.wp
    simp [go_sem,ev,dG,au,Oper.upon,b3,x0,x1,x2,x3,x4,x5,x6]
    have ha:=ha.trans (lT (L:=Ke w.heap.size d.aB.length ((d.aB++ [e]).length) ec eo e (.slice a1 e.ag.length k1) (.slice a2 e.aC.length k2) x) (M:=Ke w.heap.size d.aB.length ((d.aB++ [e]).length) ec eo e (.slice a1 e.ag.length k1) (.slice a2 e.aC.length k2) (w'.heap.size,x.2)) [0] rfl (fun j bq=>by
     rcases j with _|_|_|_|_|_|_|_|_|j<;>first|rfl|(exact absurd (by decide) bq)|simp) (List.forall_mem_cons.2 ⟨gG aH,List.forall_mem_nil _⟩))
    exact hK _ _ ⟨(w'.heap.size,x.2),gD NU ha rfl aH,hC.step hl (aT.trans (((Qb _ _).alloc (Qn _) _).mono aT.size)) (by decide) (fun h=>by have h9:x.2.2.1<w'.heap.size:=h;simp;omega) (fun _ _=>⟨(Rk w').lower aT.size,fun q=>by have h9:x.2.2.1<w'.heap.size:=hC.inv hl;have q9:w'.heap.size=x.2.2.1:=q;omega⟩) (fun h _=>h.elim (fun e=>absurd e (by decide)) (fun ⟨_,_,q⟩=>⟨q.1.alloc _,q.2⟩)) (fun h _=>h.elim (fun e=>absurd e (by decide)) (fun ⟨_,_,q⟩=>(Below.heap_alloc _ _ _ (Qg q)).trans q)) (fun h _=>h.elim (fun e=>absurd e (by decide)) (fun ⟨_,_,q⟩=>q.alloc _)) hlt⟩
   rotate_left 2
   ·have h1:=hC.f1 (by first|simpa using au|simp [au]) (gG aH) hl
    have JK:=kz 6 6 bO (by decide +kernel) aH
    refine G8 yg _ _ rfl (by simp [Act.eval,ev,dG,au]) h1.1 (by simp [Act.eval,ev,dG,au]) (jY.vX (Hr.O.aB.mono M6.O.at_.keep) (M6.O.at_.ok.below (Qn _) aT) (by decide)) (by simp only [List.length_nil];omega) (by simp only [List.length_nil];omega) aT.size ?_
    rintro v9 w9 kV bK l7
    rw [List.nil_append] at kV
    obtain ⟨a9,k9,rfl⟩:=wT kV
    have ha:=ha.trans (lT (L:=Ke w.heap.size d.aB.length ((d.aB++ [e]).length) ec eo e (.slice a1 e.ag.length k1) (.slice a2 e.aC.length k2) x) (M:=Ke w.heap.size d.aB.length ((d.aB++ [e]).length) ec eo e (.slice a1 e.ag.length k1) (.slice a2 e.aC.length k2) (x.1,(a9,k9),x.2.2)) [3] rfl (fun j bq=>by
     rcases j with _|_|_|_|_|_|_|_|_|j<;>first|rfl|(exact absurd (by decide) bq)|simp) (List.forall_mem_cons.2 ⟨gG aH,List.forall_mem_nil _⟩))
    exact hK _ _ ⟨(x.1,(a9,k9),x.2.2),gD NU ha rfl aH,hC.step hl (aT.grown bK aT.size (fun k e=>(xk h1.1 e).1)) (by decide) (fun h=>Nat.lt_of_lt_of_le h bK.size) (fun _ h=>absurd rfl h) (fun _ _=>⟨kV,fun q=>(l7 _ q).elim (fun q=>h1.2 (Option.some.inj q)) (fun q=>by have h9:x.2.2.1<w'.heap.size:=hC.inv hl;have q9:w'.heap.size≤x.2.2.1:=q;omega)⟩) (fun h _=>h.elim (fun e=>absurd e (by decide)) (fun ⟨_,_,q⟩=>(bK.block _ (Qg q) (fun e=>h1.2 (Option.some.inj e.symm))).trans q)) (fun h _=>h.elim (fun e=>absurd e (by decide)) (fun q=>by rw [JK] at q;exact absurd q.1 (by decide))) hlt⟩
   rotate_left 1
   ·unfold Oper.wp
    simp [go_sem,ev,dG,au,Oper.upon,b3,x0,x1,x2,x3,x4,x5,x6]
    have ha:=ha.trans (lT (L:=Ke w.heap.size d.aB.length ((d.aB++ [e]).length) ec eo e (.slice a1 e.ag.length k1) (.slice a2 e.aC.length k2) x) (M:=Ke w.heap.size d.aB.length ((d.aB++ [e]).length) ec eo e (.slice a1 e.ag.length k1) (.slice a2 e.aC.length k2) (x.1,x.2.1,w'.heap.size,x.2.2.2)) [5] rfl (fun j bq=>by
     rcases j with _|_|_|_|_|_|_|_|_|j<;>first|rfl|(exact absurd (by decide) bq)|simp) (List.forall_mem_cons.2 ⟨gG aH,List.forall_mem_nil _⟩))
    exact hK _ _ ⟨(x.1,x.2.1,w'.heap.size,x.2.2.2),gD NU ha rfl aH,hC.step hl (aT.trans (((Qb _ _).alloc (Qn _) _).mono aT.size)) (by decide) (fun _=>by simp) (fun h _=>h.elim (fun e=>absurd e (by decide)) (fun ⟨_,_,q⟩=>⟨q.1.alloc _,fun r=>by have h8:=(xk (g:=x.1) q.1 (by simp [Value.ownBlock])).2;have r9:x.1=w'.heap.size:=r;omega⟩)) (fun h _=>h.elim (fun e=>absurd e (by decide)) (fun ⟨_,_,q⟩=>⟨q.1.alloc _,fun r=>absurd (xk q.1 r).2 (Nat.lt_irrefl _)⟩)) (fun _ _=>heap_alloc_new _ _) (fun h _=>h.elim (fun e=>absurd e (by decide)) (fun ⟨_,_,q⟩=>q.alloc _)) hlt⟩
   ·have h2:=hC.f2 (by first|simpa using au|simp [au]) (gG aH) hl
    have h3:=hC.f3 (by first|simpa using au|simp [au]) (gG aH) hl
    have eu:s'.getD 3 false=true:=(by first|simpa using au|simp [au])
    refine G8 yg _ _ rfl (by simp [Act.eval,ev,dG,au]) h2.1 (by simp [Act.eval,ev,dG,au]) (jY.mo (T:=bM) (x:=e) (cs:=eO e (.slice a1 e.ag.length k1) (.slice a2 e.aC.length k2)) ⟨_,_,rfl,M6.O.ra,M6.O.rx⟩ (fun j u hu=>(cell_of_row w' _ j _ _ _ h3).trans (by simpa using hu))) (by simp only [List.length_nil,List.length_cons];omega) (by simp only [List.length_nil,List.length_cons];omega) aT.size ?_
    rintro v9 w9 kV bK l7
    obtain ⟨a9,k9,rfl⟩:=wT kV
    have ha:=ha.trans (lT (L:=Ke w.heap.size d.aB.length ((d.aB++ [e]).length) ec eo e (.slice a1 e.ag.length k1) (.slice a2 e.aC.length k2) x) (M:=Ke w.heap.size d.aB.length ((d.aB++ [e]).length) ec eo e (.slice a1 e.ag.length k1) (.slice a2 e.aC.length k2) (x.1,x.2.1,x.2.2.1,(a9,k9))) [6] rfl (fun j bq=>by
     rcases j with _|_|_|_|_|_|_|_|_|j<;>first|rfl|(exact absurd (by decide) bq)|simp) (List.forall_mem_cons.2 ⟨gG aH,List.forall_mem_nil _⟩))
    exact hK _ _ ⟨(x.1,x.2.1,x.2.2.1,(a9,k9)),gD NU ha rfl aH,hC.step hl (aT.grown bK aT.size (fun k e=>(xk h2.1 e).1)) (by decide) (fun h=>Nat.lt_of_lt_of_le h bK.size) (fun h _=>h.elim (fun e=>absurd e (by decide)) (fun q=>by rw [eu] at q;exact absurd q.2.1 (by decide))) (fun _ h=>absurd rfl h) (fun _ h=>absurd rfl h) (fun _ _=>kV) hlt⟩
   rotate_left 1
   ·have aK:w'.heap[w.heap.size]? =some (.cells _ 46 (0,0)):=(aT.block _ (Qg M6.O.dr)).trans M6.O.dr
    refine oK 40 _ _ rfl (w.heap.size) 3 [.slice x.2.2.2.1 (d.aB++ [e]).length x.2.2.2.2] (.slice x.2.2.2.1 (d.aB++ [e]).length x.2.2.2.2) (by simp [Act.eval,ev,dG,au]) (by simp [Act.eval,ev,dG,au]) (by rfl) _ _ aK (by simp) (by kernel_rfl) (by simp [Value.oneCell']) ?_
    exact hK _ _ ⟨x,dS (d:=none) (v:=undef) NU ha rfl aH,hC.jP aH (hC.f4 (by first|simpa using au|simp [au]) (gX (by simp [bS])) hl) (gX (by simp [bS])) (gX (by simp [bS])) (by decide) aK (by rfl)⟩
   all_goals
    unfold Oper.wp
    first
    |(simp [go_sem,ev,dG,au,Oper.upon,b3,x0,x1,x2,x3,x4,x5,x6];exact hK _ _ ⟨x,gD NU ha rfl aH,hC.pure (by decide)⟩)
    |(simp [go_sem,ev,dG,Oper.upon,b3,x0,x1,x2,x3,x4,x5,x6];exact hK _ _ ⟨x,gD NU ha rfl aH,hC.pure (by decide)⟩)
  ·rintro x s' a' sM eu ha hC
   obtain ⟨wb,eG,ed,dR,aK⟩:=hC.on (eu 8 (by decide))
   simp only [ite_self] at aK
   rw [qz _ _ _ _ (fun i hi=>by rw [Nat.zero_add];exact eu i (by simpa using hi))] at ha
   subst ha
   simp only [dE,Act.put,List.setIfInBounds_toArray,List.set_cons_succ,List.set_cons_zero]
   obtain ⟨xe,xv,xb,o9,k9⟩:=x
   dsimp only at ed dR aK ⊢
   have EJ:=eG.size
   have l7:=(Qg aK)
   have y0:sM.cell? ⟨w4.heap.size,0,none⟩=_:=fC dR (by simp;omega) (aV eG M6.O.st.c0)
   have y1:sM.cell? ⟨w4.heap.size,1,none⟩=_:=fC dR (by simp;omega) (aV eG M6.O.st.c1)
   have y2:sM.cell? ⟨w4.heap.size,2,none⟩=_:=fC dR (by simp;omega) (aV eG M6.O.st.c2)
   have HO:=Qh (ed.kept dR (.inr (ed.dm I9)))
   have jS:=(M6.O.at_.ok.below (Qn _) eG).grown dR (fun g e=>by injection e with e;subst e;exact M6.O.OB)
   have Qz:=(M6.O.at_.eU.trans (eG.mono M6.O.at_.size)).grown dR (by omega) (fun k e=>by injection e with e;omega)
   have QA:=(dR.block (w.heap.size+2) (by omega) (fun h=>by injection h with h;omega)).trans ((eG.block _ kg).trans M6.O.O)
   clear hC eu ed b3 x0 x1 x2 x3 x4 x5 x6
   go_wp2_with (first
    |(refine fO rfl rfl 43 _ _ rfl w.heap.size 4 [.slice a3 q.aJ.length k3,.int .i64 q.bg,S q.str] (fD q (.slice a3 q.aJ.length k3)) (by simp [Act.eval]) (by simp [Act.eval]) (by rfl) _ 46 aK (by simp) (by kernel_rfl) (by simp [Value.oneCell']) #[.int .i64 d.num,.int .i64 d.aA,S d.bE,.slice o9 (d.aB++ [e]).length k9,.slice a3 q.aJ.length k3,.int .i64 q.bg,S q.str,.slice tt d.aF.length tc,.slice ho d.holds.length ii] (by rfl) ?_
      intro Tn iK zz)
    |(refine fO rfl rfl 40 _ _ rfl w.heap.size 7 [.slice o4 t2.length c4] (.slice o4 t2.length c4) (by simp [Act.eval]) (by simp [Act.eval]) (by rfl) _ 46 zz (by simp) (by kernel_rfl) (by simp [Value.oneCell']) #[.int .i64 d.num,.int .i64 d.aA,S d.bE,.slice o9 (d.aB++ [e]).length k9,.slice a3 q.aJ.length k3,.int .i64 q.bg,S q.str,.slice o4 t2.length c4,.slice ho d.holds.length ii] (by rfl) ?_
      intro w13 qG FU)
    |(refine fO rfl rfl 44 _ _ rfl w.heap.size 8 [.slice o6 h2.length c6] (.slice o6 h2.length c6) (by simp [Act.eval]) (by simp [Act.eval]) (by rfl) _ 46 FU (by simp) (by kernel_rfl) (by simp [Value.oneCell']) (dA (⟨d.num,d.aA,d.bE,d.aB++ [e],q,t2,h2⟩:fU) (.slice o9 (d.aB++ [e]).length k9) (.slice a3 q.aJ.length k3) (.slice o4 t2.length c4) (.slice o6 h2.length c6)).toArray (by rfl) ?_
      intro Qp qH FV
      obtain ⟨z0,z1,z2,z3,z4,z5,z6,z7,z8⟩:=drB_row (d:=(⟨d.num,d.aA,d.bE,d.aB++ [e],q,t2,h2⟩:fU)) FV
      have aen:=dR.size
      have VZ:=iK.size
      have V5:=qG.size
      have V6:=qH.size
      have bR:=(qH.block (w.heap.size+2) (by omega) (fun h=>by injection h with h;omega)).trans ((qG.block _ (by omega) (fun h=>by injection h with h;omega)).trans ((iK.block _ (by omega) (fun h=>by injection h with h;omega)).trans QA)))
    |(refine fO rfl rfl 46 _ _ rfl (w.heap.size+2) 0 (dA (⟨d.num,d.aA,d.bE,d.aB++ [e],q,t2,h2⟩:fU) (.slice o9 (d.aB++ [e]).length k9) (.slice a3 q.aJ.length k3) (.slice o4 t2.length c4) (.slice o6 h2.length c6)) (gP (⟨d.num,d.aA,d.bE,d.aB++ [e],q,t2,h2⟩:fU) (.slice o9 (d.aB++ [e]).length k9) (.slice a3 q.aJ.length k3) (.slice o4 t2.length c4) (.slice o6 h2.length c6)) (by simp [Act.eval]) (by simp [Act.eval]) (by rfl) _ 46 bR (by simp) (by kernel_rfl) (by simp [Value.oneCell']) (dA (⟨d.num,d.aA,d.bE,d.aB++ [e],q,t2,h2⟩:fU) (.slice o9 (d.aB++ [e]).length k9) (.slice a3 q.aJ.length k3) (.slice o4 t2.length c4) (.slice o6 h2.length c6)).toArray (by rfl) ?_
      intro Wd DV Qu))
   refine bodyPost_ret (v:= .tuple #[gP (⟨d.num,d.aA,d.bE,d.aB++ [e],q,t2,h2⟩:fU) (.slice o9 (d.aB++ [e]).length k9) (.slice a3 q.aJ.length k3) (.slice o4 t2.length c4) (.slice o6 h2.length c6),.int .i64 0]) ?_ rfl ?_
   ·rw [results_cell_tmp rfl]
    simp [asAddr,run_loadVar_row Wd (w.heap.size+2) 46 46 _ (0,0) _ Qu Tryz.underlying46 rfl oM.O]
   ·have q6:=M6.O.OB
    have Jr:Ok J6 Wd:=(((jS.grown iK (fun g h=>by injection h with h;subst h;exact q6)).grown qG (fun g h=>by injection h with h;subst h;exact q6)).grown qH (fun g h=>by injection h with h;subst h;exact q6)).grown DV (fun g h=>by injection h with h;subst h;exact M6.O.no)
    have Qv:=(((HO.O.kept iK (.inr (HO.O.dm I9))).kept qG (.inr (HO.O.dm I9))).kept qH (.inr (HO.O.dm I9))).kept DV (.inr (HO.O.dm kg))
    obtain ⟨J7,jL,eY,gN,_⟩:=Qv.freeze Jr (fun b hb=>M6.O.at_.ok.fresh hb)
    have zB:=jL.keep M6.O.at_.ok (Qn _)
    rw [Hn.O]
    exact ⟨_,_,_,_,J7,rfl,(((Qz.grown iK (by omega) (fun k h=>by injection h with h;omega)).grown qG (by omega) (fun k h=>by injection h with h;omega)).grown qH (by omega) (fun k h=>by injection h with h;omega)).grown DV (by omega) (fun k h=>by injection h with h;omega),
     M6.O.ext.trans jL (by omega),eY,⟨gN,M6.O.rq.mono zB,Qs.mono zB,Be.mono zB⟩⟩
theorem Xn(I:IH)(s:ib)(vc:Value)(hv:aZ si I vc s.aJ)(n:Int)(w:World)(hw:Ok I w):
 Calls Tryz.prog 29 #[fD s vc,.int .i64 n] w (Vr I w (gM s n).1 (gM s n).2):=by
 obtain⟨ao,cap,rfl,_,_,_⟩:=id hv;have Hv:=Qh hv;have b0:Below w.heap.size w (w.alloc (.cells #[.slice ao s.aJ.length cap,.int .i64 s.bg,S s.str] 43)):=(Qb _ _).alloc (Qn _) _;have wQ:=Qh (show(Tryz.prog.info? 43).map (·.size)=some 3 by kernel_rfl);have jl:=Qh (fun c:Array Value=>show((w.alloc (.cells #[.slice ao s.aJ.length cap,.int .i64 s.bg,S s.str] 43)).alloc (.cells c 43)).heap[w.heap.size+1]?=some (.cells c 43 (0,0)) by have:=heap_alloc_new (w.alloc (.cells #[.slice ao s.aJ.length cap,.int .i64 s.bg,S s.str] 43)) (.cells c 43);simpa using this);clear hv;by_cases h1:n<1
 ·have e1:decide (n<1)=true:=Qt h1;have Hn:=Qh (show gM s n=(s,2) by rw[gM,if_pos (.inl h1)]);clear h1;go_enter Tryz.func29,Tryz.ntmps29
  go_wp2;refine bodyPost_ret (v:= .tuple #[fD s (.slice ao s.aJ.length cap),.int .i64 2]) ?_ rfl ?_
  ·rw[results_cell_tmp rfl];simp[asAddr,run_loadVar_row _ (w.heap.size+1) 43 43 #[.slice ao s.aJ.length cap,.int .i64 s.bg,S s.str] (0,0) _ (jl.O _) Tryz.underlying43 rfl wQ.O]
  ·rw[Hn.O];exact⟨_,I,rfl,b0.alloc b0.size _,Ext.refl _ _,(hw.alloc _).alloc _,Hv.O⟩
 have e1:decide (n<1)=false:=Qf h1;by_cases h2:255<n
 ·have e2:decide (255<n)=true:=Qt h2;have Hn:=Qh (show gM s n=(s,2) by rw[gM,if_pos (.inr h2)]);clear h1 h2;go_enter Tryz.func29,Tryz.ntmps29
  go_wp2;refine bodyPost_ret (v:= .tuple #[fD s (.slice ao s.aJ.length cap),.int .i64 2]) ?_ rfl ?_
  ·rw[results_cell_tmp rfl];simp[asAddr,run_loadVar_row _ (w.heap.size+1) 43 43 #[.slice ao s.aJ.length cap,.int .i64 s.bg,S s.str] (0,0) _ (jl.O _) Tryz.underlying43 rfl wQ.O]
  ·rw[Hn.O];exact⟨_,I,rfl,b0.alloc b0.size _,Ext.refl _ _,(hw.alloc _).alloc _,Hv.O⟩
 have e2:decide (255<n)=false:=Qf h2;by_cases h3:n≤s.bg
 ·have e3:decide (n≤s.bg)=true:=Qt h3;have Hn:=Qh (show gM s n=(s,14) by rw[gM,if_neg (by omega),if_pos h3]);clear h1 h2 h3;go_enter Tryz.func29,Tryz.ntmps29
  go_wp2;refine bodyPost_ret (v:= .tuple #[fD s (.slice ao s.aJ.length cap),.int .i64 14]) ?_ rfl ?_
  ·rw[results_cell_tmp rfl];simp[asAddr,run_loadVar_row _ (w.heap.size+1) 43 43 #[.slice ao s.aJ.length cap,.int .i64 s.bg,S s.str] (0,0) _ (jl.O _) Tryz.underlying43 rfl wQ.O]
  ·rw[Hn.O];exact⟨_,I,rfl,b0.alloc b0.size _,Ext.refl _ _,(hw.alloc _).alloc _,Hv.O⟩
 have e3:decide (n≤s.bg)=false:=Qf h3;have Hn:=Qh (show gM s n=(⟨s.aJ,n,[]⟩,0) by rw[gM,if_neg (by omega),if_neg h3]);clear h1 h2 h3;go_enter Tryz.func29,Tryz.ntmps29
 go_wp2;refine bodyPost_ret (v:= .tuple #[fD ⟨s.aJ,n,[]⟩ (.slice ao s.aJ.length cap),.int .i64 0]) ?_ rfl ?_
 ·rw[results_cell_tmp rfl];simp[asAddr,run_loadVar_row _ (w.heap.size+1) 43 43 #[.slice ao s.aJ.length cap,.int .i64 n,S []] (0,0) _ (jl.O _) Tryz.underlying43 rfl wQ.O]
 ·rw[Hn.O];exact⟨_,I,rfl,b0.alloc b0.size _,Ext.refl _ _,(hw.alloc _).alloc _,Hv.O⟩
