/- Lemmas for the claim's theorem;conditions: as each says. -/
import Derived.Test.YtmdfjnhfhidmhaaGreatDoorJ30
import Derived.Test.YtmdfjnhfhidmhaaGreatDoorJ32
set_option maxHeartbeats 0
set_option maxRecDepth 100000
set_option linter.all false
namespace Go.Proofs.YtmdfjnhfhidmhaaGreatDoor
open Go.RowKit
variable{n:Nat}{ao:Option Addr}{le cp:Nat}
theorem Xqs:dS Tryz.prog 23 107 lD 32:=dS.of Tryz.underlying23 Xdn rfl (by decide) rfl
theorem SF{α:Type}{T:Ty α}{E:TypeId}{I:IH}(W:World):aK T E I (W.alloc (.cells #[] E)) W.heap.size (.slice (some ⟨W.heap.size,0,none⟩) 0 0) []:=
 ⟨[],World.ownsRow_made W #[] 0 (Qn _) (Nat.zero_le _) (e:=E) (size:=T.size) (by simp),bA.nil _ _⟩
def RcM(I:IH)(w:World)(d:ig)(ve vk vt vh:Value)(c:jK)(va:Value)(n6 n7:Nat)(wx:World):Prop:=
 ∃e q a1 k1 a2 k2 a3 k3 J,fI d.aU c=(e,q)∧Eg I w d ve vk vt vh c va e (.slice a1 e.aj.length k1) (.slice a2 e.aA.length k2) q (.slice a3 q.aJ.length k3) n6 n7 J wx
abbrev KP(n:Nat)(au:Int)(ag:af)(ao:Option Addr)(le cp:Nat)(target:af)(x:Nat×(Option Addr×Nat)×Nat):List (Option Tmp×Value):=
 [(some 16,.pointer (some ⟨n+1,0,none⟩)),(some 17,.int .i64 au),(some 18,.pointer (some ⟨n+1,1,none⟩)),(some 19,S ag),(some 20,.slice (some ⟨x.1,0,none⟩) 0 0),(some 21,.pointer (some ⟨n+1,2,none⟩)),(some 22,.slice ao le cp),(some 23,.slice x.2.1.1 le x.2.1.2),(some 24,.pointer (some ⟨n+1,3,none⟩)),(some 25,S target),(some 26,.agg #[.int .i64 au,S ag,.slice x.2.1.1 le x.2.1.2,S target,.int .i64 0,.string ⟨#[]⟩,.slice none 0 0]),(some 6,.pointer (some ⟨x.2.2,0,none⟩)),(none,undef)]
theorem Nu{au:Int}{ag:af}{target:af}{x:Nat×(Option Addr×Nat)×Nat}:cO (KP n au ag ao le cp target x):=by
 unfold cO;simp
abbrev GG(n le FL cp:Nat)(ao:Option Addr)(e:aT)(xa xx:Value)(x:Nat×(Option Addr×Nat)×Nat×(Option Addr×Nat)):List (Option Tmp×Value):=
 [(some 129,.slice (some ⟨x.1,0,none⟩) 0 0),(some 130,.pointer (some ⟨n,3,none⟩)),(some 131,.slice ao le cp),(some 132,.slice x.2.1.1 le x.2.1.2),(some 133,gN e xa xx),(some 134,.slice (some ⟨x.2.2.1,0,none⟩) 1 1),(some 135,.slice x.2.2.2.1 FL x.2.2.2.2),(some 136,.pointer (some ⟨n,3,none⟩)),(none,undef)]
theorem KQ{FL:Nat}{e:aT}{xa xx:Value}{x:Nat×(Option Addr×Nat)×Nat×(Option Addr×Nat)}:cO (GG n le FL cp ao e xa xx x):=by
 unfold cO;simp
theorem Xv0(I:IH)  (d:ig) (hd:lv n d) (hn:n≤150) (ve vk vt vh:Value) (hr:l5 I d ve vk vt vh) (c:jK) (hc:c.Wf) (Ap:c.aj.length≤1000000) (va:Value) (fq:aZ lD I va c.aj) (w:World) (hw:Ok I w):
 Calls Tryz.prog 34 #[gU d ve vk vt vh,Be c va] w (zu I w (iy d c).1 (iy d c).2):=by
 have Eh:=hd.aU (by omega)
 have dC:=hc.aF
 obtain ⟨sm,zM⟩:∃sm,fA c.aF=sm:=⟨_,rfl⟩
 have zN:=Qh (fun (b:Nat) (W:World) (hc:W.cell? ⟨b,0,none⟩=some (S c.aF))=>(by
  have:=Xir b 0 1 c.aF (by omega) W hc
  rwa [zM] at this:Calls Tryz.prog 70 #[.slice (some ⟨b,0,none⟩) 1 1] W fun e w'=>e= .returned (S sm)∧Below W.heap.size W w'))
 obtain ⟨q2,xs,pn,zV⟩:∃q2 xs pn,jL d.aU c.aF=(q2,xs,pn):=⟨_,_,_,rfl⟩
 have TN:pn=0:=by have:=(Vf Eh dC).2;rw [zV] at this;exact this
 subst TN
 have uW:=Qh (fun J (hk:∀b c,I b=some c→J b=some c) w hw=>(by
  have:=Xq7 4294901760 10000000 (by decide) (by decide) J d.aU vk (hr.aJ.mono hk) ⟨by have:=Eh.s0;omega,by have:=Eh.s1;omega,Eh.str,by have:=hd.aJ;omega,fun k hk=>(Eh.cx k hk).x⟩ c.aF (by omega) w hw
  rwa [zV] at this:Calls Tryz.prog 71 #[fH d.aU vk,S c.aF] w (Fy J w (q2,xs,0))))
 have Hn1:=Qh (fun (h:c.au=1)=>show fI d.aU c=(⟨c.au,c.ag,c.aj,c.target,(c.aF.length:Nat),sm,xs⟩,q2) by rw [fI,if_pos h,zV,zM])
 have Cy:=Qh (fun (h:¬c.au=1)=>show fI d.aU c=(⟨c.au,c.ag,c.aj,c.target,0,[],[]⟩,d.aU) by rw [fI,if_neg h])
 have Jg:=Qh (Vg Eh hc)
 have Hfl:=Qh (Xis d.aU c)
 have tJ:=Qh (YT Eh dC)
 have nV:=hc.ag
 have xh:=hc.target
 have jk:=Qh hd.st
 have xm:=hd.aB
 have Hr:=Qh hr
 have Qx:=Qh fq
 have si:=Qh (show (Tryz.prog.info? 43).map (·.size)=some 9 by kernel_rfl)
 obtain ⟨eo,ec,rfl,_,_,_⟩:=id hr.aB
 obtain ⟨ko,kc,rfl,_,_,_⟩:=id hr.aJ
 obtain ⟨tt,tc,rfl,_,_,_⟩:=id hr.aI
 obtain ⟨ho,iw,rfl,_,_,_⟩:=id hr.holds
 obtain ⟨ao,ac,rfl,_,_,_⟩:=id fq
 obtain ⟨W3,Gi⟩:∃W3,(((w.alloc (.cells #[.int .i64 d.num,.int .i64 d.aG,S d.bR,.slice eo d.aB.length ec,.slice ko d.aU.aJ.length kc,.int .i64 d.aU.aV,S d.aU.str,.slice tt d.aI.length tc,.slice ho d.holds.length iw] 43)).alloc (.cells #[.int .i64 c.au,S c.ag,.slice ao c.aj.length ac,S c.target,S c.aF] 25)).alloc (.cells bE 43))=W3:=⟨_,rfl⟩
 obtain ⟨pJ,Ji,G7,pz⟩:=Xev w _ _ _ _ _ _ W3 Gi
 have A3:=Qh (show mH I w I W3 by rw [←Gi];exact (((mH.start hw).past _).past _).past _)
 have Pt:=Qh Ji
 have Sv:=Qh G7
 have Sw:=Qh pz
 obtain ⟨g0,g1,g2,g3,g4⟩:=chgB_row G7
 have FH:=Qh (fun b (h:w.heap.size≤b)=>hw.fresh h)
 clear hr fq Ji G7 pz Eh zV zM hc
 go_enter Tryz.func34,Tryz.ntmps34
 go_wp2_with fail
 clear Gi
 refine yz (X:=Nat × (Option Addr × Nat) × Nat) (KP w.heap.size c.au c.ag ao c.aj.length ac c.target) (nL W3 4 7 7 235 11 236 227 237 (fun _ _=>True) (fun x w=>aK lD 107 I w W3.heap.size (.slice (some ⟨x.1,0,none⟩) 0 0) []) (fun x w=>aK lD 107 I w W3.heap.size (.slice x.2.1.1 c.aj.length x.2.1.2) c.aj) (fun x w=>w.heap[x.2.2]? =some (.cells bH 81 (0,0))∧W3.heap.size≤x.2.2) (fun _ _=>True) (fun x w=>aK lD 107 I w W3.heap.size (.slice x.2.1.1 c.aj.length x.2.1.2) c.aj∧(w.heap[x.2.2]? =some (.cells bH 81 (0,0))∧W3.heap.size≤x.2.2)) (fun x=>x.2.2) 81 12 214 215 (fun x=> #[.int .i64 c.au,S c.ag,.slice x.2.1.1 c.aj.length x.2.1.2,S c.target,.int .i64 0,.string ⟨#[]⟩,.slice none 0 0]) (fun x=> #[.int .i64 c.au,S c.ag,.slice x.2.1.1 c.aj.length x.2.1.2,S c.target,.int .i64 0,.string ⟨#[]⟩,.slice none 0 0]) (fun x=> #[.int .i64 c.au,S c.ag,.slice x.2.1.1 c.aj.length x.2.1.2,S c.target,.int .i64 0,.string ⟨#[]⟩,.slice none 0 0])) (by kernel_rfl) (by kernel_rfl) ?_ ?_ ?_
 ·exact ⟨(0,default,0),nL.start _ _ trivial⟩
 ·rintro x s' a' w' i dM dC ha hC hi
  obtain ⟨aN,oi,fP,aC⟩:=mem_ready.1 hi
  have ev:=Je Nu ha
  have hlt:=u6 aN
  rcases i with _|_|_|_|_|_|_|_|_|_|_|_|_|i
  rotate_left 13
  ·simp at fP
  all_goals
   have dV:=fP
   simp at fP
   subst fP
   simp [Region.binds] at aC
   try have hl:=tO 6 12 dC (by decide +kernel) aN
   try have cu:=hC.off hl
   try have g0:=bK cu g0
   try have g1:=bK cu g1
   try have g2:=bK cu g2
   try have g3:=bK cu g3
   refine wpOp_step dV (fun K' hK=> ?_)
   rw [if_pos (by rfl)]
  rotate_left 4
  ·unfold Oper.wp
   simp [go_sem,ev,ik,aC,Oper.upon,g0,g1,g2,g3]
   have ha:=ha.trans (uq (L:=KP w.heap.size c.au c.ag ao c.aj.length ac c.target x) (M:=KP w.heap.size c.au c.ag ao c.aj.length ac c.target (w'.heap.size,x.2)) [4] rfl (fun j bn=>by
    rcases j with _|_|_|_|_|_|_|_|_|_|_|_|_|j<;>first|rfl|(exact absurd (by decide) bn)|simp) (List.forall_mem_cons.2 ⟨jZ aN,List.forall_mem_nil _⟩))
   exact hK _ _ ⟨(w'.heap.size,x.2),mF Nu ha rfl aN,hC.step hl (cu.trans (((Qb _ _).alloc (Qn _) _).mono cu.size)) (by decide) (fun _=>trivial) (fun _ _=>(SF w').lower cu.size) (fun h _=>h.elim (fun e=>absurd e (by decide)) (fun ⟨_,_,q⟩=>q.alloc _)) (fun h _=>h.elim (fun e=>absurd e (by decide)) (fun ⟨_,_,q⟩=>⟨(Below.heap_alloc _ _ _ (Qg q.1)).trans q.1,q.2⟩)) (fun _ _=>trivial) hlt⟩
  rotate_left 2
  ·have h1:=hC.f1 (by first|simpa using aC|simp [aC]) (jZ aN) hl
   refine Mt Xqs _ _ rfl (by simp [Act.eval,ev,ik,aC]) h1 (by simp [Act.eval,ev,ik,aC]) (iV.uO Qx.O (A3.O.ok.below (Qn _) cu) (by decide)) (by simp only [List.length_nil];omega) (by simp only [List.length_nil];omega) cu.size ?_
   rintro v9 w9 j5 bP jf
   rw [List.nil_append] at j5
   obtain ⟨a9,k9,rfl⟩:=Dk j5
   have ha:=ha.trans (uq (L:=KP w.heap.size c.au c.ag ao c.aj.length ac c.target x) (M:=KP w.heap.size c.au c.ag ao c.aj.length ac c.target (x.1,(a9,k9),x.2.2)) [7,10] rfl (fun j bn=>by
    rcases j with _|_|_|_|_|_|_|_|_|_|_|_|_|j<;>first|rfl|(exact absurd (by decide) bn)|simp) (List.forall_mem_cons.2 ⟨jZ aN,List.forall_mem_cons.2 ⟨tO 6 10 dC (by kernel_rfl) aN,List.forall_mem_nil _⟩⟩))
   exact hK _ _ ⟨(x.1,(a9,k9),x.2.2),mF Nu ha rfl aN,hC.step hl (cu.grown bP cu.size (fun k e=>(zZ h1 e).1)) (by decide) (fun _=>trivial) (fun _ h=>absurd rfl h) (fun _ _=>j5) (fun h _=>h.elim (fun e=>absurd e (by decide)) (fun ⟨_,_,q⟩=>⟨(bP.block _ (Qg q.1) (fun e=>zm h1 q.1 (by decide) e.symm)).trans q.1,q.2⟩)) (fun _ _=>trivial) hlt⟩
  rotate_left 3
  ·unfold Oper.wp
   simp [go_sem,ev,ik,aC,Oper.upon,g0,g1,g2,g3]
   have ha:=ha.trans (uq (L:=KP w.heap.size c.au c.ag ao c.aj.length ac c.target x) (M:=KP w.heap.size c.au c.ag ao c.aj.length ac c.target (x.1,x.2.1,w'.heap.size)) [11] rfl (fun j bn=>by
    rcases j with _|_|_|_|_|_|_|_|_|_|_|_|_|j<;>first|rfl|(exact absurd (by decide) bn)|simp) (List.forall_mem_cons.2 ⟨jZ aN,List.forall_mem_nil _⟩))
   exact hK _ _ ⟨(x.1,x.2.1,w'.heap.size),mF Nu ha rfl aN,hC.step hl (cu.trans (((Qb _ _).alloc (Qn _) _).mono cu.size)) (by decide) (fun _=>trivial) (fun h _=>h.elim (fun e=>absurd e (by decide)) (fun ⟨_,_,q⟩=>q.alloc _)) (fun h _=>h.elim (fun e=>absurd e (by decide)) (fun ⟨_,_,q⟩=>q.alloc _)) (fun _ _=>⟨heap_alloc_new _ _,cu.size⟩) (fun _ _=>trivial) hlt⟩
  ·have aS:w'.heap[x.2.2]? =some (.cells _ 81 (0,0)):=(hC.f3 (by first|simpa using aC|simp [aC]) (mI (by simp [dM])) hl).1
   refine wE 81 _ _ rfl (x.2.2) 0 [.int .i64 c.au,S c.ag,.slice x.2.1.1 c.aj.length x.2.1.2,S c.target,.int .i64 0,.string ⟨#[]⟩,.slice none 0 0] (.agg #[.int .i64 c.au,S c.ag,.slice x.2.1.1 c.aj.length x.2.1.2,S c.target,.int .i64 0,.string ⟨#[]⟩,.slice none 0 0]) (by simp [Act.eval,ev,ik,aC]) (by simp [Act.eval,ev,ik,aC]) (by rfl) _ _ aS (by simp) (by kernel_rfl) (by simp [Value.oneCell']) ?_
   exact hK _ _ ⟨x,eO (d:=none) (v:=undef) Nu ha rfl aN,hC.pQ aN ⟨hC.f2 (by first|simpa using aC|simp [aC]) (mI (by simp [dM])) hl,hC.f3 (by first|simpa using aC|simp [aC]) (mI (by simp [dM])) hl⟩ (mI (by simp [dM])) (mI (by simp [dM])) (by decide) aS (by rfl)⟩
  all_goals
   unfold Oper.wp
   first
   |(simp [go_sem,ev,ik,aC,Oper.upon,g0,g1,g2,g3];exact hK _ _ ⟨x,mF Nu ha rfl aN,hC.pure (by decide)⟩)
   |(simp [go_sem,ev,ik,Oper.upon,g0,g1,g2,g3];exact hK _ _ ⟨x,mF Nu ha rfl aN,hC.pure (by decide)⟩)
 ·rintro x s' a' w4 gz ha hC
  obtain ⟨wb,gV,kr,gI,aS⟩:=hC.on (gz 12 (by decide))
  simp only [ite_self] at aS
  rw [xL _ _ _ _ (fun i hi=>by rw [Nat.zero_add];exact gz i (by simpa using hi))] at ha
  subst ha
  simp only [eH,Act.put,List.setIfInBounds_toArray,List.set_cons_succ,List.set_cons_zero]
  obtain ⟨xe,⟨kN,k7⟩,m⟩:=x
  dsimp only at kr gI aS ⊢
  obtain ⟨wG,wF⟩:=kr
  have bn:=zm wG wF.1 (by decide)
  have I8:=wG.kept gI (.inr bn)
  have hm:w.heap.size+3≤m:=by have:=wF.2;omega
  have vM:=(Qg aS)
  have bU:Ok I w4:=(A3.O.ok.below (Qn _) gV).grown gI (fun g e=>by injection e with e;exact FH.O _ (by omega))
  have aR:Below w.heap.size w w4:=(A3.O.eY.trans (gV.mono A3.O.size)).grown gI (by have:=gV.size;omega) (fun k e=>by injection e with e;omega)
  obtain ⟨J,yA,nJ,Dl,Kz⟩:=I8.freeze bU (fun b hb=>FH.O _ (by omega))
  have M1:=Qh (show ∀b,b<w.heap.size+3→w4.heap[b]? =W3.heap[b]? from fun b hb=>(gI.block _ (by have:=gV.size;omega) (fun e=>by injection e with e;omega)).trans (gV.block _ (by omega)))
  have Fj:J m=none:=by rw [Kz m bn];exact FH.O _ (by omega)
  have HJ:=Qh (show mH I w J w4∧Ext w.heap.size I J∧J (w.heap.size+2)=none∧J w.heap.size=none from ⟨⟨nJ,yA.keep hw (by omega),aR⟩,yA.mono (by omega),(yA _ (by omega)).trans (FH.O _ (by omega)),(yA _ (by omega)).trans (FH.O _ (by omega))⟩)
  have HrJ:=Qh Dl
  have Ch:=Qh aS
  obtain ⟨b0,b1,b2,b3,b4,b5,b6,b7,b8⟩:=drB_row (d:=d) ((M1.O _ (by omega)).trans Pt.O)
  clear hC gz gI gV wG wF bn I8 bU aR yA nJ Dl Kz aS g0 g1 g2 g3 g4
  go_upto_region 3 with (refine kC rfl rfl 40 _ _ rfl w4.heap.size 0 [.slice ko d.aU.aJ.length kc,.int .i64 d.aU.aV,S d.aU.str] (fH d.aU (.slice ko d.aU.aJ.length kc)) (by simp [Act.eval]) (by simp [Act.eval]) (by rfl) #[.slice none 0 0,.int .i64 0,.string ⟨#[]⟩] 40 (heap_alloc_new _ _) (by simp) (by kernel_rfl) (by simp [Value.oneCell']) #[.slice ko d.aU.aJ.length kc,.int .i64 d.aU.aV,S d.aU.str] (by rfl) ?_
                         intro w5 hg5 wY)
  have bM:Below w4.heap.size w4 w5:=((Qb _ _).alloc (Qn _) _).grown hg5 (by simp) (fun k e=>by injection e with e;omega)
  have WA:=(Qg wY)
  have M:=Qh (show Eg I w d (.slice eo d.aB.length ec) (.slice ko d.aU.aJ.length kc) (.slice tt d.aI.length tc) (.slice ho d.holds.length iw) c (.slice ao c.aj.length ac) ⟨c.au,c.ag,c.aj,c.target,0,[],[]⟩ (.slice kN c.aj.length k7) (.slice none 0 0) d.aU (.slice ko d.aU.aJ.length kc) m w4.heap.size J w5 from by
   have hz:∀b,b<w.heap.size+3→w5.heap[b]? =W3.heap[b]? :=fun b hb=>(bM.block _ (by omega)).trans (M1.O b hb)
   exact ⟨HJ.O.1.quiet bM,HJ.O.2.1,HJ.O.2.2.1,HJ.O.2.2.2,(hz _ (by omega)).trans Pt.O,chgB_row ((hz _ (by omega)).trans Sv.O),(hz _ (by omega)).trans Sw.O,entB_row ((bM.block _ vM).trans Ch.O),stoB_row wY,HrJ.O,aZ.nil _ _,Hr.O.aJ.mono HJ.O.1.keep⟩)
  have MC:=Qh ((bM.block _ vM).trans Ch.O)
  have SG:J w4.heap.size=none:=HJ.O.1.ok.fresh (Qn _)
  clear hg5 bM b0 b1 b2 b3 b4 b5 b6 b7 b8 M1 Ch HrJ Pt Sv Sw
  obtain ⟨g0,g1,g2,g3,g4⟩:=M.O.cg
  clear HJ
  go_upto_if 31 with fail
  go_cut [] (fun wx=>RcM I w d (.slice eo d.aB.length ec) (.slice ko d.aU.aJ.length kc) (.slice tt d.aI.length tc) (.slice ho d.holds.length iw) c (.slice ao c.aj.length ac) m w4.heap.size wx)
  case first=>
   by_cases hk:c.au=1
   case neg=>
    have f1:(c.au==1)=false:=by simpa using hk
    have Hn:=Qh (Cy.O hk)
    clear hk
    go_wp2_with fail
    go_meet
    exact ⟨_,_,kN,k7,none,0,ko,kc,J,Hn.O,M.O⟩
   case pos=>
    have f1:(c.au==1)=true:=by simpa using hk
    have Hn:=Qh (Hn1.O hk)
    have dle:decide ((c.aF.length:Int)≤65536)=true:=Qt (by omega)
    clear hk
    obtain ⟨R2,hR2⟩:∃R2,R2=(#[.int .i64 c.au,S c.ag,.slice kN c.aj.length k7,S c.target,.int .i64 (c.aF.length:Int),S sm,.slice none 0 0]:Array Value):=⟨_,rfl⟩
    go_wp2_with (refine kC rfl rfl 3 _ _ rfl m 4 [.int .i64 (c.aF.length:Int)] (.int .i64 (c.aF.length:Int)) (by simp [Act.eval]) (by simp [Act.eval]) (by rfl) _ 81 MC.O (by simp) (by kernel_rfl) (by simp [Value.oneCell']) #[.int .i64 c.au,S c.ag,.slice kN c.aj.length k7,S c.target,.int .i64 (c.aF.length:Int),.string ⟨#[]⟩,.slice none 0 0] (by rfl) ?_
                 intro w6 Cz tC
                 have OO:=Cz.size
                 have g4:w6.cell? ⟨w.heap.size+1,4,none⟩=some (S c.aF):=jo Cz (by simp;omega) g4)
    refine (zN.O w6.heap.size _ (by simp)).mono ?_
    rintro e7 w7 ⟨rfl,ji⟩
    have zP:=ji.size
    rw [World.size_alloc] at zP
    have aaj:=(Qg tC)
    have nM:=(ji.block m (by simp;omega)).trans ((Below.heap_alloc _ _ _ aaj).trans tC)
    have VM:∀b,b<w5.heap.size→b≠m→w7.heap[b]? =w5.heap[b]? :=fun b hb hn=>(ji.block b (by simp;omega)).trans ((Below.heap_alloc _ _ _ (by omega)).trans (Cz.block b hb (fun h=>by injection h with h;omega)))
    have hQ7:=(VM w4.heap.size (by omega) (by omega)).trans wY
    have A7:=Qh (show mH I w J w7 from ((show mH I w J w6 from ⟨M.O.at_.ok.grown Cz (fun g h=>by injection h with h;subst h;exact Fj),M.O.at_.keep,M.O.at_.eY.grown Cz M.O.at_.size (fun k h=>by injection h with h;omega)⟩).past _).quiet ji)
    obtain ⟨b0,b1,b2,b3,b4,b5,b6,b7,b8⟩:=drB_row (d:=d) ((VM _ (by omega) (by omega)).trans M.O.dr)
    have g4:w7.cell? ⟨w.heap.size+1,4,none⟩=some (S c.aF):=(World.cell?_of_block (VM (w.heap.size+1) (by omega) (by omega))).trans M.O.cg.c4
    go_wp2_with (refine kC rfl rfl 9 _ _ rfl m 5 [S sm] (S sm) (by simp [Act.eval]) (by simp [Act.eval]) (by rfl) _ 81 nM (by simp) (by kernel_rfl) (by simp [Value.oneCell']) R2 (by rw [hR2];rfl) ?_
                 intro w8 qN SH
                 have b4:=jo qN (by simp;omega) b4
                 have b5:=jo qN (by simp;omega) b5
                 have b6:=jo qN (by simp;omega) b6
                 have g4:=jo qN (by simp;omega) g4)
    have O0:=qN.size
    have A8:=Qh (show mH I w J w8 from ⟨A7.O.ok.grown qN (fun g h=>by injection h with h;subst h;exact Fj),A7.O.keep,A7.O.eY.grown qN A7.O.size (fun k h=>by injection h with h;omega)⟩)
    have D5:∀b,b<w5.heap.size→b≠m→w8.heap[b]? =w5.heap[b]? :=fun b hb hn=>(qN.block b (by omega) (fun h=>by injection h with h;omega)).trans (VM b hb hn)
    refine (uW.O J A8.O.keep w8 A8.O.ok).mono ?_
    rintro e9 w9 ⟨vk9,vx9,J9,rfl,gP,CB,tY,Gz,G6⟩
    obtain ⟨Bc,Bd,rfl,_,_,_⟩:=id Gz
    obtain ⟨x8,x9,rfl,_,_,_⟩:=id G6
    have Cj:=gP.size
    have hQ9:=(gP.block w4.heap.size (by omega)).trans ((D5 w4.heap.size (by omega) (by omega)).trans wY)
    have Gu:=(gP.block m (by omega)).trans SH
    rw [hR2] at Gu
    clear b0 b1 b2 b3 b4 b5 b6 b7 b8 g0 g1 g2 g3 g4 wY nM SH hQ7 hR2
    go_wp2_with (first
     |(refine kC rfl rfl 40 _ _ rfl w4.heap.size 0 [.slice Bc q2.aJ.length Bd,.int .i64 q2.aV,S q2.str] (fH q2 (.slice Bc q2.aJ.length Bd)) (by simp [Act.eval]) (by simp [Act.eval]) (by rfl) _ 40 hQ9 (by simp) (by kernel_rfl) (by simp [Value.oneCell']) #[.slice Bc q2.aJ.length Bd,.int .i64 q2.aV,S q2.str] (by rfl) ?_
       intro oF zx FN)
     |(refine kC rfl rfl 79 _ _ rfl m 6 [.slice x8 xs.length x9] (.slice x8 xs.length x9) (by simp [Act.eval]) (by simp [Act.eval]) (by rfl) _ 81 ((zx.block _ (by omega) (fun h=>by injection h with h;omega)).trans Gu) (by simp) (by kernel_rfl) (by simp [Value.oneCell']) #[.int .i64 c.au,S c.ag,.slice kN c.aj.length k7,S c.target,.int .i64 (c.aF.length:Int),S sm,.slice x8 xs.length x9] (by rfl) ?_
       intro wJ vE Du))
    go_meet
    have FO:=zx.size
    have VN:=CB.keep A8.O.ok (Qn _)
    have hz:∀b,b<w5.heap.size→b≠m→b≠w4.heap.size→wJ.heap[b]? =w5.heap[b]? :=fun b hb hn h4=>(vE.block b (by omega) (fun h=>by injection h with h;omega)).trans ((zx.block b (by omega) (fun h=>by injection h with h;omega)).trans ((gP.block b (by omega)).trans (D5 b hb hn)))
    have j4:J9 w4.heap.size=none:=(CB _ (by omega)).trans SG
    have jm:J9 m=none:=(CB _ (by omega)).trans Fj
    have A9:=A8.O.ext gP CB tY
    exact ⟨_,_,kN,k7,x8,x9,Bc,Bd,J9,Hn.O,⟨(A9.ok.grown zx (fun g h=>by injection h with h;subst h;exact j4)).grown vE (fun g h=>by injection h with h;subst h;exact jm),A9.keep,(A9.eY.grown zx (by omega) (fun k h=>by injection h with h;omega)).grown vE (by omega) (fun k h=>by injection h with h;omega)⟩,
     M.O.ext.trans CB (by omega),(CB _ (by omega)).trans M.O.no,(CB _ (by omega)).trans M.O.VL,(hz _ (by omega) (by omega) (by omega)).trans M.O.dr,⟨(World.cell?_of_block (hz (w.heap.size+1) (by omega) (by omega) (by omega))).trans M.O.cg.c0,(World.cell?_of_block (hz (w.heap.size+1) (by omega) (by omega) (by omega))).trans M.O.cg.c1,(World.cell?_of_block (hz (w.heap.size+1) (by omega) (by omega) (by omega))).trans M.O.cg.c2,(World.cell?_of_block (hz (w.heap.size+1) (by omega) (by omega) (by omega))).trans M.O.cg.c3,(World.cell?_of_block (hz (w.heap.size+1) (by omega) (by omega) (by omega))).trans M.O.cg.c4⟩,
     (hz _ (by omega) (by omega) (by omega)).trans M.O.O,entB_row Du,stoB_row ((vE.block _ (by omega) (fun h=>by injection h with h;omega)).trans FN),M.O.ra.mono VN,G6,Gz⟩
  case rest=>
  obtain ⟨e,q,a1,k1,a2,k2,a3,k3,J,oZ,hM⟩:=hcut
  have M:=Qh hM
  have fo:=Qh (Xs8 oZ)
  have l7:e.Wf:=by have:=Jg.O;rw [oZ] at this;exact this
  have aak:e.ag.length≤4294967280:=by have:=Hfl.O.2.1;rw [oZ] at this;show _≤_;rw [show e.ag=c.ag from this];exact nV
  have nD:e.aA.length≤65536:=by have:=tJ.O.len;rw [oZ] at this;exact Nat.le_trans this dC
  have mg:=Qh (fun J xa xx zT zw w hw=>Xg9 J e xa xx zT zw l7 w hw)
  rw [Xi7 (by omega)] at mg
  have FM:=Qh (fun J (hk:∀b c,I b=some c→J b=some c) xa xx zT zw w hw=>Xms J (.slice tt d.aI.length tc) d.aI (Hr.O.aI.mono hk) jk.O.IX (by have:=jk.O.ok.C8;show d.stt.aI.length≤_;omega) e xa xx zT zw l7 aak (by omega) w hw)
  have Nv:=Qh (fun J (hk:∀b c,I b=some c→J b=some c) w hw=>XF J (.slice tt d.aI.length tc) d.aI (Hr.O.aI.mono hk) e.ag w hw)
  have MM:=Qh (fun J (hk:∀b c,I b=some c→J b=some c) xa xx zT zw w hw=>Xjq J (.slice ho d.holds.length iw) d.holds (Hr.O.holds.mono hk) (by have:=jk.O.ok.hlen;show d.stt.holds.length≤_;omega) e xa xx zT zw d.aG w hw)
  have kK:=Qh (fun J (hk:∀b c,I b=some c→J b=some c) xa xx zT zw (h1:aP e=0) w hw=>Xmr J (.slice ho d.holds.length iw) d.holds (Hr.O.holds.mono hk) jk.O.ok.holds (by have:=jk.O.ok.hlen;show d.stt.holds.length≤_;omega) e xa xx zT zw h1 d.aG w hw)
  clear hM oZ Cy Hn1 uW zN g0 g1 g2 g3 g4 MC SG WA wY Fj
  obtain ⟨x0,x1,x2,x3,x4,x5,x6⟩:=M.O.en
  go_wp2_with fail
  refine (mg.O J _ _ M.O.ra M.O.rx wc M.O.at_.ok).mono ?_
  rintro e0 w0 ⟨rfl,ym⟩
  replace M:=Qh (M.O.quiet ym)
  clear x0 x1 x2 x3 x4 x5 x6 ym mg
  obtain ⟨r,zL⟩:∃r,aP e=r:=⟨_,rfl⟩
  rw [zL] at fo kK ⊢
  go_upto_if 58 with fail
  by_cases h0:r=0
  case neg=>
   have f1:(r != 0)=true:=by simpa using h0
   have Hn:=Qh (fo.O.trans (if_pos h0))
   clear fo h0
   obtain ⟨b0,b1,b2,b3,b4,b5,b6,b7,b8⟩:=drB_row (d:=d) M.O.dr
   have iT:=M.O.O
   go_wp2_with (refine kC rfl rfl 43 _ _ rfl (w.heap.size+2) 0 (dz d (.slice eo d.aB.length ec) (.slice ko d.aU.aJ.length kc) (.slice tt d.aI.length tc) (.slice ho d.holds.length iw)) (gU d (.slice eo d.aB.length ec) (.slice ko d.aU.aJ.length kc) (.slice tt d.aI.length tc) (.slice ho d.holds.length iw)) (by simp [Act.eval]) (by simp [Act.eval]) (by rfl) _ 43 iT (by simp) (by kernel_rfl) (by simp [Value.oneCell']) (dz d (.slice eo d.aB.length ec) (.slice ko d.aU.aJ.length kc) (.slice tt d.aI.length tc) (.slice ho d.holds.length iw)).toArray (by rfl) ?_
                intro w9 bP jX)
   refine bodyPost_ret (v:= .tuple #[gU d (.slice eo d.aB.length ec) (.slice ko d.aU.aJ.length kc) (.slice tt d.aI.length tc) (.slice ho d.holds.length iw),.int .i64 r]) ?_ rfl (M.O.ret Hr.O bP Hn.O)
   rw [results_cell_tmp rfl]
   simp [asAddr,run_loadVar_row w9 (w.heap.size+2) 43 43 _ (0,0) _ jX Tryz.underlying43 rfl si.O]
  subst h0
  replace fo:=Qh (fo.O.trans (if_neg (by decide)))
  obtain ⟨g0,g1,g2,g3,g4⟩:=M.O.cg
  obtain ⟨B,hB⟩:∃B:Bool,decide (c.au≠1∧c.aF≠ [])=B:=⟨_,rfl⟩
  go_upto_region 11 with fail
  go_cut [68] (fun s68 wx=>s68= .bool B∧w0=wx)
  case first=>
   by_cases q2:c.au=1
   ·have i3:(c.au != 1)=false:=by simp [q2]
    have mJ:B=false:=by rw [←hB];exact Qf (fun h=>h.1 q2)
    subst mJ
    clear hB q2
    go_wp2_with fail
    go_meet
    exact ⟨rfl,rfl⟩
   ·have i3:(c.au != 1)=true:=by simpa using q2
    by_cases q1:c.aF= []
    ·have i1:c.aF.isEmpty=true:=by simp [q1]
     have i2:(c.aF== [])=true:=by simp [q1]
     have mJ:B=false:=by rw [←hB];exact Qf (fun h=>h.2 q1)
     subst mJ
     clear hB q1 q2
     go_wp2_with fail
     go_meet
     exact ⟨rfl,rfl⟩
    ·have i1:c.aF.isEmpty=false:=by simpa using q1
     have i2:(c.aF== [])=false:=by simpa using q1
     have mJ:B=true:=by rw [←hB];exact Qt ⟨q2,q1⟩
     subst mJ
     clear hB q1 q2
     go_wp2_with fail
     go_meet
     exact ⟨rfl,rfl⟩
  case rest=>
  obtain ⟨rfl,hcut⟩:=hcut
  subst hcut
  clear g0 g1 g2 g3 g4
  cases B
  case true=>
   have Hn:=Qh (fo.O.trans (if_pos (of_decide_eq_true hB)))
   clear fo hB
   obtain ⟨b0,b1,b2,b3,b4,b5,b6,b7,b8⟩:=drB_row (d:=d) M.O.dr
   have iT:=M.O.O
   go_wp2_with (refine kC rfl rfl 43 _ _ rfl (w.heap.size+2) 0 (dz d (.slice eo d.aB.length ec) (.slice ko d.aU.aJ.length kc) (.slice tt d.aI.length tc) (.slice ho d.holds.length iw)) (gU d (.slice eo d.aB.length ec) (.slice ko d.aU.aJ.length kc) (.slice tt d.aI.length tc) (.slice ho d.holds.length iw)) (by simp [Act.eval]) (by simp [Act.eval]) (by rfl) _ 43 iT (by simp) (by kernel_rfl) (by simp [Value.oneCell']) (dz d (.slice eo d.aB.length ec) (.slice ko d.aU.aJ.length kc) (.slice tt d.aI.length tc) (.slice ho d.holds.length iw)).toArray (by rfl) ?_
                intro w9 bP jX)
   refine bodyPost_ret (v:= .tuple #[gU d (.slice eo d.aB.length ec) (.slice ko d.aU.aJ.length kc) (.slice tt d.aI.length tc) (.slice ho d.holds.length iw),.int .i64 1]) ?_ rfl (M.O.ret Hr.O bP Hn.O)
   rw [results_cell_tmp rfl]
   simp [asAddr,run_loadVar_row w9 (w.heap.size+2) 43 43 _ (0,0) _ jX Tryz.underlying43 rfl si.O]
  replace fo:=Qh (fo.O.trans (if_neg (of_decide_eq_false hB)))
  clear hB
  obtain ⟨y0,y1,y2⟩:=M.O.st
  obtain ⟨b0,b1,b2,b3,b4,b5,b6,b7,b8⟩:=drB_row (d:=d) M.O.dr
  obtain ⟨B,hB⟩:∃B:Bool,decide (400≤d.aB.length∨14680064<q.str.length)=B:=⟨_,rfl⟩
  go_upto_region 13 with fail
  go_cut [79] (fun s79 wx=>s79= .bool B∧w0=wx)
  case first=>
   by_cases q1:400≤d.aB.length
   ·have i1:decide ((400:Int)≤(d.aB.length:Int))=true:=Qt (by omega)
    have mJ:B=true:=by rw [←hB];exact Qt (.inl q1)
    subst mJ
    clear hB q1
    go_wp2_with fail
    go_meet
    exact ⟨rfl,rfl⟩
   ·have i1:decide ((400:Int)≤(d.aB.length:Int))=false:=Qf (by omega)
    by_cases q2:14680064<q.str.length
    ·have i3:decide ((14680064:Int)<(q.str.length:Int))=true:=Qt (by omega)
     have mJ:B=true:=by rw [←hB];exact Qt (.inr q2)
     subst mJ
     clear hB q1 q2
     go_wp2_with fail
     go_meet
     exact ⟨rfl,rfl⟩
    ·have i3:decide ((14680064:Int)<(q.str.length:Int))=false:=Qf (by omega)
     have mJ:B=false:=by rw [←hB];exact Qf (by omega)
     subst mJ
     clear hB q1 q2
     go_wp2_with fail
     go_meet
     exact ⟨rfl,rfl⟩
  case rest=>
  obtain ⟨rfl,hcut⟩:=hcut
  subst hcut
  clear y0 y1 y2
  cases B
  case true=>
   have Hn:=Qh (fo.O.trans (if_pos (of_decide_eq_true hB)))
   clear fo hB b0 b1 b2 b3 b4 b5 b6 b7 b8
   obtain ⟨b0,b1,b2,b3,b4,b5,b6,b7,b8⟩:=drB_row (d:=d) M.O.dr
   have iT:=M.O.O
   go_wp2_with (refine kC rfl rfl 43 _ _ rfl (w.heap.size+2) 0 (dz d (.slice eo d.aB.length ec) (.slice ko d.aU.aJ.length kc) (.slice tt d.aI.length tc) (.slice ho d.holds.length iw)) (gU d (.slice eo d.aB.length ec) (.slice ko d.aU.aJ.length kc) (.slice tt d.aI.length tc) (.slice ho d.holds.length iw)) (by simp [Act.eval]) (by simp [Act.eval]) (by rfl) _ 43 iT (by simp) (by kernel_rfl) (by simp [Value.oneCell']) (dz d (.slice eo d.aB.length ec) (.slice ko d.aU.aJ.length kc) (.slice tt d.aI.length tc) (.slice ho d.holds.length iw)).toArray (by rfl) ?_
                intro w9 bP jX)
   refine bodyPost_ret (v:= .tuple #[gU d (.slice eo d.aB.length ec) (.slice ko d.aU.aJ.length kc) (.slice tt d.aI.length tc) (.slice ho d.holds.length iw),.int .i64 6]) ?_ rfl (M.O.ret Hr.O bP Hn.O)
   rw [results_cell_tmp rfl]
   simp [asAddr,run_loadVar_row w9 (w.heap.size+2) 43 43 _ (0,0) _ jX Tryz.underlying43 rfl si.O]
  replace fo:=Qh (fo.O.trans (if_neg (of_decide_eq_false hB)))
  clear hB
  obtain ⟨x0,x1,x2,x3,x4,x5,x6⟩:=M.O.en
  obtain ⟨t2,r2,BM⟩:∃t2 r2,bS d.aI e=(t2,r2):=⟨_,_,rfl⟩
  obtain ⟨h2,r4,OM⟩:∃h2 r4,appH d.holds e d.aG=(h2,r4):=⟨_,_,rfl⟩
  obtain ⟨al,uI⟩:∃al,jP d.holds e.au e.ag d.aG=al:=⟨_,rfl⟩
  obtain ⟨ye,bx,hgx⟩:∃ye bx,lg d.aI e.ag=(ye,bx):=⟨_,_,rfl⟩
  have sK:sw d.stt e d.aG=if 3<e.au∨bx=true then al else 0:=by
   have h2:=Xr6 d.aI e.ag
   rw [hgx] at h2
   rw [show bx=(ek d.aI e.ag).isSome from h2,←uI]
   rfl
  have Gj:gq d.stt e d.aG=if r2≠0 then (d.stt,r2) else if sw d.stt e d.aG≠0 then (d.stt,sw d.stt e d.aG) else if r4≠0 then (d.stt,r4) else (⟨t2,h2⟩,0):=by
   unfold gq
   rw [show bS d.stt.aI e=(t2,r2) from BM,show appH d.stt.holds e d.aG=(h2,r4) from OM]
  rw [Gj,sK] at fo
  rw [BM] at FM
  rw [OM] at kK
  rw [uI] at MM
  rw [hgx] at Nv
  clear BM OM uI hgx sK Gj
  go_wp2_with fail
  refine (FM.O J M.O.at_.keep _ _ M.O.ra M.O.rx _ M.O.at_.ok).mono ?_
  rintro e4 w5' ⟨vt2,J4,rfl,aR,rT,bU,G8⟩
  have M4:=Qh (M.O.aQ aR rT bU)
  obtain ⟨o4,c4,rfl,_,_,_⟩:=id G8
  clear b0 b1 b2 b3 b4 b5 b6 b7 b8 x0 x1 x2 x3 x4 x5 x6 M aR rT bU FM
  go_upto_if 89 with fail
  by_cases h0:r2=0
  case neg=>
   have f1:(r2 != 0)=true:=by simpa using h0
   have Hn:=Qh (show iy d c=(d,r2) by rw [fo.O,if_pos h0,if_pos h0])
   clear fo h0
   obtain ⟨b0,b1,b2,b3,b4,b5,b6,b7,b8⟩:=drB_row (d:=d) M4.O.dr
   have iT:=M4.O.O
   go_wp2_with (refine kC rfl rfl 43 _ _ rfl (w.heap.size+2) 0 (dz d (.slice eo d.aB.length ec) (.slice ko d.aU.aJ.length kc) (.slice tt d.aI.length tc) (.slice ho d.holds.length iw)) (gU d (.slice eo d.aB.length ec) (.slice ko d.aU.aJ.length kc) (.slice tt d.aI.length tc) (.slice ho d.holds.length iw)) (by simp [Act.eval]) (by simp [Act.eval]) (by rfl) _ 43 iT (by simp) (by kernel_rfl) (by simp [Value.oneCell']) (dz d (.slice eo d.aB.length ec) (.slice ko d.aU.aJ.length kc) (.slice tt d.aI.length tc) (.slice ho d.holds.length iw)).toArray (by rfl) ?_
                intro w9 bP jX)
   refine bodyPost_ret (v:= .tuple #[gU d (.slice eo d.aB.length ec) (.slice ko d.aU.aJ.length kc) (.slice tt d.aI.length tc) (.slice ho d.holds.length iw),.int .i64 r2]) ?_ rfl (M4.O.ret Hr.O bP Hn.O)
   rw [results_cell_tmp rfl]
   simp [asAddr,run_loadVar_row w9 (w.heap.size+2) 43 43 _ (0,0) _ jX Tryz.underlying43 rfl si.O]
  subst h0
  rw [if_neg (show ¬((0:Int)≠0) by decide)] at fo
  obtain ⟨b0,b1,b2,b3,b4,b5,b6,b7,b8⟩:=drB_row (d:=d) M4.O.dr
  obtain ⟨x0,x1,x2,x3,x4,x5,x6⟩:=M4.O.en
  go_wp2_with fail
  refine (Nv.O J4 M4.O.at_.keep _ M4.O.at_.ok).mono ?_
  rintro e5 w6' ⟨vy1,vy2,rfl,GK,Ub,bM⟩
  obtain ⟨ay,cy,rfl,_,_,_⟩:=id GK
  obtain ⟨az,cz,rfl,_,_,_⟩:=id Ub
  clear b0 b1 b2 b3 b4 b5 b6 b7 b8 x0 x1 x2 x3 x4 x5 x6 GK Ub Nv
  have M5:=Qh (M4.O.quiet bM)
  clear M4 bM
  go_upto_region 19 with (refine kC rfl rfl 81 _ _ rfl w6'.heap.size 0 (dI ye (.slice ay ye.aj.length cy) (.slice az ye.aA.length cz)) (gN ye (.slice ay ye.aj.length cy) (.slice az ye.aA.length cz)) (by simp [Act.eval]) (by simp [Act.eval]) (by rfl) bH 81 (heap_alloc_new _ _) (by simp) (by kernel_rfl) (by simp [Value.oneCell']) (jQ ye (.slice ay ye.aj.length cy) (.slice az ye.aA.length cz)) (by rfl) ?_
                          intro w7' gL nM)
  replace M5:=Qh (M5.O.quiet (((Qb _ _).alloc (Qn _) _).grown gL (by simp) (fun k e=>by injection e with e;omega)))
  clear gL nM
  obtain ⟨x0,x1,x2,x3,x4,x5,x6⟩:=M5.O.en
  obtain ⟨B,hB⟩:∃B:Bool,decide (3<e.au∨bx=true)=B:=⟨_,rfl⟩
  go_cut [105] (fun aal wx=>aal= .bool B∧w7'=wx)
  case first=>
   cases bx
   ·by_cases q1:3<e.au
    ·have i1:decide (3<e.au)=true:=Qt q1
     have mJ:B=true:=by rw [←hB];exact Qt (.inl q1)
     subst mJ
     clear hB q1
     go_wp2_with fail
     go_meet
     exact ⟨rfl,rfl⟩
    ·have i1:decide (3<e.au)=false:=Qf q1
     have mJ:B=false:=by rw [←hB];exact Qf (by simp;omega)
     subst mJ
     clear hB q1
     go_wp2_with fail
     go_meet
     exact ⟨rfl,rfl⟩
   ·have mJ:B=true:=by rw [←hB];exact Qt (.inr rfl)
    subst mJ
    clear hB
    go_wp2_with fail
    go_meet
    exact ⟨rfl,rfl⟩
  case rest=>
  obtain ⟨rfl,hcut⟩:=hcut
  subst hcut
  clear x0 x1 x2 x3 x4 x5 x6
  obtain ⟨b0,b1,b2,b3,b4,b5,b6,b7,b8⟩:=drB_row (d:=d) M5.O.dr
  obtain ⟨x0,x1,x2,x3,x4,x5,x6⟩:=M5.O.en
  have Hq:=Qh (show B=true→(if 3<e.au∨bx=true then al else 0)=al from fun h=>if_pos (of_decide_eq_true (hB.trans h)))
  have SI:=Qh (show B=false→(if 3<e.au∨bx=true then al else 0)=0 from fun h=>if_neg (of_decide_eq_false (hB.trans h)))
  obtain ⟨ak,WB⟩:∃ak,(if 3<e.au∨bx=true then al else 0)=ak:=⟨_,rfl⟩
  rw [WB] at Hq SI fo
  clear hB WB
  go_upto_if 105 with fail
  go_cut [] (fun wx=>ak=0∧Eg I w d (.slice eo d.aB.length ec) (.slice ko d.aU.aJ.length kc) (.slice tt d.aI.length tc) (.slice ho d.holds.length iw) c (.slice ao c.aj.length ac) e (.slice a1 e.aj.length k1) (.slice a2 e.aA.length k2) q (.slice a3 q.aJ.length k3) m w4.heap.size J4 wx)
  case first=>
   cases B
   case false=>
    go_wp2_with fail
    go_meet
    exact ⟨(by first|exact SI.O rfl|exact SI.O trivial),M5.O⟩
   case true=>
    have hq:=Qh (Hq.O rfl)
    go_wp2_with fail
    refine (MM.O J4 M5.O.at_.keep _ _ M5.O.ra M5.O.rx _ M5.O.at_.ok).mono ?_
    rintro e8 w8' ⟨rfl,mR⟩
    have M8:=Qh (M5.O.quiet mR)
    clear b0 b1 b2 b3 b4 b5 b6 b7 b8 x0 x1 x2 x3 x4 x5 x6 mR MM M5
    go_upto_if 113 with fail
    by_cases h0:al=0
    case neg=>
     have f1:(al != 0)=true:=by simpa using h0
     have Hn:=Qh (show iy d c=(d,al) by rw [fo.O,hq.O,if_pos h0,if_pos h0])
     clear fo h0 hq Hq SI
     obtain ⟨b0,b1,b2,b3,b4,b5,b6,b7,b8⟩:=drB_row (d:=d) M8.O.dr
     have iT:=M8.O.O
     go_wp2_with (refine kC rfl rfl 43 _ _ rfl (w.heap.size+2) 0 (dz d (.slice eo d.aB.length ec) (.slice ko d.aU.aJ.length kc) (.slice tt d.aI.length tc) (.slice ho d.holds.length iw)) (gU d (.slice eo d.aB.length ec) (.slice ko d.aU.aJ.length kc) (.slice tt d.aI.length tc) (.slice ho d.holds.length iw)) (by simp [Act.eval]) (by simp [Act.eval]) (by rfl) _ 43 iT (by simp) (by kernel_rfl) (by simp [Value.oneCell']) (dz d (.slice eo d.aB.length ec) (.slice ko d.aU.aJ.length kc) (.slice tt d.aI.length tc) (.slice ho d.holds.length iw)).toArray (by rfl) ?_
                  intro w9 bP jX)
     refine bodyPost_ret (v:= .tuple #[gU d (.slice eo d.aB.length ec) (.slice ko d.aU.aJ.length kc) (.slice tt d.aI.length tc) (.slice ho d.holds.length iw),.int .i64 al]) ?_ rfl (M8.O.ret Hr.O bP Hn.O)
     rw [results_cell_tmp rfl]
     simp [asAddr,run_loadVar_row w9 (w.heap.size+2) 43 43 _ (0,0) _ jX Tryz.underlying43 rfl si.O]
    case pos=>
     subst h0
     go_wp2_with fail
     go_meet
     exact ⟨hq.O,M8.O⟩
  case rest=>
  obtain ⟨WB,hM⟩:=hcut
  subst WB
  replace M5:=Qh hM
  rw [if_neg (show ¬((0:Int)≠0) by decide)] at fo
  clear hM Hq SI b0 b1 b2 b3 b4 b5 b6 b7 b8 x0 x1 x2 x3 x4 x5 x6 MM
  obtain ⟨b0,b1,b2,b3,b4,b5,b6,b7,b8⟩:=drB_row (d:=d) M5.O.dr
  obtain ⟨x0,x1,x2,x3,x4,x5,x6⟩:=M5.O.en
  go_wp2_with fail
  refine (kK.O J4 M5.O.at_.keep _ _ M5.O.ra M5.O.rx trivial _ M5.O.at_.ok).mono ?_
  rintro e6 w6 ⟨vh2,J6,rfl,fF,Ew,iO,KO⟩
  have M6:=Qh (M5.O.aQ fF Ew iO)
  have Np:=G8.mono (Ew.keep M5.O.at_.ok (Qn _))
  obtain ⟨o6,c6,rfl,_,_,_⟩:=id KO
  clear b0 b1 b2 b3 b4 b5 b6 b7 b8 x0 x1 x2 x3 x4 x5 x6 M5 fF Ew iO kK G8
  go_upto_if 126 with fail
  by_cases h0:r4=0
  case neg=>
   have f1:(r4 != 0)=true:=by simpa using h0
   have Hn:=Qh (show iy d c=(d,r4) by rw [fo.O,if_pos h0,if_pos h0])
   clear fo h0
   obtain ⟨b0,b1,b2,b3,b4,b5,b6,b7,b8⟩:=drB_row (d:=d) M6.O.dr
   have iT:=M6.O.O
   go_wp2_with (refine kC rfl rfl 43 _ _ rfl (w.heap.size+2) 0 (dz d (.slice eo d.aB.length ec) (.slice ko d.aU.aJ.length kc) (.slice tt d.aI.length tc) (.slice ho d.holds.length iw)) (gU d (.slice eo d.aB.length ec) (.slice ko d.aU.aJ.length kc) (.slice tt d.aI.length tc) (.slice ho d.holds.length iw)) (by simp [Act.eval]) (by simp [Act.eval]) (by rfl) _ 43 iT (by simp) (by kernel_rfl) (by simp [Value.oneCell']) (dz d (.slice eo d.aB.length ec) (.slice ko d.aU.aJ.length kc) (.slice tt d.aI.length tc) (.slice ho d.holds.length iw)).toArray (by rfl) ?_
                intro w9 bP jX)
   refine bodyPost_ret (v:= .tuple #[gU d (.slice eo d.aB.length ec) (.slice ko d.aU.aJ.length kc) (.slice tt d.aI.length tc) (.slice ho d.holds.length iw),.int .i64 r4]) ?_ rfl (M6.O.ret Hr.O bP Hn.O)
   rw [results_cell_tmp rfl]
   simp [asAddr,run_loadVar_row w9 (w.heap.size+2) 43 43 _ (0,0) _ jX Tryz.underlying43 rfl si.O]
  subst h0
  have Hn:=Qh (show iy d c=(⟨d.num,d.aG,d.bR,d.aB++ [e],q,t2,h2⟩,0) by rw [fo.O];rfl)
  clear fo
  have b3:=(drB_row (d:=d) M6.O.dr).c3
  obtain ⟨x0,x1,x2,x3,x4,x5,x6⟩:=M6.O.en
  have OO:=M6.O.at_.size
  have ER:=(Qg M6.O.dr)
  have jh:=(Qg M6.O.O)
  go_wp2_with fail
  refine yz (X:=Nat × (Option Addr × Nat) × Nat × (Option Addr × Nat)) (GG w.heap.size d.aB.length ((d.aB++ [e]).length) ec eo e (.slice a1 e.aj.length k1) (.slice a2 e.aA.length k2)) (nL w6 0 3 3 6 5 6 6 233 (fun x w=>x.2.2.1<w.heap.size) (fun x w=>aK bQ 81 J6 w w6.heap.size (.slice (some ⟨x.1,0,none⟩) 0 0) ([])∧x.1≠x.2.2.1) (fun x w=>aK bQ 81 J6 w w6.heap.size (.slice x.2.1.1 d.aB.length x.2.1.2) (d.aB)∧(Value.slice x.2.1.1 d.aB.length x.2.1.2).ownBlock≠some x.2.2.1) (fun x w=>w.heap[x.2.2.1]? =some (.cells (jQ e (.slice a1 e.aj.length k1) (.slice a2 e.aA.length k2)) 81 (0,0))) (fun x w=>aK bQ 81 J6 w w6.heap.size (.slice x.2.2.2.1 (d.aB++ [e]).length x.2.2.2.2) (d.aB++ [e])) (fun x w=>aK bQ 81 J6 w w6.heap.size (.slice x.2.2.2.1 (d.aB++ [e]).length x.2.2.2.2) (d.aB++ [e])) (fun x=>w.heap.size) 43 8 210 211 (fun x=> #[.int .i64 d.num,.int .i64 d.aG,S d.bR,.slice x.2.2.2.1 (d.aB++ [e]).length x.2.2.2.2,.slice ko d.aU.aJ.length kc,.int .i64 d.aU.aV,S d.aU.str,.slice tt d.aI.length tc,.slice ho d.holds.length iw]) (fun x=> #[.int .i64 d.num,.int .i64 d.aG,S d.bR,.slice x.2.2.2.1 (d.aB++ [e]).length x.2.2.2.2,.slice ko d.aU.aJ.length kc,.int .i64 d.aU.aV,S d.aU.str,.slice tt d.aI.length tc,.slice ho d.holds.length iw]) (fun x=> #[.int .i64 d.num,.int .i64 d.aG,S d.bR,.slice x.2.2.2.1 (d.aB++ [e]).length x.2.2.2.2,.slice ko d.aU.aJ.length kc,.int .i64 d.aU.aV,S d.aU.str,.slice tt d.aI.length tc,.slice ho d.holds.length iw])) (by kernel_rfl) (by kernel_rfl) ?_ ?_ ?_
  ·exact ⟨(0,default,0,default),nL.start _ _ (show 0<w6.heap.size by omega)⟩
  ·rintro x s' a' w' i dM dC ha hC hi
   obtain ⟨aN,oi,fP,aC⟩:=mem_ready.1 hi
   have ev:=Je KQ ha
   have hlt:=u6 aN
   rcases i with _|_|_|_|_|_|_|_|_|i
   rotate_left 9
   ·simp at fP
   all_goals
    have dV:=fP
    simp at fP
    subst fP
    simp [Region.binds] at aC
    try have hl:=tO 6 8 dC (by decide +kernel) aN
    try have cu:=hC.off hl
    try have b3:=bK cu b3
    try have x0:=bK cu x0
    try have x1:=bK cu x1
    try have x2:=bK cu x2
    try have x3:=bK cu x3
    try have x4:=bK cu x4
    try have x5:=bK cu x5
    try have x6:=bK cu x6
    refine wpOp_step dV (fun K' hK=> ?_)
    rw [if_pos (by rfl)]
   ·unfold Oper.wp
    simp [go_sem,ev,ik,aC,Oper.upon,b3,x0,x1,x2,x3,x4,x5,x6]
    have ha:=ha.trans (uq (L:=GG w.heap.size d.aB.length ((d.aB++ [e]).length) ec eo e (.slice a1 e.aj.length k1) (.slice a2 e.aA.length k2) x) (M:=GG w.heap.size d.aB.length ((d.aB++ [e]).length) ec eo e (.slice a1 e.aj.length k1) (.slice a2 e.aA.length k2) (w'.heap.size,x.2)) [0] rfl (fun j bn=>by
     rcases j with _|_|_|_|_|_|_|_|_|j<;>first|rfl|(exact absurd (by decide) bn)|simp) (List.forall_mem_cons.2 ⟨jZ aN,List.forall_mem_nil _⟩))
    exact hK _ _ ⟨(w'.heap.size,x.2),mF KQ ha rfl aN,hC.step hl (cu.trans (((Qb _ _).alloc (Qn _) _).mono cu.size)) (by decide) (fun h=>by have h9:x.2.2.1<w'.heap.size:=h;simp;omega) (fun _ _=>⟨(SF w').lower cu.size,fun q=>by have h9:x.2.2.1<w'.heap.size:=hC.inv hl;have q9:w'.heap.size=x.2.2.1:=q;omega⟩) (fun h _=>h.elim (fun e=>absurd e (by decide)) (fun ⟨_,_,q⟩=>⟨q.1.alloc _,q.2⟩)) (fun h _=>h.elim (fun e=>absurd e (by decide)) (fun ⟨_,_,q⟩=>(Below.heap_alloc _ _ _ (Qg q)).trans q)) (fun h _=>h.elim (fun e=>absurd e (by decide)) (fun ⟨_,_,q⟩=>q.alloc _)) hlt⟩
   rotate_left 2
   ·have h1:=hC.f1 (by first|simpa using aC|simp [aC]) (jZ aN) hl
    have OB:=tO 6 6 dC (by decide +kernel) aN
    refine Mt vN _ _ rfl (by simp [Act.eval,ev,ik,aC]) h1.1 (by simp [Act.eval,ev,ik,aC]) (iV.uO (Hr.O.aB.mono M6.O.at_.keep) (M6.O.at_.ok.below (Qn _) cu) (by decide)) (by simp only [List.length_nil];omega) (by simp only [List.length_nil];omega) cu.size ?_
    rintro v9 w9 j5 bP jf
    rw [List.nil_append] at j5
    obtain ⟨a9,k9,rfl⟩:=Dk j5
    have ha:=ha.trans (uq (L:=GG w.heap.size d.aB.length ((d.aB++ [e]).length) ec eo e (.slice a1 e.aj.length k1) (.slice a2 e.aA.length k2) x) (M:=GG w.heap.size d.aB.length ((d.aB++ [e]).length) ec eo e (.slice a1 e.aj.length k1) (.slice a2 e.aA.length k2) (x.1,(a9,k9),x.2.2)) [3] rfl (fun j bn=>by
     rcases j with _|_|_|_|_|_|_|_|_|j<;>first|rfl|(exact absurd (by decide) bn)|simp) (List.forall_mem_cons.2 ⟨jZ aN,List.forall_mem_nil _⟩))
    exact hK _ _ ⟨(x.1,(a9,k9),x.2.2),mF KQ ha rfl aN,hC.step hl (cu.grown bP cu.size (fun k e=>(zZ h1.1 e).1)) (by decide) (fun h=>Nat.lt_of_lt_of_le h bP.size) (fun _ h=>absurd rfl h) (fun _ _=>⟨j5,fun q=>(jf _ q).elim (fun q=>h1.2 (Option.some.inj q)) (fun q=>by have h9:x.2.2.1<w'.heap.size:=hC.inv hl;have q9:w'.heap.size≤x.2.2.1:=q;omega)⟩) (fun h _=>h.elim (fun e=>absurd e (by decide)) (fun ⟨_,_,q⟩=>(bP.block _ (Qg q) (fun e=>h1.2 (Option.some.inj e.symm))).trans q)) (fun h _=>h.elim (fun e=>absurd e (by decide)) (fun q=>by rw [OB] at q;exact absurd q.1 (by decide))) hlt⟩
   rotate_left 1
   ·unfold Oper.wp
    simp [go_sem,ev,ik,aC,Oper.upon,b3,x0,x1,x2,x3,x4,x5,x6]
    have ha:=ha.trans (uq (L:=GG w.heap.size d.aB.length ((d.aB++ [e]).length) ec eo e (.slice a1 e.aj.length k1) (.slice a2 e.aA.length k2) x) (M:=GG w.heap.size d.aB.length ((d.aB++ [e]).length) ec eo e (.slice a1 e.aj.length k1) (.slice a2 e.aA.length k2) (x.1,x.2.1,w'.heap.size,x.2.2.2)) [5] rfl (fun j bn=>by
     rcases j with _|_|_|_|_|_|_|_|_|j<;>first|rfl|(exact absurd (by decide) bn)|simp) (List.forall_mem_cons.2 ⟨jZ aN,List.forall_mem_nil _⟩))
    exact hK _ _ ⟨(x.1,x.2.1,w'.heap.size,x.2.2.2),mF KQ ha rfl aN,hC.step hl (cu.trans (((Qb _ _).alloc (Qn _) _).mono cu.size)) (by decide) (fun _=>by simp) (fun h _=>h.elim (fun e=>absurd e (by decide)) (fun ⟨_,_,q⟩=>⟨q.1.alloc _,fun r=>by have h8:=(zZ (g:=x.1) q.1 (by simp [Value.ownBlock])).2;have r9:x.1=w'.heap.size:=r;omega⟩)) (fun h _=>h.elim (fun e=>absurd e (by decide)) (fun ⟨_,_,q⟩=>⟨q.1.alloc _,fun r=>absurd (zZ q.1 r).2 (Nat.lt_irrefl _)⟩)) (fun _ _=>heap_alloc_new _ _) (fun h _=>h.elim (fun e=>absurd e (by decide)) (fun ⟨_,_,q⟩=>q.alloc _)) hlt⟩
   ·have h2:=hC.f2 (by first|simpa using aC|simp [aC]) (jZ aN) hl
    have h3:=hC.f3 (by first|simpa using aC|simp [aC]) (jZ aN) hl
    have gz:s'.getD 3 false=true:=(by first|simpa using aC|simp [aC])
    refine Mt vN _ _ rfl (by simp [Act.eval,ev,ik,aC]) h2.1 (by simp [Act.eval,ev,ik,aC]) (iV.jR (T:=bQ) (x:=e) (cs:=dI e (.slice a1 e.aj.length k1) (.slice a2 e.aA.length k2)) ⟨_,_,rfl,M6.O.ra,M6.O.rx⟩ (fun j u hu=>(cell_of_row w' _ j _ _ _ h3).trans (by simpa using hu))) (by simp only [List.length_nil,List.length_cons];omega) (by simp only [List.length_nil,List.length_cons];omega) cu.size ?_
    rintro v9 w9 j5 bP jf
    obtain ⟨a9,k9,rfl⟩:=Dk j5
    have ha:=ha.trans (uq (L:=GG w.heap.size d.aB.length ((d.aB++ [e]).length) ec eo e (.slice a1 e.aj.length k1) (.slice a2 e.aA.length k2) x) (M:=GG w.heap.size d.aB.length ((d.aB++ [e]).length) ec eo e (.slice a1 e.aj.length k1) (.slice a2 e.aA.length k2) (x.1,x.2.1,x.2.2.1,(a9,k9))) [6] rfl (fun j bn=>by
     rcases j with _|_|_|_|_|_|_|_|_|j<;>first|rfl|(exact absurd (by decide) bn)|simp) (List.forall_mem_cons.2 ⟨jZ aN,List.forall_mem_nil _⟩))
    exact hK _ _ ⟨(x.1,x.2.1,x.2.2.1,(a9,k9)),mF KQ ha rfl aN,hC.step hl (cu.grown bP cu.size (fun k e=>(zZ h2.1 e).1)) (by decide) (fun h=>Nat.lt_of_lt_of_le h bP.size) (fun h _=>h.elim (fun e=>absurd e (by decide)) (fun q=>by rw [gz] at q;exact absurd q.2.1 (by decide))) (fun _ h=>absurd rfl h) (fun _ h=>absurd rfl h) (fun _ _=>j5) hlt⟩
   rotate_left 1
   ·have aS:w'.heap[w.heap.size]? =some (.cells _ 43 (0,0)):=(cu.block _ (Qg M6.O.dr)).trans M6.O.dr
    refine wE 37 _ _ rfl (w.heap.size) 3 [.slice x.2.2.2.1 (d.aB++ [e]).length x.2.2.2.2] (.slice x.2.2.2.1 (d.aB++ [e]).length x.2.2.2.2) (by simp [Act.eval,ev,ik,aC]) (by simp [Act.eval,ev,ik,aC]) (by rfl) _ _ aS (by simp) (by kernel_rfl) (by simp [Value.oneCell']) ?_
    exact hK _ _ ⟨x,eO (d:=none) (v:=undef) KQ ha rfl aN,hC.pQ aN (hC.f4 (by first|simpa using aC|simp [aC]) (mI (by simp [dM])) hl) (mI (by simp [dM])) (mI (by simp [dM])) (by decide) aS (by rfl)⟩
   all_goals
    unfold Oper.wp
    first
    |(simp [go_sem,ev,ik,aC,Oper.upon,b3,x0,x1,x2,x3,x4,x5,x6];exact hK _ _ ⟨x,mF KQ ha rfl aN,hC.pure (by decide)⟩)
    |(simp [go_sem,ev,ik,Oper.upon,b3,x0,x1,x2,x3,x4,x5,x6];exact hK _ _ ⟨x,mF KQ ha rfl aN,hC.pure (by decide)⟩)
  ·rintro x s' a' wJ gz ha hC
   obtain ⟨wb,gV,kr,gI,aS⟩:=hC.on (gz 8 (by decide))
   simp only [ite_self] at aS
   rw [xL _ _ _ _ (fun i hi=>by rw [Nat.zero_add];exact gz i (by simpa using hi))] at ha
   subst ha
   simp only [eH,Act.put,List.setIfInBounds_toArray,List.set_cons_succ,List.set_cons_zero]
   obtain ⟨xe,xv,xb,o9,k9⟩:=x
   dsimp only at kr gI aS ⊢
   have Cj:=gV.size
   have jf:=(Qg aS)
   have y0:wJ.cell? ⟨w4.heap.size,0,none⟩=_:=jo gI (by simp;omega) (bK gV M6.O.st.c0)
   have y1:wJ.cell? ⟨w4.heap.size,1,none⟩=_:=jo gI (by simp;omega) (bK gV M6.O.st.c1)
   have y2:wJ.cell? ⟨w4.heap.size,2,none⟩=_:=jo gI (by simp;omega) (bK gV M6.O.st.c2)
   have HO:=Qh (kr.kept gI (.inr (kr.cK ER)))
   have qi:=(M6.O.at_.ok.below (Qn _) gV).grown gI (fun g e=>by injection e with e;subst e;exact M6.O.VL)
   have Nw:=(M6.O.at_.eY.trans (gV.mono M6.O.at_.size)).grown gI (by omega) (fun k e=>by injection e with e;omega)
   have Ny:=(gI.block (w.heap.size+2) (by omega) (fun h=>by injection h with h;omega)).trans ((gV.block _ jh).trans M6.O.O)
   clear hC gz kr b3 x0 x1 x2 x3 x4 x5 x6
   go_wp2_with (first
    |(refine kC rfl rfl 40 _ _ rfl w.heap.size 4 [.slice a3 q.aJ.length k3,.int .i64 q.aV,S q.str] (fH q (.slice a3 q.aJ.length k3)) (by simp [Act.eval]) (by simp [Act.eval]) (by rfl) _ 43 aS (by simp) (by kernel_rfl) (by simp [Value.oneCell']) #[.int .i64 d.num,.int .i64 d.aG,S d.bR,.slice o9 (d.aB++ [e]).length k9,.slice a3 q.aJ.length k3,.int .i64 q.aV,S q.str,.slice tt d.aI.length tc,.slice ho d.holds.length iw] (by rfl) ?_
      intro VJ l6 FP)
    |(refine kC rfl rfl 37 _ _ rfl w.heap.size 7 [.slice o4 t2.length c4] (.slice o4 t2.length c4) (by simp [Act.eval]) (by simp [Act.eval]) (by rfl) _ 43 FP (by simp) (by kernel_rfl) (by simp [Value.oneCell']) #[.int .i64 d.num,.int .i64 d.aG,S d.bR,.slice o9 (d.aB++ [e]).length k9,.slice a3 q.aJ.length k3,.int .i64 q.aV,S q.str,.slice o4 t2.length c4,.slice ho d.holds.length iw] (by rfl) ?_
      intro w13 oo Dw)
    |(refine kC rfl rfl 41 _ _ rfl w.heap.size 8 [.slice o6 h2.length c6] (.slice o6 h2.length c6) (by simp [Act.eval]) (by simp [Act.eval]) (by rfl) _ 43 Dw (by simp) (by kernel_rfl) (by simp [Value.oneCell']) (dz (⟨d.num,d.aG,d.bR,d.aB++ [e],q,t2,h2⟩:ig) (.slice o9 (d.aB++ [e]).length k9) (.slice a3 q.aJ.length k3) (.slice o4 t2.length c4) (.slice o6 h2.length c6)).toArray (by rfl) ?_
      intro Nj oq Dx
      obtain ⟨z0,z1,z2,z3,z4,z5,z6,z7,z8⟩:=drB_row (d:=(⟨d.num,d.aG,d.bR,d.aB++ [e],q,t2,h2⟩:ig)) Dx
      have aag:=gI.size
      have Si:=l6.size
      have Sl:=oo.size
      have Sn:=oq.size
      have iT:=(oq.block (w.heap.size+2) (by omega) (fun h=>by injection h with h;omega)).trans ((oo.block _ (by omega) (fun h=>by injection h with h;omega)).trans ((l6.block _ (by omega) (fun h=>by injection h with h;omega)).trans Ny)))
    |(refine kC rfl rfl 43 _ _ rfl (w.heap.size+2) 0 (dz (⟨d.num,d.aG,d.bR,d.aB++ [e],q,t2,h2⟩:ig) (.slice o9 (d.aB++ [e]).length k9) (.slice a3 q.aJ.length k3) (.slice o4 t2.length c4) (.slice o6 h2.length c6)) (gU (⟨d.num,d.aG,d.bR,d.aB++ [e],q,t2,h2⟩:ig) (.slice o9 (d.aB++ [e]).length k9) (.slice a3 q.aJ.length k3) (.slice o4 t2.length c4) (.slice o6 h2.length c6)) (by simp [Act.eval]) (by simp [Act.eval]) (by rfl) _ 43 iT (by simp) (by kernel_rfl) (by simp [Value.oneCell']) (dz (⟨d.num,d.aG,d.bR,d.aB++ [e],q,t2,h2⟩:ig) (.slice o9 (d.aB++ [e]).length k9) (.slice a3 q.aJ.length k3) (.slice o4 t2.length c4) (.slice o6 h2.length c6)).toArray (by rfl) ?_
      intro Sz Bg Nq))
   refine bodyPost_ret (v:= .tuple #[gU (⟨d.num,d.aG,d.bR,d.aB++ [e],q,t2,h2⟩:ig) (.slice o9 (d.aB++ [e]).length k9) (.slice a3 q.aJ.length k3) (.slice o4 t2.length c4) (.slice o6 h2.length c6),.int .i64 0]) ?_ rfl ?_
   ·rw [results_cell_tmp rfl]
    simp [asAddr,run_loadVar_row Sz (w.heap.size+2) 43 43 _ (0,0) _ Nq Tryz.underlying43 rfl si.O]
   ·have q6:=M6.O.VL
    have FQ:Ok J6 Sz:=(((qi.grown l6 (fun g h=>by injection h with h;subst h;exact q6)).grown oo (fun g h=>by injection h with h;subst h;exact q6)).grown oq (fun g h=>by injection h with h;subst h;exact q6)).grown Bg (fun g h=>by injection h with h;subst h;exact M6.O.no)
    have Nr:=(((HO.O.kept l6 (.inr (HO.O.cK ER))).kept oo (.inr (HO.O.cK ER))).kept oq (.inr (HO.O.cK ER))).kept Bg (.inr (HO.O.cK jh))
    obtain ⟨J7,wN,iP,nM,_⟩:=Nr.freeze FQ (fun b hb=>M6.O.at_.ok.fresh hb)
    have GD:=wN.keep M6.O.at_.ok (Qn _)
    rw [Hn.O]
    exact ⟨_,_,_,_,J7,rfl,(((Nw.grown l6 (by omega) (fun k h=>by injection h with h;omega)).grown oo (by omega) (fun k h=>by injection h with h;omega)).grown oq (by omega) (fun k h=>by injection h with h;omega)).grown Bg (by omega) (fun k h=>by injection h with h;omega),
     M6.O.ext.trans wN (by omega),iP,⟨nM,M6.O.rq.mono GD,Np.mono GD,KO.mono GD⟩⟩
