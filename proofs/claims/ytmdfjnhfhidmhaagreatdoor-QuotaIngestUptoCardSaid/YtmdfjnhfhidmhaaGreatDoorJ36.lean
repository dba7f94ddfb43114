/- Lemmas for the claim's theorem;conditions: as each says. -/
import Derived.Test.YtmdfjnhfhidmhaaGreatDoorJ35
set_option maxHeartbeats 0
set_option maxRecDepth 100000
set_option linter.all false
namespace Go.Proofs.YtmdfjnhfhidmhaaGreatDoor
open Go.RowKit
variable{m:Nat}{I:IH}{ai dt sp:Int}{n:Nat}{aG:Int}
theorem Xif(w:World)(a b:Array Value)(ta tb:TypeId)(W:World)(hW:(w.alloc (.cells a ta)).alloc (.cells b tb)=W):
 W.heap.size=w.heap.size+2∧W.heap[w.heap.size]?=some (.cells a ta (0,0))∧W.heap[w.heap.size+1]?=some (.cells b tb (0,0))∧Below w.heap.size w W:=by
 subst hW;refine⟨by simp,(Below.heap_alloc _ _ _ (by simp)).trans (heap_alloc_new w _),?_,((Qb _ _).alloc (Qn _) _).alloc (by simp) _⟩;have h:=heap_alloc_new (w.alloc (.cells a ta)) (.cells b tb);rwa[World.size_alloc]at h
theorem Xjr(I:IH)(d:ig)(ve vk vt vh ue uk ut uh:Value)(h1:l5 I d ve vk vt vh)(h2:l5 I d ue uk ut uh)(w:World)(hw:Ok I w):
 Calls Tryz.prog 23 #[gU d ve vk vt vh,gU d ue uk ut uh] w fun e w'=>e= .returned (.bool true)∧Below w.heap.size w w':=by
 have He:=Qh (fun w hw=>Xds I ve ue d.aB h1.aB h2.aB w hw);have Hk:=Qh (fun w hw=>Xt0 I d.aU vk uk h1.aJ h2.aJ w hw);have Ht:=Qh (fun w hw=>Xds I vt ut d.aI h1.aI h2.aI w hw);have Hh:=Qh (fun w hw=>Xpa I vh uh d.holds d.holds h1.holds h2.holds w hw);rw[Qt (rfl:d.holds=d.holds)]at Hh;obtain⟨ao,ac,rfl,_,_,_⟩:=id h1.aB;obtain⟨bo,bc,rfl,_,_,_⟩:=id h1.aJ;obtain⟨co,cc,rfl,_,_,_⟩:=id h1.aI;obtain⟨eo,ec,rfl,_,_,_⟩:=id h1.holds;obtain⟨Xa,ac',rfl,_,_,_⟩:=id h2.aB;obtain⟨bo',bc',rfl,_,_,_⟩:=id h2.aJ;obtain⟨co',cc',rfl,_,_,_⟩:=id h2.aI;obtain⟨eo',ec',rfl,_,_,_⟩:=id h2.holds;obtain⟨W,hW⟩:∃W,((w.alloc (.cells #[.int .i64 d.num,.int .i64 d.aG,S d.bR,.slice ao d.aB.length ac,.slice bo d.aU.aJ.length bc,.int .i64 d.aU.aV,S d.aU.str,.slice co d.aI.length cc,.slice eo d.holds.length ec] 43)).alloc (.cells #[.int .i64 d.num,.int .i64 d.aG,S d.bR,.slice Xa d.aB.length ac',.slice bo' d.aU.aJ.length bc',.int .i64 d.aU.aV,S d.aU.str,.slice co' d.aI.length cc',.slice eo' d.holds.length ec'] 43))=W:=⟨_,rfl⟩;obtain⟨dM,r0,r1,gV⟩:=Xif w _ _ _ _ W hW;have D0:=Qh (drB_row r0);have D1:=Qh (drB_row r1);have Fb:Ok I W:=by rw[←hW];exact(hw.alloc _).alloc _
 obtain⟨a0,a1,a2,a3,a4,a5,a6,a7,a8⟩:=drB_row r0;obtain⟨b0,b1,b2,b3,b4,b5,b6,b7,b8⟩:=drB_row r1;clear h1 h2 r0 r1;go_enter Tryz.func23,Tryz.ntmps23
 go_wp2_with fail
 refine(He.O W Fb).mono ?_;rintro e1 w1 ⟨rfl,aD⟩;have aM:=Fb.below (Qn _) aD;have D0:=Qh (D0.O.aQ aD);have D1:=Qh (D1.O.aQ aD);have gV:=gV.trans (aD.mono (by omega));clear a0 a1 a2 a3 a4 a5 a6 a7 a8 b0 b1 b2 b3 b4 b5 b6 b7 b8 aD hW He;obtain⟨a0,a1,a2,a3,a4,a5,a6,a7,a8⟩:=D0.O;obtain⟨b0,b1,b2,b3,b4,b5,b6,b7,b8⟩:=D1.O;go_wp2_with fail
 refine(Hk.O w1 aM).mono ?_;rintro e2 w2 ⟨rfl,aL⟩;have aX:=aM.below (Qn _) aL;have D0:=Qh (D0.O.aQ aL);have D1:=Qh (D1.O.aQ aL);have gV:=gV.trans (aL.mono gV.size);clear a0 a1 a2 a3 a4 a5 a6 a7 a8 b0 b1 b2 b3 b4 b5 b6 b7 b8 aL Hk;obtain⟨a0,a1,a2,a3,a4,a5,a6,a7,a8⟩:=D0.O;obtain⟨b0,b1,b2,b3,b4,b5,b6,b7,b8⟩:=D1.O;go_wp2_with fail
 refine(Ht.O w2 aX).mono ?_;rintro e3 w3 ⟨rfl,dX⟩;have eT:=aX.below (Qn _) dX;have D0:=Qh (D0.O.aQ dX);have D1:=Qh (D1.O.aQ dX);have gV:=gV.trans (dX.mono gV.size);clear a0 a1 a2 a3 a4 a5 a6 a7 a8 b0 b1 b2 b3 b4 b5 b6 b7 b8 dX Ht;obtain⟨a0,a1,a2,a3,a4,a5,a6,a7,a8⟩:=D0.O;obtain⟨b0,b1,b2,b3,b4,b5,b6,b7,b8⟩:=D1.O;go_wp2_with fail
 refine(Hh.O w3 eT).mono ?_;rintro e4 w4 ⟨rfl,aR⟩;have gV:=gV.trans (aR.mono gV.size);go_wp2;go_ret;exact⟨rfl,gV⟩
structure CF (I:IH) (w0:World) (ai dt sp:Int) (vs:Value) (n1:Nat) (zr:Array Value) (ty:TypeId) (J:IH) (W:World):Prop where
 at_:mH I w0 J W
 ext:Ext w0.heap.size I J
 Jm:J n1=none
 a0:W.cell? ⟨w0.heap.size,0,none⟩=some (.int .u32 ai)
 a1:W.cell? ⟨w0.heap.size,1,none⟩=some (.int .i64 dt)
 a2:W.cell? ⟨w0.heap.size,2,none⟩=some (.int .i64 sp)
 a3:W.cell? ⟨w0.heap.size,3,none⟩=some vs
 O:W.heap[n1]?=some (.cells zr ty (0,0))
section
variable {I:IH} {w0:World} {ai dt sp:Int} {vs:Value} {n1:Nat} {zr:Array Value} {ty:TypeId} {J J':IH} {W W':World}
theorem CF.lt(h:CF I w0 ai dt sp vs n1 zr ty J W):n1<W.heap.size:=(Qg h.O)
theorem CF.aQ(h:CF I w0 ai dt sp vs n1 zr ty J W)(hb:Below W.heap.size W W')(hx:Ext W.heap.size J J')(iQ:Ok J' W'):CF I w0 ai dt sp vs n1 zr ty J' W':=
 ⟨h.at_.ext hb hx iQ,h.ext.trans hx h.at_.size,(hx _ h.lt).trans h.Jm,bK hb h.a0,bK hb h.a1,bK hb h.a2,bK hb h.a3,(hb.block _ h.lt).trans h.O⟩
theorem CF.quiet(h:CF I w0 ai dt sp vs n1 zr ty J W)(hb:Below W.heap.size W W'):CF I w0 ai dt sp vs n1 zr ty J W':=h.aQ hb (Ext.refl _ _) (h.at_.ok.below (Qn _) hb)
theorem CF.own(h:CF I w0 ai dt sp vs n1 zr ty J W){row:Option Nat}(hg:W.grownBy W' row)(hr:∀g,row=some g→J g=none∧w0.heap.size<g∧n1<g):CF I w0 ai dt sp vs n1 zr ty J W':=by
 have bn:row≠some w0.heap.size:=fun e=>by have:=(hr _ e).2.1;omega
 exact⟨⟨h.at_.ok.grown hg fun g e=>(hr g e).1,h.at_.keep,h.at_.eY.grown hg h.at_.size fun g e=>by have:=(hr g e).2.1;omega⟩,h.ext,h.Jm,jo hg bn h.a0,jo hg bn h.a1,jo hg bn h.a2,jo hg bn h.a3,
  (hg.block _ h.lt (fun e=>by have:=(hr _ e.symm).2.2;omega)).trans h.O⟩
end
theorem Xs4{w:World}(hw:Ok I w)(ai dt sp:Int)(vs:Value)(zr:Array Value)(ty:TypeId):CF I w ai dt sp vs (w.heap.size+1) zr ty I ((w.alloc (.cells #[.int .u32 ai,.int .i64 dt,.int .i64 sp,vs] 63)).alloc (.cells zr ty)):=by
 obtain⟨_,r0,r1,_⟩:=Xif w #[.int .u32 ai,.int .i64 dt,.int .i64 sp,vs] zr 63 ty _ rfl;exact⟨((mH.start hw).past _).past _,Ext.refl _ _,hw.fresh (by omega),(cell_of_row _ _ 0 _ _ _ r0).trans rfl,(cell_of_row _ _ 1 _ _ _ r0).trans rfl,(cell_of_row _ _ 2 _ _ _ r0).trans rfl,(cell_of_row _ _ 3 _ _ _ r0).trans rfl,r1⟩
theorem CF.bad{w0:World}{vs:Value}{J:IH}{W w9:World}(h:CF I w0 ai dt sp vs (w0.heap.size+1) bE 43 J W)(hg:W.grownBy w9 (some (w0.heap.size+1))){p:ig×Int}{r:Int}(hp:p=(zh,r)):
 zu I w0 p.1 p.2 (.returned (.tuple #[.agg bE,.int .i64 r])) w9:=by
 subst hp;exact⟨.slice none 0 0,.slice none 0 0,.slice none 0 0,.slice none 0 0,J,rfl,h.at_.eY.grown hg h.at_.size (fun k e=>by injection e with e;omega),h.ext,h.at_.ok.grown hg (fun g e=>by injection e with e;subst e;exact h.Jm),⟨aZ.nil _ _,aZ.nil _ _,aZ.nil _ _,aZ.nil _ _⟩⟩
abbrev bpL(n m ll sc:Nat)(so:Option Addr)(ai dt sp aG:Int)(ld:af)(x:Nat):List (Option Tmp×Value):=
 [(some 31,.pointer (some ⟨n,3,none⟩)),(some 32,.slice so ll sc),(some 33,.int .i64 (ll:Int)),(some 34,.int .i64 ((ll:Int)+1)),(some 35,.int .i64 aG),(some 36,qH ai dt sp (.slice so ll sc)),(some 37,S ld),(some 38,.pointer (some ⟨m,0,none⟩)),(none,undef),(some 39,.pointer (some ⟨m,1,none⟩)),(none,undef),(some 40,.pointer (some ⟨m,2,none⟩)),(none,undef)]
theorem ND{ll sc:Nat}{so:Option Addr}{ld:af}{x:Nat}:cO (bpL n m ll sc so ai dt sp aG ld x):=by
 unfold cO;simp
abbrev VT(m:Nat)(q:fM)(vk:Value)(ah:Option Addr)(hl ch al:Nat)(aG:Int)(x:Option Addr×Nat):List (Option Tmp×Value):=
 [(some 53,fH q vk),(some 54,.pointer (some ⟨m,8,none⟩)),(some 55,.slice ah hl ch),(some 56,.int .i64 aG),(some 57,.slice x.1 al x.2),(some 58,.pointer (some ⟨m,4,none⟩)),(none,undef),(some 59,.pointer (some ⟨m,8,none⟩)),(none,undef)]
theorem Pz{q:fM}{vk:Value}{ah:Option Addr}{hl ch al:Nat}{x:Option Addr×Nat}:cO (VT m q vk ah hl ch al aG x):=by
 unfold cO;simp
theorem Xns(I:IH)(hI:eG I)(ai dt sp:Int)(L:List dK)(h:iD n m L)(hn:n≤150)(hm:m≤250)(vs:Value)(pY:aZ AJ I vs L)(aG:Int)(w:World)(hw:Ok I w):
 Calls Tryz.prog 31 #[qH ai dt sp vs,.int .i64 aG] w (zu I w (vz L aG).1 (vz L aG).2):=by
 have hlen:=h.len;have bu:=Qh (fun w hw=>Xqp I hI ai dt sp L h hn (by omega) vs pY w hw);have Hpr:=Qh (fun J (hk:∀b c,I b=some c→J b=some c) w hw=>Xml J (hI.mono hk) ai dt sp L vs (pY.mono hk) (h.Zx (by omega) (by omega)) w hw);have Hld:=Qh (fun w hw=>Xmm I ai dt sp L vs pY w hw);have Hrp:=Qh (h.Fg (by omega) (by omega));have aaM:=Qh h.Ff;have Cf:=Qh pY;have si:=Qh (show(Tryz.prog.info? 43).map (·.size)=some 9 by kernel_rfl);obtain⟨so,sc,rfl,_,_,_⟩:=id pY;have M:=Qh (Xs4 hw ai dt sp (.slice so L.length sc) bE 43);have hb:vz L aG=if gY L aG≠0 then(zh,gY L aG)else(jT L aG,0):=rfl;have d1:decide ((255:Int)≤(L.length:Int))=false:=Qf (by omega);have Ep:gY L aG=if aG<0∨1000000000<aG then 2 else if aG<nI L then 14 else 0:=by unfold gY;rw[if_neg (by omega)]
 have Hb:=Qh hb;have yV:=Qh Ep;clear h pY hb Ep;obtain⟨W2,xu⟩:∃W2,((w.alloc (.cells #[.int .u32 ai,.int .i64 dt,.int .i64 sp,.slice so L.length sc] 63)).alloc (.cells bE 43))=W2:=⟨_,rfl⟩;rw[xu]at M;obtain⟨z0,z1,z2,z3⟩:=(⟨M.O.a0,M.O.a1,M.O.a2,M.O.a3⟩:_∧_∧_∧_);go_enter Tryz.func31,Tryz.ntmps31
 go_upto_region 3 with fail
 obtain⟨B,hB⟩:∃B:Bool,decide (aG<0∨1000000000<aG)=B:=⟨_,rfl⟩;clear xu;go_cut [15] (fun s15 wx=>s15= .bool B∧W2=wx)
 case first=>
  by_cases q1:aG<0
  ·have i1:decide (aG<0)=true:=Qt q1;have mJ:B=true:=by rw[←hB];exact Qt (.inl q1)
   subst mJ;clear hB q1;go_wp2_with fail
   go_meet;exact⟨rfl,rfl⟩
  ·have i1:decide (aG<0)=false:=Qf q1;by_cases q2:1000000000<aG
   ·have i2:decide (1000000000<aG)=true:=Qt q2;have mJ:B=true:=by rw[←hB];exact Qt (.inr q2)
    subst mJ;clear hB q1 q2;go_wp2_with fail
    go_meet;exact⟨rfl,rfl⟩
   ·have i2:decide (1000000000<aG)=false:=Qf q2;have mJ:B=false:=by rw[←hB];exact Qf (by omega)
    subst mJ;clear hB q1 q2;go_wp2_with fail
    go_meet;exact⟨rfl,rfl⟩
 case rest=>
 obtain⟨rfl,hcut⟩:=hcut;subst hcut;cases B;case true=>
  have Hn:=Qh (show vz L aG=(zh,2) by rw[Hb.O,yV.O,if_pos (of_decide_eq_true hB)];rfl);clear hB z0 z1 z2 z3;have iT:=M.O.O
  go_wp2_with (refine kC rfl rfl 43 _ _ rfl (w.heap.size+1) 0 bE.toList (.agg bE) (by simp[Act.eval]) (by simp[Act.eval]) (by rfl) bE 43 iT (by simp) (by kernel_rfl) (by simp[Value.oneCell']) bE (by rfl) ?_
               intro w9 bP jX)
  refine bodyPost_ret (v:= .tuple #[.agg bE,.int .i64 2]) ?_ rfl (M.O.bad bP Hn.O);rw[results_cell_tmp rfl];simp[asAddr,run_loadVar_row w9 (w.heap.size+1) 43 43 _ (0,0) _ jX Tryz.underlying43 rfl si.O]
 replace yV:=Qh (yV.O.trans (if_neg (of_decide_eq_false hB)));have TJ:0≤aG∧aG≤1000000000:=by have:=of_decide_eq_false hB;omega
 clear hB;go_wp2_with fail
 refine(Hld.O W2 M.O.at_.ok).mono ?_;rintro e0 w0 ⟨rfl,ym⟩;replace M:=Qh (M.O.quiet ym);clear z0 z1 z2 z3 ym Hld;obtain⟨z0,z1,z2,z3⟩:=(⟨M.O.a0,M.O.a1,M.O.a2,M.O.a3⟩:_∧_∧_∧_);go_upto_if 23 with fail
 obtain⟨B,hB⟩:∃B:Bool,decide (aG<nI L)=B:=⟨_,rfl⟩;rw[hB];cases B;case true=>
  have Hn:=Qh (show vz L aG=(zh,14) by rw[Hb.O,yV.O,if_pos (of_decide_eq_true hB)];rfl);clear hB z0 z1 z2 z3;have iT:=M.O.O
  go_wp2_with (refine kC rfl rfl 43 _ _ rfl (w.heap.size+1) 0 bE.toList (.agg bE) (by simp[Act.eval]) (by simp[Act.eval]) (by rfl) bE 43 iT (by simp) (by kernel_rfl) (by simp[Value.oneCell']) bE (by rfl) ?_
               intro w9 bP jX)
  refine bodyPost_ret (v:= .tuple #[.agg bE,.int .i64 14]) ?_ rfl (M.O.bad bP Hn.O);rw[results_cell_tmp rfl];simp[asAddr,run_loadVar_row w9 (w.heap.size+1) 43 43 _ (0,0) _ jX Tryz.underlying43 rfl si.O]
 have Hn:=Qh (show vz L aG=(jT L aG,0) by rw[Hb.O,yV.O,if_neg (of_decide_eq_false hB)];rfl);clear hB Hb yV;go_wp2_with fail
 refine(bu.O w0 M.O.at_.ok).mono ?_;rintro e1 w1 ⟨vk,vt,vh,J1,rfl,aD,gu,aM,Gz,G8,KO⟩;obtain⟨ak,ck,rfl,_,_,_⟩:=id Gz;obtain⟨at',yC,rfl,_,_,_⟩:=id G8;obtain⟨ah,ch,rfl,_,_,_⟩:=id KO;have M1:=Qh (M.O.aQ aD gu aM);have K8:=M1.O.lt;have SG:J1 w1.heap.size=none:=aM.fresh (Qn _);have m1:IntKind.i64.wrap ((L.length:Int)+1)=(L.length:Int)+1:=IntWalk.i64_in _ (by omega);have aaN:=Qh ((Hrp.O.begin (by omega)).1);clear z0 z1 z2 z3 aD gu aM M bu
 go_wp2_with (refine kC rfl rfl 43 _ _ rfl w1.heap.size 0 (dz (⟨0,0,[],[],eQ L,(bY cB L).aI,(bY cB L).holds⟩:ig) (.slice none 0 0) (.slice ak (eQ L).aJ.length ck) (.slice at' (bY cB L).aI.length yC) (.slice ah (bY cB L).holds.length ch)) (gU (⟨0,0,[],[],eQ L,(bY cB L).aI,(bY cB L).holds⟩:ig) (.slice none 0 0) (.slice ak (eQ L).aJ.length ck) (.slice at' (bY cB L).aI.length yC) (.slice ah (bY cB L).holds.length ch)) (by simp[Act.eval]) (by simp[Act.eval]) (by rfl) bE 43 (heap_alloc_new _ _) (by simp) (by kernel_rfl) (by simp[Value.oneCell']) (dz (⟨0,0,[],[],eQ L,(bY cB L).aI,(bY cB L).holds⟩:ig) (.slice none 0 0) (.slice ak (eQ L).aJ.length ck) (.slice at' (bY cB L).aI.length yC) (.slice ah (bY cB L).holds.length ch)).toArray (by rfl) ?_
              intro w2 hg2 kD;have z0:=jo hg2 (by simp;omega) (kP (.cells bE 43) M1.O.a0);have z1:=jo hg2 (by simp;omega) (kP (.cells bE 43) M1.O.a1);have z2:=jo hg2 (by simp;omega) (kP (.cells bE 43) M1.O.a2);have z3:=jo hg2 (by simp;omega) (kP (.cells bE 43) M1.O.a3))
 have M2:=Qh (M1.O.quiet (((Qb _ _).alloc (Qn _) _).grown hg2 (by simp) (fun k e=>by injection e with e;omega)));have rU:=(Qg kD);have VK:∀g,some w1.heap.size=some g→J1 g=none∧w.heap.size<g∧w.heap.size+1<g:=fun g e=>by injection e with e;subst e;exact⟨SG,by omega,by omega⟩
 clear M1 hg2;refine yz (X:=Nat) (bpL w.heap.size w1.heap.size L.length sc so ai dt sp aG (iW L)) (nL w2 224 234 225 235 226 236 227 237 (fun _ _=>True) (fun _ _=>True) (fun _ _=>True) (fun _ _=>True) (fun _ _=>True) (fun _ _=>True) (fun x=>w1.heap.size) 43 8 10 12 (fun x=> #[.int .i64 ((L.length:Int)+1),.int .i64 0,S [],.slice none 0 0,(.slice ak (eQ L).aJ.length ck),.int .i64 (eQ L).aV,S (eQ L).str,(.slice at' (bY cB L).aI.length yC),(.slice ah (bY cB L).holds.length ch)]) (fun x=> #[.int .i64 ((L.length:Int)+1),.int .i64 aG,S [],.slice none 0 0,(.slice ak (eQ L).aJ.length ck),.int .i64 (eQ L).aV,S (eQ L).str,(.slice at' (bY cB L).aI.length yC),(.slice ah (bY cB L).holds.length ch)]) (fun x=> #[.int .i64 ((L.length:Int)+1),.int .i64 aG,S (iW L),.slice none 0 0,(.slice ak (eQ L).aJ.length ck),.int .i64 (eQ L).aV,S (eQ L).str,(.slice at' (bY cB L).aI.length yC),(.slice ah (bY cB L).holds.length ch)])) (by kernel_rfl) (by kernel_rfl) ?_ ?_ ?_
 ·exact⟨0,nL.start _ _ trivial⟩
 ·rintro x s' a' w' i dM dC ha hC hi;obtain⟨aN,oi,fP,aC⟩:=mem_ready.1 hi;have ev:=Je ND ha;have hlt:=u6 aN;rcases i with _|_|_|_|_|_|_|_|_|_|_|_|_|i
  rotate_left 13
  ·simp at fP
  all_goals
   have dV:=fP;simp at fP;subst fP;simp[Region.binds]at aC;try have hl:=tO 6 8 dC (by decide+kernel) aN
   try have cu:=hC.off hl
   try have z0:=bK cu z0
   try have z1:=bK cu z1
   try have z2:=bK cu z2
   try have z3:=bK cu z3
   try have m1:=bK cu m1
   refine wpOp_step dV (fun K' hK=> ?_);rw[if_pos (by rfl)]
  rotate_left 6
  ·unfold Oper.wp;simp[go_sem,ev,ik,aC,Oper.upon];refine(Hpr.O J1 M2.O.at_.keep w' (M2.O.at_.ok.below (Qn _) cu)).mono ?_;rintro r4 w4 ⟨rfl,aR⟩;exact hK _ _ ⟨x,mF ND ha rfl aN,hC.step hl (cu.trans (aR.mono cu.size)) (by decide) (fun _=>trivial) (fun _ _=>trivial) (fun _ _=>trivial) (fun _ _=>trivial) (fun _ _=>trivial) hlt⟩
  rotate_left 1
  ·have aS:w'.heap[w1.heap.size]?=some (.cells _ 43 (0,0)):=(cu.block _ (Qg kD)).trans kD;refine wE 3 _ _ rfl (w1.heap.size) 0 [.int .i64 ((L.length:Int)+1)] (.int .i64 ((L.length:Int)+1)) (by simp[Act.eval,ev,ik,aC]) (by simp[Act.eval,ev,ik,aC]) (by rfl) _ _ aS (by simp) (by kernel_rfl) (by simp[Value.oneCell']) ?_;exact hK _ _ ⟨x,eO (d:=none) (v:=undef) ND ha rfl aN,hC.pQ aN trivial (tO 6 10 dC (by kernel_rfl) aN) (tO 6 12 dC (by kernel_rfl) aN) (by decide) aS (by rfl)⟩
  rotate_left 1
  ·have aS:=hC.MV (s1:=8) (by first|simpa using aC|simp[aC]) (jZ aN) (tO 6 12 dC (by kernel_rfl) aN);refine wE 3 _ _ rfl (w1.heap.size) 1 [.int .i64 aG] (.int .i64 aG) (by simp[Act.eval,ev,ik,aC]) (by simp[Act.eval,ev,ik,aC]) (by rfl) _ _ aS (by simp) (by kernel_rfl) (by simp[Value.oneCell']) ?_;exact hK _ _ ⟨x,eO (d:=none) (v:=undef) ND ha rfl aN,hC.Dv aN (by first|simpa using aC|simp[aC]) (tO 6 12 dC (by kernel_rfl) aN) (by decide) (by rfl)⟩
  rotate_left 1
  ·have aS:=hC.jF (s1:=8) (s2:=10) (by first|simpa using aC|simp[aC]) (by first|simpa using aC|simp[aC]) (jZ aN);refine wE 9 _ _ rfl (w1.heap.size) 2 [S (iW L)] (S (iW L)) (by simp[Act.eval,ev,ik,aC]) (by simp[Act.eval,ev,ik,aC]) (by rfl) _ _ aS (by simp) (by kernel_rfl) (by simp[Value.oneCell']) ?_;exact hK _ _ ⟨x,eO (d:=none) (v:=undef) ND ha rfl aN,hC.Z5 aN (by first|simpa using aC|simp[aC]) (by decide) (by rfl)⟩
  all_goals
   unfold Oper.wp;first
   |(simp[go_sem,ev,ik,aC,Oper.upon,z0,z1,z2,z3,m1];exact hK _ _ ⟨x,mF ND ha rfl aN,hC.pure (by decide)⟩)
   |(simp[go_sem,ev,ik,Oper.upon,z0,z1,z2,z3,m1];exact hK _ _ ⟨x,mF ND ha rfl aN,hC.pure (by decide)⟩)
 ·rintro x s' a' w6 gz ha hC;obtain⟨wb,gV,kr,gI,aS⟩:=hC.on (gz 8 (by decide));rw[if_pos (gz 12 (by decide))]at aS;rw[xL _ _ _ _ (fun i hi=>by rw[Nat.zero_add];exact gz i (by simpa using hi))]at ha;subst ha;simp only[eH,Act.put,List.setIfInBounds_toArray,List.set_cons_succ,List.set_cons_zero];clear kr;have M6:=Qh ((M2.O.quiet gV).own gI VK);have tC:=aS;have z4:w6.cell? ⟨w1.heap.size,4,none⟩=some _:=(cell_of_row _ _ 4 _ _ _ tC).trans rfl;have z5:w6.cell? ⟨w1.heap.size,5,none⟩=some _:=(cell_of_row _ _ 5 _ _ _ tC).trans rfl;have z6:w6.cell? ⟨w1.heap.size,6,none⟩=some _:=(cell_of_row _ _ 6 _ _ _ tC).trans rfl;have zn:w6.cell? ⟨w1.heap.size,0,none⟩=some _:=(cell_of_row _ _ 0 _ _ _ tC).trans rfl;have yV:=Qh (Xoo J1 (eQ L) (.slice ak (eQ L).aJ.length ck) Gz (by have:=Hrp.O.aJ;omega) ((L.length:Int)+1) w6 M6.O.at_.ok);rw[aaN.O]at yV;clear z0 z1 z2 z3 hC gz gI gV aS kD M2 Hpr;go_wp2_with fail
  clear z4 z5 z6 zn;refine yV.O.mono ?_;rintro e7 w7 ⟨vk2,J2,rfl,ji,wN,iP,Tk⟩;obtain⟨Bi,ck2,rfl,_,_,_⟩:=id Tk;have M7:=Qh (M6.O.aQ ji wN iP);have OO:=(Qg tC);have nM:=(ji.block _ OO).trans tC;have aaO:J2 w1.heap.size=none:=(wN _ OO).trans SG;have GD:=wN.keep M6.O.at_.ok (Qn _);have aaP:∀g,some w1.heap.size=some g→J2 g=none∧w.heap.size<g∧w.heap.size+1<g:=fun g e=>by injection e with e;subst e;exact⟨aaO,by omega,by omega⟩
  have Jr:=G8.mono GD;have aaQ:=KO.mono GD;clear ji wN iP tC M6 yV Gz
  go_wp2_with (refine kC rfl rfl 40 _ _ rfl w7.heap.size 0 [.slice Bi (eQ L).aJ.length ck2,.int .i64 ((L.length:Int)+1),S []] (fH ⟨(eQ L).aJ,(L.length:Int)+1,[]⟩ (.slice Bi (eQ L).aJ.length ck2)) (by simp[Act.eval]) (by simp[Act.eval]) (by rfl) #[.slice none 0 0,.int .i64 0,.string ⟨#[]⟩] 40 (heap_alloc_new _ _) (by simp) (by kernel_rfl) (by simp[Value.oneCell']) #[.slice Bi (eQ L).aJ.length ck2,.int .i64 ((L.length:Int)+1),S []] (by rfl) ?_
               intro w8 qN oI)
  have mR:Below w7.heap.size w7 w8:=((Qb _ _).alloc (Qn _) _).grown qN (by simp) (fun k e=>by injection e with e;omega);have M8:=Qh (M7.O.quiet mR);have zP:=(Qg nM);replace nM:=(mR.block _ zP).trans nM;have y0:w8.cell? ⟨w7.heap.size,0,none⟩=some _:=(cell_of_row _ _ 0 _ _ _ oI).trans rfl;have y1:w8.cell? ⟨w7.heap.size,1,none⟩=some _:=(cell_of_row _ _ 1 _ _ _ oI).trans rfl;have y2:w8.cell? ⟨w7.heap.size,2,none⟩=some _:=(cell_of_row _ _ 2 _ _ _ oI).trans rfl;have z8:w8.cell? ⟨w1.heap.size,8,none⟩=some _:=(cell_of_row _ _ 8 _ _ _ nM).trans rfl;have Ij:=Qh (fun w hw=>U6 J2 (.slice ah (bY cB L).holds.length ch) (bY cB L).holds aaQ (by have:=aaM.O.ok.hlen;omega) aG w hw);have O0:=(Qg nM);have aqf:=M8.O.lt;clear qN oI M7;refine yz (X:=Option Addr×Nat) (VT w1.heap.size (⟨(eQ L).aJ,(L.length:Int)+1,[]⟩) (.slice Bi (eQ L).aJ.length ck2) ah ((bY cB L).holds.length) ch ((dP (bY cB L).holds aG).length) aG) (nL w8 4 230 221 231 222 232 223 233 (fun _ _=>True) (fun x w=>aK jB 148 J2 w w8.heap.size (.slice x.1 (dP (bY cB L).holds aG).length x.2) (dP (bY cB L).holds aG)) (fun _ _=>True) (fun _ _=>True) (fun _ _=>True) (fun x w=>aK jB 148 J2 w w8.heap.size (.slice x.1 (dP (bY cB L).holds aG).length x.2) (dP (bY cB L).holds aG)) (fun x=>w1.heap.size) 43 6 8 210 (fun x=> #[.int .i64 ((L.length:Int)+1),.int .i64 aG,S (iW L),.slice none 0 0,(.slice Bi (eQ L).aJ.length ck2),.int .i64 ((L.length:Int)+1),S [],(.slice at' (bY cB L).aI.length yC),(.slice ah (bY cB L).holds.length ch)]) (fun x=> #[.int .i64 ((L.length:Int)+1),.int .i64 aG,S (iW L),.slice none 0 0,(.slice Bi (eQ L).aJ.length ck2),.int .i64 ((L.length:Int)+1),S [],(.slice at' (bY cB L).aI.length yC),.slice x.1 (dP (bY cB L).holds aG).length x.2]) (fun x=> #[.int .i64 ((L.length:Int)+1),.int .i64 aG,S (iW L),.slice none 0 0,(.slice Bi (eQ L).aJ.length ck2),.int .i64 ((L.length:Int)+1),S [],(.slice at' (bY cB L).aI.length yC),.slice x.1 (dP (bY cB L).holds aG).length x.2])) (by kernel_rfl) (by kernel_rfl) ?_ ?_ ?_
  ·exact⟨default,nL.start _ _ trivial⟩
  ·rintro x s' a' w' i dM dC ha hC hi;obtain⟨aN,oi,fP,aC⟩:=mem_ready.1 hi;have ev:=Je Pz ha;have hlt:=u6 aN;rcases i with _|_|_|_|_|_|_|_|_|i
   rotate_left 9
   ·simp at fP
   all_goals
    have dV:=fP;simp at fP;subst fP;simp[Region.binds]at aC;try have hl:=tO 6 6 dC (by decide+kernel) aN
    try have cu:=hC.off hl
    try have y0:=bK cu y0
    try have y1:=bK cu y1
    try have y2:=bK cu y2
    try have z8:=bK cu z8
    refine wpOp_step dV (fun K' hK=> ?_);rw[if_pos (by rfl)]
   rotate_left 4
   ·unfold Oper.wp;simp[go_sem,ev,ik,aC,Oper.upon];refine(Ij.O w' (M8.O.at_.ok.below (Qn _) cu)).mono ?_;rintro r4 w4 ⟨v9,rfl,ho,aR⟩;obtain⟨a9,k9,rfl⟩:=Dk ho;have ha:=ha.trans (uq (L:=VT w1.heap.size (⟨(eQ L).aJ,(L.length:Int)+1,[]⟩) (.slice Bi (eQ L).aJ.length ck2) ah ((bY cB L).holds.length) ch ((dP (bY cB L).holds aG).length) aG x) (M:=VT w1.heap.size (⟨(eQ L).aJ,(L.length:Int)+1,[]⟩) (.slice Bi (eQ L).aJ.length ck2) ah ((bY cB L).holds.length) ch ((dP (bY cB L).holds aG).length) aG (a9,k9)) [4] rfl (fun j bn=>by
     rcases j with _|_|_|_|_|_|_|_|_|j<;>first|rfl|(exact absurd (by decide) bn)|simp) (List.forall_mem_cons.2 ⟨jZ aN,List.forall_mem_nil _⟩))
    exact hK _ _ ⟨(a9,k9),mF Pz ha rfl aN,hC.step hl (cu.trans (aR.mono cu.size)) (by decide) (fun _=>trivial) (fun _ _=>ho.lower cu.size) (fun _ _=>trivial) (fun _ _=>trivial) (fun _ _=>trivial) hlt⟩
   rotate_left 1
   ·have aS:w'.heap[w1.heap.size]?=some (.cells _ 43 (0,0)):=(cu.block _ (Qg nM)).trans nM;refine wE 40 _ _ rfl (w1.heap.size) 4 [.slice Bi (eQ L).aJ.length ck2,.int .i64 ((L.length:Int)+1),S []] (fH ⟨(eQ L).aJ,(L.length:Int)+1,[]⟩ (.slice Bi (eQ L).aJ.length ck2)) (by simp[Act.eval,ev,ik,aC]) (by simp[Act.eval,ev,ik,aC]) (by rfl) _ _ aS (by simp) (by kernel_rfl) (by simp[Value.oneCell']) ?_;exact hK _ _ ⟨x,eO (d:=none) (v:=undef) Pz ha rfl aN,hC.pQ aN (hC.f1 (by first|simpa using aC|simp[aC]) (mI (by simp[dM])) hl) (tO 6 8 dC (by kernel_rfl) aN) (mI (by simp[dM])) (by decide) aS (by rfl)⟩
   rotate_left 1
   ·have aS:=hC.MV (s1:=6) (by first|simpa using aC|simp[aC]) (jZ aN) (mI (by simp[dM]));refine wE 41 _ _ rfl (w1.heap.size) 8 [.slice x.1 (dP (bY cB L).holds aG).length x.2] (.slice x.1 (dP (bY cB L).holds aG).length x.2) (by simp[Act.eval,ev,ik,aC]) (by simp[Act.eval,ev,ik,aC]) (by rfl) _ _ aS (by simp) (by kernel_rfl) (by simp[Value.oneCell']) ?_;exact hK _ _ ⟨x,eO (d:=none) (v:=undef) Pz ha rfl aN,hC.Dv aN (by first|simpa using aC|simp[aC]) (mI (by simp[dM])) (by decide) (by rfl)⟩
   all_goals
    unfold Oper.wp;first
    |(simp[go_sem,ev,ik,aC,Oper.upon,y0,y1,y2,z8];exact hK _ _ ⟨x,mF Pz ha rfl aN,hC.pure (by decide)⟩)
    |(simp[go_sem,ev,ik,Oper.upon,y0,y1,y2,z8];exact hK _ _ ⟨x,mF Pz ha rfl aN,hC.pure (by decide)⟩)
  ·rintro x s' a' oF gz ha hC;obtain⟨wb,gV,kr,gI,aS⟩:=hC.on (gz 6 (by decide));rw[if_pos (gz 8 (by decide))]at aS;simp only[ite_self]at aS;rw[xL _ _ _ _ (fun i hi=>by rw[Nat.zero_add];exact gz i (by simpa using hi))]at ha;subst ha;simp only[eH,Act.put,List.setIfInBounds_toArray,List.set_cons_succ,List.set_cons_zero];obtain⟨VU,VV⟩:=x;dsimp only at kr gI aS ⊢;obtain⟨y0,y1,y2,y3,y4,y5,y6,y7,y8⟩:=drB_row (d:=jT L aG) aS;have yc:=Qh ((M8.O.quiet gV).own gI aaP);have FU:=Qh (kr.kept gI (.inr (kr.cK (by omega))));have iT:=yc.O.O
   go_wp2_with (refine kC rfl rfl 43 _ _ rfl (w.heap.size+1) 0 (dz (jT L aG) (.slice none 0 0) (.slice Bi (eQ L).aJ.length ck2) (.slice at' (bY cB L).aI.length yC) (.slice VU (dP (bY cB L).holds aG).length VV)) (gU (jT L aG) (.slice none 0 0) (.slice Bi (eQ L).aJ.length ck2) (.slice at' (bY cB L).aI.length yC) (.slice VU (dP (bY cB L).holds aG).length VV)) (by simp[Act.eval]) (by simp[Act.eval]) (by rfl) _ 43 iT (by simp) (by kernel_rfl) (by simp[Value.oneCell']) (dz (jT L aG) (.slice none 0 0) (.slice Bi (eQ L).aJ.length ck2) (.slice at' (bY cB L).aI.length yC) (.slice VU (dP (bY cB L).holds aG).length VV)).toArray (by rfl) ?_
                intro wJ vE Du)
   refine bodyPost_ret (v:= .tuple #[gU (jT L aG) (.slice none 0 0) (.slice Bi (eQ L).aJ.length ck2) (.slice at' (bY cB L).aI.length yC) (.slice VU (dP (bY cB L).holds aG).length VV),.int .i64 0]) ?_ rfl ?_
   ·rw[results_cell_tmp rfl];simp[asAddr,run_loadVar_row wJ (w.heap.size+1) 43 43 _ (0,0) _ Du Tryz.underlying43 rfl si.O]
   ·have qi:=yc.O.at_.ok.grown vE (fun g e=>by injection e with e;subst e;exact yc.O.Jm);obtain⟨J3,yh,eT,aaR,_⟩:=(FU.O.kept vE (.inr (FU.O.cK (by omega)))).freeze qi (fun b hb=>M8.O.at_.ok.fresh hb);have uH:=yh.keep M8.O.at_.ok (Qn _);rw[Hn.O];exact⟨_,_,_,_,J3,rfl,yc.O.at_.eY.grown vE yc.O.at_.size (fun k e=>by injection e with e;omega),M8.O.ext.trans yh (by omega),eT,⟨aZ.nil _ _,Tk.mono uH,Jr.mono uH,aaR⟩⟩
