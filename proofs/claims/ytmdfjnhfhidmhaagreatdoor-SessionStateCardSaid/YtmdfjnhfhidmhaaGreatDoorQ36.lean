/- Lemmas for the claim's theorem;conditions: as each says. -/
import Derived.Test.YtmdfjnhfhidmhaaGreatDoorQ35
set_option maxHeartbeats 0
set_option maxRecDepth 100000
set_option linter.all false
namespace Go.Proofs.YtmdfjnhfhidmhaaGreatDoor
open Go.RowKit
variable{m:Nat}{I:IH}{ai dt sp:Int}{n:Nat}{az:Int}
theorem TT(w:World)(a b:Array Value)(ta tb:TypeId)(W:World)(hW:(w.alloc (.cells a ta)).alloc (.cells b tb)=W):
 W.heap.size=w.heap.size+2∧W.heap[w.heap.size]?=some (.cells a ta (0,0))∧W.heap[w.heap.size+1]?=some (.cells b tb (0,0))∧Below w.heap.size w W:=by
 subst hW;refine⟨by simp,(Below.heap_alloc _ _ _ (by simp)).trans (heap_alloc_new w _),?_,((Qb _ _).alloc (Qn _) _).alloc (by simp) _⟩;have h:=heap_alloc_new (w.alloc (.cells a ta)) (.cells b tb);rwa[World.size_alloc]at h
structure tQ (I:IH) (w0:World) (ai dt sp:Int) (vs:Value) (n1:Nat) (zr:Array Value) (ty:TypeId) (J:IH) (W:World):Prop where
 at_:lq I w0 J W
 ext:Ext w0.heap.size I J
 xk:J n1=none
 a0:W.cell? ⟨w0.heap.size,0,none⟩=some (.int .u32 ai)
 a1:W.cell? ⟨w0.heap.size,1,none⟩=some (.int .i64 dt)
 a2:W.cell? ⟨w0.heap.size,2,none⟩=some (.int .i64 sp)
 a3:W.cell? ⟨w0.heap.size,3,none⟩=some vs
 q:W.heap[n1]?=some (.cells zr ty (0,0))
section
variable {I:IH} {w0:World} {ai dt sp:Int} {vs:Value} {n1:Nat} {zr:Array Value} {ty:TypeId} {J J':IH} {W W':World}
theorem tQ.lt(h:tQ I w0 ai dt sp vs n1 zr ty J W):n1<W.heap.size:=(Qg h.q)
theorem tQ.aX(h:tQ I w0 ai dt sp vs n1 zr ty J W)(hb:Below W.heap.size W W')(hx:Ext W.heap.size J J')(iU:Ok J' W'):tQ I w0 ai dt sp vs n1 zr ty J' W':=
 ⟨h.at_.ext hb hx iU,h.ext.trans hx h.at_.size,(hx _ h.lt).trans h.xk,bI hb h.a0,bI hb h.a1,bI hb h.a2,bI hb h.a3,(hb.block _ h.lt).trans h.q⟩
theorem tQ.quiet(h:tQ I w0 ai dt sp vs n1 zr ty J W)(hb:Below W.heap.size W W'):tQ I w0 ai dt sp vs n1 zr ty J W':=h.aX hb (Ext.refl _ _) (h.at_.ok.below (Qn _) hb)
theorem tQ.own(h:tQ I w0 ai dt sp vs n1 zr ty J W){row:Option Nat}(hg:W.grownBy W' row)(hr:∀g,row=some g→J g=none∧w0.heap.size<g∧n1<g):tQ I w0 ai dt sp vs n1 zr ty J W':=by
 have aZ:row≠some w0.heap.size:=fun e=>by have:=(hr _ e).2.1;omega
 exact⟨⟨h.at_.ok.grown hg fun g e=>(hr g e).1,h.at_.keep,h.at_.eD.grown hg h.at_.size fun g e=>by have:=(hr g e).2.1;omega⟩,h.ext,h.xk,iV hg aZ h.a0,iV hg aZ h.a1,iV hg aZ h.a2,iV hg aZ h.a3,
  (hg.block _ h.lt (fun e=>by have:=(hr _ e.symm).2.2;omega)).trans h.q⟩
end
theorem Xjl{w:World}(hw:Ok I w)(ai dt sp:Int)(vs:Value)(zr:Array Value)(ty:TypeId):tQ I w ai dt sp vs (w.heap.size+1) zr ty I ((w.alloc (.cells #[.int .u32 ai,.int .i64 dt,.int .i64 sp,vs] 63)).alloc (.cells zr ty)):=by
 obtain⟨_,r0,r1,_⟩:=TT w #[.int .u32 ai,.int .i64 dt,.int .i64 sp,vs] zr 63 ty _ rfl;exact⟨((lq.start hw).past _).past _,Ext.refl _ _,hw.fresh (by omega),(cell_of_row _ _ 0 _ _ _ r0).trans rfl,(cell_of_row _ _ 1 _ _ _ r0).trans rfl,(cell_of_row _ _ 2 _ _ _ r0).trans rfl,(cell_of_row _ _ 3 _ _ _ r0).trans rfl,r1⟩
theorem tQ.bad{w0:World}{vs:Value}{J:IH}{W w9:World}(h:tQ I w0 ai dt sp vs (w0.heap.size+1) dJ 43 J W)(hg:W.grownBy w9 (some (w0.heap.size+1))){p:fP×Int}{r:Int}(hp:p=(xS,r)):
 xg I w0 p.1 p.2 (.returned (.tuple #[.agg dJ,.int .i64 r])) w9:=by
 subst hp;exact⟨.slice none 0 0,.slice none 0 0,.slice none 0 0,.slice none 0 0,J,rfl,h.at_.eD.grown hg h.at_.size (fun k e=>by injection e with e;omega),h.ext,h.at_.ok.grown hg (fun g e=>by injection e with e;subst e;exact h.xk),⟨aY.nil _ _,aY.nil _ _,aY.nil _ _,aY.nil _ _⟩⟩
abbrev bpL(n m ll sc:Nat)(so:Option Addr)(ai dt sp az:Int)(ld:af)(x:Nat):List (Option Tmp×Value):=
 [(some 31,.pointer (some ⟨n,3,none⟩)),(some 32,.slice so ll sc),(some 33,.int .i64 (ll:Int)),(some 34,.int .i64 ((ll:Int)+1)),(some 35,.int .i64 az),(some 36,ed ai dt sp (.slice so ll sc)),(some 37,S ld),(some 38,.pointer (some ⟨m,0,none⟩)),(none,undef),(some 39,.pointer (some ⟨m,1,none⟩)),(none,undef),(some 40,.pointer (some ⟨m,2,none⟩)),(none,undef)]
theorem FY{ll sc:Nat}{so:Option Addr}{ld:af}{x:Nat}:bE (bpL n m ll sc so ai dt sp az ld x):=by
 unfold bE;simp
abbrev OL(m:Nat)(q:dX)(vk:Value)(ah:Option Addr)(hl ch al:Nat)(az:Int)(x:Option Addr×Nat):List (Option Tmp×Value):=
 [(some 53,fI q vk),(some 54,.pointer (some ⟨m,8,none⟩)),(some 55,.slice ah hl ch),(some 56,.int .i64 az),(some 57,.slice x.1 al x.2),(some 58,.pointer (some ⟨m,4,none⟩)),(none,undef),(some 59,.pointer (some ⟨m,8,none⟩)),(none,undef)]
theorem IC{q:dX}{vk:Value}{ah:Option Addr}{hl ch al:Nat}{x:Option Addr×Nat}:bE (OL m q vk ah hl ch al az x):=by
 unfold bE;simp
theorem Xks(I:IH)(hI:cB I)(ai dt sp:Int)(L:List bu)(h:cO n m L)(hn:n≤150)(hm:m≤250)(vs:Value)(je:aY iO I vs L)(az:Int)(w:World)(hw:Ok I w):
 Calls Tryz.prog 31 #[ed ai dt sp vs,.int .i64 az] w (xg I w (oK L az).1 (oK L az).2):=by
 have hlen:=h.len;have bT:=Qh (fun w hw=>Xm7 I hI ai dt sp L h hn (by omega) vs je w hw);have Hpr:=Qh (fun J (hk:∀b c,I b=some c→J b=some c) w hw=>Zk J (hI.mono hk) ai dt sp L vs (je.mono hk) (h.KR (by omega) (by omega)) w hw);have OM:=Qh (fun w hw=>Zl I ai dt sp L vs je w hw);have Hrp:=Qh (h.zO (by omega) (by omega));have TU:=Qh h.vQ;have um:=Qh je;have vV:=Qh (show(Tryz.prog.info? 43).map (·.size)=some 9 by kernel_rfl);obtain⟨so,sc,rfl,_,_,_⟩:=id je;have M:=Qh (Xjl hw ai dt sp (.slice so L.length sc) dJ 43);have hb:oK L az=if bX L az≠0 then(xS,bX L az)else(eQ L az,0):=rfl;have d1:decide ((255:Int)≤(L.length:Int))=false:=Qf (by omega);have Ej:bX L az=if az<0∨1000000000<az then 2 else if az<iJ L then 14 else 0:=by unfold bX;rw[if_neg (by omega)]
 have Hb:=Qh hb;have ul:=Qh Ej;clear h je hb Ej;obtain⟨W2,mH⟩:∃W2,((w.alloc (.cells #[.int .u32 ai,.int .i64 dt,.int .i64 sp,.slice so L.length sc] 63)).alloc (.cells dJ 43))=W2:=⟨_,rfl⟩;rw[mH]at M;obtain⟨z0,z1,z2,z3⟩:=(⟨M.q.a0,M.q.a1,M.q.a2,M.q.a3⟩:_∧_∧_∧_);go_enter Tryz.func31,Tryz.ntmps31
 go_upto_region 3 with fail
 obtain⟨B,hB⟩:∃B:Bool,decide (az<0∨1000000000<az)=B:=⟨_,rfl⟩;clear mH;go_cut [15] (fun s15 wx=>s15= .bool B∧W2=wx)
 case first=>
  by_cases q1:az<0
  ·have i1:decide (az<0)=true:=Qt q1;have mG:B=true:=by rw[←hB];exact Qt (.inl q1)
   subst mG;clear hB q1;go_wp2_with fail
   go_meet;exact⟨rfl,rfl⟩
  ·have i1:decide (az<0)=false:=Qf q1;by_cases q2:1000000000<az
   ·have i2:decide (1000000000<az)=true:=Qt q2;have mG:B=true:=by rw[←hB];exact Qt (.inr q2)
    subst mG;clear hB q1 q2;go_wp2_with fail
    go_meet;exact⟨rfl,rfl⟩
   ·have i2:decide (1000000000<az)=false:=Qf q2;have mG:B=false:=by rw[←hB];exact Qf (by omega)
    subst mG;clear hB q1 q2;go_wp2_with fail
    go_meet;exact⟨rfl,rfl⟩
 case rest=>
 obtain⟨rfl,hcut⟩:=hcut;subst hcut;cases B;case true=>
  have Hn:=Qh (show oK L az=(xS,2) by rw[Hb.q,ul.q,if_pos (of_decide_eq_true hB)];rfl);clear hB z0 z1 z2 z3;have dW:=M.q.q
  go_wp2_with (refine jy rfl rfl 43 _ _ rfl (w.heap.size+1) 0 dJ.toList (.agg dJ) (by simp[Act.eval]) (by simp[Act.eval]) (by rfl) dJ 43 dW (by simp) (by kernel_rfl) (by simp[Value.oneCell']) dJ (by rfl) ?_
               intro w9 dY iy)
  refine bodyPost_ret (v:= .tuple #[.agg dJ,.int .i64 2]) ?_ rfl (M.q.bad dY Hn.q);rw[results_cell_tmp rfl];simp[asAddr,run_loadVar_row w9 (w.heap.size+1) 43 43 _ (0,0) _ iy Tryz.underlying43 rfl vV.q]
 replace ul:=Qh (ul.q.trans (if_neg (of_decide_eq_false hB)));have Mt:0≤az∧az≤1000000000:=by have:=of_decide_eq_false hB;omega
 clear hB;go_wp2_with fail
 refine(OM.q W2 M.q.at_.ok).mono ?_;rintro e0 w0 ⟨rfl,Bl⟩;replace M:=Qh (M.q.quiet Bl);clear z0 z1 z2 z3 Bl OM;obtain⟨z0,z1,z2,z3⟩:=(⟨M.q.a0,M.q.a1,M.q.a2,M.q.a3⟩:_∧_∧_∧_);go_upto_if 23 with fail
 obtain⟨B,hB⟩:∃B:Bool,decide (az<iJ L)=B:=⟨_,rfl⟩;rw[hB];cases B;case true=>
  have Hn:=Qh (show oK L az=(xS,14) by rw[Hb.q,ul.q,if_pos (of_decide_eq_true hB)];rfl);clear hB z0 z1 z2 z3;have dW:=M.q.q
  go_wp2_with (refine jy rfl rfl 43 _ _ rfl (w.heap.size+1) 0 dJ.toList (.agg dJ) (by simp[Act.eval]) (by simp[Act.eval]) (by rfl) dJ 43 dW (by simp) (by kernel_rfl) (by simp[Value.oneCell']) dJ (by rfl) ?_
               intro w9 dY iy)
  refine bodyPost_ret (v:= .tuple #[.agg dJ,.int .i64 14]) ?_ rfl (M.q.bad dY Hn.q);rw[results_cell_tmp rfl];simp[asAddr,run_loadVar_row w9 (w.heap.size+1) 43 43 _ (0,0) _ iy Tryz.underlying43 rfl vV.q]
 have Hn:=Qh (show oK L az=(eQ L az,0) by rw[Hb.q,ul.q,if_neg (of_decide_eq_false hB)];rfl);clear hB Hb ul;go_wp2_with fail
 refine(bT.q w0 M.q.at_.ok).mono ?_;rintro e1 w1 ⟨vk,vt,vh,J1,rfl,aG,kM,aS,FK,Jd,Li⟩;obtain⟨ak,ck,rfl,_,_,_⟩:=id FK;obtain⟨at',tO,rfl,_,_,_⟩:=id Jd;obtain⟨ah,ch,rfl,_,_,_⟩:=id Li;have M1:=Qh (M.q.aX aG kM aS);have CP:=M1.q.lt;have OO:J1 w1.heap.size=none:=aS.fresh (Qn _);have m1:IntKind.i64.wrap ((L.length:Int)+1)=(L.length:Int)+1:=IntWalk.i64_in _ (by omega);have TV:=Qh ((Hrp.q.begin (by omega)).1);clear z0 z1 z2 z3 aG kM aS M bT
 go_wp2_with (refine jy rfl rfl 43 _ _ rfl w1.heap.size 0 (fB (⟨0,0,[],[],di L,(bg bf L).aK,(bg bf L).aC⟩:fP) (.slice none 0 0) (.slice ak (di L).aM.length ck) (.slice at' (bg bf L).aK.length tO) (.slice ah (bg bf L).aC.length ch)) (kD (⟨0,0,[],[],di L,(bg bf L).aK,(bg bf L).aC⟩:fP) (.slice none 0 0) (.slice ak (di L).aM.length ck) (.slice at' (bg bf L).aK.length tO) (.slice ah (bg bf L).aC.length ch)) (by simp[Act.eval]) (by simp[Act.eval]) (by rfl) dJ 43 (heap_alloc_new _ _) (by simp) (by kernel_rfl) (by simp[Value.oneCell']) (fB (⟨0,0,[],[],di L,(bg bf L).aK,(bg bf L).aC⟩:fP) (.slice none 0 0) (.slice ak (di L).aM.length ck) (.slice at' (bg bf L).aK.length tO) (.slice ah (bg bf L).aC.length ch)).toArray (by rfl) ?_
              intro w2 qC iA;have z0:=iV qC (by simp;omega) (jH (.cells dJ 43) M1.q.a0);have z1:=iV qC (by simp;omega) (jH (.cells dJ 43) M1.q.a1);have z2:=iV qC (by simp;omega) (jH (.cells dJ 43) M1.q.a2);have z3:=iV qC (by simp;omega) (jH (.cells dJ 43) M1.q.a3))
 have M2:=Qh (M1.q.quiet (((Qb _ _).alloc (Qn _) _).grown qC (by simp) (fun k e=>by injection e with e;omega)));have sQ:=(Qg iA);have OC:∀g,some w1.heap.size=some g→J1 g=none∧w.heap.size<g∧w.heap.size+1<g:=fun g e=>by injection e with e;subst e;exact⟨OO,by omega,by omega⟩
 clear M1 qC;refine tK (X:=Nat) (bpL w.heap.size w1.heap.size L.length sc so ai dt sp az (dV L)) (jZ w2 224 234 225 235 226 236 227 237 (fun _ _=>True) (fun _ _=>True) (fun _ _=>True) (fun _ _=>True) (fun _ _=>True) (fun _ _=>True) (fun x=>w1.heap.size) 43 8 10 12 (fun x=> #[.int .i64 ((L.length:Int)+1),.int .i64 0,S [],.slice none 0 0,(.slice ak (di L).aM.length ck),.int .i64 (di L).aW,S (di L).str,(.slice at' (bg bf L).aK.length tO),(.slice ah (bg bf L).aC.length ch)]) (fun x=> #[.int .i64 ((L.length:Int)+1),.int .i64 az,S [],.slice none 0 0,(.slice ak (di L).aM.length ck),.int .i64 (di L).aW,S (di L).str,(.slice at' (bg bf L).aK.length tO),(.slice ah (bg bf L).aC.length ch)]) (fun x=> #[.int .i64 ((L.length:Int)+1),.int .i64 az,S (dV L),.slice none 0 0,(.slice ak (di L).aM.length ck),.int .i64 (di L).aW,S (di L).str,(.slice at' (bg bf L).aK.length tO),(.slice ah (bg bf L).aC.length ch)])) (by kernel_rfl) (by kernel_rfl) ?_ ?_ ?_
 ·exact⟨0,jZ.start _ _ trivial⟩
 ·rintro x s' a' w' i cu bU ha hC hi;obtain⟨aJ,oi,dN,aA⟩:=mem_ready.1 hi;have ev:=A8 FY ha;have hlt:=tJ aJ;rcases i with _|_|_|_|_|_|_|_|_|_|_|_|_|i
  rotate_left 13
  ·simp at dN
  all_goals
   have bY:=dN;simp at dN;subst dN;simp[Region.binds]at aA;try have hl:=qH 6 8 bU (by decide+kernel) aJ
   try have bQ:=hC.off hl
   try have z0:=bI bQ z0
   try have z1:=bI bQ z1
   try have z2:=bI bQ z2
   try have z3:=bI bQ z3
   try have m1:=bI bQ m1
   refine wpOp_step bY (fun K' hK=> ?_);rw[if_pos (by rfl)]
  rotate_left 6
  ·unfold Oper.wp;simp[go_sem,ev,eZ,aA,Oper.upon];refine(Hpr.q J1 M2.q.at_.keep w' (M2.q.at_.ok.below (Qn _) bQ)).mono ?_;rintro r4 w4 ⟨rfl,bA⟩;exact hK _ _ ⟨x,jQ FY ha rfl aJ,hC.step hl (bQ.trans (bA.mono bQ.size)) (by decide) (fun _=>trivial) (fun _ _=>trivial) (fun _ _=>trivial) (fun _ _=>trivial) (fun _ _=>trivial) hlt⟩
  rotate_left 1
  ·have aU:w'.heap[w1.heap.size]?=some (.cells _ 43 (0,0)):=(bQ.block _ (Qg iA)).trans iA;refine qU 3 _ _ rfl (w1.heap.size) 0 [.int .i64 ((L.length:Int)+1)] (.int .i64 ((L.length:Int)+1)) (by simp[Act.eval,ev,eZ,aA]) (by simp[Act.eval,ev,eZ,aA]) (by rfl) _ _ aU (by simp) (by kernel_rfl) (by simp[Value.oneCell']) ?_;exact hK _ _ ⟨x,dF (d:=none) (v:=undef) FY ha rfl aJ,hC.lH aJ trivial (qH 6 10 bU (by kernel_rfl) aJ) (qH 6 12 bU (by kernel_rfl) aJ) (by decide) aU (by rfl)⟩
  rotate_left 1
  ·have aU:=hC.Fx (s1:=8) (by first|simpa using aA|simp[aA]) (jl aJ) (qH 6 12 bU (by kernel_rfl) aJ);refine qU 3 _ _ rfl (w1.heap.size) 1 [.int .i64 az] (.int .i64 az) (by simp[Act.eval,ev,eZ,aA]) (by simp[Act.eval,ev,eZ,aA]) (by rfl) _ _ aU (by simp) (by kernel_rfl) (by simp[Value.oneCell']) ?_;exact hK _ _ ⟨x,dF (d:=none) (v:=undef) FY ha rfl aJ,hC.xW aJ (by first|simpa using aA|simp[aA]) (qH 6 12 bU (by kernel_rfl) aJ) (by decide) (by rfl)⟩
  rotate_left 1
  ·have aU:=hC.gB (s1:=8) (s2:=10) (by first|simpa using aA|simp[aA]) (by first|simpa using aA|simp[aA]) (jl aJ);refine qU 9 _ _ rfl (w1.heap.size) 2 [S (dV L)] (S (dV L)) (by simp[Act.eval,ev,eZ,aA]) (by simp[Act.eval,ev,eZ,aA]) (by rfl) _ _ aU (by simp) (by kernel_rfl) (by simp[Value.oneCell']) ?_;exact hK _ _ ⟨x,dF (d:=none) (v:=undef) FY ha rfl aJ,hC.SQ aJ (by first|simpa using aA|simp[aA]) (by decide) (by rfl)⟩
  all_goals
   unfold Oper.wp;first
   |(simp[go_sem,ev,eZ,aA,Oper.upon,z0,z1,z2,z3,m1];exact hK _ _ ⟨x,jQ FY ha rfl aJ,hC.pure (by decide)⟩)
   |(simp[go_sem,ev,eZ,Oper.upon,z0,z1,z2,z3,m1];exact hK _ _ ⟨x,jQ FY ha rfl aJ,hC.pure (by decide)⟩)
 ·rintro x s' a' w6 eX ha hC;obtain⟨wb,gQ,gU,fF,aU⟩:=hC.on (eX 8 (by decide));rw[if_pos (eX 12 (by decide))]at aU;rw[su _ _ _ _ (fun i hi=>by rw[Nat.zero_add];exact eX i (by simpa using hi))]at ha;subst ha;simp only[df,Act.put,List.setIfInBounds_toArray,List.set_cons_succ,List.set_cons_zero];clear gU;have M6:=Qh ((M2.q.quiet gQ).own fF OC);have yB:=aU;have z4:w6.cell? ⟨w1.heap.size,4,none⟩=some _:=(cell_of_row _ _ 4 _ _ _ yB).trans rfl;have z5:w6.cell? ⟨w1.heap.size,5,none⟩=some _:=(cell_of_row _ _ 5 _ _ _ yB).trans rfl;have z6:w6.cell? ⟨w1.heap.size,6,none⟩=some _:=(cell_of_row _ _ 6 _ _ _ yB).trans rfl;have zn:w6.cell? ⟨w1.heap.size,0,none⟩=some _:=(cell_of_row _ _ 0 _ _ _ yB).trans rfl;have ul:=Qh (YM J1 (di L) (.slice ak (di L).aM.length ck) FK (by have:=Hrp.q.aM;omega) ((L.length:Int)+1) w6 M6.q.at_.ok);rw[TV.q]at ul;clear z0 z1 z2 z3 hC eX fF gQ aU iA M2 Hpr;go_wp2_with fail
  clear z4 z5 z6 zn;refine ul.q.mono ?_;rintro e7 w7 ⟨vk2,J2,rfl,ji,sZ,gT,LQ⟩;obtain⟨vX,ck2,rfl,_,_,_⟩:=id LQ;have M7:=Qh (M6.q.aX ji sZ gT);have Je:=(Qg yB);have oO:=(ji.block _ Je).trans yB;have TW:J2 w1.heap.size=none:=(sZ _ Je).trans OO;have Iy:=sZ.keep M6.q.at_.ok (Qn _);have TY:∀g,some w1.heap.size=some g→J2 g=none∧w.heap.size<g∧w.heap.size+1<g:=fun g e=>by injection e with e;subst e;exact⟨TW,by omega,by omega⟩
  have CE:=Jd.mono Iy;have TZ:=Li.mono Iy;clear ji sZ gT yB M6 ul FK
  go_wp2_with (refine jy rfl rfl 40 _ _ rfl w7.heap.size 0 [.slice vX (di L).aM.length ck2,.int .i64 ((L.length:Int)+1),S []] (fI ⟨(di L).aM,(L.length:Int)+1,[]⟩ (.slice vX (di L).aM.length ck2)) (by simp[Act.eval]) (by simp[Act.eval]) (by rfl) #[.slice none 0 0,.int .i64 0,.string ⟨#[]⟩] 40 (heap_alloc_new _ _) (by simp) (by kernel_rfl) (by simp[Value.oneCell']) #[.slice vX (di L).aM.length ck2,.int .i64 ((L.length:Int)+1),S []] (by rfl) ?_
               intro w8 uW wD)
  have oQ:Below w7.heap.size w7 w8:=((Qb _ _).alloc (Qn _) _).grown uW (by simp) (fun k e=>by injection e with e;omega);have M8:=Qh (M7.q.quiet oQ);have Vq:=(Qg oO);replace oO:=(oQ.block _ Vq).trans oO;have y0:w8.cell? ⟨w7.heap.size,0,none⟩=some _:=(cell_of_row _ _ 0 _ _ _ wD).trans rfl;have y1:w8.cell? ⟨w7.heap.size,1,none⟩=some _:=(cell_of_row _ _ 1 _ _ _ wD).trans rfl;have y2:w8.cell? ⟨w7.heap.size,2,none⟩=some _:=(cell_of_row _ _ 2 _ _ _ wD).trans rfl;have z8:w8.cell? ⟨w1.heap.size,8,none⟩=some _:=(cell_of_row _ _ 8 _ _ _ oO).trans rfl;have EH:=Qh (fun w hw=>JD J2 (.slice ah (bg bf L).aC.length ch) (bg bf L).aC TZ (by have:=TU.q.ok.hlen;omega) az w hw);have PU:=(Qg oO);have aiF:=M8.q.lt;clear uW wD M7;refine tK (X:=Option Addr×Nat) (OL w1.heap.size (⟨(di L).aM,(L.length:Int)+1,[]⟩) (.slice vX (di L).aM.length ck2) ah ((bg bf L).aC.length) ch ((bO (bg bf L).aC az).length) az) (jZ w8 4 230 221 231 222 232 223 233 (fun _ _=>True) (fun x w=>aN jh 148 J2 w w8.heap.size (.slice x.1 (bO (bg bf L).aC az).length x.2) (bO (bg bf L).aC az)) (fun _ _=>True) (fun _ _=>True) (fun _ _=>True) (fun x w=>aN jh 148 J2 w w8.heap.size (.slice x.1 (bO (bg bf L).aC az).length x.2) (bO (bg bf L).aC az)) (fun x=>w1.heap.size) 43 6 8 210 (fun x=> #[.int .i64 ((L.length:Int)+1),.int .i64 az,S (dV L),.slice none 0 0,(.slice vX (di L).aM.length ck2),.int .i64 ((L.length:Int)+1),S [],(.slice at' (bg bf L).aK.length tO),(.slice ah (bg bf L).aC.length ch)]) (fun x=> #[.int .i64 ((L.length:Int)+1),.int .i64 az,S (dV L),.slice none 0 0,(.slice vX (di L).aM.length ck2),.int .i64 ((L.length:Int)+1),S [],(.slice at' (bg bf L).aK.length tO),.slice x.1 (bO (bg bf L).aC az).length x.2]) (fun x=> #[.int .i64 ((L.length:Int)+1),.int .i64 az,S (dV L),.slice none 0 0,(.slice vX (di L).aM.length ck2),.int .i64 ((L.length:Int)+1),S [],(.slice at' (bg bf L).aK.length tO),.slice x.1 (bO (bg bf L).aC az).length x.2])) (by kernel_rfl) (by kernel_rfl) ?_ ?_ ?_
  ·exact⟨default,jZ.start _ _ trivial⟩
  ·rintro x s' a' w' i cu bU ha hC hi;obtain⟨aJ,oi,dN,aA⟩:=mem_ready.1 hi;have ev:=A8 IC ha;have hlt:=tJ aJ;rcases i with _|_|_|_|_|_|_|_|_|i
   rotate_left 9
   ·simp at dN
   all_goals
    have bY:=dN;simp at dN;subst dN;simp[Region.binds]at aA;try have hl:=qH 6 6 bU (by decide+kernel) aJ
    try have bQ:=hC.off hl
    try have y0:=bI bQ y0
    try have y1:=bI bQ y1
    try have y2:=bI bQ y2
    try have z8:=bI bQ z8
    refine wpOp_step bY (fun K' hK=> ?_);rw[if_pos (by rfl)]
   rotate_left 4
   ·unfold Oper.wp;simp[go_sem,ev,eZ,aA,Oper.upon];refine(EH.q w' (M8.q.at_.ok.below (Qn _) bQ)).mono ?_;rintro r4 w4 ⟨v9,rfl,ho,bA⟩;obtain⟨a9,k9,rfl⟩:=wP ho;have ha:=ha.trans (qF (L:=OL w1.heap.size (⟨(di L).aM,(L.length:Int)+1,[]⟩) (.slice vX (di L).aM.length ck2) ah ((bg bf L).aC.length) ch ((bO (bg bf L).aC az).length) az x) (M:=OL w1.heap.size (⟨(di L).aM,(L.length:Int)+1,[]⟩) (.slice vX (di L).aM.length ck2) ah ((bg bf L).aC.length) ch ((bO (bg bf L).aC az).length) az (a9,k9)) [4] rfl (fun j aZ=>by
     rcases j with _|_|_|_|_|_|_|_|_|j<;>first|rfl|(exact absurd (by decide) aZ)|simp) (List.forall_mem_cons.2 ⟨jl aJ,List.forall_mem_nil _⟩))
    exact hK _ _ ⟨(a9,k9),jQ IC ha rfl aJ,hC.step hl (bQ.trans (bA.mono bQ.size)) (by decide) (fun _=>trivial) (fun _ _=>ho.lower bQ.size) (fun _ _=>trivial) (fun _ _=>trivial) (fun _ _=>trivial) hlt⟩
   rotate_left 1
   ·have aU:w'.heap[w1.heap.size]?=some (.cells _ 43 (0,0)):=(bQ.block _ (Qg oO)).trans oO;refine qU 40 _ _ rfl (w1.heap.size) 4 [.slice vX (di L).aM.length ck2,.int .i64 ((L.length:Int)+1),S []] (fI ⟨(di L).aM,(L.length:Int)+1,[]⟩ (.slice vX (di L).aM.length ck2)) (by simp[Act.eval,ev,eZ,aA]) (by simp[Act.eval,ev,eZ,aA]) (by rfl) _ _ aU (by simp) (by kernel_rfl) (by simp[Value.oneCell']) ?_;exact hK _ _ ⟨x,dF (d:=none) (v:=undef) IC ha rfl aJ,hC.lH aJ (hC.f1 (by first|simpa using aA|simp[aA]) (kz (by simp[cu])) hl) (qH 6 8 bU (by kernel_rfl) aJ) (kz (by simp[cu])) (by decide) aU (by rfl)⟩
   rotate_left 1
   ·have aU:=hC.Fx (s1:=6) (by first|simpa using aA|simp[aA]) (jl aJ) (kz (by simp[cu]));refine qU 41 _ _ rfl (w1.heap.size) 8 [.slice x.1 (bO (bg bf L).aC az).length x.2] (.slice x.1 (bO (bg bf L).aC az).length x.2) (by simp[Act.eval,ev,eZ,aA]) (by simp[Act.eval,ev,eZ,aA]) (by rfl) _ _ aU (by simp) (by kernel_rfl) (by simp[Value.oneCell']) ?_;exact hK _ _ ⟨x,dF (d:=none) (v:=undef) IC ha rfl aJ,hC.xW aJ (by first|simpa using aA|simp[aA]) (kz (by simp[cu])) (by decide) (by rfl)⟩
   all_goals
    unfold Oper.wp;first
    |(simp[go_sem,ev,eZ,aA,Oper.upon,y0,y1,y2,z8];exact hK _ _ ⟨x,jQ IC ha rfl aJ,hC.pure (by decide)⟩)
    |(simp[go_sem,ev,eZ,Oper.upon,y0,y1,y2,z8];exact hK _ _ ⟨x,jQ IC ha rfl aJ,hC.pure (by decide)⟩)
  ·rintro x s' a' qi eX ha hC;obtain⟨wb,gQ,gU,fF,aU⟩:=hC.on (eX 6 (by decide));rw[if_pos (eX 8 (by decide))]at aU;simp only[ite_self]at aU;rw[su _ _ _ _ (fun i hi=>by rw[Nat.zero_add];exact eX i (by simpa using hi))]at ha;subst ha;simp only[df,Act.put,List.setIfInBounds_toArray,List.set_cons_succ,List.set_cons_zero];obtain⟨OP,OQ⟩:=x;dsimp only at gU fF aU ⊢;obtain⟨y0,y1,y2,y3,y4,y5,y6,y7,y8⟩:=drB_row (d:=eQ L az) aU;have sN:=Qh ((M8.q.quiet gQ).own fF TY);have Aa:=Qh (gU.kept fF (.inr (gU.iK (by omega))));have dW:=sN.q.q
   go_wp2_with (refine jy rfl rfl 43 _ _ rfl (w.heap.size+1) 0 (fB (eQ L az) (.slice none 0 0) (.slice vX (di L).aM.length ck2) (.slice at' (bg bf L).aK.length tO) (.slice OP (bO (bg bf L).aC az).length OQ)) (kD (eQ L az) (.slice none 0 0) (.slice vX (di L).aM.length ck2) (.slice at' (bg bf L).aK.length tO) (.slice OP (bO (bg bf L).aC az).length OQ)) (by simp[Act.eval]) (by simp[Act.eval]) (by rfl) _ 43 dW (by simp) (by kernel_rfl) (by simp[Value.oneCell']) (fB (eQ L az) (.slice none 0 0) (.slice vX (di L).aM.length ck2) (.slice at' (bg bf L).aK.length tO) (.slice OP (bO (bg bf L).aC az).length OQ)).toArray (by rfl) ?_
                intro xU xV Co)
   refine bodyPost_ret (v:= .tuple #[kD (eQ L az) (.slice none 0 0) (.slice vX (di L).aM.length ck2) (.slice at' (bg bf L).aK.length tO) (.slice OP (bO (bg bf L).aC az).length OQ),.int .i64 0]) ?_ rfl ?_
   ·rw[results_cell_tmp rfl];simp[asAddr,run_loadVar_row xU (w.heap.size+1) 43 43 _ (0,0) _ Co Tryz.underlying43 rfl vV.q]
   ·have oG:=sN.q.at_.ok.grown xV (fun g e=>by injection e with e;subst e;exact sN.q.xk);obtain⟨J3,xB,il,T9,_⟩:=(Aa.q.kept xV (.inr (Aa.q.iK (by omega)))).freeze oG (fun b hb=>M8.q.at_.ok.fresh hb);have qx:=xB.keep M8.q.at_.ok (Qn _);rw[Hn.q];exact⟨_,_,_,_,J3,rfl,sN.q.at_.eD.grown xV sN.q.at_.size (fun k e=>by injection e with e;omega),M8.q.ext.trans xB (by omega),il,⟨aY.nil _ _,LQ.mono qx,CE.mono qx,T9⟩⟩
