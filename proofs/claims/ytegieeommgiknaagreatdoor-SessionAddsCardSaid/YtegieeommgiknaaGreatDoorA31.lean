/- Lemmas for the claim's theorem;conditions: as each says. -/
import Derived.Test.YtegieeommgiknaaGreatDoorA30
set_option maxHeartbeats 0
set_option maxRecDepth 100000
set_option linter.all false
namespace Go.Proofs.YtegieeommgiknaaGreatDoor
open Go.RowKit
variable{ai dt sp:Int}{n m:Nat}{aA:Int}{vs:Value}{x:Option Addr×Nat}{I:IH}{w0:World}{s:bV}{ve:Value}{W:World}
abbrev Tz(n m ll sc:Nat)(so:Option Addr)(ai dt sp aA:Int)(ld:af)(x:Nat):List (Option Tmp×Value):=
 [(some 31,.pointer (some ⟨n,3,none⟩)),(some 32,.slice so ll sc),(some 33,.int .i64 (ll:Int)),(some 34,.int .i64 ((ll:Int)+1)),(some 35,.int .i64 aA),(some 36,bW ai dt sp (.slice so ll sc)),(some 37,S ld),(some 38,.pointer (some ⟨m,0,none⟩)),(none,undef),(some 39,.pointer (some ⟨m,1,none⟩)),(none,undef),(some 40,.pointer (some ⟨m,2,none⟩)),(none,undef)]
theorem CW{ll sc:Nat}{so:Option Addr}{ld:af}{x:Nat}:bC (Tz n m ll sc so ai dt sp aA ld x):=by
 unfold bC;simp
abbrev KI(m:Nat)(q:ib)(vk:Value)(ah:Option Addr)(hl ch al:Nat)(aA:Int)(x:Option Addr×Nat):List (Option Tmp×Value):=
 [(some 53,fD q vk),(some 54,.pointer (some ⟨m,8,none⟩)),(some 55,.slice ah hl ch),(some 56,.int .i64 aA),(some 57,.slice x.1 al x.2),(some 58,.pointer (some ⟨m,4,none⟩)),(none,undef),(some 59,.pointer (some ⟨m,8,none⟩)),(none,undef)]
theorem Ff{q:ib}{vk:Value}{ah:Option Addr}{hl ch al:Nat}:bC (KI m q vk ah hl ch al aA x):=by
 unfold bC;simp
theorem Xr(I:IH)(hI:fG I)(ai dt sp:Int)(L:List bV)(h:eT n m L)(hn:n≤150)(hm:m≤250)(vs:Value)(fV:aZ fw I vs L)(aA:Int)(w:World)(hw:Ok I w):
 Calls Tryz.prog 11 #[bW ai dt sp vs,.int .i64 aA] w (uq I w (jB L aA).1 (jB L aA).2):=by
 have hlen:=h.len;have bI:=Qh (fun w hw=>Xrm I hI ai dt sp L h hn (by omega) vs fV w hw);have TA:=Qh (fun J (hk:∀b c,I b=some c→J b=some c) w hw=>Xu J (hI.mono hk) ai dt sp L vs (fV.mono hk) (h.CL (by omega) (by omega)) w hw);have KJ:=Qh (fun w hw=>Xv I ai dt sp L vs fV w hw);have KH:=Qh (h.wZ (by omega) (by omega));have CO:=Qh h.xg;have ma:=Qh fV;have oM:=Qh (show(Tryz.prog.info? 46).map (·.size)=some 9 by kernel_rfl);obtain⟨so,sc,rfl,_,_,_⟩:=id fV;have M:=Qh (MU hw ai dt sp (.slice so L.length sc) aY 46);have hb:jB L aA=if bQ L aA≠0 then(qY,bQ L aA)else(dK L aA,0):=rfl;have d1:decide ((255:Int)≤(L.length:Int))=false:=Qf (by omega);have Cf:bQ L aA=if aA<0∨1000000000<aA then 2 else if aA<fP L then 14 else 0:=by unfold bQ;rw[if_neg (by omega)]
 have Hb:=Qh hb;have lC:=Qh Cf;clear h fV hb Cf;obtain⟨W2,kU⟩:∃W2,((w.alloc (.cells #[.int .u32 ai,.int .i64 dt,.int .i64 sp,.slice so L.length sc] 30)).alloc (.cells aY 46))=W2:=⟨_,rfl⟩;rw[kU]at M;obtain⟨z0,z1,z2,z3⟩:=(⟨M.O.a0,M.O.a1,M.O.a2,M.O.a3⟩:_∧_∧_∧_);go_enter Tryz.func11,Tryz.ntmps11
 go_upto_region 3 with fail
 obtain⟨B,hB⟩:∃B:Bool,decide (aA<0∨1000000000<aA)=B:=⟨_,rfl⟩;clear kU;go_cut [15] (fun s15 wx=>s15= .bool B∧W2=wx)
 case first=>
  by_cases q1:aA<0
  ·have i1:decide (aA<0)=true:=Qt q1;have gV:B=true:=by rw[←hB];exact Qt (.inl q1)
   subst gV;clear hB q1;go_wp2_with fail
   go_meet;exact⟨rfl,rfl⟩
  ·have i1:decide (aA<0)=false:=Qf q1;by_cases q2:1000000000<aA
   ·have i2:decide (1000000000<aA)=true:=Qt q2;have gV:B=true:=by rw[←hB];exact Qt (.inr q2)
    subst gV;clear hB q1 q2;go_wp2_with fail
    go_meet;exact⟨rfl,rfl⟩
   ·have i2:decide (1000000000<aA)=false:=Qf q2;have gV:B=false:=by rw[←hB];exact Qf (by omega)
    subst gV;clear hB q1 q2;go_wp2_with fail
    go_meet;exact⟨rfl,rfl⟩
 case rest=>
 obtain⟨rfl,hcut⟩:=hcut;subst hcut;cases B;case true=>
  have Hn:=Qh (show jB L aA=(qY,2) by rw[Hb.O,lC.O,if_pos (of_decide_eq_true hB)];rfl);clear hB z0 z1 z2 z3;have bR:=M.O.O
  go_wp2_with (refine fO rfl rfl 46 _ _ rfl (w.heap.size+1) 0 aY.toList (.agg aY) (by simp[Act.eval]) (by simp[Act.eval]) (by rfl) aY 46 bR (by simp) (by kernel_rfl) (by simp[Value.oneCell']) aY (by rfl) ?_
               intro w9 bK fB)
  refine bodyPost_ret (v:= .tuple #[.agg aY,.int .i64 2]) ?_ rfl (M.O.bad bK Hn.O);rw[results_cell_tmp rfl];simp[asAddr,run_loadVar_row w9 (w.heap.size+1) 46 46 _ (0,0) _ fB Tryz.underlying46 rfl oM.O]
 replace lC:=Qh (lC.O.trans (if_neg (of_decide_eq_false hB)));have Kg:0≤aA∧aA≤1000000000:=by have:=of_decide_eq_false hB;omega
 clear hB;go_wp2_with fail
 refine(KJ.O W2 M.O.at_.ok).mono ?_;rintro e0 w0 ⟨rfl,tX⟩;replace M:=Qh (M.O.quiet tX);clear z0 z1 z2 z3 tX KJ;obtain⟨z0,z1,z2,z3⟩:=(⟨M.O.a0,M.O.a1,M.O.a2,M.O.a3⟩:_∧_∧_∧_);go_upto_if 23 with fail
 obtain⟨B,hB⟩:∃B:Bool,decide (aA<fP L)=B:=⟨_,rfl⟩;rw[hB];cases B;case true=>
  have Hn:=Qh (show jB L aA=(qY,14) by rw[Hb.O,lC.O,if_pos (of_decide_eq_true hB)];rfl);clear hB z0 z1 z2 z3;have bR:=M.O.O
  go_wp2_with (refine fO rfl rfl 46 _ _ rfl (w.heap.size+1) 0 aY.toList (.agg aY) (by simp[Act.eval]) (by simp[Act.eval]) (by rfl) aY 46 bR (by simp) (by kernel_rfl) (by simp[Value.oneCell']) aY (by rfl) ?_
               intro w9 bK fB)
  refine bodyPost_ret (v:= .tuple #[.agg aY,.int .i64 14]) ?_ rfl (M.O.bad bK Hn.O);rw[results_cell_tmp rfl];simp[asAddr,run_loadVar_row w9 (w.heap.size+1) 46 46 _ (0,0) _ fB Tryz.underlying46 rfl oM.O]
 have Hn:=Qh (show jB L aA=(dK L aA,0) by rw[Hb.O,lC.O,if_neg (of_decide_eq_false hB)];rfl);clear hB Hb lC;go_wp2_with fail
 refine(bI.O w0 M.O.at_.ok).mono ?_;rintro e1 w1 ⟨vk,vt,vh,J1,rfl,aG,iY,aO,x8,Ah,Be⟩;obtain⟨ak,ck,rfl,_,_,_⟩:=id x8;obtain⟨at',jT,rfl,_,_,_⟩:=id Ah;obtain⟨ah,ch,rfl,_,_,_⟩:=id Be;have M1:=Qh (M.O.aR aG iY aO);have Az:=M1.O.lt;have yw:J1 w1.heap.size=none:=aO.fresh (Qn _);have m1:IntKind.i64.wrap ((L.length:Int)+1)=(L.length:Int)+1:=IntWalk.i64_in _ (by omega);have CP:=Qh ((KH.O.begin (by omega)).1);clear z0 z1 z2 z3 aG iY aO M bI
 go_wp2_with (refine fO rfl rfl 46 _ _ rfl w1.heap.size 0 (dA (⟨0,0,[],[],bB L,(aP aN L).aF,(aP aN L).holds⟩:fU) (.slice none 0 0) (.slice ak (bB L).aJ.length ck) (.slice at' (aP aN L).aF.length jT) (.slice ah (aP aN L).holds.length ch)) (gP (⟨0,0,[],[],bB L,(aP aN L).aF,(aP aN L).holds⟩:fU) (.slice none 0 0) (.slice ak (bB L).aJ.length ck) (.slice at' (aP aN L).aF.length jT) (.slice ah (aP aN L).holds.length ch)) (by simp[Act.eval]) (by simp[Act.eval]) (by rfl) aY 46 (heap_alloc_new _ _) (by simp) (by kernel_rfl) (by simp[Value.oneCell']) (dA (⟨0,0,[],[],bB L,(aP aN L).aF,(aP aN L).holds⟩:fU) (.slice none 0 0) (.slice ak (bB L).aJ.length ck) (.slice at' (aP aN L).aF.length jT) (.slice ah (aP aN L).holds.length ch)).toArray (by rfl) ?_
              intro w2 hg2 iN;have z0:=fC hg2 (by simp;omega) (kM (.cells aY 46) M1.O.a0);have z1:=fC hg2 (by simp;omega) (kM (.cells aY 46) M1.O.a1);have z2:=fC hg2 (by simp;omega) (kM (.cells aY 46) M1.O.a2);have z3:=fC hg2 (by simp;omega) (kM (.cells aY 46) M1.O.a3))
 have M2:=Qh (M1.O.quiet (((Qb _ _).alloc (Qn _) _).grown hg2 (by simp) (fun k e=>by injection e with e;omega)));have pV:=(Qg iN);have Es:∀g,some w1.heap.size=some g→J1 g=none∧w.heap.size<g∧w.heap.size+1<g:=fun g e=>by injection e with e;subst e;exact⟨yw,by omega,by omega⟩
 clear M1 hg2;refine qR (X:=Nat) (Tz w.heap.size w1.heap.size L.length sc so ai dt sp aA (dD L)) (jX w2 224 234 225 235 226 236 227 237 (fun _ _=>True) (fun _ _=>True) (fun _ _=>True) (fun _ _=>True) (fun _ _=>True) (fun _ _=>True) (fun x=>w1.heap.size) 46 8 10 12 (fun x=> #[.int .i64 ((L.length:Int)+1),.int .i64 0,S [],.slice none 0 0,(.slice ak (bB L).aJ.length ck),.int .i64 (bB L).bg,S (bB L).str,(.slice at' (aP aN L).aF.length jT),(.slice ah (aP aN L).holds.length ch)]) (fun x=> #[.int .i64 ((L.length:Int)+1),.int .i64 aA,S [],.slice none 0 0,(.slice ak (bB L).aJ.length ck),.int .i64 (bB L).bg,S (bB L).str,(.slice at' (aP aN L).aF.length jT),(.slice ah (aP aN L).holds.length ch)]) (fun x=> #[.int .i64 ((L.length:Int)+1),.int .i64 aA,S (dD L),.slice none 0 0,(.slice ak (bB L).aJ.length ck),.int .i64 (bB L).bg,S (bB L).str,(.slice at' (aP aN L).aF.length jT),(.slice ah (aP aN L).holds.length ch)])) (by kernel_rfl) (by kernel_rfl) ?_ ?_ ?_
 ·exact⟨0,jX.start _ _ trivial⟩
 ·rintro x s' a' w' i bS bO ha hC hi;obtain⟨aH,oi,dI,au⟩:=mem_ready.1 hi;have ev:=vV CW ha;have hlt:=oO aH;rcases i with _|_|_|_|_|_|_|_|_|_|_|_|_|i
  rotate_left 13
  ·simp at dI
  all_goals
   have dH:=dI;simp at dI;subst dI;simp[Region.binds]at au;try have hl:=kz 6 8 bO (by decide+kernel) aH
   try have aT:=hC.off hl
   try have z0:=aV aT z0
   try have z1:=aV aT z1
   try have z2:=aV aT z2
   try have z3:=aV aT z3
   try have m1:=aV aT m1
   refine wpOp_step dH (fun K' hK=> ?_);rw[if_pos (by rfl)]
  rotate_left 6
  ·unfold Oper.wp;simp[go_sem,ev,dG,au,Oper.upon];refine(TA.O J1 M2.O.at_.keep w' (M2.O.at_.ok.below (Qn _) aT)).mono ?_;rintro r4 w4 ⟨rfl,aS⟩;exact hK _ _ ⟨x,gD CW ha rfl aH,hC.step hl (aT.trans (aS.mono aT.size)) (by decide) (fun _=>trivial) (fun _ _=>trivial) (fun _ _=>trivial) (fun _ _=>trivial) (fun _ _=>trivial) hlt⟩
  rotate_left 1
  ·have aK:w'.heap[w1.heap.size]?=some (.cells _ 46 (0,0)):=(aT.block _ (Qg iN)).trans iN;refine oK 3 _ _ rfl (w1.heap.size) 0 [.int .i64 ((L.length:Int)+1)] (.int .i64 ((L.length:Int)+1)) (by simp[Act.eval,ev,dG,au]) (by simp[Act.eval,ev,dG,au]) (by rfl) _ _ aK (by simp) (by kernel_rfl) (by simp[Value.oneCell']) ?_;exact hK _ _ ⟨x,dS (d:=none) (v:=undef) CW ha rfl aH,hC.jP aH trivial (kz 6 10 bO (by kernel_rfl) aH) (kz 6 12 bO (by kernel_rfl) aH) (by decide) aK (by rfl)⟩
  rotate_left 1
  ·have aK:=hC.zC (s1:=8) (by first|simpa using au|simp[au]) (gG aH) (kz 6 12 bO (by kernel_rfl) aH);refine oK 3 _ _ rfl (w1.heap.size) 1 [.int .i64 aA] (.int .i64 aA) (by simp[Act.eval,ev,dG,au]) (by simp[Act.eval,ev,dG,au]) (by rfl) _ _ aK (by simp) (by kernel_rfl) (by simp[Value.oneCell']) ?_;exact hK _ _ ⟨x,dS (d:=none) (v:=undef) CW ha rfl aH,hC.wH aH (by first|simpa using au|simp[au]) (kz 6 12 bO (by kernel_rfl) aH) (by decide) (by rfl)⟩
  rotate_left 1
  ·have aK:=hC.jC (s1:=8) (s2:=10) (by first|simpa using au|simp[au]) (by first|simpa using au|simp[au]) (gG aH);refine oK 9 _ _ rfl (w1.heap.size) 2 [S (dD L)] (S (dD L)) (by simp[Act.eval,ev,dG,au]) (by simp[Act.eval,ev,dG,au]) (by rfl) _ _ aK (by simp) (by kernel_rfl) (by simp[Value.oneCell']) ?_;exact hK _ _ ⟨x,dS (d:=none) (v:=undef) CW ha rfl aH,hC.TB aH (by first|simpa using au|simp[au]) (by decide) (by rfl)⟩
  all_goals
   unfold Oper.wp;first
   |(simp[go_sem,ev,dG,au,Oper.upon,z0,z1,z2,z3,m1];exact hK _ _ ⟨x,gD CW ha rfl aH,hC.pure (by decide)⟩)
   |(simp[go_sem,ev,dG,Oper.upon,z0,z1,z2,z3,m1];exact hK _ _ ⟨x,gD CW ha rfl aH,hC.pure (by decide)⟩)
 ·rintro x s' a' w6 eu ha hC;obtain⟨wb,eG,ed,dR,aK⟩:=hC.on (eu 8 (by decide));rw[if_pos (eu 12 (by decide))]at aK;rw[qz _ _ _ _ (fun i hi=>by rw[Nat.zero_add];exact eu i (by simpa using hi))]at ha;subst ha;simp only[dE,Act.put,List.setIfInBounds_toArray,List.set_cons_succ,List.set_cons_zero];clear ed;have M6:=Qh ((M2.O.quiet eG).own dR Es);have mP:=aK;have z4:w6.cell? ⟨w1.heap.size,4,none⟩=some _:=(cell_of_row _ _ 4 _ _ _ mP).trans rfl;have z5:w6.cell? ⟨w1.heap.size,5,none⟩=some _:=(cell_of_row _ _ 5 _ _ _ mP).trans rfl;have z6:w6.cell? ⟨w1.heap.size,6,none⟩=some _:=(cell_of_row _ _ 6 _ _ _ mP).trans rfl;have zn:w6.cell? ⟨w1.heap.size,0,none⟩=some _:=(cell_of_row _ _ 0 _ _ _ mP).trans rfl;have lC:=Qh (Xpl J1 (bB L) (.slice ak (bB L).aJ.length ck) x8 (by have:=KH.O.aJ;omega) ((L.length:Int)+1) w6 M6.O.at_.ok);rw[CP.O]at lC;clear z0 z1 z2 z3 hC eu dR eG aK iN M2 TA;go_wp2_with fail
  clear z4 z5 z6 zn;refine lC.O.mono ?_;rintro e7 w7 ⟨vk2,J2,rfl,ji,jL,eY,xh⟩;obtain⟨kY,ck2,rfl,_,_,_⟩:=id xh;have M7:=Qh (M6.O.aR ji jL eY);have vK:=(Qg mP);have gN:=(ji.block _ vK).trans mP;have CQ:J2 w1.heap.size=none:=(jL _ vK).trans yw;have zB:=jL.keep M6.O.at_.ok (Qn _);have uZ:∀g,some w1.heap.size=some g→J2 g=none∧w.heap.size<g∧w.heap.size+1<g:=fun g e=>by injection e with e;subst e;exact⟨CQ,by omega,by omega⟩
  have rY:=Ah.mono zB;have CR:=Be.mono zB;clear ji jL eY mP M6 lC x8
  go_wp2_with (refine fO rfl rfl 43 _ _ rfl w7.heap.size 0 [.slice kY (bB L).aJ.length ck2,.int .i64 ((L.length:Int)+1),S []] (fD ⟨(bB L).aJ,(L.length:Int)+1,[]⟩ (.slice kY (bB L).aJ.length ck2)) (by simp[Act.eval]) (by simp[Act.eval]) (by rfl) #[.slice none 0 0,.int .i64 0,.string ⟨#[]⟩] 43 (heap_alloc_new _ _) (by simp) (by kernel_rfl) (by simp[Value.oneCell']) #[.slice kY (bB L).aJ.length ck2,.int .i64 ((L.length:Int)+1),S []] (by rfl) ?_
               intro w8 qO uf)
  have mH:Below w7.heap.size w7 w8:=((Qb _ _).alloc (Qn _) _).grown qO (by simp) (fun k e=>by injection e with e;omega);have M8:=Qh (M7.O.quiet mH);have xV:=(Qg gN);replace gN:=(mH.block _ xV).trans gN;have y0:w8.cell? ⟨w7.heap.size,0,none⟩=some _:=(cell_of_row _ _ 0 _ _ _ uf).trans rfl;have y1:w8.cell? ⟨w7.heap.size,1,none⟩=some _:=(cell_of_row _ _ 1 _ _ _ uf).trans rfl;have y2:w8.cell? ⟨w7.heap.size,2,none⟩=some _:=(cell_of_row _ _ 2 _ _ _ uf).trans rfl;have z8:w8.cell? ⟨w1.heap.size,8,none⟩=some _:=(cell_of_row _ _ 8 _ _ _ gN).trans rfl;have CS:=Qh (fun w hw=>TC J2 (.slice ah (aP aN L).holds.length ch) (aP aN L).holds CR (by have:=CO.O.ok.hlen;omega) aA w hw);have GZ:=(Qg gN);have aai:=M8.O.lt;clear qO uf M7;refine qR (X:=Option Addr×Nat) (KI w1.heap.size (⟨(bB L).aJ,(L.length:Int)+1,[]⟩) (.slice kY (bB L).aJ.length ck2) ah ((aP aN L).holds.length) ch ((bY (aP aN L).holds aA).length) aA) (jX w8 4 230 221 231 222 232 223 233 (fun _ _=>True) (fun x w=>aQ ku 106 J2 w w8.heap.size (.slice x.1 (bY (aP aN L).holds aA).length x.2) (bY (aP aN L).holds aA)) (fun _ _=>True) (fun _ _=>True) (fun _ _=>True) (fun x w=>aQ ku 106 J2 w w8.heap.size (.slice x.1 (bY (aP aN L).holds aA).length x.2) (bY (aP aN L).holds aA)) (fun x=>w1.heap.size) 46 6 8 210 (fun x=> #[.int .i64 ((L.length:Int)+1),.int .i64 aA,S (dD L),.slice none 0 0,(.slice kY (bB L).aJ.length ck2),.int .i64 ((L.length:Int)+1),S [],(.slice at' (aP aN L).aF.length jT),(.slice ah (aP aN L).holds.length ch)]) (fun x=> #[.int .i64 ((L.length:Int)+1),.int .i64 aA,S (dD L),.slice none 0 0,(.slice kY (bB L).aJ.length ck2),.int .i64 ((L.length:Int)+1),S [],(.slice at' (aP aN L).aF.length jT),.slice x.1 (bY (aP aN L).holds aA).length x.2]) (fun x=> #[.int .i64 ((L.length:Int)+1),.int .i64 aA,S (dD L),.slice none 0 0,(.slice kY (bB L).aJ.length ck2),.int .i64 ((L.length:Int)+1),S [],(.slice at' (aP aN L).aF.length jT),.slice x.1 (bY (aP aN L).holds aA).length x.2])) (by kernel_rfl) (by kernel_rfl) ?_ ?_ ?_
  ·exact⟨default,jX.start _ _ trivial⟩
  ·rintro x s' a' w' i bS bO ha hC hi;obtain⟨aH,oi,dI,au⟩:=mem_ready.1 hi;have ev:=vV Ff ha;have hlt:=oO aH;rcases i with _|_|_|_|_|_|_|_|_|i
   rotate_left 9
   ·simp at dI
   all_goals
    have dH:=dI;simp at dI;subst dI;simp[Region.binds]at au;try have hl:=kz 6 6 bO (by decide+kernel) aH
    try have aT:=hC.off hl
    try have y0:=aV aT y0
    try have y1:=aV aT y1
    try have y2:=aV aT y2
    try have z8:=aV aT z8
    refine wpOp_step dH (fun K' hK=> ?_);rw[if_pos (by rfl)]
   rotate_left 4
   ·unfold Oper.wp;simp[go_sem,ev,dG,au,Oper.upon];refine(CS.O w' (M8.O.at_.ok.below (Qn _) aT)).mono ?_;rintro r4 w4 ⟨v9,rfl,ho,aS⟩;obtain⟨a9,k9,rfl⟩:=wT ho;have ha:=ha.trans (lT (L:=KI w1.heap.size (⟨(bB L).aJ,(L.length:Int)+1,[]⟩) (.slice kY (bB L).aJ.length ck2) ah ((aP aN L).holds.length) ch ((bY (aP aN L).holds aA).length) aA x) (M:=KI w1.heap.size (⟨(bB L).aJ,(L.length:Int)+1,[]⟩) (.slice kY (bB L).aJ.length ck2) ah ((aP aN L).holds.length) ch ((bY (aP aN L).holds aA).length) aA (a9,k9)) [4] rfl (fun j bq=>by
     rcases j with _|_|_|_|_|_|_|_|_|j<;>first|rfl|(exact absurd (by decide) bq)|simp) (List.forall_mem_cons.2 ⟨gG aH,List.forall_mem_nil _⟩))
    exact hK _ _ ⟨(a9,k9),gD Ff ha rfl aH,hC.step hl (aT.trans (aS.mono aT.size)) (by decide) (fun _=>trivial) (fun _ _=>ho.lower aT.size) (fun _ _=>trivial) (fun _ _=>trivial) (fun _ _=>trivial) hlt⟩
   rotate_left 1
   ·have aK:w'.heap[w1.heap.size]?=some (.cells _ 46 (0,0)):=(aT.block _ (Qg gN)).trans gN;refine oK 43 _ _ rfl (w1.heap.size) 4 [.slice kY (bB L).aJ.length ck2,.int .i64 ((L.length:Int)+1),S []] (fD ⟨(bB L).aJ,(L.length:Int)+1,[]⟩ (.slice kY (bB L).aJ.length ck2)) (by simp[Act.eval,ev,dG,au]) (by simp[Act.eval,ev,dG,au]) (by rfl) _ _ aK (by simp) (by kernel_rfl) (by simp[Value.oneCell']) ?_;exact hK _ _ ⟨x,dS (d:=none) (v:=undef) Ff ha rfl aH,hC.jP aH (hC.f1 (by first|simpa using au|simp[au]) (gX (by simp[bS])) hl) (kz 6 8 bO (by kernel_rfl) aH) (gX (by simp[bS])) (by decide) aK (by rfl)⟩
   rotate_left 1
   ·have aK:=hC.zC (s1:=6) (by first|simpa using au|simp[au]) (gG aH) (gX (by simp[bS]));refine oK 44 _ _ rfl (w1.heap.size) 8 [.slice x.1 (bY (aP aN L).holds aA).length x.2] (.slice x.1 (bY (aP aN L).holds aA).length x.2) (by simp[Act.eval,ev,dG,au]) (by simp[Act.eval,ev,dG,au]) (by rfl) _ _ aK (by simp) (by kernel_rfl) (by simp[Value.oneCell']) ?_;exact hK _ _ ⟨x,dS (d:=none) (v:=undef) Ff ha rfl aH,hC.wH aH (by first|simpa using au|simp[au]) (gX (by simp[bS])) (by decide) (by rfl)⟩
   all_goals
    unfold Oper.wp;first
    |(simp[go_sem,ev,dG,au,Oper.upon,y0,y1,y2,z8];exact hK _ _ ⟨x,gD Ff ha rfl aH,hC.pure (by decide)⟩)
    |(simp[go_sem,ev,dG,Oper.upon,y0,y1,y2,z8];exact hK _ _ ⟨x,gD Ff ha rfl aH,hC.pure (by decide)⟩)
  ·rintro x s' a' mf eu ha hC;obtain⟨wb,eG,ed,dR,aK⟩:=hC.on (eu 6 (by decide));rw[if_pos (eu 8 (by decide))]at aK;simp only[ite_self]at aK;rw[qz _ _ _ _ (fun i hi=>by rw[Nat.zero_add];exact eu i (by simpa using hi))]at ha;subst ha;simp only[dE,Act.put,List.setIfInBounds_toArray,List.set_cons_succ,List.set_cons_zero];obtain⟨qP,qQ⟩:=x;dsimp only at ed dR aK ⊢;obtain⟨y0,y1,y2,y3,y4,y5,y6,y7,y8⟩:=drB_row (d:=dK L aA) aK;have l8:=Qh ((M8.O.quiet eG).own dR uZ);have Bf:=Qh (ed.kept dR (.inr (ed.dm (by omega))));have bR:=l8.O.O
   go_wp2_with (refine fO rfl rfl 46 _ _ rfl (w.heap.size+1) 0 (dA (dK L aA) (.slice none 0 0) (.slice kY (bB L).aJ.length ck2) (.slice at' (aP aN L).aF.length jT) (.slice qP (bY (aP aN L).holds aA).length qQ)) (gP (dK L aA) (.slice none 0 0) (.slice kY (bB L).aJ.length ck2) (.slice at' (aP aN L).aF.length jT) (.slice qP (bY (aP aN L).holds aA).length qQ)) (by simp[Act.eval]) (by simp[Act.eval]) (by rfl) _ 46 bR (by simp) (by kernel_rfl) (by simp[Value.oneCell']) (dA (dK L aA) (.slice none 0 0) (.slice kY (bB L).aJ.length ck2) (.slice at' (aP aN L).aF.length jT) (.slice qP (bY (aP aN L).holds aA).length qQ)).toArray (by rfl) ?_
                intro sM nE wG)
   refine bodyPost_ret (v:= .tuple #[gP (dK L aA) (.slice none 0 0) (.slice kY (bB L).aJ.length ck2) (.slice at' (aP aN L).aF.length jT) (.slice qP (bY (aP aN L).holds aA).length qQ),.int .i64 0]) ?_ rfl ?_
   ·rw[results_cell_tmp rfl];simp[asAddr,run_loadVar_row sM (w.heap.size+1) 46 46 _ (0,0) _ wG Tryz.underlying46 rfl oM.O]
   ·have jS:=l8.O.at_.ok.grown nE (fun g e=>by injection e with e;subst e;exact l8.O.rZ);obtain⟨J3,wB,fo,CV,_⟩:=(Bf.O.kept nE (.inr (Bf.O.dm (by omega)))).freeze jS (fun b hb=>M8.O.at_.ok.fresh hb);have sJ:=wB.keep M8.O.at_.ok (Qn _);rw[Hn.O];exact⟨_,_,_,_,J3,rfl,l8.O.at_.eU.grown nE l8.O.at_.size (fun k e=>by injection e with e;omega),M8.O.ext.trans wB (by omega),fo,⟨aZ.nil _ _,xh.mono sJ,rY.mono sJ,CV⟩⟩
theorem TD:eZ Tryz.prog 28 56 fw 88:=eZ.of Tryz.underlying28 Xd4 rfl (by decide) rfl
abbrev uu:Array Value:=#[.int .i64 0,.int .i64 0,.string ⟨#[]⟩,.slice none 0 0,.string ⟨#[]⟩,.string ⟨#[]⟩]
abbrev cO:Array Value:=#[.int .u32 0,.int .i64 0,.int .i64 0,.slice none 0 0]
def Bg(I:IH)(w:World)(s:bV)(e:Ending)(w':World):Prop:=
 ∃ve J,e= .returned (nD s ve)∧Below w.heap.size w w'∧Ext w.heap.size I J∧Ok J w'∧aZ bM J ve s.aB
def yX(I:IH)(w:World)(ai dt sp:Int)(L:List bV)(n:Int)(e:Ending)(w':World):Prop:=
 ∃vs J,e= .returned (.tuple #[bW ai dt sp vs,.int .i64 n])∧Below w.heap.size w w'∧Ext w.heap.size I J∧Ok J w'∧aZ fw J vs L
abbrev KL(n:Nat)(num aA:Int)(bE:af)(eo:Option Addr)(le ec:Nat)(str:af)(x:Option Addr×Nat):List (Option Tmp×Value):=
 [(some 3,.pointer (some ⟨n,0,none⟩)),(some 4,.int .i64 num),(some 5,.pointer (some ⟨n,1,none⟩)),(some 6,.int .i64 aA),(some 7,.pointer (some ⟨n,2,none⟩)),(some 8,S bE),(some 9,.pointer (some ⟨n,3,none⟩)),(some 10,.slice eo le ec),(some 11,.slice x.1 le x.2),(some 12,.pointer (some ⟨n,4,none⟩)),(some 13,.pointer (some ⟨n,6,none⟩)),(some 14,S str),(some 15,.agg #[.int .i64 num,.int .i64 aA,S bE,.slice x.1 le x.2,S str,.string ⟨#[]⟩]),(none,undef)]
theorem G5{num:Int}{bE:af}{eo:Option Addr}{le ec:Nat}{str:af}:bC (KL n num aA bE eo le ec str x):=by
 unfold bC;simp
abbrev G6(n le yx cp:Nat)(ao:Option Addr)(s:bV)(ve:Value)(x:Nat×(Option Addr×Nat)×Nat×(Option Addr×Nat)):List (Option Tmp×Value):=
 [(some 41,.slice (some ⟨x.1,0,none⟩) 0 0),(some 42,.pointer (some ⟨n,3,none⟩)),(some 43,.slice ao le cp),(some 44,.slice x.2.1.1 le x.2.1.2),(some 45,nD s ve),(some 46,.slice (some ⟨x.2.2.1,0,none⟩) 1 1),(some 47,.slice x.2.2.2.1 yx x.2.2.2.2),(some 48,.pointer (some ⟨n,3,none⟩)),(none,undef)]
theorem Xw(I:IH)(d:fU)(hn:d.aB.length≤100000)(ve vk vt vh:Value)(mG:aZ bM I ve d.aB)(w:World)(hw:Ok I w):
 Calls Tryz.prog 17 #[gP d ve vk vt vh] w (Bg I w (bF d)):=by
 have qZ:=Qh (fun w hw=>G7 I ve d.aB mG w hw (by omega));have Ow:=Qh (show(Tryz.prog.info? 56).map (·.size)=some 6 by kernel_rfl);obtain⟨eo,ec,rfl,_,_,_⟩:=id mG;obtain⟨W2,kU⟩:∃W2,((w.alloc (.cells #[.int .i64 d.num,.int .i64 d.aA,S d.bE,.slice eo d.aB.length ec,vk,.int .i64 d.bf.bg,S d.bf.str,vt,vh] 46)).alloc (.cells uu 56))=W2:=⟨_,rfl⟩;obtain⟨bS,h0,bR,Jw⟩:=GX w _ _ _ _ W2 kU;have bn:Ok I W2:=by rw[←kU];exact(hw.alloc _).alloc _
 obtain⟨b0,b1,b2,b3,b4,b5,b6,b7,b8⟩:=drB_row (d:=d) h0;have CX:=Qh bR;clear mG h0 bR;go_enter Tryz.func17,Tryz.ntmps17
 go_wp2_with fail
 have bR:=CX.O;clear kU;refine qR (X:=Option Addr×Nat) (KL w.heap.size d.num d.aA d.bE eo d.aB.length ec d.bf.str) (jX W2 8 235 226 236 227 237 228 238 (fun _ _=>True) (fun x w=>aQ bM 63 I w W2.heap.size (.slice x.1 d.aB.length x.2) d.aB) (fun _ _=>True) (fun _ _=>True) (fun _ _=>True) (fun x w=>aQ bM 63 I w W2.heap.size (.slice x.1 d.aB.length x.2) d.aB) (fun x=>(w.heap.size+1)) 56 13 215 216 (fun x=>(kC (bF d) (.slice x.1 d.aB.length x.2)).toArray) (fun x=>(kC (bF d) (.slice x.1 d.aB.length x.2)).toArray) (fun x=>(kC (bF d) (.slice x.1 d.aB.length x.2)).toArray)) (by kernel_rfl) (by kernel_rfl) ?_ ?_ ?_
 ·exact⟨default,jX.start _ _ trivial⟩
 ·rintro x s' a' w' i bS bO ha hC hi;obtain⟨aH,oi,dI,au⟩:=mem_ready.1 hi;have ev:=vV G5 ha;have hlt:=oO aH;rcases i with _|_|_|_|_|_|_|_|_|_|_|_|_|_|i
  rotate_left 14
  ·simp at dI
  all_goals
   have dH:=dI;simp at dI;subst dI;simp[Region.binds]at au;try have hl:=kz 6 13 bO (by decide+kernel) aH
   try have aT:=hC.off hl
   try have b0:=aV aT b0
   try have b1:=aV aT b1
   try have b2:=aV aT b2
   try have b3:=aV aT b3
   try have b6:=aV aT b6
   refine wpOp_step dH (fun K' hK=> ?_);rw[if_pos (by rfl)]
  rotate_left 8
  ·unfold Oper.wp;simp[go_sem,ev,dG,au,Oper.upon];refine(qZ.O w' (bn.below (Qn _) aT)).mono ?_;rintro r4 w4 ⟨v7,rfl,ho,aS⟩;obtain⟨a7,k7,rfl⟩:=wT ho;have ha:=ha.trans (lT (L:=KL w.heap.size d.num d.aA d.bE eo d.aB.length ec d.bf.str x) (M:=KL w.heap.size d.num d.aA d.bE eo d.aB.length ec d.bf.str (a7,k7)) [8,12] rfl (fun j bq=>by
    rcases j with _|_|_|_|_|_|_|_|_|_|_|_|_|_|j<;>first|rfl|(exact absurd (by decide) bq)|simp) (List.forall_mem_cons.2 ⟨gG aH,List.forall_mem_cons.2 ⟨kz 6 12 bO (by kernel_rfl) aH,List.forall_mem_nil _⟩⟩))
   exact hK _ _ ⟨(a7,k7),gD G5 ha rfl aH,hC.step hl (aT.trans (aS.mono aT.size)) (by decide) (fun _=>trivial) (fun _ _=>ho.lower aT.size) (fun _ _=>trivial) (fun _ _=>trivial) (fun _ _=>trivial) hlt⟩
  rotate_left 4
  ·have aK:w'.heap[(w.heap.size+1)]?=some (.cells _ 56 (0,0)):=(aT.block _ (Qg bR)).trans bR;refine oK 56 _ _ rfl ((w.heap.size+1)) 0 [.int .i64 d.num,.int .i64 d.aA,S d.bE,.slice x.1 d.aB.length x.2,S d.bf.str,.string ⟨#[]⟩] (.agg #[.int .i64 d.num,.int .i64 d.aA,S d.bE,.slice x.1 d.aB.length x.2,S d.bf.str,.string ⟨#[]⟩]) (by simp[Act.eval,ev,dG,au]) (by simp[Act.eval,ev,dG,au]) (by rfl) _ _ aK (by simp) (by kernel_rfl) (by simp[Value.oneCell']) ?_;exact hK _ _ ⟨x,dS (d:=none) (v:=undef) G5 ha rfl aH,hC.jP aH (hC.f1 (by first|simpa using au|simp[au]) (gX (by simp[bS])) hl) (gX (by simp[bS])) (gX (by simp[bS])) (by decide) aK (by rfl)⟩
  all_goals
   unfold Oper.wp;first
   |(simp[go_sem,ev,dG,au,Oper.upon,b0,b1,b2,b3,b6];exact hK _ _ ⟨x,gD G5 ha rfl aH,hC.pure (by decide)⟩)
   |(simp[go_sem,ev,dG,Oper.upon,b0,b1,b2,b3,b6];exact hK _ _ ⟨x,gD G5 ha rfl aH,hC.pure (by decide)⟩)
 ·rintro x s' a' w3 eu ha hC;obtain⟨wb,eG,ed,dR,aK⟩:=hC.on (eu 13 (by decide));simp only[ite_self]at aK;rw[qz _ _ _ _ (fun i hi=>by rw[Nat.zero_add];exact eu i (by simpa using hi))]at ha;subst ha;simp only[dE,Act.put,List.setIfInBounds_toArray,List.set_cons_succ,List.set_cons_zero];have Jy:=ed.kept dR (.inr (ed.dm (by omega)));have fo:Ok I w3:=(bn.below (Qn _) eG).grown dR (fun g e=>by injection e with e;subst e;exact hw.fresh (by omega));obtain⟨J,x9,q8,Bh,_⟩:=Jy.freeze fo (fun b hb=>hw.fresh (by omega));have dO:=(Jw.trans (eG.mono Jw.size)).grown dR (by have:=eG.size;omega) (fun k e=>by injection e with e;omega);go_wp2;refine bodyPost_ret (results_cell_row rfl _ _ (w.heap.size+1) _ (kC (bF d) (.slice x.1 d.aB.length x.2)).toArray (0,0) _ rfl aK Tryz.underlying56 rfl Ow.O) rfl ?_;exact⟨_,J,rfl,dO,x9.mono (by omega),q8,Bh⟩
theorem Xlz(I:IH)(d:fU)(ve vk vt vh:Value)(mG:aZ bM I ve d.aB)(w:World)(hw:Ok I w):
 Calls Tryz.prog 18 #[gP d ve vk vt vh] w (Bg I w (bF d)):=by
 have Ow:=Qh (show(Tryz.prog.info? 56).map (·.size)=some 6 by kernel_rfl);obtain⟨W2,kU⟩:∃W2,((w.alloc (.cells #[.int .i64 d.num,.int .i64 d.aA,S d.bE,ve,vk,.int .i64 d.bf.bg,S d.bf.str,vt,vh] 46)).alloc (.cells uu 56))=W2:=⟨_,rfl⟩;obtain⟨bS,h0,bR,eG⟩:=GX w _ _ _ _ W2 kU;have bn:Ok I W2:=by rw[←kU];exact(hw.alloc _).alloc _
 obtain⟨b0,b1,b2,b3,b4,b5,b6,b7,b8⟩:=drB_row (d:=d) h0;have Aq:=Qh mG;have CX:=Qh bR;obtain⟨eo,ec,rfl,_,_,_⟩:=id mG;clear mG h0 bR;go_enter Tryz.func18,Tryz.ntmps18
 go_wp2_with (refine fO rfl rfl 56 _ _ rfl (w.heap.size+1) 0 (kC (bF d) (.slice eo d.aB.length ec)) (nD (bF d) (.slice eo d.aB.length ec)) (by simp[Act.eval]) (by simp[Act.eval,bF]) (by rfl) uu 56 CX.O (by simp) (by kernel_rfl) (by simp[Value.oneCell']) (kC (bF d) (.slice eo d.aB.length ec)).toArray (by rfl) ?_
              intro w3 iX jK)
 refine bodyPost_ret (results_cell_row rfl _ _ (w.heap.size+1) _ (kC (bF d) (.slice eo d.aB.length ec)).toArray (0,0) _ rfl jK Tryz.underlying56 rfl Ow.O) rfl ?_;exact⟨_,I,rfl,eG.grown iX (by omega) (fun k e=>by injection e with e;omega),Ext.refl _ _,bn.grown iX (fun g e=>by injection e with e;subst e;exact hw.fresh (by omega)),Aq.O⟩
structure Et (I:IH) (w0:World) (ai dt sp:Int) (vs:Value) (s:bV) (ve:Value) (W:World):Prop where
 at_:lJ I w0 I W
 row:W.heap[w0.heap.size]?=some (.cells #[.int .u32 ai,.int .i64 dt,.int .i64 sp,vs] 30 (0,0))
 bg:lD W (w0.heap.size+1) s ve
 O:W.heap[w0.heap.size+2]?=some (.cells cO 30 (0,0))
theorem Et.quiet{W':World}(h:Et I w0 ai dt sp vs s ve W)(hb:Below W.heap.size W W'):Et I w0 ai dt sp vs s ve W':=
 ⟨h.at_.quiet hb,(hb.block _ (Qg h.row)).trans h.row,h.bg.aR hb,(hb.block _ (Qg h.O)).trans h.O⟩
theorem qU{w:World}{b:Nat}(h:w.heap[b]?=some (.cells #[.int .u32 ai,.int .i64 dt,.int .i64 sp,vs] 30 (0,0))):
 w.cell? ⟨b,0,none⟩=some (.int .u32 ai)∧w.cell? ⟨b,1,none⟩=some (.int .i64 dt)∧w.cell? ⟨b,2,none⟩=some (.int .i64 sp)∧w.cell? ⟨b,3,none⟩=some vs:=
 ⟨(cell_of_row _ _ 0 _ _ _ h).trans rfl,(cell_of_row _ _ 1 _ _ _ h).trans rfl,(cell_of_row _ _ 2 _ _ _ h).trans rfl,(cell_of_row _ _ 3 _ _ _ h).trans rfl⟩
theorem Et.old{w9:World}(hw:Ok I w0)(h:Et I w0 ai dt sp vs s ve W)(hg:W.grownBy w9 (some (w0.heap.size+2))){L:List bV}(fV:aZ fw I vs L){p:List bV×Int}{r:Int}(hp:p=(L,r)):
 yX I w0 ai dt sp p.1 p.2 (.returned (.tuple #[bW ai dt sp vs,.int .i64 r])) w9:=by
 subst hp;exact⟨vs,I,rfl,h.at_.eU.grown hg h.at_.size (fun k e=>by injection e with e;omega),Ext.refl _ _,h.at_.ok.grown hg (fun g e=>by injection e with e;subst e;exact hw.fresh (by omega)),fV⟩
