/- Lemmas for the claim's theorem;conditions: as each says. -/
import Derived.Test.YtegieeommgiknaaGreatDoorA31
set_option maxHeartbeats 0
set_option maxRecDepth 100000
set_option linter.all false
namespace Go.Proofs.YtegieeommgiknaaGreatDoor
open Go.RowKit
variable{d:fU}{L:List bV}{n:Nat}{aA:Int}{J:IH}{l:List ic}{m:Nat}{ve:Value}{B:Nat}{vk vt vh:Value}{k:Nat}{I:IH}{W w:World}{d0:fU}{w0:World}{ai dt sp:Int}{W':World}{v:Value}{o:Obj}{R:Array Value}{α:Type}{T:Ty α}{g:Nat}
abbrev Bi(n m le yx cp:Nat)(ao:Option Addr)(s:bV)(ve:Value)(x:(Option Addr×Nat)×Nat×(Option Addr×Nat)):List (Option Tmp×Value):=
 [(some 43,.pointer (some ⟨n,3,none⟩)),(some 44,.slice ao le cp),(some 45,.slice x.1.1 le x.1.2),(some 46,nD s ve),(some 47,.slice (some ⟨x.2.1,0,none⟩) 1 1),(some 48,.slice x.2.2.1 yx x.2.2.2),(some 49,.pointer (some ⟨m,3,none⟩)),(none,undef)]
theorem CY{le yx cp:Nat}{ao:Option Addr}{s:bV}{x:(Option Addr×Nat)×Nat×(Option Addr×Nat)}:bC (Bi n m le yx cp ao s ve x):=by
 unfold bC;simp
theorem Xrp(I:IH)(hI:fG I)(ai dt sp:Int)(L:List bV)(h:eT n m L)(hn:n≤150)(hm:m≤250)(vs:Value)(fV:aZ fw I vs L)(s:bV)(ve:Value)(mG:aZ bM I ve s.aB)(w:World)(hw:Ok I w):
 Calls Tryz.prog 20 #[bW ai dt sp vs,nD s ve] w (yX I w ai dt sp (nZ L s).1 (nZ L s).2):=by
 have hlen:=h.len;have Er:=Qh (fun w hw=>Xu I hI ai dt sp L vs fV (h.CL (by omega) (by omega)) w hw);have KJ:=Qh (fun w hw=>Xv I ai dt sp L vs fV w hw);have qZ:=Qh (fun w hw=>Xnj I vs L fV w hw (by omega));have ma:=Qh fV;have Aq:=Qh mG;have wI:=Qh (show(Tryz.prog.info? 30).map (·.size)=some 4 by kernel_rfl);obtain⟨so,sc,rfl,_,_,_⟩:=id fV;obtain⟨eo,ec,rfl,_,_,_⟩:=id mG;have iA:=Qh (show nZ L s=if ik L s≠0 then(L,ik L s)else(L++[s],0)from rfl);have yY:=Qh (show ik L s=if s.num≠(L.length:Nat)+1∨(L≠[]∧s.aA<fP L)then 14 else if s.bE≠dD L then 20 else 0 by unfold ik;rw[if_neg (by omega)]);have d1:decide ((255:Int)≤(L.length:Int))=false:=Qf (by omega);have m1:IntKind.i64.wrap ((L.length:Int)+1)=(L.length:Int)+1:=IntWalk.i64_in _ (by omega);obtain⟨W3,tY⟩:∃W3,(((w.alloc (.cells #[.int .u32 ai,.int .i64 dt,.int .i64 sp,.slice so L.length sc] 30)).alloc (.cells #[.int .i64 s.num,.int .i64 s.aA,S s.bE,.slice eo s.aB.length ec,S s.aU,S s.sl] 56)).alloc (.cells cO 30))=W3:=⟨_,rfl⟩;obtain⟨oD,rX,pK,mF⟩:=MC w _ _ _ _ _ _ W3 tY
 have M:=Qh (show Et I w ai dt sp (.slice so L.length sc) s (.slice eo s.aB.length ec) W3 from⟨by rw[←tY];exact(((lJ.start hw).past _).past _).past _,rX,
  ⟨(cell_of_row _ _ 0 _ _ _ pK).trans rfl,(cell_of_row _ _ 1 _ _ _ pK).trans rfl,(cell_of_row _ _ 2 _ _ _ pK).trans rfl,(cell_of_row _ _ 3 _ _ _ pK).trans rfl,(cell_of_row _ _ 4 _ _ _ pK).trans rfl,(cell_of_row _ _ 5 _ _ _ pK).trans rfl⟩,mF⟩)
 obtain⟨z0,z1,z2,z3⟩:=qU rX;obtain⟨c0,c1,c2,c3,c4,c5⟩:=M.O.bg;clear h fV mG rX pK mF;go_enter Tryz.func20,Tryz.ntmps20
 go_upto_region 3 with fail
 clear tY;obtain⟨B,hB⟩:∃B:Bool,decide (s.num≠(L.length:Nat)+1∨(L≠[]∧s.aA<fP L))=B:=⟨_,rfl⟩;go_cut [13] (fun s13 wx=>s13= .bool B∧Below W3.heap.size W3 wx)
 case first=>
  have z0:=cell_regrown z0;have z1:=cell_regrown z1;have z2:=cell_regrown z2;have z3:=cell_regrown z3;have c0:=cell_regrown c0;have c1:=cell_regrown c1;by_cases q1:s.num=(L.length:Nat)+1
  ·have i1:(s.num !=(L.length:Int)+1)=false:=by simpa using q1
   rcases MV L with hL|⟨k,hk,oh,kI⟩
   ·have gV:B=false:=by rw[←hB];exact Qf (by rintro(h|⟨h,_⟩);exact h q1;exact h hL)
    have i0:decide (0<(L.length:Int))=false:=Qf (by rw[hL];simp);have TE:decide (0<L.length)=false:=Qf (by rw[hL];simp);subst gV;clear hB q1 hL;go_wp2_with fail
    refine wp_region_quiet_below (by kernel_rfl) (by kernel_rfl) ?_;repeat(go_big_quiet_step ((fail)))
    refine wpQuiet_nil ?_;intro w2 bJ;have aL:Below (W3).heap.size (W3) w2:=by
     obtain⟨pq,rfl⟩:=bJ;exact below_regrown _ _ _
    clear bJ;go_wp2_with fail
    go_meet;exact⟨rfl,aL⟩
   ·have i0:decide (0<(L.length:Int))=true:=Qt (by omega);have TE:decide (0<L.length)=true:=Qt (by omega);have bq:L≠[]:=fun e=>by rw[e]at hk;simp at hk
    have gV:decide (s.aA<fP L)=B:=by rw[←hB];simp[q1,bq]
    clear hB kI bq q1 oh;go_wp2_with fail
    refine wp_region_quiet_below (by kernel_rfl) (by kernel_rfl) ?_;repeat(go_big_quiet_step ((with_reducible exact Calls.regrown_of (KJ.O _ (M.O.at_.ok.below (Qn _) (below_regrown _ _ _))))))
    refine wpQuiet_nil ?_;intro w2 bJ;have aL:Below (W3).heap.size (W3) w2:=by
     obtain⟨pq,rfl⟩:=bJ;exact below_regrown _ _ _
    clear bJ;go_wp2_with fail
    go_meet;exact⟨by first|rfl|rw[gV],aL⟩
  ·have i1:(s.num !=(L.length:Int)+1)=true:=by simpa using q1
   have gV:B=true:=by rw[←hB];exact Qt (.inl q1)
   subst gV;clear hB q1;go_wp2_with fail
   refine wp_region_quiet_below (by kernel_rfl) (by kernel_rfl) ?_;repeat(first|go_big_quiet_step (fail)|refine BigFrame.wpQuiet_skip (by rfl) ?_)
   refine wpQuiet_nil ?_;intro w2 bJ;have aL:Below W3.heap.size W3 w2:=by
    obtain⟨pq,rfl⟩:=bJ;exact below_regrown _ _ _
   clear bJ;go_wp2_with fail
   go_meet;exact⟨rfl,aL⟩
 case rest=>
 obtain⟨rfl,aG⟩:=hcut;replace M:=Qh (M.O.quiet aG);clear aG z0 z1 z2 z3 c0 c1 c2 c3 c4 c5;cases B;case true=>
  have Hn:=Qh (show nZ L s=(L,14) by rw[iA.O,yY.O,if_pos (of_decide_eq_true hB)];rfl);clear hB;obtain⟨z0,z1,z2,z3⟩:=qU M.O.row;have bR:=M.O.O
  go_wp2_with (refine fO rfl rfl 30 _ _ rfl (w.heap.size+2) 0 [.int .u32 ai,.int .i64 dt,.int .i64 sp,.slice so L.length sc] (bW ai dt sp (.slice so L.length sc)) (by simp[Act.eval]) (by simp[Act.eval]) (by rfl) cO 30 bR (by simp) (by kernel_rfl) (by simp[Value.oneCell']) #[.int .u32 ai,.int .i64 dt,.int .i64 sp,.slice so L.length sc] (by rfl) ?_
               intro w9 bK fB)
  refine bodyPost_ret (v:= .tuple #[bW ai dt sp (.slice so L.length sc),.int .i64 14]) ?_ rfl (M.O.old hw bK ma.O Hn.O);rw[results_cell_tmp rfl];simp[asAddr,run_loadVar_row w9 (w.heap.size+2) 30 30 _ (0,0) _ fB Tryz.underlying30 rfl wI.O]
 replace yY:=Qh (yY.O.trans (if_neg (of_decide_eq_false hB)));clear hB;obtain⟨z0,z1,z2,z3⟩:=qU M.O.row;obtain⟨c0,c1,c2,c3,c4,c5⟩:=M.O.bg;obtain⟨wA,AR⟩:∃wA,wA=wc:=⟨_,rfl⟩;subst AR;obtain⟨B,hB⟩:∃B:Bool,(!s.bE==dD L)=B:=⟨_,rfl⟩;go_upto_region 5 with fail
 go_cut [35] (fun TF wx=>TF= .bool B∧Below wA.heap.size wA wx)
 case first=>
  have z0:=cell_regrown z0;have z1:=cell_regrown z1;have z2:=cell_regrown z2;have z3:=cell_regrown z3;have c2:=cell_regrown c2;go_wp2_with fail
  refine wp_region_quiet_below (by kernel_rfl) (by kernel_rfl) ?_;repeat(go_big_quiet_step ((with_reducible exact Calls.regrown_of (Er.O _ (M.O.at_.ok.below (Qn _) (below_regrown _ _ _))))))
  refine wpQuiet_nil ?_;intro w2 bJ;have aL:Below (wA).heap.size (wA) w2:=by
   obtain⟨pq,rfl⟩:=bJ;exact below_regrown _ _ _
  clear bJ;go_wp2_with fail
  go_meet;exact⟨by first|rfl|rw[hB],aL⟩
 case rest=>
 obtain⟨rfl,aG⟩:=hcut;replace M:=Qh (M.O.quiet aG);clear aG z0 z1 z2 z3 c0 c1 c2 c3 c4 c5 Er;cases B;case true=>
  have he:ik L s=20:=by rw[yY.O,if_pos (by simpa using hB)]
  have Hn:=Qh (show nZ L s=(L,20) by rw[iA.O,he];rfl);clear he;clear hB;obtain⟨z0,z1,z2,z3⟩:=qU M.O.row;have bR:=M.O.O
  go_wp2_with (refine fO rfl rfl 30 _ _ rfl (w.heap.size+2) 0 [.int .u32 ai,.int .i64 dt,.int .i64 sp,.slice so L.length sc] (bW ai dt sp (.slice so L.length sc)) (by simp[Act.eval]) (by simp[Act.eval]) (by rfl) cO 30 bR (by simp) (by kernel_rfl) (by simp[Value.oneCell']) #[.int .u32 ai,.int .i64 dt,.int .i64 sp,.slice so L.length sc] (by rfl) ?_
               intro w9 bK fB)
  refine bodyPost_ret (v:= .tuple #[bW ai dt sp (.slice so L.length sc),.int .i64 20]) ?_ rfl (M.O.old hw bK ma.O Hn.O);rw[results_cell_tmp rfl];simp[asAddr,run_loadVar_row w9 (w.heap.size+2) 30 30 _ (0,0) _ fB Tryz.underlying30 rfl wI.O]
 have he:ik L s=0:=by rw[yY.O,if_neg (by simpa using hB)]
 have Hn:=Qh (show nZ L s=(L++[s],0) by rw[iA.O,he];rfl);clear he;clear hB iA yY;obtain⟨z0,z1,z2,z3⟩:=qU M.O.row;obtain⟨wq,bJ⟩:∃wq,wq=wc:=⟨_,rfl⟩;subst bJ;have hlA:=(Qg M.O.row);have Xx:=(Qg M.O.O)
 go_wp2_with (refine fO rfl rfl 30 _ _ rfl wq.heap.size 0 [.int .u32 ai,.int .i64 dt,.int .i64 sp,.slice so L.length sc] (bW ai dt sp (.slice so L.length sc)) (by simp[Act.eval]) (by simp[Act.eval]) (by rfl) cO 30 (heap_alloc_new _ _) (by simp) (by kernel_rfl) (by simp[Value.oneCell']) #[.int .u32 ai,.int .i64 dt,.int .i64 sp,.slice so L.length sc] (by rfl) ?_
              intro w5 hg5 oN)
 have df:Below wq.heap.size wq w5:=((Qb _ _).alloc (Qn _) _).grown hg5 (by simp) (fun k e=>by injection e with e;omega);have M5:=Qh (M.O.quiet df);have Gq:wq.heap.size<w5.heap.size:=(Qg oN);clear z0 z1 z2 z3 hg5;obtain⟨z0,z1,z2,z3⟩:=qU M5.O.row;obtain⟨c0,c1,c2,c3,c4,c5⟩:=M5.O.bg;refine qR (X:=(Option Addr×Nat)×Nat×(Option Addr×Nat)) (Bi w.heap.size wq.heap.size L.length ((L++[s]).length) sc so s (.slice eo s.aB.length ec)) (jX w5 2 5 4 5 5 231 222 232 (fun x w=>x.2.1<w.heap.size) (fun x w=>aQ fw 56 I w w5.heap.size (.slice x.1.1 L.length x.1.2) L∧(Value.slice x.1.1 L.length x.1.2).ownBlock≠some x.2.1) (fun x w=>w.heap[x.2.1]?=some (.cells (kC s (.slice eo s.aB.length ec)).toArray 56 (0,0))) (fun x w=>aQ fw 56 I w w5.heap.size (.slice x.2.2.1 (L++[s]).length x.2.2.2) (L++[s])) (fun _ _=>True) (fun x w=>aQ fw 56 I w w5.heap.size (.slice x.2.2.1 (L++[s]).length x.2.2.2) (L++[s])) (fun x=>wq.heap.size) 30 7 209 210 (fun x=> #[.int .u32 ai,.int .i64 dt,.int .i64 sp,.slice x.2.2.1 (L++[s]).length x.2.2.2]) (fun x=> #[.int .u32 ai,.int .i64 dt,.int .i64 sp,.slice x.2.2.1 (L++[s]).length x.2.2.2]) (fun x=> #[.int .u32 ai,.int .i64 dt,.int .i64 sp,.slice x.2.2.1 (L++[s]).length x.2.2.2])) (by kernel_rfl) (by kernel_rfl) ?_ ?_ ?_
 ·exact⟨(default,0,default),jX.start _ _ (show 0<w5.heap.size by omega)⟩
 ·rintro x s' a' w' i bS bO ha hC hi;obtain⟨aH,oi,dI,au⟩:=mem_ready.1 hi;have ev:=vV CY ha;have hlt:=oO aH;rcases i with _|_|_|_|_|_|_|_|i
  rotate_left 8
  ·simp at dI
  all_goals
   have dH:=dI;simp at dI;subst dI;simp[Region.binds]at au;try have hl:=kz 6 7 bO (by decide+kernel) aH
   try have aT:=hC.off hl
   try have z3:=aV aT z3
   try have c0:=aV aT c0
   try have c1:=aV aT c1
   try have c2:=aV aT c2
   try have c3:=aV aT c3
   try have c4:=aV aT c4
   try have c5:=aV aT c5
   refine wpOp_step dH (fun K' hK=> ?_);rw[if_pos (by rfl)]
  rotate_left 2
  ·unfold Oper.wp;simp[go_sem,ev,dG,au,Oper.upon];refine(qZ.O w' (M5.O.at_.ok.below (Qn _) aT)).mono ?_;rintro r4 w4 ⟨v7,rfl,ho,aS⟩;obtain⟨a7,k7,rfl⟩:=wT ho;have ha:=ha.trans (lT (L:=Bi w.heap.size wq.heap.size L.length ((L++[s]).length) sc so s (.slice eo s.aB.length ec) x) (M:=Bi w.heap.size wq.heap.size L.length ((L++[s]).length) sc so s (.slice eo s.aB.length ec) ((a7,k7),x.2)) [2] rfl (fun j bq=>by
    rcases j with _|_|_|_|_|_|_|_|j<;>first|rfl|(exact absurd (by decide) bq)|simp) (List.forall_mem_cons.2 ⟨gG aH,List.forall_mem_nil _⟩))
   exact hK _ _ ⟨((a7,k7),x.2),gD CY ha rfl aH,hC.step hl (aT.trans (aS.mono aT.size)) (by decide) (fun h=>Nat.lt_of_lt_of_le h aS.size) (fun _ _=>⟨ho.lower aT.size,fun q=>by have h8:w'.heap.size≤x.2.1:=ho.rf q;have h9:x.2.1<w'.heap.size:=hC.inv hl;omega⟩) (fun h _=>h.elim (fun e=>absurd e (by decide)) (fun⟨_,_,q⟩=>(aS.block _ (Qg q)).trans q)) (fun h _=>h.elim (fun e=>absurd e (by decide)) (fun⟨_,_,q⟩=>q.below aS)) (fun _ _=>trivial) hlt⟩
  rotate_left 1
  ·unfold Oper.wp;simp[go_sem,ev,dG,au,Oper.upon,z3,c0,c1,c2,c3,c4,c5];have ha:=ha.trans (lT (L:=Bi w.heap.size wq.heap.size L.length ((L++[s]).length) sc so s (.slice eo s.aB.length ec) x) (M:=Bi w.heap.size wq.heap.size L.length ((L++[s]).length) sc so s (.slice eo s.aB.length ec) (x.1,w'.heap.size,x.2.2)) [4] rfl (fun j bq=>by
    rcases j with _|_|_|_|_|_|_|_|j<;>first|rfl|(exact absurd (by decide) bq)|simp) (List.forall_mem_cons.2 ⟨gG aH,List.forall_mem_nil _⟩))
   exact hK _ _ ⟨(x.1,w'.heap.size,x.2.2),gD CY ha rfl aH,hC.step hl (aT.trans (((Qb _ _).alloc (Qn _) _).mono aT.size)) (by decide) (fun _=>by simp) (fun h _=>h.elim (fun e=>absurd e (by decide)) (fun⟨_,_,q⟩=>⟨q.1.alloc _,fun r=>absurd (xk q.1 r).2 (Nat.lt_irrefl _)⟩)) (fun _ _=>heap_alloc_new _ _) (fun h _=>h.elim (fun e=>absurd e (by decide)) (fun⟨_,_,q⟩=>q.alloc _)) (fun _ _=>trivial) hlt⟩
  ·have h1:=hC.f1 (by first|simpa using au|simp[au]) (gG aH) hl;have h2:=hC.f2 (by first|simpa using au|simp[au]) (gG aH) hl;refine G8 TD _ _ rfl (by simp[Act.eval,ev,dG,au]) h1.1 (by simp[Act.eval,ev,dG,au]) (jY.mo (T:=fw) (x:=s) (cs:=kC s (.slice eo s.aB.length ec)) ⟨_,rfl,Aq.O⟩ (fun j u hu=>(cell_of_row w' _ j _ _ _ h2).trans (by simpa using hu))) (by simp only[List.length_nil,List.length_cons];omega) (by simp only[List.length_nil,List.length_cons];omega) aT.size ?_;rintro v9 w9 kV bK l7;obtain⟨a9,k9,rfl⟩:=wT kV;have ha:=ha.trans (lT (L:=Bi w.heap.size wq.heap.size L.length ((L++[s]).length) sc so s (.slice eo s.aB.length ec) x) (M:=Bi w.heap.size wq.heap.size L.length ((L++[s]).length) sc so s (.slice eo s.aB.length ec) (x.1,x.2.1,(a9,k9))) [5] rfl (fun j bq=>by
    rcases j with _|_|_|_|_|_|_|_|j<;>first|rfl|(exact absurd (by decide) bq)|simp) (List.forall_mem_cons.2 ⟨gG aH,List.forall_mem_nil _⟩))
   exact hK _ _ ⟨(x.1,x.2.1,(a9,k9)),gD CY ha rfl aH,hC.step hl (aT.grown bK aT.size (fun k e=>(xk h1.1 e).1)) (by decide) (fun h=>Nat.lt_of_lt_of_le h bK.size) (fun _ h=>absurd rfl h) (fun _ h=>absurd rfl h) (fun _ _=>kV) (fun _ _=>trivial) hlt⟩
  rotate_left 1
  ·have aK:w'.heap[wq.heap.size]?=some (.cells _ 30 (0,0)):=(aT.block _ (Qg oN)).trans oN;refine oK 28 _ _ rfl (wq.heap.size) 3 [.slice x.2.2.1 (L++[s]).length x.2.2.2] (.slice x.2.2.1 (L++[s]).length x.2.2.2) (by simp[Act.eval,ev,dG,au]) (by simp[Act.eval,ev,dG,au]) (by rfl) _ _ aK (by simp) (by kernel_rfl) (by simp[Value.oneCell']) ?_;exact hK _ _ ⟨x,dS (d:=none) (v:=undef) CY ha rfl aH,hC.jP aH (hC.f3 (by first|simpa using au|simp[au]) (gX (by simp[bS])) hl) (gX (by simp[bS])) (gX (by simp[bS])) (by decide) aK (by rfl)⟩
  all_goals
   unfold Oper.wp;first
   |(simp[go_sem,ev,dG,au,Oper.upon,z3,c0,c1,c2,c3,c4,c5];exact hK _ _ ⟨x,gD CY ha rfl aH,hC.pure (by decide)⟩)
   |(simp[go_sem,ev,dG,Oper.upon,z3,c0,c1,c2,c3,c4,c5];exact hK _ _ ⟨x,gD CY ha rfl aH,hC.pure (by decide)⟩)
 ·rintro x s' a' w6 eu ha hC;obtain⟨wb,eG,ed,dR,aK⟩:=hC.on (eu 7 (by decide));simp only[ite_self]at aK;rw[qz _ _ _ _ (fun i hi=>by rw[Nat.zero_add];exact eu i (by simpa using hi))]at ha;subst ha;simp only[dE,Act.put,List.setIfInBounds_toArray,List.set_cons_succ,List.set_cons_zero];obtain⟨xv,xb,o9,k9⟩:=x;dsimp only at ed dR aK ⊢;have JO:=eG.size;have gF:Below wq.heap.size wq w6:=(df.trans (eG.mono (by omega))).grown dR (by omega) (fun k e=>by injection e with e;omega);have M6:=Qh (M.O.quiet gF);have HO:=Qh (ed.kept dR (.inr (ed.dm Gq)));have bR:=M6.O.O;obtain⟨y0,y1,y2,y3⟩:=qU aK;clear hC eu ed c0 c1 c2 c3 c4 c5 z0 z1 z2 z3
  go_wp2_with (refine fO rfl rfl 30 _ _ rfl (w.heap.size+2) 0 [.int .u32 ai,.int .i64 dt,.int .i64 sp,.slice o9 (L++[s]).length k9] (bW ai dt sp (.slice o9 (L++[s]).length k9)) (by simp[Act.eval]) (by simp[Act.eval]) (by rfl) cO 30 bR (by simp) (by kernel_rfl) (by simp[Value.oneCell']) #[.int .u32 ai,.int .i64 dt,.int .i64 sp,.slice o9 (L++[s]).length k9] (by rfl) ?_
               intro w9 bK fB)
  refine bodyPost_ret (v:= .tuple #[bW ai dt sp (.slice o9 (L++[s]).length k9),.int .i64 0]) ?_ rfl ?_
  ·rw[results_cell_tmp rfl];simp[asAddr,run_loadVar_row w9 (w.heap.size+2) 30 30 _ (0,0) _ fB Tryz.underlying30 rfl wI.O]
  ·have jD:=M6.O.at_.ok.grown bK (fun g e=>by injection e with e;subst e;exact hw.fresh (by omega));have vK:=M.O.at_.size;obtain⟨J7,jL,eY,gN,_⟩:=(HO.O.kept bK (.inr (HO.O.dm (by omega)))).freeze jD (fun b hb=>M5.O.at_.ok.fresh hb);rw[Hn.O];exact⟨_,J7,rfl,M6.O.at_.eU.grown bK M6.O.at_.size (fun k h=>by injection h with h;omega),jL.mono (by omega),eY,gN⟩
structure nG (J:IH) (w:World) (B:Nat) (d:fU) (ve vk vt vh:Value):Prop where
 ok:Ok J w
 no:J B=none
 rd:qy J d ve vk vt vh
 row:w.heap[B]?=some (.cells #[.int .i64 d.num,.int .i64 d.aA,S d.bE,ve,vk,.int .i64 d.bf.bg,S d.bf.str,vt,vh] 46)
theorem nG.lt(h:nG J w B d ve vk vt vh):B<w.heap.size:=(Qg h.row)
theorem nG.below{w':World}(h:nG J w B d ve vk vt vh)(hb:Below w.heap.size w w'):nG J w' B d ve vk vt vh:=
 ⟨h.ok.below (Qn _) hb,h.no,h.rd,(hb.block _ h.lt).trans h.row⟩
theorem Xrl(v:fU)(ve vk vt vh:Value)(w:World):
 Calls Tryz.prog 19 #[gP v ve vk vt vh] w fun e w'=>
  e= .returned (.tuple #[.func (.func 46) #[] #[.pointer (some ⟨w.heap.size,0,none⟩)],.func (.func 47) #[] #[.pointer (some ⟨w.heap.size,0,none⟩)]])∧w'=w.alloc (.cells #[.int .i64 v.num,.int .i64 v.aA,S v.bE,ve,vk,.int .i64 v.bf.bg,S v.bf.str,vt,vh] 46):=by
 go_enter Tryz.func19,Tryz.ntmps19
 go_wp2_with fail
 go_ret2;exact⟨rfl,rfl⟩
theorem Xp1(J:IH)(d:fU)(ve vk vt vh:Value)(B:Nat)(w:World)(M:nG J w B d ve vk vt vh):
 Calls Tryz.prog 47 #[.pointer (some ⟨B,0,none⟩)] w fun e w'=>e= .returned (gP d ve vk vt vh)∧Below w.heap.size w w':=by
 have oM:=Qh (show(Tryz.prog.info? 46).map (·.size)=some 9 by kernel_rfl);obtain⟨eo,ec,rfl,_,_,_⟩:=id M.rd.aB;obtain⟨ko,kc,rfl,_,_,_⟩:=id M.rd.aJ;obtain⟨tt,tc,rfl,_,_,_⟩:=id M.rd.aF;obtain⟨ho,ii,rfl,_,_,_⟩:=id M.rd.holds;have hlt:=M.lt;obtain⟨W1,nW⟩:∃W1,w.alloc (.cells aY 46)=W1:=⟨_,rfl⟩;have aK:W1.heap[B]?=some (.cells #[.int .i64 d.num,.int .i64 d.aA,S d.bE,.slice eo d.aB.length ec,.slice ko d.bf.aJ.length kc,.int .i64 d.bf.bg,S d.bf.str,.slice tt d.aF.length tc,.slice ho d.holds.length ii] 46):=by rw[←nW];exact(Below.heap_alloc _ _ _ hlt).trans M.row
 have bR:W1.heap[w.heap.size]?=some (.cells aY 46 (0,0)):=by rw[←nW];exact heap_alloc_new _ _
 have aG:Below w.heap.size w W1:=by rw[←nW];exact(Qb _ _).alloc (Qn _) _
 obtain⟨b0,b1,b2,b3,b4,b5,b6,b7,b8⟩:=drB_row (d:=d) aK;clear M;go_enter Tryz.func47,Tryz.ntmps47
 go_wp2_with (refine fO rfl rfl 46 _ _ rfl w.heap.size 0 (dA d (.slice eo d.aB.length ec) (.slice ko d.bf.aJ.length kc) (.slice tt d.aF.length tc) (.slice ho d.holds.length ii)) (gP d (.slice eo d.aB.length ec) (.slice ko d.bf.aJ.length kc) (.slice tt d.aF.length tc) (.slice ho d.holds.length ii)) (by simp[Act.eval]) (by simp[Act.eval]) (by rfl) aY 46 bR (by simp) (by kernel_rfl) (by simp[Value.oneCell']) (dA d (.slice eo d.aB.length ec) (.slice ko d.bf.aJ.length kc) (.slice tt d.aF.length tc) (.slice ho d.holds.length ii)).toArray (by rfl) ?_
              intro w9 bK fB)
 exact bodyPost_ret (results_cell_row rfl _ _ w.heap.size _ _ (0,0) _ rfl fB Tryz.underlying46 rfl oM.O) rfl ⟨rfl,aG.grown bK aG.size (fun k e=>by injection e with e;omega)⟩
theorem Xp2(J:IH) (hJ:fG J)  (d:fU) (hd:lU n d) (hn:n≤150) (ve vk vt vh:Value) (c:ic) (hc:c.Wf) (yz:c.ag.length≤1000000) (va:Value) (gK:aZ nk J va c.ag) (B:Nat) (w:World) (M:nG J w B d ve vk vt vh):
 Calls Tryz.prog 46 #[Bj c va,.pointer (some ⟨B,0,none⟩)] w fun e w'=>e= .returned (.int .i64 (gQ d c).2)∧ ∃Co oo CZ C7 J',Ext w.heap.size J J'∧nG J' w' B (gQ d c).1 Co oo CZ C7∧Below B w w':=by
 have fM:=Qh (fun W hW=>Xvp J hJ d hd hn ve vk vt vh M.rd c hc yz va gK W hW)
 obtain ⟨dn,rn,zq⟩:∃dn rn,gQ d c=(dn,rn):=⟨_,_,rfl⟩
 rw [zq] at fM ⊢
 dsimp only at fM ⊢
 have hlt:=M.lt
 obtain ⟨eo,ec,rfl,_,_,_⟩:=id M.rd.aB
 obtain ⟨ko,kc,rfl,_,_,_⟩:=id M.rd.aJ
 obtain ⟨tt,tc,rfl,_,_,_⟩:=id M.rd.aF
 obtain ⟨ho,ii,rfl,_,_,_⟩:=id M.rd.holds
 obtain ⟨ao,ac,rfl,_,_,_⟩:=id gK
 obtain ⟨W1,nW⟩:∃W1,w.alloc (.cells #[.int .i64 c.av,S c.aj,.slice ao c.ag.length ac,S c.target,S c.aI] 53)=W1:=⟨_,rfl⟩
 have aG:Below w.heap.size w W1:=by rw [←nW];exact (Qb _ _).alloc (Qn _) _
 have h1:=M.below aG
 obtain ⟨b0,b1,b2,b3,b4,b5,b6,b7,b8⟩:=drB_row (d:=d) h1.row
 obtain ⟨g0,g1,g2,g3,g4⟩:=chgB_row (c:=c) (show W1.heap[w.heap.size]? =some (.cells #[.int .i64 c.av,S c.aj,.slice ao c.ag.length ac,S c.target,S c.aI] 53 (0,0)) by rw [←nW];exact heap_alloc_new _ _)
 have H1:=Qh h1
 clear M h1 gK zq hd hc yz
 go_enter Tryz.func46,Tryz.ntmps46
 go_wp2_with fail
 refine (fM.O W1 H1.O.ok).mono ?_
 rintro e2 w2 ⟨Co,oo,CZ,C7,J2,rfl,aL,mK,bn,iQ⟩
 obtain ⟨Fg,Fh,rfl,_,_,_⟩:=id iQ.aB
 obtain ⟨Fj,Fp,rfl,_,_,_⟩:=id iQ.aJ
 obtain ⟨Fq,Fs,rfl,_,_,_⟩:=id iQ.aF
 obtain ⟨FW,rH,rfl,_,_,_⟩:=id iQ.holds
 have qI:=H1.O.lt
 have dJ:=aG.size
 have gJ:=aL.size
 have G9:J2 B=none:=(mK _ qI).trans H1.O.no
 have Wz:J2 w2.heap.size=none:=bn.fresh (Qn _)
 have nR:=(aL.block _ qI).trans H1.O.row
 have rP:=Qh iQ
 have jl:=Qh nR
 clear b0 b1 b2 b3 b4 b5 b6 b7 b8 g0 g1 g2 g3 g4 fM nW iQ nR
 go_upto_region 2 with (refine fO rfl rfl 46 _ _ rfl w2.heap.size 0 (dA dn (.slice Fg dn.aB.length Fh) (.slice Fj dn.bf.aJ.length Fp) (.slice Fq dn.aF.length Fs) (.slice FW dn.holds.length rH)) (gP dn (.slice Fg dn.aB.length Fh) (.slice Fj dn.bf.aJ.length Fp) (.slice Fq dn.aF.length Fs) (.slice FW dn.holds.length rH)) (by simp [Act.eval]) (by simp [Act.eval]) (by rfl) aY 46 (heap_alloc_new _ _) (by simp) (by kernel_rfl) (by simp [Value.oneCell']) (dA dn (.slice Fg dn.aB.length Fh) (.slice Fj dn.bf.aJ.length Fp) (.slice Fq dn.aF.length Fs) (.slice FW dn.holds.length rH)).toArray (by rfl) ?_
                        intro w3 iX jK
                        obtain ⟨b0,b1,b2,b3,b4,b5,b6,b7,b8⟩:=drB_row (d:=dn) jK)
 have dO:Below w2.heap.size w2 w3:=((Qb _ _).alloc (Qn _) _).grown iX (by simp) (fun k e=>by injection e with e;omega)
 have pz:=(dO.block B (by omega)).trans jl.O
 clear iX jK
 go_wp2_with (refine fO rfl rfl 46 _ _ rfl B 0 (dA dn (.slice Fg dn.aB.length Fh) (.slice Fj dn.bf.aJ.length Fp) (.slice Fq dn.aF.length Fs) (.slice FW dn.holds.length rH)) (gP dn (.slice Fg dn.aB.length Fh) (.slice Fj dn.bf.aJ.length Fp) (.slice Fq dn.aF.length Fs) (.slice FW dn.holds.length rH)) (by simp [Act.eval]) (by simp [Act.eval]) (by rfl) _ 46 pz (by simp) (by kernel_rfl) (by simp [Value.oneCell']) (dA dn (.slice Fg dn.aB.length Fh) (.slice Fj dn.bf.aJ.length Fp) (.slice Fq dn.aF.length Fs) (.slice FW dn.holds.length rH)).toArray (by rfl) ?_
              intro w4 Jv Ai)
 have fo:=bn.below (Qn _) dO
 have jM:=Qh (show ∃Co oo CZ C7 J',Ext w.heap.size J J'∧nG J' w4 B dn Co oo CZ C7∧Below B w w4 from ⟨_,_,_,_,J2,fun b hb=>mK b (by omega),⟨fo.grown Jv (fun g e=>by injection e with e;subst e;exact G9),G9,rP.O,Ai⟩,(((aG.mono (by omega)).trans (aL.mono (by omega))).trans (dO.mono (by omega))).grown Jv (by have:=dO.size;omega) (fun k e=>by injection e with e;omega)⟩)
 go_ret
 exact ⟨rfl,jM.O⟩
def yZ(I:IH)(w:World)(ai dt sp:Int)(p:List bV×Nat×Int)(e:Ending)(w':World):Prop:=
 ∃vs J,e= .returned (.tuple #[bW ai dt sp vs,.int .i64 p.2.1,.int .i64 p.2.2])∧Below w.heap.size w w'∧Ext w.heap.size I J∧Ok J w'∧aZ fw J vs p.1
theorem Xy(hk:k<l.length){c:ic}(hc:l[k]=c)(h:dV d0 0 l=dV d k (l.drop k)):
 ((gQ d c).2≠0→dV d0 0 l=(d,k,(gQ d c).2))∧((gQ d c).2=0→dV d0 0 l=dV (gQ d c).1 (k+1) (l.drop (k+1))):=by
 rw[List.drop_eq_getElem_cons hk,hc,dV]at h;exact⟨fun h0=>by rw[h,if_pos h0],fun h0=>by rw[h,if_neg (by rw[h0];simp)]⟩
theorem Xz(h:dV d0 0 l=dV d l.length (l.drop l.length)):dV d0 0 l=(d,l.length,0):=by
 rw[List.drop_length]at h;exact h
theorem XA(l:List ic)(h:bQ L aA≠0):kN L aA l=(L,0,bQ L aA):=by unfold kN;rw[if_pos h]
theorem XC{r:Int}(h:bQ L aA=0)(h0:r≠0)(ha:dV (dK L aA) 0 l=(d,k,r)):kN L aA l=(L,k,r):=by
 unfold kN;rw[if_neg (by rw[h];simp),ha,if_pos h0]
theorem XD(h:bQ L aA=0)(ha:dV (dK L aA) 0 l=(d,l.length,0)):kN L aA l=(L++[bF d],l.length,0):=by
 unfold kN;rw[if_neg (by rw[h];simp),ha,if_neg (by simp)]
theorem XE(hA:eT n m L)(hn:n+l.length≤60000)(hm:m≤250)(hc:∀c∈l,c.aI.length≤1000)(h:bQ L aA=0)(ha:dV (dK L aA) 0 l=(d,l.length,0)):
 nZ L (bF d)=(L++[bF d],0):=by
 have h1:=XF (L:=L) (l:=l) (n:=n) (d:=dK L aA) 0 (Ox hA (by omega) (by omega) h) hn (Xsh L h) hc;rw[ha]at h1;have hl:=hA.len;unfold nZ;rw[Xx8 (by omega) h1.2.1];rfl
theorem TG(h:bQ L aA=0):jB L aA=(dK L aA,0):=by unfold jB;rw[if_neg (by rw[h];simp)]
theorem TH(h:bQ L aA≠0):jB L aA=(qY,bQ L aA):=by unfold jB;rw[if_pos h]
theorem qg.wr{vs:Value}{zr:Array Value}{ty:TypeId}{J':IH}(h:qg I w0 ai dt sp vs (w0.heap.size+1) zr ty J W)(hb:Below B W W')(hB:w0.heap.size+1<B)(gV:B≤W.heap.size)(hx:Ext W.heap.size J J')(iZ:Ok J' W'):
 qg I w0 ai dt sp vs (w0.heap.size+1) zr ty J' W':=
 ⟨⟨iZ,fun b c hc=>hx.keep h.at_.ok (Qn _) b c (h.at_.keep b c hc),h.at_.eU.trans (hb.mono (by omega))⟩,h.ext.trans hx h.at_.size,(hx _ (by omega)).trans h.rZ,
   (hb.cell (by show w0.heap.size<B;omega)).trans h.a0,(hb.cell (by show w0.heap.size<B;omega)).trans h.a1,(hb.cell (by show w0.heap.size<B;omega)).trans h.a2,(hb.cell (by show w0.heap.size<B;omega)).trans h.a3,
   (hb.block _ hB).trans h.O⟩
abbrev Bl(B:Nat)(ai dt sp:Int)(so:Option Addr)(sc:Nat)(L L2:List bV)(d:fU)(ve vk vt vh:Value)(x:(Option Addr×Nat)×(Option Addr×Nat)×Nat):List (Option Tmp×Value):=
 [(some 49,bW ai dt sp (.slice so L.length sc)),(some 50,.func (.func 47) #[] #[.pointer (some ⟨B,0,none⟩)]),(some 51,gP d ve vk vt vh),(some 52,nD (bF d) (.slice x.1.1 (bF d).aB.length x.1.2)),(some 53,.tuple #[bW ai dt sp (.slice x.2.1.1 L2.length x.2.1.2),.int .i64 0]),(some 48,.tuple #[bW ai dt sp (.slice x.2.1.1 L2.length x.2.1.2),.int .i64 0]),(some 54,bW ai dt sp (.slice x.2.1.1 L2.length x.2.1.2)),(some 55,.int .i64 0),(some 16,.pointer (some ⟨x.2.2,0,none⟩)),(none,undef),(some 10,.int .i64 0)]
theorem Bn{so:Option Addr}{sc:Nat}{L2:List bV}{x:(Option Addr×Nat)×(Option Addr×Nat)×Nat}:bC (Bl B ai dt sp so sc L L2 d ve vk vt vh x):=by
 unfold bC;simp
theorem TI(I:IH)(hI:fG I)(ai dt sp:Int)(L:List bV)(h:eT n m L)(l:List ic)(hn:n+l.length≤150)(hm:m≤250)(vs:Value)(fV:aZ fw I vs L)(aA:Int)(vc:Value)(zD:aZ xm I vc l)(hc:∀c∈l,c.Wf∧c.ag.length≤1000000∧c.aI.length≤1000)(w:World)(hw:Ok I w):
 Calls Tryz.prog 7 #[bW ai dt sp vs,.int .i64 aA,vc] w (yZ I w ai dt sp (kN L aA l)):=by
 have hlen:=h.len;have HA:=Qh h;have HG:=Qh hI;have ma:=Qh fV;have MW:=Qh zD;have Hc:=Qh hc;have bO:=zD.bL;have MX:=Qh (fun w hw=>Xr I hI ai dt sp L h (by omega) hm vs fV aA w hw);have wI:=Qh (show(Tryz.prog.info? 30).map (·.size)=some 4 by kernel_rfl);obtain⟨so,sc,rfl,_,_,_⟩:=id fV;obtain⟨co,cc,rfl,_,_,_⟩:=id zD;have M:=Qh (MU hw ai dt sp (.slice so L.length sc) cO 30);clear h hI fV zD hc;obtain⟨W2,kU⟩:∃W2,((w.alloc (.cells #[.int .u32 ai,.int .i64 dt,.int .i64 sp,.slice so L.length sc] 30)).alloc (.cells cO 30))=W2:=⟨_,rfl⟩;rw[kU]at M;obtain⟨z0,z1,z2,z3⟩:=(⟨M.O.a0,M.O.a1,M.O.a2,M.O.a3⟩:_∧_∧_∧_);go_enter Tryz.func7,Tryz.ntmps7
 go_wp2_with fail
 clear kU;refine(MX.O W2 M.O.at_.ok).mono ?_;rintro e1 w1 ⟨ve,vk,vt,vh,J1,rfl,aG,iY,aO,zt⟩;obtain⟨ae,ce,rfl,_,_,_⟩:=id zt.aB;obtain⟨ak,ck,rfl,_,_,_⟩:=id zt.aJ;obtain⟨at',ct,rfl,_,_,_⟩:=id zt.aF;obtain⟨ah,ch,rfl,_,_,_⟩:=id zt.holds;have M1:=Qh (M.O.aR aG iY aO);have rP:=Qh zt;obtain⟨dB,eB,Ar⟩:∃dB eB,jB L aA=(dB,eB):=⟨_,_,rfl⟩;rw[Ar]at rP ⊢;dsimp only at rP ⊢;have yw:J1 w1.heap.size=none:=aO.fresh (Qn _);have Az:=M1.O.lt;have Eu:=Qh Ar;clear zt aG iY aO M z0 z1 z2 z3 MX Ar
 go_upto_region 2 with(
                        refine fO rfl rfl 46 _ _ rfl w1.heap.size 0 (dA dB (.slice ae dB.aB.length ce) (.slice ak dB.bf.aJ.length ck) (.slice at' dB.aF.length ct) (.slice ah dB.holds.length ch)) (gP dB (.slice ae dB.aB.length ce) (.slice ak dB.bf.aJ.length ck) (.slice at' dB.aF.length ct) (.slice ah dB.holds.length ch)) (by simp[Act.eval]) (by simp[Act.eval]) (by rfl) aY 46 (heap_alloc_new _ _) (by simp) (by kernel_rfl) (by simp[Value.oneCell']) (dA dB (.slice ae dB.aB.length ce) (.slice ak dB.bf.aJ.length ck) (.slice at' dB.aF.length ct) (.slice ah dB.holds.length ch)).toArray (by rfl) ?_;intro w2 hg2 iN)
 have aL:Below w1.heap.size w1 w2:=((Qb _ _).alloc (Qn _) _).grown hg2 (by simp) (fun k e=>by injection e with e;omega);have M2:=Qh (M1.O.quiet aL);have pV:=(Qg iN);by_cases q:bQ L aA=0;case neg=>
  obtain⟨rfl,rfl⟩:=Prod.mk.inj (Eu.O.symm.trans (TH q));have Hn:=Qh (XA l q);have i1:(bQ L aA !=0)=true:=by simpa using q
  have Rp:(bQ L aA==0)=false:=by simpa using q
  have Rq:decide (bQ L aA=0)=false:=Qf q;clear q iN hg2 aL M1 rP Eu;obtain⟨z0,z1,z2,z3⟩:=(⟨M2.O.a0,M2.O.a1,M2.O.a2,M2.O.a3⟩:_∧_∧_∧_);have bR:=M2.O.O
  go_wp2_with (refine fO rfl rfl 30 _ _ rfl (w.heap.size+1) 0 [.int .u32 ai,.int .i64 dt,.int .i64 sp,.slice so L.length sc] (bW ai dt sp (.slice so L.length sc)) (by simp[Act.eval]) (by simp[Act.eval]) (by rfl) cO 30 bR (by simp) (by kernel_rfl) (by simp[Value.oneCell']) #[.int .u32 ai,.int .i64 dt,.int .i64 sp,.slice so L.length sc] (by rfl) ?_
               intro w9 bK fB)
  refine bodyPost_ret (v:= .tuple #[bW ai dt sp (.slice so L.length sc),.int .i64 0,.int .i64 (bQ L aA)]) ?_ rfl ?_
  ·rw[Bo rfl];simp[asAddr,run_loadVar_row w9 (w.heap.size+1) 30 30 _ (0,0) _ fB Tryz.underlying30 rfl wI.O]
  ·rw[Hn.O];exact⟨_,_,rfl,M2.O.at_.eU.grown bK M2.O.at_.size (fun k e=>by injection e with e;omega),M2.O.ext,M2.O.at_.ok.grown bK (fun g e=>by injection e with e;subst e;exact M2.O.rZ),ma.O.mono M2.O.at_.keep⟩
 case pos=>
  obtain⟨e1,rfl⟩:=Prod.mk.inj (Eu.O.symm.trans (TG q));have He:=Qh e1;have Hq:=Qh q;obtain⟨b0,b1,b2,b3,b4,b5,b6,b7,b8⟩:=drB_row (d:=dB) iN;clear q e1 hg2 aL M1 Eu;go_wp2_with fail
  refine(Xrl dB _ _ _ _ w2).mono ?_;rintro e3 w3 ⟨rfl,uW⟩;have dO:Below w2.heap.size w2 w3:=by rw[uW];exact(Qb _ _).alloc (Qn _) _
  have M3:=Qh (M2.O.quiet dO);have HZ:=Qh (show nG J1 w3 w2.heap.size dB _ _ _ _ from⟨M3.O.at_.ok,M2.O.at_.ok.fresh (Qn _),rP.O,by rw[uW];exact heap_alloc_new _ _⟩);have qV:=Qh (show lU (n+0) dB by rw[He.O];exact Ox HA.O (by omega) (by omega) Hq.O);have Mc:w.heap.size+1<w2.heap.size:=by omega
  have xn:=Qh (show dV dB 0 l=dV dB 0 (l.drop 0)from rfl);clear b0 b1 b2 b3 b4 b5 b6 b7 b8 iN dO uW M2 rP yw;generalize w2.heap.size=B at HZ Mc ⊢;go_wp2_with fail
  go_loopw [13,14,15,34] (fun _ _ _ TJ wr=> ∃(k:Nat) (J:IH) (d:fU) (ve vk vt vh:Value),k≤l.length∧TJ= .int .i64 k∧qg I w ai dt sp (.slice so L.length sc) (w.heap.size+1) cO 30 J wr∧nG J wr B d ve vk vt vh∧lU (n+k) d∧dV dB 0 l=dV d k (l.drop k)) (fun _ _ _ i _=>l.length-(intOf i).toNat)
  case atStart=>exact⟨0,J1,dB,_,_,_,_,Nat.zero_le _,rfl,M3.O,HZ.O,qV.O,xn.O⟩
  case round=>
   clear M3 HZ qV xn;obtain⟨k,J,d,ve,vk,vt,vh,hk,rfl,hM,MZ,H8,Md⟩:=hrel;have M:=Qh hM;have WR:=Qh MZ;have qV:=Qh H8;have xn:=Qh Md;clear hM MZ H8 Md;by_cases hlt:k<l.length
   ·obtain⟨c,va,b,off,cap',qm,dC,⟨c0,c1,c2,c3,c4⟩,gK⟩:=Rs (MW.O.mono M.O.at_.keep) M.O.at_.ok k hlt;cases dC;have iv:=Hc.O c (by rw[←qm];exact List.getElem_mem hlt);have bI:=Xy hlt qm xn.O;have yo:=TK qV.O (by omega) (show c.aI.length≤65536 by omega);have zF:=(fun W (hW:nG J W B d ve vk vt vh)=>Xp2 J (HG.O.mono M.O.at_.keep) d qV.O (by omega) ve vk vt vh c iv.1 iv.2.1 _ gK B W hW);obtain⟨dn,rn,zq⟩:∃dn rn,gQ d c=(dn,rn):=⟨_,_,rfl⟩;rw[zq]at bI yo zF;dsimp only at bI yo zF;replace bI:=Qh bI;replace yo:=Qh (show lU (n+(k+1)) dn from yo);replace zF:=Qh zF;obtain⟨oa,ca,rfl,_,_,_⟩:=id gK;have Ma:=Qh (M.O.quiet ((Qb _ _).alloc (Qn _) (.cells #[.int .i64 c.av,S c.aj,.slice oa c.ag.length ca,S c.target,S c.aI] 53)));have Oy:=Qh (WR.O.below ((Qb _ _).alloc (Qn _) (.cells #[.int .i64 c.av,S c.aj,.slice oa c.ag.length ca,S c.target,S c.aI] 53)));clear iv qm gK zq M WR xn qV;go_wp2_with fail
    refine(zF.O _ Oy.O).mono ?_;rintro e5 w5 ⟨rfl,Co,oo,CZ,C7,J5,WC,C8,df⟩;have M5:=Qh (Ma.O.wr df Mc (by have:=Oy.O.lt;omega) WC C8.ok);have WR5:=Qh C8;clear WC C8 df Ma Oy zF c0 c1 c2 c3 c4;by_cases h0:rn=0
    ·have ru:=Qh (bI.O.2 h0);subst h0;clear bI;go_wp2_with fail
     go_roundw;case rel=>exact⟨k+1,J5,dn,_,_,_,_,by omega,by go_num,M5.O,WR5.O,yo.O,ru.O⟩
     case measure=>simp[intOf];omega
    ·have Hn:=Qh (XC Hq.O h0 (by rw[←He.O];exact bI.O.1 h0):kN L aA l=(L,k,rn));have i1:(rn !=0)=true:=by simpa using h0
     have Rp:(rn==0)=false:=by simpa using h0
     have Rq:decide (rn=0)=false:=Qf h0;clear h0 bI;obtain⟨z0,z1,z2,z3⟩:=(⟨M5.O.a0,M5.O.a1,M5.O.a2,M5.O.a3⟩:_∧_∧_∧_);have bR:=M5.O.O
     go_wp2_with (refine fO rfl rfl 30 _ _ rfl (w.heap.size+1) 0 [.int .u32 ai,.int .i64 dt,.int .i64 sp,.slice so L.length sc] (bW ai dt sp (.slice so L.length sc)) (by simp[Act.eval]) (by simp[Act.eval]) (by rfl) cO 30 bR (by simp) (by kernel_rfl) (by simp[Value.oneCell']) #[.int .u32 ai,.int .i64 dt,.int .i64 sp,.slice so L.length sc] (by rfl) ?_
                  intro w9 bK fB)
     refine bodyPost_ret (v:= .tuple #[bW ai dt sp (.slice so L.length sc),.int .i64 (k:Int),.int .i64 rn]) ?_ rfl ?_
     ·rw[Bo rfl];simp[asAddr,run_loadVar_row w9 (w.heap.size+1) 30 30 _ (0,0) _ fB Tryz.underlying30 rfl wI.O]
     ·rw[Hn.O];exact⟨_,_,rfl,M5.O.at_.eU.grown bK M5.O.at_.size (fun k e=>by injection e with e;omega),M5.O.ext,M5.O.at_.ok.grown bK (fun g e=>by injection e with e;subst e;exact M5.O.rZ),ma.O.mono M5.O.at_.keep⟩
   ·have mJ:k=l.length:=by omega
    subst mJ;have ru:=Qh (Xz xn.O);have mQ:=Qh (XE HA.O (by omega) hm (fun c hc=>(Hc.O c hc).2.2) Hq.O (by rw[←He.O];exact ru.O));have Hn:=Qh (XD Hq.O (by rw[←He.O];exact ru.O):kN L aA l=(L++[bF d],l.length,0));have iA:=Qh (fun J6 (zx:∀b c,J b=some c→J6 b=some c) Ev (mP:aZ bM J6 Ev (bF d).aB) w' fF=>by
     have h9:=Xrp J6 (HG.O.mono (fun b c hb=>zx b c (M.O.at_.keep b c hb))) ai dt sp L HA.O (by omega) hm _ (ma.O.mono (fun b c hb=>zx b c (M.O.at_.keep b c hb))) (bF d) Ev mP w' fF;rw[mQ.O]at h9;exact h9)
    obtain⟨L2,EZ⟩:∃L2,L++[bF d]=L2:=⟨_,rfl⟩;dsimp only at iA;rw[EZ]at iA Hn;clear EZ mQ;have uU:=qV.O.aB;obtain⟨ae,ce,rfl,_,_,_⟩:=id WR.O.rd.aB;obtain⟨ak,ck,rfl,_,_,_⟩:=id WR.O.rd.aJ;obtain⟨at',ct,rfl,_,_,_⟩:=id WR.O.rd.aF;obtain⟨ah,ch,rfl,_,_,_⟩:=id WR.O.rd.holds;obtain⟨z0,z1,z2,z3⟩:=(⟨M.O.a0,M.O.a1,M.O.a2,M.O.a3⟩:_∧_∧_∧_);clear xn qV ru;go_wp2_with fail
    refine qR (X:=(Option Addr×Nat)×(Option Addr×Nat)×Nat) (Bl B ai dt sp so sc L L2 d (.slice ae d.aB.length ce) (.slice ak d.bf.aJ.length ck) (.slice at' d.aF.length ct) (.slice ah d.holds.length ch)) (jX wr 3 232 4 233 8 234 225 235 (fun x w=>x.2.2<w.heap.size∧J x.2.2=none) (fun x w=> ∃J',Ext wr.heap.size J J'∧Ok J' w∧aZ bM J' (.slice x.1.1 (bF d).aB.length x.1.2) (bF d).aB∧J' x.2.2=none) (fun x w=> ∃J',Ext wr.heap.size J J'∧Ok J' w∧aZ fw J' (.slice x.2.1.1 L2.length x.2.1.2) L2∧J' x.2.2=none) (fun x w=>w.heap[x.2.2]?=some (.cells cO 30 (0,0))∧wr.heap.size≤x.2.2) (fun _ _=>True) (fun x w=>(∃J',Ext wr.heap.size J J'∧Ok J' w∧aZ fw J' (.slice x.2.1.1 L2.length x.2.1.2) L2∧J' x.2.2=none)∧(w.heap[x.2.2]?=some (.cells cO 30 (0,0))∧wr.heap.size≤x.2.2)) (fun x=>x.2.2) 30 9 212 213 (fun x=> #[.int .u32 ai,.int .i64 dt,.int .i64 sp,.slice x.2.1.1 L2.length x.2.1.2]) (fun x=> #[.int .u32 ai,.int .i64 dt,.int .i64 sp,.slice x.2.1.1 L2.length x.2.1.2]) (fun x=> #[.int .u32 ai,.int .i64 dt,.int .i64 sp,.slice x.2.1.1 L2.length x.2.1.2])) (by kernel_rfl) (by kernel_rfl) ?_ ?_ ?_
    ·exact⟨(default,default,w.heap.size+1),jX.start _ _ ⟨M.O.lt,M.O.rZ⟩⟩
    ·rintro x s' a' w' i bS bO ha hC hi;obtain⟨aH,oi,dI,au⟩:=mem_ready.1 hi;have ev:=vV Bn ha;have hlt:=oO aH;rcases i with _|_|_|_|_|_|_|_|_|_|_|i
     rotate_left 11
     ·simp at dI
     all_goals
      have dH:=dI;simp at dI;subst dI;simp[Region.binds]at au;try have hl:=kz 6 9 bO (by decide+kernel) aH
      try have aT:=hC.off hl
      try have z0:=aV aT z0
      try have z1:=aV aT z1
      try have z2:=aV aT z2
      try have z3:=aV aT z3
      refine wpOp_step dH (fun K' hK=> ?_);rw[if_pos (by rfl)]
     rotate_left 2
     ·unfold Oper.wp;simp[go_sem,ev,dG,au,Oper.upon];refine(Xp1 J d _ _ _ _ B w' (WR.O.below aT)).mono ?_;rintro r4 w4 ⟨rfl,aS⟩;exact hK _ _ ⟨x,gD Bn ha rfl aH,hC.step hl (aT.trans (aS.mono aT.size)) (by decide) (fun h=>⟨Nat.lt_of_lt_of_le h.1 aS.size,h.2⟩) (fun h _=>h.elim (fun e=>absurd e (by decide)) (fun⟨_,_,q⟩=>(q.elim fun J9 h9=>⟨J9,h9.1,h9.2.1.below (Qn _) aS,h9.2.2⟩))) (fun h _=>h.elim (fun e=>absurd e (by decide)) (fun⟨_,_,q⟩=>(q.elim fun J9 h9=>⟨J9,h9.1,h9.2.1.below (Qn _) aS,h9.2.2⟩))) (fun h _=>h.elim (fun e=>absurd e (by decide)) (fun⟨_,_,q⟩=>⟨(aS.block _ (Qg q.1)).trans q.1,q.2⟩)) (fun _ _=>trivial) hlt⟩
     ·unfold Oper.wp;simp[go_sem,ev,dG,au,Oper.upon];refine(Xw J d (by omega) _ _ _ _ WR.O.rd.aB w' (M.O.at_.ok.below (Qn _) aT)).mono ?_;rintro r4 w4 ⟨v7,J7,rfl,aS,jL,eY,gN⟩;obtain⟨a7,k7,rfl,_,_,_⟩:=id gN;have ha:=ha.trans (lT (L:=Bl B ai dt sp so sc L L2 d (.slice ae d.aB.length ce) (.slice ak d.bf.aJ.length ck) (.slice at' d.aF.length ct) (.slice ah d.holds.length ch) x) (M:=Bl B ai dt sp so sc L L2 d (.slice ae d.aB.length ce) (.slice ak d.bf.aJ.length ck) (.slice at' d.aF.length ct) (.slice ah d.holds.length ch) ((a7,k7),x.2)) [3] rfl (fun j bq=>by
       rcases j with _|_|_|_|_|_|_|_|_|_|_|j<;>first|rfl|(exact absurd (by decide) bq)|simp) (List.forall_mem_cons.2 ⟨gG aH,List.forall_mem_nil _⟩))
      exact hK _ _ ⟨((a7,k7),x.2),gD Bn ha rfl aH,hC.step hl (aT.trans (aS.mono aT.size)) (by decide) (fun h=>⟨Nat.lt_of_lt_of_le h.1 aS.size,h.2⟩) (fun _ _=>⟨J7,fun b hb=>jL b (Nat.lt_of_lt_of_le hb aT.size),eY,gN,(jL _ (hC.inv hl).1).trans (hC.inv hl).2⟩) (fun h _=>h.elim (fun e=>absurd e (by decide)) (fun⟨_,_,q⟩=>(q.elim fun J9 h9=>⟨J9,h9.1,h9.2.1.below (Qn _) aS,h9.2.2⟩))) (fun h _=>h.elim (fun e=>absurd e (by decide)) (fun⟨_,_,q⟩=>⟨(aS.block _ (Qg q.1)).trans q.1,q.2⟩)) (fun _ _=>trivial) hlt⟩
     ·obtain⟨J6,kW,fF,mP,ui⟩:=hC.f1 (by first|simpa using au|simp[au]) (gX (by simp[bS])) hl;unfold Oper.wp;simp[go_sem,ev,dG,au,Oper.upon];refine(iA.O J6 (fun b c hb=>kW.keep M.O.at_.ok (Qn _) b c hb) _ mP w' fF).mono ?_;rintro r4 w4 ⟨v7,J7,rfl,aS,jL,eY,gN⟩;obtain⟨a7,k7,rfl,_,_,_⟩:=id gN;have ha:=ha.trans (lT (L:=Bl B ai dt sp so sc L L2 d (.slice ae d.aB.length ce) (.slice ak d.bf.aJ.length ck) (.slice at' d.aF.length ct) (.slice ah d.holds.length ch) x) (M:=Bl B ai dt sp so sc L L2 d (.slice ae d.aB.length ce) (.slice ak d.bf.aJ.length ck) (.slice at' d.aF.length ct) (.slice ah d.holds.length ch) (x.1,(a7,k7),x.2.2)) [4,5,6,9] rfl (fun j bq=>by
       rcases j with _|_|_|_|_|_|_|_|_|_|_|j<;>first|rfl|(exact absurd (by decide) bq)|simp) (List.forall_mem_cons.2 ⟨gG aH,List.forall_mem_cons.2 ⟨kz 6 5 bO (by kernel_rfl) aH,List.forall_mem_cons.2 ⟨kz 6 6 bO (by kernel_rfl) aH,List.forall_mem_cons.2 ⟨kz 6 9 bO (by kernel_rfl) aH,List.forall_mem_nil _⟩⟩⟩⟩))
      exact hK _ _ ⟨(x.1,(a7,k7),x.2.2),gD Bn ha rfl aH,hC.step hl (aT.trans (aS.mono aT.size)) (by decide) (fun h=>⟨Nat.lt_of_lt_of_le h.1 aS.size,h.2⟩) (fun h _=>h.elim (fun e=>absurd e (by decide)) (fun⟨_,_,q⟩=>(q.elim fun J9 h9=>⟨J9,h9.1,h9.2.1.below (Qn _) aS,h9.2.2⟩))) (fun _ _=>⟨J7,fun b hb=>(jL b (Nat.lt_of_lt_of_le hb aT.size)).trans (kW b hb),eY,gN,(jL _ (hC.inv hl).1).trans ui⟩) (fun h _=>h.elim (fun e=>absurd e (by decide)) (fun⟨_,_,q⟩=>⟨(aS.block _ (Qg q.1)).trans q.1,q.2⟩)) (fun _ _=>trivial) hlt⟩
     rotate_left 3
     ·unfold Oper.wp;simp[go_sem,ev,dG,au,Oper.upon,z0,z1,z2,z3];have ha:=ha.trans (lT (L:=Bl B ai dt sp so sc L L2 d (.slice ae d.aB.length ce) (.slice ak d.bf.aJ.length ck) (.slice at' d.aF.length ct) (.slice ah d.holds.length ch) x) (M:=Bl B ai dt sp so sc L L2 d (.slice ae d.aB.length ce) (.slice ak d.bf.aJ.length ck) (.slice at' d.aF.length ct) (.slice ah d.holds.length ch) (x.1,x.2.1,w'.heap.size)) [8] rfl (fun j bq=>by
       rcases j with _|_|_|_|_|_|_|_|_|_|_|j<;>first|rfl|(exact absurd (by decide) bq)|simp) (List.forall_mem_cons.2 ⟨gG aH,List.forall_mem_nil _⟩))
      exact hK _ _ ⟨(x.1,x.2.1,w'.heap.size),gD Bn ha rfl aH,hC.step hl (aT.trans (((Qb _ _).alloc (Qn _) _).mono aT.size)) (by decide) (fun _=>⟨by simp,M.O.at_.ok.fresh aT.size⟩) (fun h _=>h.elim (fun e=>absurd e (by decide)) (fun⟨_,_,q⟩=>(q.elim fun J9 h9=>⟨J9,h9.1,h9.2.1.below (Qn _) ((Qb w'.heap.size w').alloc (Qn _) (.cells cO 30)),h9.2.2.1,h9.2.1.fresh (Qn _)⟩))) (fun h _=>h.elim (fun e=>absurd e (by decide)) (fun⟨_,_,q⟩=>(q.elim fun J9 h9=>⟨J9,h9.1,h9.2.1.below (Qn _) ((Qb w'.heap.size w').alloc (Qn _) (.cells cO 30)),h9.2.2.1,h9.2.1.fresh (Qn _)⟩))) (fun _ _=>⟨heap_alloc_new _ _,aT.size⟩) (fun _ _=>trivial) hlt⟩
     ·have aK:w'.heap[x.2.2]?=some (.cells _ 30 (0,0)):=(hC.f3 (by first|simpa using au|simp[au]) (gX (by simp[bS])) hl).1;refine oK 30 _ _ rfl (x.2.2) 0 [.int .u32 ai,.int .i64 dt,.int .i64 sp,.slice x.2.1.1 L2.length x.2.1.2] (bW ai dt sp (.slice x.2.1.1 L2.length x.2.1.2)) (by simp[Act.eval,ev,dG,au]) (by simp[Act.eval,ev,dG,au]) (by rfl) _ _ aK (by simp) (by kernel_rfl) (by simp[Value.oneCell']) ?_;exact hK _ _ ⟨x,dS (d:=none) (v:=undef) Bn ha rfl aH,hC.jP aH ⟨hC.f2 (by first|simpa using au|simp[au]) (gX (by simp[bS])) hl,hC.f3 (by first|simpa using au|simp[au]) (gX (by simp[bS])) hl⟩ (gX (by simp[bS])) (gX (by simp[bS])) (by decide) aK (by rfl)⟩
     all_goals
      unfold Oper.wp;first
      |(simp[go_sem,ev,dG,au,Oper.upon,z0,z1,z2,z3];exact hK _ _ ⟨x,gD Bn ha rfl aH,hC.pure (by decide)⟩)
      |(simp[go_sem,ev,dG,Oper.upon,z0,z1,z2,z3];exact hK _ _ ⟨x,gD Bn ha rfl aH,hC.pure (by decide)⟩)
    ·rintro x s' a' w6 eu ha hC;obtain⟨wb,eG,ed,dR,aK⟩:=hC.on (eu 9 (by decide));simp only[ite_self]at aK;rw[qz _ _ _ _ (fun i hi=>by rw[Nat.zero_add];exact eu i (by simpa using hi))]at ha;subst ha;simp only[dE,Act.put,List.setIfInBounds_toArray,List.set_cons_succ,List.set_cons_zero];obtain⟨⟨ac1,kc1⟩,⟨Ew,ks⟩,bx⟩:=x;dsimp only at ed dR aK ⊢;obtain⟨⟨J9,jZ,jD,fB,yB⟩,mR,qW⟩:=ed;have bS:=M.O.at_.size;have QE:=M.O.lt;have hsW:=eG.size;have Zr:=dR.size;have bR:=(dR.block _ (by omega:w.heap.size+1<wb.heap.size) (fun e=>by injection e with e;omega)).trans ((eG.block _ M.O.lt).trans M.O.O);obtain⟨y0,y1,y2,y3⟩:=qU aK;have Na:=Qh (show Below w.heap.size w w6 from(M.O.at_.eU.trans (eG.mono bS)).grown dR (by omega) (fun k e=>by injection e with e;omega));have H9:=Qh (jD.grown dR (fun g e=>by injection e with e;subst e;exact yB));have C9:=Qh fB;have TL:=Qh (M.O.ext.trans jZ bS);have Ia:=Qh ((jZ _ M.O.lt).trans M.O.rZ);clear fB jZ jD mR aK z0 z1 z2 z3
     go_wp2_with (refine fO rfl rfl 30 _ _ rfl (w.heap.size+1) 0 [.int .u32 ai,.int .i64 dt,.int .i64 sp,.slice Ew L2.length ks] (bW ai dt sp (.slice Ew L2.length ks)) (by simp[Act.eval]) (by simp[Act.eval]) (by rfl) cO 30 bR (by simp) (by kernel_rfl) (by simp[Value.oneCell']) #[.int .u32 ai,.int .i64 dt,.int .i64 sp,.slice Ew L2.length ks] (by rfl) ?_
                  intro w9 bK fB)
     refine bodyPost_ret (v:= .tuple #[bW ai dt sp (.slice Ew L2.length ks),.int .i64 (l.length:Int),.int .i64 0]) ?_ rfl ?_
     ·rw[Bo rfl];simp[asAddr,run_loadVar_row w9 (w.heap.size+1) 30 30 _ (0,0) _ fB Tryz.underlying30 rfl wI.O]
     ·rw[Hn.O];exact⟨_,J9,rfl,Na.O.grown bK Na.O.size (fun k e=>by injection e with e;omega),TL.O,H9.O.grown bK (fun g e=>by injection e with e;subst e;exact Ia.O),C9.O⟩
structure Ib {X:Type} (W:World) (j1 j2 j3 j4:Nat) (G1 G2 G3 G4:X→World→Prop) (x:X) (s:Array Bool) (w:World):Prop where
 off:Below W.heap.size W w
 f1:s.getD j1 false=true→G1 x w
 f2:s.getD j2 false=true→G2 x w
 f3:s.getD j3 false=true→G3 x w
 f4:s.getD j4 false=true→G4 x w
section
variable {X:Type} {W w w':World} {j1 j2 j3 j4:Nat} {G1 G2 G3 G4:X→World→Prop} {x:X} {s:Array Bool} {i:Nat}
theorem Ib.start(n:Nat)(x:X):Ib W j1 j2 j3 j4 G1 G2 G3 G4 x (Array.replicate n false) {W with drawn:=W.drawn+1}:=
 ⟨(Qb _ _).drew,fun h=>(by rw[wJ]at h;cases h),fun h=>(by rw[wJ]at h;cases h),fun h=>(by rw[wJ]at h;cases h),fun h=>(by rw[wJ]at h;cases h)⟩
theorem Ib.pure(h:Ib W j1 j2 j3 j4 G1 G2 G3 G4 x s w)(hd:i≠j1∧i≠j2∧i≠j3∧i≠j4):Ib W j1 j2 j3 j4 G1 G2 G3 G4 x (s.setIfInBounds i true) w:=by
 obtain⟨h1,h2,h3,h4⟩:=hd;refine⟨h.off,?_,?_,?_,?_⟩
 ·rw[getD_set_ne false h1];exact h.f1
 ·rw[getD_set_ne false h2];exact h.f2
 ·rw[getD_set_ne false h3];exact h.f3
 ·rw[getD_set_ne false h4];exact h.f4
theorem Ib.step(h:Ib W j1 j2 j3 j4 G1 G2 G3 G4 x s w)(hb:Below W.heap.size W w'){x':X}
 (k1:i=j1∨(s.getD j1 false=true∧G1 x w)→G1 x' w') (k2:i=j2∨(s.getD j2 false=true∧G2 x w)→G2 x' w') (k3:i=j3∨(s.getD j3 false=true∧G3 x w)→G3 x' w') (k4:i=j4∨(s.getD j4 false=true∧G4 x w)→G4 x' w'):
 Ib W j1 j2 j3 j4 G1 G2 G3 G4 x' (s.setIfInBounds i true) w':=
 ⟨hb,fun a=>k1 ((Nb a).imp id fun q=>⟨q,h.f1 q⟩),fun a=>k2 ((Nb a).imp id fun q=>⟨q,h.f2 q⟩),fun a=>k3 ((Nb a).imp id fun q=>⟨q,h.f3 q⟩),fun a=>k4 ((Nb a).imp id fun q=>⟨q,h.f4 q⟩)⟩
end
structure oF (W:World) (m1 m2:Nat) (R1 R2:Array Value) (s:Array Bool) (w:World):Prop where
 eq:w=if s.getD 3 false=true then(({W with drawn:=W.drawn+1}:World).setRow m1 R1).setRow m2 R2 else if s.getD 2 false=true then({W with drawn:=W.drawn+1}:World).setRow m1 R1 else{W with drawn:=W.drawn+1}
section
variable {W w:World} {m1 m2:Nat} {R1 R2:Array Value} {s:Array Bool} {i:Nat}
theorem oF.start(n:Nat):oF W m1 m2 R1 R2 (Array.replicate n false) {W with drawn:=W.drawn+1}:=
 ⟨by rw[wJ,wJ];rfl⟩
theorem oF.pure(h:oF W m1 m2 R1 R2 s w)(hd:i≠2∧i≠3):oF W m1 m2 R1 R2 (s.setIfInBounds i true) w:=
 ⟨by rw[getD_set_ne false hd.1,getD_set_ne false hd.2];exact h.eq⟩
theorem oF.cell(h:oF W m1 m2 R1 R2 s w){b:Nat}(hc:W.cell? ⟨b,k,none⟩=some v)(h1:m1≠b)(h2:m2≠b):w.cell? ⟨b,k,none⟩=some v:=by
 have n1:some m1≠some b:=fun e=>h1 (Option.some.inj e);have n2:some m2≠some b:=fun e=>h2 (Option.some.inj e);have c0:({W with drawn:=W.drawn+1}:World).cell? ⟨b,k,none⟩=some v:=hc;rw[h.eq];split
 ·exact fC bA n2 (fC bA n1 c0)
 ·split
  ·exact fC bA n1 c0
  ·exact c0
theorem oF.zC(h:oF W m1 m2 R1 R2 s w)(h2:s.getD 2 false=false)(h3:s.getD 3 false=false)(hg:W.heap[m1]?=some o):w.heap[m1]?=some o:=by
 rw[h.eq,h2,h3];exact hg
theorem oF.jC(h:oF W m1 m2 R1 R2 s w)(h3:s.getD 3 false=false)(bq:m1≠m2)(hg:W.heap[m2]?=some o):w.heap[m2]?=some o:=by
 have hl:=(Qg hg);rw[h.eq,h3];simp only[Bool.false_eq_true,if_false];split
 ·exact((bA (w:={W with drawn:=W.drawn+1}) (g:=m1)).block m2 hl (fun e=>bq (Option.some.inj e).symm)).trans hg
 ·exact hg
theorem oF.jP(h:oF W m1 m2 R1 R2 s w)(aH:s.getD 2 true=false)(h3:s.getD 3 false=false)(hR:R=R1):oF W m1 m2 R1 R2 (s.setIfInBounds 2 true) (w.setRow m1 R):=by
 refine⟨?_⟩;rw[getD_set_ne false (by decide:2≠3),h3,y9 (oO aH),h.eq,h3,gG aH,hR];rfl
theorem oF.wH(h:oF W m1 m2 R1 R2 s w)(aH:s.getD 3 true=false)(h2:s.getD 2 false=true)(hR:R=R2):oF W m1 m2 R1 R2 (s.setIfInBounds 3 true) (w.setRow m2 R):=by
 refine⟨?_⟩;rw[y9 (oO aH),h.eq,gG aH,h2,hR];rfl
theorem oF.done(h:oF W m1 m2 R1 R2 s w)(h3:s.getD 3 false=true){c1 c2:Array Value}{t1 t2:TypeId}(g1:W.heap[m1]?=some (.cells c1 t1 (0,0)))(g2:W.heap[m2]?=some (.cells c2 t2 (0,0)))(bq:m1≠m2):
 ∃wa wb,Below W.heap.size W wa∧wa.grownBy wb (some m1)∧wb.grownBy w (some m2)∧w.heap[m1]?=some (.cells R1 t1 (0,0))∧w.heap[m2]?=some (.cells R2 t2 (0,0)):=by
 have e:=h.eq;rw[if_pos h3]at e;subst e;have l1:=(Qg g1);have l2:=(Qg g2);have r1:(({W with drawn:=W.drawn+1}:World).setRow m1 R1).heap[m1]?=some (.cells R1 t1 (0,0)):=setRow_heap _ m1 c1 _ t1 (0,0) g1;have r2:(({W with drawn:=W.drawn+1}:World).setRow m1 R1).heap[m2]?=some (.cells c2 t2 (0,0)):=(bA.block m2 l2 (fun e=>bq (Option.some.inj e).symm)).trans g2;refine⟨{W with drawn:=W.drawn+1},_,(Qb _ _).drew,bA,bA,?_,setRow_heap _ m2 c2 _ t2 (0,0) r2⟩;exact(bA.block m1 (Qg r1) (fun e=>bq (Option.some.inj e))).trans r1
end
theorem one_row{E:TypeId}{cs:List Value}{x:α}(hw:Ok J W)(hg:W.heap[g]?=some (.cells cs.toArray E (0,0)))(hn:J g=none)(hx:T.rd J cs x):
 ∃J',(∀b c,J b=some c→J' b=some c)∧Ext g J J'∧Ok J' W∧(∀b,b≠g→J' b=J b)∧aZ T J' (.slice (some ⟨g,0,none⟩) 1 1) [x]:=by
 have mM:∀b c,J b=some c→(J.add g cs.toArray) b=some c:=fun b c hc=>by
  unfold IH.add;by_cases e:b=g
  ·subst e;rw[hn]at hc;cases hc
  ·rw[if_neg e];exact hc
 refine⟨J.add g cs.toArray,mM,Ext.add (Qn _) J _,hw.add hg,fun b hb=>by simp[IH.add,hb],⟨_,1,rfl,Qn _,by unfold maxLen;omega,fun _=>⟨g,0,cs.toArray,rfl,by simp[IH.add],fun i hi=> ?_⟩⟩⟩;have h0:i=0:=by simp at hi;omega
 subst h0;refine⟨cs,T.mono mM hx,fun j u hu=> ?_⟩;simpa using hu
theorem lJ.own(h:lJ I w0 J W)(hg:W.grownBy W' (some g))(hn:J g=none)(hl:w0.heap.size≤g):lJ I w0 J W':=
 ⟨h.ok.grown hg (fun k e=>by injection e with e;subst e;exact hn),h.keep,h.eU.grown hg h.size (fun k e=>by injection e with e;omega)⟩
theorem Xxy{l:List α}(h:aZ T I v l)(hn:l.length=n):∃ao cap,v= .slice ao n cap:=by
 obtain⟨ao,cap,e,_⟩:=h;exact⟨ao,cap,by rw[e,hn]⟩
theorem Xty{ops:Array Oper}{tmps:Array Value}{j:Nat}{t:Tmp}{b:Bool}(ho:(ops[j]?).bind (·.dst)=some t)(h:tmps[t]?.getD undef= .bool b):yielded ops tmps j=some b:=by
 unfold yielded;rw[ho];cases ht:tmps[t]? with
 |none=>rw[ht]at h;cases h
 |some v=>rw[ht]at h;have h:v= .bool b:=h;subst h;simp[ht]
theorem TM(s:af):(dW s).length=32:=by
 unfold dW;rw[List.length_map];exact Xsf _ (Oz ..)
def Ic:af:=[116,101,120,116]
def OA:af:=dW Ic
def yA:bD:=⟨1,[97],[],[],4,OA,[⟨1,0,4⟩]⟩
def yR:bD:=⟨4,[97],[],[],0,[],[]⟩
def sA:bV:=⟨1,5,[],[yA],Ic,[]⟩
def sB:bV:=⟨2,6,(u6 sA).1,[yR],[],[]⟩
theorem TN:∀{l:af},l.length=32→ ∃a0 a1 a2 a3 a4 a5 a6 a7 a8 a9 b0 b1 b2 b3 b4 b5 b6 b7 b8 b9 c0 c1 c2 c3 c4 c5 c6 c7 c8 c9 d0 d1,l=[a0,a1,a2,a3,a4,a5,a6,a7,a8,a9,b0,b1,b2,b3,b4,b5,b6,b7,b8,b9,c0,c1,c2,c3,c4,c5,c6,c7,c8,c9,d0,d1]
 | [a0,a1,a2,a3,a4,a5,a6,a7,a8,a9,b0,b1,b2,b3,b4,b5,b6,b7,b8,b9,c0,c1,c2,c3,c4,c5,c6,c7,c8,c9,d0,d1],_=>⟨a0,a1,a2,a3,a4,a5,a6,a7,a8,a9,b0,b1,b2,b3,b4,b5,b6,b7,b8,b9,c0,c1,c2,c3,c4,c5,c6,c7,c8,c9,d0,d1,rfl⟩
