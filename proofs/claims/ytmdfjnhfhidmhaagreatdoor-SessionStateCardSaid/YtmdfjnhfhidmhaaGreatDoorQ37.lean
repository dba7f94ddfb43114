/- Lemmas for the claim's theorem;conditions: as each says. -/
import Derived.Test.YtmdfjnhfhidmhaaGreatDoorQ36
set_option maxHeartbeats 0
set_option maxRecDepth 100000
set_option linter.all false
namespace Go.Proofs.YtmdfjnhfhidmhaaGreatDoor
open Go.RowKit
variable{ve:Value}{n:Nat}{ai dt sp:Int}{vs:Value}{s:bu}{w:World}{le:Nat}{I:IH}{w0 W:World}{m:Nat}{J:IH}{B:Nat}{d:fP}{vk vt vh:Value}
theorem Xpl:dx Tryz.prog 61 76 iO 88:=dx.of Tryz.underlying61 Zm rfl (by decide) rfl
abbrev Ab:Array Value:=#[.int .i64 0,.int .i64 0,.string ⟨#[]⟩,.slice none 0 0,.string ⟨#[]⟩,.string ⟨#[]⟩]
abbrev eT:Array Value:=#[.int .u32 0,.int .i64 0,.int .i64 0,.slice none 0 0]
def LU(I:IH)(w:World)(s:bu)(e:Ending)(w':World):Prop:=
 ∃ve J,e= .returned (uG s ve)∧Below w.heap.size w w'∧Ext w.heap.size I J∧Ok J w'∧aY bJ J ve s.aB
def DZ(I:IH)(w:World)(ai dt sp:Int)(L:List bu)(n:Int)(e:Ending)(w':World):Prop:=
 ∃vs J,e= .returned (.tuple #[ed ai dt sp vs,.int .i64 n])∧Below w.heap.size w w'∧Ext w.heap.size I J∧Ok J w'∧aY iO J vs L
abbrev OT(n:Nat)(num az:Int)(bq:af)(eo:Option Addr)(le ec:Nat)(str:af)(x:Option Addr×Nat):List (Option Tmp×Value):=
 [(some 3,.pointer (some ⟨n,0,none⟩)),(some 4,.int .i64 num),(some 5,.pointer (some ⟨n,1,none⟩)),(some 6,.int .i64 az),(some 7,.pointer (some ⟨n,2,none⟩)),(some 8,S bq),(some 9,.pointer (some ⟨n,3,none⟩)),(some 10,.slice eo le ec),(some 11,.slice x.1 le x.2),(some 12,.pointer (some ⟨n,4,none⟩)),(some 13,.pointer (some ⟨n,6,none⟩)),(some 14,S str),(some 15,.agg #[.int .i64 num,.int .i64 az,S bq,.slice x.1 le x.2,S str,.string ⟨#[]⟩]),(none,undef)]
theorem LV{num az:Int}{bq:af}{eo:Option Addr}{ec:Nat}{str:af}{x:Option Addr×Nat}:bE (OT n num az bq eo le ec str x):=by
 unfold bE;simp
abbrev aqL(n le zW cp:Nat)(ao:Option Addr)(s:bu)(ve:Value)(x:Nat×(Option Addr×Nat)×Nat×(Option Addr×Nat)):List (Option Tmp×Value):=
 [(some 41,.slice (some ⟨x.1,0,none⟩) 0 0),(some 42,.pointer (some ⟨n,3,none⟩)),(some 43,.slice ao le cp),(some 44,.slice x.2.1.1 le x.2.1.2),(some 45,uG s ve),(some 46,.slice (some ⟨x.2.2.1,0,none⟩) 1 1),(some 47,.slice x.2.2.2.1 zW x.2.2.2.2),(some 48,.pointer (some ⟨n,3,none⟩)),(none,undef)]
theorem Xpk(I:IH)(d:fP)(hn:d.aB.length≤100000)(ve vk vt vh:Value)(qf:aY bJ I ve d.aB)(w:World)(hw:Ok I w):
 Calls Tryz.prog 36 #[kD d ve vk vt vh] w (LU I w (dI d)):=by
 have mh:=Qh (fun w hw=>AJ I ve d.aB qf w hw (by omega));have Hi6:=Qh (show(Tryz.prog.info? 76).map (·.size)=some 6 by kernel_rfl);obtain⟨eo,ec,rfl,_,_,_⟩:=id qf;obtain⟨W2,mH⟩:∃W2,((w.alloc (.cells #[.int .i64 d.num,.int .i64 d.az,S d.bq,.slice eo d.aB.length ec,vk,.int .i64 d.bL.aW,S d.bL.str,vt,vh] 43)).alloc (.cells Ab 76))=W2:=⟨_,rfl⟩;obtain⟨cu,h0,dW,MR⟩:=TT w _ _ _ _ W2 mH;have bC:Ok I W2:=by rw[←mH];exact(hw.alloc _).alloc _
 obtain⟨b0,b1,b2,b3,b4,b5,b6,b7,b8⟩:=drB_row (d:=d) h0;have Ua:=Qh dW;clear qf h0 dW;go_enter Tryz.func36,Tryz.ntmps36
 go_wp2_with fail
 have dW:=Ua.q;clear mH;refine tK (X:=Option Addr×Nat) (OT w.heap.size d.num d.az d.bq eo d.aB.length ec d.bL.str) (jZ W2 8 235 226 236 227 237 228 238 (fun _ _=>True) (fun x w=>aN bJ 81 I w W2.heap.size (.slice x.1 d.aB.length x.2) d.aB) (fun _ _=>True) (fun _ _=>True) (fun _ _=>True) (fun x w=>aN bJ 81 I w W2.heap.size (.slice x.1 d.aB.length x.2) d.aB) (fun x=>(w.heap.size+1)) 76 13 215 216 (fun x=>(kX (dI d) (.slice x.1 d.aB.length x.2)).toArray) (fun x=>(kX (dI d) (.slice x.1 d.aB.length x.2)).toArray) (fun x=>(kX (dI d) (.slice x.1 d.aB.length x.2)).toArray)) (by kernel_rfl) (by kernel_rfl) ?_ ?_ ?_
 ·exact⟨default,jZ.start _ _ trivial⟩
 ·rintro x s' a' w' i cu bU ha hC hi;obtain⟨aJ,oi,dN,aA⟩:=mem_ready.1 hi;have ev:=A8 LV ha;have hlt:=tJ aJ;rcases i with _|_|_|_|_|_|_|_|_|_|_|_|_|_|i
  rotate_left 14
  ·simp at dN
  all_goals
   have bY:=dN;simp at dN;subst dN;simp[Region.binds]at aA;try have hl:=qH 6 13 bU (by decide+kernel) aJ
   try have bQ:=hC.off hl
   try have b0:=bI bQ b0
   try have b1:=bI bQ b1
   try have b2:=bI bQ b2
   try have b3:=bI bQ b3
   try have b6:=bI bQ b6
   refine wpOp_step bY (fun K' hK=> ?_);rw[if_pos (by rfl)]
  rotate_left 8
  ·unfold Oper.wp;simp[go_sem,ev,eZ,aA,Oper.upon];refine(mh.q w' (bC.below (Qn _) bQ)).mono ?_;rintro r4 w4 ⟨v7,rfl,ho,bA⟩;obtain⟨a7,k7,rfl⟩:=wP ho;have ha:=ha.trans (qF (L:=OT w.heap.size d.num d.az d.bq eo d.aB.length ec d.bL.str x) (M:=OT w.heap.size d.num d.az d.bq eo d.aB.length ec d.bL.str (a7,k7)) [8,12] rfl (fun j aZ=>by
    rcases j with _|_|_|_|_|_|_|_|_|_|_|_|_|_|j<;>first|rfl|(exact absurd (by decide) aZ)|simp) (List.forall_mem_cons.2 ⟨jl aJ,List.forall_mem_cons.2 ⟨qH 6 12 bU (by kernel_rfl) aJ,List.forall_mem_nil _⟩⟩))
   exact hK _ _ ⟨(a7,k7),jQ LV ha rfl aJ,hC.step hl (bQ.trans (bA.mono bQ.size)) (by decide) (fun _=>trivial) (fun _ _=>ho.lower bQ.size) (fun _ _=>trivial) (fun _ _=>trivial) (fun _ _=>trivial) hlt⟩
  rotate_left 4
  ·have aU:w'.heap[(w.heap.size+1)]?=some (.cells _ 76 (0,0)):=(bQ.block _ (Qg dW)).trans dW;refine qU 76 _ _ rfl ((w.heap.size+1)) 0 [.int .i64 d.num,.int .i64 d.az,S d.bq,.slice x.1 d.aB.length x.2,S d.bL.str,.string ⟨#[]⟩] (.agg #[.int .i64 d.num,.int .i64 d.az,S d.bq,.slice x.1 d.aB.length x.2,S d.bL.str,.string ⟨#[]⟩]) (by simp[Act.eval,ev,eZ,aA]) (by simp[Act.eval,ev,eZ,aA]) (by rfl) _ _ aU (by simp) (by kernel_rfl) (by simp[Value.oneCell']) ?_;exact hK _ _ ⟨x,dF (d:=none) (v:=undef) LV ha rfl aJ,hC.lH aJ (hC.f1 (by first|simpa using aA|simp[aA]) (kz (by simp[cu])) hl) (kz (by simp[cu])) (kz (by simp[cu])) (by decide) aU (by rfl)⟩
  all_goals
   unfold Oper.wp;first
   |(simp[go_sem,ev,eZ,aA,Oper.upon,b0,b1,b2,b3,b6];exact hK _ _ ⟨x,jQ LV ha rfl aJ,hC.pure (by decide)⟩)
   |(simp[go_sem,ev,eZ,Oper.upon,b0,b1,b2,b3,b6];exact hK _ _ ⟨x,jQ LV ha rfl aJ,hC.pure (by decide)⟩)
 ·rintro x s' a' w3 eX ha hC;obtain⟨wb,gQ,gU,fF,aU⟩:=hC.on (eX 13 (by decide));simp only[ite_self]at aU;rw[su _ _ _ _ (fun i hi=>by rw[Nat.zero_add];exact eX i (by simpa using hi))]at ha;subst ha;simp only[df,Act.put,List.setIfInBounds_toArray,List.set_cons_succ,List.set_cons_zero];have I9:=gU.kept fF (.inr (gU.iK (by omega)));have il:Ok I w3:=(bC.below (Qn _) gQ).grown fF (fun g e=>by injection e with e;subst e;exact hw.fresh (by omega));obtain⟨J,wQ,oJ,yG,_⟩:=I9.freeze il (fun b hb=>hw.fresh (by omega));have fu:=(MR.trans (gQ.mono MR.size)).grown fF (by have:=gQ.size;omega) (fun k e=>by injection e with e;omega);go_wp2;refine bodyPost_ret (results_cell_row rfl _ _ (w.heap.size+1) _ (kX (dI d) (.slice x.1 d.aB.length x.2)).toArray (0,0) _ rfl aU Tryz.underlying76 rfl Hi6.q) rfl ?_;exact⟨_,J,rfl,fu,wQ.mono (by omega),oJ,yG⟩
structure IE (I:IH) (w0:World) (ai dt sp:Int) (vs:Value) (s:bu) (ve:Value) (W:World):Prop where
 at_:lq I w0 I W
 row:W.heap[w0.heap.size]?=some (.cells #[.int .u32 ai,.int .i64 dt,.int .i64 sp,vs] 63 (0,0))
 aW:jD W (w0.heap.size+1) s ve
 q:W.heap[w0.heap.size+2]?=some (.cells eT 63 (0,0))
theorem IE.quiet{W':World}(h:IE I w0 ai dt sp vs s ve W)(hb:Below W.heap.size W W'):IE I w0 ai dt sp vs s ve W':=
 ⟨h.at_.quiet hb,(hb.block _ (Qg h.row)).trans h.row,h.aW.aX hb,(hb.block _ (Qg h.q)).trans h.q⟩
theorem xm{b:Nat}(h:w.heap[b]?=some (.cells #[.int .u32 ai,.int .i64 dt,.int .i64 sp,vs] 63 (0,0))):
 w.cell? ⟨b,0,none⟩=some (.int .u32 ai)∧w.cell? ⟨b,1,none⟩=some (.int .i64 dt)∧w.cell? ⟨b,2,none⟩=some (.int .i64 sp)∧w.cell? ⟨b,3,none⟩=some vs:=
 ⟨(cell_of_row _ _ 0 _ _ _ h).trans rfl,(cell_of_row _ _ 1 _ _ _ h).trans rfl,(cell_of_row _ _ 2 _ _ _ h).trans rfl,(cell_of_row _ _ 3 _ _ _ h).trans rfl⟩
theorem IE.old{w9:World}(hw:Ok I w0)(h:IE I w0 ai dt sp vs s ve W)(hg:W.grownBy w9 (some (w0.heap.size+2))){L:List bu}(je:aY iO I vs L){p:List bu×Int}{r:Int}(hp:p=(L,r)):
 DZ I w0 ai dt sp p.1 p.2 (.returned (.tuple #[ed ai dt sp vs,.int .i64 r])) w9:=by
 subst hp;exact⟨vs,I,rfl,h.at_.eD.grown hg h.at_.size (fun k e=>by injection e with e;omega),Ext.refl _ _,h.at_.ok.grown hg (fun g e=>by injection e with e;subst e;exact hw.fresh (by omega)),je⟩
abbrev D8(n m le zW cp:Nat)(ao:Option Addr)(s:bu)(ve:Value)(x:(Option Addr×Nat)×Nat×(Option Addr×Nat)):List (Option Tmp×Value):=
 [(some 43,.pointer (some ⟨n,3,none⟩)),(some 44,.slice ao le cp),(some 45,.slice x.1.1 le x.1.2),(some 46,uG s ve),(some 47,.slice (some ⟨x.2.1,0,none⟩) 1 1),(some 48,.slice x.2.2.1 zW x.2.2.2),(some 49,.pointer (some ⟨m,3,none⟩)),(none,undef)]
theorem FZ{zW cp:Nat}{ao:Option Addr}{x:(Option Addr×Nat)×Nat×(Option Addr×Nat)}:bE (D8 n m le zW cp ao s ve x):=by
 unfold bE;simp
theorem Xna(I:IH)(hI:cB I)(ai dt sp:Int)(L:List bu)(h:cO n m L)(hn:n≤150)(hm:m≤250)(vs:Value)(je:aY iO I vs L)(s:bu)(ve:Value)(qf:aY bJ I ve s.aB)(w:World)(hw:Ok I w):
 Calls Tryz.prog 57 #[ed ai dt sp vs,uG s ve] w (DZ I w ai dt sp (uK L s).1 (uK L s).2):=by
 have hlen:=h.len;have Hla:=Qh (fun w hw=>Zk I hI ai dt sp L vs je (h.KR (by omega) (by omega)) w hw);have OM:=Qh (fun w hw=>Zl I ai dt sp L vs je w hw);have mh:=Qh (fun w hw=>Xjx I vs L je w hw (by omega));have um:=Qh je;have OH:=Qh qf;have CF:=Qh (show(Tryz.prog.info? 63).map (·.size)=some 4 by kernel_rfl);obtain⟨so,sc,rfl,_,_,_⟩:=id je;obtain⟨eo,ec,rfl,_,_,_⟩:=id qf;have qY:=Qh (show uK L s=if jF L s≠0 then(L,jF L s)else(L++[s],0)from rfl);have IG:=Qh (show jF L s=if s.num≠(L.length:Nat)+1∨(L≠[]∧s.az<iJ L)then 14 else if s.bq≠dV L then 20 else 0 by unfold jF;rw[if_neg (by omega)]);have d1:decide ((255:Int)≤(L.length:Int))=false:=Qf (by omega);have m1:IntKind.i64.wrap ((L.length:Int)+1)=(L.length:Int)+1:=IntWalk.i64_in _ (by omega);obtain⟨W3,Ay⟩:∃W3,(((w.alloc (.cells #[.int .u32 ai,.int .i64 dt,.int .i64 sp,.slice so L.length sc] 63)).alloc (.cells #[.int .i64 s.num,.int .i64 s.az,S s.bq,.slice eo s.aB.length ec,S s.aV,S s.sl] 76)).alloc (.cells eT 63))=W3:=⟨_,rfl⟩;obtain⟨mW,Bc,xD,rf⟩:=Tg w _ _ _ _ _ _ W3 Ay
 have M:=Qh (show IE I w ai dt sp (.slice so L.length sc) s (.slice eo s.aB.length ec) W3 from⟨by rw[←Ay];exact(((lq.start hw).past _).past _).past _,Bc,
  ⟨(cell_of_row _ _ 0 _ _ _ xD).trans rfl,(cell_of_row _ _ 1 _ _ _ xD).trans rfl,(cell_of_row _ _ 2 _ _ _ xD).trans rfl,(cell_of_row _ _ 3 _ _ _ xD).trans rfl,(cell_of_row _ _ 4 _ _ _ xD).trans rfl,(cell_of_row _ _ 5 _ _ _ xD).trans rfl⟩,rf⟩)
 obtain⟨z0,z1,z2,z3⟩:=xm Bc;obtain⟨c0,c1,c2,c3,c4,c5⟩:=M.q.aW;clear h je qf Bc xD rf;go_enter Tryz.func57,Tryz.ntmps57
 go_upto_region 3 with fail
 clear Ay;obtain⟨B,hB⟩:∃B:Bool,decide (s.num≠(L.length:Nat)+1∨(L≠[]∧s.az<iJ L))=B:=⟨_,rfl⟩;go_cut [13] (fun s13 wx=>s13= .bool B∧Below W3.heap.size W3 wx)
 case first=>
  have z0:=cell_regrown z0;have z1:=cell_regrown z1;have z2:=cell_regrown z2;have z3:=cell_regrown z3;have c0:=cell_regrown c0;have c1:=cell_regrown c1;by_cases q1:s.num=(L.length:Nat)+1
  ·have i1:(s.num !=(L.length:Int)+1)=false:=by simpa using q1
   rcases Sn L with hL|⟨k,hk,xw,qB⟩
   ·have mG:B=false:=by rw[←hB];exact Qf (by rintro(h|⟨h,_⟩);exact h q1;exact h hL)
    have i0:decide (0<(L.length:Int))=false:=Qf (by rw[hL];simp);have i0':decide (0<L.length)=false:=Qf (by rw[hL];simp);subst mG;clear hB q1 hL;go_wp2_with fail
    refine wp_region_quiet_below (by kernel_rfl) (by kernel_rfl) ?_;repeat(go_big_quiet_step ((fail)))
    refine wpQuiet_nil ?_;intro w2 dD;have aP:Below (W3).heap.size (W3) w2:=by
     obtain⟨pq,rfl⟩:=dD;exact below_regrown _ _ _
    clear dD;go_wp2_with fail
    go_meet;exact⟨rfl,aP⟩
   ·have i0:decide (0<(L.length:Int))=true:=Qt (by omega);have i0':decide (0<L.length)=true:=Qt (by omega);have aZ:L≠[]:=fun e=>by rw[e]at hk;simp at hk
    have mG:decide (s.az<iJ L)=B:=by rw[←hB];simp[q1,aZ]
    clear hB qB aZ q1 xw;go_wp2_with fail
    refine wp_region_quiet_below (by kernel_rfl) (by kernel_rfl) ?_;repeat(go_big_quiet_step ((with_reducible exact Calls.regrown_of (OM.q _ (M.q.at_.ok.below (Qn _) (below_regrown _ _ _))))))
    refine wpQuiet_nil ?_;intro w2 dD;have aP:Below (W3).heap.size (W3) w2:=by
     obtain⟨pq,rfl⟩:=dD;exact below_regrown _ _ _
    clear dD;go_wp2_with fail
    go_meet;exact⟨by first|rfl|rw[mG],aP⟩
  ·have i1:(s.num !=(L.length:Int)+1)=true:=by simpa using q1
   have mG:B=true:=by rw[←hB];exact Qt (.inl q1)
   subst mG;clear hB q1;go_wp2_with fail
   refine wp_region_quiet_below (by kernel_rfl) (by kernel_rfl) ?_;repeat(first|go_big_quiet_step (fail)|refine BigFrame.wpQuiet_skip (by rfl) ?_)
   refine wpQuiet_nil ?_;intro w2 dD;have aP:Below W3.heap.size W3 w2:=by
    obtain⟨pq,rfl⟩:=dD;exact below_regrown _ _ _
   clear dD;go_wp2_with fail
   go_meet;exact⟨rfl,aP⟩
 case rest=>
 obtain⟨rfl,aG⟩:=hcut;replace M:=Qh (M.q.quiet aG);clear aG z0 z1 z2 z3 c0 c1 c2 c3 c4 c5;cases B;case true=>
  have Hn:=Qh (show uK L s=(L,14) by rw[qY.q,IG.q,if_pos (of_decide_eq_true hB)];rfl);clear hB;obtain⟨z0,z1,z2,z3⟩:=xm M.q.row;have dW:=M.q.q
  go_wp2_with (refine jy rfl rfl 63 _ _ rfl (w.heap.size+2) 0 [.int .u32 ai,.int .i64 dt,.int .i64 sp,.slice so L.length sc] (ed ai dt sp (.slice so L.length sc)) (by simp[Act.eval]) (by simp[Act.eval]) (by rfl) eT 63 dW (by simp) (by kernel_rfl) (by simp[Value.oneCell']) #[.int .u32 ai,.int .i64 dt,.int .i64 sp,.slice so L.length sc] (by rfl) ?_
               intro w9 dY iy)
  refine bodyPost_ret (v:= .tuple #[ed ai dt sp (.slice so L.length sc),.int .i64 14]) ?_ rfl (M.q.old hw dY um.q Hn.q);rw[results_cell_tmp rfl];simp[asAddr,run_loadVar_row w9 (w.heap.size+2) 63 63 _ (0,0) _ iy Tryz.underlying63 rfl CF.q]
 replace IG:=Qh (IG.q.trans (if_neg (of_decide_eq_false hB)));clear hB;obtain⟨z0,z1,z2,z3⟩:=xm M.q.row;obtain⟨c0,c1,c2,c3,c4,c5⟩:=M.q.aW;obtain⟨wA,Lx⟩:∃wA,wA=wc:=⟨_,rfl⟩;subst Lx;obtain⟨B,hB⟩:∃B:Bool,(!s.bq==dV L)=B:=⟨_,rfl⟩;go_upto_region 5 with fail
 go_cut [35] (fun Qp wx=>Qp= .bool B∧Below wA.heap.size wA wx)
 case first=>
  have z0:=cell_regrown z0;have z1:=cell_regrown z1;have z2:=cell_regrown z2;have z3:=cell_regrown z3;have c2:=cell_regrown c2;go_wp2_with fail
  refine wp_region_quiet_below (by kernel_rfl) (by kernel_rfl) ?_;repeat(go_big_quiet_step ((with_reducible exact Calls.regrown_of (Hla.q _ (M.q.at_.ok.below (Qn _) (below_regrown _ _ _))))))
  refine wpQuiet_nil ?_;intro w2 dD;have aP:Below (wA).heap.size (wA) w2:=by
   obtain⟨pq,rfl⟩:=dD;exact below_regrown _ _ _
  clear dD;go_wp2_with fail
  go_meet;exact⟨by first|rfl|rw[hB],aP⟩
 case rest=>
 obtain⟨rfl,aG⟩:=hcut;replace M:=Qh (M.q.quiet aG);clear aG z0 z1 z2 z3 c0 c1 c2 c3 c4 c5 Hla;cases B;case true=>
  have he:jF L s=20:=by rw[IG.q,if_pos (by simpa using hB)]
  have Hn:=Qh (show uK L s=(L,20) by rw[qY.q,he];rfl);clear he;clear hB;obtain⟨z0,z1,z2,z3⟩:=xm M.q.row;have dW:=M.q.q
  go_wp2_with (refine jy rfl rfl 63 _ _ rfl (w.heap.size+2) 0 [.int .u32 ai,.int .i64 dt,.int .i64 sp,.slice so L.length sc] (ed ai dt sp (.slice so L.length sc)) (by simp[Act.eval]) (by simp[Act.eval]) (by rfl) eT 63 dW (by simp) (by kernel_rfl) (by simp[Value.oneCell']) #[.int .u32 ai,.int .i64 dt,.int .i64 sp,.slice so L.length sc] (by rfl) ?_
               intro w9 dY iy)
  refine bodyPost_ret (v:= .tuple #[ed ai dt sp (.slice so L.length sc),.int .i64 20]) ?_ rfl (M.q.old hw dY um.q Hn.q);rw[results_cell_tmp rfl];simp[asAddr,run_loadVar_row w9 (w.heap.size+2) 63 63 _ (0,0) _ iy Tryz.underlying63 rfl CF.q]
 have he:jF L s=0:=by rw[IG.q,if_neg (by simpa using hB)]
 have Hn:=Qh (show uK L s=(L++[s],0) by rw[qY.q,he];rfl);clear he;clear hB qY IG;obtain⟨z0,z1,z2,z3⟩:=xm M.q.row;obtain⟨wq,dD⟩:∃wq,wq=wc:=⟨_,rfl⟩;subst dD;have hlA:=(Qg M.q.row);have hlO:=(Qg M.q.q)
 go_wp2_with (refine jy rfl rfl 63 _ _ rfl wq.heap.size 0 [.int .u32 ai,.int .i64 dt,.int .i64 sp,.slice so L.length sc] (ed ai dt sp (.slice so L.length sc)) (by simp[Act.eval]) (by simp[Act.eval]) (by rfl) eT 63 (heap_alloc_new _ _) (by simp) (by kernel_rfl) (by simp[Value.oneCell']) #[.int .u32 ai,.int .i64 dt,.int .i64 sp,.slice so L.length sc] (by rfl) ?_
              intro w5 qy DY)
 have dm:Below wq.heap.size wq w5:=((Qb _ _).alloc (Qn _) _).grown qy (by simp) (fun k e=>by injection e with e;omega);have M5:=Qh (M.q.quiet dm);have Pq:wq.heap.size<w5.heap.size:=(Qg DY);clear z0 z1 z2 z3 qy;obtain⟨z0,z1,z2,z3⟩:=xm M5.q.row;obtain⟨c0,c1,c2,c3,c4,c5⟩:=M5.q.aW;refine tK (X:=(Option Addr×Nat)×Nat×(Option Addr×Nat)) (D8 w.heap.size wq.heap.size L.length ((L++[s]).length) sc so s (.slice eo s.aB.length ec)) (jZ w5 2 5 4 5 5 231 222 232 (fun x w=>x.2.1<w.heap.size) (fun x w=>aN iO 76 I w w5.heap.size (.slice x.1.1 L.length x.1.2) L∧(Value.slice x.1.1 L.length x.1.2).ownBlock≠some x.2.1) (fun x w=>w.heap[x.2.1]?=some (.cells (kX s (.slice eo s.aB.length ec)).toArray 76 (0,0))) (fun x w=>aN iO 76 I w w5.heap.size (.slice x.2.2.1 (L++[s]).length x.2.2.2) (L++[s])) (fun _ _=>True) (fun x w=>aN iO 76 I w w5.heap.size (.slice x.2.2.1 (L++[s]).length x.2.2.2) (L++[s])) (fun x=>wq.heap.size) 63 7 209 210 (fun x=> #[.int .u32 ai,.int .i64 dt,.int .i64 sp,.slice x.2.2.1 (L++[s]).length x.2.2.2]) (fun x=> #[.int .u32 ai,.int .i64 dt,.int .i64 sp,.slice x.2.2.1 (L++[s]).length x.2.2.2]) (fun x=> #[.int .u32 ai,.int .i64 dt,.int .i64 sp,.slice x.2.2.1 (L++[s]).length x.2.2.2])) (by kernel_rfl) (by kernel_rfl) ?_ ?_ ?_
 ·exact⟨(default,0,default),jZ.start _ _ (show 0<w5.heap.size by omega)⟩
 ·rintro x s' a' w' i cu bU ha hC hi;obtain⟨aJ,oi,dN,aA⟩:=mem_ready.1 hi;have ev:=A8 FZ ha;have hlt:=tJ aJ;rcases i with _|_|_|_|_|_|_|_|i
  rotate_left 8
  ·simp at dN
  all_goals
   have bY:=dN;simp at dN;subst dN;simp[Region.binds]at aA;try have hl:=qH 6 7 bU (by decide+kernel) aJ
   try have bQ:=hC.off hl
   try have z3:=bI bQ z3
   try have c0:=bI bQ c0
   try have c1:=bI bQ c1
   try have c2:=bI bQ c2
   try have c3:=bI bQ c3
   try have c4:=bI bQ c4
   try have c5:=bI bQ c5
   refine wpOp_step bY (fun K' hK=> ?_);rw[if_pos (by rfl)]
  rotate_left 2
  ·unfold Oper.wp;simp[go_sem,ev,eZ,aA,Oper.upon];refine(mh.q w' (M5.q.at_.ok.below (Qn _) bQ)).mono ?_;rintro r4 w4 ⟨v7,rfl,ho,bA⟩;obtain⟨a7,k7,rfl⟩:=wP ho;have ha:=ha.trans (qF (L:=D8 w.heap.size wq.heap.size L.length ((L++[s]).length) sc so s (.slice eo s.aB.length ec) x) (M:=D8 w.heap.size wq.heap.size L.length ((L++[s]).length) sc so s (.slice eo s.aB.length ec) ((a7,k7),x.2)) [2] rfl (fun j aZ=>by
    rcases j with _|_|_|_|_|_|_|_|j<;>first|rfl|(exact absurd (by decide) aZ)|simp) (List.forall_mem_cons.2 ⟨jl aJ,List.forall_mem_nil _⟩))
   exact hK _ _ ⟨((a7,k7),x.2),jQ FZ ha rfl aJ,hC.step hl (bQ.trans (bA.mono bQ.size)) (by decide) (fun h=>Nat.lt_of_lt_of_le h bA.size) (fun _ _=>⟨ho.lower bQ.size,fun q=>by have h8:w'.heap.size≤x.2.1:=ho.l5 q;have h9:x.2.1<w'.heap.size:=hC.inv hl;omega⟩) (fun h _=>h.elim (fun e=>absurd e (by decide)) (fun⟨_,_,q⟩=>(bA.block _ (Qg q)).trans q)) (fun h _=>h.elim (fun e=>absurd e (by decide)) (fun⟨_,_,q⟩=>q.below bA)) (fun _ _=>trivial) hlt⟩
  rotate_left 1
  ·unfold Oper.wp;simp[go_sem,ev,eZ,aA,Oper.upon,z3,c0,c1,c2,c3,c4,c5];have ha:=ha.trans (qF (L:=D8 w.heap.size wq.heap.size L.length ((L++[s]).length) sc so s (.slice eo s.aB.length ec) x) (M:=D8 w.heap.size wq.heap.size L.length ((L++[s]).length) sc so s (.slice eo s.aB.length ec) (x.1,w'.heap.size,x.2.2)) [4] rfl (fun j aZ=>by
    rcases j with _|_|_|_|_|_|_|_|j<;>first|rfl|(exact absurd (by decide) aZ)|simp) (List.forall_mem_cons.2 ⟨jl aJ,List.forall_mem_nil _⟩))
   exact hK _ _ ⟨(x.1,w'.heap.size,x.2.2),jQ FZ ha rfl aJ,hC.step hl (bQ.trans (((Qb _ _).alloc (Qn _) _).mono bQ.size)) (by decide) (fun _=>by simp) (fun h _=>h.elim (fun e=>absurd e (by decide)) (fun⟨_,_,q⟩=>⟨q.1.alloc _,fun r=>absurd (Dx q.1 r).2 (Nat.lt_irrefl _)⟩)) (fun _ _=>heap_alloc_new _ _) (fun h _=>h.elim (fun e=>absurd e (by decide)) (fun⟨_,_,q⟩=>q.alloc _)) (fun _ _=>trivial) hlt⟩
  ·have h1:=hC.f1 (by first|simpa using aA|simp[aA]) (jl aJ) hl;have h2:=hC.f2 (by first|simpa using aA|simp[aA]) (jl aJ) hl;refine Ri Xpl _ _ rfl (by simp[Act.eval,ev,eZ,aA]) h1.1 (by simp[Act.eval,ev,eZ,aA]) (uE.vJ (T:=iO) (x:=s) (cs:=kX s (.slice eo s.aB.length ec)) ⟨_,rfl,OH.q⟩ (fun j u hu=>(cell_of_row w' _ j _ _ _ h2).trans (by simpa using hu))) (by simp only[List.length_nil,List.length_cons];omega) (by simp only[List.length_nil,List.length_cons];omega) bQ.size ?_;rintro v9 w9 sK dY tL;obtain⟨a9,k9,rfl⟩:=wP sK;have ha:=ha.trans (qF (L:=D8 w.heap.size wq.heap.size L.length ((L++[s]).length) sc so s (.slice eo s.aB.length ec) x) (M:=D8 w.heap.size wq.heap.size L.length ((L++[s]).length) sc so s (.slice eo s.aB.length ec) (x.1,x.2.1,(a9,k9))) [5] rfl (fun j aZ=>by
    rcases j with _|_|_|_|_|_|_|_|j<;>first|rfl|(exact absurd (by decide) aZ)|simp) (List.forall_mem_cons.2 ⟨jl aJ,List.forall_mem_nil _⟩))
   exact hK _ _ ⟨(x.1,x.2.1,(a9,k9)),jQ FZ ha rfl aJ,hC.step hl (bQ.grown dY bQ.size (fun k e=>(Dx h1.1 e).1)) (by decide) (fun h=>Nat.lt_of_lt_of_le h dY.size) (fun _ h=>absurd rfl h) (fun _ h=>absurd rfl h) (fun _ _=>sK) (fun _ _=>trivial) hlt⟩
  rotate_left 1
  ·have aU:w'.heap[wq.heap.size]?=some (.cells _ 63 (0,0)):=(bQ.block _ (Qg DY)).trans DY;refine qU 61 _ _ rfl (wq.heap.size) 3 [.slice x.2.2.1 (L++[s]).length x.2.2.2] (.slice x.2.2.1 (L++[s]).length x.2.2.2) (by simp[Act.eval,ev,eZ,aA]) (by simp[Act.eval,ev,eZ,aA]) (by rfl) _ _ aU (by simp) (by kernel_rfl) (by simp[Value.oneCell']) ?_;exact hK _ _ ⟨x,dF (d:=none) (v:=undef) FZ ha rfl aJ,hC.lH aJ (hC.f3 (by first|simpa using aA|simp[aA]) (kz (by simp[cu])) hl) (kz (by simp[cu])) (kz (by simp[cu])) (by decide) aU (by rfl)⟩
  all_goals
   unfold Oper.wp;first
   |(simp[go_sem,ev,eZ,aA,Oper.upon,z3,c0,c1,c2,c3,c4,c5];exact hK _ _ ⟨x,jQ FZ ha rfl aJ,hC.pure (by decide)⟩)
   |(simp[go_sem,ev,eZ,Oper.upon,z3,c0,c1,c2,c3,c4,c5];exact hK _ _ ⟨x,jQ FZ ha rfl aJ,hC.pure (by decide)⟩)
 ·rintro x s' a' w6 eX ha hC;obtain⟨wb,gQ,gU,fF,aU⟩:=hC.on (eX 7 (by decide));simp only[ite_self]at aU;rw[su _ _ _ _ (fun i hi=>by rw[Nat.zero_add];exact eX i (by simpa using hi))]at ha;subst ha;simp only[df,Act.put,List.setIfInBounds_toArray,List.set_cons_succ,List.set_cons_zero];obtain⟨xv,xb,o9,k9⟩:=x;dsimp only at gU fF aU ⊢;have GY:=gQ.size;have fC:Below wq.heap.size wq w6:=(dm.trans (gQ.mono (by omega))).grown fF (by omega) (fun k e=>by injection e with e;omega);have M6:=Qh (M.q.quiet fC);have HO:=Qh (gU.kept fF (.inr (gU.iK Pq)));have dW:=M6.q.q;obtain⟨y0,y1,y2,y3⟩:=xm aU;clear hC eX gU c0 c1 c2 c3 c4 c5 z0 z1 z2 z3
  go_wp2_with (refine jy rfl rfl 63 _ _ rfl (w.heap.size+2) 0 [.int .u32 ai,.int .i64 dt,.int .i64 sp,.slice o9 (L++[s]).length k9] (ed ai dt sp (.slice o9 (L++[s]).length k9)) (by simp[Act.eval]) (by simp[Act.eval]) (by rfl) eT 63 dW (by simp) (by kernel_rfl) (by simp[Value.oneCell']) #[.int .u32 ai,.int .i64 dt,.int .i64 sp,.slice o9 (L++[s]).length k9] (by rfl) ?_
               intro w9 dY iy)
  refine bodyPost_ret (v:= .tuple #[ed ai dt sp (.slice o9 (L++[s]).length k9),.int .i64 0]) ?_ rfl ?_
  ·rw[results_cell_tmp rfl];simp[asAddr,run_loadVar_row w9 (w.heap.size+2) 63 63 _ (0,0) _ iy Tryz.underlying63 rfl CF.q]
  ·have q8:=M6.q.at_.ok.grown dY (fun g e=>by injection e with e;subst e;exact hw.fresh (by omega));have Je:=M.q.at_.size;obtain⟨J7,sZ,gT,oO,_⟩:=(HO.q.kept dY (.inr (HO.q.iK (by omega)))).freeze q8 (fun b hb=>M5.q.at_.ok.fresh hb);rw[Hn.q];exact⟨_,J7,rfl,M6.q.at_.eD.grown dY M6.q.at_.size (fun k h=>by injection h with h;omega),sZ.mono (by omega),gT,oO⟩
structure tT (J:IH) (w:World) (B:Nat) (d:fP) (ve vk vt vh:Value):Prop where
 ok:Ok J w
 no:J B=none
 rd:vU J d ve vk vt vh
 row:w.heap[B]?=some (.cells #[.int .i64 d.num,.int .i64 d.az,S d.bq,ve,vk,.int .i64 d.bL.aW,S d.bL.str,vt,vh] 43)
theorem tT.lt(h:tT J w B d ve vk vt vh):B<w.heap.size:=(Qg h.row)
theorem tT.below{w':World}(h:tT J w B d ve vk vt vh)(hb:Below w.heap.size w w'):tT J w' B d ve vk vt vh:=
 ⟨h.ok.below (Qn _) hb,h.no,h.rd,(hb.block _ h.lt).trans h.row⟩
theorem Xm6(v:fP)(ve vk vt vh:Value)(w:World):
 Calls Tryz.prog 56 #[kD v ve vk vt vh] w fun e w'=>
  e= .returned (.tuple #[.func (.func 99) #[] #[.pointer (some ⟨w.heap.size,0,none⟩)],.func (.func 100) #[] #[.pointer (some ⟨w.heap.size,0,none⟩)]])∧w'=w.alloc (.cells #[.int .i64 v.num,.int .i64 v.az,S v.bq,ve,vk,.int .i64 v.bL.aW,S v.bL.str,vt,vh] 43):=by
 go_enter Tryz.func56,Tryz.ntmps56
 go_wp2_with fail
 go_ret2;exact⟨rfl,rfl⟩
theorem Xly(J:IH)(d:fP)(ve vk vt vh:Value)(B:Nat)(w:World)(M:tT J w B d ve vk vt vh):
 Calls Tryz.prog 100 #[.pointer (some ⟨B,0,none⟩)] w fun e w'=>e= .returned (kD d ve vk vt vh)∧Below w.heap.size w w':=by
 have vV:=Qh (show(Tryz.prog.info? 43).map (·.size)=some 9 by kernel_rfl);obtain⟨eo,ec,rfl,_,_,_⟩:=id M.rd.aB;obtain⟨ko,kc,rfl,_,_,_⟩:=id M.rd.aM;obtain⟨tt,tc,rfl,_,_,_⟩:=id M.rd.aK;obtain⟨ho,jk,rfl,_,_,_⟩:=id M.rd.aC;have hlt:=M.lt;obtain⟨W1,lZ⟩:∃W1,w.alloc (.cells dJ 43)=W1:=⟨_,rfl⟩;have aU:W1.heap[B]?=some (.cells #[.int .i64 d.num,.int .i64 d.az,S d.bq,.slice eo d.aB.length ec,.slice ko d.bL.aM.length kc,.int .i64 d.bL.aW,S d.bL.str,.slice tt d.aK.length tc,.slice ho d.aC.length jk] 43):=by rw[←lZ];exact(Below.heap_alloc _ _ _ hlt).trans M.row
 have dW:W1.heap[w.heap.size]?=some (.cells dJ 43 (0,0)):=by rw[←lZ];exact heap_alloc_new _ _
 have aG:Below w.heap.size w W1:=by rw[←lZ];exact(Qb _ _).alloc (Qn _) _
 obtain⟨b0,b1,b2,b3,b4,b5,b6,b7,b8⟩:=drB_row (d:=d) aU;clear M;go_enter Tryz.func100,Tryz.ntmps100
 go_wp2_with (refine jy rfl rfl 43 _ _ rfl w.heap.size 0 (fB d (.slice eo d.aB.length ec) (.slice ko d.bL.aM.length kc) (.slice tt d.aK.length tc) (.slice ho d.aC.length jk)) (kD d (.slice eo d.aB.length ec) (.slice ko d.bL.aM.length kc) (.slice tt d.aK.length tc) (.slice ho d.aC.length jk)) (by simp[Act.eval]) (by simp[Act.eval]) (by rfl) dJ 43 dW (by simp) (by kernel_rfl) (by simp[Value.oneCell']) (fB d (.slice eo d.aB.length ec) (.slice ko d.bL.aM.length kc) (.slice tt d.aK.length tc) (.slice ho d.aC.length jk)).toArray (by rfl) ?_
              intro w9 dY iy)
 exact bodyPost_ret (results_cell_row rfl _ _ w.heap.size _ _ (0,0) _ rfl iy Tryz.underlying43 rfl vV.q) rfl ⟨rfl,aG.grown dY aG.size (fun k e=>by injection e with e;omega)⟩
theorem Xlz(J:IH) (hJ:cB J)  (d:fP) (hd:lJ n d) (hn:n≤150) (ve vk vt vh:Value) (c:gy) (hc:c.Wf) (zm:c.au.length≤1000000) (va:Value) (gW:aY lv J va c.au) (B:Nat) (w:World) (M:tT J w B d ve vk vt vh):
 Calls Tryz.prog 99 #[FM c va,.pointer (some ⟨B,0,none⟩)] w fun e w'=>e= .returned (.int .i64 (gp d c).2)∧ ∃AR nM Cw Cx J',Ext w.heap.size J J'∧tT J' w' B (gp d c).1 AR nM Cw Cx∧Below B w w':=by
 have gM:=Qh (fun W hW=>Xtb J hJ d hd hn ve vk vt vh M.rd c hc zm va gW W hW)
 obtain ⟨dn,rn,MS⟩:∃dn rn,gp d c=(dn,rn):=⟨_,_,rfl⟩
 rw [MS] at gM ⊢
 dsimp only at gM ⊢
 have hlt:=M.lt
 obtain ⟨eo,ec,rfl,_,_,_⟩:=id M.rd.aB
 obtain ⟨ko,kc,rfl,_,_,_⟩:=id M.rd.aM
 obtain ⟨tt,tc,rfl,_,_,_⟩:=id M.rd.aK
 obtain ⟨ho,jk,rfl,_,_,_⟩:=id M.rd.aC
 obtain ⟨ao,ac,rfl,_,_,_⟩:=id gW
 obtain ⟨W1,lZ⟩:∃W1,w.alloc (.cells #[.int .i64 c.aj,S c.ag,.slice ao c.au.length ac,S c.av,S c.aF] 25)=W1:=⟨_,rfl⟩
 have aG:Below w.heap.size w W1:=by rw [←lZ];exact (Qb _ _).alloc (Qn _) _
 have h1:=M.below aG
 obtain ⟨b0,b1,b2,b3,b4,b5,b6,b7,b8⟩:=drB_row (d:=d) h1.row
 obtain ⟨g0,g1,g2,g3,g4⟩:=chgB_row (c:=c) (show W1.heap[w.heap.size]? =some (.cells #[.int .i64 c.aj,S c.ag,.slice ao c.au.length ac,S c.av,S c.aF] 25 (0,0)) by rw [←lZ];exact heap_alloc_new _ _)
 have H1:=Qh h1
 clear M h1 gW MS hd hc zm
 go_enter Tryz.func99,Tryz.ntmps99
 go_wp2_with fail
 refine (gM.q W1 H1.q.ok).mono ?_
 rintro e2 w2 ⟨AR,nM,Cw,Cx,J2,rfl,aP,rO,bC,iB⟩
 obtain ⟨II,IJ,rfl,_,_,_⟩:=id iB.aB
 obtain ⟨IK,IL,rfl,_,_,_⟩:=id iB.aM
 obtain ⟨IM,IP,rfl,_,_,_⟩:=id iB.aK
 obtain ⟨Jf,wh,rfl,_,_,_⟩:=id iB.aC
 have xA:=H1.q.lt
 have bW:=aG.size
 have fw:=aP.size
 have LW:J2 B=none:=(rO _ xA).trans H1.q.no
 have Vf:J2 w2.heap.size=none:=bC.fresh (Qn _)
 have kE:=(aP.block _ xA).trans H1.q.row
 have xL:=Qh iB
 have Ub:=Qh kE
 clear b0 b1 b2 b3 b4 b5 b6 b7 b8 g0 g1 g2 g3 g4 gM lZ iB kE
 go_upto_region 2 with (refine jy rfl rfl 43 _ _ rfl w2.heap.size 0 (fB dn (.slice II dn.aB.length IJ) (.slice IK dn.bL.aM.length IL) (.slice IM dn.aK.length IP) (.slice Jf dn.aC.length wh)) (kD dn (.slice II dn.aB.length IJ) (.slice IK dn.bL.aM.length IL) (.slice IM dn.aK.length IP) (.slice Jf dn.aC.length wh)) (by simp [Act.eval]) (by simp [Act.eval]) (by rfl) dJ 43 (heap_alloc_new _ _) (by simp) (by kernel_rfl) (by simp [Value.oneCell']) (fB dn (.slice II dn.aB.length IJ) (.slice IK dn.bL.aM.length IL) (.slice IM dn.aK.length IP) (.slice Jf dn.aC.length wh)).toArray (by rfl) ?_
                        intro w3 kS qK
                        obtain ⟨b0,b1,b2,b3,b4,b5,b6,b7,b8⟩:=drB_row (d:=dn) qK)
 have fu:Below w2.heap.size w2 w3:=((Qb _ _).alloc (Qn _) _).grown kS (by simp) (fun k e=>by injection e with e;omega)
 have lg:=(fu.block B (by omega)).trans Ub.q
 clear kS qK
 go_wp2_with (refine jy rfl rfl 43 _ _ rfl B 0 (fB dn (.slice II dn.aB.length IJ) (.slice IK dn.bL.aM.length IL) (.slice IM dn.aK.length IP) (.slice Jf dn.aC.length wh)) (kD dn (.slice II dn.aB.length IJ) (.slice IK dn.bL.aM.length IL) (.slice IM dn.aK.length IP) (.slice Jf dn.aC.length wh)) (by simp [Act.eval]) (by simp [Act.eval]) (by rfl) _ 43 lg (by simp) (by kernel_rfl) (by simp [Value.oneCell']) (fB dn (.slice II dn.aB.length IJ) (.slice IK dn.bL.aM.length IL) (.slice IM dn.aK.length IP) (.slice Jf dn.aC.length wh)).toArray (by rfl) ?_
              intro w4 hg4 hr4)
 have il:=bC.below (Qn _) fu
 have jG:=Qh (show ∃AR nM Cw Cx J',Ext w.heap.size J J'∧tT J' w4 B dn AR nM Cw Cx∧Below B w w4 from ⟨_,_,_,_,J2,fun b hb=>rO b (by omega),⟨il.grown hg4 (fun g e=>by injection e with e;subst e;exact LW),LW,xL.q,hr4⟩,(((aG.mono (by omega)).trans (aP.mono (by omega))).trans (fu.mono (by omega))).grown hg4 (by have:=fu.size;omega) (fun k e=>by injection e with e;omega)⟩)
 go_ret
 exact ⟨rfl,jG.q⟩
