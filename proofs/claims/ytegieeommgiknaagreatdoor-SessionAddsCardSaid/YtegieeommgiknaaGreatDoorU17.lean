/- Lemmas for the claim's theorem;conditions: as each says. -/
import Derived.Test.YtegieeommgiknaaGreatDoorU16
set_option maxHeartbeats 0
set_option maxRecDepth 100000
set_option linter.all false
namespace Go.Proofs.YtegieeommgiknaaGreatDoor
open Go.RowKit
variable{w:World}{b Bx B:Nat}
def Vr(I:IH)(w:World)(q:ib)(n:Int)(e:Ending)(w':World):Prop:=
 ∃yL I',e= .returned (.tuple #[fD q yL,.int .i64 n])∧Below w.heap.size w w'∧Ext w.heap.size I I'∧Ok I' w'∧aZ si I' yL q.aJ
abbrev Sa(n:Nat)(ao:Option Addr)(le cap:Nat)(bg:Int)(str:af)(x:Nat×(Option Addr×Nat)):List (Option Tmp×Value):=
 [(some 7,.pointer (some ⟨n,0,none⟩)),(some 8,.slice ao le cap),(some 9,.slice x.2.1 le x.2.2),(some 10,.pointer (some ⟨n,1,none⟩)),(some 11,.int .i64 bg),(some 12,.pointer (some ⟨n,2,none⟩)),(some 13,S str),(some 14,.agg #[.slice x.2.1 le x.2.2,.int .i64 bg,S str]),(some 6,.pointer (some ⟨x.1,0,none⟩)),(none,undef)]
theorem zX{n:Nat}{ao:Option Addr}{le cap:Nat}{bg:Int}{str:af}{x:Nat×(Option Addr×Nat)}:bC (Sa n ao le cap bg str x):=by
 unfold bC;simp
theorem Xpl(I:IH)(s:ib)(vc:Value)(hv:aZ si I vc s.aJ)(hn:s.aJ.length≤1000000000)(n:Int)(w:World)(hw:Ok I w):
 Calls Tryz.prog 25 #[fD s vc,.int .i64 n] w (Vr I w (gM s n).1 (gM s n).2):=by
 obtain⟨ao,cap,rfl,_,_,_⟩:=id hv;have qZ:=Qh (fun w hw=>Xpm I _ s.aJ hv w hw (by omega));obtain⟨W2,kU⟩:∃W2,((w.alloc (.cells #[.slice ao s.aJ.length cap,.int .i64 s.bg,S s.str] 43)).alloc (.cells #[.slice none 0 0,.int .i64 0,S []] 43))=W2:=⟨_,rfl⟩;have bn:Ok I W2:=by rw[←kU];exact(hw.alloc _).alloc _
 have gJ:W2.heap.size=w.heap.size+2:=by rw[←kU];simp
 have Db:=Qh (show W2.heap[w.heap.size]?=some (.cells #[.slice ao s.aJ.length cap,.int .i64 s.bg,S s.str] 43 (0,0)) by rw[←kU];exact(Below.heap_alloc _ _ _ (by simp)).trans (heap_alloc_new w _));have wU:=Qh (show W2.heap[w.heap.size+1]?=some (.cells #[.slice none 0 0,.int .i64 0,S []] 43 (0,0)) by
  rw[←kU];have h:=heap_alloc_new (w.alloc (.cells #[.slice ao s.aJ.length cap,.int .i64 s.bg,S s.str] 43)) (.cells #[.slice none 0 0,.int .i64 0,S []] 43);simpa using h)
 have aL:Below w.heap.size w W2:=by rw[←kU];exact((Qb _ _).alloc (Qn _) _).alloc (by simp) _
 have c0:W2.cell? ⟨w.heap.size,0,none⟩=some (.slice ao s.aJ.length cap):=(cell_of_row _ _ 0 _ _ _ Db.O).trans rfl;have c1:W2.cell? ⟨w.heap.size,1,none⟩=some (.int .i64 s.bg):=(cell_of_row _ _ 1 _ _ _ Db.O).trans rfl;have c2:W2.cell? ⟨w.heap.size,2,none⟩=some (S s.str):=(cell_of_row _ _ 2 _ _ _ Db.O).trans rfl;clear hv;go_enter Tryz.func25,Tryz.ntmps25
 go_wp2_with fail
 refine qR (X:=Nat×(Option Addr×Nat)) (Sa w.heap.size ao s.aJ.length cap s.bg s.str) (zh W2 2 8 (fun y w=>aQ si 103 I w W2.heap.size (.slice y.1 s.aJ.length y.2) s.aJ) (fun k w=>w.heap[k]?=some (.cells #[.slice none 0 0,.int .i64 0,S []] 43 (0,0))∧W2.heap.size≤k) (fun x=>x.1) 43 9 211 212 (fun x=> #[.slice x.2.1 s.aJ.length x.2.2,.int .i64 s.bg,S s.str]) (fun x=> #[.slice x.2.1 s.aJ.length x.2.2,.int .i64 s.bg,S s.str]) (fun x=> #[.slice x.2.1 s.aJ.length x.2.2,.int .i64 s.bg,S s.str])) (by kernel_rfl) (by kernel_rfl) ?_ ?_ ?_
 ·exact⟨(0,default),zh.start _ _⟩
 ·rintro x s' a' w' i bS bO ha hC hi;obtain⟨aH,oi,dI,au⟩:=mem_ready.1 hi;rcases i with _|_|_|_|_|_|_|_|_|_|i
  rotate_left 10
  ·simp at dI
  all_goals
   have dH:=dI;simp at dI;subst dI;simp[Region.binds]at au
  ·have e2:a'.tmps[2]?.getD undef= .pointer (some ⟨w.heap.size,0,none⟩):=oL ha (by simp);refine wpOp_step dH (fun K' hK=> ?_);rw[if_pos (by rfl)];unfold Oper.wp;simp[go_sem,e2,Oper.upon];exact hK _ _ ⟨x,dS (d:=some 7) (v:= .pointer (some ⟨w.heap.size,0,none⟩)) zX ha rfl aH,hC.pure (by decide) (by decide) (by decide) (by decide) (by decide)⟩
  ·have e7:a'.tmps[7]?.getD undef= .pointer (some ⟨w.heap.size,0,none⟩):=gI (i:=0) zX ha rfl (by first|simpa using au|simp[au]) (by simp);have hl:s'.getD 9 false=false:=gU bO [1] (by kernel_rfl) (by rfl) aH;have cq:=aV (hC.off hl) c0;refine wpOp_step dH (fun K' hK=> ?_);rw[if_pos (by rfl)];unfold Oper.wp;simp[go_sem,e7,cq,Oper.upon];exact hK _ _ ⟨x,dS (d:=some 8) (v:= .slice ao s.aJ.length cap) zX ha rfl aH,hC.pure (by decide) (by decide) (by decide) (by decide) (by decide)⟩
  ·have e8:a'.tmps[8]?.getD undef= .slice ao s.aJ.length cap:=gI (i:=1) zX ha rfl (by first|simpa using au|simp[au]) (by simp);have hl:s'.getD 9 false=false:=gU bO [2] (by kernel_rfl) (by rfl) aH;have sG:=bn.below (Qn _) (hC.off hl);refine wpOp_step dH (fun K' hK=> ?_);rw[if_pos (by rfl)];unfold Oper.wp;simp[go_sem,e8,Oper.upon];refine(qZ.O _ sG).mono ?_;rintro r4 w4 ⟨v7,rfl,ho,aS⟩;obtain⟨a7,k7,rfl⟩:=wT ho;have ha:=ha.trans (lT (L:=Sa w.heap.size ao s.aJ.length cap s.bg s.str x) (M:=Sa w.heap.size ao s.aJ.length cap s.bg s.str (x.1,(a7,k7))) [2,7] rfl (fun j bq=>by
    rcases j with _|_|_|_|_|_|_|_|_|_|j<;>first|rfl|(exact absurd (by decide) bq)|simp) (List.forall_mem_cons.2 ⟨gG aH,List.forall_mem_cons.2 ⟨gU bO [2] (by kernel_rfl) (by rfl) aH,List.forall_mem_nil _⟩⟩))
   exact hK _ _ ⟨(x.1,(a7,k7)),dS (d:=some 9) (v:= .slice (a7,k7).1 s.aJ.length (a7,k7).2) zX ha rfl aH,hC.call hl aS (ho.lower (hC.off hl).size) (fun k hk=>⟨(aS.block _ (Qg hk.1)).trans hk.1,hk.2⟩) (by decide) (by decide)⟩
  ·have e2:a'.tmps[2]?.getD undef= .pointer (some ⟨w.heap.size,0,none⟩):=oL ha (by simp);refine wpOp_step dH (fun K' hK=> ?_);rw[if_pos (by rfl)];unfold Oper.wp;simp[go_sem,e2,Oper.upon];exact hK _ _ ⟨x,dS (d:=some 10) (v:= .pointer (some ⟨w.heap.size,1,none⟩)) zX ha rfl aH,hC.pure (by decide) (by decide) (by decide) (by decide) (by decide)⟩
  ·have e10:a'.tmps[10]?.getD undef= .pointer (some ⟨w.heap.size,1,none⟩):=gI (i:=3) zX ha rfl (by first|simpa using au|simp[au]) (by simp);have hl:s'.getD 9 false=false:=gU bO [4] (by kernel_rfl) (by rfl) aH;have cq:=aV (hC.off hl) c1;refine wpOp_step dH (fun K' hK=> ?_);rw[if_pos (by rfl)];unfold Oper.wp;simp[go_sem,e10,cq,Oper.upon];exact hK _ _ ⟨x,dS (d:=some 11) (v:= .int .i64 s.bg) zX ha rfl aH,hC.pure (by decide) (by decide) (by decide) (by decide) (by decide)⟩
  ·have e2:a'.tmps[2]?.getD undef= .pointer (some ⟨w.heap.size,0,none⟩):=oL ha (by simp);refine wpOp_step dH (fun K' hK=> ?_);rw[if_pos (by rfl)];unfold Oper.wp;simp[go_sem,e2,Oper.upon];exact hK _ _ ⟨x,dS (d:=some 12) (v:= .pointer (some ⟨w.heap.size,2,none⟩)) zX ha rfl aH,hC.pure (by decide) (by decide) (by decide) (by decide) (by decide)⟩
  ·have e12:a'.tmps[12]?.getD undef= .pointer (some ⟨w.heap.size,2,none⟩):=gI (i:=5) zX ha rfl (by first|simpa using au|simp[au]) (by simp);have hl:s'.getD 9 false=false:=gU bO [6] (by kernel_rfl) (by rfl) aH;have cq:=aV (hC.off hl) c2;refine wpOp_step dH (fun K' hK=> ?_);rw[if_pos (by rfl)];unfold Oper.wp;simp[go_sem,e12,cq,Oper.upon];exact hK _ _ ⟨x,dS (d:=some 13) (v:=S s.str) zX ha rfl aH,hC.pure (by decide) (by decide) (by decide) (by decide) (by decide)⟩
  ·have e9:a'.tmps[9]?.getD undef= .slice x.2.1 s.aJ.length x.2.2:=gI (i:=2) zX ha rfl (by first|simpa using au|simp[au]) (by simp);have e11:a'.tmps[11]?.getD undef= .int .i64 s.bg:=gI (i:=4) zX ha rfl (by first|simpa using au|simp[au]) (by simp);have e13:a'.tmps[13]?.getD undef=S s.str:=gI (i:=6) zX ha rfl (by first|simpa using au|simp[au]) (by simp);refine wpOp_step dH (fun K' hK=> ?_);rw[if_pos (by rfl)];unfold Oper.wp;simp[go_sem,e9,e11,e13,Oper.upon];exact hK _ _ ⟨x,dS (d:=some 14) (v:= .agg #[.slice x.2.1 s.aJ.length x.2.2,.int .i64 s.bg,S s.str]) zX ha rfl aH,hC.pure (by decide) (by decide) (by decide) (by decide) (by decide)⟩
  ·have hl:s'.getD 9 false=false:=gU bO [8] (by kernel_rfl) (by rfl) aH;refine wpOp_step dH (fun K' hK=> ?_);rw[if_pos (by rfl)];unfold Oper.wp;simp[go_sem,Oper.upon];have ha:=ha.trans (lT (L:=Sa w.heap.size ao s.aJ.length cap s.bg s.str x) (M:=Sa w.heap.size ao s.aJ.length cap s.bg s.str (w'.heap.size,x.2)) [8] rfl (fun j bq=>by
    rcases j with _|_|_|_|_|_|_|_|_|_|j<;>first|rfl|(exact absurd (by decide) bq)|simp) (List.forall_mem_cons.2 ⟨gG aH,List.forall_mem_nil _⟩))
   exact hK _ _ ⟨(w'.heap.size,x.2),dS (d:=some 6) (v:= .pointer (some ⟨w'.heap.size,0,none⟩)) zX ha rfl aH,hC.made hl ((Qb _ _).alloc (Qn _) _) ⟨heap_alloc_new _ _,(hC.off hl).size⟩ (fun y hy=>hy.alloc _) (by decide) (by decide)⟩
  ·have e14:a'.tmps[14]?.getD undef= .agg #[.slice x.2.1 s.aJ.length x.2.2,.int .i64 s.bg,S s.str]:=gI (i:=7) zX ha rfl (by first|simpa using au|simp[au]) (by simp);have e6:a'.tmps[6]?.getD undef= .pointer (some ⟨x.1,0,none⟩):=gI (i:=8) zX ha rfl (by first|simpa using au|simp[au]) (by simp);refine wpOp_step dH (fun K' hK=> ?_);rw[if_pos (by rfl)];have vQ:s'.getD 2 false=true:=by first|simpa using au|simp[au]
   have N7:s'.getD 8 false=true:=by first|simpa using au|simp[au]
   have Ms:s'.getD 9 false=false:=gG aH;have aK:w'.heap[x.1]?=some (.cells _ 43 (0,0)):=(hC.fa N7 Ms).1;refine oK 43 _ _ rfl (x.1) 0 [.slice x.2.1 s.aJ.length x.2.2,.int .i64 s.bg,S s.str] (.agg #[.slice x.2.1 s.aJ.length x.2.2,.int .i64 s.bg,S s.str]) (by simp[Act.eval,e14,e6]) (by simp[Act.eval,e14,e6]) (by rfl) _ _ aK (by simp) (by kernel_rfl) (by simp[Value.oneCell']) ?_;exact hK _ _ ⟨x,dS (d:=none) (v:=undef) zX ha rfl aH,hC.jP aH (hC.fc vQ Ms) (hC.fa N7 Ms) (gX (by simp[bS])) (gX (by simp[bS])) (by decide) aK (by rfl)⟩
 ·rintro x s' a' w8 eu ha hC;obtain⟨wb,eG,yN,yM,dR,aK⟩:=hC.on (eu 9 (by decide));simp only[ite_self]at aK;rw[qz _ _ _ _ (fun i hi=>by rw[Nat.zero_add];exact eu i (by simpa using hi))]at ha;subst ha;simp only[dE,Act.put];obtain⟨m,mg,k7⟩:=x;dsimp only at yN yM dR aK ⊢;have bq:=BR yN yM.1 (by decide);have xL:=yN.kept dR (.inr bq);have hm:w.heap.size+2≤m:=by have:=yM.2;omega
  have lG:Ok I w8:=(bn.below (Qn _) eG).grown dR (fun g e=>by cases e;exact hw.fresh (by omega));have nz:Below w.heap.size w w8:=(aL.trans (eG.mono aL.size)).grown dR (by have:=eG.size;omega) (fun k e=>by cases e;omega);obtain⟨J,x9,q8,Bh,NG⟩:=xL.freeze lG (fun b hb=>hw.fresh (by omega));have HJ:=Qh (And.intro (x9.mono (show w.heap.size≤W2.heap.size by omega)) (And.intro q8 Bh));have hz:∀b,b<w.heap.size+2→w8.heap[b]?=W2.heap[b]? :=fun b hb=>(dR.block _ (by have:=eG.size;omega) (fun e=>by cases e;omega)).trans (eG.block _ (by omega));have wV:=Qh ((hz (w.heap.size+1) (by omega)).trans wU.O);have Jc:J m=none:=by rw[NG m bq];exact hw.fresh (by omega)
  have a1:w8.cell? ⟨w.heap.size,1,none⟩=some (.int .i64 s.bg):=(cell_of_row _ _ 1 _ _ _ ((hz w.heap.size (by omega)).trans Db.O)).trans rfl;have d0:w8.cell? ⟨m,0,none⟩=some (.slice mg s.aJ.length k7):=(cell_of_row _ _ 0 _ _ _ aK).trans rfl;have d1:w8.cell? ⟨m,1,none⟩=some (.int .i64 s.bg):=(cell_of_row _ _ 1 _ _ _ aK).trans rfl;have d2:w8.cell? ⟨m,2,none⟩=some (S s.str):=(cell_of_row _ _ 2 _ _ _ aK).trans rfl;have f0:=frozen_of_row w8 _ 0 _ _ aK;have f1:=frozen_of_row w8 _ 1 _ _ aK;have f2:=frozen_of_row w8 _ 2 _ _ aK;have g0:=frozen_of_row w8 _ 0 _ _ wV.O;have g1:=frozen_of_row w8 _ 1 _ _ wV.O;have g2:=frozen_of_row w8 _ 2 _ _ wV.O;have k0:w8.cell? ⟨w.heap.size+1,0,none⟩=some (.slice none 0 0):=(cell_of_row _ _ 0 _ _ _ wV.O).trans rfl;have k1:w8.cell? ⟨w.heap.size+1,1,none⟩=some (.int .i64 0):=(cell_of_row _ _ 1 _ _ _ wV.O).trans rfl;have k2:w8.cell? ⟨w.heap.size+1,2,none⟩=some (S []):=(cell_of_row _ _ 2 _ _ _ wV.O).trans rfl;have hne1:m≠w.heap.size+1:=by omega
  have hne2:w.heap.size+1≠m:=by omega
  have PM:=Qh aK;have wQ:=Qh (show(Tryz.prog.info? 43).map (·.size)=some 3 by kernel_rfl);have kL:I (w.heap.size+1)=none:=hw.fresh (by omega);have yl:J (w.heap.size+1)=none:=by rw[x9 _ (by omega)];exact kL
  clear hz yN yM dR aK bq xL eG hC eu x9 q8 Bh NG c0 c1 c2 Db wU qZ lG;by_cases h1:n<1
  ·have e1:decide (n<1)=true:=Qt h1;have Hn:=Qh (show gM s n=(s,2) by rw[gM,if_pos (.inl h1)]);clear h1;go_wp2;refine bodyPost_ret (v:= .tuple #[fD s (.slice mg s.aJ.length k7),.int .i64 2]) ?_ rfl ?_
   ·rw[results_cell_tmp rfl];simp[asAddr,run_loadVar_row _ (w.heap.size+1) 43 43 #[.slice mg s.aJ.length k7,.int .i64 s.bg,S s.str] (0,0) _ (LF wV.O) Tryz.underlying43 rfl wQ.O]
   ·rw[Hn.O];exact⟨_,J,rfl,((nz.setCell (p:=⟨w.heap.size+1,0,none⟩) (Nat.le_succ _) _).setCell (p:=⟨w.heap.size+1,1,none⟩) (Nat.le_succ _) _).setCell (p:=⟨w.heap.size+1,2,none⟩) (Nat.le_succ _) _,HJ.O.1,((HJ.O.2.1.setCell yl _).setCell yl _).setCell yl _,HJ.O.2.2⟩
  have e1:decide (n<1)=false:=Qf h1;by_cases h2:255<n
  ·have e2:decide (255<n)=true:=Qt h2;have Hn:=Qh (show gM s n=(s,2) by rw[gM,if_pos (.inr h2)]);clear h1 h2;go_wp2;refine bodyPost_ret (v:= .tuple #[fD s (.slice mg s.aJ.length k7),.int .i64 2]) ?_ rfl ?_
   ·rw[results_cell_tmp rfl];simp[asAddr,run_loadVar_row _ (w.heap.size+1) 43 43 #[.slice mg s.aJ.length k7,.int .i64 s.bg,S s.str] (0,0) _ (LF wV.O) Tryz.underlying43 rfl wQ.O]
   ·rw[Hn.O];exact⟨_,J,rfl,((nz.setCell (p:=⟨w.heap.size+1,0,none⟩) (Nat.le_succ _) _).setCell (p:=⟨w.heap.size+1,1,none⟩) (Nat.le_succ _) _).setCell (p:=⟨w.heap.size+1,2,none⟩) (Nat.le_succ _) _,HJ.O.1,((HJ.O.2.1.setCell yl _).setCell yl _).setCell yl _,HJ.O.2.2⟩
  have e2:decide (255<n)=false:=Qf h2;by_cases h3:n≤s.bg
  ·have e3:decide (n≤s.bg)=true:=Qt h3;have Hn:=Qh (show gM s n=(s,14) by rw[gM,if_neg (by omega),if_pos h3]);clear h1 h2 h3;go_wp2;refine bodyPost_ret (v:= .tuple #[fD s (.slice mg s.aJ.length k7),.int .i64 14]) ?_ rfl ?_
   ·rw[results_cell_tmp rfl];simp[asAddr,run_loadVar_row _ (w.heap.size+1) 43 43 #[.slice mg s.aJ.length k7,.int .i64 s.bg,S s.str] (0,0) _ (LF wV.O) Tryz.underlying43 rfl wQ.O]
   ·rw[Hn.O];exact⟨_,J,rfl,((nz.setCell (p:=⟨w.heap.size+1,0,none⟩) (Nat.le_succ _) _).setCell (p:=⟨w.heap.size+1,1,none⟩) (Nat.le_succ _) _).setCell (p:=⟨w.heap.size+1,2,none⟩) (Nat.le_succ _) _,HJ.O.1,((HJ.O.2.1.setCell yl _).setCell yl _).setCell yl _,HJ.O.2.2⟩
  have e3:decide (n≤s.bg)=false:=Qf h3;have Hn:=Qh (show gM s n=(⟨s.aJ,n,[]⟩,0) by rw[gM,if_neg (by omega),if_neg h3]);clear h1 h2 h3;have ada:=Qh (show((w8.setCell ⟨m,1,none⟩ (.int .i64 n)).setCell ⟨m,2,none⟩ (.string ⟨#[]⟩)).heap[w.heap.size+1]?=some (.cells #[.slice none 0 0,.int .i64 0,S []] 43 (0,0))from(heap_setCell_other _ ⟨m,2,none⟩ _ _ (by show w.heap.size+1≠m;omega)).trans ((heap_setCell_other _ ⟨m,1,none⟩ _ _ (by show w.heap.size+1≠m;omega)).trans wV.O));go_wp2;refine bodyPost_ret (v:= .tuple #[fD ⟨s.aJ,n,[]⟩ (.slice mg s.aJ.length k7),.int .i64 0]) ?_ rfl ?_
  ·rw[results_cell_tmp rfl];simp[asAddr,run_loadVar_row _ (w.heap.size+1) 43 43 #[.slice mg s.aJ.length k7,.int .i64 n,S []] (0,0) _ (LF ada.O) Tryz.underlying43 rfl wQ.O]
  ·rw[Hn.O];exact⟨_,J,rfl,((((nz.setCell (p:=⟨m,1,none⟩) (by show w.heap.size≤m;omega) _).setCell (p:=⟨m,2,none⟩) (by show w.heap.size≤m;omega) _).setCell (p:=⟨w.heap.size+1,0,none⟩) (Nat.le_succ _) _).setCell (p:=⟨w.heap.size+1,1,none⟩) (Nat.le_succ _) _).setCell (p:=⟨w.heap.size+1,2,none⟩) (Nat.le_succ _) _,HJ.O.1,((((HJ.O.2.1.setCell Jc _).setCell Jc _).setCell yl _).setCell yl _).setCell yl _,HJ.O.2.2⟩
open Go.RowKit Go.Shelf
attribute [local go_sem] Oper.semAt_some
theorem Xu9(s:af)(hs:s.length≤4294967280)(w:World):
 Calls Tryz.prog 189 #[S s] w fun e w'=>e= .returned (.int .i64 (jb s:Nat))∧Below w.heap.size w w':=by
 obtain⟨N,hN⟩:∃N,jb s=N:=⟨_,rfl⟩;have HN:=Qh (show iH (s.drop 0) 0 0=N from hN);rw[hN];clear hN;go_enter Tryz.func189,Tryz.ntmps189
 go_wp2_with fail
 go_loopw [3,8] (fun s3 s8 wr=> ∃k h:Nat,k≤s.length∧h<65536∧s8= .int .i64 k∧s3= .int .i64 h∧iH (s.drop k) k h=N∧Below w.heap.size w wr) (fun _ i _=>s.length-(intOf i).toNat)
 case atStart=>exact⟨0,0,Nat.zero_le _,by decide,rfl,rfl,HN.O,Qb _ _⟩
 case round=>
  clear HN;obtain⟨k,h,hk,hh,rfl,rfl,hr,hb⟩:=hrel;have Hr:=Qh hr;clear hr;by_cases hlt:k<s.length
  ·have hx:=iG (P:=Tryz.prog) Tryz.underlying9 s (k:Int) k rfl hlt;have bI:=Qh (Xir hlt Hr.O);have hch:(s.getD k 0).toNat<256:=(s.getD k 0).toNat_lt;have bO:=Xvu h (s.getD k 0);have Mq:=Xtm h (s.getD k 0);generalize hH:I7 h (s.getD k 0)=H at bI bO Mq;generalize(s.getD k 0).toNat=c at hx hch Mq;have m1:IntKind.i64.wrap (2*(h:Int))=2*(h:Int):=IntWalk.i64_in _ (by omega);have m2:IntKind.i64.wrap ((c:Int)+1)=(c:Int)+1:=IntWalk.i64_in _ (by omega);have m3:IntKind.i64.wrap (40503*((c:Int)+1))=40503*((c:Int)+1):=IntWalk.i64_in _ (by omega);have m4:IntKind.i64.wrap (2*(h:Int)+40503*((c:Int)+1))=2*(h:Int)+40503*((c:Int)+1):=IntWalk.i64_in _ (by omega);have m5:IntKind.i64.wrap ((k:Int)+1)=(k:Int)+1:=IntWalk.i64_in _ (by omega);clear hH Hr;by_cases Ja:k+1=96
   ·have Hn:=Qh (show k+1=N by have:=bI.O;rwa[if_pos (.inl Ja)]at this);have d1:((k:Int)+1==96)=true:=by simpa using(show(k:Int)+1=96 by omega)
    clear bI Ja;go_wp2;go_ret;exact⟨dZ (by rw[←Hn.O];go_num),hb⟩
   have d1:((k:Int)+1==96)=false:=by simpa using(show(k:Int)+1≠96 by omega)
   by_cases JC:16≤k+1
   ·have d2:decide ((16:Int)≤(k:Int)+1)=true:=Qt (by omega);by_cases Zz:H<2048
    ·have Hn:=Qh (show k+1=N by have:=bI.O;rwa[if_pos (.inr ⟨JC,Zz⟩)]at this);have d3:decide ((H:Int)<2048)=true:=Qt (by omega);clear bI Ja JC;go_wp2;go_ret;exact⟨dZ (by rw[←Hn.O];go_num),hb⟩
    ·have Hn:=Qh (show iH (s.drop (k+1)) (k+1) H=N by have:=bI.O;rwa[if_neg (by omega)]at this);have d3:decide ((H:Int)<2048)=false:=Qf (by omega);clear bI Ja JC;go_wp2;go_roundw;case rel=>exact⟨k+1,H,by omega,bO,by go_num,by rw[Mq],Hn.O,hb⟩
     case measure=>simp[intOf];omega
   ·have d2:decide ((16:Int)≤(k:Int)+1)=false:=Qf (by omega);have Hn:=Qh (show iH (s.drop (k+1)) (k+1) H=N by have:=bI.O;rwa[if_neg (by omega)]at this);clear bI Ja JC;go_wp2;go_roundw;case rel=>exact⟨k+1,H,by omega,bO,by go_num,by rw[Mq],Hn.O,hb⟩
    case measure=>simp[intOf];omega
  ·have Hn:=Qh (show s.length=N by have:=Hr.O;rw[List.drop_of_length_le (by omega),iH]at this;omega);go_wp2;go_ret;exact⟨dZ (by rw[←Hn.O]),hb⟩
def Dx(b:Nat)(w:World):Nat:=match w.cell? ⟨b,0,none⟩with|some (.string s)=>s.size|_=>0
theorem Xm3{s:af}{t:TypeId}(h:w.heap[b]?=some (.cells #[S s] t (0,0))):Dx b w=s.length:=by
 unfold Dx;rw[cell_of_row w b 0 _ _ _ h];simp[ByteArray.size]
theorem Xio{w':World}(hb:Below w.heap.size w w'):w.grownBy w' none:=⟨hb.os,hb.tape,hb.output,hb.size,fun k hk _=>hb.block k hk⟩
theorem Xq1(n:Nat)(hn:1≤n)(s:af)(hs:s.length≤4294967280)(Bx:Nat)(w:World)(hB:w.heap[Bx]?=some (.cells #[S s] 9 (0,0))):
 NF Fence.wide n Tryz.prog 188 #[.pointer (some ⟨Bx,0,none⟩)] (fun x:af=> #[S x]) Bx (fun W W'=>W'.heap[Bx]?=W.heap[Bx]?) (fun xs=>xs=dw s) s.length w:=by
 intro l J W hW hJ hJw hY h0;have W9:W.heap[Bx]?=some (.cells #[S s] 9 (0,0)):=(hW.block _ (Qg hB)).trans hB;have HJ:=Qh hJ;have HJw:=Qh hJw;have HY:=Qh hY;have H0:=Qh h0;have HB:=Qh W9;clear hJ hJw hY h0 hW hB W9;have bO:=YK s;obtain⟨N,hN⟩:∃N,dw s=N:=⟨_,rfl⟩;have HN:=Qh (show []++dw s=N from hN);rw[hN]at bO ⊢;clear hN;refine callsIn_of_wp Tryz.func188 rfl trivial ?_ rfl;simp only[Tryz.ntmps188,List.size_toArray,List.length_cons,List.length_nil,Nat.reduceAdd,Nat.reduceSub,Array.replicate_succ,Array.replicate_zero,List.push_toArray,List.append_toArray,List.nil_append,List.cons_append];gi_wp2
 gi_loopw [3] (fun _ wr=> ∃(r:af) (pre:List af),wr.heap[Bx]?=some (.cells #[S r] 9 (0,0))∧r.length≤s.length∧pre++dw r=N∧J pre wr) (fun _ wr=>Dx Bx wr)
 case atStart=>exact⟨s,[],HB.O,Qn _,HN.O,H0.O⟩
 case round=>
  clear HB HN H0;obtain⟨r,pre,mR,Ku,wS,hj⟩:=hrel;have xQ:=Qh wS;have Hj:=Qh hj;have Dy:=Qh mR;have qW:=Xm3 mR;have c0:wr.cell? ⟨Bx,0,none⟩=some (S r):=(cell_of_row wr _ 0 _ _ _ mR).trans rfl;clear wS hj mR;by_cases h0:r=[]
  ·have Hn:=Qh (show pre=N by have:=xQ.O;rw[h0,Xjw,List.append_nil]at this;exact this);obtain⟨p1,p2,p3,p4⟩:=EA h0;clear h0;gi_wp2
   go_end0
   exact⟨⟨_,rfl⟩,pre,Hn.O,Hj.O⟩
  ·obtain⟨p1,p2,p3,p4⟩:=Dh h0;have xX:=List.length_pos_iff.2 h0;have hp:=Vf h0;have hf:=Xiq r;have Hf:=Qh (Xu9 r (by omega) wr);have Hn:=Qh (show(pre++[r.take (jb r)])++dw (r.drop (jb r))=N by rw[←xQ.O,Xfj h0];simp);have qp:pre.length<s.length:=by
    have:=congrArg List.length Hn.O;simp only[List.length_append,List.length_cons,List.length_nil]at this;omega
   generalize jb r=m at Hf Hn hp hf;have ul:(m:Int)≤(r.length:Int):=by omega
   have afr:(0:Int)≤(m:Int):=by omega
   clear h0 xQ;gi_wp2_with fail
   refine⟨trivial,(callsIn_wide.2 Hf.O).mono ?_⟩;rintro e1 w1 ⟨rfl,aG⟩;have Re:=HJ.O _ _ _ none Hj.O (Xio aG) (fun r h=>by cases h);obtain⟨fn,tmps,assign,body,hy,hR⟩:=HY.O pre (r.take m) w1 Re qp;have c1:=aV aG c0;have EN:=Qh ((aG.block _ (Qg Dy.O)).trans Dy.O);clear Hf aG Re Hj Dy c0;gi_wp2
   refine hR.mono ?_;rintro e W3 ⟨rfl,F5,sJ⟩;have HJ3:=Qh F5;have EO:=sJ.trans EN.O;have EP:=Qh EO;have c3:W3.cell? ⟨Bx,0,none⟩=some (S r):=(cell_of_row W3 _ 0 _ _ _ EO).trans rfl;have f3:W3.frozen? ⟨Bx,0,none⟩=false:=frozen_of_row W3 _ 0 _ _ EO;clear F5 sJ EO hy c1;have htd:List.take (r.length-m) (List.drop m r)=r.drop m:=List.take_of_length_le (by rw[List.length_drop];omega);gi_wp2
   go_roundw;case rel=>exact⟨r.drop m,_,heap_setCell_same W3 Bx 0 _ _ (S (r.drop m)) EP.O,by simp;omega,Hn.O,HJw.O _ _ _ HJ3.O⟩
   case measure=>rw[Xm3 (heap_setCell_same W3 Bx 0 _ _ (S (r.drop m)) EP.O),qW,List.length_drop];omega
theorem Xtl(s:af)(w:World):Calls Tryz.prog 148 #[S s] w fun e w'=>e= .returned (.func (.func 188) #[] #[.pointer (some ⟨w.heap.size,0,none⟩)])∧w'=w.alloc (.cells #[S s] 9):=by
 go_enter Tryz.func148,Tryz.ntmps148
 go_wp2;go_ret;exact⟨rfl,rfl⟩
def Jd(Bx b:Nat)(w:World)(pre:List af)(W:World):Prop:=
 ∃v,W.heap[b]?=some (.cells #[v] 90 (0,0))∧aQ iE 9 (fun _=>none) W (b+1) v pre∧Below Bx w W
theorem Xvk(hw:Bx≤w.heap.size)(hB:Bx≤B):OwnFrom B (Jd Bx b w):=by
 intro pre W W' row ⟨v,h1,h2,h3⟩ hg hr;exact⟨v,Xox h1 hg fun r e=>(hr r e).2,h2.turn hg fun r e=>(hr r e).2,Below.turn h3 hw hB hg hr⟩
theorem Xvj(bq:Bx<b)(pre:List af)(W:World)(u:Value)(h:Jd Bx b w pre W):Jd Bx b w pre (W.setCell ⟨Bx,0,none⟩ u):=by
 obtain⟨v,h1,h2,h3⟩:=h;refine⟨v,(heap_setCell_other W ⟨Bx,0,none⟩ b u (by show b≠Bx;omega)).trans h1,h2.stored (fun e=> ?_) 0 u,h3.setCell (p:=⟨Bx,0,none⟩) (Qn _) u⟩;have:=(wy h2 e).1;omega
theorem Xjc(n:Nat)(hn:2≤n)(s:af)(hs:s.length≤4294967280)(Bx:Nat)(w:World)(hB:w.heap[Bx]?=some (.cells #[S s] 9 (0,0))):
 CallsIn Fence.wide n Tryz.prog 187 #[.slice none 0 0,.func (.func 188) #[] #[.pointer (some ⟨Bx,0,none⟩)]] w fun e w'=> ∃v,e= .returned v∧aQ iE 9 (fun _=>none) w' w.heap.size v (dw s)∧Below Bx w w':=by
 have hlB:Bx<w.heap.size:=(Qg hB);have bO:=YK s;refine callsIn_of_wp_marks Tryz.func187 rfl trivial ?_ rfl;simp only[Tryz.ntmps187,List.size_toArray,List.length_cons,List.length_nil,Nat.reduceAdd,Nat.reduceSub,Array.replicate_succ,Array.replicate_zero,List.push_toArray,List.append_toArray,List.nil_append,List.cons_append];gi_wp2
 have Eg:(w.alloc (.cells #[.slice none 0 0] 90)).heap[Bx]?=some (.cells #[S s] 9 (0,0)):=(Below.heap_alloc _ _ _ hlB).trans hB;have ZA:Jd Bx w.heap.size w [] (w.alloc (.cells #[.slice none 0 0] 90)):=⟨_,heap_alloc_new w _,aQ.nil _ _ _ _ _,(Qb _ _).alloc (by omega) _⟩;have bS:(w.alloc (.cells #[.slice none 0 0] 90)).heap.size=w.heap.size+1:=by simp
 obtain⟨W0,ZC⟩:∃W0,w.alloc (.cells #[.slice none 0 0] 90)=W0:=⟨_,rfl⟩;rw[ZC]at Eg ZA bS ⊢;clear ZC
 refine Xrb rfl (by omega) (gf:=188) (lb:=#[.pointer (some ⟨Bx,0,none⟩)]) rfl trivial (enters_of Tryz.func188 (by kernel_rfl) rfl)
  (Xq1 (n-1) (by omega) s hs Bx W0 Eg) (by omega) (fun h k=>k.trans h) (fun W l o' hl=>World.putObj_heap_other (by omega)) (fun _=>rfl)
  (Jd Bx w.heap.size w) (Xvk (by omega) (by omega)) (fun pre W u h=>Xvj hlB pre W u h) ZA
  (fun x=> {tmps:=#[.slice none 0 0,.func (.func 188) #[] #[.pointer (some ⟨Bx,0,none⟩)],.pointer (some ⟨w.heap.size,0,none⟩),undef,.slice none 0 0,S x,.func (.func 188) #[] #[.pointer (some ⟨Bx,0,none⟩)],S x,undef,undef,undef,undef,undef],defers:=[]})
  ?assign ?body ?done
 case assign=>
  intro l x W K hK;gi_wp2
  exact hK
 case body=>
  intro l pre x W ⟨v,h1,h2,h3⟩ qp;have c0:W.cell? ⟨w.heap.size,0,none⟩=some v:=(cell_of_row W _ 0 _ _ _ h1).trans rfl;have f0:=frozen_of_row W _ 0 _ _ h1;have bq:v.ownBlock≠some w.heap.size:=fun e=>by have:=(wy h2 e).1;omega
  have hlt:w.heap.size<W.heap.size:=(Qg h1);obtain⟨a0,n0,k0,rfl⟩:=Jb h2;have H1:=Qh h1;have H2:=Qh h2;have H3:=Qh h3;clear h1 h2 h3;gi_wp2_with (gi_at_builtin;go_loud (refine Vn (w0:=W) Oq rfl _ _ rfl (w.heap.size+1) _ pre rfl H2.O x [S x] _ (by first|rfl|simp[Act.eval]) rfl (by omega) (by omega) (by omega) ?_))
  intro v7 w7 Ct iy YS;obtain⟨g7,n7,k7,rfl⟩:=Xkh Ct;have co7:=fC iy bq c0;have fo7:=JZ iy bq c0 f0;gi_wp2
  have e1:w7.heap[w.heap.size]?=some (.cells #[.slice a0 n0 k0] 90 (0,0)):=(iy.block _ hlt (fun e=>bq e.symm)).trans H1.O;refine⟨(KeepsFrom.own H2.O iy).trans (KeepsFrom.BQ w7 ⟨w.heap.size,0,none⟩ _),?_,_,heap_setCell_same w7 w.heap.size 0 _ _ _ e1,Ct.stored (fun e=>by have:=(wy Ct e).1;omega) 0 _,(H3.O.grown iy (by omega) (fun k hk=>by have:=(wy H2.O hk).1;omega)).setCell (p:=⟨w.heap.size,0,none⟩) (by show Bx≤w.heap.size;omega) _⟩;exact(heap_setCell_other w7 ⟨w.heap.size,0,none⟩ Bx _ (by show Bx≠w.heap.size;omega)).trans (iy.block _ (by omega) (fun e=>by have:=(wy H2.O e.symm).1;omega))
 case done=>
  rintro D xs W hD rfl ⟨v,h1,h2,h3⟩ hK;have c0:W.cell? ⟨w.heap.size,0,none⟩=some v:=(cell_of_row W _ 0 _ _ _ h1).trans rfl;gi_wp2
  refine⟨by simp,.inl ⟨_,_,rfl,run_takeDeferred hK,?_⟩⟩;exact⟨_,results_tmp rfl _ _ _,v,rfl,(h2.turn (grownBy_putObj' _ D _) (fun r e=>by cases e;exact⟨_,hK,rfl⟩)).lower (by omega),Below.turn h3 (by omega) (Qn _) (grownBy_putObj' _ D _) (fun r e=>by cases e;exact⟨by omega,_,hK,rfl⟩)⟩
theorem Xl7(n:Nat)(hn:3≤n)(s:af)(hs:s.length≤4294967280)(Bx:Nat)(w:World)(hB:w.heap[Bx]?=some (.cells #[S s] 9 (0,0))):
 CallsIn Fence.wide n Tryz.prog 147 #[.func (.func 188) #[] #[.pointer (some ⟨Bx,0,none⟩)]] w fun e w'=> ∃v,e= .returned v∧aQ iE 9 (fun _=>none) w' w.heap.size v (dw s)∧Below Bx w w':=by
 have Ha:=Qh (Xjc (n-1) (by omega) s hs Bx w hB);refine callsIn_of_wp Tryz.func147 rfl trivial ?_ rfl;simp only[Tryz.ntmps147,List.size_toArray,List.length_cons,List.length_nil,Nat.reduceAdd,Nat.reduceSub,Array.replicate_succ,Array.replicate_zero,List.push_toArray,List.append_toArray,List.nil_append,List.cons_append];gi_wp2_with fail
 refine⟨trivial,fun _=>by omega,Ha.O.mono ?_⟩;rintro e w1 ⟨v,rfl,h1,h2⟩;gi_wp2
 go_ret;exact⟨v,rfl,h1,h2⟩
theorem Xu8(I:IH)(s:af)(hs:s.length≤4294967280)(w:World):
 Calls Tryz.prog 100 #[S s] w fun e w'=> ∃v',e= .returned v'∧aQ iE 9 I w' w.heap.size v' (dw s)∧Below w.heap.size w w':=by
 have Hc:=Qh (fun w=>Xtl s w);have Hs:=Qh (callsIn_wide.1 (Xl7 3 (Qn _) s hs w.heap.size (w.alloc (.cells #[S s] 9)) (heap_alloc_new w _)));go_enter Tryz.func100,Tryz.ntmps100
 go_wp2_with fail
 refine(Hc.O _).mono ?_;rintro e w1 ⟨rfl,rfl⟩;go_wp2_with fail
 refine Hs.O.mono ?_;rintro e w2 ⟨v,rfl,⟨xs,h1,h2⟩,h3⟩;go_wp2;go_ret;exact⟨v,rfl,aQ.lower ⟨xs,h1,h2.1,fun i hi=>by obtain⟨cs,q1,q2⟩:=h2.2 i hi;exact⟨cs,q1,q2⟩⟩ (by simp),((Qb w.heap.size w).alloc (Qn _) _).trans h3⟩
attribute [local go_sem] Oper.semAt_some
theorem Xt7(s:af)(hs:s.length≤4294967280)(w:World):
 Calls Tryz.prog 186 #[S s] w fun e w'=>e= .returned (.int .i64 (dY s:Nat))∧Below w.heap.size w w':=by
 obtain⟨N,hN⟩:∃N,dY s=N:=⟨_,rfl⟩;have HN:=Qh (show 0+dY (s.drop 0)=N by rw[Nat.zero_add];exact hN);rw[hN];clear hN;go_enter Tryz.func186,Tryz.ntmps186
 go_wp2_with fail
 go_loopw [3] (fun s3 wr=> ∃n:Nat,n≤s.length∧s3= .int .i64 n∧n+dY (s.drop n)=N∧Below w.heap.size w wr) (fun n _=>s.length-(intOf n).toNat)
 case atStart=>exact⟨0,by omega,rfl,HN.O,Qb _ _⟩
 case round=>
  clear HN;obtain⟨n,hn,rfl,hr,hb⟩:=hrel;have Hr:=Qh hr;clear hr;by_cases hlt:n<s.length
  ·have hx:=iG (P:=Tryz.prog) Tryz.underlying9 s (n:Int) n rfl hlt;have d1:decide ((n:Int)<(s.length:Int))=true:=Qt (by omega);have jO:n+(if s.getD n 0=0 then dY (s.drop (n+1))+1 else 0)=N:=by
    rw[←Hr.O,List.drop_eq_getElem_cons hlt,dY];simp[List.getD,hlt]
   have he:=XZ (s.getD n 0) 0 (by decide);have Rc:((((s.getD n 0).toNat:Nat):Int)==0)=(s.getD n 0==0):=he;have bI:=Qh jO;clear jO he;generalize s.getD n 0=ch at hx bI Rc;cases hc:(ch==0)
   ·rw[hc]at Rc;have Hn:=Qh (show n=N by have:=bI.O;rwa[if_neg (by simpa using hc),Nat.add_zero]at this);clear hc bI Hr;go_wp2;go_ret;exact⟨dZ (by rw[←Hn.O]),hb⟩
   ·rw[hc]at Rc;have Hn:=Qh (show n+1+dY (s.drop (n+1))=N by
     have:=bI.O;rw[if_pos (by simpa using hc)]at this;omega)
    clear hc bI Hr;go_wp2;go_roundw;case rel=>exact⟨n+1,by omega,by go_num,Hn.O,hb⟩
    case measure=>simp[intOf];omega
  ·have d1:decide ((n:Int)<(s.length:Int))=false:=Qf (by omega);have Hn:=Qh (show n=N by have:=Hr.O;rwa[List.drop_of_length_le (by omega),dY,Nat.add_zero]at this);clear Hr;go_wp2;go_ret;exact⟨dZ (by rw[←Hn.O]),hb⟩
structure Rn where
 d:af
 n:Nat
def Rn.enc(x:Rn):Array Value:=#[S x.d,.int .i64 (x.n:Nat)]
def uQ(x:Rn):List Sg:=jJ x.d++if 0<x.n then [⟨(x.n:Nat),[]⟩]else []
def iC(l:List Rn):List Sg:=l.flatMap uQ
theorem Xgi(l:List Rn)(x:Rn):iC (l++[x])=iC l++uQ x:=by simp[iC]
theorem Xvq:∀{l:List Rn},(∀x∈l,x.d≠[]∨0<x.n)→l.length≤(iC l).length
 | [],_=>Qn _
 |x::l,h=>by
  have ih:=Xvq (l:=l) fun y hy=>h y (List.mem_cons_of_mem _ hy);have h1:1≤(uQ x).length:=by
   unfold uQ jJ;rcases h x (List.mem_cons_self ..)with h1|h1
   ·rw[if_neg h1];simp
   ·rw[if_pos h1];simp
  show l.length+1≤(uQ x++iC l).length;rw[List.length_append];omega
theorem Xt8(n:Nat)(hn:1≤n)(s:af)(hs:s.length≤4294967280)(Bx:Nat)(w:World)(hB:w.heap[Bx]?=some (.cells #[S s] 9 (0,0))):
 SeqStopsK Fence.wide n Tryz.prog 185 #[.pointer (some ⟨Bx,0,none⟩)] Rn.enc (fun W W'=>W'.heap[Bx]?=W.heap[Bx]?) (fun xs=>iC xs=iR s) (fun _=>True) (s.length+1) w:=by
 intro l J Jx W hW hJ _ hY h0;have W9:W.heap[Bx]?=some (.cells #[S s] 9 (0,0)):=(hW.block _ (Qg hB)).trans hB;have HJ:=Qh hJ;have HY:=Qh hY;have H0:=Qh h0;have HB:=Qh W9;clear hJ hY h0 hW hB W9;have bO:=Xj9 s;obtain⟨N,hN⟩:∃N,iR s=N:=⟨_,rfl⟩;have HN:=Qh (show iC []++oJ ((s.drop 0).take (0-0)) (s.drop 0)=N from hN);rw[hN]at bO ⊢;clear hN;refine callsIn_of_wp Tryz.func185 rfl trivial ?_ rfl;simp only[Tryz.ntmps185,List.size_toArray,List.length_cons,List.length_nil,Nat.reduceAdd,Nat.reduceSub,Array.replicate_succ,Array.replicate_zero,List.push_toArray,List.append_toArray,List.nil_append,List.cons_append];gi_wp2
 gi_loopw [3,4] (fun s3 s4 wr=> ∃(f i:Nat) (pre:List Rn),f≤i∧i≤s.length∧s3= .int .i64 f∧s4= .int .i64 i∧wr.heap[Bx]?=some (.cells #[S s] 9 (0,0))∧iC pre++oJ ((s.drop f).take (i-f)) (s.drop i)=N∧(∀x∈pre,x.d≠[]∨0<x.n)∧J pre wr) (fun _ i _=>s.length-(intOf i).toNat)
 case atStart=>exact⟨0,0,[],Qn _,Nat.zero_le _,rfl,rfl,HB.O,HN.O,fun _ h=>(by cases h),H0.O⟩
 case round=>
  clear HB HN H0;obtain⟨f,i,pre,hfi,his,rfl,rfl,mR,wS,bq,hj⟩:=hrel;have xQ:=Qh wS;have Hj:=Qh hj;have Dy:=Qh mR;have Sb:=Qh bq;have c0:wr.cell? ⟨Bx,0,none⟩=some (S s):=(cell_of_row wr _ 0 _ _ _ mR).trans rfl;have qp:pre.length≤s.length:=by
   have h1:=Xvq bq;have h2:=congrArg List.length wS;rw[List.length_append]at h2;omega
  clear wS hj mR bq;have hfs:(f:Int)≤(s.length:Int):=by omega
  have apH:(i:Int)≤(s.length:Int):=by omega
  have apI:(f:Int)≤(i:Int):=by omega
  have ZE:(0:Int)≤(f:Int):=by omega
  have hi0:(0:Int)≤(i:Int):=by omega
  by_cases hlt:i<s.length
  ·have d0:decide ((i:Int)<(s.length:Int))=true:=Qt (by omega);have Ay:s.drop i≠[]:=fun e=>by have:=congrArg List.length e;rw[List.length_drop]at this;simp at this;omega
   have hz:=YL (s.drop i);rw[List.length_drop]at hz;have Hz:=Qh (Xt7 (s.drop i) (by rw[List.length_drop];omega) wr);have bI:=Qh (And.intro (fun h=>Xot (acc:=(s.drop f).take (i-f)) Ay h) (fun h=>Xou (acc:=(s.drop f).take (i-f)) Ay h));generalize dY (s.drop i)=z at hz Hz bI;have htd:List.take (s.length-i) (List.drop i s)=List.drop i s:=List.take_of_length_le (by rw[List.length_drop];omega);clear Ay;gi_wp2_with fail
   refine⟨trivial,(callsIn_wide.2 Hz.O).mono ?_⟩;rintro e1 w1 ⟨rfl,aG⟩;have Re:=HJ.O _ _ _ none Hj.O (Xio aG) (fun r h=>by cases h);have c1:=aV aG c0;have EN:=Qh ((aG.block _ (Qg Dy.O)).trans Dy.O);clear Hz aG Hj Dy c0;by_cases mF:32≤z
   ·have d1:decide ((32:Int)≤(z:Int))=true:=Qt (by omega);have m1:IntKind.i64.wrap ((i:Int)+(z:Int))=(i:Int)+(z:Int):=IntWalk.i64_in _ (by omega);obtain⟨fn,tmps,assign,body,hy,hR⟩:=HY.O pre ⟨(s.drop f).take (i-f),z⟩ w1 Re (by omega);have Hn:=Qh (show iC (pre++[⟨(s.drop f).take (i-f),z⟩])++oJ ((s.drop (i+z)).take (i+z-(i+z))) (s.drop (i+z))=N by
     rw[←xQ.O,bI.O.1 mF,Xgi,uQ,if_pos (by dsimp only;omega)];simp[List.drop_drop])
    have adg:=Qh (show ∀x∈pre++[(⟨(s.drop f).take (i-f),z⟩:Rn)],x.d≠[]∨0<x.n from fun x hx=>by
     rcases List.mem_append.1 hx with hx|hx
     ·exact Sb.O x hx
     ·rw[List.mem_singleton.1 hx];exact .inr (by dsimp only;omega))
    dsimp only[Rn.enc]at hy;clear bI xQ Sb Re;gi_wp2
    refine hR.mono ?_;rintro e W3 (⟨rfl,F5,sJ⟩|⟨rfl,Rf⟩)
    ·have HJ3:=Qh F5;have EP:=Qh (sJ.trans EN.O);clear F5 sJ hy c1;gi_wp2
     go_roundw;case rel=>exact⟨i+z,i+z,_,Qn _,by omega,by go_num,by go_num,EP.O,Hn.O,adg.O,HJ3.O⟩
     case measure=>simp[intOf];omega
    ·gi_wp2
     refine bodyPost_ret (results_none rfl _ _ _) rfl ?_;exact⟨⟨_,rfl⟩,.inr ⟨_,trivial,Rf⟩⟩
   ·have d1:decide ((32:Int)≤(z:Int))=false:=Qf (by omega);have Tf:max (z:Int) 1=((max z 1:Nat):Int):=by omega
    have hmn:1≤max z 1∧i+max z 1≤s.length:=by omega
    have Hn:=Qh (show iC pre++oJ ((s.drop f).take (i+max z 1-f)) (s.drop (i+max z 1))=N by
     rw[←xQ.O,bI.O.2 mF,List.drop_drop];congr 2;rw[show i+max z 1-f=(i-f)+max z 1 by omega,List.take_add,List.drop_drop,show f+(i-f)=i by omega])
    generalize max z 1=m at Tf hmn Hn;have m1:IntKind.i64.wrap ((i:Int)+(m:Int))=(i:Int)+(m:Int):=IntWalk.i64_in _ (by omega);have HJ1:=Qh Re;clear bI xQ Re;gi_wp2
    go_roundw;case rel=>exact⟨f,i+m,pre,by omega,by omega,rfl,by go_num,EN.O,Hn.O,Sb.O,HJ1.O⟩
    case measure=>simp[intOf];omega
  ·have d0:decide ((i:Int)<(s.length:Int))=false:=Qf (by omega);have Od:i=s.length:=by omega
   have Hn:=Qh (show iC pre++jJ (s.drop f)=N by
    have:=xQ.O;rwa[List.drop_of_length_le (show s.length≤i by omega),Xrw,List.take_of_length_le (by rw[List.length_drop];omega)]at this)
   by_cases hf:f<s.length
   ·have d1:decide ((f:Int)<(s.length:Int))=true:=Qt (by omega);obtain⟨fn,tmps,assign,body,hy,hR⟩:=HY.O pre ⟨s.drop f,0⟩ wr Hj.O (by omega);have Hs:=Qh (show iC (pre++[⟨s.drop f,0⟩])=N by rw[Xgi,←Hn.O];simp[uQ]);dsimp only[Rn.enc]at hy;rw[show(((0:Nat):Int))=0 from rfl]at hy;have htd:List.take (s.length-f) (List.drop f s)=List.drop f s:=List.take_of_length_le (by rw[List.length_drop];omega);clear xQ Hj;gi_wp2
    refine hR.mono ?_;rintro e W3 (⟨rfl,F5,sJ⟩|⟨rfl,Rf⟩)
    ·gi_wp2
     go_end0
     exact⟨⟨_,rfl⟩,.inl ⟨_,Hs.O,F5⟩⟩
    ·gi_wp2
     go_end0
     exact⟨⟨_,rfl⟩,.inr ⟨_,trivial,Rf⟩⟩
   ·have d1:decide ((f:Int)<(s.length:Int))=false:=Qf (by omega);have Hs:=Qh (show iC pre=N by
     have:=Hn.O;rw[List.drop_of_length_le (show s.length≤f by omega)]at this;simpa[jJ]using this)
    clear xQ;gi_wp2
    go_end0
    exact⟨⟨_,rfl⟩,.inl ⟨_,Hs.O,Hj.O⟩⟩
theorem Xwa(s:af)(w:World):Calls Tryz.prog 146 #[S s] w fun e w'=>e= .returned (.func (.func 185) #[] #[.pointer (some ⟨w.heap.size,0,none⟩)])∧w'=w.alloc (.cells #[S s] 9):=by
 go_enter Tryz.func146,Tryz.ntmps146
 go_wp2;go_ret;exact⟨rfl,rfl⟩
theorem Xtg(d:af):(jJ d).length≤1:=by unfold jJ;split<;>simp
theorem Xll:∀l:List Rn,(iC l).length≤2*l.length
 | []=>Qn _
 |x::l=>by
  have ih:=Xll l;have h1:=Xtg x.d;have h2:(uQ x).length≤2:=by
   unfold uQ;rw[List.length_append];split<;>simp<;>omega
  show(uQ x++iC l).length≤_;rw[List.length_append,List.length_cons];omega
structure FN (b:Nat) (w:World) (l:List Sg) (v:Value) (W:World):Prop where
 box:W.heap[b]?=some (.cells #[v] 128 (0,0))
 own:aQ Gh 131 (fun _=>none) W (b+2) v l
 eU:Below b w W
section
variable {b B:Nat} {w W W':World} {l l':List Sg} {v v':Value}
theorem FN.c0(h:FN b w l v W):W.cell? ⟨b,0,none⟩=some v:=(cell_of_row W _ 0 _ _ _ h.box).trans rfl
theorem FN.f0(h:FN b w l v W):W.frozen? ⟨b,0,none⟩=false:=frozen_of_row W _ 0 _ _ h.box
theorem FN.ne(h:FN b w l v W){k:Nat}(hk:k<b+2):v.ownBlock≠some k:=fun e=>by have:=(wy h.own e).1;omega
theorem FN.turn{row:Option Nat}(h:FN b w l v W)(hb:b≤w.heap.size)(hB:b≤B)(hg:W.grownBy W' row)(hr:∀r,row=some r→B≤r∧ ∃o:Obj,W.heap[r]?=some o∧o.isCells=false):FN b w l v W':=
 ⟨Xox h.box hg fun r e=>(hr r e).2,h.own.turn hg fun r e=>(hr r e).2,Below.turn h.eU hb hB hg hr⟩
theorem FN.add(h:FN b w l v W)(hb:b≤w.heap.size)(ho:aQ Gh 131 (fun _=>none) W' (b+2) v' l')(hg:W.grownBy W' v.ownBlock):
 FN b w l' v' (W'.setCell ⟨b,0,none⟩ v')∧KeepsFrom B W (W'.setCell ⟨b,0,none⟩ v')∧(b+1<W.heap.size→(W'.setCell ⟨b,0,none⟩ v').heap[b+1]?=W.heap[b+1]?):=by
 have hlt:=(Qg h.box);have hs:=h.eU.size;have e1:W'.heap[b]?=some (.cells #[v] 128 (0,0)):=(hg.block _ hlt (fun e=>h.ne (by omega) e.symm)).trans h.box;refine⟨⟨heap_setCell_same W' b 0 _ _ v' e1,ho.stored (fun e=>by have:=(wy ho e).1;omega) 0 v',(h.eU.grown hg (by omega) (fun k hk=>by have:=(wy h.own hk).1;omega)).setCell (p:=⟨b,0,none⟩) (Qn _) v'⟩,(KeepsFrom.own h.own hg).trans (KeepsFrom.BQ W' ⟨b,0,none⟩ v'),fun hl=> ?_⟩;exact(heap_setCell_other W' ⟨b,0,none⟩ (b+1) v' (by show b+1≠b;omega)).trans (hg.block _ hl (fun e=>h.ne (by omega) e.symm))
end
def PN(b:Nat)(w:World)(pre:List Rn)(W:World):Prop:=∃v,FN b w (iC pre) v W∧b+1<W.heap.size
theorem Xwb(hb:b≤w.heap.size)(hB:b≤B):OwnFrom B (PN b w):=fun pre W W' row ⟨v,h,hl⟩ hg hr=>⟨v,h.turn hb hB hg hr,Nat.lt_of_lt_of_le hl hg.size⟩
theorem Xt9(I:IH)(s:af)(hs:s.length≤4294967280)(w:World):
 Calls Tryz.prog 99 #[S s] w fun e w'=> ∃v',e= .returned v'∧aQ Gh 131 I w' w.heap.size v' (iR s)∧Below w.heap.size w w':=by
 have H0:=Qh (show PN w.heap.size w [] ((w.alloc (.cells #[.slice none 0 0] 128)).alloc (.cells #[S s] 9))from⟨_,⟨(Below.heap_alloc _ _ _ (by simp)).trans (heap_alloc_new w _),aQ.nil _ _ _ _ _,((Qb _ _).alloc (Qn _) _).alloc (by simp) _⟩,by simp⟩);have HB:=Qh (show((w.alloc (.cells #[.slice none 0 0] 128)).alloc (.cells #[S s] 9)).heap[w.heap.size+1]?=some (.cells #[S s] 9 (0,0)) by
  have h:=heap_alloc_new (w.alloc (.cells #[.slice none 0 0] 128)) (.cells #[S s] 9);simpa using h)
 have bS:((w.alloc (.cells #[.slice none 0 0] 128)).alloc (.cells #[S s] 9)).heap.size=w.heap.size+2:=by simp
 refine(callsIn_wide (n:=3)).1 ?_;refine callsIn_of_wp_marks Tryz.func99 rfl trivial ?_ rfl;simp only[Tryz.ntmps99,List.size_toArray,List.length_cons,List.length_nil,Nat.reduceAdd,Nat.reduceSub,Array.replicate_succ,Array.replicate_zero,List.push_toArray,List.append_toArray,List.nil_append,List.cons_append];gi_wp2_with fail
 refine⟨trivial,(callsIn_wide.2 (Xwa s _)).mono ?_⟩;rintro e w1 ⟨rfl,rfl⟩;gi_wp2
 generalize ZC:((w.alloc (.cells #[.slice none 0 0] 128)).alloc (.cells #[S s] 9))=W0 at H0 HB bS ⊢;clear ZC
 refine wpIn_rangeFunc_ownG rfl (by decide) (gf:=185) (lb:=#[.pointer (some ⟨w.heap.size+1,0,none⟩)]) rfl trivial (enters_of Tryz.func185 (by kernel_rfl) rfl)
  (Xt8 _ (by decide) s hs (w.heap.size+1) W0 HB.O) (fun h k=>k.trans h) (fun W l o o' hl _ _ _=>World.putObj_heap_other (by omega)) (Qb _ _) (fun _=>rfl)
  (PN w.heap.size w) (fun _ _ _=>False) (Xwb (Qn _) (by omega)) (fun _ _ _ _ _ h _ _=>h) H0.O
  (fun x=> {tmps:=#[S s,undef,.slice none 0 0,.pointer (some ⟨w.heap.size,0,none⟩),S x.d,.int .i64 (x.n:Nat),S s,.func (.func 185) #[] #[.pointer (some ⟨w.heap.size+1,0,none⟩)],S x.d,.int .i64 (x.n:Nat),undef,undef,undef,undef,undef,undef,undef,undef,undef,undef,undef,undef,undef,undef,undef],defers:=[]})
  ?assign ?body ?done ?stop
 case assign=>
  intro l x W K hK;obtain⟨d,n⟩:=x;dsimp only[Rn.enc];gi_wp2
  exact hK
 case body=>
  intro l pre x W ⟨v,h,hl⟩ qp;have Kv:=Xll pre;have hso:=Xgi pre x;have hbs:=h.eU.size;obtain⟨a0,n0,k0,rfl⟩:=Jb h.own;have H:=Qh h;have c0:=h.c0;clear h;obtain⟨d,n⟩:=x;dsimp only at hso ⊢;have YT:=Qh hso;clear hso;by_cases hd:d=[]
  ·obtain⟨p1,p2,p3,p4⟩:=EA hd;by_cases hn:0<n
   ·have d1:decide ((0:Int)<(n:Int))=true:=Qt (by omega);have d2:decide (0<n)=true:=Qt hn;have Hl:=Qh (show iC (pre++[⟨d,n⟩])=iC pre++[⟨(n:Nat),[]⟩] by rw[YT.O,uQ,hd,if_pos hn];rfl);clear hd hn;gi_wp2_with (gi_at_builtin;go_loud (refine Vn (w0:=W) NE rfl _ _ rfl (w.heap.size+2) _ (iC pre) rfl H.O.own ⟨(n:Nat),[]⟩ [.int .i64 (n:Nat),S []] _ (by first|rfl|simp[Act.eval]) rfl (by omega) (by omega) (by omega) ?_))
    intro v7 w7 Ct iy YS;obtain⟨g7,n7,k7,rfl⟩:=Jb Ct;have cp7:=fC iy (H.O.ne (k:=w.heap.size) (by omega)) H.O.c0;have fp7:=JZ iy (H.O.ne (k:=w.heap.size) (by omega)) H.O.c0 H.O.f0;obtain⟨k1,k2,k3⟩:=H.O.add (B:=W0.heap.size) (Qn _) Ct iy;gi_wp2
    show KeepsFrom W0.heap.size W _∧_=_∧PN w.heap.size w _ _;exact⟨k2,k3 hl,_,by rw[Hl.O];exact k1,by have:=iy.size;simp;omega⟩
   ·have d1:decide ((0:Int)<(n:Int))=false:=Qf (by omega);have d2:decide (0<n)=false:=Qf hn;have Hl:=Qh (show iC (pre++[⟨d,n⟩])=iC pre by rw[YT.O,uQ,hd,if_neg hn];simp[jJ]);clear hd hn;gi_wp2
    show KeepsFrom W0.heap.size W _∧_=_∧PN w.heap.size w _ _;exact⟨KeepsFrom.refl _ _,rfl,_,by rw[Hl.O];exact H.O,hl⟩
  ·obtain⟨p1,p2,p3,p4⟩:=Dh hd;by_cases hn:0<n
   ·have d1:decide ((0:Int)<(n:Int))=true:=Qt (by omega);have d2:decide (0<n)=true:=Qt hn;have Hl:=Qh (show iC (pre++[⟨d,n⟩])=iC pre++[⟨0,d⟩,⟨(n:Nat),[]⟩] by rw[YT.O,uQ,jJ,if_neg hd,if_pos hn];simp);clear hd hn;gi_wp2_with (gi_at_builtin;go_loud (refine Vn (w0:=W) NE rfl _ _ rfl (w.heap.size+2) _ (iC pre) rfl H.O.own ⟨0,d⟩ [.int .i64 0,S d] _ (by first|rfl|simp[Act.eval]) rfl (by omega) (by omega) (by omega) ?_))
    intro v7 w7 Ct iy YS;obtain⟨g7,n7,k7,rfl⟩:=Jb Ct;have cp7:=fC iy (H.O.ne (k:=w.heap.size) (by omega)) H.O.c0;have fp7:=JZ iy (H.O.ne (k:=w.heap.size) (by omega)) H.O.c0 H.O.f0;obtain⟨k1,k2,k3⟩:=H.O.add (B:=W0.heap.size) (Qn _) Ct iy;have K1:=Qh k1;have K2:=Qh k2;have K3:=Qh (k3 hl);have c7:=k1.c0;have mZ:W.heap.size≤(w7.setCell ⟨w.heap.size,0,none⟩ (.slice g7 n7 k7)).heap.size:=by have:=iy.size;simp;omega
    have DZ:(iC pre++[(⟨0,d⟩:Sg)]).length≤2*pre.length+1:=by simp;omega
    clear k1 k2 k3 Ct iy YS c0;gi_wp2_with (gi_at_builtin;go_loud (refine Vn (w0:=(w7.setCell ⟨w.heap.size,0,none⟩ (.slice g7 n7 k7))) NE rfl _ _ rfl (w.heap.size+2) _ (iC pre++[⟨0,d⟩]) rfl K1.O.own ⟨(n:Nat),[]⟩ [.int .i64 (n:Nat),S []] _ (by first|rfl|simp[Act.eval]) rfl (by omega) (by omega) (by omega) ?_))
    intro v8 w8 xL qO Dt;obtain⟨g8,n8,k8,rfl⟩:=Jb xL;have cp8:=fC qO (K1.O.ne (k:=w.heap.size) (by omega)) K1.O.c0;have fp8:=JZ qO (K1.O.ne (k:=w.heap.size) (by omega)) K1.O.c0 K1.O.f0;obtain⟨k1,k2,k3⟩:=K1.O.add (B:=W0.heap.size) (Qn _) xL qO;gi_wp2
    show KeepsFrom W0.heap.size W _∧_=_∧PN w.heap.size w _ _;exact⟨K2.O.trans k2,(k3 (by omega)).trans K3.O,_,by rw[Hl.O];exact k1,by have:=qO.size;simp;omega⟩
   ·have d1:decide ((0:Int)<(n:Int))=false:=Qf (by omega);have d2:decide (0<n)=false:=Qf hn;have Hl:=Qh (show iC (pre++[⟨d,n⟩])=iC pre++[⟨0,d⟩] by rw[YT.O,uQ,jJ,if_neg hd,if_neg hn];simp);clear hd hn;gi_wp2_with (gi_at_builtin;go_loud (refine Vn (w0:=W) NE rfl _ _ rfl (w.heap.size+2) _ (iC pre) rfl H.O.own ⟨0,d⟩ [.int .i64 0,S d] _ (by first|rfl|simp[Act.eval]) rfl (by omega) (by omega) (by omega) ?_))
    intro v7 w7 Ct iy YS;obtain⟨g7,n7,k7,rfl⟩:=Jb Ct;have cp7:=fC iy (H.O.ne (k:=w.heap.size) (by omega)) H.O.c0;have fp7:=JZ iy (H.O.ne (k:=w.heap.size) (by omega)) H.O.c0 H.O.f0;obtain⟨k1,k2,k3⟩:=H.O.add (B:=W0.heap.size) (Qn _) Ct iy;gi_wp2
    show KeepsFrom W0.heap.size W _∧_=_∧PN w.heap.size w _ _;exact⟨k2,k3 hl,_,by rw[Hl.O];exact k1,by have:=iy.size;simp;omega⟩
 case done=>
  rintro D xs W hD hS ⟨v,h,hl⟩ hK;have c0:=h.c0;have hbs:=h.eU.size;gi_wp2
  refine⟨by simp,.inl ⟨_,_,rfl,run_takeDeferred hK,?_⟩⟩;have h2:=h.turn (Qn _) (show w.heap.size≤w.heap.size from Qn _) (grownBy_putObj' W D (.deferred none)) (fun r e=>by cases e;exact⟨by omega,_,hK,rfl⟩);rw[hS]at h2;obtain⟨ys,q1,q2⟩:=h2.own;exact⟨_,results_tmp rfl _ _ _,v,rfl,aQ.lower ⟨ys,q1,q2.1,fun i hi=>by obtain⟨cs,r1,r2⟩:=q2.2 i hi;exact⟨cs,r1,r2⟩⟩ (by omega),h2.eU⟩
 case stop=>
  rintro D c pre W _ _ h _;exact h.elim
