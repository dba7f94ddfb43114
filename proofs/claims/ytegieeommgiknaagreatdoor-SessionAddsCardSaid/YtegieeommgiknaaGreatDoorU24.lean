/- Lemmas for the claim's theorem;conditions: as each says. -/
import Derived.Test.YtegieeommgiknaaGreatDoorU23
import Derived.Test.YtegieeommgiknaaGreatDoorU21
set_option maxHeartbeats 0
set_option maxRecDepth 100000
set_option linter.all false
namespace Go.Proofs.YtegieeommgiknaaGreatDoor
open Go.RowKit
variable{s:Array Bool}{i:Nat}{ops:Array Oper}{a:Act}{R:Array Value}{n le:Nat}{bg:Int}{str:af}{L:List (Option Tmp×Value)}{a':Act}
abbrev Su(n:Nat)(ao:Option Addr)(le cap:Nat)(bg:Int)(str:af)(x:Nat×(Option Addr×Nat)):List (Option Tmp×Value):=
 [(some 18,.pointer (some ⟨n,0,none⟩)),(some 19,.slice ao le cap),(some 20,.slice x.2.1 le x.2.2),(some 21,.pointer (some ⟨n,1,none⟩)),(some 22,.int .i64 bg),(some 23,.pointer (some ⟨n,2,none⟩)),(some 24,S str),(some 25,.agg #[.slice x.2.1 le x.2.2,.int .i64 bg,S str]),(some 7,.pointer (some ⟨x.1,0,none⟩)),(none,undef)]
theorem Ad{ao:Option Addr}{cap:Nat}{x:Nat×(Option Addr×Nat)}:bC (Su n ao le cap bg str x):=by
 unfold bC;simp
abbrev pvL(n m bo:Nat)(ak:Option Addr)(le ck:Nat)(bg:Int)(str:af)(ve:Value)(x:Nat×Nat):List (Option Tmp×Value):=
 [(some 108,.agg #[.slice ak le ck,.int .i64 bg,S str]),(some 109,.func (.func 145) #[] #[.pointer (some ⟨bo,0,none⟩)]),(some 110,ve),(none,undef),(some 5,ve),(some 6,.int .i64 0)]
theorem LV{m bo:Nat}{ak:Option Addr}{ck:Nat}{ve:Value}{x:Nat×Nat}:bC (pvL n m bo ak le ck bg str ve x):=by
 unfold bC;simp
theorem Xvt (L C:Nat) (hL:L≤4294967296) (hC0:C≤10000000) (I:IH) (s:ib) (vc:Value) (hv:aZ si I vc s.aJ) (hs:NK L C s) (hd:∀c∈s.aJ,c.d.length≤32) (c:af) (hc:c.length≤4294967280) (w:World) (hw:Ok I w):
 Calls Tryz.prog 50 #[fD s vc,S c] w (CF I w (jA s c)):=by
 have arE:=hs.aJ
 obtain ⟨ao,cap,rfl,_,_,_⟩:=id hv
 have qZ:=Qh (fun w hw=>Xpm I _ s.aJ hv w hw (by omega))
 have FE:=Qh (fun w hw=>Xu5 I s _ hv (by omega) hd w hw)
 obtain ⟨W2,kU⟩:∃W2,((w.alloc (.cells #[.slice ao s.aJ.length cap,.int .i64 s.bg,S s.str] 43)).alloc (.cells #[.slice none 0 0,.int .i64 0,S []] 43))=W2:=⟨_,rfl⟩
 have bn:Ok I W2:=by rw [←kU];exact (hw.alloc _).alloc _
 have gJ:W2.heap.size=w.heap.size+2:=by rw [←kU];simp
 have Db:=Qh (show W2.heap[w.heap.size]? =some (.cells #[.slice ao s.aJ.length cap,.int .i64 s.bg,S s.str] 43 (0,0)) by rw [←kU];exact (Below.heap_alloc _ _ _ (by simp)).trans (heap_alloc_new w _))
 have wU:=Qh (show W2.heap[w.heap.size+1]? =some (.cells #[.slice none 0 0,.int .i64 0,S []] 43 (0,0)) by
  rw [←kU]
  have h:=heap_alloc_new (w.alloc (.cells #[.slice ao s.aJ.length cap,.int .i64 s.bg,S s.str] 43)) (.cells #[.slice none 0 0,.int .i64 0,S []] 43)
  simpa using h)
 have aL:Below w.heap.size w W2:=by rw [←kU];exact ((Qb _ _).alloc (Qn _) _).alloc (by simp) _
 have c0:W2.cell? ⟨w.heap.size,0,none⟩=some (.slice ao s.aJ.length cap):=(cell_of_row _ _ 0 _ _ _ Db.O).trans rfl
 have c1:W2.cell? ⟨w.heap.size,1,none⟩=some (.int .i64 s.bg):=(cell_of_row _ _ 1 _ _ _ Db.O).trans rfl
 have c2:W2.cell? ⟨w.heap.size,2,none⟩=some (S s.str):=(cell_of_row _ _ 2 _ _ _ Db.O).trans rfl
 have Hs:=Qh hs
 clear hv hs hd
 go_enter Tryz.func50,Tryz.ntmps50
 go_wp2_with fail
 refine qR (X:=Nat × (Option Addr × Nat)) (Su w.heap.size ao s.aJ.length cap s.bg s.str) (zh W2 2 8 (fun y w=>aQ si 103 I w W2.heap.size (.slice y.1 s.aJ.length y.2) s.aJ) (fun k w=>w.heap[k]? =some (.cells #[.slice none 0 0,.int .i64 0,S []] 43 (0,0))∧W2.heap.size≤k) (fun x=>x.1) 43 9 211 212 (fun x=> #[.slice x.2.1 s.aJ.length x.2.2,.int .i64 s.bg,S s.str]) (fun x=> #[.slice x.2.1 s.aJ.length x.2.2,.int .i64 s.bg,S s.str]) (fun x=> #[.slice x.2.1 s.aJ.length x.2.2,.int .i64 s.bg,S s.str])) (by kernel_rfl) (by kernel_rfl) ?_ ?_ ?_
 ·exact ⟨(0,default),zh.start _ _⟩
 ·rintro x s' a' w' i bS bO ha hC hi
  obtain ⟨aH,oi,dI,au⟩:=mem_ready.1 hi
  rcases i with _|_|_|_|_|_|_|_|_|_|i
  rotate_left 10
  ·simp at dI
  all_goals
   have dH:=dI
   simp at dI
   subst dI
   simp [Region.binds] at au
  ·have e2:a'.tmps[2]?.getD undef= .pointer (some ⟨w.heap.size,0,none⟩):=oL ha (by simp)
   refine wpOp_step dH (fun K' hK=> ?_)
   rw [if_pos (by rfl)]
   unfold Oper.wp
   simp [go_sem,e2,Oper.upon]
   exact hK _ _ ⟨x,dS (d:=some 18) (v:= .pointer (some ⟨w.heap.size,0,none⟩)) Ad ha rfl aH,hC.pure (by decide) (by decide) (by decide) (by decide) (by decide)⟩
  ·have e18:a'.tmps[18]?.getD undef= .pointer (some ⟨w.heap.size,0,none⟩):=gI (i:=0) Ad ha rfl (by first|simpa using au|simp [au]) (by simp)
   have hl:s'.getD 9 false=false:=gU bO [1] (by kernel_rfl) (by rfl) aH
   have cq:=aV (hC.off hl) c0
   refine wpOp_step dH (fun K' hK=> ?_)
   rw [if_pos (by rfl)]
   unfold Oper.wp
   simp [go_sem,e18,cq,Oper.upon]
   exact hK _ _ ⟨x,dS (d:=some 19) (v:= .slice ao s.aJ.length cap) Ad ha rfl aH,hC.pure (by decide) (by decide) (by decide) (by decide) (by decide)⟩
  ·have e19:a'.tmps[19]?.getD undef= .slice ao s.aJ.length cap:=gI (i:=1) Ad ha rfl (by first|simpa using au|simp [au]) (by simp)
   have hl:s'.getD 9 false=false:=gU bO [2] (by kernel_rfl) (by rfl) aH
   have sG:=bn.below (Qn _) (hC.off hl)
   refine wpOp_step dH (fun K' hK=> ?_)
   rw [if_pos (by rfl)]
   unfold Oper.wp
   simp [go_sem,e19,Oper.upon]
   refine (qZ.O _ sG).mono ?_
   rintro r4 w4 ⟨v7,rfl,ho,aS⟩
   obtain ⟨a7,k7,rfl⟩:=wT ho
   have ha:=ha.trans (lT (L:=Su w.heap.size ao s.aJ.length cap s.bg s.str x) (M:=Su w.heap.size ao s.aJ.length cap s.bg s.str (x.1,(a7,k7))) [2,7] rfl (fun j bq=>by
    rcases j with _|_|_|_|_|_|_|_|_|_|j<;>first|rfl|(exact absurd (by decide) bq)|simp) (List.forall_mem_cons.2 ⟨gG aH,List.forall_mem_cons.2 ⟨gU bO [2] (by kernel_rfl) (by rfl) aH,List.forall_mem_nil _⟩⟩))
   exact hK _ _ ⟨(x.1,(a7,k7)),dS (d:=some 20) (v:= .slice (a7,k7).1 s.aJ.length (a7,k7).2) Ad ha rfl aH,hC.call hl aS (ho.lower (hC.off hl).size) (fun k hk=>⟨(aS.block _ (Qg hk.1)).trans hk.1,hk.2⟩) (by decide) (by decide)⟩
  ·have e2:a'.tmps[2]?.getD undef= .pointer (some ⟨w.heap.size,0,none⟩):=oL ha (by simp)
   refine wpOp_step dH (fun K' hK=> ?_)
   rw [if_pos (by rfl)]
   unfold Oper.wp
   simp [go_sem,e2,Oper.upon]
   exact hK _ _ ⟨x,dS (d:=some 21) (v:= .pointer (some ⟨w.heap.size,1,none⟩)) Ad ha rfl aH,hC.pure (by decide) (by decide) (by decide) (by decide) (by decide)⟩
  ·have e21:a'.tmps[21]?.getD undef= .pointer (some ⟨w.heap.size,1,none⟩):=gI (i:=3) Ad ha rfl (by first|simpa using au|simp [au]) (by simp)
   have hl:s'.getD 9 false=false:=gU bO [4] (by kernel_rfl) (by rfl) aH
   have cq:=aV (hC.off hl) c1
   refine wpOp_step dH (fun K' hK=> ?_)
   rw [if_pos (by rfl)]
   unfold Oper.wp
   simp [go_sem,e21,cq,Oper.upon]
   exact hK _ _ ⟨x,dS (d:=some 22) (v:= .int .i64 s.bg) Ad ha rfl aH,hC.pure (by decide) (by decide) (by decide) (by decide) (by decide)⟩
  ·have e2:a'.tmps[2]?.getD undef= .pointer (some ⟨w.heap.size,0,none⟩):=oL ha (by simp)
   refine wpOp_step dH (fun K' hK=> ?_)
   rw [if_pos (by rfl)]
   unfold Oper.wp
   simp [go_sem,e2,Oper.upon]
   exact hK _ _ ⟨x,dS (d:=some 23) (v:= .pointer (some ⟨w.heap.size,2,none⟩)) Ad ha rfl aH,hC.pure (by decide) (by decide) (by decide) (by decide) (by decide)⟩
  ·have e23:a'.tmps[23]?.getD undef= .pointer (some ⟨w.heap.size,2,none⟩):=gI (i:=5) Ad ha rfl (by first|simpa using au|simp [au]) (by simp)
   have hl:s'.getD 9 false=false:=gU bO [6] (by kernel_rfl) (by rfl) aH
   have cq:=aV (hC.off hl) c2
   refine wpOp_step dH (fun K' hK=> ?_)
   rw [if_pos (by rfl)]
   unfold Oper.wp
   simp [go_sem,e23,cq,Oper.upon]
   exact hK _ _ ⟨x,dS (d:=some 24) (v:=S s.str) Ad ha rfl aH,hC.pure (by decide) (by decide) (by decide) (by decide) (by decide)⟩
  ·have e20:a'.tmps[20]?.getD undef= .slice x.2.1 s.aJ.length x.2.2:=gI (i:=2) Ad ha rfl (by first|simpa using au|simp [au]) (by simp)
   have e22:a'.tmps[22]?.getD undef= .int .i64 s.bg:=gI (i:=4) Ad ha rfl (by first|simpa using au|simp [au]) (by simp)
   have e24:a'.tmps[24]?.getD undef=S s.str:=gI (i:=6) Ad ha rfl (by first|simpa using au|simp [au]) (by simp)
   refine wpOp_step dH (fun K' hK=> ?_)
   rw [if_pos (by rfl)]
   unfold Oper.wp
   simp [go_sem,e20,e22,e24,Oper.upon]
   exact hK _ _ ⟨x,dS (d:=some 25) (v:= .agg #[.slice x.2.1 s.aJ.length x.2.2,.int .i64 s.bg,S s.str]) Ad ha rfl aH,hC.pure (by decide) (by decide) (by decide) (by decide) (by decide)⟩
  ·have hl:s'.getD 9 false=false:=gU bO [8] (by kernel_rfl) (by rfl) aH
   refine wpOp_step dH (fun K' hK=> ?_)
   rw [if_pos (by rfl)]
   unfold Oper.wp
   simp [go_sem,Oper.upon]
   have ha:=ha.trans (lT (L:=Su w.heap.size ao s.aJ.length cap s.bg s.str x) (M:=Su w.heap.size ao s.aJ.length cap s.bg s.str (w'.heap.size,x.2)) [8] rfl (fun j bq=>by
    rcases j with _|_|_|_|_|_|_|_|_|_|j<;>first|rfl|(exact absurd (by decide) bq)|simp) (List.forall_mem_cons.2 ⟨gG aH,List.forall_mem_nil _⟩))
   exact hK _ _ ⟨(w'.heap.size,x.2),dS (d:=some 7) (v:= .pointer (some ⟨w'.heap.size,0,none⟩)) Ad ha rfl aH,hC.made hl ((Qb _ _).alloc (Qn _) _) ⟨heap_alloc_new _ _,(hC.off hl).size⟩ (fun y hy=>hy.alloc _) (by decide) (by decide)⟩
  ·have e25:a'.tmps[25]?.getD undef= .agg #[.slice x.2.1 s.aJ.length x.2.2,.int .i64 s.bg,S s.str]:=gI (i:=7) Ad ha rfl (by first|simpa using au|simp [au]) (by simp)
   have e7:a'.tmps[7]?.getD undef= .pointer (some ⟨x.1,0,none⟩):=gI (i:=8) Ad ha rfl (by first|simpa using au|simp [au]) (by simp)
   refine wpOp_step dH (fun K' hK=> ?_)
   rw [if_pos (by rfl)]
   have vQ:s'.getD 2 false=true:=by first|simpa using au|simp [au]
   have N7:s'.getD 8 false=true:=by first|simpa using au|simp [au]
   have Ms:s'.getD 9 false=false:=gG aH
   have aK:w'.heap[x.1]? =some (.cells _ 43 (0,0)):=(hC.fa N7 Ms).1
   refine oK 43 _ _ rfl (x.1) 0 [.slice x.2.1 s.aJ.length x.2.2,.int .i64 s.bg,S s.str] (.agg #[.slice x.2.1 s.aJ.length x.2.2,.int .i64 s.bg,S s.str]) (by simp [Act.eval,e25,e7]) (by simp [Act.eval,e25,e7]) (by rfl) _ _ aK (by simp) (by kernel_rfl) (by simp [Value.oneCell']) ?_
   exact hK _ _ ⟨x,dS (d:=none) (v:=undef) Ad ha rfl aH,hC.jP aH (hC.fc vQ Ms) (hC.fa N7 Ms) (gX (by simp [bS])) (gX (by simp [bS])) (by decide) aK (by rfl)⟩
 ·rintro x s' a' w8 eu ha hC
  obtain ⟨wb,eG,yN,yM,dR,aK⟩:=hC.on (eu 9 (by decide))
  simp only [ite_self] at aK
  rw [qz _ _ _ _ (fun i hi=>by rw [Nat.zero_add];exact eu i (by simpa using hi))] at ha
  subst ha
  simp only [dE,Act.put]
  obtain ⟨m,mg,k7⟩:=x
  dsimp only at yN yM dR aK ⊢
  have bq:=BR yN yM.1 (by decide)
  have xL:=yN.kept dR (.inr bq)
  have hm:w.heap.size+2≤m:=by have:=yM.2;omega
  have lG:Ok I w8:=(bn.below (Qn _) eG).grown dR (fun g e=>by cases e;exact hw.fresh (by omega))
  have nz:Below w.heap.size w w8:=(aL.trans (eG.mono aL.size)).grown dR (by have:=eG.size;omega) (fun k e=>by cases e;omega)
  have hz:∀b,b<w.heap.size+2→w8.heap[b]? =W2.heap[b]? :=fun b hb=>(dR.block _ (by have:=eG.size;omega) (fun e=>by cases e;omega)).trans (eG.block _ (by omega))
  have wV:=Qh ((hz (w.heap.size+1) (by omega)).trans wU.O)
  have C9:=Qh ((hz w.heap.size (by omega)).trans Db.O)
  have a0:w8.cell? ⟨w.heap.size,0,none⟩=some (.slice ao s.aJ.length cap):=(cell_of_row _ _ 0 _ _ _ C9.O).trans rfl
  have a1:w8.cell? ⟨w.heap.size,1,none⟩=some (.int .i64 s.bg):=(cell_of_row _ _ 1 _ _ _ C9.O).trans rfl
  have a2:w8.cell? ⟨w.heap.size,2,none⟩=some (S s.str):=(cell_of_row _ _ 2 _ _ _ C9.O).trans rfl
  have PM:=Qh aK
  have wQ:=Qh (show (Tryz.prog.info? 43).map (·.size)=some 3 by kernel_rfl)
  have Zf:=Qh (xL.lower (show w.heap.size+2≤W2.heap.size by omega))
  have Sb:=Qh bq
  by_cases pG:s.bg<1∨255<s.bg∨65536<c.length
  ·obtain ⟨J,x9,q8,Bh,_⟩:=xL.freeze lG (fun b hb=>hw.fresh (by omega))
   have HJ:=Qh (And.intro (x9.mono (show w.heap.size≤W2.heap.size by omega)) (And.intro q8 Bh))
   have yl:J (w.heap.size+1)=none:=by rw [x9 _ (by omega)];exact hw.fresh (by omega)
   have d0:w8.cell? ⟨m,0,none⟩=some (.slice mg s.aJ.length k7):=(cell_of_row _ _ 0 _ _ _ aK).trans rfl
   have d1:w8.cell? ⟨m,1,none⟩=some (.int .i64 s.bg):=(cell_of_row _ _ 1 _ _ _ aK).trans rfl
   have d2:w8.cell? ⟨m,2,none⟩=some (S s.str):=(cell_of_row _ _ 2 _ _ _ aK).trans rfl
   have g0:=frozen_of_row w8 _ 0 _ _ wV.O
   have g1:=frozen_of_row w8 _ 1 _ _ wV.O
   have g2:=frozen_of_row w8 _ 2 _ _ wV.O
   have k0:w8.cell? ⟨w.heap.size+1,0,none⟩=some (.slice none 0 0):=(cell_of_row _ _ 0 _ _ _ wV.O).trans rfl
   have k1:w8.cell? ⟨w.heap.size+1,1,none⟩=some (.int .i64 0):=(cell_of_row _ _ 1 _ _ _ wV.O).trans rfl
   have k2:w8.cell? ⟨w.heap.size+1,2,none⟩=some (S []):=(cell_of_row _ _ 2 _ _ _ wV.O).trans rfl
   have hne1:m≠w.heap.size+1:=by omega
   have hne2:w.heap.size+1≠m:=by omega
   clear hz yN yM dR aK bq xL eG hC eu x9 q8 Bh c0 c1 c2 Db wU qZ lG FE Hs Zf Sb
   by_cases h1:s.bg<1
   ·have e1:decide (s.bg<1)=true:=Qt h1
    have Hn:=Qh (show jA s c=(s,[],1) by rw [jA,if_pos (.inl h1)])
    clear h1 pG
    go_wp2
    refine bodyPost_ret (v:= .tuple #[fD s (.slice mg s.aJ.length k7),.slice none 0 0,.int .i64 1]) ?_ rfl ?_
    ·rw [Bo rfl]
     simp [asAddr,run_loadVar_row _ (w.heap.size+1) 43 43 #[.slice mg s.aJ.length k7,.int .i64 s.bg,S s.str] (0,0) _ (LF wV.O) Tryz.underlying43 rfl wQ.O]
    ·rw [Hn.O]
     exact ⟨_,_,J,rfl,((nz.setCell (p:=⟨w.heap.size+1,0,none⟩) (Nat.le_succ _) _).setCell (p:=⟨w.heap.size+1,1,none⟩) (Nat.le_succ _) _).setCell (p:=⟨w.heap.size+1,2,none⟩) (Nat.le_succ _) _,HJ.O.1,((HJ.O.2.1.setCell yl _).setCell yl _).setCell yl _,HJ.O.2.2,aZ.nil _ _⟩
   have e1:decide (s.bg<1)=false:=Qf h1
   by_cases h2:255<s.bg
   ·have e2:decide (255<s.bg)=true:=Qt h2
    have Hn:=Qh (show jA s c=(s,[],1) by rw [jA,if_pos (.inr h2)])
    clear h1 h2 pG
    go_wp2
    refine bodyPost_ret (v:= .tuple #[fD s (.slice mg s.aJ.length k7),.slice none 0 0,.int .i64 1]) ?_ rfl ?_
    ·rw [Bo rfl]
     simp [asAddr,run_loadVar_row _ (w.heap.size+1) 43 43 #[.slice mg s.aJ.length k7,.int .i64 s.bg,S s.str] (0,0) _ (LF wV.O) Tryz.underlying43 rfl wQ.O]
    ·rw [Hn.O]
     exact ⟨_,_,J,rfl,((nz.setCell (p:=⟨w.heap.size+1,0,none⟩) (Nat.le_succ _) _).setCell (p:=⟨w.heap.size+1,1,none⟩) (Nat.le_succ _) _).setCell (p:=⟨w.heap.size+1,2,none⟩) (Nat.le_succ _) _,HJ.O.1,((HJ.O.2.1.setCell yl _).setCell yl _).setCell yl _,HJ.O.2.2,aZ.nil _ _⟩
   have e2:decide (255<s.bg)=false:=Qf h2
   have h3:65536<c.length:=by omega
   have e3:decide ((65536:Int)<(c.length:Int))=true:=Qt (by omega)
   have Hn:=Qh (show jA s c=(s,[],6) by rw [jA,if_neg (by omega),if_pos h3])
   clear h1 h2 h3 pG
   go_wp2
   refine bodyPost_ret (v:= .tuple #[fD s (.slice mg s.aJ.length k7),.slice none 0 0,.int .i64 6]) ?_ rfl ?_
   ·rw [Bo rfl]
    simp [asAddr,run_loadVar_row _ (w.heap.size+1) 43 43 #[.slice mg s.aJ.length k7,.int .i64 s.bg,S s.str] (0,0) _ (LF wV.O) Tryz.underlying43 rfl wQ.O]
   ·rw [Hn.O]
    exact ⟨_,_,J,rfl,((nz.setCell (p:=⟨w.heap.size+1,0,none⟩) (Nat.le_succ _) _).setCell (p:=⟨w.heap.size+1,1,none⟩) (Nat.le_succ _) _).setCell (p:=⟨w.heap.size+1,2,none⟩) (Nat.le_succ _) _,HJ.O.1,((HJ.O.2.1.setCell yl _).setCell yl _).setCell yl _,HJ.O.2.2,aZ.nil _ _⟩
  have e1:decide (s.bg<1)=false:=Qf (by omega)
  have e2:decide (255<s.bg)=false:=Qf (by omega)
  have e3:decide ((65536:Int)<(c.length:Int))=false:=Qf (by omega)
  have h1:1≤s.bg∧s.bg≤255∧c.length≤65536:=by omega
  obtain ⟨R,hR⟩:∃R,(iR c).foldl lV (s,[])=R:=⟨_,rfl⟩
  have Hn:=Qh (show jA s c=(R.1,R.2,0) by rw [jA,if_neg (by omega),if_neg (by omega),hR])
  have HR:=Qh (show ((iR c).drop 0).foldl lV (s,[])=R from hR)
  have uy:=Qh (fun w=>Xt9 I c hc w)
  have BZ:=Qh (YO (s:=c))
  have bS:iU ((iR c).drop 0)≤65536:=by rw [List.drop_zero,Vh];exact h1.2.2
  have Kv:(iR c).length≤65536:=Nat.le_trans (Xj9 c) h1.2.2
  have HB:=Qh (show Cs L C 0 s [] from ⟨by omega,by omega,by have:=Hs.O.str;omega,by have:=Hs.O.aJ;omega,Hs.O.cx,Qn _,fun _ h=>(by cases h)⟩)
  generalize iR c=jR at HR uy BZ bS Kv
  have lM:=Qh (fun b (hb:w.heap.size≤b)=>hw.fresh hb)
  clear hz yN yM dR aK bq xL eG hC eu c0 c1 c2 Db wU qZ hR pG
  go_wp2_with fail
  refine (FE.O _ lG).mono ?_
  rintro e3' wi ⟨B,D,rfl,Mc,Ci,Tf,Om⟩
  have Ci:=Qh Ci
  have Tf:=Qh Tf
  go_wp2_with fail
  refine (Xmy _).mono ?_
  rintro e4 wj ⟨rfl,rfl⟩
  have LG:=Om.size
  have NN:=nz.size
  have P7:=(Qg PM.O)
  have FR:=Qh (show qj w.heap.size m B wi.heap.size #[.slice ao s.aJ.length cap,.int .i64 s.bg,S s.str] w I (wi.alloc (.cells #[.slice none 0 0] 61)) s s.aJ [] (.slice mg s.aJ.length k7) (.slice none 0 0) s.aJ.length from by
   refine ⟨(Below.heap_alloc _ _ _ (by omega)).trans ((Om.block _ P7).trans PM.O),(Below.heap_alloc _ _ _ (by have:=(Qg C9.O);omega)).trans ((Om.block _ (Qg C9.O)).trans C9.O),(Below.heap_alloc _ _ _ (by have:=(Qg wV.O);omega)).trans ((Om.block _ (Qg wV.O)).trans wV.O),⟨D,Ci.O.alloc _,Tf.O⟩,heap_alloc_new wi _,(Zf.O.below Om).alloc _,aQ.nil _ _ _ _ _,(lG.below (Qn _) Om).alloc _,fun b hb=>lM.O b ?_,fun g hg=>lM.O g (by have:=(wy Zf.O hg).1;omega),fun g hg=>(by cases hg),hm,by omega,by omega,?_,Qn _,(nz.trans (Om.mono NN)).alloc (by omega) _⟩
   ·rcases hb with rfl|rfl|rfl|rfl|rfl<;>omega
   ·have:=Ci.O.lt;simp;omega)
  clear Ci Tf Mc Om nz Zf Sb PM wV C9 lG a0 a1 a2 P7 LG NN FE
  generalize Y9:wi.heap.size=bo at FR ⊢
  generalize (wi.alloc (.cells #[.slice none 0 0] 61))=w5 at FR ⊢
  clear Y9
  go_wp2_with fail
  refine (uy.O _).mono ?_
  rintro e6 w6 ⟨vs,rfl,Xf,gF⟩
  obtain ⟨J0,ni,iq,uf,_⟩:=Xf.freeze (FR.O.ok.below (Qn _) gF) (fun b hb=>FR.O.ok.fresh hb)
  have VH:=Qh (FR.O.ext gF ni iq)
  have Gb:=Qh (ni.mono FR.O.eU.size)
  have wW:=Qh uf
  have afz:=uf.bL
  have VP:=Hs.O.aJ
  obtain ⟨as',cs',rfl,_,_,_⟩:=id uf
  clear FR uy Xf gF ni iq uf Hs
  go_wp2_with fail
  go_loopw [48] (fun s48 wr=> ∃(k mc nn:Nat) (q:ib) (l:List Xt) (vk ve:Value) (J:IH),k≤jR.length∧s48= .int .i64 k∧(jR.drop k).foldl lV (q,l)=R∧Cs L C mc q l∧mc+iU (jR.drop k)≤65536∧nn≤C+mc∧qj w.heap.size m B bo #[.slice ao s.aJ.length cap,.int .i64 s.bg,S s.str] w J wr q q.aJ l vk ve nn∧q.bg=s.bg∧aZ Gh J (.slice as' jR.length cs') jR∧Ext w.heap.size I J) (fun i _=>jR.length-(intOf i).toNat)
  case atStart=>exact ⟨0,0,_,s,[],_,_,J0,Nat.zero_le _,rfl,HR.O,HB.O,by omega,VP,VH.O,rfl,wW.O,Gb.O⟩
  case round=>
   clear VH HR HB Gb wW
   obtain ⟨k,mc,nn,q,l,vk,ve,J,hk,rfl,hr,qx,Ap,Gw,hM,Sv,uf,hx⟩:=hrel
   have Hr:=Qh hr
   have wR:=Qh qx
   have HM:=Qh hM
   have wW:=Qh uf
   have Hx:=Qh hx
   have iZ:Ok J wr:=hM.ok
   have hlen:=qx.len
   have hsw:=hM.eU.size
   clear hr qx hM uf hx
   by_cases hlt:k<jR.length
   ·obtain ⟨g,b,off,cap',LQ,dC,x0,x1⟩:=Vk wW.O iZ k hlt
    cases dC
    have Zc:=Qh (BZ.O g (by rw [←LQ];exact List.getElem_mem hlt))
    have Xg:iU (jR.drop k)=g.n.toNat+g.d.length+iU (jR.drop (k+1)):=by rw [List.drop_eq_getElem_cons hlt,LQ,Vg]
    have bI:=Qh (YR hlt LQ Hr.O)
    rw [Xg] at Ap
    have Gj:=Qh (HM.O.past (.cells #[.int .i64 g.n,S g.d] 131))
    have LW:Ok J (wr.alloc (.cells #[.int .i64 g.n,S g.d] 131)):=iZ.alloc _
    clear Xg LQ Hr HM
    by_cases Kr:g.d= []
    ·have Ki:0<g.n:=by rcases Zc.O with ⟨_,h⟩|⟨h,_⟩;exact absurd Kr h;exact h
     obtain ⟨p1,p2,p3,p4⟩:=EA Kr
     have hgl:g.d.length=0:=by rw [Kr];rfl
     have Xh:XB 65536 ⟨0,0,g.n⟩:=by unfold XB;simp only;omega
     have kR:=Qh (show (jR.drop (k+1)).foldl lV (q,kH l ⟨0,0,g.n⟩)=R by have:=bI.O;rwa [lV,if_pos Kr] at this)
     have nX:=Qh (wR.O.add Xh)
     have Mv:=fun z hz=>(wR.O.xs z hz).mono (show (65536*mc:Int)≤1099511627776 by omega)
     have PZ:=Xh.mono (show (65536:Int)≤1099511627776 by omega)
     clear Kr bI
     go_wp2_with fail
     refine (Xth J bo (w.heap.size+2) _ _ ⟨0,0,g.n⟩ _ Gj.O.ox Gj.O.rb (by have:=Gj.O.lt;omega) (by omega) Mv PZ).mono ?_
     rintro e9 w9 ⟨u9,v9,rfl,fB,kV,bK,l7⟩
     have zZ:=Qh (Gj.O.PO fB kV bK l7)
     clear fB kV bK l7
     go_wp2
     go_roundw
     case rel=>exact ⟨k+1,mc+1,nn,q,_,_,_,J,by omega,by go_num,kR.O,nX.O,by omega,by omega,zZ.O,Sv,wW.O,Hx.O⟩
     case measure=>simp [intOf];omega
    ·obtain ⟨p1,p2,p3,p4⟩:=Dh Kr
     have bO:=YK g.d
     have wL:=Qh (fun x (hx:x∈dw g.d)=>show x.length≤65536 by have:=Xde hx;rw [Xfk] at this;omega)
     have uz:=Qh (show (jR.drop (k+1)).foldl lV (((dw g.d).drop 0).foldl pO (q,l))=R by have:=bI.O;rwa [lV,if_neg Kr] at this)
     have uy:=Qh (fun w=>Xu8 J g.d (by omega) w)
     obtain ⟨Q,hQ⟩:∃Q,((dw g.d).drop 0).foldl pO (q,l)=Q:=⟨_,rfl⟩
     have HQ:=Qh hQ
     rw [hQ] at uz
     have Jk:mc+(dw g.d).length+iU (jR.drop (k+1))≤65536:=by omega
     generalize dw g.d=cs at bO wL HQ uy Jk
     clear Kr hQ bI Ap
     go_wp2_with fail
     refine (uy.O _).mono ?_
     rintro e3 w3 ⟨v3,rfl,Jy,dO⟩
     obtain ⟨J3,wB,fo,En,_⟩:=Jy.freeze (LW.below (Qn _) dO) (fun b hb=>LW.fresh hb)
     have VI:=Qh (Gj.O.ext dO wB fo)
     have VJ:=Qh (Hx.O.trans wB (by simp;omega))
     have Jl:=Qh (wW.O.mono (wB.keep LW (Qn _)))
     have EU:=Qh En
     have Ku:=En.bL
     obtain ⟨ac,cc,rfl,_,_,_⟩:=id En
     have om:=wR
     clear Jy dO wB fo En Gj wR Hx wW x0 x1 hlen iZ LW
     go_wp2_with fail
     go_loopw [64] (fun s64 wr=> ∃(j mc nn:Nat) (q:ib) (l:List Xt) (vk ve:Value) (J:IH),j≤cs.length∧s64= .int .i64 j∧(cs.drop j).foldl pO (q,l)=Q∧Cs L C mc q l∧mc+(cs.length-j)+iU (jR.drop (k+1))≤65536∧nn≤C+mc∧qj w.heap.size m B bo #[.slice ao s.aJ.length cap,.int .i64 s.bg,S s.str] w J wr q q.aJ l vk ve nn∧q.bg=s.bg∧aZ Gh J (.slice (some ⟨b,off,none⟩) jR.length cs') jR∧aZ iE J (.slice ac cs.length cc) cs∧Ext w.heap.size I J) (fun i _=>cs.length-(intOf i).toNat)
     case atStart=>exact ⟨0,mc,nn,q,l,_,_,J3,Nat.zero_le _,rfl,HQ.O,om.O,by omega,Gw,VI.O,Sv,Jl.O,EU.O,VJ.O⟩
     case round=>
      clear VI HQ om VJ Jl EU Jk Gw Sv
      obtain ⟨j,mc,nn,q,l,vk,ve,J,hj,rfl,hr,qx,Ap,Gw,hM,Sv,uf,En,hx⟩:=hrel
      have Hr:=Qh hr
      have wR:=Qh qx
      have HM:=Qh hM
      have wW:=Qh uf
      have EU:=Qh En
      have Hx:=Qh hx
      have Zg:=Qh Sv
      have iZ:Ok J wr:=hM.ok
      obtain ⟨ak,ck,rfl⟩:=wT hM.ck
      have hlen:=qx.len
      have adX:=qx.aJ
      have ad1:=qx.str
      clear hr qx hM uf hx En Sv
      by_cases uj:j<cs.length
      ·obtain ⟨x,bz,VK,adY,Rh,dC,x0⟩:=Fy EU.O iZ j uj
       cases dC
       have E5:x.length≤65536:=wL.O x (by rw [←Rh];exact List.getElem_mem uj)
       have bI:=Qh (YR uj Rh Hr.O)
       have Gj:=Qh (HM.O.past (.cells #[S x] 9))
       have tQ:=Qh (Xni wr.heap.size x (by omega) (wr.alloc (.cells #[S x] 9)) (by simp) (by simp))
       have Cw:=PC x
       obtain ⟨dg,Mk⟩:∃dg,dW x=dg:=⟨_,rfl⟩
       have Aa:=Qh (fun y (h:gZ q.aJ (dW x)=some y)=>Xny (l:=l) h)
       have Ab:=Qh (fun (h:gZ q.aJ (dW x)=none)=>Xnx (l:=l) h)
       rw [Mk] at tQ Aa Ab Cw
       clear Rh Hr HM Mk
       go_wp2_with fail
       refine tQ.O.mono ?_
       rintro e5 w5 ⟨rfl,df⟩
       have zm:=Qh (Gj.O.below df)
       clear x0 df Gj tQ iZ
       obtain ⟨D,AL,JH⟩:=zm.O.rm
       have AO:=Xxz AL JH (p:=dg) (by omega)
       have Mv:=fun z hz=>(wR.O.xs z hz).mono (show (65536*mc:Int)≤1099511627776 by omega)
       have wM:=Qh (show lN q.aJ dg=match gZ q.aJ dg with|some x=>(x,true)|none=>(⟨0,0,0⟩,false) from rfl)
       have P5:=Qh (fun y (h:gZ q.aJ dg=some y)=>YQ h)
       cases hfx:gZ q.aJ dg with
       |some y=>
        rw [hfx] at wM
        rw [wM.O] at AO
        have Mo:XB 65536 y:=by
         obtain ⟨z,hz,rfl⟩:=P5.O y hfx
         exact wR.O.cx z hz
        have P6:=Mo.mono (show (65536:Int)≤1099511627776 by omega)
        have kR:=Qh (show (cs.drop (j+1)).foldl pO (q,kH l y)=Q by have:=bI.O;rwa [Aa.O y hfx] at this)
        have nX:=Qh (wR.O.add Mo)
        have Ac:=Qh (zm.O.past (.cells #[.int .i64 y.s,.int .i64 y.o,.int .i64 y.n] 65))
        clear hfx wM P5 Aa Ab bI AL JH
        go_wp2_with fail
        refine (Xth J bo (w.heap.size+2) _ _ y _ Ac.O.ox Ac.O.rb (by have:=Ac.O.lt;omega) (by omega) Mv P6).mono ?_
        rintro e9 w9 ⟨u9,v9,rfl,fB,kV,bK,l7⟩
        have zZ:=Qh (Ac.O.PO fB kV bK l7)
        clear fB kV bK l7
        go_wp2
        go_roundw
        case rel=>exact ⟨j+1,mc+1,nn,q,_,_,_,J,by omega,by go_num,kR.O,nX.O,by omega,by omega,zZ.O,Zg.O,wW.O,EU.O,Hx.O⟩
        case measure=>simp [intOf];omega
       |none=>
        rw [hfx] at wM
        rw [wM.O] at AO
        have kR:=Qh (show (cs.drop (j+1)).foldl pO (⟨q.aJ++ [⟨dg,nO q x⟩],q.bg,q.str++x⟩,kH l (nO q x))=Q by have:=bI.O;rwa [Ab.O hfx] at this)
        have nX:=Qh (wR.O.grow' hL (by omega) E5 (dg:=dg))
        have ZH:=Vm wR.O hL (by omega) E5
        have LU:=ZH.mono (show (65536:Int)≤1099511627776 by omega)
        have hMx:=Xpa JH AL.isMap (c:=⟨dg,nO q x⟩) hfx
        have HMx:=Qh hMx
        have LD:=Qh (PH dg (by omega))
        have Ac:=Qh (zm.O.past (.cells #[.int .i64 q.bg,.int .i64 (q.str.length:Nat),.int .i64 (x.length:Nat)] 65))
        have HD6:=Qh (AL.alloc (.cells #[.int .i64 q.bg,.int .i64 (q.str.length:Nat),.int .i64 (x.length:Nat)] 65))
        have r5:=cell_of_row w5 m 2 _ _ _ zm.O.ro
        have c2:w5.cell? ⟨m,2,none⟩=some (S q.str):=r5.trans rfl
        have n1:w5.cell? ⟨w.heap.size,1,none⟩=some (.int .i64 s.bg):=(cell_of_row w5 w.heap.size 1 _ _ _ zm.O.r0).trans rfl
        have n1q:w5.cell? ⟨w.heap.size,1,none⟩=some (.int .i64 q.bg):=by rw [Zg.O];exact n1
        have z1:=kM (.cells #[.int .i64 0,.int .i64 0,.int .i64 0] 65) n1q
        have z2:=kM (.cells #[.int .i64 0,.int .i64 0,.int .i64 0] 65) c2
        have ol:=zm.O.lt
        have aea:w.heap.size≠w5.heap.size:=by omega
        have aeb:m≠w5.heap.size:=by omega
        clear hfx wM P5 Aa Ab bI AL JH hMx r5 n1
        have P8:=Qh (heap_alloc_new w5 (.cells #[.int .i64 q.bg,.int .i64 (q.str.length:Nat),.int .i64 (x.length:Nat)] 65))
        have YD:=zm.O.hB
        have hnw:=zm.O.eU.size
        obtain ⟨bx,uY⟩:∃bx,w5.heap.size=bx:=⟨_,rfl⟩
        rw [uY] at P8 aea aeb YD hnw
        have aec:=zm.O.lt.2.1
        rw [uY] at aec
        have hJx:J bx=none:=by rw [←uY];exact zm.O.ok.fresh (Qn _)
        go_wp2_with (first
         |(at_mapUpdate;refine wpList_mapUpdate_own _ rfl _ _ _ 145 rfl 9 65 PG Tryz.underlying145 qi B nn D rfl HD6.O (by unfold maxLen;omega) _ _ _ rfl rfl LD.O _ [] (Xj1 (nO q x)) ?_)
         |go_in)
        intro w7 Ct iy
        have NP:=Qh (Ac.O.mapped iy Ct HMx.O)
        have Jp:=(iy.block bx (by simp;omega) (fun e=>by cases e;omega)).trans P8.O
        have LX:=Qh Jp
        have y0:w7.cell? ⟨bx,0,none⟩=some (.int .i64 q.bg):=(cell_of_row w7 _ 0 _ _ _ Jp).trans rfl
        have y1:w7.cell? ⟨bx,1,none⟩=some (.int .i64 (q.str.length:Nat)):=(cell_of_row w7 _ 1 _ _ _ Jp).trans rfl
        have y2:w7.cell? ⟨bx,2,none⟩=some (.int .i64 (x.length:Nat)):=(cell_of_row w7 _ 2 _ _ _ Jp).trans rfl
        have m0:w7.cell? ⟨m,0,none⟩=some (.slice ak q.aJ.length ck):=(cell_of_row w7 _ 0 _ _ _ NP.O.ro).trans rfl
        have g0:=frozen_of_row w7 _ 0 _ _ NP.O.ro
        have Gy:=NP.O.zi.1
        have mZ:=NP.O.lt
        clear Ac HD6 HMx LD Ct iy Jp z1 z2 c2 n1q P8
        go_wp2_with (at_builtin;go_loud (refine Lx (w0:=w7) Xoc rfl _ _ rfl (w.heap.size+2) _ q.aJ rfl NP.O.ck ⟨dg,nO q x⟩ [S dg,.int .i64 q.bg,.int .i64 (q.str.length:Nat),.int .i64 (x.length:Nat)] _ (by first|rfl|simp [Act.eval]) rfl (by omega) (by omega) (by omega) ?_))
        intro v9 w9 bX bK l7
        obtain ⟨a9,n9,k9,rfl⟩:=Jb bX
        have Vo:=fC bK Gy m0
        have Vp:=JZ bK Gy m0 g0
        have zZ:=Qh (NP.O.added (q':=⟨q.aJ++ [⟨dg,nO q x⟩],q.bg,q.str⟩) bX bK l7 rfl rfl)
        have VQ:=(heap_setCell_other w9 ⟨m,0,none⟩ bx (.slice a9 n9 k9) (by show bx≠m;omega)).trans ((bK.block bx (Qg LX.O) (fun e=>BR NP.O.ck LX.O (by decide) e.symm)).trans LX.O)
        have s2:(w9.setCell ⟨m,0,none⟩ (.slice a9 n9 k9)).cell? ⟨m,2,none⟩=some (S q.str):=(cell_of_row _ _ 2 _ _ _ zZ.O.ro).trans rfl
        have t2:=frozen_of_row _ _ 2 _ _ zZ.O.ro
        have vJ:=Qh (zZ.O.wrote (q.str++x))
        have EW:=(heap_setCell_other _ ⟨m,2,none⟩ bx (S (q.str++x)) (by show bx≠m;omega)).trans VQ
        have x0:=(cell_of_row _ _ 0 _ _ _ EW).trans rfl
        have x1:=(cell_of_row _ _ 1 _ _ _ EW).trans rfl
        have x2:=(cell_of_row _ _ 2 _ _ _ EW).trans rfl
        have ad2:¬9223372036854775807<q.str.length+x.length:=by omega
        clear NP y0 y1 y2 m0 g0 bX bK l7 VQ EW LX
        go_wp2_with fail
        refine (Xth J bo (w.heap.size+2) _ _ (nO q x) _ vJ.O.ox vJ.O.rb (by have:=vJ.O.lt;omega) (by omega) Mv LU).mono ?_
        rintro e11 sM ⟨u11,v11,rfl,wG,VR,nE,VS⟩
        have aed:=Qh (vJ.O.PO wG VR nE VS)
        clear wG VR nE VS s2 t2 x0 x1 x2 Vo Vp
        go_wp2
        go_roundw
        case rel=>exact ⟨j+1,mc+1,nn+1,_,_,_,_,J,by omega,by go_num,kR.O,nX.O,by omega,by omega,aed.O,Zg.O,wW.O,EU.O,Hx.O⟩
        case measure=>simp [intOf];omega
      ·have zw:j=cs.length:=by omega
       have kR:=Qh (show (q,l)=Q by have:=Hr.O;rwa [List.drop_of_length_le (by omega)] at this)
       have aee:=Qh (show (jR.drop (k+1)).foldl lV (q,l)=R by rw [kR.O];exact uz.O)
       clear Hr uz
       go_wp2
       go_roundw
       case rel=>exact ⟨k+1,mc,nn,q,l,_,_,J,by omega,by go_num,aee.O,wR.O,by omega,by omega,HM.O,Zg.O,wW.O,Hx.O⟩
       case measure=>simp [intOf];omega
   ·have oh:k=jR.length:=by omega
    have kR:=Qh (show R=(q,l) by have:=Hr.O;rw [List.drop_of_length_le (by omega)] at this;exact this.symm)
    obtain ⟨ak,ck,rfl⟩:=wT HM.O.ck
    obtain ⟨ae,ce,rfl⟩:=wT HM.O.ox
    have z0:wr.cell? ⟨m,0,none⟩=some (.slice ak q.aJ.length ck):=(cell_of_row wr _ 0 _ _ _ HM.O.ro).trans rfl
    have z1:wr.cell? ⟨m,1,none⟩=some (.int .i64 q.bg):=(cell_of_row wr _ 1 _ _ _ HM.O.ro).trans rfl
    have z2:wr.cell? ⟨m,2,none⟩=some (S q.str):=(cell_of_row wr _ 2 _ _ _ HM.O.ro).trans rfl
    have zb:wr.cell? ⟨bo,0,none⟩=some (.slice ae l.length ce):=(cell_of_row wr _ 0 _ _ _ HM.O.rb).trans rfl
    obtain ⟨J1,k1a,k1b,k1c,YB,k1e⟩:=HM.O.ck.zW HM.O.ok HM.O.fk
    have mG:∀g,(Value.slice ae l.length ce).ownBlock=some g→J1 g=none:=fun g hg=>by
     rw [k1e g (fun e=>by rcases HM.O.kv with h|h; ·rw [h] at e;cases e
                          ·exact h (by rw [e,hg]))]
     exact HM.O.fe g hg
    obtain ⟨J2,k2a,k2b,k2c,YC,k2e⟩:=(HM.O.ox.mono k1a).zW k1c mG
    have Ri:J2 (w.heap.size+1)=none:=by
     rw [k2e _ (HM.O.EQ.2.2.2 _ (by omega)),k1e _ (HM.O.zi.2.2.2 _ (by omega))]
     exact HM.O.fn _ (by simp)
    have HJ:=Qh (And.intro ((Hx.O.trans (k1b.mono (show w.heap.size≤w.heap.size+2 by omega)) (Qn _)).trans (k2b.mono (show w.heap.size≤w.heap.size+2 by omega)) (Qn _)) (And.intro k2c (And.intro (YB.mono k2a) YC)))
    clear k1a k1b k1c YB k1e k2a k2b k2c YC k2e mG Hr iZ hlen
    go_wp2_with fail
    refine qR (X:=Nat × Nat) (pvL w.heap.size m bo ak q.aJ.length ck q.bg q.str ((.slice ae l.length ce))) (zh wr 209 210 (fun _ _=>True) (fun _ _=>True) (fun x=>w.heap.size+1) 43 3 207 208 (fun x=> #[.slice ak q.aJ.length ck,.int .i64 q.bg,S q.str]) (fun x=> #[.slice ak q.aJ.length ck,.int .i64 q.bg,S q.str]) (fun x=> #[.slice ak q.aJ.length ck,.int .i64 q.bg,S q.str])) (by kernel_rfl) (by kernel_rfl) ?_ ?_ ?_
    ·exact ⟨(0,default),zh.start _ _⟩
    ·rintro x s' a' w' i bS bO ha hC hi
     obtain ⟨aH,oi,dI,au⟩:=mem_ready.1 hi
     rcases i with _|_|_|_|_|_|i
     rotate_left 6
     ·simp at dI
     all_goals
      have dH:=dI
      simp at dI
      subst dI
      simp [Region.binds] at au
     ·have e7:a'.tmps[7]?.getD undef= .pointer (some ⟨m,0,none⟩):=oL ha (by simp)
      have hl:s'.getD 3 false=false:=gU bO [0] (by kernel_rfl) (by rfl) aH
      have cq:=aV (hC.off hl) z0
      have cr:=aV (hC.off hl) z1
      have cs:=aV (hC.off hl) z2
      refine wpOp_step dH (fun K' hK=> ?_)
      rw [if_pos (by rfl)]
      unfold Oper.wp
      simp [go_sem,e7,cq,cr,cs,Oper.upon]
      exact hK _ _ ⟨x,dS (d:=some 108) (v:= .agg #[.slice ak q.aJ.length ck,.int .i64 q.bg,S q.str]) LV ha rfl aH,hC.pure (by decide) (by decide) (by decide) (by decide) (by decide)⟩
     ·have e10:a'.tmps[10]?.getD undef= .func (.func 145) #[] #[.pointer (some ⟨bo,0,none⟩)]:=oL ha (by simp)
      refine wpOp_step dH (fun K' hK=> ?_)
      rw [if_pos (by rfl)]
      unfold Oper.wp
      simp [go_sem,e10,Oper.upon]
      exact hK _ _ ⟨x,dS (d:=some 109) (v:= .func (.func 145) #[] #[.pointer (some ⟨bo,0,none⟩)]) LV ha rfl aH,hC.pure (by decide) (by decide) (by decide) (by decide) (by decide)⟩
     ·have e109:a'.tmps[109]?.getD undef= .func (.func 145) #[] #[.pointer (some ⟨bo,0,none⟩)]:=gI (i:=1) LV ha rfl (by first|simpa using au|simp [au]) (by simp)
      have hl:s'.getD 3 false=false:=gU bO [2] (by kernel_rfl) (by rfl) aH
      have ct:=aV (hC.off hl) zb
      refine wpOp_step dH (fun K' hK=> ?_)
      rw [if_pos (by rfl)]
      unfold Oper.wp
      simp [go_sem,e109,Oper.upon]
      refine (Xw6 bo _ w' ct).mono ?_
      rintro r4 w4 ⟨rfl,rfl⟩
      exact hK _ _ ⟨x,dS (d:=some 110) (v:=(.slice ae l.length ce)) LV ha rfl aH,hC.pure (by decide) (by decide) (by decide) (by decide) (by decide)⟩
     ·have e4:a'.tmps[4]?.getD undef= .pointer (some ⟨w.heap.size+1,0,none⟩):=oL ha (by simp)
      have e108:a'.tmps[108]?.getD undef= .agg #[.slice ak q.aJ.length ck,.int .i64 q.bg,S q.str]:=gI (i:=0) LV ha rfl (by first|simpa using au|simp [au]) (by simp)
      refine wpOp_step dH (fun K' hK=> ?_)
      rw [if_pos (by rfl)]
      have Ms:s'.getD 3 false=false:=gG aH
      have aK:w'.heap[w.heap.size+1]? =some (.cells _ 43 (0,0)):=(by exact ((hC.off Ms).block _ (Qg HM.O.r1)).trans HM.O.r1)
      refine oK 43 _ _ rfl (w.heap.size+1) 0 [.slice ak q.aJ.length ck,.int .i64 q.bg,S q.str] (.agg #[.slice ak q.aJ.length ck,.int .i64 q.bg,S q.str]) (by simp [Act.eval,e4,e108]) (by simp [Act.eval,e4,e108]) (by rfl) _ _ aK (by simp) (by kernel_rfl) (by simp [Value.oneCell']) ?_
      exact hK _ _ ⟨x,dS (d:=none) (v:=undef) LV ha rfl aH,hC.jP aH trivial trivial (gX (by simp [bS])) (gX (by simp [bS])) (by decide) aK (by rfl)⟩
     ·have aeg:a'.tmps[110]?.getD undef=(.slice ae l.length ce):=gI (i:=2) LV ha rfl (by first|simpa using au|simp [au]) (by simp)
      refine wpOp_step dH (fun K' hK=> ?_)
      rw [if_pos (by rfl)]
      unfold Oper.wp
      simp [go_sem,aeg,Oper.upon]
      exact hK _ _ ⟨x,dS (d:=some 5) (v:=(.slice ae l.length ce)) LV ha rfl aH,hC.pure (by decide) (by decide) (by decide) (by decide) (by decide)⟩
     ·refine wpOp_step dH (fun K' hK=> ?_)
      rw [if_pos (by rfl)]
      unfold Oper.wp
      simp [go_sem,Oper.upon]
      exact hK _ _ ⟨x,dS (d:=some 6) (v:= .int .i64 0) LV ha rfl aH,hC.pure (by decide) (by decide) (by decide) (by decide) (by decide)⟩
    ·rintro x s' a' w8 eu ha hC
     obtain ⟨wb,eG,yN,yM,dR,aK⟩:=hC.on (eu 3 (by decide))
     simp only [ite_self] at aK
     rw [qz _ _ _ _ (fun i hi=>by rw [Nat.zero_add];exact eu i (by simpa using hi))] at ha
     subst ha
     simp only [dE,Act.put]
     have nz:Below w.heap.size w w8:=(HM.O.eU.trans (eG.mono hsw)).grown dR (by have:=eG.size;omega) (fun g e=>by cases e;omega)
     have lG:Ok J2 w8:=(HJ.O.2.1.below (Qn _) eG).grown dR (fun g e=>by cases e;exact Ri)
     go_wp2
     refine bodyPost_ret (v:= .tuple #[fD q (.slice ak q.aJ.length ck),.slice ae l.length ce,.int .i64 0]) ?_ rfl ?_
     ·rw [Bo rfl]
      simp [asAddr,run_loadVar_row _ (w.heap.size+1) 43 43 #[.slice ak q.aJ.length ck,.int .i64 q.bg,S q.str] (0,0) _ aK Tryz.underlying43 rfl wQ.O]
     ·rw [Hn.O,kR.O]
      exact ⟨_,_,J2,rfl,nz,HJ.O.1,lG,HJ.O.2.2.1,HJ.O.2.2.2⟩
theorem fO{P:Program}{rest:List Oper}{o:Oper}{w:World}{Q:Exit→Act→World→Prop}(Ak:o.guard=none)(hd:o.dst=none)(ty:TypeId)(x y:Operand)(ho:o.op= .store ty x y)
 (g off:Nat) (cs:List Value) (v:Value) (hx:a.eval x= .pointer (some ⟨g,off,none⟩)) (hy:a.eval y=v) (hv:v.cells=cs.toArray) (cur:Array Value) (tt:TypeId)
 (hg:w.heap[g]?=some (.cells cur tt (0,0))) (p9:off+cs.length≤cur.size) (hi:(P.info? ty).map (·.size)=some cs.length) (h1:∀v∈cs,v.oneCell'=true) (R:Array Value) (hR:over cur off cs=R)
 (h:∀w',w.grownBy w' (some g)→w'.heap[g]?=some (.cells R tt (0,0))→wpList P ops Q rest a w'):wpList P ops Q (o::rest) a w:=by
 refine wpList_plain Ak fun _ hK=> ?_;exact oK ty x y ho g off cs v hx hy hv cur tt hg p9 hi h1 (hK _ _ (by rw[hd];exact h _ bA (by rw[←hR];exact setRow_heap w g cur _ tt (0,0) hg)))
def dG:List (Option Tmp×Value)→Nat→Array Bool→Tmp→Value→Value
 | [],_,_,_,d=>d
 |(e,u)::l,k,s,t,d=>if e=some t then(if s.getD k false=true then u else d)else dG l (k+1) s t d
theorem Xkq:∀(l:List (Option Tmp×Value)) (k:Nat) (s:Array Bool) (a:Act) (t:Tmp),bC l→t<a.tmps.size→(dN l k s a).eval (.tmp t)=dG l k s t (a.eval (.tmp t))
 | [],_,_,_,_,_,_=>rfl
 |(e,u)::l,k,s,a,t,hp,ht=>by
  obtain⟨h1,h2⟩:=List.pairwise_cons.1 hp;rw[dN,dG];by_cases he:e=some t
  ·subst he;rw[if_pos rfl,YF l _ _ _ _ fun p hp=>h1 p hp t rfl];split
   ·simp[Act.eval,Act.put,ht]
   ·rfl
  ·rw[if_neg he];by_cases hs:s.getD k false=true
   ·rw[if_pos hs,Xkq l _ _ _ _ h2 (by rw[Xo2];exact ht),Xh5 a u he]
   ·rw[if_neg hs];exact Xkq l _ _ _ _ h2 ht
theorem vV(hp:bC L)(ha:a'=dN L 0 s a)(t:Tmp)(ht:t<a.tmps.size):a'.tmps[t]?.getD undef=dG L 0 s t (a.tmps[t]?.getD undef):=by
 have h:=Xkq L 0 s a t hp ht;rw[←ha]at h;simpa[Act.eval]using h
theorem gD{d:Tmp}{v:Value}(hp:bC L)(ha:a'=dN L 0 s a)(hi:L[i]?=some (some d,v))(aH:s.getD i true=false):
 ({tmps:=a'.tmps.setIfInBounds d v,defers:=a'.defers}:Act)=dN L 0 (s.setIfInBounds i true) a:=dS (d:=some d) hp ha hi aH
def xU(ops:Array Oper):Nat→Nat→Nat→Bool
 |0,k,i=>k==i
 |f+1,k,i=>k==i || (match ops[k]? with|some o=>o.after.any fun e=>Region.binds .any e&&xU ops f e.on i|none=>false)
theorem Xo0(h:Lt ops s):∀(f k i:Nat),xU ops f k i=true→s.getD k false=true→s.getD i false=true
 |0,k,i,hr,hk=>by
  have:k=i:=by simpa[xU]using hr
  subst this;exact hk
 |f+1,k,i,hr,hk=>by
  rw[xU,Bool.or_eq_true]at hr;rcases hr with hr|hr
  ·have:k=i:=by simpa using hr
   subst this;exact hk
  ·cases ho:ops[k]? with
   |none=>rw[ho]at hr;cases hr
   |some o=>
    rw[ho]at hr;simp only[Array.any_eq_true,Bool.and_eq_true]at hr;obtain⟨n,hn,h3,h4⟩:=hr;exact Xo0 h f _ i h4 (h k o ho hk _ (Array.getElem_mem hn) h3)
theorem kz(f k:Nat)(h:Lt ops s)(hp:xU ops f k i=true)(aH:s.getD i true=false):s.getD k false=false:=by
 cases hk:s.getD k false with
 |false=>rfl
 |true=>have:=Xo0 h f k i hp hk;rw[gG aH]at this;cases this
theorem Gl{g:Nat}(h:(s.setIfInBounds i true).getD g false=false):s.getD g false=false:=by
 by_cases e:i=g
 ·subst e;cases hg:s.getD i false with
  |false=>rfl
  |true=>
   have hlt:i<s.size:=by
    rcases Nat.lt_or_ge i s.size with h'|h'
    ·exact h'
    ·rw[gX h']at hg;cases hg
   rw[y9 hlt]at h;cases h
 ·rwa[getD_set_ne false e]at h
theorem Nb{j:Nat}(h:(s.setIfInBounds i true).getD j false=true):i=j∨s.getD j false=true:=by
 by_cases e:i=j
 ·exact .inl e
 ·rw[getD_set_ne false e]at h;exact .inr h
structure jX {X:Type} (W:World) (j1 g1 j2 g2 j3 g3 j4 g4:Nat) (G0 G1 G2 G3 G4 Fin:X→World→Prop) (m:X→Nat) (t:TypeId) (s1 s2 s3:Nat) (R1 R2 R3:X→Array Value) (x:X) (s:Array Bool) (w:World):Prop where
 off:s.getD s1 false=false→Below W.heap.size W w
 inv:s.getD s1 false=false→G0 x w
 f1:s.getD j1 false=true→s.getD g1 false=false→s.getD s1 false=false→G1 x w
 f2:s.getD j2 false=true→s.getD g2 false=false→s.getD s1 false=false→G2 x w
 f3:s.getD j3 false=true→s.getD g3 false=false→s.getD s1 false=false→G3 x w
 f4:s.getD j4 false=true→s.getD g4 false=false→s.getD s1 false=false→G4 x w
 on:s.getD s1 false=true→ ∃wb,Below W.heap.size W wb∧Fin x wb∧wb.grownBy w (some (m x))∧
  w.heap[m x]?=some (.cells (if s.getD s3 false=true then R3 x else if s.getD s2 false=true then R2 x else R1 x) t (0,0))
section
variable {X:Type} {W w w':World} {j1 g1 j2 g2 j3 g3 j4 g4:Nat} {G0 G1 G2 G3 G4 Fin:X→World→Prop} {m:X→Nat} {t:TypeId} {s1 s2 s3:Nat} {R1 R2 R3:X→Array Value} {x:X} {s:Array Bool} {i:Nat}
theorem jX.start(n:Nat)(x:X)(h0:G0 x {W with drawn:=W.drawn+1}):jX W j1 g1 j2 g2 j3 g3 j4 g4 G0 G1 G2 G3 G4 Fin m t s1 s2 s3 R1 R2 R3 x (Array.replicate n false) {W with drawn:=W.drawn+1}:=
 ⟨fun _=>(Qb _ _).drew,fun _=>h0,fun h=>(by rw[wJ]at h;cases h),fun h=>(by rw[wJ]at h;cases h),fun h=>(by rw[wJ]at h;cases h),fun h=>(by rw[wJ]at h;cases h),fun h=>(by rw[wJ]at h;cases h)⟩
theorem jX.pure(h:jX W j1 g1 j2 g2 j3 g3 j4 g4 G0 G1 G2 G3 G4 Fin m t s1 s2 s3 R1 R2 R3 x s w)(hd:i≠j1∧i≠j2∧i≠j3∧i≠s1∧i≠s2∧i≠s3∧i≠j4):jX W j1 g1 j2 g2 j3 g3 j4 g4 G0 G1 G2 G3 G4 Fin m t s1 s2 s3 R1 R2 R3 x (s.setIfInBounds i true) w:=by
 obtain⟨h1,h2,h3,h4,h5,h6,h7⟩:=hd;refine⟨?_,?_,?_,?_,?_,?_,?_⟩
 ·rw[getD_set_ne false h4];exact h.off
 ·rw[getD_set_ne false h4];exact h.inv
 ·rw[getD_set_ne false h1,getD_set_ne false h4];exact fun a b=>h.f1 a (Gl b)
 ·rw[getD_set_ne false h2,getD_set_ne false h4];exact fun a b=>h.f2 a (Gl b)
 ·rw[getD_set_ne false h3,getD_set_ne false h4];exact fun a b=>h.f3 a (Gl b)
 ·rw[getD_set_ne false h7,getD_set_ne false h4];exact fun a b=>h.f4 a (Gl b)
 ·rw[getD_set_ne false h4,getD_set_ne false h5,getD_set_ne false h6];exact h.on
theorem jX.step(h:jX W j1 g1 j2 g2 j3 g3 j4 g4 G0 G1 G2 G3 G4 Fin m t s1 s2 s3 R1 R2 R3 x s w)(hl:s.getD s1 false=false)(hb:Below W.heap.size W w')(hi:i≠s1){x':X}(k0:G0 x w→G0 x' w')
 (k1:i=j1∨(s.getD j1 false=true∧s.getD g1 false=false∧G1 x w)→i≠g1→G1 x' w') (k2:i=j2∨(s.getD j2 false=true∧s.getD g2 false=false∧G2 x w)→i≠g2→G2 x' w') (k3:i=j3∨(s.getD j3 false=true∧s.getD g3 false=false∧G3 x w)→i≠g3→G3 x' w') (k4:i=j4∨(s.getD j4 false=true∧s.getD g4 false=false∧G4 x w)→i≠g4→G4 x' w') (hlt:i<s.size):
 jX W j1 g1 j2 g2 j3 g3 j4 g4 G0 G1 G2 G3 G4 Fin m t s1 s2 s3 R1 R2 R3 x' (s.setIfInBounds i true) w':=by
 have aux:∀{g:Nat},(s.setIfInBounds i true).getD g false=false→i≠g:=fun b e=>by subst e;rw[y9 hlt]at b;cases b
 refine⟨fun _=>hb,fun _=>k0 (h.inv hl),fun a b _=>k1 ?_ (aux b),fun a b _=>k2 ?_ (aux b),fun a b _=>k3 ?_ (aux b),fun a b _=>k4 ?_ (aux b),?_⟩
 ·exact(Nb a).imp id fun q=>⟨q,Gl b,h.f1 q (Gl b) hl⟩
 ·exact(Nb a).imp id fun q=>⟨q,Gl b,h.f2 q (Gl b) hl⟩
 ·exact(Nb a).imp id fun q=>⟨q,Gl b,h.f3 q (Gl b) hl⟩
 ·exact(Nb a).imp id fun q=>⟨q,Gl b,h.f4 q (Gl b) hl⟩
 ·rw[getD_set_ne false hi,hl];intro q;cases q
theorem jX.jP(h:jX W j1 g1 j2 g2 j3 g3 j4 g4 G0 G1 G2 G3 G4 Fin m t s1 s2 s3 R1 R2 R3 x s w)(aH:s.getD s1 true=false)(hf:Fin x w)(h2:s.getD s2 false=false)(h3:s.getD s3 false=false)(hd:s1≠s2∧s1≠s3)
 {cur:Array Value} (hg:w.heap[m x]?=some (.cells cur t (0,0)))  (hR:R=R1 x):jX W j1 g1 j2 g2 j3 g3 j4 g4 G0 G1 G2 G3 G4 Fin m t s1 s2 s3 R1 R2 R3 x (s.setIfInBounds s1 true) (w.setRow (m x) R):=by
 have e:=y9 (oO aH);have hl:s.getD s1 false=false:=gG aH;refine⟨fun q=>(by rw[e]at q;cases q),fun q=>(by rw[e]at q;cases q),fun _ _ q=>(by rw[e]at q;cases q),fun _ _ q=>(by rw[e]at q;cases q),fun _ _ q=>(by rw[e]at q;cases q),fun _ _ q=>(by rw[e]at q;cases q),fun _=>⟨w,h.off hl,hf,bA,?_⟩⟩;rw[getD_set_ne false hd.1,getD_set_ne false hd.2,h2,h3,hR];exact setRow_heap w (m x) cur _ t (0,0) hg
theorem jX.wH(h:jX W j1 g1 j2 g2 j3 g3 j4 g4 G0 G1 G2 G3 G4 Fin m t s1 s2 s3 R1 R2 R3 x s w)(aH:s.getD s2 true=false)(h1:s.getD s1 false=true)(h3:s.getD s3 false=false)(hd:s2≠s1∧s2≠s3)(hR:R=R2 x):
 jX W j1 g1 j2 g2 j3 g3 j4 g4 G0 G1 G2 G3 G4 Fin m t s1 s2 s3 R1 R2 R3 x (s.setIfInBounds s2 true) (w.setRow (m x) R):=by
 have e:=y9 (oO aH);have e1:(s.setIfInBounds s2 true).getD s1 false=true:=by rw[getD_set_ne false hd.1];exact h1
 obtain⟨wb,k1,k2,k4,k5⟩:=h.on h1;refine⟨fun q=>(by rw[e1]at q;cases q),fun q=>(by rw[e1]at q;cases q),fun _ _ q=>(by rw[e1]at q;cases q),fun _ _ q=>(by rw[e1]at q;cases q),fun _ _ q=>(by rw[e1]at q;cases q),fun _ _ q=>(by rw[e1]at q;cases q),fun _=>⟨wb,k1,k2,Xin k4 (bA),?_⟩⟩;rw[getD_set_ne false hd.2,h3,e,hR];exact setRow_heap w (m x) _ _ t (0,0) k5
theorem jX.TB(h:jX W j1 g1 j2 g2 j3 g3 j4 g4 G0 G1 G2 G3 G4 Fin m t s1 s2 s3 R1 R2 R3 x s w)(aH:s.getD s3 true=false)(h1:s.getD s1 false=true)(hd:s3≠s1)(hR:R=R3 x):
 jX W j1 g1 j2 g2 j3 g3 j4 g4 G0 G1 G2 G3 G4 Fin m t s1 s2 s3 R1 R2 R3 x (s.setIfInBounds s3 true) (w.setRow (m x) R):=by
 have e:=y9 (oO aH);have e1:(s.setIfInBounds s3 true).getD s1 false=true:=by rw[getD_set_ne false hd];exact h1
 obtain⟨wb,k1,k2,k4,k5⟩:=h.on h1;refine⟨fun q=>(by rw[e1]at q;cases q),fun q=>(by rw[e1]at q;cases q),fun _ _ q=>(by rw[e1]at q;cases q),fun _ _ q=>(by rw[e1]at q;cases q),fun _ _ q=>(by rw[e1]at q;cases q),fun _ _ q=>(by rw[e1]at q;cases q),fun _=>⟨wb,k1,k2,Xin k4 (bA),?_⟩⟩;rw[e,hR];exact setRow_heap w (m x) _ _ t (0,0) k5
theorem jX.zC(h:jX W j1 g1 j2 g2 j3 g3 j4 g4 G0 G1 G2 G3 G4 Fin m t s1 s2 s3 R1 R2 R3 x s w)(h1:s.getD s1 false=true)(h2:s.getD s2 false=false)(h3:s.getD s3 false=false):w.heap[m x]?=some (.cells (R1 x) t (0,0)):=by
 obtain⟨wb,_,_,_,k5⟩:=h.on h1;rw[h2,h3]at k5;exact k5
theorem jX.jC(h:jX W j1 g1 j2 g2 j3 g3 j4 g4 G0 G1 G2 G3 G4 Fin m t s1 s2 s3 R1 R2 R3 x s w)(h1:s.getD s1 false=true)(h2:s.getD s2 false=true)(h3:s.getD s3 false=false):w.heap[m x]?=some (.cells (R2 x) t (0,0)):=by
 obtain⟨wb,_,_,_,k5⟩:=h.on h1;rw[h2,h3]at k5;exact k5
end
