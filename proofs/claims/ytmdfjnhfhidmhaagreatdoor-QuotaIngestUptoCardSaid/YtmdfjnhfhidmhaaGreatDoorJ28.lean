/- Lemmas for the claim's theorem;conditions: as each says. -/
import Derived.Test.YtmdfjnhfhidmhaaGreatDoorJ20
import Derived.Test.YtmdfjnhfhidmhaaGreatDoorJ25
set_option maxHeartbeats 0
set_option maxRecDepth 100000
set_option linter.all false
namespace Go.Proofs.YtmdfjnhfhidmhaaGreatDoor
open Go.RowKit
variable{n le:Nat}{aV:Int}{str:af}
abbrev Pn(n:Nat)(ao:Option Addr)(le cap:Nat)(aV:Int)(str:af)(x:Nat×(Option Addr×Nat)):List (Option Tmp×Value):=
 [(some 18,.pointer (some ⟨n,0,none⟩)),(some 19,.slice ao le cap),(some 20,.slice x.2.1 le x.2.2),(some 21,.pointer (some ⟨n,1,none⟩)),(some 22,.int .i64 aV),(some 23,.pointer (some ⟨n,2,none⟩)),(some 24,S str),(some 25,.agg #[.slice x.2.1 le x.2.2,.int .i64 aV,S str]),(some 7,.pointer (some ⟨x.1,0,none⟩)),(none,undef)]
theorem xY{ao:Option Addr}{cap:Nat}{x:Nat×(Option Addr×Nat)}:cO (Pn n ao le cap aV str x):=by
 unfold cO;simp
abbrev pvL(n m bo:Nat)(ak:Option Addr)(le ck:Nat)(aV:Int)(str:af)(ve:Value)(x:Nat×Nat):List (Option Tmp×Value):=
 [(some 108,.agg #[.slice ak le ck,.int .i64 aV,S str]),(some 109,.func (.func 196) #[] #[.pointer (some ⟨bo,0,none⟩)]),(some 110,ve),(none,undef),(some 5,ve),(some 6,.int .i64 0)]
theorem Jb{m bo:Nat}{ak:Option Addr}{ck:Nat}{ve:Value}{x:Nat×Nat}:cO (pvL n m bo ak le ck aV str ve x):=by
 unfold cO;simp
theorem Xvi (L C:Nat) (hL:L≤4294967296) (hC0:C≤10000000) (I:IH) (s:fM) (vc:Value) (hv:aZ qf I vc s.aJ) (hs:KE L C s) (hd:∀c∈s.aJ,c.d.length≤32) (c:af) (hc:c.length≤4294967280) (w:World) (hw:Ok I w):
 Calls Tryz.prog 103 #[fH s vc,S c] w (Fy I w (jL s c)):=by
 have aoZ:=hs.aJ
 obtain ⟨ao,cap,rfl,_,_,_⟩:=id hv
 have qO:=Qh (fun w hw=>Xor I _ s.aJ hv w hw (by omega))
 have Df:=Qh (fun w hw=>Xus I s _ hv (by omega) hd w hw)
 obtain ⟨W2,xu⟩:∃W2,((w.alloc (.cells #[.slice ao s.aJ.length cap,.int .i64 s.aV,S s.str] 40)).alloc (.cells #[.slice none 0 0,.int .i64 0,S []] 40))=W2:=⟨_,rfl⟩
 have aX:Ok I W2:=by rw [←xu];exact (hw.alloc _).alloc _
 have eZ:W2.heap.size=w.heap.size+2:=by rw [←xu];simp
 have Ec:=Qh (show W2.heap[w.heap.size]? =some (.cells #[.slice ao s.aJ.length cap,.int .i64 s.aV,S s.str] 40 (0,0)) by rw [←xu];exact (Below.heap_alloc _ _ _ (by simp)).trans (heap_alloc_new w _))
 have uz:=Qh (show W2.heap[w.heap.size+1]? =some (.cells #[.slice none 0 0,.int .i64 0,S []] 40 (0,0)) by
  rw [←xu]
  have h:=heap_alloc_new (w.alloc (.cells #[.slice ao s.aJ.length cap,.int .i64 s.aV,S s.str] 40)) (.cells #[.slice none 0 0,.int .i64 0,S []] 40)
  simpa using h)
 have aL:Below w.heap.size w W2:=by rw [←xu];exact ((Qb _ _).alloc (Qn _) _).alloc (by simp) _
 have c0:W2.cell? ⟨w.heap.size,0,none⟩=some (.slice ao s.aJ.length cap):=(cell_of_row _ _ 0 _ _ _ Ec.O).trans rfl
 have c1:W2.cell? ⟨w.heap.size,1,none⟩=some (.int .i64 s.aV):=(cell_of_row _ _ 1 _ _ _ Ec.O).trans rfl
 have c2:W2.cell? ⟨w.heap.size,2,none⟩=some (S s.str):=(cell_of_row _ _ 2 _ _ _ Ec.O).trans rfl
 have Hs:=Qh hs
 clear hv hs hd
 go_enter Tryz.func103,Tryz.ntmps103
 go_wp2_with fail
 refine yz (X:=Nat × (Option Addr × Nat)) (Pn w.heap.size ao s.aJ.length cap s.aV s.str) (wW W2 2 8 (fun y w=>aK qf 156 I w W2.heap.size (.slice y.1 s.aJ.length y.2) s.aJ) (fun k w=>w.heap[k]? =some (.cells #[.slice none 0 0,.int .i64 0,S []] 40 (0,0))∧W2.heap.size≤k) (fun x=>x.1) 40 9 211 212 (fun x=> #[.slice x.2.1 s.aJ.length x.2.2,.int .i64 s.aV,S s.str]) (fun x=> #[.slice x.2.1 s.aJ.length x.2.2,.int .i64 s.aV,S s.str]) (fun x=> #[.slice x.2.1 s.aJ.length x.2.2,.int .i64 s.aV,S s.str])) (by kernel_rfl) (by kernel_rfl) ?_ ?_ ?_
 ·exact ⟨(0,default),wW.start _ _⟩
 ·rintro x s' a' w' i dM dC ha hC hi
  obtain ⟨aN,oi,fP,aC⟩:=mem_ready.1 hi
  rcases i with _|_|_|_|_|_|_|_|_|_|i
  rotate_left 10
  ·simp at fP
  all_goals
   have dV:=fP
   simp at fP
   subst fP
   simp [Region.binds] at aC
  ·have e2:a'.tmps[2]?.getD undef= .pointer (some ⟨w.heap.size,0,none⟩):=oD ha (by simp)
   refine wpOp_step dV (fun K' hK=> ?_)
   rw [if_pos (by rfl)]
   unfold Oper.wp
   simp [go_sem,e2,Oper.upon]
   exact hK _ _ ⟨x,eO (d:=some 18) (v:= .pointer (some ⟨w.heap.size,0,none⟩)) xY ha rfl aN,hC.pure (by decide) (by decide) (by decide) (by decide) (by decide)⟩
  ·have e18:a'.tmps[18]?.getD undef= .pointer (some ⟨w.heap.size,0,none⟩):=gT (i:=0) xY ha rfl (by first|simpa using aC|simp [aC]) (by simp)
   have hl:s'.getD 9 false=false:=iH dC [1] (by kernel_rfl) (by rfl) aN
   have cq:=bK (hC.off hl) c0
   refine wpOp_step dV (fun K' hK=> ?_)
   rw [if_pos (by rfl)]
   unfold Oper.wp
   simp [go_sem,e18,cq,Oper.upon]
   exact hK _ _ ⟨x,eO (d:=some 19) (v:= .slice ao s.aJ.length cap) xY ha rfl aN,hC.pure (by decide) (by decide) (by decide) (by decide) (by decide)⟩
  ·have e19:a'.tmps[19]?.getD undef= .slice ao s.aJ.length cap:=gT (i:=1) xY ha rfl (by first|simpa using aC|simp [aC]) (by simp)
   have hl:s'.getD 9 false=false:=iH dC [2] (by kernel_rfl) (by rfl) aN
   have pR:=aX.below (Qn _) (hC.off hl)
   refine wpOp_step dV (fun K' hK=> ?_)
   rw [if_pos (by rfl)]
   unfold Oper.wp
   simp [go_sem,e19,Oper.upon]
   refine (qO.O _ pR).mono ?_
   rintro r4 w4 ⟨v7,rfl,ho,aR⟩
   obtain ⟨a7,k7,rfl⟩:=Dk ho
   have ha:=ha.trans (uq (L:=Pn w.heap.size ao s.aJ.length cap s.aV s.str x) (M:=Pn w.heap.size ao s.aJ.length cap s.aV s.str (x.1,(a7,k7))) [2,7] rfl (fun j bn=>by
    rcases j with _|_|_|_|_|_|_|_|_|_|j<;>first|rfl|(exact absurd (by decide) bn)|simp) (List.forall_mem_cons.2 ⟨jZ aN,List.forall_mem_cons.2 ⟨iH dC [2] (by kernel_rfl) (by rfl) aN,List.forall_mem_nil _⟩⟩))
   exact hK _ _ ⟨(x.1,(a7,k7)),eO (d:=some 20) (v:= .slice (a7,k7).1 s.aJ.length (a7,k7).2) xY ha rfl aN,hC.call hl aR (ho.lower (hC.off hl).size) (fun k hk=>⟨(aR.block _ (Qg hk.1)).trans hk.1,hk.2⟩) (by decide) (by decide)⟩
  ·have e2:a'.tmps[2]?.getD undef= .pointer (some ⟨w.heap.size,0,none⟩):=oD ha (by simp)
   refine wpOp_step dV (fun K' hK=> ?_)
   rw [if_pos (by rfl)]
   unfold Oper.wp
   simp [go_sem,e2,Oper.upon]
   exact hK _ _ ⟨x,eO (d:=some 21) (v:= .pointer (some ⟨w.heap.size,1,none⟩)) xY ha rfl aN,hC.pure (by decide) (by decide) (by decide) (by decide) (by decide)⟩
  ·have e21:a'.tmps[21]?.getD undef= .pointer (some ⟨w.heap.size,1,none⟩):=gT (i:=3) xY ha rfl (by first|simpa using aC|simp [aC]) (by simp)
   have hl:s'.getD 9 false=false:=iH dC [4] (by kernel_rfl) (by rfl) aN
   have cq:=bK (hC.off hl) c1
   refine wpOp_step dV (fun K' hK=> ?_)
   rw [if_pos (by rfl)]
   unfold Oper.wp
   simp [go_sem,e21,cq,Oper.upon]
   exact hK _ _ ⟨x,eO (d:=some 22) (v:= .int .i64 s.aV) xY ha rfl aN,hC.pure (by decide) (by decide) (by decide) (by decide) (by decide)⟩
  ·have e2:a'.tmps[2]?.getD undef= .pointer (some ⟨w.heap.size,0,none⟩):=oD ha (by simp)
   refine wpOp_step dV (fun K' hK=> ?_)
   rw [if_pos (by rfl)]
   unfold Oper.wp
   simp [go_sem,e2,Oper.upon]
   exact hK _ _ ⟨x,eO (d:=some 23) (v:= .pointer (some ⟨w.heap.size,2,none⟩)) xY ha rfl aN,hC.pure (by decide) (by decide) (by decide) (by decide) (by decide)⟩
  ·have e23:a'.tmps[23]?.getD undef= .pointer (some ⟨w.heap.size,2,none⟩):=gT (i:=5) xY ha rfl (by first|simpa using aC|simp [aC]) (by simp)
   have hl:s'.getD 9 false=false:=iH dC [6] (by kernel_rfl) (by rfl) aN
   have cq:=bK (hC.off hl) c2
   refine wpOp_step dV (fun K' hK=> ?_)
   rw [if_pos (by rfl)]
   unfold Oper.wp
   simp [go_sem,e23,cq,Oper.upon]
   exact hK _ _ ⟨x,eO (d:=some 24) (v:=S s.str) xY ha rfl aN,hC.pure (by decide) (by decide) (by decide) (by decide) (by decide)⟩
  ·have e20:a'.tmps[20]?.getD undef= .slice x.2.1 s.aJ.length x.2.2:=gT (i:=2) xY ha rfl (by first|simpa using aC|simp [aC]) (by simp)
   have e22:a'.tmps[22]?.getD undef= .int .i64 s.aV:=gT (i:=4) xY ha rfl (by first|simpa using aC|simp [aC]) (by simp)
   have e24:a'.tmps[24]?.getD undef=S s.str:=gT (i:=6) xY ha rfl (by first|simpa using aC|simp [aC]) (by simp)
   refine wpOp_step dV (fun K' hK=> ?_)
   rw [if_pos (by rfl)]
   unfold Oper.wp
   simp [go_sem,e20,e22,e24,Oper.upon]
   exact hK _ _ ⟨x,eO (d:=some 25) (v:= .agg #[.slice x.2.1 s.aJ.length x.2.2,.int .i64 s.aV,S s.str]) xY ha rfl aN,hC.pure (by decide) (by decide) (by decide) (by decide) (by decide)⟩
  ·have hl:s'.getD 9 false=false:=iH dC [8] (by kernel_rfl) (by rfl) aN
   refine wpOp_step dV (fun K' hK=> ?_)
   rw [if_pos (by rfl)]
   unfold Oper.wp
   simp [go_sem,Oper.upon]
   have ha:=ha.trans (uq (L:=Pn w.heap.size ao s.aJ.length cap s.aV s.str x) (M:=Pn w.heap.size ao s.aJ.length cap s.aV s.str (w'.heap.size,x.2)) [8] rfl (fun j bn=>by
    rcases j with _|_|_|_|_|_|_|_|_|_|j<;>first|rfl|(exact absurd (by decide) bn)|simp) (List.forall_mem_cons.2 ⟨jZ aN,List.forall_mem_nil _⟩))
   exact hK _ _ ⟨(w'.heap.size,x.2),eO (d:=some 7) (v:= .pointer (some ⟨w'.heap.size,0,none⟩)) xY ha rfl aN,hC.made hl ((Qb _ _).alloc (Qn _) _) ⟨heap_alloc_new _ _,(hC.off hl).size⟩ (fun y hy=>hy.alloc _) (by decide) (by decide)⟩
  ·have e25:a'.tmps[25]?.getD undef= .agg #[.slice x.2.1 s.aJ.length x.2.2,.int .i64 s.aV,S s.str]:=gT (i:=7) xY ha rfl (by first|simpa using aC|simp [aC]) (by simp)
   have e7:a'.tmps[7]?.getD undef= .pointer (some ⟨x.1,0,none⟩):=gT (i:=8) xY ha rfl (by first|simpa using aC|simp [aC]) (by simp)
   refine wpOp_step dV (fun K' hK=> ?_)
   rw [if_pos (by rfl)]
   have sQ:s'.getD 2 false=true:=by first|simpa using aC|simp [aC]
   have TT:s'.getD 8 false=true:=by first|simpa using aC|simp [aC]
   have JJ:s'.getD 9 false=false:=jZ aN
   have aS:w'.heap[x.1]? =some (.cells _ 40 (0,0)):=(hC.fa TT JJ).1
   refine wE 40 _ _ rfl (x.1) 0 [.slice x.2.1 s.aJ.length x.2.2,.int .i64 s.aV,S s.str] (.agg #[.slice x.2.1 s.aJ.length x.2.2,.int .i64 s.aV,S s.str]) (by simp [Act.eval,e25,e7]) (by simp [Act.eval,e25,e7]) (by rfl) _ _ aS (by simp) (by kernel_rfl) (by simp [Value.oneCell']) ?_
   exact hK _ _ ⟨x,eO (d:=none) (v:=undef) xY ha rfl aN,hC.pQ aN (hC.fc sQ JJ) (hC.fa TT JJ) (mI (by simp [dM])) (mI (by simp [dM])) (by decide) aS (by rfl)⟩
 ·rintro x s' a' w8 gz ha hC
  obtain ⟨wb,gV,wG,wF,gI,aS⟩:=hC.on (gz 9 (by decide))
  simp only [ite_self] at aS
  rw [xL _ _ _ _ (fun i hi=>by rw [Nat.zero_add];exact gz i (by simpa using hi))] at ha
  subst ha
  simp only [eH,Act.put]
  obtain ⟨m,kN,k7⟩:=x
  dsimp only at wG wF gI aS ⊢
  have bn:=zm wG wF.1 (by decide)
  have uM:=wG.kept gI (.inr bn)
  have hm:w.heap.size+2≤m:=by have:=wF.2;omega
  have kL:Ok I w8:=(aX.below (Qn _) gV).grown gI (fun g e=>by cases e;exact hw.fresh (by omega))
  have kV:Below w.heap.size w w8:=(aL.trans (gV.mono aL.size)).grown gI (by have:=gV.size;omega) (fun k e=>by cases e;omega)
  have hz:∀b,b<w.heap.size+2→w8.heap[b]? =W2.heap[b]? :=fun b hb=>(gI.block _ (by have:=gV.size;omega) (fun e=>by cases e;omega)).trans (gV.block _ (by omega))
  have uB:=Qh ((hz (w.heap.size+1) (by omega)).trans uz.O)
  have MR:=Qh ((hz w.heap.size (by omega)).trans Ec.O)
  have a0:w8.cell? ⟨w.heap.size,0,none⟩=some (.slice ao s.aJ.length cap):=(cell_of_row _ _ 0 _ _ _ MR.O).trans rfl
  have a1:w8.cell? ⟨w.heap.size,1,none⟩=some (.int .i64 s.aV):=(cell_of_row _ _ 1 _ _ _ MR.O).trans rfl
  have a2:w8.cell? ⟨w.heap.size,2,none⟩=some (S s.str):=(cell_of_row _ _ 2 _ _ _ MR.O).trans rfl
  have MC:=Qh aS
  have wR:=Qh (show (Tryz.prog.info? 40).map (·.size)=some 3 by kernel_rfl)
  have VD:=Qh (uM.lower (show w.heap.size+2≤W2.heap.size by omega))
  have Pf:=Qh bn
  by_cases nk:s.aV<1∨255<s.aV∨65536<c.length
  ·obtain ⟨J,yA,nJ,Dl,_⟩:=uM.freeze kL (fun b hb=>hw.fresh (by omega))
   have HJ:=Qh (And.intro (yA.mono (show w.heap.size≤W2.heap.size by omega)) (And.intro nJ Dl))
   have vQ:J (w.heap.size+1)=none:=by rw [yA _ (by omega)];exact hw.fresh (by omega)
   have d0:w8.cell? ⟨m,0,none⟩=some (.slice kN s.aJ.length k7):=(cell_of_row _ _ 0 _ _ _ aS).trans rfl
   have d1:w8.cell? ⟨m,1,none⟩=some (.int .i64 s.aV):=(cell_of_row _ _ 1 _ _ _ aS).trans rfl
   have d2:w8.cell? ⟨m,2,none⟩=some (S s.str):=(cell_of_row _ _ 2 _ _ _ aS).trans rfl
   have g0:=frozen_of_row w8 _ 0 _ _ uB.O
   have g1:=frozen_of_row w8 _ 1 _ _ uB.O
   have g2:=frozen_of_row w8 _ 2 _ _ uB.O
   have k0:w8.cell? ⟨w.heap.size+1,0,none⟩=some (.slice none 0 0):=(cell_of_row _ _ 0 _ _ _ uB.O).trans rfl
   have k1:w8.cell? ⟨w.heap.size+1,1,none⟩=some (.int .i64 0):=(cell_of_row _ _ 1 _ _ _ uB.O).trans rfl
   have k2:w8.cell? ⟨w.heap.size+1,2,none⟩=some (S []):=(cell_of_row _ _ 2 _ _ _ uB.O).trans rfl
   have hne1:m≠w.heap.size+1:=by omega
   have hne2:w.heap.size+1≠m:=by omega
   clear hz wG wF gI aS bn uM gV hC gz yA nJ Dl c0 c1 c2 Ec uz qO kL Df Hs VD Pf
   by_cases h1:s.aV<1
   ·have e1:decide (s.aV<1)=true:=Qt h1
    have Hn:=Qh (show jL s c=(s,[],1) by rw [jL,if_pos (.inl h1)])
    clear h1 nk
    go_wp2
    refine bodyPost_ret (v:= .tuple #[fH s (.slice kN s.aJ.length k7),.slice none 0 0,.int .i64 1]) ?_ rfl ?_
    ·rw [Gw rfl]
     simp [asAddr,run_loadVar_row _ (w.heap.size+1) 40 40 #[.slice kN s.aJ.length k7,.int .i64 s.aV,S s.str] (0,0) _ (IK uB.O) Tryz.underlying40 rfl wR.O]
    ·rw [Hn.O]
     exact ⟨_,_,J,rfl,((kV.setCell (p:=⟨w.heap.size+1,0,none⟩) (Nat.le_succ _) _).setCell (p:=⟨w.heap.size+1,1,none⟩) (Nat.le_succ _) _).setCell (p:=⟨w.heap.size+1,2,none⟩) (Nat.le_succ _) _,HJ.O.1,((HJ.O.2.1.setCell vQ _).setCell vQ _).setCell vQ _,HJ.O.2.2,aZ.nil _ _⟩
   have e1:decide (s.aV<1)=false:=Qf h1
   by_cases h2:255<s.aV
   ·have e2:decide (255<s.aV)=true:=Qt h2
    have Hn:=Qh (show jL s c=(s,[],1) by rw [jL,if_pos (.inr h2)])
    clear h1 h2 nk
    go_wp2
    refine bodyPost_ret (v:= .tuple #[fH s (.slice kN s.aJ.length k7),.slice none 0 0,.int .i64 1]) ?_ rfl ?_
    ·rw [Gw rfl]
     simp [asAddr,run_loadVar_row _ (w.heap.size+1) 40 40 #[.slice kN s.aJ.length k7,.int .i64 s.aV,S s.str] (0,0) _ (IK uB.O) Tryz.underlying40 rfl wR.O]
    ·rw [Hn.O]
     exact ⟨_,_,J,rfl,((kV.setCell (p:=⟨w.heap.size+1,0,none⟩) (Nat.le_succ _) _).setCell (p:=⟨w.heap.size+1,1,none⟩) (Nat.le_succ _) _).setCell (p:=⟨w.heap.size+1,2,none⟩) (Nat.le_succ _) _,HJ.O.1,((HJ.O.2.1.setCell vQ _).setCell vQ _).setCell vQ _,HJ.O.2.2,aZ.nil _ _⟩
   have e2:decide (255<s.aV)=false:=Qf h2
   have h3:65536<c.length:=by omega
   have e3:decide ((65536:Int)<(c.length:Int))=true:=Qt (by omega)
   have Hn:=Qh (show jL s c=(s,[],6) by rw [jL,if_neg (by omega),if_pos h3])
   clear h1 h2 h3 nk
   go_wp2
   refine bodyPost_ret (v:= .tuple #[fH s (.slice kN s.aJ.length k7),.slice none 0 0,.int .i64 6]) ?_ rfl ?_
   ·rw [Gw rfl]
    simp [asAddr,run_loadVar_row _ (w.heap.size+1) 40 40 #[.slice kN s.aJ.length k7,.int .i64 s.aV,S s.str] (0,0) _ (IK uB.O) Tryz.underlying40 rfl wR.O]
   ·rw [Hn.O]
    exact ⟨_,_,J,rfl,((kV.setCell (p:=⟨w.heap.size+1,0,none⟩) (Nat.le_succ _) _).setCell (p:=⟨w.heap.size+1,1,none⟩) (Nat.le_succ _) _).setCell (p:=⟨w.heap.size+1,2,none⟩) (Nat.le_succ _) _,HJ.O.1,((HJ.O.2.1.setCell vQ _).setCell vQ _).setCell vQ _,HJ.O.2.2,aZ.nil _ _⟩
  have e1:decide (s.aV<1)=false:=Qf (by omega)
  have e2:decide (255<s.aV)=false:=Qf (by omega)
  have e3:decide ((65536:Int)<(c.length:Int))=false:=Qf (by omega)
  have h1:1≤s.aV∧s.aV≤255∧c.length≤65536:=by omega
  obtain ⟨R,hR⟩:∃R,(iK c).foldl mq (s,[])=R:=⟨_,rfl⟩
  have Hn:=Qh (show jL s c=(R.1,R.2,0) by rw [jL,if_neg (by omega),if_neg (by omega),hR])
  have HR:=Qh (show ((iK c).drop 0).foldl mq (s,[])=R from hR)
  have oC:=Qh (fun w=>Xtp I c hc w)
  have zt:=Qh (Uu (s:=c))
  have dM:gJ ((iK c).drop 0)≤65536:=by rw [List.drop_zero,Qc];exact h1.2.2
  have GQ:(iK c).length≤65536:=Nat.le_trans (WT c) h1.2.2
  have HB:=Qh (show zW L C 0 s [] from ⟨by omega,by omega,by have:=Hs.O.str;omega,by have:=Hs.O.aJ;omega,Hs.O.cx,Qn _,fun _ h=>(by cases h)⟩)
  generalize iK c=iX at HR oC zt dM GQ
  have kw:=Qh (fun b (hb:w.heap.size≤b)=>hw.fresh hb)
  clear hz wG wF gI aS bn uM gV hC gz c0 c1 c2 Ec uz qO hR nk
  go_wp2_with fail
  refine (Df.O _ kL).mono ?_
  rintro e3' wi ⟨B,D,rfl,hBl,zQ,PQ,G5⟩
  have zQ:=Qh zQ
  have PQ:=Qh PQ
  go_wp2_with fail
  refine (Xl2 _).mono ?_
  rintro e4 wj ⟨rfl,rfl⟩
  have I7:=G5.size
  have KH:=kV.size
  have MS:=(Qg MC.O)
  have Dt:=Qh (show nT w.heap.size m B wi.heap.size #[.slice ao s.aJ.length cap,.int .i64 s.aV,S s.str] w I (wi.alloc (.cells #[.slice none 0 0] 79)) s s.aJ [] (.slice kN s.aJ.length k7) (.slice none 0 0) s.aJ.length from by
   refine ⟨(Below.heap_alloc _ _ _ (by omega)).trans ((G5.block _ MS).trans MC.O),(Below.heap_alloc _ _ _ (by have:=(Qg MR.O);omega)).trans ((G5.block _ (Qg MR.O)).trans MR.O),(Below.heap_alloc _ _ _ (by have:=(Qg uB.O);omega)).trans ((G5.block _ (Qg uB.O)).trans uB.O),⟨D,zQ.O.alloc _,PQ.O⟩,heap_alloc_new wi _,(VD.O.below G5).alloc _,aK.nil _ _ _ _ _,(kL.below (Qn _) G5).alloc _,fun b hb=>kw.O b ?_,fun g hg=>kw.O g (by have:=(tL VD.O hg).1;omega),fun g hg=>(by cases hg),hm,by omega,by omega,?_,Qn _,(kV.trans (G5.mono KH)).alloc (by omega) _⟩
   ·rcases hb with rfl|rfl|rfl|rfl|rfl<;>omega
   ·have:=zQ.O.lt;simp;omega)
  clear zQ PQ hBl G5 kV VD Pf MC uB MR kL a0 a1 a2 MS I7 KH Df
  generalize Vi:wi.heap.size=bo at Dt ⊢
  generalize (wi.alloc (.cells #[.slice none 0 0] 79))=w5 at Dt ⊢
  clear Vi
  go_wp2_with fail
  refine (oC.O _).mono ?_
  rintro e6 w6 ⟨vs,rfl,OG,fF⟩
  obtain ⟨J0,oG,jN,oI,_⟩:=OG.freeze (Dt.O.ok.below (Qn _) fF) (fun b hb=>Dt.O.ok.fresh hb)
  have RL:=Qh (Dt.O.ext fF oG jN)
  have D7:=Qh (oG.mono Dt.O.eY.size)
  have rZ:=Qh oI
  have abU:=oI.bF
  have R4:=Hs.O.aJ
  obtain ⟨as',cs',rfl,_,_,_⟩:=id oI
  clear Dt oC OG fF oG jN oI Hs
  go_wp2_with fail
  go_loopw [48] (fun s48 wr=> ∃(k mc nn:Nat) (q:fM) (l:List Xt) (vk ve:Value) (J:IH),k≤iX.length∧s48= .int .i64 k∧(iX.drop k).foldl mq (q,l)=R∧zW L C mc q l∧mc+gJ (iX.drop k)≤65536∧nn≤C+mc∧nT w.heap.size m B bo #[.slice ao s.aJ.length cap,.int .i64 s.aV,S s.str] w J wr q q.aJ l vk ve nn∧q.aV=s.aV∧aZ D9 J (.slice as' iX.length cs') iX∧Ext w.heap.size I J) (fun i _=>iX.length-(intOf i).toNat)
  case atStart=>exact ⟨0,0,_,s,[],_,_,J0,Nat.zero_le _,rfl,HR.O,HB.O,by omega,R4,RL.O,rfl,rZ.O,D7.O⟩
  case round=>
   clear RL HR HB D7 rZ
   obtain ⟨k,mc,nn,q,l,vk,ve,J,hk,rfl,hr,nX,BJ,GU,hM,Po,oI,hx⟩:=hrel
   have Hr:=Qh hr
   have uu:=Qh nX
   have HM:=Qh hM
   have rZ:=Qh oI
   have Hx:=Qh hx
   have iQ:Ok J wr:=hM.ok
   have hlen:=nX.len
   have hsw:=hM.eY.size
   clear hr nX hM oI hx
   by_cases hlt:k<iX.length
   ·obtain ⟨g,b,off,cap',I9,cZ,x0,x1⟩:=QL rZ.O iQ k hlt
    cases cZ
    have Vy:=Qh (zt.O g (by rw [←I9];exact List.getElem_mem hlt))
    have T9:gJ (iX.drop k)=g.n.toNat+g.d.length+gJ (iX.drop (k+1)):=by rw [List.drop_eq_getElem_cons hlt,I9,Qa]
    have bu:=Qh (U2 hlt I9 Hr.O)
    rw [T9] at BJ
    have Ee:=Qh (HM.O.past (.cells #[.int .i64 g.n,S g.d] 168))
    have Jc:Ok J (wr.alloc (.cells #[.int .i64 g.n,S g.d] 168)):=iQ.alloc _
    clear T9 I9 Hr HM
    by_cases GV:g.d= []
    ·have GR:0<g.n:=by rcases Vy.O with ⟨_,h⟩|⟨h,_⟩;exact absurd GV h;exact h
     obtain ⟨p1,p2,p3,p4⟩:=BU GV
     have hgl:g.d.length=0:=by rw [GV];rfl
     have Ua:XB 65536 ⟨0,0,g.n⟩:=by unfold XB;simp only;omega
     have jI:=Qh (show (iX.drop (k+1)).foldl mq (q,jr l ⟨0,0,g.n⟩)=R by have:=bu.O;rwa [mq,if_pos GV] at this)
     have oH:=Qh (uu.O.add Ua)
     have JK:=fun z hz=>(uu.O.xs z hz).mono (show (65536*mc:Int)≤1099511627776 by omega)
     have MN:=Ua.mono (show (65536:Int)≤1099511627776 by omega)
     clear GV bu
     go_wp2_with fail
     refine (Y1 J bo (w.heap.size+2) _ _ ⟨0,0,g.n⟩ _ Ee.O.ox Ee.O.rb (by have:=Ee.O.lt;omega) (by omega) JK MN).mono ?_
     rintro e9 w9 ⟨u9,v9,rfl,jX,j5,bP,jf⟩
     have xU:=Qh (Ee.O.MF jX j5 bP jf)
     clear jX j5 bP jf
     go_wp2
     go_roundw
     case rel=>exact ⟨k+1,mc+1,nn,q,_,_,_,J,by omega,by go_num,jI.O,oH.O,by omega,by omega,xU.O,Po,rZ.O,Hx.O⟩
     case measure=>simp [intOf];omega
    ·obtain ⟨p1,p2,p3,p4⟩:=Ao GV
     have dC:=Uq g.d
     have uY:=Qh (fun x (hx:x∈bT g.d)=>show x.length≤65536 by have:=Yc hx;rw [WR] at this;omega)
     have qW:=Qh (show (iX.drop (k+1)).foldl mq (((bT g.d).drop 0).foldl oK (q,l))=R by have:=bu.O;rwa [mq,if_neg GV] at this)
     have oC:=Qh (fun w=>Xuv J g.d (by omega) w)
     obtain ⟨Q,hQ⟩:∃Q,((bT g.d).drop 0).foldl oK (q,l)=Q:=⟨_,rfl⟩
     have HQ:=Qh hQ
     rw [hQ] at qW
     have Fz:mc+(bT g.d).length+gJ (iX.drop (k+1))≤65536:=by omega
     generalize bT g.d=cs at dC uY HQ oC Fz
     clear GV hQ bu BJ
     go_wp2_with fail
     refine (oC.O _).mono ?_
     rintro e3 w3 ⟨v3,rfl,Oz,dX⟩
     obtain ⟨J3,yh,eT,BK,_⟩:=Oz.freeze (Jc.below (Qn _) dX) (fun b hb=>Jc.fresh hb)
     have RN:=Qh (Ee.O.ext dX yh eT)
     have RO:=Qh (Hx.O.trans yh (by simp;omega))
     have FB:=Qh (rZ.O.mono (yh.keep Jc (Qn _)))
     have Cw:=Qh BK
     have GY:=BK.bF
     obtain ⟨ac,cc,rfl,_,_,_⟩:=id BK
     have l8:=uu
     clear Oz dX yh eT BK Ee uu Hx rZ x0 x1 hlen iQ Jc
     go_wp2_with fail
     go_loopw [64] (fun s64 wr=> ∃(j mc nn:Nat) (q:fM) (l:List Xt) (vk ve:Value) (J:IH),j≤cs.length∧s64= .int .i64 j∧(cs.drop j).foldl oK (q,l)=Q∧zW L C mc q l∧mc+(cs.length-j)+gJ (iX.drop (k+1))≤65536∧nn≤C+mc∧nT w.heap.size m B bo #[.slice ao s.aJ.length cap,.int .i64 s.aV,S s.str] w J wr q q.aJ l vk ve nn∧q.aV=s.aV∧aZ D9 J (.slice (some ⟨b,off,none⟩) iX.length cs') iX∧aZ iE J (.slice ac cs.length cc) cs∧Ext w.heap.size I J) (fun i _=>cs.length-(intOf i).toNat)
     case atStart=>exact ⟨0,mc,nn,q,l,_,_,J3,Nat.zero_le _,rfl,HQ.O,l8.O,by omega,GU,RN.O,Po,FB.O,Cw.O,RO.O⟩
     case round=>
      clear RN HQ l8 RO FB Cw Fz GU Po
      obtain ⟨j,mc,nn,q,l,vk,ve,J,hj,rfl,hr,nX,BJ,GU,hM,Po,oI,BK,hx⟩:=hrel
      have Hr:=Qh hr
      have uu:=Qh nX
      have HM:=Qh hM
      have rZ:=Qh oI
      have Cw:=Qh BK
      have Hx:=Qh hx
      have VE:=Qh Po
      have iQ:Ok J wr:=hM.ok
      obtain ⟨ak,ck,rfl⟩:=Dk hM.ck
      have hlen:=nX.len
      have ZA:=nX.aJ
      have ZE:=nX.str
      clear hr nX hM oI hx BK Po
      by_cases BL:j<cs.length
      ·obtain ⟨x,bz,RP,ZB,OH,cZ,x0⟩:=DY Cw.O iQ j BL
       cases cZ
       have CQ:x.length≤65536:=uY.O x (by rw [←OH];exact List.getElem_mem BL)
       have bu:=Qh (U2 BL OH Hr.O)
       have Ee:=Qh (HM.O.past (.cells #[S x] 9))
       have qx:=Qh (Y8 wr.heap.size x (by omega) (wr.alloc (.cells #[S x] 9)) (by simp) (by simp))
       have Af:=Rj x
       obtain ⟨dg,JE⟩:∃dg,fA x=dg:=⟨_,rfl⟩
       have xV:=Qh (fun y (h:fB q.aJ (fA x)=some y)=>Yf (l:=l) h)
       have xW:=Qh (fun (h:fB q.aJ (fA x)=none)=>Yg (l:=l) h)
       rw [JE] at qx xV xW Af
       clear OH Hr HM JE
       go_wp2_with fail
       refine qx.O.mono ?_
       rintro e5 w5 ⟨rfl,bM⟩
       have wZ:=Qh (Ee.O.below bM)
       clear x0 bM Ee qx iQ
       obtain ⟨D,yE,F5⟩:=wZ.O.rm
       have yG:=Xxb yE F5 (p:=dg) (by omega)
       have JK:=fun z hz=>(uu.O.xs z hz).mono (show (65536*mc:Int)≤1099511627776 by omega)
       have uj:=Qh (show kz q.aJ dg=match fB q.aJ dg with|some x=>(x,true)|none=>(⟨0,0,0⟩,false) from rfl)
       have MO:=Qh (fun y (h:fB q.aJ dg=some y)=>U1 h)
       cases hfx:fB q.aJ dg with
       |some y=>
        rw [hfx] at uj
        rw [uj.O] at yG
        have JF:XB 65536 y:=by
         obtain ⟨z,hz,rfl⟩:=MO.O y hfx
         exact uu.O.cx z hz
        have MP:=JF.mono (show (65536:Int)≤1099511627776 by omega)
        have jI:=Qh (show (cs.drop (j+1)).foldl oK (q,jr l y)=Q by have:=bu.O;rwa [xV.O y hfx] at this)
        have oH:=Qh (uu.O.add JF)
        have xX:=Qh (wZ.O.past (.cells #[.int .i64 y.s,.int .i64 y.o,.int .i64 y.n] 109))
        clear hfx uj MO xV xW bu yE F5
        go_wp2_with fail
        refine (Y1 J bo (w.heap.size+2) _ _ y _ xX.O.ox xX.O.rb (by have:=xX.O.lt;omega) (by omega) JK MP).mono ?_
        rintro e9 w9 ⟨u9,v9,rfl,jX,j5,bP,jf⟩
        have xU:=Qh (xX.O.MF jX j5 bP jf)
        clear jX j5 bP jf
        go_wp2
        go_roundw
        case rel=>exact ⟨j+1,mc+1,nn,q,_,_,_,J,by omega,by go_num,jI.O,oH.O,by omega,by omega,xU.O,VE.O,rZ.O,Cw.O,Hx.O⟩
        case measure=>simp [intOf];omega
       |none=>
        rw [hfx] at uj
        rw [uj.O] at yG
        have jI:=Qh (show (cs.drop (j+1)).foldl oK (⟨q.aJ++ [⟨dg,lL q x⟩],q.aV,q.str++x⟩,jr l (lL q x))=Q by have:=bu.O;rwa [xW.O hfx] at this)
        have oH:=Qh (uu.O.grow' hL (by omega) CQ (dg:=dg))
        have Ww:=QN uu.O hL (by omega) CQ
        have Ja:=Ww.mono (show (65536:Int)≤1099511627776 by omega)
        have hMx:=Xn8 F5 yE.isMap (c:=⟨dg,lL q x⟩) hfx
        have HMx:=Qh hMx
        have I6:=Qh (Mw dg (by omega))
        have xX:=Qh (wZ.O.past (.cells #[.int .i64 q.aV,.int .i64 (q.str.length:Nat),.int .i64 (x.length:Nat)] 109))
        have HD6:=Qh (yE.alloc (.cells #[.int .i64 q.aV,.int .i64 (q.str.length:Nat),.int .i64 (x.length:Nat)] 109))
        have r5:=cell_of_row w5 m 2 _ _ _ wZ.O.ro
        have c2:w5.cell? ⟨m,2,none⟩=some (S q.str):=r5.trans rfl
        have n1:w5.cell? ⟨w.heap.size,1,none⟩=some (.int .i64 s.aV):=(cell_of_row w5 w.heap.size 1 _ _ _ wZ.O.r0).trans rfl
        have n1q:w5.cell? ⟨w.heap.size,1,none⟩=some (.int .i64 q.aV):=by rw [VE.O];exact n1
        have z1:=kP (.cells #[.int .i64 0,.int .i64 0,.int .i64 0] 109) n1q
        have z2:=kP (.cells #[.int .i64 0,.int .i64 0,.int .i64 0] 109) c2
        have nA:=wZ.O.lt
        have ZR:w.heap.size≠w5.heap.size:=by omega
        have ZT:m≠w5.heap.size:=by omega
        clear hfx uj MO xV xW bu yE F5 hMx r5 n1
        have MU:=Qh (heap_alloc_new w5 (.cells #[.int .i64 q.aV,.int .i64 (q.str.length:Nat),.int .i64 (x.length:Nat)] 109))
        have UZ:=wZ.O.hB
        have hnw:=wZ.O.eY.size
        obtain ⟨bx,p8⟩:∃bx,w5.heap.size=bx:=⟨_,rfl⟩
        rw [p8] at MU ZR ZT UZ hnw
        have ZU:=wZ.O.lt.2.1
        rw [p8] at ZU
        have hJx:J bx=none:=by rw [←p8];exact wZ.O.ok.fresh (Qn _)
        go_wp2_with (first
         |(at_mapUpdate;refine wpList_mapUpdate_own _ rfl _ _ _ 195 rfl 9 109 Mv Tryz.underlying195 nS B nn D rfl HD6.O (by unfold maxLen;omega) _ _ _ rfl rfl I6.O _ [] (Y0 (lL q x)) ?_)
         |go_in)
        intro w7 Ac gL
        have KI:=Qh (xX.O.mapped gL Ac HMx.O)
        have FI:=(gL.block bx (by simp;omega) (fun e=>by cases e;omega)).trans MU.O
        have Jd:=Qh FI
        have y0:w7.cell? ⟨bx,0,none⟩=some (.int .i64 q.aV):=(cell_of_row w7 _ 0 _ _ _ FI).trans rfl
        have y1:w7.cell? ⟨bx,1,none⟩=some (.int .i64 (q.str.length:Nat)):=(cell_of_row w7 _ 1 _ _ _ FI).trans rfl
        have y2:w7.cell? ⟨bx,2,none⟩=some (.int .i64 (x.length:Nat)):=(cell_of_row w7 _ 2 _ _ _ FI).trans rfl
        have m0:w7.cell? ⟨m,0,none⟩=some (.slice ak q.aJ.length ck):=(cell_of_row w7 _ 0 _ _ _ KI.O.ro).trans rfl
        have g0:=frozen_of_row w7 _ 0 _ _ KI.O.ro
        have Ev:=KI.O.wX.1
        have lu:=KI.O.lt
        clear xX HD6 HMx I6 Ac gL FI z1 z2 c2 n1q MU
        go_wp2_with (at_builtin;go_loud (refine IE (w0:=w7) Ya rfl _ _ rfl (w.heap.size+2) _ q.aJ rfl KI.O.ck ⟨dg,lL q x⟩ [S dg,.int .i64 q.aV,.int .i64 (q.str.length:Nat),.int .i64 (x.length:Nat)] _ (by first|rfl|simp [Act.eval]) rfl (by omega) (by omega) (by omega) ?_))
        intro v9 w9 bD bP jf
        obtain ⟨a9,n9,k9,rfl⟩:=Fh bD
        have Rv:=jo bP Ev m0
        have Rw:=Gr bP Ev m0 g0
        have xU:=Qh (KI.O.added (q':=⟨q.aJ++ [⟨dg,lL q x⟩],q.aV,q.str⟩) bD bP jf rfl rfl)
        have R5:=(heap_setCell_other w9 ⟨m,0,none⟩ bx (.slice a9 n9 k9) (by show bx≠m;omega)).trans ((bP.block bx (Qg Jd.O) (fun e=>zm KI.O.ck Jd.O (by decide) e.symm)).trans Jd.O)
        have s2:(w9.setCell ⟨m,0,none⟩ (.slice a9 n9 k9)).cell? ⟨m,2,none⟩=some (S q.str):=(cell_of_row _ _ 2 _ _ _ xU.O.ro).trans rfl
        have t2:=frozen_of_row _ _ 2 _ _ xU.O.ro
        have sM:=Qh (xU.O.wrote (q.str++x))
        have Cx:=(heap_setCell_other _ ⟨m,2,none⟩ bx (S (q.str++x)) (by show bx≠m;omega)).trans R5
        have x0:=(cell_of_row _ _ 0 _ _ _ Cx).trans rfl
        have x1:=(cell_of_row _ _ 1 _ _ _ Cx).trans rfl
        have x2:=(cell_of_row _ _ 2 _ _ _ Cx).trans rfl
        have ZF:¬9223372036854775807<q.str.length+x.length:=by omega
        clear KI y0 y1 y2 m0 g0 bD bP jf R5 Cx Jd
        go_wp2_with fail
        refine (Y1 J bo (w.heap.size+2) _ _ (lL q x) _ sM.O.ox sM.O.rb (by have:=sM.O.lt;omega) (by omega) JK Ja).mono ?_
        rintro e11 wJ ⟨u11,v11,rfl,Du,R6,vE,R7⟩
        have ZV:=Qh (sM.O.MF Du R6 vE R7)
        clear Du R6 vE R7 s2 t2 x0 x1 x2 Rv Rw
        go_wp2
        go_roundw
        case rel=>exact ⟨j+1,mc+1,nn+1,_,_,_,_,J,by omega,by go_num,jI.O,oH.O,by omega,by omega,ZV.O,VE.O,rZ.O,Cw.O,Hx.O⟩
        case measure=>simp [intOf];omega
      ·have xk:j=cs.length:=by omega
       have jI:=Qh (show (q,l)=Q by have:=Hr.O;rwa [List.drop_of_length_le (by omega)] at this)
       have ZW:=Qh (show (iX.drop (k+1)).foldl mq (q,l)=R by rw [jI.O];exact qW.O)
       clear Hr qW
       go_wp2
       go_roundw
       case rel=>exact ⟨k+1,mc,nn,q,l,_,_,J,by omega,by go_num,ZW.O,uu.O,by omega,by omega,HM.O,VE.O,rZ.O,Hx.O⟩
       case measure=>simp [intOf];omega
   ·have CR:k=iX.length:=by omega
    have jI:=Qh (show R=(q,l) by have:=Hr.O;rw [List.drop_of_length_le (by omega)] at this;exact this.symm)
    obtain ⟨ak,ck,rfl⟩:=Dk HM.O.ck
    obtain ⟨ae,ce,rfl⟩:=Dk HM.O.ox
    have z0:wr.cell? ⟨m,0,none⟩=some (.slice ak q.aJ.length ck):=(cell_of_row wr _ 0 _ _ _ HM.O.ro).trans rfl
    have z1:wr.cell? ⟨m,1,none⟩=some (.int .i64 q.aV):=(cell_of_row wr _ 1 _ _ _ HM.O.ro).trans rfl
    have z2:wr.cell? ⟨m,2,none⟩=some (S q.str):=(cell_of_row wr _ 2 _ _ _ HM.O.ro).trans rfl
    have zb:wr.cell? ⟨bo,0,none⟩=some (.slice ae l.length ce):=(cell_of_row wr _ 0 _ _ _ HM.O.rb).trans rfl
    obtain ⟨J1,k1a,k1b,k1c,UN,ZX⟩:=HM.O.ck.uA HM.O.ok HM.O.fk
    have Fs:∀g,(Value.slice ae l.length ce).ownBlock=some g→J1 g=none:=fun g hg=>by
     rw [ZX g (fun e=>by rcases HM.O.kv with h|h; ·rw [h] at e;cases e
                         ·exact h (by rw [e,hg]))]
     exact HM.O.fe g hg
    obtain ⟨J2,k2a,k2b,k2c,UO,k2e⟩:=(HM.O.ox.mono k1a).uA k1c Fs
    have OL:J2 (w.heap.size+1)=none:=by
     rw [k2e _ (HM.O.Cs.2.2.2 _ (by omega)),ZX _ (HM.O.wX.2.2.2 _ (by omega))]
     exact HM.O.fn _ (by simp)
    have HJ:=Qh (And.intro ((Hx.O.trans (k1b.mono (show w.heap.size≤w.heap.size+2 by omega)) (Qn _)).trans (k2b.mono (show w.heap.size≤w.heap.size+2 by omega)) (Qn _)) (And.intro k2c (And.intro (UN.mono k2a) UO)))
    clear k1a k1b k1c UN ZX k2a k2b k2c UO k2e Fs Hr iQ hlen
    go_wp2_with fail
    refine yz (X:=Nat × Nat) (pvL w.heap.size m bo ak q.aJ.length ck q.aV q.str ((.slice ae l.length ce))) (wW wr 209 210 (fun _ _=>True) (fun _ _=>True) (fun x=>w.heap.size+1) 40 3 207 208 (fun x=> #[.slice ak q.aJ.length ck,.int .i64 q.aV,S q.str]) (fun x=> #[.slice ak q.aJ.length ck,.int .i64 q.aV,S q.str]) (fun x=> #[.slice ak q.aJ.length ck,.int .i64 q.aV,S q.str])) (by kernel_rfl) (by kernel_rfl) ?_ ?_ ?_
    ·exact ⟨(0,default),wW.start _ _⟩
    ·rintro x s' a' w' i dM dC ha hC hi
     obtain ⟨aN,oi,fP,aC⟩:=mem_ready.1 hi
     rcases i with _|_|_|_|_|_|i
     rotate_left 6
     ·simp at fP
     all_goals
      have dV:=fP
      simp at fP
      subst fP
      simp [Region.binds] at aC
     ·have e7:a'.tmps[7]?.getD undef= .pointer (some ⟨m,0,none⟩):=oD ha (by simp)
      have hl:s'.getD 3 false=false:=iH dC [0] (by kernel_rfl) (by rfl) aN
      have cq:=bK (hC.off hl) z0
      have cr:=bK (hC.off hl) z1
      have cs:=bK (hC.off hl) z2
      refine wpOp_step dV (fun K' hK=> ?_)
      rw [if_pos (by rfl)]
      unfold Oper.wp
      simp [go_sem,e7,cq,cr,cs,Oper.upon]
      exact hK _ _ ⟨x,eO (d:=some 108) (v:= .agg #[.slice ak q.aJ.length ck,.int .i64 q.aV,S q.str]) Jb ha rfl aN,hC.pure (by decide) (by decide) (by decide) (by decide) (by decide)⟩
     ·have e10:a'.tmps[10]?.getD undef= .func (.func 196) #[] #[.pointer (some ⟨bo,0,none⟩)]:=oD ha (by simp)
      refine wpOp_step dV (fun K' hK=> ?_)
      rw [if_pos (by rfl)]
      unfold Oper.wp
      simp [go_sem,e10,Oper.upon]
      exact hK _ _ ⟨x,eO (d:=some 109) (v:= .func (.func 196) #[] #[.pointer (some ⟨bo,0,none⟩)]) Jb ha rfl aN,hC.pure (by decide) (by decide) (by decide) (by decide) (by decide)⟩
     ·have e109:a'.tmps[109]?.getD undef= .func (.func 196) #[] #[.pointer (some ⟨bo,0,none⟩)]:=gT (i:=1) Jb ha rfl (by first|simpa using aC|simp [aC]) (by simp)
      have hl:s'.getD 3 false=false:=iH dC [2] (by kernel_rfl) (by rfl) aN
      have ct:=bK (hC.off hl) zb
      refine wpOp_step dV (fun K' hK=> ?_)
      rw [if_pos (by rfl)]
      unfold Oper.wp
      simp [go_sem,e109,Oper.upon]
      refine (Xwm bo _ w' ct).mono ?_
      rintro r4 w4 ⟨rfl,rfl⟩
      exact hK _ _ ⟨x,eO (d:=some 110) (v:=(.slice ae l.length ce)) Jb ha rfl aN,hC.pure (by decide) (by decide) (by decide) (by decide) (by decide)⟩
     ·have e4:a'.tmps[4]?.getD undef= .pointer (some ⟨w.heap.size+1,0,none⟩):=oD ha (by simp)
      have e108:a'.tmps[108]?.getD undef= .agg #[.slice ak q.aJ.length ck,.int .i64 q.aV,S q.str]:=gT (i:=0) Jb ha rfl (by first|simpa using aC|simp [aC]) (by simp)
      refine wpOp_step dV (fun K' hK=> ?_)
      rw [if_pos (by rfl)]
      have JJ:s'.getD 3 false=false:=jZ aN
      have aS:w'.heap[w.heap.size+1]? =some (.cells _ 40 (0,0)):=(by exact ((hC.off JJ).block _ (Qg HM.O.r1)).trans HM.O.r1)
      refine wE 40 _ _ rfl (w.heap.size+1) 0 [.slice ak q.aJ.length ck,.int .i64 q.aV,S q.str] (.agg #[.slice ak q.aJ.length ck,.int .i64 q.aV,S q.str]) (by simp [Act.eval,e4,e108]) (by simp [Act.eval,e4,e108]) (by rfl) _ _ aS (by simp) (by kernel_rfl) (by simp [Value.oneCell']) ?_
      exact hK _ _ ⟨x,eO (d:=none) (v:=undef) Jb ha rfl aN,hC.pQ aN trivial trivial (mI (by simp [dM])) (mI (by simp [dM])) (by decide) aS (by rfl)⟩
     ·have ZY:a'.tmps[110]?.getD undef=(.slice ae l.length ce):=gT (i:=2) Jb ha rfl (by first|simpa using aC|simp [aC]) (by simp)
      refine wpOp_step dV (fun K' hK=> ?_)
      rw [if_pos (by rfl)]
      unfold Oper.wp
      simp [go_sem,ZY,Oper.upon]
      exact hK _ _ ⟨x,eO (d:=some 5) (v:=(.slice ae l.length ce)) Jb ha rfl aN,hC.pure (by decide) (by decide) (by decide) (by decide) (by decide)⟩
     ·refine wpOp_step dV (fun K' hK=> ?_)
      rw [if_pos (by rfl)]
      unfold Oper.wp
      simp [go_sem,Oper.upon]
      exact hK _ _ ⟨x,eO (d:=some 6) (v:= .int .i64 0) Jb ha rfl aN,hC.pure (by decide) (by decide) (by decide) (by decide) (by decide)⟩
    ·rintro x s' a' w8 gz ha hC
     obtain ⟨wb,gV,wG,wF,gI,aS⟩:=hC.on (gz 3 (by decide))
     simp only [ite_self] at aS
     rw [xL _ _ _ _ (fun i hi=>by rw [Nat.zero_add];exact gz i (by simpa using hi))] at ha
     subst ha
     simp only [eH,Act.put]
     have kV:Below w.heap.size w w8:=(HM.O.eY.trans (gV.mono hsw)).grown gI (by have:=gV.size;omega) (fun g e=>by cases e;omega)
     have kL:Ok J2 w8:=(HJ.O.2.1.below (Qn _) gV).grown gI (fun g e=>by cases e;exact OL)
     go_wp2
     refine bodyPost_ret (v:= .tuple #[fH q (.slice ak q.aJ.length ck),.slice ae l.length ce,.int .i64 0]) ?_ rfl ?_
     ·rw [Gw rfl]
      simp [asAddr,run_loadVar_row _ (w.heap.size+1) 40 40 #[.slice ak q.aJ.length ck,.int .i64 q.aV,S q.str] (0,0) _ aS Tryz.underlying40 rfl wR.O]
     ·rw [Hn.O,jI.O]
      exact ⟨_,_,J2,rfl,kV,HJ.O.1,kL,HJ.O.2.2.1,HJ.O.2.2.2⟩
