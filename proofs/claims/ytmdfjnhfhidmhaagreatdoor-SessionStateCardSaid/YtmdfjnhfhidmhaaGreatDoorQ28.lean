/- Lemmas for the claim's theorem;conditions: as each says. -/
import Derived.Test.YtmdfjnhfhidmhaaGreatDoorQ25
import Derived.Test.YtmdfjnhfhidmhaaGreatDoorQ24
set_option maxHeartbeats 0
set_option maxRecDepth 100000
set_option linter.all false
namespace Go.Proofs.YtmdfjnhfhidmhaaGreatDoor
open Go.RowKit
variable{n le:Nat}{aW:Int}{str:af}
abbrev Il(n:Nat)(ao:Option Addr)(le cap:Nat)(aW:Int)(str:af)(x:Nat×(Option Addr×Nat)):List (Option Tmp×Value):=
 [(some 18,.pointer (some ⟨n,0,none⟩)),(some 19,.slice ao le cap),(some 20,.slice x.2.1 le x.2.2),(some 21,.pointer (some ⟨n,1,none⟩)),(some 22,.int .i64 aW),(some 23,.pointer (some ⟨n,2,none⟩)),(some 24,S str),(some 25,.agg #[.slice x.2.1 le x.2.2,.int .i64 aW,S str]),(some 7,.pointer (some ⟨x.1,0,none⟩)),(none,undef)]
theorem sM{ao:Option Addr}{cap:Nat}{x:Nat×(Option Addr×Nat)}:bE (Il n ao le cap aW str x):=by
 unfold bE;simp
abbrev Zv(n m bo:Nat)(ak:Option Addr)(le ck:Nat)(aW:Int)(str:af)(ve:Value)(x:Nat×Nat):List (Option Tmp×Value):=
 [(some 108,.agg #[.slice ak le ck,.int .i64 aW,S str]),(some 109,.func (.func 196) #[] #[.pointer (some ⟨bo,0,none⟩)]),(some 110,ve),(none,undef),(some 5,ve),(some 6,.int .i64 0)]
theorem Cc{m bo:Nat}{ak:Option Addr}{ck:Nat}{ve:Value}{x:Nat×Nat}:bE (Zv n m bo ak le ck aW str ve x):=by
 unfold bE;simp
theorem Zw (L C:Nat) (hL:L≤4294967296) (hC0:C≤10000000) (I:IH) (s:dX) (vc:Value) (hv:aY pY I vc s.aM) (hs:KT L C s) (hd:∀c∈s.aM,c.d.length≤32) (c:af) (hc:c.length≤4294967280) (w:World) (hw:Ok I w):
 Calls Tryz.prog 103 #[fI s vc,S c] w (Fj I w (jE s c)):=by
 have ahN:=hs.aM
 obtain ⟨ao,cap,rfl,_,_,_⟩:=id hv
 have mh:=Qh (fun w hw=>Yz I _ s.aM hv w hw (by omega))
 have xH:=Qh (fun w hw=>Xqm I s _ hv (by omega) hd w hw)
 obtain ⟨W2,mH⟩:∃W2,((w.alloc (.cells #[.slice ao s.aM.length cap,.int .i64 s.aW,S s.str] 40)).alloc (.cells #[.slice none 0 0,.int .i64 0,S []] 40))=W2:=⟨_,rfl⟩
 have bC:Ok I W2:=by rw [←mH];exact (hw.alloc _).alloc _
 have fw:W2.heap.size=w.heap.size+2:=by rw [←mH];simp
 have yF:=Qh (show W2.heap[w.heap.size]? =some (.cells #[.slice ao s.aM.length cap,.int .i64 s.aW,S s.str] 40 (0,0)) by rw [←mH];exact (Below.heap_alloc _ _ _ (by simp)).trans (heap_alloc_new w _))
 have rA:=Qh (show W2.heap[w.heap.size+1]? =some (.cells #[.slice none 0 0,.int .i64 0,S []] 40 (0,0)) by
  rw [←mH]
  have h:=heap_alloc_new (w.alloc (.cells #[.slice ao s.aM.length cap,.int .i64 s.aW,S s.str] 40)) (.cells #[.slice none 0 0,.int .i64 0,S []] 40)
  simpa using h)
 have aP:Below w.heap.size w W2:=by rw [←mH];exact ((Qb _ _).alloc (Qn _) _).alloc (by simp) _
 have c0:W2.cell? ⟨w.heap.size,0,none⟩=some (.slice ao s.aM.length cap):=(cell_of_row _ _ 0 _ _ _ yF.q).trans rfl
 have c1:W2.cell? ⟨w.heap.size,1,none⟩=some (.int .i64 s.aW):=(cell_of_row _ _ 1 _ _ _ yF.q).trans rfl
 have c2:W2.cell? ⟨w.heap.size,2,none⟩=some (S s.str):=(cell_of_row _ _ 2 _ _ _ yF.q).trans rfl
 have Hs:=Qh hs
 clear hv hs hd
 go_enter Tryz.func103,Tryz.ntmps103
 go_wp2_with fail
 refine tK (X:=Nat × (Option Addr × Nat)) (Il w.heap.size ao s.aM.length cap s.aW s.str) (rG W2 2 8 (fun y w=>aN pY 156 I w W2.heap.size (.slice y.1 s.aM.length y.2) s.aM) (fun k w=>w.heap[k]? =some (.cells #[.slice none 0 0,.int .i64 0,S []] 40 (0,0))∧W2.heap.size≤k) (fun x=>x.1) 40 9 211 212 (fun x=> #[.slice x.2.1 s.aM.length x.2.2,.int .i64 s.aW,S s.str]) (fun x=> #[.slice x.2.1 s.aM.length x.2.2,.int .i64 s.aW,S s.str]) (fun x=> #[.slice x.2.1 s.aM.length x.2.2,.int .i64 s.aW,S s.str])) (by kernel_rfl) (by kernel_rfl) ?_ ?_ ?_
 ·exact ⟨(0,default),rG.start _ _⟩
 ·rintro x s' a' w' i cu bU ha hC hi
  obtain ⟨aJ,oi,dN,aA⟩:=mem_ready.1 hi
  rcases i with _|_|_|_|_|_|_|_|_|_|i
  rotate_left 10
  ·simp at dN
  all_goals
   have bY:=dN
   simp at dN
   subst dN
   simp [Region.binds] at aA
  ·have e2:a'.tmps[2]?.getD undef= .pointer (some ⟨w.heap.size,0,none⟩):=lT ha (by simp)
   refine wpOp_step bY (fun K' hK=> ?_)
   rw [if_pos (by rfl)]
   unfold Oper.wp
   simp [go_sem,e2,Oper.upon]
   exact hK _ _ ⟨x,dF (d:=some 18) (v:= .pointer (some ⟨w.heap.size,0,none⟩)) sM ha rfl aJ,hC.pure (by decide) (by decide) (by decide) (by decide) (by decide)⟩
  ·have e18:a'.tmps[18]?.getD undef= .pointer (some ⟨w.heap.size,0,none⟩):=fD (i:=0) sM ha rfl (by first|simpa using aA|simp [aA]) (by simp)
   have hl:s'.getD 9 false=false:=gK bU [1] (by kernel_rfl) (by rfl) aJ
   have cq:=bI (hC.off hl) c0
   refine wpOp_step bY (fun K' hK=> ?_)
   rw [if_pos (by rfl)]
   unfold Oper.wp
   simp [go_sem,e18,cq,Oper.upon]
   exact hK _ _ ⟨x,dF (d:=some 19) (v:= .slice ao s.aM.length cap) sM ha rfl aJ,hC.pure (by decide) (by decide) (by decide) (by decide) (by decide)⟩
  ·have e19:a'.tmps[19]?.getD undef= .slice ao s.aM.length cap:=fD (i:=1) sM ha rfl (by first|simpa using aA|simp [aA]) (by simp)
   have hl:s'.getD 9 false=false:=gK bU [2] (by kernel_rfl) (by rfl) aJ
   have nD:=bC.below (Qn _) (hC.off hl)
   refine wpOp_step bY (fun K' hK=> ?_)
   rw [if_pos (by rfl)]
   unfold Oper.wp
   simp [go_sem,e19,Oper.upon]
   refine (mh.q _ nD).mono ?_
   rintro r4 w4 ⟨v7,rfl,ho,bA⟩
   obtain ⟨a7,k7,rfl⟩:=wP ho
   have ha:=ha.trans (qF (L:=Il w.heap.size ao s.aM.length cap s.aW s.str x) (M:=Il w.heap.size ao s.aM.length cap s.aW s.str (x.1,(a7,k7))) [2,7] rfl (fun j aZ=>by
    rcases j with _|_|_|_|_|_|_|_|_|_|j<;>first|rfl|(exact absurd (by decide) aZ)|simp) (List.forall_mem_cons.2 ⟨jl aJ,List.forall_mem_cons.2 ⟨gK bU [2] (by kernel_rfl) (by rfl) aJ,List.forall_mem_nil _⟩⟩))
   exact hK _ _ ⟨(x.1,(a7,k7)),dF (d:=some 20) (v:= .slice (a7,k7).1 s.aM.length (a7,k7).2) sM ha rfl aJ,hC.call hl bA (ho.lower (hC.off hl).size) (fun k hk=>⟨(bA.block _ (Qg hk.1)).trans hk.1,hk.2⟩) (by decide) (by decide)⟩
  ·have e2:a'.tmps[2]?.getD undef= .pointer (some ⟨w.heap.size,0,none⟩):=lT ha (by simp)
   refine wpOp_step bY (fun K' hK=> ?_)
   rw [if_pos (by rfl)]
   unfold Oper.wp
   simp [go_sem,e2,Oper.upon]
   exact hK _ _ ⟨x,dF (d:=some 21) (v:= .pointer (some ⟨w.heap.size,1,none⟩)) sM ha rfl aJ,hC.pure (by decide) (by decide) (by decide) (by decide) (by decide)⟩
  ·have e21:a'.tmps[21]?.getD undef= .pointer (some ⟨w.heap.size,1,none⟩):=fD (i:=3) sM ha rfl (by first|simpa using aA|simp [aA]) (by simp)
   have hl:s'.getD 9 false=false:=gK bU [4] (by kernel_rfl) (by rfl) aJ
   have cq:=bI (hC.off hl) c1
   refine wpOp_step bY (fun K' hK=> ?_)
   rw [if_pos (by rfl)]
   unfold Oper.wp
   simp [go_sem,e21,cq,Oper.upon]
   exact hK _ _ ⟨x,dF (d:=some 22) (v:= .int .i64 s.aW) sM ha rfl aJ,hC.pure (by decide) (by decide) (by decide) (by decide) (by decide)⟩
  ·have e2:a'.tmps[2]?.getD undef= .pointer (some ⟨w.heap.size,0,none⟩):=lT ha (by simp)
   refine wpOp_step bY (fun K' hK=> ?_)
   rw [if_pos (by rfl)]
   unfold Oper.wp
   simp [go_sem,e2,Oper.upon]
   exact hK _ _ ⟨x,dF (d:=some 23) (v:= .pointer (some ⟨w.heap.size,2,none⟩)) sM ha rfl aJ,hC.pure (by decide) (by decide) (by decide) (by decide) (by decide)⟩
  ·have e23:a'.tmps[23]?.getD undef= .pointer (some ⟨w.heap.size,2,none⟩):=fD (i:=5) sM ha rfl (by first|simpa using aA|simp [aA]) (by simp)
   have hl:s'.getD 9 false=false:=gK bU [6] (by kernel_rfl) (by rfl) aJ
   have cq:=bI (hC.off hl) c2
   refine wpOp_step bY (fun K' hK=> ?_)
   rw [if_pos (by rfl)]
   unfold Oper.wp
   simp [go_sem,e23,cq,Oper.upon]
   exact hK _ _ ⟨x,dF (d:=some 24) (v:=S s.str) sM ha rfl aJ,hC.pure (by decide) (by decide) (by decide) (by decide) (by decide)⟩
  ·have e20:a'.tmps[20]?.getD undef= .slice x.2.1 s.aM.length x.2.2:=fD (i:=2) sM ha rfl (by first|simpa using aA|simp [aA]) (by simp)
   have e22:a'.tmps[22]?.getD undef= .int .i64 s.aW:=fD (i:=4) sM ha rfl (by first|simpa using aA|simp [aA]) (by simp)
   have e24:a'.tmps[24]?.getD undef=S s.str:=fD (i:=6) sM ha rfl (by first|simpa using aA|simp [aA]) (by simp)
   refine wpOp_step bY (fun K' hK=> ?_)
   rw [if_pos (by rfl)]
   unfold Oper.wp
   simp [go_sem,e20,e22,e24,Oper.upon]
   exact hK _ _ ⟨x,dF (d:=some 25) (v:= .agg #[.slice x.2.1 s.aM.length x.2.2,.int .i64 s.aW,S s.str]) sM ha rfl aJ,hC.pure (by decide) (by decide) (by decide) (by decide) (by decide)⟩
  ·have hl:s'.getD 9 false=false:=gK bU [8] (by kernel_rfl) (by rfl) aJ
   refine wpOp_step bY (fun K' hK=> ?_)
   rw [if_pos (by rfl)]
   unfold Oper.wp
   simp [go_sem,Oper.upon]
   have ha:=ha.trans (qF (L:=Il w.heap.size ao s.aM.length cap s.aW s.str x) (M:=Il w.heap.size ao s.aM.length cap s.aW s.str (w'.heap.size,x.2)) [8] rfl (fun j aZ=>by
    rcases j with _|_|_|_|_|_|_|_|_|_|j<;>first|rfl|(exact absurd (by decide) aZ)|simp) (List.forall_mem_cons.2 ⟨jl aJ,List.forall_mem_nil _⟩))
   exact hK _ _ ⟨(w'.heap.size,x.2),dF (d:=some 7) (v:= .pointer (some ⟨w'.heap.size,0,none⟩)) sM ha rfl aJ,hC.made hl ((Qb _ _).alloc (Qn _) _) ⟨heap_alloc_new _ _,(hC.off hl).size⟩ (fun y hy=>hy.alloc _) (by decide) (by decide)⟩
  ·have e25:a'.tmps[25]?.getD undef= .agg #[.slice x.2.1 s.aM.length x.2.2,.int .i64 s.aW,S s.str]:=fD (i:=7) sM ha rfl (by first|simpa using aA|simp [aA]) (by simp)
   have e7:a'.tmps[7]?.getD undef= .pointer (some ⟨x.1,0,none⟩):=fD (i:=8) sM ha rfl (by first|simpa using aA|simp [aA]) (by simp)
   refine wpOp_step bY (fun K' hK=> ?_)
   rw [if_pos (by rfl)]
   have wC:s'.getD 2 false=true:=by first|simpa using aA|simp [aA]
   have MJ:s'.getD 8 false=true:=by first|simpa using aA|simp [aA]
   have CS:s'.getD 9 false=false:=jl aJ
   have aU:w'.heap[x.1]? =some (.cells _ 40 (0,0)):=(hC.fa MJ CS).1
   refine qU 40 _ _ rfl (x.1) 0 [.slice x.2.1 s.aM.length x.2.2,.int .i64 s.aW,S s.str] (.agg #[.slice x.2.1 s.aM.length x.2.2,.int .i64 s.aW,S s.str]) (by simp [Act.eval,e25,e7]) (by simp [Act.eval,e25,e7]) (by rfl) _ _ aU (by simp) (by kernel_rfl) (by simp [Value.oneCell']) ?_
   exact hK _ _ ⟨x,dF (d:=none) (v:=undef) sM ha rfl aJ,hC.lH aJ (hC.fc wC CS) (hC.fa MJ CS) (kz (by simp [cu])) (kz (by simp [cu])) (by decide) aU (by rfl)⟩
 ·rintro x s' a' w8 eX ha hC
  obtain ⟨wb,gQ,uJ,uI,fF,aU⟩:=hC.on (eX 9 (by decide))
  simp only [ite_self] at aU
  rw [su _ _ _ _ (fun i hi=>by rw [Nat.zero_add];exact eX i (by simpa using hi))] at ha
  subst ha
  simp only [df,Act.put]
  obtain ⟨m,jm,k7⟩:=x
  dsimp only at uJ uI fF aU ⊢
  have aZ:=vN uJ uI.1 (by decide)
  have si:=uJ.kept fF (.inr aZ)
  have hm:w.heap.size+2≤m:=by have:=uI.2;omega
  have iC:Ok I w8:=(bC.below (Qn _) gQ).grown fF (fun g e=>by cases e;exact hw.fresh (by omega))
  have mJ:Below w.heap.size w w8:=(aP.trans (gQ.mono aP.size)).grown fF (by have:=gQ.size;omega) (fun k e=>by cases e;omega)
  have hz:∀b,b<w.heap.size+2→w8.heap[b]? =W2.heap[b]? :=fun b hb=>(fF.block _ (by have:=gQ.size;omega) (fun e=>by cases e;omega)).trans (gQ.block _ (by omega))
  have oV:=Qh ((hz (w.heap.size+1) (by omega)).trans rA.q)
  have Ce:=Qh ((hz w.heap.size (by omega)).trans yF.q)
  have a0:w8.cell? ⟨w.heap.size,0,none⟩=some (.slice ao s.aM.length cap):=(cell_of_row _ _ 0 _ _ _ Ce.q).trans rfl
  have a1:w8.cell? ⟨w.heap.size,1,none⟩=some (.int .i64 s.aW):=(cell_of_row _ _ 1 _ _ _ Ce.q).trans rfl
  have a2:w8.cell? ⟨w.heap.size,2,none⟩=some (S s.str):=(cell_of_row _ _ 2 _ _ _ Ce.q).trans rfl
  have Od:=Qh aU
  have yH:=Qh (show (Tryz.prog.info? 40).map (·.size)=some 3 by kernel_rfl)
  have Ow:=Qh (si.lower (show w.heap.size+2≤W2.heap.size by omega))
  have Ih:=Qh aZ
  by_cases CU:s.aW<1∨255<s.aW∨65536<c.length
  ·obtain ⟨J,wQ,oJ,yG,_⟩:=si.freeze iC (fun b hb=>hw.fresh (by omega))
   have HJ:=Qh (And.intro (wQ.mono (show w.heap.size≤W2.heap.size by omega)) (And.intro oJ yG))
   have qG:J (w.heap.size+1)=none:=by rw [wQ _ (by omega)];exact hw.fresh (by omega)
   have d0:w8.cell? ⟨m,0,none⟩=some (.slice jm s.aM.length k7):=(cell_of_row _ _ 0 _ _ _ aU).trans rfl
   have d1:w8.cell? ⟨m,1,none⟩=some (.int .i64 s.aW):=(cell_of_row _ _ 1 _ _ _ aU).trans rfl
   have d2:w8.cell? ⟨m,2,none⟩=some (S s.str):=(cell_of_row _ _ 2 _ _ _ aU).trans rfl
   have g0:=frozen_of_row w8 _ 0 _ _ oV.q
   have g1:=frozen_of_row w8 _ 1 _ _ oV.q
   have g2:=frozen_of_row w8 _ 2 _ _ oV.q
   have k0:w8.cell? ⟨w.heap.size+1,0,none⟩=some (.slice none 0 0):=(cell_of_row _ _ 0 _ _ _ oV.q).trans rfl
   have k1:w8.cell? ⟨w.heap.size+1,1,none⟩=some (.int .i64 0):=(cell_of_row _ _ 1 _ _ _ oV.q).trans rfl
   have k2:w8.cell? ⟨w.heap.size+1,2,none⟩=some (S []):=(cell_of_row _ _ 2 _ _ _ oV.q).trans rfl
   have Vh:m≠w.heap.size+1:=by omega
   have Gy:w.heap.size+1≠m:=by omega
   clear hz uJ uI fF aU aZ si gQ hC eX wQ oJ yG c0 c1 c2 yF rA mh iC xH Hs Ow Ih
   by_cases h1:s.aW<1
   ·have e1:decide (s.aW<1)=true:=Qt h1
    have Hn:=Qh (show jE s c=(s,[],1) by rw [jE,if_pos (.inl h1)])
    clear h1 CU
    go_wp2
    refine bodyPost_ret (v:= .tuple #[fI s (.slice jm s.aM.length k7),.slice none 0 0,.int .i64 1]) ?_ rfl ?_
    ·rw [Fh rfl]
     simp [asAddr,run_loadVar_row _ (w.heap.size+1) 40 40 #[.slice jm s.aM.length k7,.int .i64 s.aW,S s.str] (0,0) _ (E8 oV.q) Tryz.underlying40 rfl yH.q]
    ·rw [Hn.q]
     exact ⟨_,_,J,rfl,((mJ.setCell (p:=⟨w.heap.size+1,0,none⟩) (Nat.le_succ _) _).setCell (p:=⟨w.heap.size+1,1,none⟩) (Nat.le_succ _) _).setCell (p:=⟨w.heap.size+1,2,none⟩) (Nat.le_succ _) _,HJ.q.1,((HJ.q.2.1.setCell qG _).setCell qG _).setCell qG _,HJ.q.2.2,aY.nil _ _⟩
   have e1:decide (s.aW<1)=false:=Qf h1
   by_cases h2:255<s.aW
   ·have e2:decide (255<s.aW)=true:=Qt h2
    have Hn:=Qh (show jE s c=(s,[],1) by rw [jE,if_pos (.inr h2)])
    clear h1 h2 CU
    go_wp2
    refine bodyPost_ret (v:= .tuple #[fI s (.slice jm s.aM.length k7),.slice none 0 0,.int .i64 1]) ?_ rfl ?_
    ·rw [Fh rfl]
     simp [asAddr,run_loadVar_row _ (w.heap.size+1) 40 40 #[.slice jm s.aM.length k7,.int .i64 s.aW,S s.str] (0,0) _ (E8 oV.q) Tryz.underlying40 rfl yH.q]
    ·rw [Hn.q]
     exact ⟨_,_,J,rfl,((mJ.setCell (p:=⟨w.heap.size+1,0,none⟩) (Nat.le_succ _) _).setCell (p:=⟨w.heap.size+1,1,none⟩) (Nat.le_succ _) _).setCell (p:=⟨w.heap.size+1,2,none⟩) (Nat.le_succ _) _,HJ.q.1,((HJ.q.2.1.setCell qG _).setCell qG _).setCell qG _,HJ.q.2.2,aY.nil _ _⟩
   have e2:decide (255<s.aW)=false:=Qf h2
   have h3:65536<c.length:=by omega
   have e3:decide ((65536:Int)<(c.length:Int))=true:=Qt (by omega)
   have Hn:=Qh (show jE s c=(s,[],6) by rw [jE,if_neg (by omega),if_pos h3])
   clear h1 h2 h3 CU
   go_wp2
   refine bodyPost_ret (v:= .tuple #[fI s (.slice jm s.aM.length k7),.slice none 0 0,.int .i64 6]) ?_ rfl ?_
   ·rw [Fh rfl]
    simp [asAddr,run_loadVar_row _ (w.heap.size+1) 40 40 #[.slice jm s.aM.length k7,.int .i64 s.aW,S s.str] (0,0) _ (E8 oV.q) Tryz.underlying40 rfl yH.q]
   ·rw [Hn.q]
    exact ⟨_,_,J,rfl,((mJ.setCell (p:=⟨w.heap.size+1,0,none⟩) (Nat.le_succ _) _).setCell (p:=⟨w.heap.size+1,1,none⟩) (Nat.le_succ _) _).setCell (p:=⟨w.heap.size+1,2,none⟩) (Nat.le_succ _) _,HJ.q.1,((HJ.q.2.1.setCell qG _).setCell qG _).setCell qG _,HJ.q.2.2,aY.nil _ _⟩
  have e1:decide (s.aW<1)=false:=Qf (by omega)
  have e2:decide (255<s.aW)=false:=Qf (by omega)
  have e3:decide ((65536:Int)<(c.length:Int))=false:=Qf (by omega)
  have h1:1≤s.aW∧s.aW≤255∧c.length≤65536:=by omega
  obtain ⟨R,hR⟩:∃R,(gX c).foldl lG (s,[])=R:=⟨_,rfl⟩
  have Hn:=Qh (show jE s c=(R.1,R.2,0) by rw [jE,if_neg (by omega),if_neg (by omega),hR])
  have HR:=Qh (show ((gX c).drop 0).foldl lG (s,[])=R from hR)
  have uU:=Qh (fun w=>Xpj I c hc w)
  have DJ:=Qh (Ru (s:=c))
  have cu:gm ((gX c).drop 0)≤65536:=by rw [List.drop_zero,N7];exact h1.2.2
  have Gr:(gX c).length≤65536:=Nat.le_trans (Yq c) h1.2.2
  have HB:=Qh (show xQ L C 0 s [] from ⟨by omega,by omega,by have:=Hs.q.str;omega,by have:=Hs.q.aM;omega,Hs.q.cx,Qn _,fun _ h=>(by cases h)⟩)
  generalize gX c=kY at HR uU DJ cu Gr
  have ma:=Qh (fun b (hb:w.heap.size≤b)=>hw.fresh hb)
  clear hz uJ uI fF aU aZ si gQ hC eX c0 c1 c2 yF rA mh hR CU
  go_wp2_with fail
  refine (xH.q _ iC).mono ?_
  rintro e3' wi ⟨B,D,rfl,Pn,uR,Ja,En⟩
  have uR:=Qh uR
  have Ja:=Qh Ja
  go_wp2_with fail
  refine (Xjc _).mono ?_
  rintro e4 wj ⟨rfl,rfl⟩
  have BU:=En.size
  have DK:=mJ.size
  have Fq:=(Qg Od.q)
  have Fs:=Qh (show kC w.heap.size m B wi.heap.size #[.slice ao s.aM.length cap,.int .i64 s.aW,S s.str] w I (wi.alloc (.cells #[.slice none 0 0] 79)) s s.aM [] (.slice jm s.aM.length k7) (.slice none 0 0) s.aM.length from by
   refine ⟨(Below.heap_alloc _ _ _ (by omega)).trans ((En.block _ Fq).trans Od.q),(Below.heap_alloc _ _ _ (by have:=(Qg Ce.q);omega)).trans ((En.block _ (Qg Ce.q)).trans Ce.q),(Below.heap_alloc _ _ _ (by have:=(Qg oV.q);omega)).trans ((En.block _ (Qg oV.q)).trans oV.q),⟨D,uR.q.alloc _,Ja.q⟩,heap_alloc_new wi _,(Ow.q.below En).alloc _,aN.nil _ _ _ _ _,(iC.below (Qn _) En).alloc _,fun b hb=>ma.q b ?_,fun g hg=>ma.q g (by have:=(oF Ow.q hg).1;omega),fun g hg=>(by cases hg),hm,by omega,by omega,?_,Qn _,(mJ.trans (En.mono DK)).alloc (by omega) _⟩
   ·rcases hb with rfl|rfl|rfl|rfl|rfl<;>omega
   ·have:=uR.q.lt;simp;omega)
  clear uR Ja Pn En mJ Ow Ih Od oV Ce iC a0 a1 a2 Fq BU DK xH
  generalize Ou:wi.heap.size=bo at Fs ⊢
  generalize (wi.alloc (.cells #[.slice none 0 0] 79))=w5 at Fs ⊢
  clear Ou
  go_wp2_with fail
  refine (uU.q _).mono ?_
  rintro e6 w6 ⟨vs,rfl,hos,fC⟩
  obtain ⟨J0,uP,kP,wD,_⟩:=hos.freeze (Fs.q.ok.below (Qn _) fC) (fun b hb=>Fs.q.ok.fresh hb)
  have Zx:=Qh (Fs.q.ext fC uP kP)
  have EG:=Qh (uP.mono Fs.q.eD.size)
  have zP:=Qh wD
  have aku:=wD.bK
  have KW:=Hs.q.aM
  obtain ⟨as',cs',rfl,_,_,_⟩:=id wD
  clear Fs uU hos fC uP kP wD Hs
  go_wp2_with fail
  go_loopw [48] (fun s48 wr=> ∃(k mc nn:Nat) (q:dX) (l:List Xt) (vk ve:Value) (J:IH),k≤kY.length∧s48= .int .i64 k∧(kY.drop k).foldl lG (q,l)=R∧xQ L C mc q l∧mc+gm (kY.drop k)≤65536∧nn≤C+mc∧kC w.heap.size m B bo #[.slice ao s.aM.length cap,.int .i64 s.aW,S s.str] w J wr q q.aM l vk ve nn∧q.aW=s.aW∧aY EY J (.slice as' kY.length cs') kY∧Ext w.heap.size I J) (fun i _=>kY.length-(intOf i).toNat)
  case atStart=>exact ⟨0,0,_,s,[],_,_,J0,Nat.zero_le _,rfl,HR.q,HB.q,by omega,KW,Zx.q,rfl,zP.q,EG.q⟩
  case round=>
   clear Zx HR HB EG zP
   obtain ⟨k,mc,nn,q,l,vk,ve,J,hk,rfl,hr,oh,Av,MC,hM,Im,wD,hx⟩:=hrel
   have Hr:=Qh hr
   have zQ:=Qh oh
   have HM:=Qh hM
   have zP:=Qh wD
   have Hx:=Qh hx
   have iU:Ok J wr:=hM.ok
   have hlen:=oh.len
   have hsw:=hM.eD.size
   clear hr oh hM wD hx
   by_cases hlt:k<kY.length
   ·obtain ⟨g,b,off,cap',Ox,dC,x0,x1⟩:=Rv zP.q iU k hlt
    cases dC
    have Hgf:=Qh (DJ.q g (by rw [←Ox];exact List.getElem_mem hlt))
    have hsd:gm (kY.drop k)=g.n.toNat+g.d.length+gm (kY.drop (k+1)):=by rw [List.drop_eq_getElem_cons hlt,Ox,NY]
    have bT:=Qh (YH hlt Ox Hr.q)
    rw [hsd] at Av
    have Cf:=Qh (HM.q.past (.cells #[.int .i64 g.n,S g.d] 168))
    have Cg:Ok J (wr.alloc (.cells #[.int .i64 g.n,S g.d] 168)):=iU.alloc _
    clear hsd Ox Hr HM
    by_cases Bh:g.d= []
    ·have O3:0<g.n:=by rcases Hgf.q with ⟨_,h⟩|⟨h,_⟩;exact absurd Bh h;exact h
     obtain ⟨p1,p2,p3,p4⟩:=Bp Bh
     have hgl:g.d.length=0:=by rw [Bh];rfl
     have hxb:XB 65536 ⟨0,0,g.n⟩:=by unfold XB;simp only;omega
     have rW:=Qh (show (kY.drop (k+1)).foldl lG (q,iE l ⟨0,0,g.n⟩)=R by have:=bT.q;rwa [lG,if_pos Bh] at this)
     have qw:=Qh (zQ.q.add hxb)
     have Po:=fun z hz=>(zQ.q.xs z hz).mono (show (65536*mc:Int)≤1099511627776 by omega)
     have Sy:=hxb.mono (show (65536:Int)≤1099511627776 by omega)
     clear Bh bT
     go_wp2_with fail
     refine (Rz J bo (w.heap.size+2) _ _ ⟨0,0,g.n⟩ _ Cf.q.ox Cf.q.rb (by have:=Cf.q.lt;omega) (by omega) Po Sy).mono ?_
     rintro e9 w9 ⟨u9,v9,rfl,iy,sK,dY,tL⟩
     have Fu:=Qh (Cf.q.Fe iy sK dY tL)
     clear iy sK dY tL
     go_wp2
     go_roundw
     case rel=>exact ⟨k+1,mc+1,nn,q,_,_,_,J,by omega,by go_num,rW.q,qw.q,by omega,by omega,Fu.q,Im,zP.q,Hx.q⟩
     case measure=>simp [intOf];omega
    ·obtain ⟨p1,p2,p3,p4⟩:=Bo Bh
     have bU:=Rq g.d
     have Zy:=Qh (fun x (hx:x∈bN g.d)=>show x.length≤65536 by have:=YE hx;rw [Yo] at this;omega)
     have vD:=Qh (show (kY.drop (k+1)).foldl lG (((bN g.d).drop 0).foldl nX (q,l))=R by have:=bT.q;rwa [lG,if_neg Bh] at this)
     have uU:=Qh (fun w=>Xqn J g.d (by omega) w)
     obtain ⟨Q,hQ⟩:∃Q,((bN g.d).drop 0).foldl nX (q,l)=Q:=⟨_,rfl⟩
     have HQ:=Qh hQ
     rw [hQ] at vD
     have KX:mc+(bN g.d).length+gm (kY.drop (k+1))≤65536:=by omega
     generalize bN g.d=cs at bU Zy HQ uU KX
     clear Bh hQ bT Av
     go_wp2_with fail
     refine (uU.q _).mono ?_
     rintro e3 w3 ⟨v3,rfl,I9,fu⟩
     obtain ⟨J3,xB,il,GI,_⟩:=I9.freeze (Cg.below (Qn _) fu) (fun b hb=>Cg.fresh hb)
     have Zz:=Qh (Cf.q.ext fu xB il)
     have ZA:=Qh (Hx.q.trans xB (by simp;omega))
     have KY:=Qh (zP.q.mono (xB.keep Cg (Qn _)))
     have Io:=Qh GI
     have IX:=GI.bK
     obtain ⟨ac,cc,rfl,_,_,_⟩:=id GI
     have yS:=zQ
     clear I9 fu xB il GI Cf zQ Hx zP x0 x1 hlen iU Cg
     go_wp2_with fail
     go_loopw [64] (fun s64 wr=> ∃(j mc nn:Nat) (q:dX) (l:List Xt) (vk ve:Value) (J:IH),j≤cs.length∧s64= .int .i64 j∧(cs.drop j).foldl nX (q,l)=Q∧xQ L C mc q l∧mc+(cs.length-j)+gm (kY.drop (k+1))≤65536∧nn≤C+mc∧kC w.heap.size m B bo #[.slice ao s.aM.length cap,.int .i64 s.aW,S s.str] w J wr q q.aM l vk ve nn∧q.aW=s.aW∧aY EY J (.slice (some ⟨b,off,none⟩) kY.length cs') kY∧aY ib J (.slice ac cs.length cc) cs∧Ext w.heap.size I J) (fun i _=>cs.length-(intOf i).toNat)
     case atStart=>exact ⟨0,mc,nn,q,l,_,_,J3,Nat.zero_le _,rfl,HQ.q,yS.q,by omega,MC,Zz.q,Im,KY.q,Io.q,ZA.q⟩
     case round=>
      clear Zz HQ yS ZA KY Io KX MC Im
      obtain ⟨j,mc,nn,q,l,vk,ve,J,hj,rfl,hr,oh,Av,MC,hM,Im,wD,GI,hx⟩:=hrel
      have Hr:=Qh hr
      have zQ:=Qh oh
      have HM:=Qh hM
      have zP:=Qh wD
      have Io:=Qh GI
      have Hx:=Qh hx
      have Oy:=Qh Im
      have iU:Ok J wr:=hM.ok
      obtain ⟨ak,ck,rfl⟩:=wP hM.ck
      have hlen:=oh.len
      have ahR:=oh.aM
      have ahS:=oh.str
      clear hr oh hM wD hx GI Im
      by_cases vB:j<cs.length
      ·obtain ⟨x,bz,ahT,ahU,Vl,dC,x0⟩:=Jq Io.q iU j vB
       cases dC
       have Eh:x.length≤65536:=Zy.q x (by rw [←Vl];exact List.getElem_mem vB)
       have bT:=Qh (YH vB Vl Hr.q)
       have Cf:=Qh (HM.q.past (.cells #[S x] 9))
       have vI:=Qh (RI wr.heap.size x (by omega) (wr.alloc (.cells #[S x] 9)) (by simp) (by simp))
       have u7:=Ia x
       obtain ⟨dg,IV⟩:∃dg,dA x=dg:=⟨_,rfl⟩
       have Ch:=Qh (fun y (h:eP q.aM (dA x)=some y)=>YF (l:=l) h)
       have Ci:=Qh (fun (h:eP q.aM (dA x)=none)=>YG (l:=l) h)
       rw [IV] at vI Ch Ci u7
       clear Vl Hr HM IV
       go_wp2_with fail
       refine vI.q.mono ?_
       rintro e5 w5 ⟨rfl,dm⟩
       have AZ:=Qh (Cf.q.below dm)
       clear x0 dm Cf vI iU
       obtain ⟨D,Bj,Gu⟩:=AZ.q.rm
       have MG:=YD Bj Gu (p:=dg) (by omega)
       have Po:=fun z hz=>(zQ.q.xs z hz).mono (show (65536*mc:Int)≤1099511627776 by omega)
       have tF:=Qh (show oD q.aM dg=match eP q.aM dg with|some x=>(x,true)|none=>(⟨0,0,0⟩,false) from rfl)
       have Sz:=Qh (fun y (h:eP q.aM dg=some y)=>Ry h)
       cases hfx:eP q.aM dg with
       |some y=>
        rw [hfx] at tF
        rw [tF.q] at MG
        have Pg:XB 65536 y:=by
         obtain ⟨z,hz,rfl⟩:=Sz.q y hfx
         exact zQ.q.cx z hz
        have SA:=Pg.mono (show (65536:Int)≤1099511627776 by omega)
        have rW:=Qh (show (cs.drop (j+1)).foldl nX (q,iE l y)=Q by have:=bT.q;rwa [Ch.q y hfx] at this)
        have qw:=Qh (zQ.q.add Pg)
        have Fv:=Qh (AZ.q.past (.cells #[.int .i64 y.s,.int .i64 y.o,.int .i64 y.n] 109))
        clear hfx tF Sz Ch Ci bT Bj Gu
        go_wp2_with fail
        refine (Rz J bo (w.heap.size+2) _ _ y _ Fv.q.ox Fv.q.rb (by have:=Fv.q.lt;omega) (by omega) Po SA).mono ?_
        rintro e9 w9 ⟨u9,v9,rfl,iy,sK,dY,tL⟩
        have Fu:=Qh (Fv.q.Fe iy sK dY tL)
        clear iy sK dY tL
        go_wp2
        go_roundw
        case rel=>exact ⟨j+1,mc+1,nn,q,_,_,_,J,by omega,by go_num,rW.q,qw.q,by omega,by omega,Fu.q,Oy.q,zP.q,Io.q,Hx.q⟩
        case measure=>simp [intOf];omega
       |none=>
        rw [hfx] at tF
        rw [tF.q] at MG
        have rW:=Qh (show (cs.drop (j+1)).foldl nX (⟨q.aM++ [⟨dg,jO q x⟩],q.aW,q.str++x⟩,iE l (jO q x))=Q by have:=bT.q;rwa [Ci.q hfx] at this)
        have qw:=Qh (zQ.q.grow' hL (by omega) Eh (dg:=dg))
        have hnb:=Oc zQ.q hL (by omega) Eh
        have SC:=hnb.mono (show (65536:Int)≤1099511627776 by omega)
        have ZB:=YC Gu Bj.isMap (c:=⟨dg,jO q x⟩) hfx
        have ZC:=Qh ZB
        have BR:=Qh (E5 dg (by omega))
        have Fv:=Qh (AZ.q.past (.cells #[.int .i64 q.aW,.int .i64 (q.str.length:Nat),.int .i64 (x.length:Nat)] 109))
        have Pp:=Qh (Bj.alloc (.cells #[.int .i64 q.aW,.int .i64 (q.str.length:Nat),.int .i64 (x.length:Nat)] 109))
        have r5:=cell_of_row w5 m 2 _ _ _ AZ.q.ro
        have c2:w5.cell? ⟨m,2,none⟩=some (S q.str):=r5.trans rfl
        have n1:w5.cell? ⟨w.heap.size,1,none⟩=some (.int .i64 s.aW):=(cell_of_row w5 w.heap.size 1 _ _ _ AZ.q.r0).trans rfl
        have ZE:w5.cell? ⟨w.heap.size,1,none⟩=some (.int .i64 q.aW):=by rw [Oy.q];exact n1
        have z1:=jH (.cells #[.int .i64 0,.int .i64 0,.int .i64 0] 109) ZE
        have z2:=jH (.cells #[.int .i64 0,.int .i64 0,.int .i64 0] 109) c2
        have q9:=AZ.q.lt
        have SE:w.heap.size≠w5.heap.size:=by omega
        have SF:m≠w5.heap.size:=by omega
        clear hfx tF Sz Ch Ci bT Bj Gu ZB r5 n1
        have Fw:=Qh (heap_alloc_new w5 (.cells #[.int .i64 q.aW,.int .i64 (q.str.length:Nat),.int .i64 (x.length:Nat)] 109))
        have NP:=AZ.q.hB
        have hnw:=AZ.q.eD.size
        obtain ⟨bx,oZ⟩:∃bx,w5.heap.size=bx:=⟨_,rfl⟩
        rw [oZ] at Fw SE SF NP hnw
        have SG:=AZ.q.lt.2.1
        rw [oZ] at SG
        have hJx:J bx=none:=by rw [←oZ];exact AZ.q.ok.fresh (Qn _)
        go_wp2_with (first
         |(at_mapUpdate;refine wpList_mapUpdate_own _ rfl _ _ _ 195 rfl 9 109 EZ Tryz.underlying195 ky B nn D rfl Pp.q (by unfold maxLen;omega) _ _ _ rfl rfl BR.q _ [] (Rx (jO q x)) ?_)
         |go_in)
        intro w7 uZ kI
        have DL:=Qh (Fv.q.mapped kI uZ ZC.q)
        have zR:=(kI.block bx (by simp;omega) (fun e=>by cases e;omega)).trans Fw.q
        have Cj:=Qh zR
        have y0:w7.cell? ⟨bx,0,none⟩=some (.int .i64 q.aW):=(cell_of_row w7 _ 0 _ _ _ zR).trans rfl
        have y1:w7.cell? ⟨bx,1,none⟩=some (.int .i64 (q.str.length:Nat)):=(cell_of_row w7 _ 1 _ _ _ zR).trans rfl
        have y2:w7.cell? ⟨bx,2,none⟩=some (.int .i64 (x.length:Nat)):=(cell_of_row w7 _ 2 _ _ _ zR).trans rfl
        have m0:w7.cell? ⟨m,0,none⟩=some (.slice ak q.aM.length ck):=(cell_of_row w7 _ 0 _ _ _ DL.q.ro).trans rfl
        have g0:=frozen_of_row w7 _ 0 _ _ DL.q.ro
        have Jc:=DL.q.rH.1
        have sG:=DL.q.lt
        clear Fv Pp ZC BR uZ kI zR z1 z2 c2 ZE Fw
        go_wp2_with (at_builtin;go_loud (refine Kw (w0:=w7) Xsr rfl _ _ rfl (w.heap.size+2) _ q.aM rfl DL.q.ck ⟨dg,jO q x⟩ [S dg,.int .i64 q.aW,.int .i64 (q.str.length:Nat),.int .i64 (x.length:Nat)] _ (by first|rfl|simp [Act.eval]) rfl (by omega) (by omega) (by omega) ?_))
        intro v9 w9 fV dY tL
        obtain ⟨a9,n9,k9,rfl⟩:=zI fV
        have KA:=iV dY Jc m0
        have KC:=AQ dY Jc m0 g0
        have Fu:=Qh (DL.q.added (q':=⟨q.aM++ [⟨dg,jO q x⟩],q.aW,q.str⟩) fV dY tL rfl rfl)
        have KZ:=(heap_setCell_other w9 ⟨m,0,none⟩ bx (.slice a9 n9 k9) (by show bx≠m;omega)).trans ((dY.block bx (Qg Cj.q) (fun e=>vN DL.q.ck Cj.q (by decide) e.symm)).trans Cj.q)
        have s2:(w9.setCell ⟨m,0,none⟩ (.slice a9 n9 k9)).cell? ⟨m,2,none⟩=some (S q.str):=(cell_of_row _ _ 2 _ _ _ Fu.q.ro).trans rfl
        have t2:=frozen_of_row _ _ 2 _ _ Fu.q.ro
        have Cn:=Qh (Fu.q.wrote (q.str++x))
        have wX:=(heap_setCell_other _ ⟨m,2,none⟩ bx (S (q.str++x)) (by show bx≠m;omega)).trans KZ
        have x0:=(cell_of_row _ _ 0 _ _ _ wX).trans rfl
        have x1:=(cell_of_row _ _ 1 _ _ _ wX).trans rfl
        have x2:=(cell_of_row _ _ 2 _ _ _ wX).trans rfl
        have ahV:¬9223372036854775807<q.str.length+x.length:=by omega
        clear DL y0 y1 y2 m0 g0 fV dY tL KZ wX Cj
        go_wp2_with fail
        refine (Rz J bo (w.heap.size+2) _ _ (jO q x) _ Cn.q.ox Cn.q.rb (by have:=Cn.q.lt;omega) (by omega) Po SC).mono ?_
        rintro e11 xU ⟨u11,v11,rfl,Co,K5,xV,K6⟩
        have SH:=Qh (Cn.q.Fe Co K5 xV K6)
        clear Co K5 xV K6 s2 t2 x0 x1 x2 KA KC
        go_wp2
        go_roundw
        case rel=>exact ⟨j+1,mc+1,nn+1,_,_,_,_,J,by omega,by go_num,rW.q,qw.q,by omega,by omega,SH.q,Oy.q,zP.q,Io.q,Hx.q⟩
        case measure=>simp [intOf];omega
      ·have yh:j=cs.length:=by omega
       have rW:=Qh (show (q,l)=Q by have:=Hr.q;rwa [List.drop_of_length_le (by omega)] at this)
       have SI:=Qh (show (kY.drop (k+1)).foldl lG (q,l)=R by rw [rW.q];exact vD.q)
       clear Hr vD
       go_wp2
       go_roundw
       case rel=>exact ⟨k+1,mc,nn,q,l,_,_,J,by omega,by go_num,SI.q,zQ.q,by omega,by omega,HM.q,Oy.q,zP.q,Hx.q⟩
       case measure=>simp [intOf];omega
   ·have xw:k=kY.length:=by omega
    have rW:=Qh (show R=(q,l) by have:=Hr.q;rw [List.drop_of_length_le (by omega)] at this;exact this.symm)
    obtain ⟨ak,ck,rfl⟩:=wP HM.q.ck
    obtain ⟨ae,ce,rfl⟩:=wP HM.q.ox
    have z0:wr.cell? ⟨m,0,none⟩=some (.slice ak q.aM.length ck):=(cell_of_row wr _ 0 _ _ _ HM.q.ro).trans rfl
    have z1:wr.cell? ⟨m,1,none⟩=some (.int .i64 q.aW):=(cell_of_row wr _ 1 _ _ _ HM.q.ro).trans rfl
    have z2:wr.cell? ⟨m,2,none⟩=some (S q.str):=(cell_of_row wr _ 2 _ _ _ HM.q.ro).trans rfl
    have zb:wr.cell? ⟨bo,0,none⟩=some (.slice ae l.length ce):=(cell_of_row wr _ 0 _ _ _ HM.q.rb).trans rfl
    obtain ⟨J1,ZF,ZG,ZH,NL,SK⟩:=HM.q.ck.wO HM.q.ok HM.q.fk
    have qf:∀g,(Value.slice ae l.length ce).ownBlock=some g→J1 g=none:=fun g hg=>by
     rw [SK g (fun e=>by rcases HM.q.kv with h|h; ·rw [h] at e;cases e
                         ·exact h (by rw [e,hg]))]
     exact HM.q.fe g hg
    obtain ⟨J2,ZI,ZJ,ZK,NM,ZL⟩:=(HM.q.ox.mono ZF).wO ZH qf
    have GJ:J2 (w.heap.size+1)=none:=by
     rw [ZL _ (HM.q.wU.2.2.2 _ (by omega)),SK _ (HM.q.rH.2.2.2 _ (by omega))]
     exact HM.q.fn _ (by simp)
    have HJ:=Qh (And.intro ((Hx.q.trans (ZG.mono (show w.heap.size≤w.heap.size+2 by omega)) (Qn _)).trans (ZJ.mono (show w.heap.size≤w.heap.size+2 by omega)) (Qn _)) (And.intro ZK (And.intro (NL.mono ZI) NM)))
    clear ZF ZG ZH NL SK ZI ZJ ZK NM ZL qf Hr iU hlen
    go_wp2_with fail
    refine tK (X:=Nat × Nat) (Zv w.heap.size m bo ak q.aM.length ck q.aW q.str ((.slice ae l.length ce))) (rG wr 209 210 (fun _ _=>True) (fun _ _=>True) (fun x=>w.heap.size+1) 40 3 207 208 (fun x=> #[.slice ak q.aM.length ck,.int .i64 q.aW,S q.str]) (fun x=> #[.slice ak q.aM.length ck,.int .i64 q.aW,S q.str]) (fun x=> #[.slice ak q.aM.length ck,.int .i64 q.aW,S q.str])) (by kernel_rfl) (by kernel_rfl) ?_ ?_ ?_
    ·exact ⟨(0,default),rG.start _ _⟩
    ·rintro x s' a' w' i cu bU ha hC hi
     obtain ⟨aJ,oi,dN,aA⟩:=mem_ready.1 hi
     rcases i with _|_|_|_|_|_|i
     rotate_left 6
     ·simp at dN
     all_goals
      have bY:=dN
      simp at dN
      subst dN
      simp [Region.binds] at aA
     ·have e7:a'.tmps[7]?.getD undef= .pointer (some ⟨m,0,none⟩):=lT ha (by simp)
      have hl:s'.getD 3 false=false:=gK bU [0] (by kernel_rfl) (by rfl) aJ
      have cq:=bI (hC.off hl) z0
      have cr:=bI (hC.off hl) z1
      have cs:=bI (hC.off hl) z2
      refine wpOp_step bY (fun K' hK=> ?_)
      rw [if_pos (by rfl)]
      unfold Oper.wp
      simp [go_sem,e7,cq,cr,cs,Oper.upon]
      exact hK _ _ ⟨x,dF (d:=some 108) (v:= .agg #[.slice ak q.aM.length ck,.int .i64 q.aW,S q.str]) Cc ha rfl aJ,hC.pure (by decide) (by decide) (by decide) (by decide) (by decide)⟩
     ·have e10:a'.tmps[10]?.getD undef= .func (.func 196) #[] #[.pointer (some ⟨bo,0,none⟩)]:=lT ha (by simp)
      refine wpOp_step bY (fun K' hK=> ?_)
      rw [if_pos (by rfl)]
      unfold Oper.wp
      simp [go_sem,e10,Oper.upon]
      exact hK _ _ ⟨x,dF (d:=some 109) (v:= .func (.func 196) #[] #[.pointer (some ⟨bo,0,none⟩)]) Cc ha rfl aJ,hC.pure (by decide) (by decide) (by decide) (by decide) (by decide)⟩
     ·have e109:a'.tmps[109]?.getD undef= .func (.func 196) #[] #[.pointer (some ⟨bo,0,none⟩)]:=fD (i:=1) Cc ha rfl (by first|simpa using aA|simp [aA]) (by simp)
      have hl:s'.getD 3 false=false:=gK bU [2] (by kernel_rfl) (by rfl) aJ
      have ct:=bI (hC.off hl) zb
      refine wpOp_step bY (fun K' hK=> ?_)
      rw [if_pos (by rfl)]
      unfold Oper.wp
      simp [go_sem,e109,Oper.upon]
      refine (Xsk bo _ w' ct).mono ?_
      rintro r4 w4 ⟨rfl,rfl⟩
      exact hK _ _ ⟨x,dF (d:=some 110) (v:=(.slice ae l.length ce)) Cc ha rfl aJ,hC.pure (by decide) (by decide) (by decide) (by decide) (by decide)⟩
     ·have e4:a'.tmps[4]?.getD undef= .pointer (some ⟨w.heap.size+1,0,none⟩):=lT ha (by simp)
      have e108:a'.tmps[108]?.getD undef= .agg #[.slice ak q.aM.length ck,.int .i64 q.aW,S q.str]:=fD (i:=0) Cc ha rfl (by first|simpa using aA|simp [aA]) (by simp)
      refine wpOp_step bY (fun K' hK=> ?_)
      rw [if_pos (by rfl)]
      have CS:s'.getD 3 false=false:=jl aJ
      have aU:w'.heap[w.heap.size+1]? =some (.cells _ 40 (0,0)):=(by exact ((hC.off CS).block _ (Qg HM.q.r1)).trans HM.q.r1)
      refine qU 40 _ _ rfl (w.heap.size+1) 0 [.slice ak q.aM.length ck,.int .i64 q.aW,S q.str] (.agg #[.slice ak q.aM.length ck,.int .i64 q.aW,S q.str]) (by simp [Act.eval,e4,e108]) (by simp [Act.eval,e4,e108]) (by rfl) _ _ aU (by simp) (by kernel_rfl) (by simp [Value.oneCell']) ?_
      exact hK _ _ ⟨x,dF (d:=none) (v:=undef) Cc ha rfl aJ,hC.lH aJ trivial trivial (kz (by simp [cu])) (kz (by simp [cu])) (by decide) aU (by rfl)⟩
     ·have SL:a'.tmps[110]?.getD undef=(.slice ae l.length ce):=fD (i:=2) Cc ha rfl (by first|simpa using aA|simp [aA]) (by simp)
      refine wpOp_step bY (fun K' hK=> ?_)
      rw [if_pos (by rfl)]
      unfold Oper.wp
      simp [go_sem,SL,Oper.upon]
      exact hK _ _ ⟨x,dF (d:=some 5) (v:=(.slice ae l.length ce)) Cc ha rfl aJ,hC.pure (by decide) (by decide) (by decide) (by decide) (by decide)⟩
     ·refine wpOp_step bY (fun K' hK=> ?_)
      rw [if_pos (by rfl)]
      unfold Oper.wp
      simp [go_sem,Oper.upon]
      exact hK _ _ ⟨x,dF (d:=some 6) (v:= .int .i64 0) Cc ha rfl aJ,hC.pure (by decide) (by decide) (by decide) (by decide) (by decide)⟩
    ·rintro x s' a' w8 eX ha hC
     obtain ⟨wb,gQ,uJ,uI,fF,aU⟩:=hC.on (eX 3 (by decide))
     simp only [ite_self] at aU
     rw [su _ _ _ _ (fun i hi=>by rw [Nat.zero_add];exact eX i (by simpa using hi))] at ha
     subst ha
     simp only [df,Act.put]
     have mJ:Below w.heap.size w w8:=(HM.q.eD.trans (gQ.mono hsw)).grown fF (by have:=gQ.size;omega) (fun g e=>by cases e;omega)
     have iC:Ok J2 w8:=(HJ.q.2.1.below (Qn _) gQ).grown fF (fun g e=>by cases e;exact GJ)
     go_wp2
     refine bodyPost_ret (v:= .tuple #[fI q (.slice ak q.aM.length ck),.slice ae l.length ce,.int .i64 0]) ?_ rfl ?_
     ·rw [Fh rfl]
      simp [asAddr,run_loadVar_row _ (w.heap.size+1) 40 40 #[.slice ak q.aM.length ck,.int .i64 q.aW,S q.str] (0,0) _ aU Tryz.underlying40 rfl yH.q]
     ·rw [Hn.q,rW.q]
      exact ⟨_,_,J2,rfl,mJ,HJ.q.1,iC,HJ.q.2.2.1,HJ.q.2.2.2⟩
