/-
  Walks and laws that the claim's theorem uses: texts SnZ SoA, joined; comments out. Conditions: as each theorem says.
-/
import Derived.Test.YtjdednajelommaaGreatDoorQ34
set_option linter.unusedSimpArgs false
set_option linter.unusedVariables false
namespace Go.Proofs.YtjdednajelommaaGreatDoor
open Go.RowKit
abbrev apL (n m le le1 cp:Nat) (ao:Option Addr) (s:Ses) (ve:Value) (x:(Option Addr × Nat) × Nat × (Option Addr × Nat)):List (Option Tmp × Value):=
 [(some 43,.pointer (some ⟨n,3,none⟩)),(some 44,.slice ao le cp),(some 45,.slice x.1.1 le x.1.2),(some 46,sesV s ve),(some 47,.slice (some ⟨x.2.1,0,none⟩) 1 1),(some 48,.slice x.2.2.1 le1 x.2.2.2),(some 49,.pointer (some ⟨m,3,none⟩)),(none,undef)]
theorem Xco {n m le le1 cp:Nat} {ao:Option Addr} {s:Ses} {ve:Value} {x:(Option Addr × Nat) × Nat × (Option Addr × Nat)}:ApartF (apL n m le le1 cp ao s ve x):=by
 unfold ApartF
 simp
set_option maxRecDepth 100000 in
set_option maxHeartbeats 8000000 in
theorem Xdr (I:IH) (hI:Glob I) (ai dt sp:Int) {n m:Nat} (L:List Ses) (h:ArcOk n m L) (hn:n≤150) (hm:m≤250) (vs:Value) (hvs:RdS tSes I vs L) (s:Ses) (ve:Value) (hve:RdS tEnt I ve s.ents) (w:World) (hw:Ok I w):
 Calls Tryz.prog 26 #[arcV ai dt sp vs,sesV s ve] w (RetAr I w ai dt sp (appP L s).1 (appP L s).2):=by
 have hlen:=h.len
 have Hla:=Qh (fun w hw=>Xgt I hI ai dt sp L vs hvs (h.sesD (by omega) (by omega)) w hw)
 have Hld:=Qh (fun w hw=>Xgu I ai dt sp L vs hvs w hw)
 have Hcl:=Qh (fun w hw=>Xme I vs L hvs w hw (by omega))
 have Hvs:=Qh hvs
 have Hve:=Qh hve
 have Hi4:=Qh (show (Tryz.prog.info? 30).map (·.size)=some 4 by kernel_rfl)
 obtain ⟨so,sc,rfl,_,_,_⟩:=id hvs
 obtain ⟨eo,ec,rfl,_,_,_⟩:=id hve
 have Hap:=Qh (show appP L s=if appErr L s≠0 then (L,appErr L s) else (L++ [s],0) from rfl)
 have Hae:=Qh (show appErr L s=if s.num≠(L.length:Nat)+1∨(L≠ []∧s.date<lastDt L) then 14 else if s.prev≠lastDig L then 20 else 0 by unfold appErr;rw [if_neg (by omega)])
 have d1:decide ((255:Int)≤(L.length:Int))=false:=Qf (by omega)
 have m1:IntKind.i64.wrap ((L.length:Int)+1)=(L.length:Int)+1:=IntWalk.i64_in _ (by omega)
 obtain ⟨W3,hW3⟩:∃W3,(((w.alloc (.cells #[.int .u32 ai,.int .i64 dt,.int .i64 sp,.slice so L.length sc] 30)).alloc (.cells #[.int .i64 s.num,.int .i64 s.date,S s.prev,.slice eo s.ents.length ec,S s.stream,S s.sl] 56)).alloc (.cells zeroA 30))=W3:=⟨_,rfl⟩
 obtain ⟨hsz3,h30,h31,h32⟩:=Xdm w _ _ _ _ _ _ W3 hW3
 have M:=Qh (show ApM I w ai dt sp (.slice so L.length sc) s (.slice eo s.ents.length ec) W3 from ⟨by rw [←hW3];exact (((MAt.start hw).past _).past _).past _,h30,
  ⟨(cell_of_row _ _ 0 _ _ _ h31).trans rfl,(cell_of_row _ _ 1 _ _ _ h31).trans rfl,(cell_of_row _ _ 2 _ _ _ h31).trans rfl,(cell_of_row _ _ 3 _ _ _ h31).trans rfl,(cell_of_row _ _ 4 _ _ _ h31).trans rfl,(cell_of_row _ _ 5 _ _ _ h31).trans rfl⟩,h32⟩)
 obtain ⟨z0,z1,z2,z3⟩:=Xag h30
 obtain ⟨c0,c1,c2,c3,c4,c5⟩:=M.out.ses
 clear h hvs hve h30 h31 h32
 go_enter Tryz.func26,Tryz.ntmps26
 go_upto_region 3 with fail
 clear hW3
 obtain ⟨B,hB⟩:∃B:Bool,decide (s.num≠(L.length:Nat)+1∨(L≠ []∧s.date<lastDt L))=B:=⟨_,rfl⟩
 go_cut [13] (fun s13 wx=>s13= .bool B∧Below W3.heap.size W3 wx)
 case first=>
  have z0:=cell_regrown z0
  have z1:=cell_regrown z1
  have z2:=cell_regrown z2
  have z3:=cell_regrown z3
  have c0:=cell_regrown c0
  have c1:=cell_regrown c1
  by_cases q1:s.num=(L.length:Nat)+1
  ·have i1:(s.num != (L.length:Int)+1)=false:=by simpa using q1
   rcases Xb0 L with hL|⟨k,hk,hkl,hlast⟩
   ·have hB2:B=false:=by rw [←hB];exact Qf (by rintro (h|⟨h,_⟩);exact h q1;exact h hL)
    have i0:decide (0<(L.length:Int))=false:=Qf (by rw [hL];simp)
    have i0':decide (0<L.length)=false:=Qf (by rw [hL];simp)
    subst hB2
    clear hB q1 hL
    go_wp2_with fail
    refine wp_region_quiet_below (by kernel_rfl) (by kernel_rfl) ?_
    repeat (go_big_quiet_step ((fail)))
    refine wpQuiet_nil ?_
    intro w2 hwq
    have hb2:Below (W3).heap.size (W3) w2:=by
     obtain ⟨pq,rfl⟩:=hwq
     exact below_regrown _ _ _
    clear hwq
    go_wp2_with fail
    go_meet
    exact ⟨rfl,hb2⟩
   ·have i0:decide (0<(L.length:Int))=true:=Qt (by omega)
    have i0':decide (0<L.length)=true:=Qt (by omega)
    have hne:L≠ []:=fun e=>by rw [e] at hk;simp at hk
    have hB2:decide (s.date<lastDt L)=B:=by rw [←hB];simp [q1,hne]
    clear hB hlast hne q1 hkl
    go_wp2_with fail
    refine wp_region_quiet_below (by kernel_rfl) (by kernel_rfl) ?_
    repeat (go_big_quiet_step ((with_reducible exact Calls.regrown_of (Hld.out _ (M.out.at_.ok.below (Qn _) (below_regrown _ _ _))))))
    refine wpQuiet_nil ?_
    intro w2 hwq
    have hb2:Below (W3).heap.size (W3) w2:=by
     obtain ⟨pq,rfl⟩:=hwq
     exact below_regrown _ _ _
    clear hwq
    go_wp2_with fail
    go_meet
    exact ⟨by first|rfl|rw [hB2],hb2⟩
  ·have i1:(s.num != (L.length:Int)+1)=true:=by simpa using q1
   have hB2:B=true:=by rw [←hB];exact Qt (.inl q1)
   subst hB2
   clear hB q1
   go_wp2_with fail
   refine wp_region_quiet_below (by kernel_rfl) (by kernel_rfl) ?_
   repeat (first|go_big_quiet_step (fail)|refine BigFrame.wpQuiet_skip (by rfl) ?_)
   refine wpQuiet_nil ?_
   intro w2 hwq
   have hb2:Below W3.heap.size W3 w2:=by
    obtain ⟨pq,rfl⟩:=hwq
    exact below_regrown _ _ _
   clear hwq
   go_wp2_with fail
   go_meet
   exact ⟨rfl,hb2⟩
 case rest=>
 obtain ⟨rfl,hb1⟩:=hcut
 replace M:=Qh (M.out.quiet hb1)
 clear hb1 z0 z1 z2 z3 c0 c1 c2 c3 c4 c5
 cases B
 case true=>
  have Hn:=Qh (show appP L s=(L,14) by rw [Hap.out,Hae.out,if_pos (of_decide_eq_true hB)];rfl)
  clear hB
  obtain ⟨z0,z1,z2,z3⟩:=Xag M.out.row
  have hout:=M.out.out
  go_wp2_with (refine Xab rfl rfl 30 _ _ rfl (w.heap.size+2) 0 [.int .u32 ai,.int .i64 dt,.int .i64 sp,.slice so L.length sc] (arcV ai dt sp (.slice so L.length sc)) (by simp [Act.eval]) (by simp [Act.eval]) (by rfl) zeroA 30 hout (by simp) (by kernel_rfl) (by simp [Value.oneCell']) #[.int .u32 ai,.int .i64 dt,.int .i64 sp,.slice so L.length sc] (by rfl) ?_
               intro w9 hg9 hr9)
  refine bodyPost_ret (v:= .tuple #[arcV ai dt sp (.slice so L.length sc),.int .i64 14]) ?_ rfl (M.out.old hw hg9 Hvs.out Hn.out)
  rw [results_cell_tmp rfl]
  simp [asAddr,run_loadVar_row w9 (w.heap.size+2) 30 30 _ (0,0) _ hr9 Tryz.underlying30 rfl Hi4.out]
 replace Hae:=Qh (Hae.out.trans (if_neg (of_decide_eq_false hB)))
 clear hB
 obtain ⟨z0,z1,z2,z3⟩:=Xag M.out.row
 obtain ⟨c0,c1,c2,c3,c4,c5⟩:=M.out.ses
 obtain ⟨wA,hwA⟩:∃wA,wA=wc:=⟨_,rfl⟩
 subst hwA
 obtain ⟨B,hB⟩:∃B:Bool,(!s.prev==lastDig L)=B:=⟨_,rfl⟩
 go_upto_region 5 with fail
 go_cut [35] (fun s35 wx=>s35= .bool B∧Below wA.heap.size wA wx)
 case first=>
  have z0:=cell_regrown z0
  have z1:=cell_regrown z1
  have z2:=cell_regrown z2
  have z3:=cell_regrown z3
  have c2:=cell_regrown c2
  go_wp2_with fail
  refine wp_region_quiet_below (by kernel_rfl) (by kernel_rfl) ?_
  repeat (go_big_quiet_step ((with_reducible exact Calls.regrown_of (Hla.out _ (M.out.at_.ok.below (Qn _) (below_regrown _ _ _))))))
  refine wpQuiet_nil ?_
  intro w2 hwq
  have hb2:Below (wA).heap.size (wA) w2:=by
   obtain ⟨pq,rfl⟩:=hwq
   exact below_regrown _ _ _
  clear hwq
  go_wp2_with fail
  go_meet
  exact ⟨by first|rfl|rw [hB],hb2⟩
 case rest=>
 obtain ⟨rfl,hb1⟩:=hcut
 replace M:=Qh (M.out.quiet hb1)
 clear hb1 z0 z1 z2 z3 c0 c1 c2 c3 c4 c5 Hla
 cases B
 case true=>
  have he:appErr L s=20:=by rw [Hae.out,if_pos (by simpa using hB)]
  have Hn:=Qh (show appP L s=(L,20) by rw [Hap.out,he];rfl)
  clear he
  clear hB
  obtain ⟨z0,z1,z2,z3⟩:=Xag M.out.row
  have hout:=M.out.out
  go_wp2_with (refine Xab rfl rfl 30 _ _ rfl (w.heap.size+2) 0 [.int .u32 ai,.int .i64 dt,.int .i64 sp,.slice so L.length sc] (arcV ai dt sp (.slice so L.length sc)) (by simp [Act.eval]) (by simp [Act.eval]) (by rfl) zeroA 30 hout (by simp) (by kernel_rfl) (by simp [Value.oneCell']) #[.int .u32 ai,.int .i64 dt,.int .i64 sp,.slice so L.length sc] (by rfl) ?_
               intro w9 hg9 hr9)
  refine bodyPost_ret (v:= .tuple #[arcV ai dt sp (.slice so L.length sc),.int .i64 20]) ?_ rfl (M.out.old hw hg9 Hvs.out Hn.out)
  rw [results_cell_tmp rfl]
  simp [asAddr,run_loadVar_row w9 (w.heap.size+2) 30 30 _ (0,0) _ hr9 Tryz.underlying30 rfl Hi4.out]
 have he:appErr L s=0:=by rw [Hae.out,if_neg (by simpa using hB)]
 have Hn:=Qh (show appP L s=(L++ [s],0) by rw [Hap.out,he];rfl)
 clear he
 clear hB Hap Hae
 obtain ⟨z0,z1,z2,z3⟩:=Xag M.out.row
 obtain ⟨wq,hwq⟩:∃wq,wq=wc:=⟨_,rfl⟩
 subst hwq
 have hlA:=(Array.getElem?_eq_some_iff.1 M.out.row).1
 have hlO:=(Array.getElem?_eq_some_iff.1 M.out.out).1
 go_wp2_with (refine Xab rfl rfl 30 _ _ rfl wq.heap.size 0 [.int .u32 ai,.int .i64 dt,.int .i64 sp,.slice so L.length sc] (arcV ai dt sp (.slice so L.length sc)) (by simp [Act.eval]) (by simp [Act.eval]) (by rfl) zeroA 30 (heap_alloc_new _ _) (by simp) (by kernel_rfl) (by simp [Value.oneCell']) #[.int .u32 ai,.int .i64 dt,.int .i64 sp,.slice so L.length sc] (by rfl) ?_
              intro w5 hg5 hr5)
 have hb5:Below wq.heap.size wq w5:=((Qb _ _).alloc (Qn _) _).grown hg5 (by simp) (fun k e=>by injection e with e;omega)
 have M5:=Qh (M.out.quiet hb5)
 have hs5:wq.heap.size<w5.heap.size:=(Array.getElem?_eq_some_iff.1 hr5).1
 clear z0 z1 z2 z3 hg5
 obtain ⟨z0,z1,z2,z3⟩:=Xag M5.out.row
 obtain ⟨c0,c1,c2,c3,c4,c5⟩:=M5.out.ses
 refine Xah (X:=(Option Addr × Nat) × Nat × (Option Addr × Nat)) (apL w.heap.size wq.heap.size L.length ((L++ [s]).length) sc so s (.slice eo s.ents.length ec)) (RgE w5 2 5 4 5 5 231 222 232 (fun x w=>x.2.1<w.heap.size) (fun x w=>OwnS tSes 56 I w w5.heap.size (.slice x.1.1 L.length x.1.2) L∧(Value.slice x.1.1 L.length x.1.2).ownBlock≠some x.2.1) (fun x w=>w.heap[x.2.1]? =some (.cells (sesCs s (.slice eo s.ents.length ec)).toArray 56 (0,0))) (fun x w=>OwnS tSes 56 I w w5.heap.size (.slice x.2.2.1 (L++ [s]).length x.2.2.2) (L++ [s])) (fun _ _=>True) (fun x w=>OwnS tSes 56 I w w5.heap.size (.slice x.2.2.1 (L++ [s]).length x.2.2.2) (L++ [s])) (fun x=>wq.heap.size) 30 7 209 210 (fun x=> #[.int .u32 ai,.int .i64 dt,.int .i64 sp,.slice x.2.2.1 (L++ [s]).length x.2.2.2]) (fun x=> #[.int .u32 ai,.int .i64 dt,.int .i64 sp,.slice x.2.2.1 (L++ [s]).length x.2.2.2]) (fun x=> #[.int .u32 ai,.int .i64 dt,.int .i64 sp,.slice x.2.2.1 (L++ [s]).length x.2.2.2])) (by kernel_rfl) (by kernel_rfl) ?_ ?_ ?_
 ·exact ⟨(default,0,default),RgE.start _ _ (show 0<w5.heap.size by omega)⟩
 ·rintro x s' a' w' i hsz hcl ha hC hi
  obtain ⟨hun,oi,hoi,hall⟩:=mem_ready.1 hi
  have ev:=Xcv Xco ha
  have hlt:=Xcy hun
  rcases i with _|_|_|_|_|_|_|_|i
  rotate_left 8
  ·simp at hoi
  all_goals
   have hoj:=hoi
   simp at hoi
   subst hoi
   simp [Region.binds] at hall
   try have hl:=Xas 6 7 hcl (by decide +kernel) hun
   try have hbw:=hC.off hl
   try have z3:=Xaa hbw z3
   try have c0:=Xaa hbw c0
   try have c1:=Xaa hbw c1
   try have c2:=Xaa hbw c2
   try have c3:=Xaa hbw c3
   try have c4:=Xaa hbw c4
   try have c5:=Xaa hbw c5
   refine wpOp_step hoj (fun K' hK=> ?_)
   rw [if_pos (by rfl)]
  rotate_left 2
  ·unfold Oper.wp
   simp [go_sem,ev,evF,hall,Oper.upon]
   refine (Hcl.out w' (M5.out.at_.ok.below (Qn _) hbw)).mono ?_
   rintro r4 w4 ⟨v7,rfl,ho,hb4⟩
   obtain ⟨a7,k7,rfl⟩:=Xbl ho
   have ha:=ha.trans (Xav (L:=apL w.heap.size wq.heap.size L.length ((L++ [s]).length) sc so s (.slice eo s.ents.length ec) x) (M:=apL w.heap.size wq.heap.size L.length ((L++ [s]).length) sc so s (.slice eo s.ents.length ec) ((a7,k7),x.2)) [2] rfl (fun j hne=>by
    rcases j with _|_|_|_|_|_|_|_|j<;>first|rfl|(exact absurd (by decide) hne)|simp) (List.forall_mem_cons.2 ⟨Xao hun,List.forall_mem_nil _⟩))
   exact hK _ _ ⟨((a7,k7),x.2),Xan Xco ha rfl hun,hC.step hl (hbw.trans (hb4.mono hbw.size)) (by decide) (fun h=>Nat.lt_of_lt_of_le h hb4.size) (fun _ _=>⟨ho.lower hbw.size,fun q=>by have h8:w'.heap.size≤x.2.1:=ho.own_ge q;have h9:x.2.1<w'.heap.size:=hC.inv hl;omega⟩) (fun h _=>h.elim (fun e=>absurd e (by decide)) (fun ⟨_,_,q⟩=>(hb4.block _ (Array.getElem?_eq_some_iff.1 q).1).trans q)) (fun h _=>h.elim (fun e=>absurd e (by decide)) (fun ⟨_,_,q⟩=>q.below hb4)) (fun _ _=>trivial) hlt⟩
  rotate_left 1
  ·unfold Oper.wp
   simp [go_sem,ev,evF,hall,Oper.upon,z3,c0,c1,c2,c3,c4,c5]
   have ha:=ha.trans (Xav (L:=apL w.heap.size wq.heap.size L.length ((L++ [s]).length) sc so s (.slice eo s.ents.length ec) x) (M:=apL w.heap.size wq.heap.size L.length ((L++ [s]).length) sc so s (.slice eo s.ents.length ec) (x.1,w'.heap.size,x.2.2)) [4] rfl (fun j hne=>by
    rcases j with _|_|_|_|_|_|_|_|j<;>first|rfl|(exact absurd (by decide) hne)|simp) (List.forall_mem_cons.2 ⟨Xao hun,List.forall_mem_nil _⟩))
   exact hK _ _ ⟨(x.1,w'.heap.size,x.2.2),Xan Xco ha rfl hun,hC.step hl (hbw.trans (((Qb _ _).alloc (Qn _) _).mono hbw.size)) (by decide) (fun _=>by simp) (fun h _=>h.elim (fun e=>absurd e (by decide)) (fun ⟨_,_,q⟩=>⟨q.1.alloc _,fun r=>absurd (Xbn q.1 r).2 (Nat.lt_irrefl _)⟩)) (fun _ _=>heap_alloc_new _ _) (fun h _=>h.elim (fun e=>absurd e (by decide)) (fun ⟨_,_,q⟩=>q.alloc _)) (fun _ _=>trivial) hlt⟩
  ·have h1:=hC.f1 (by first|simpa using hall|simp [hall]) (Xao hun) hl
   have h2:=hC.f2 (by first|simpa using hall|simp [hall]) (Xao hun) hl
   refine Xbu Xi8 _ _ rfl (by simp [Act.eval,ev,evF,hall]) h1.1 (by simp [Act.eval,ev,evF,hall]) (SrcS.of_one (T:=tSes) (x:=s) (cs:=sesCs s (.slice eo s.ents.length ec)) ⟨_,rfl,Hve.out⟩ (fun j u hu=>(cell_of_row w' _ j _ _ _ h2).trans (by simpa using hu))) (by simp only [List.length_nil,List.length_cons];omega) (by simp only [List.length_nil,List.length_cons];omega) hbw.size ?_
   rintro v9 w9 ho9 hg9 hl9
   obtain ⟨a9,k9,rfl⟩:=Xbl ho9
   have ha:=ha.trans (Xav (L:=apL w.heap.size wq.heap.size L.length ((L++ [s]).length) sc so s (.slice eo s.ents.length ec) x) (M:=apL w.heap.size wq.heap.size L.length ((L++ [s]).length) sc so s (.slice eo s.ents.length ec) (x.1,x.2.1,(a9,k9))) [5] rfl (fun j hne=>by
    rcases j with _|_|_|_|_|_|_|_|j<;>first|rfl|(exact absurd (by decide) hne)|simp) (List.forall_mem_cons.2 ⟨Xao hun,List.forall_mem_nil _⟩))
   exact hK _ _ ⟨(x.1,x.2.1,(a9,k9)),Xan Xco ha rfl hun,hC.step hl (hbw.grown hg9 hbw.size (fun k e=>(Xbn h1.1 e).1)) (by decide) (fun h=>Nat.lt_of_lt_of_le h hg9.size) (fun _ h=>absurd rfl h) (fun _ h=>absurd rfl h) (fun _ _=>ho9) (fun _ _=>trivial) hlt⟩
  rotate_left 1
  ·have hrow:w'.heap[wq.heap.size]? =some (.cells _ 30 (0,0)):=(hbw.block _ (Array.getElem?_eq_some_iff.1 hr5).1).trans hr5
   refine Xaj 28 _ _ rfl (wq.heap.size) 3 [.slice x.2.2.1 (L++ [s]).length x.2.2.2] (.slice x.2.2.1 (L++ [s]).length x.2.2.2) (by simp [Act.eval,ev,evF,hall]) (by simp [Act.eval,ev,evF,hall]) (by rfl) _ _ hrow (by simp) (by kernel_rfl) (by simp [Value.oneCell']) ?_
   exact hK _ _ ⟨x,Xad (d:=none) (v:=undef) Xco ha rfl hun,hC.put1 hun (hC.f3 (by first|simpa using hall|simp [hall]) (Xak (by simp [hsz])) hl) (Xak (by simp [hsz])) (Xak (by simp [hsz])) (by decide) hrow (by rfl)⟩
  all_goals
   unfold Oper.wp
   first
   |(simp [go_sem,ev,evF,hall,Oper.upon,z3,c0,c1,c2,c3,c4,c5];exact hK _ _ ⟨x,Xan Xco ha rfl hun,hC.pure (by decide)⟩)
   |(simp [go_sem,ev,evF,Oper.upon,z3,c0,c1,c2,c3,c4,c5];exact hK _ _ ⟨x,Xan Xco ha rfl hun,hC.pure (by decide)⟩)
 ·rintro x s' a' w6 hup ha hC
  obtain ⟨wb,hbW,hFin,hgr,hrow⟩:=hC.on (hup 7 (by decide))
  simp only [ite_self] at hrow
  rw [Xa1 _ _ _ _ (fun i hi=>by rw [Nat.zero_add];exact hup i (by simpa using hi))] at ha
  subst ha
  simp only [fillAll,Act.put,List.setIfInBounds_toArray,List.set_cons_succ,List.set_cons_zero]
  obtain ⟨xv,xb,o9,k9⟩:=x
  dsimp only at hFin hgr hrow ⊢
  have hw5:=hbW.size
  have hb6:Below wq.heap.size wq w6:=(hb5.trans (hbW.mono (by omega))).grown hgr (by omega) (fun k e=>by injection e with e;omega)
  have M6:=Qh (M.out.quiet hb6)
  have HO:=Qh (hFin.kept hgr (.inr (hFin.ne_lt hs5)))
  have hout:=M6.out.out
  obtain ⟨y0,y1,y2,y3⟩:=Xag hrow
  clear hC hup hFin c0 c1 c2 c3 c4 c5 z0 z1 z2 z3
  go_wp2_with (refine Xab rfl rfl 30 _ _ rfl (w.heap.size+2) 0 [.int .u32 ai,.int .i64 dt,.int .i64 sp,.slice o9 (L++ [s]).length k9] (arcV ai dt sp (.slice o9 (L++ [s]).length k9)) (by simp [Act.eval]) (by simp [Act.eval]) (by rfl) zeroA 30 hout (by simp) (by kernel_rfl) (by simp [Value.oneCell']) #[.int .u32 ai,.int .i64 dt,.int .i64 sp,.slice o9 (L++ [s]).length k9] (by rfl) ?_
               intro w9 hg9 hr9)
  refine bodyPost_ret (v:= .tuple #[arcV ai dt sp (.slice o9 (L++ [s]).length k9),.int .i64 0]) ?_ rfl ?_
  ·rw [results_cell_tmp rfl]
   simp [asAddr,run_loadVar_row w9 (w.heap.size+2) 30 30 _ (0,0) _ hr9 Tryz.underlying30 rfl Hi4.out]
  ·have hok9:=M6.out.at_.ok.grown hg9 (fun g e=>by injection e with e;subst e;exact hw.fresh (by omega))
   have hs6:=M.out.at_.size
   obtain ⟨J7,hx7,hok7,hr7,_⟩:=(HO.out.kept hg9 (.inr (HO.out.ne_lt (by omega)))).freeze hok9 (fun b hb=>M5.out.at_.ok.fresh hb)
   rw [Hn.out]
   exact ⟨_,J7,rfl,M6.out.at_.bel.grown hg9 M6.out.at_.size (fun k h=>by injection h with h;omega),hx7.mono (by omega),hok7,hr7⟩
structure WrB (J:IH) (w:World) (B:Nat) (d:Drf) (ve vk vt vh:Value):Prop where
 ok:Ok J w
 no:J B=none
 rd:DrRd J d ve vk vt vh
 row:w.heap[B]? =some (.cells #[.int .i64 d.num,.int .i64 d.date,S d.prev,ve,vk,.int .i64 d.sto.ses,S d.sto.str,vt,vh] 46)
theorem WrB.lt {J:IH} {w:World} {B:Nat} {d:Drf} {ve vk vt vh:Value} (h:WrB J w B d ve vk vt vh):B<w.heap.size:=(Array.getElem?_eq_some_iff.1 h.row).1
theorem WrB.below {J:IH} {w w':World} {B:Nat} {d:Drf} {ve vk vt vh:Value} (h:WrB J w B d ve vk vt vh) (hb:Below w.heap.size w w'):WrB J w' B d ve vk vt vh:=
 ⟨h.ok.below (Qn _) hb,h.no,h.rd,(hb.block _ h.lt).trans h.row⟩
set_option maxRecDepth 100000 in
set_option maxHeartbeats 2000000 in
theorem Xqd (v:Drf) (ve vk vt vh:Value) (w:World):
 Calls Tryz.prog 41 #[drV v ve vk vt vh] w fun e w'=>
  e= .returned (.tuple #[.func (.func 87) #[] #[.pointer (some ⟨w.heap.size,0,none⟩)],.func (.func 88) #[] #[.pointer (some ⟨w.heap.size,0,none⟩)]])∧w'=w.alloc (.cells #[.int .i64 v.num,.int .i64 v.date,S v.prev,ve,vk,.int .i64 v.sto.ses,S v.sto.str,vt,vh] 46):=by
 go_enter Tryz.func41,Tryz.ntmps41
 go_wp2_with fail
 go_ret2
 exact ⟨rfl,rfl⟩
set_option maxRecDepth 100000 in
set_option maxHeartbeats 2000000 in
theorem Xox (J:IH) (d:Drf) (ve vk vt vh:Value) (B:Nat) (w:World) (M:WrB J w B d ve vk vt vh):
 Calls Tryz.prog 88 #[.pointer (some ⟨B,0,none⟩)] w fun e w'=>e= .returned (drV d ve vk vt vh)∧Below w.heap.size w w':=by
 have Hi9:=Qh (show (Tryz.prog.info? 46).map (·.size)=some 9 by kernel_rfl)
 obtain ⟨eo,ec,rfl,_,_,_⟩:=id M.rd.ents
 obtain ⟨ko,kc,rfl,_,_,_⟩:=id M.rd.cks
 obtain ⟨tt,tc,rfl,_,_,_⟩:=id M.rd.tree
 obtain ⟨ho,hc',rfl,_,_,_⟩:=id M.rd.holds
 have hlt:=M.lt
 obtain ⟨W1,hW1⟩:∃W1,w.alloc (.cells zeroD 46)=W1:=⟨_,rfl⟩
 have hrow:W1.heap[B]? =some (.cells #[.int .i64 d.num,.int .i64 d.date,S d.prev,.slice eo d.ents.length ec,.slice ko d.sto.cks.length kc,.int .i64 d.sto.ses,S d.sto.str,.slice tt d.tree.length tc,.slice ho d.holds.length hc'] 46):=by rw [←hW1];exact (Below.heap_alloc _ _ _ hlt).trans M.row
 have hout:W1.heap[w.heap.size]? =some (.cells zeroD 46 (0,0)):=by rw [←hW1];exact heap_alloc_new _ _
 have hb1:Below w.heap.size w W1:=by rw [←hW1];exact (Qb _ _).alloc (Qn _) _
 obtain ⟨b0,b1,b2,b3,b4,b5,b6,b7,b8⟩:=drB_row (d:=d) hrow
 clear M
 go_enter Tryz.func88,Tryz.ntmps88
 go_wp2_with (refine Xab rfl rfl 46 _ _ rfl w.heap.size 0 (drCs d (.slice eo d.ents.length ec) (.slice ko d.sto.cks.length kc) (.slice tt d.tree.length tc) (.slice ho d.holds.length hc')) (drV d (.slice eo d.ents.length ec) (.slice ko d.sto.cks.length kc) (.slice tt d.tree.length tc) (.slice ho d.holds.length hc')) (by simp [Act.eval]) (by simp [Act.eval]) (by rfl) zeroD 46 hout (by simp) (by kernel_rfl) (by simp [Value.oneCell']) (drCs d (.slice eo d.ents.length ec) (.slice ko d.sto.cks.length kc) (.slice tt d.tree.length tc) (.slice ho d.holds.length hc')).toArray (by rfl) ?_
              intro w9 hg9 hr9)
 exact bodyPost_ret (results_cell_row rfl _ _ w.heap.size _ _ (0,0) _ rfl hr9 Tryz.underlying46 rfl Hi9.out) rfl ⟨rfl,hb1.grown hg9 hb1.size (fun k e=>by injection e with e;omega)⟩
set_option maxRecDepth 100000 in
set_option maxHeartbeats 4000000 in
theorem Xoy (J:IH) (hJ:Glob J) {n:Nat} (d:Drf) (hd:DrOk n d) (hn:n≤150) (ve vk vt vh:Value) (c:Chg) (hc:c.Wf) (hca:c.attrs.length≤1000000) (va:Value) (hva:RdS tAt J va c.attrs) (B:Nat) (w:World) (M:WrB J w B d ve vk vt vh):
 Calls Tryz.prog 87 #[chgV c va,.pointer (some ⟨B,0,none⟩)] w fun e w'=>e= .returned (.int .i64 (addP d c).2)∧ ∃ve' vk' vt' vh' J',Ext w.heap.size J J'∧WrB J' w' B (addP d c).1 ve' vk' vt' vh'∧Below B w w':=by
 have Hadd:=Qh (fun W hW=>Xur J hJ d hd hn ve vk vt vh M.rd c hc hca va hva W hW)
 obtain ⟨dn,rn,hdn⟩:∃dn rn,addP d c=(dn,rn):=⟨_,_,rfl⟩
 rw [hdn] at Hadd ⊢
 dsimp only at Hadd ⊢
 have hlt:=M.lt
 obtain ⟨eo,ec,rfl,_,_,_⟩:=id M.rd.ents
 obtain ⟨ko,kc,rfl,_,_,_⟩:=id M.rd.cks
 obtain ⟨tt,tc,rfl,_,_,_⟩:=id M.rd.tree
 obtain ⟨ho,hc',rfl,_,_,_⟩:=id M.rd.holds
 obtain ⟨ao,ac,rfl,_,_,_⟩:=id hva
 obtain ⟨W1,hW1⟩:∃W1,w.alloc (.cells #[.int .i64 c.kind,S c.path,.slice ao c.attrs.length ac,S c.target,S c.content] 53)=W1:=⟨_,rfl⟩
 have hb1:Below w.heap.size w W1:=by rw [←hW1];exact (Qb _ _).alloc (Qn _) _
 have h1:=M.below hb1
 obtain ⟨b0,b1,b2,b3,b4,b5,b6,b7,b8⟩:=drB_row (d:=d) h1.row
 obtain ⟨g0,g1,g2,g3,g4⟩:=chgB_row (c:=c) (show W1.heap[w.heap.size]? =some (.cells #[.int .i64 c.kind,S c.path,.slice ao c.attrs.length ac,S c.target,S c.content] 53 (0,0)) by rw [←hW1];exact heap_alloc_new _ _)
 have H1:=Qh h1
 clear M h1 hva hdn hd hc hca
 go_enter Tryz.func87,Tryz.ntmps87
 go_wp2_with fail
 refine (Hadd.out W1 H1.out.ok).mono ?_
 rintro e2 w2 ⟨ve',vk',vt',vh',J2,rfl,hb2,hx2,hok2,hrd2⟩
 obtain ⟨eo2,ec2,rfl,_,_,_⟩:=id hrd2.ents
 obtain ⟨ko2,kc2,rfl,_,_,_⟩:=id hrd2.cks
 obtain ⟨tt2,tc2,rfl,_,_,_⟩:=id hrd2.tree
 obtain ⟨ho2,hc2,rfl,_,_,_⟩:=id hrd2.holds
 have hB1:=H1.out.lt
 have hsz1:=hb1.size
 have hsz2:=hb2.size
 have hno2:J2 B=none:=(hx2 _ hB1).trans H1.out.no
 have hfr2:J2 w2.heap.size=none:=hok2.fresh (Qn _)
 have hrow2:=(hb2.block _ hB1).trans H1.out.row
 have Hrd:=Qh hrd2
 have Hrow:=Qh hrow2
 clear b0 b1 b2 b3 b4 b5 b6 b7 b8 g0 g1 g2 g3 g4 Hadd hW1 hrd2 hrow2
 go_upto_region 2 with (refine Xab rfl rfl 46 _ _ rfl w2.heap.size 0 (drCs dn (.slice eo2 dn.ents.length ec2) (.slice ko2 dn.sto.cks.length kc2) (.slice tt2 dn.tree.length tc2) (.slice ho2 dn.holds.length hc2)) (drV dn (.slice eo2 dn.ents.length ec2) (.slice ko2 dn.sto.cks.length kc2) (.slice tt2 dn.tree.length tc2) (.slice ho2 dn.holds.length hc2)) (by simp [Act.eval]) (by simp [Act.eval]) (by rfl) zeroD 46 (heap_alloc_new _ _) (by simp) (by kernel_rfl) (by simp [Value.oneCell']) (drCs dn (.slice eo2 dn.ents.length ec2) (.slice ko2 dn.sto.cks.length kc2) (.slice tt2 dn.tree.length tc2) (.slice ho2 dn.holds.length hc2)).toArray (by rfl) ?_
                        intro w3 hg3 hr3
                        obtain ⟨b0,b1,b2,b3,b4,b5,b6,b7,b8⟩:=drB_row (d:=dn) hr3)
 have hb3:Below w2.heap.size w2 w3:=((Qb _ _).alloc (Qn _) _).grown hg3 (by simp) (fun k e=>by injection e with e;omega)
 have hrow3:=(hb3.block B (by omega)).trans Hrow.out
 clear hg3 hr3
 go_wp2_with (refine Xab rfl rfl 46 _ _ rfl B 0 (drCs dn (.slice eo2 dn.ents.length ec2) (.slice ko2 dn.sto.cks.length kc2) (.slice tt2 dn.tree.length tc2) (.slice ho2 dn.holds.length hc2)) (drV dn (.slice eo2 dn.ents.length ec2) (.slice ko2 dn.sto.cks.length kc2) (.slice tt2 dn.tree.length tc2) (.slice ho2 dn.holds.length hc2)) (by simp [Act.eval]) (by simp [Act.eval]) (by rfl) _ 46 hrow3 (by simp) (by kernel_rfl) (by simp [Value.oneCell']) (drCs dn (.slice eo2 dn.ents.length ec2) (.slice ko2 dn.sto.cks.length kc2) (.slice tt2 dn.tree.length tc2) (.slice ho2 dn.holds.length hc2)).toArray (by rfl) ?_
              intro w4 hg4 hr4)
 have hok3:=hok2.below (Qn _) hb3
 have hfin:=Qh (show ∃ve' vk' vt' vh' J',Ext w.heap.size J J'∧WrB J' w4 B dn ve' vk' vt' vh'∧Below B w w4 from ⟨_,_,_,_,J2,fun b hb=>hx2 b (by omega),⟨hok3.grown hg4 (fun g e=>by injection e with e;subst e;exact hno2),hno2,Hrd.out,hr4⟩,(((hb1.mono (by omega)).trans (hb2.mono (by omega))).trans (hb3.mono (by omega))).grown hg4 (by have:=hb3.size;omega) (fun k e=>by injection e with e;omega)⟩)
 go_ret
 exact ⟨rfl,hfin.out⟩
end Go.Proofs.YtjdednajelommaaGreatDoor
