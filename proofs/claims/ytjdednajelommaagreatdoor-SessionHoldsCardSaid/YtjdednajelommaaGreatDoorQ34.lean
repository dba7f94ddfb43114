/-
  Walks and laws that the claim's theorem uses: texts SnX SnY, joined; comments out. Conditions: as each theorem says.
-/
import Derived.Test.YtjdednajelommaaGreatDoorQ33
set_option linter.unusedSimpArgs false
set_option linter.unusedVariables false
namespace Go.Proofs.YtjdednajelommaaGreatDoor
open Go.RowKit
abbrev bpL (n m ll sc:Nat) (so:Option Addr) (ai dt sp date:Int) (ld:Bytes) (x:Nat):List (Option Tmp × Value):=
 [(some 31,.pointer (some ⟨n,3,none⟩)),(some 32,.slice so ll sc),(some 33,.int .i64 (ll:Int)),(some 34,.int .i64 ((ll:Int)+1)),(some 35,.int .i64 date),(some 36,arcV ai dt sp (.slice so ll sc)),(some 37,S ld),(some 38,.pointer (some ⟨m,0,none⟩)),(none,undef),(some 39,.pointer (some ⟨m,1,none⟩)),(none,undef),(some 40,.pointer (some ⟨m,2,none⟩)),(none,undef)]
theorem Xcn {n m ll sc:Nat} {so:Option Addr} {ai dt sp date:Int} {ld:Bytes} {x:Nat}:ApartF (bpL n m ll sc so ai dt sp date ld x):=by
 unfold ApartF
 simp
abbrev bqL (m:Nat) (q:Sto) (vk:Value) (ah:Option Addr) (hl ch al:Nat) (date:Int) (x:Option Addr × Nat):List (Option Tmp × Value):=
 [(some 53,stoV q vk),(some 54,.pointer (some ⟨m,8,none⟩)),(some 55,.slice ah hl ch),(some 56,.int .i64 date),(some 57,.slice x.1 al x.2),(some 58,.pointer (some ⟨m,4,none⟩)),(none,undef),(some 59,.pointer (some ⟨m,8,none⟩)),(none,undef)]
theorem Xdd {m:Nat} {q:Sto} {vk:Value} {ah:Option Addr} {hl ch al:Nat} {date:Int} {x:Option Addr × Nat}:ApartF (bqL m q vk ah hl ch al date x):=by
 unfold ApartF
 simp
set_option maxRecDepth 100000 in
set_option maxHeartbeats 8000000 in
theorem Xi7 (I:IH) (hI:Glob I) (ai dt sp:Int) {n m:Nat} (L:List Ses) (h:ArcOk n m L) (hn:n≤150) (hm:m≤250) (vs:Value) (hvs:RdS tSes I vs L) (date:Int) (w:World) (hw:Ok I w):
 Calls Tryz.prog 18 #[arcV ai dt sp vs,.int .i64 date] w (RetDr I w (begP L date).1 (begP L date).2):=by
 have hlen:=h.len
 have Hst:=Qh (fun w hw=>Xqe I hI ai dt sp L h hn (by omega) vs hvs w hw)
 have Hpr:=Qh (fun J (hk:∀b c,I b=some c→J b=some c) w hw=>Xgt J (hI.mono hk) ai dt sp L vs (hvs.mono hk) (h.sesD (by omega) (by omega)) w hw)
 have Hld:=Qh (fun w hw=>Xgu I ai dt sp L vs hvs w hw)
 have Hrp:=Qh (h.repAll (by omega) (by omega))
 have hsin:=Qh h.sinAll
 have Hvs:=Qh hvs
 have Hi9:=Qh (show (Tryz.prog.info? 46).map (·.size)=some 9 by kernel_rfl)
 obtain ⟨so,sc,rfl,_,_,_⟩:=id hvs
 have M:=Qh (Xl3 hw ai dt sp (.slice so L.length sc) zeroD 46)
 have hb:begP L date=if begErr L date≠0 then (nilD,begErr L date) else (openP L date,0):=rfl
 have d1:decide ((255:Int)≤(L.length:Int))=false:=Qf (by omega)
 have hbe:begErr L date=if date<0∨1000000000<date then 2 else if date<lastDt L then 14 else 0:=by unfold begErr;rw [if_neg (by omega)]
 have Hb:=Qh hb
 have Hbe:=Qh hbe
 clear h hvs hb hbe
 obtain ⟨W2,hW2⟩:∃W2,((w.alloc (.cells #[.int .u32 ai,.int .i64 dt,.int .i64 sp,.slice so L.length sc] 30)).alloc (.cells zeroD 46))=W2:=⟨_,rfl⟩
 rw [hW2] at M
 obtain ⟨z0,z1,z2,z3⟩:=(⟨M.out.a0,M.out.a1,M.out.a2,M.out.a3⟩:_∧_∧_∧_)
 go_enter Tryz.func18,Tryz.ntmps18
 go_upto_region 3 with fail
 obtain ⟨B,hB⟩:∃B:Bool,decide (date<0∨1000000000<date)=B:=⟨_,rfl⟩
 clear hW2
 go_cut [15] (fun s15 wx=>s15= .bool B∧W2=wx)
 case first=>
  by_cases q1:date<0
  ·have i1:decide (date<0)=true:=Qt q1
   have hB2:B=true:=by rw [←hB];exact Qt (.inl q1)
   subst hB2
   clear hB q1
   go_wp2_with fail
   go_meet
   exact ⟨rfl,rfl⟩
  ·have i1:decide (date<0)=false:=Qf q1
   by_cases q2:1000000000<date
   ·have i2:decide (1000000000<date)=true:=Qt q2
    have hB2:B=true:=by rw [←hB];exact Qt (.inr q2)
    subst hB2
    clear hB q1 q2
    go_wp2_with fail
    go_meet
    exact ⟨rfl,rfl⟩
   ·have i2:decide (1000000000<date)=false:=Qf q2
    have hB2:B=false:=by rw [←hB];exact Qf (by omega)
    subst hB2
    clear hB q1 q2
    go_wp2_with fail
    go_meet
    exact ⟨rfl,rfl⟩
 case rest=>
 obtain ⟨rfl,hcut⟩:=hcut
 subst hcut
 cases B
 case true=>
  have Hn:=Qh (show begP L date=(nilD,2) by rw [Hb.out,Hbe.out,if_pos (of_decide_eq_true hB)];rfl)
  clear hB z0 z1 z2 z3
  have hout:=M.out.out
  go_wp2_with (refine Xab rfl rfl 46 _ _ rfl (w.heap.size+1) 0 zeroD.toList (.agg zeroD) (by simp [Act.eval]) (by simp [Act.eval]) (by rfl) zeroD 46 hout (by simp) (by kernel_rfl) (by simp [Value.oneCell']) zeroD (by rfl) ?_
               intro w9 hg9 hr9)
  refine bodyPost_ret (v:= .tuple #[.agg zeroD,.int .i64 2]) ?_ rfl (M.out.bad hg9 Hn.out)
  rw [results_cell_tmp rfl]
  simp [asAddr,run_loadVar_row w9 (w.heap.size+1) 46 46 _ (0,0) _ hr9 Tryz.underlying46 rfl Hi9.out]
 replace Hbe:=Qh (Hbe.out.trans (if_neg (of_decide_eq_false hB)))
 have hd0:0≤date∧date≤1000000000:=by have:=of_decide_eq_false hB;omega
 clear hB
 go_wp2_with fail
 refine (Hld.out W2 M.out.at_.ok).mono ?_
 rintro e0 w0 ⟨rfl,hb0⟩
 replace M:=Qh (M.out.quiet hb0)
 clear z0 z1 z2 z3 hb0 Hld
 obtain ⟨z0,z1,z2,z3⟩:=(⟨M.out.a0,M.out.a1,M.out.a2,M.out.a3⟩:_∧_∧_∧_)
 go_upto_if 23 with fail
 obtain ⟨B,hB⟩:∃B:Bool,decide (date<lastDt L)=B:=⟨_,rfl⟩
 rw [hB]
 cases B
 case true=>
  have Hn:=Qh (show begP L date=(nilD,14) by rw [Hb.out,Hbe.out,if_pos (of_decide_eq_true hB)];rfl)
  clear hB z0 z1 z2 z3
  have hout:=M.out.out
  go_wp2_with (refine Xab rfl rfl 46 _ _ rfl (w.heap.size+1) 0 zeroD.toList (.agg zeroD) (by simp [Act.eval]) (by simp [Act.eval]) (by rfl) zeroD 46 hout (by simp) (by kernel_rfl) (by simp [Value.oneCell']) zeroD (by rfl) ?_
               intro w9 hg9 hr9)
  refine bodyPost_ret (v:= .tuple #[.agg zeroD,.int .i64 14]) ?_ rfl (M.out.bad hg9 Hn.out)
  rw [results_cell_tmp rfl]
  simp [asAddr,run_loadVar_row w9 (w.heap.size+1) 46 46 _ (0,0) _ hr9 Tryz.underlying46 rfl Hi9.out]
 have Hn:=Qh (show begP L date=(openP L date,0) by rw [Hb.out,Hbe.out,if_neg (of_decide_eq_false hB)];rfl)
 clear hB Hb Hbe
 go_wp2_with fail
 refine (Hst.out w0 M.out.at_.ok).mono ?_
 rintro e1 w1 ⟨vk,vt,vh,J1,rfl,hb1,hx1,hok1,hrk,hrt,hrh⟩
 obtain ⟨ak,ck,rfl,_,_,_⟩:=id hrk
 obtain ⟨at',ct',rfl,_,_,_⟩:=id hrt
 obtain ⟨ah,ch,rfl,_,_,_⟩:=id hrh
 have M1:=Qh (M.out.thru hb1 hx1 hok1)
 have hm1:=M1.out.lt
 have hJ7:J1 w1.heap.size=none:=hok1.fresh (Qn _)
 have m1:IntKind.i64.wrap ((L.length:Int)+1)=(L.length:Int)+1:=IntWalk.i64_in _ (by omega)
 have Hrp2:=Qh ((Hrp.out.begin (by omega)).1)
 clear z0 z1 z2 z3 hb1 hx1 hok1 M Hst
 go_wp2_with (refine Xab rfl rfl 46 _ _ rfl w1.heap.size 0 (drCs (⟨0,0,[],[],repQ L,(aftS nilS L).tree,(aftS nilS L).holds⟩:Drf) (.slice none 0 0) (.slice ak (repQ L).cks.length ck) (.slice at' (aftS nilS L).tree.length ct') (.slice ah (aftS nilS L).holds.length ch)) (drV (⟨0,0,[],[],repQ L,(aftS nilS L).tree,(aftS nilS L).holds⟩:Drf) (.slice none 0 0) (.slice ak (repQ L).cks.length ck) (.slice at' (aftS nilS L).tree.length ct') (.slice ah (aftS nilS L).holds.length ch)) (by simp [Act.eval]) (by simp [Act.eval]) (by rfl) zeroD 46 (heap_alloc_new _ _) (by simp) (by kernel_rfl) (by simp [Value.oneCell']) (drCs (⟨0,0,[],[],repQ L,(aftS nilS L).tree,(aftS nilS L).holds⟩:Drf) (.slice none 0 0) (.slice ak (repQ L).cks.length ck) (.slice at' (aftS nilS L).tree.length ct') (.slice ah (aftS nilS L).holds.length ch)).toArray (by rfl) ?_
              intro w2 hg2 hr2
              have z0:=Xam hg2 (by simp;omega) (Xai (.cells zeroD 46) M1.out.a0)
              have z1:=Xam hg2 (by simp;omega) (Xai (.cells zeroD 46) M1.out.a1)
              have z2:=Xam hg2 (by simp;omega) (Xai (.cells zeroD 46) M1.out.a2)
              have z3:=Xam hg2 (by simp;omega) (Xai (.cells zeroD 46) M1.out.a3))
 have M2:=Qh (M1.out.quiet (((Qb _ _).alloc (Qn _) _).grown hg2 (by simp) (fun k e=>by injection e with e;omega)))
 have hs2:=(Array.getElem?_eq_some_iff.1 hr2).1
 have hJn:∀g,some w1.heap.size=some g→J1 g=none∧w.heap.size<g∧w.heap.size+1<g:=fun g e=>by injection e with e;subst e;exact ⟨hJ7,by omega,by omega⟩
 clear M1 hg2
 refine Xah (X:=Nat) (bpL w.heap.size w1.heap.size L.length sc so ai dt sp date (lastDig L)) (RgE w2 224 234 225 235 226 236 227 237 (fun _ _=>True) (fun _ _=>True) (fun _ _=>True) (fun _ _=>True) (fun _ _=>True) (fun _ _=>True) (fun x=>w1.heap.size) 46 8 10 12 (fun x=> #[.int .i64 ((L.length:Int)+1),.int .i64 0,S [],.slice none 0 0,(.slice ak (repQ L).cks.length ck),.int .i64 (repQ L).ses,S (repQ L).str,(.slice at' (aftS nilS L).tree.length ct'),(.slice ah (aftS nilS L).holds.length ch)]) (fun x=> #[.int .i64 ((L.length:Int)+1),.int .i64 date,S [],.slice none 0 0,(.slice ak (repQ L).cks.length ck),.int .i64 (repQ L).ses,S (repQ L).str,(.slice at' (aftS nilS L).tree.length ct'),(.slice ah (aftS nilS L).holds.length ch)]) (fun x=> #[.int .i64 ((L.length:Int)+1),.int .i64 date,S (lastDig L),.slice none 0 0,(.slice ak (repQ L).cks.length ck),.int .i64 (repQ L).ses,S (repQ L).str,(.slice at' (aftS nilS L).tree.length ct'),(.slice ah (aftS nilS L).holds.length ch)])) (by kernel_rfl) (by kernel_rfl) ?_ ?_ ?_
 ·exact ⟨0,RgE.start _ _ trivial⟩
 ·rintro x s' a' w' i hsz hcl ha hC hi
  obtain ⟨hun,oi,hoi,hall⟩:=mem_ready.1 hi
  have ev:=Xcv Xcn ha
  have hlt:=Xcy hun
  rcases i with _|_|_|_|_|_|_|_|_|_|_|_|_|i
  rotate_left 13
  ·simp at hoi
  all_goals
   have hoj:=hoi
   simp at hoi
   subst hoi
   simp [Region.binds] at hall
   try have hl:=Xas 6 8 hcl (by decide +kernel) hun
   try have hbw:=hC.off hl
   try have z0:=Xaa hbw z0
   try have z1:=Xaa hbw z1
   try have z2:=Xaa hbw z2
   try have z3:=Xaa hbw z3
   try have m1:=Xaa hbw m1
   refine wpOp_step hoj (fun K' hK=> ?_)
   rw [if_pos (by rfl)]
  rotate_left 6
  ·unfold Oper.wp
   simp [go_sem,ev,evF,hall,Oper.upon]
   refine (Hpr.out J1 M2.out.at_.keep w' (M2.out.at_.ok.below (Qn _) hbw)).mono ?_
   rintro r4 w4 ⟨rfl,hb4⟩
   exact hK _ _ ⟨x,Xan Xcn ha rfl hun,hC.step hl (hbw.trans (hb4.mono hbw.size)) (by decide) (fun _=>trivial) (fun _ _=>trivial) (fun _ _=>trivial) (fun _ _=>trivial) (fun _ _=>trivial) hlt⟩
  rotate_left 1
  ·have hrow:w'.heap[w1.heap.size]? =some (.cells _ 46 (0,0)):=(hbw.block _ (Array.getElem?_eq_some_iff.1 hr2).1).trans hr2
   refine Xaj 3 _ _ rfl (w1.heap.size) 0 [.int .i64 ((L.length:Int)+1)] (.int .i64 ((L.length:Int)+1)) (by simp [Act.eval,ev,evF,hall]) (by simp [Act.eval,ev,evF,hall]) (by rfl) _ _ hrow (by simp) (by kernel_rfl) (by simp [Value.oneCell']) ?_
   exact hK _ _ ⟨x,Xad (d:=none) (v:=undef) Xcn ha rfl hun,hC.put1 hun trivial (Xas 6 10 hcl (by kernel_rfl) hun) (Xas 6 12 hcl (by kernel_rfl) hun) (by decide) hrow (by rfl)⟩
  rotate_left 1
  ·have hrow:=hC.row1 (s1:=8) (by first|simpa using hall|simp [hall]) (Xao hun) (Xas 6 12 hcl (by kernel_rfl) hun)
   refine Xaj 3 _ _ rfl (w1.heap.size) 1 [.int .i64 date] (.int .i64 date) (by simp [Act.eval,ev,evF,hall]) (by simp [Act.eval,ev,evF,hall]) (by rfl) _ _ hrow (by simp) (by kernel_rfl) (by simp [Value.oneCell']) ?_
   exact hK _ _ ⟨x,Xad (d:=none) (v:=undef) Xcn ha rfl hun,hC.put2 hun (by first|simpa using hall|simp [hall]) (Xas 6 12 hcl (by kernel_rfl) hun) (by decide) (by rfl)⟩
  rotate_left 1
  ·have hrow:=hC.row2 (s1:=8) (s2:=10) (by first|simpa using hall|simp [hall]) (by first|simpa using hall|simp [hall]) (Xao hun)
   refine Xaj 9 _ _ rfl (w1.heap.size) 2 [S (lastDig L)] (S (lastDig L)) (by simp [Act.eval,ev,evF,hall]) (by simp [Act.eval,ev,evF,hall]) (by rfl) _ _ hrow (by simp) (by kernel_rfl) (by simp [Value.oneCell']) ?_
   exact hK _ _ ⟨x,Xad (d:=none) (v:=undef) Xcn ha rfl hun,hC.put3 hun (by first|simpa using hall|simp [hall]) (by decide) (by rfl)⟩
  all_goals
   unfold Oper.wp
   first
   |(simp [go_sem,ev,evF,hall,Oper.upon,z0,z1,z2,z3,m1];exact hK _ _ ⟨x,Xan Xcn ha rfl hun,hC.pure (by decide)⟩)
   |(simp [go_sem,ev,evF,Oper.upon,z0,z1,z2,z3,m1];exact hK _ _ ⟨x,Xan Xcn ha rfl hun,hC.pure (by decide)⟩)
 ·rintro x s' a' w6 hup ha hC
  obtain ⟨wb,hbW,hFin,hgr,hrow⟩:=hC.on (hup 8 (by decide))
  rw [if_pos (hup 12 (by decide))] at hrow
  rw [Xa1 _ _ _ _ (fun i hi=>by rw [Nat.zero_add];exact hup i (by simpa using hi))] at ha
  subst ha
  simp only [fillAll,Act.put,List.setIfInBounds_toArray,List.set_cons_succ,List.set_cons_zero]
  clear hFin
  have M6:=Qh ((M2.out.quiet hbW).own hgr hJn)
  have hr6:=hrow
  have z4:w6.cell? ⟨w1.heap.size,4,none⟩=some _:=(cell_of_row _ _ 4 _ _ _ hr6).trans rfl
  have z5:w6.cell? ⟨w1.heap.size,5,none⟩=some _:=(cell_of_row _ _ 5 _ _ _ hr6).trans rfl
  have z6:w6.cell? ⟨w1.heap.size,6,none⟩=some _:=(cell_of_row _ _ 6 _ _ _ hr6).trans rfl
  have zn:w6.cell? ⟨w1.heap.size,0,none⟩=some _:=(cell_of_row _ _ 0 _ _ _ hr6).trans rfl
  have Hbe:=Qh (Xoe J1 (repQ L) (.slice ak (repQ L).cks.length ck) hrk (by have:=Hrp.out.cks;omega) ((L.length:Int)+1) w6 M6.out.at_.ok)
  rw [Hrp2.out] at Hbe
  clear z0 z1 z2 z3 hC hup hgr hbW hrow hr2 M2 Hpr
  go_wp2_with fail
  clear z4 z5 z6 zn
  refine Hbe.out.mono ?_
  rintro e7 w7 ⟨vk2,J2,rfl,hb7,hx7,hok7,hrk2⟩
  obtain ⟨ak2,ck2,rfl,_,_,_⟩:=id hrk2
  have M7:=Qh (M6.out.thru hb7 hx7 hok7)
  have hs6:=(Array.getElem?_eq_some_iff.1 hr6).1
  have hr7:=(hb7.block _ hs6).trans hr6
  have hJ7':J2 w1.heap.size=none:=(hx7 _ hs6).trans hJ7
  have hk7:=hx7.keep M6.out.at_.ok (Qn _)
  have hJn2:∀g,some w1.heap.size=some g→J2 g=none∧w.heap.size<g∧w.heap.size+1<g:=fun g e=>by injection e with e;subst e;exact ⟨hJ7',by omega,by omega⟩
  have hrt2:=hrt.mono hk7
  have hrh2:=hrh.mono hk7
  clear hb7 hx7 hok7 hr6 M6 Hbe hrk
  go_wp2_with (refine Xab rfl rfl 43 _ _ rfl w7.heap.size 0 [.slice ak2 (repQ L).cks.length ck2,.int .i64 ((L.length:Int)+1),S []] (stoV ⟨(repQ L).cks,(L.length:Int)+1,[]⟩ (.slice ak2 (repQ L).cks.length ck2)) (by simp [Act.eval]) (by simp [Act.eval]) (by rfl) #[.slice none 0 0,.int .i64 0,.string ⟨#[]⟩] 43 (heap_alloc_new _ _) (by simp) (by kernel_rfl) (by simp [Value.oneCell']) #[.slice ak2 (repQ L).cks.length ck2,.int .i64 ((L.length:Int)+1),S []] (by rfl) ?_
               intro w8 hg8 hrs)
  have hb8:Below w7.heap.size w7 w8:=((Qb _ _).alloc (Qn _) _).grown hg8 (by simp) (fun k e=>by injection e with e;omega)
  have M8:=Qh (M7.out.quiet hb8)
  have hs7:=(Array.getElem?_eq_some_iff.1 hr7).1
  replace hr7:=(hb8.block _ hs7).trans hr7
  have y0:w8.cell? ⟨w7.heap.size,0,none⟩=some _:=(cell_of_row _ _ 0 _ _ _ hrs).trans rfl
  have y1:w8.cell? ⟨w7.heap.size,1,none⟩=some _:=(cell_of_row _ _ 1 _ _ _ hrs).trans rfl
  have y2:w8.cell? ⟨w7.heap.size,2,none⟩=some _:=(cell_of_row _ _ 2 _ _ _ hrs).trans rfl
  have z8:w8.cell? ⟨w1.heap.size,8,none⟩=some _:=(cell_of_row _ _ 8 _ _ _ hr7).trans rfl
  have Hac:=Qh (fun w hw=>Xe4 J2 (.slice ah (aftS nilS L).holds.length ch) (aftS nilS L).holds hrh2 (by have:=hsin.out.ok.hlen;omega) date w hw)
  have hs8:=(Array.getElem?_eq_some_iff.1 hr7).1
  have hlt8:=M8.out.lt
  clear hg8 hrs M7
  refine Xah (X:=Option Addr × Nat) (bqL w1.heap.size (⟨(repQ L).cks,(L.length:Int)+1,[]⟩) (.slice ak2 (repQ L).cks.length ck2) ah ((aftS nilS L).holds.length) ch ((actP (aftS nilS L).holds date).length) date) (RgE w8 4 230 221 231 222 232 223 233 (fun _ _=>True) (fun x w=>OwnS tHo 132 J2 w w8.heap.size (.slice x.1 (actP (aftS nilS L).holds date).length x.2) (actP (aftS nilS L).holds date)) (fun _ _=>True) (fun _ _=>True) (fun _ _=>True) (fun x w=>OwnS tHo 132 J2 w w8.heap.size (.slice x.1 (actP (aftS nilS L).holds date).length x.2) (actP (aftS nilS L).holds date)) (fun x=>w1.heap.size) 46 6 8 210 (fun x=> #[.int .i64 ((L.length:Int)+1),.int .i64 date,S (lastDig L),.slice none 0 0,(.slice ak2 (repQ L).cks.length ck2),.int .i64 ((L.length:Int)+1),S [],(.slice at' (aftS nilS L).tree.length ct'),(.slice ah (aftS nilS L).holds.length ch)]) (fun x=> #[.int .i64 ((L.length:Int)+1),.int .i64 date,S (lastDig L),.slice none 0 0,(.slice ak2 (repQ L).cks.length ck2),.int .i64 ((L.length:Int)+1),S [],(.slice at' (aftS nilS L).tree.length ct'),.slice x.1 (actP (aftS nilS L).holds date).length x.2]) (fun x=> #[.int .i64 ((L.length:Int)+1),.int .i64 date,S (lastDig L),.slice none 0 0,(.slice ak2 (repQ L).cks.length ck2),.int .i64 ((L.length:Int)+1),S [],(.slice at' (aftS nilS L).tree.length ct'),.slice x.1 (actP (aftS nilS L).holds date).length x.2])) (by kernel_rfl) (by kernel_rfl) ?_ ?_ ?_
  ·exact ⟨default,RgE.start _ _ trivial⟩
  ·rintro x s' a' w' i hsz hcl ha hC hi
   obtain ⟨hun,oi,hoi,hall⟩:=mem_ready.1 hi
   have ev:=Xcv Xdd ha
   have hlt:=Xcy hun
   rcases i with _|_|_|_|_|_|_|_|_|i
   rotate_left 9
   ·simp at hoi
   all_goals
    have hoj:=hoi
    simp at hoi
    subst hoi
    simp [Region.binds] at hall
    try have hl:=Xas 6 6 hcl (by decide +kernel) hun
    try have hbw:=hC.off hl
    try have y0:=Xaa hbw y0
    try have y1:=Xaa hbw y1
    try have y2:=Xaa hbw y2
    try have z8:=Xaa hbw z8
    refine wpOp_step hoj (fun K' hK=> ?_)
    rw [if_pos (by rfl)]
   rotate_left 4
   ·unfold Oper.wp
    simp [go_sem,ev,evF,hall,Oper.upon]
    refine (Hac.out w' (M8.out.at_.ok.below (Qn _) hbw)).mono ?_
    rintro r4 w4 ⟨v9,rfl,ho,hb4⟩
    obtain ⟨a9,k9,rfl⟩:=Xbl ho
    have ha:=ha.trans (Xav (L:=bqL w1.heap.size (⟨(repQ L).cks,(L.length:Int)+1,[]⟩) (.slice ak2 (repQ L).cks.length ck2) ah ((aftS nilS L).holds.length) ch ((actP (aftS nilS L).holds date).length) date x) (M:=bqL w1.heap.size (⟨(repQ L).cks,(L.length:Int)+1,[]⟩) (.slice ak2 (repQ L).cks.length ck2) ah ((aftS nilS L).holds.length) ch ((actP (aftS nilS L).holds date).length) date (a9,k9)) [4] rfl (fun j hne=>by
     rcases j with _|_|_|_|_|_|_|_|_|j<;>first|rfl|(exact absurd (by decide) hne)|simp) (List.forall_mem_cons.2 ⟨Xao hun,List.forall_mem_nil _⟩))
    exact hK _ _ ⟨(a9,k9),Xan Xdd ha rfl hun,hC.step hl (hbw.trans (hb4.mono hbw.size)) (by decide) (fun _=>trivial) (fun _ _=>ho.lower hbw.size) (fun _ _=>trivial) (fun _ _=>trivial) (fun _ _=>trivial) hlt⟩
   rotate_left 1
   ·have hrow:w'.heap[w1.heap.size]? =some (.cells _ 46 (0,0)):=(hbw.block _ (Array.getElem?_eq_some_iff.1 hr7).1).trans hr7
    refine Xaj 43 _ _ rfl (w1.heap.size) 4 [.slice ak2 (repQ L).cks.length ck2,.int .i64 ((L.length:Int)+1),S []] (stoV ⟨(repQ L).cks,(L.length:Int)+1,[]⟩ (.slice ak2 (repQ L).cks.length ck2)) (by simp [Act.eval,ev,evF,hall]) (by simp [Act.eval,ev,evF,hall]) (by rfl) _ _ hrow (by simp) (by kernel_rfl) (by simp [Value.oneCell']) ?_
    exact hK _ _ ⟨x,Xad (d:=none) (v:=undef) Xdd ha rfl hun,hC.put1 hun (hC.f1 (by first|simpa using hall|simp [hall]) (Xak (by simp [hsz])) hl) (Xas 6 8 hcl (by kernel_rfl) hun) (Xak (by simp [hsz])) (by decide) hrow (by rfl)⟩
   rotate_left 1
   ·have hrow:=hC.row1 (s1:=6) (by first|simpa using hall|simp [hall]) (Xao hun) (Xak (by simp [hsz]))
    refine Xaj 44 _ _ rfl (w1.heap.size) 8 [.slice x.1 (actP (aftS nilS L).holds date).length x.2] (.slice x.1 (actP (aftS nilS L).holds date).length x.2) (by simp [Act.eval,ev,evF,hall]) (by simp [Act.eval,ev,evF,hall]) (by rfl) _ _ hrow (by simp) (by kernel_rfl) (by simp [Value.oneCell']) ?_
    exact hK _ _ ⟨x,Xad (d:=none) (v:=undef) Xdd ha rfl hun,hC.put2 hun (by first|simpa using hall|simp [hall]) (Xak (by simp [hsz])) (by decide) (by rfl)⟩
   all_goals
    unfold Oper.wp
    first
    |(simp [go_sem,ev,evF,hall,Oper.upon,y0,y1,y2,z8];exact hK _ _ ⟨x,Xan Xdd ha rfl hun,hC.pure (by decide)⟩)
    |(simp [go_sem,ev,evF,Oper.upon,y0,y1,y2,z8];exact hK _ _ ⟨x,Xan Xdd ha rfl hun,hC.pure (by decide)⟩)
  ·rintro x s' a' w10 hup ha hC
   obtain ⟨wb,hbW,hFin,hgr,hrow⟩:=hC.on (hup 6 (by decide))
   rw [if_pos (hup 8 (by decide))] at hrow
   simp only [ite_self] at hrow
   rw [Xa1 _ _ _ _ (fun i hi=>by rw [Nat.zero_add];exact hup i (by simpa using hi))] at ha
   subst ha
   simp only [fillAll,Act.put,List.setIfInBounds_toArray,List.set_cons_succ,List.set_cons_zero]
   obtain ⟨ah2,ch2⟩:=x
   dsimp only at hFin hgr hrow ⊢
   obtain ⟨y0,y1,y2,y3,y4,y5,y6,y7,y8⟩:=drB_row (d:=openP L date) hrow
   have M10:=Qh ((M8.out.quiet hbW).own hgr hJn2)
   have HO10:=Qh (hFin.kept hgr (.inr (hFin.ne_lt (by omega))))
   have hout:=M10.out.out
   go_wp2_with (refine Xab rfl rfl 46 _ _ rfl (w.heap.size+1) 0 (drCs (openP L date) (.slice none 0 0) (.slice ak2 (repQ L).cks.length ck2) (.slice at' (aftS nilS L).tree.length ct') (.slice ah2 (actP (aftS nilS L).holds date).length ch2)) (drV (openP L date) (.slice none 0 0) (.slice ak2 (repQ L).cks.length ck2) (.slice at' (aftS nilS L).tree.length ct') (.slice ah2 (actP (aftS nilS L).holds date).length ch2)) (by simp [Act.eval]) (by simp [Act.eval]) (by rfl) _ 46 hout (by simp) (by kernel_rfl) (by simp [Value.oneCell']) (drCs (openP L date) (.slice none 0 0) (.slice ak2 (repQ L).cks.length ck2) (.slice at' (aftS nilS L).tree.length ct') (.slice ah2 (actP (aftS nilS L).holds date).length ch2)).toArray (by rfl) ?_
                intro w11 hg11 hr11)
   refine bodyPost_ret (v:= .tuple #[drV (openP L date) (.slice none 0 0) (.slice ak2 (repQ L).cks.length ck2) (.slice at' (aftS nilS L).tree.length ct') (.slice ah2 (actP (aftS nilS L).holds date).length ch2),.int .i64 0]) ?_ rfl ?_
   ·rw [results_cell_tmp rfl]
    simp [asAddr,run_loadVar_row w11 (w.heap.size+1) 46 46 _ (0,0) _ hr11 Tryz.underlying46 rfl Hi9.out]
   ·have hok11:=M10.out.at_.ok.grown hg11 (fun g e=>by injection e with e;subst e;exact M10.out.no1)
    obtain ⟨J3,hx3,hok3,hr3',_⟩:=(HO10.out.kept hg11 (.inr (HO10.out.ne_lt (by omega)))).freeze hok11 (fun b hb=>M8.out.at_.ok.fresh hb)
    have hk3:=hx3.keep M8.out.at_.ok (Qn _)
    rw [Hn.out]
    exact ⟨_,_,_,_,J3,rfl,M10.out.at_.bel.grown hg11 M10.out.at_.size (fun k e=>by injection e with e;omega),M8.out.ext.trans hx3 (by omega),hok3,⟨RdS.nil _ _,hrk2.mono hk3,hrt2.mono hk3,hr3'⟩⟩
theorem Xi8:ElemOk Tryz.prog 28 56 tSes 88:=ElemOk.of Tryz.underlying28 Xdn rfl (by decide) rfl
abbrev zeroS:Array Value:= #[.int .i64 0,.int .i64 0,.string ⟨#[]⟩,.slice none 0 0,.string ⟨#[]⟩,.string ⟨#[]⟩]
abbrev zeroA:Array Value:= #[.int .u32 0,.int .i64 0,.int .i64 0,.slice none 0 0]
def RetSe (I:IH) (w:World) (s:Ses) (e:Ending) (w':World):Prop:=
 ∃ve J,e= .returned (sesV s ve)∧Below w.heap.size w w'∧Ext w.heap.size I J∧Ok J w'∧RdS tEnt J ve s.ents
def RetAr (I:IH) (w:World) (ai dt sp:Int) (L:List Ses) (n:Int) (e:Ending) (w':World):Prop:=
 ∃vs J,e= .returned (.tuple #[arcV ai dt sp vs,.int .i64 n])∧Below w.heap.size w w'∧Ext w.heap.size I J∧Ok J w'∧RdS tSes J vs L
abbrev clL (n:Nat) (num date:Int) (prev:Bytes) (eo:Option Addr) (le ec:Nat) (str:Bytes) (x:Option Addr × Nat):List (Option Tmp × Value):=
 [(some 3,.pointer (some ⟨n,0,none⟩)),(some 4,.int .i64 num),(some 5,.pointer (some ⟨n,1,none⟩)),(some 6,.int .i64 date),(some 7,.pointer (some ⟨n,2,none⟩)),(some 8,S prev),(some 9,.pointer (some ⟨n,3,none⟩)),(some 10,.slice eo le ec),(some 11,.slice x.1 le x.2),(some 12,.pointer (some ⟨n,4,none⟩)),(some 13,.pointer (some ⟨n,6,none⟩)),(some 14,S str),(some 15,.agg #[.int .i64 num,.int .i64 date,S prev,.slice x.1 le x.2,S str,.string ⟨#[]⟩]),(none,undef)]
theorem Xd7 {n:Nat} {num date:Int} {prev:Bytes} {eo:Option Addr} {le ec:Nat} {str:Bytes} {x:Option Addr × Nat}:ApartF (clL n num date prev eo le ec str x):=by
 unfold ApartF
 simp
abbrev aqL (n le le1 cp:Nat) (ao:Option Addr) (s:Ses) (ve:Value) (x:Nat × (Option Addr × Nat) × Nat × (Option Addr × Nat)):List (Option Tmp × Value):=
 [(some 41,.slice (some ⟨x.1,0,none⟩) 0 0),(some 42,.pointer (some ⟨n,3,none⟩)),(some 43,.slice ao le cp),(some 44,.slice x.2.1.1 le x.2.1.2),(some 45,sesV s ve),(some 46,.slice (some ⟨x.2.2.1,0,none⟩) 1 1),(some 47,.slice x.2.2.2.1 le1 x.2.2.2.2),(some 48,.pointer (some ⟨n,3,none⟩)),(none,undef)]
theorem Xb6 {n le le1 cp:Nat} {ao:Option Addr} {s:Ses} {ve:Value} {x:Nat × (Option Addr × Nat) × Nat × (Option Addr × Nat)}:ApartF (aqL n le le1 cp ao s ve x):=by
 unfold ApartF
 simp
set_option maxRecDepth 100000 in
set_option maxHeartbeats 2000000 in
theorem Xi6 (I:IH) (d:Drf) (hn:d.ents.length≤100000) (ve vk vt vh:Value) (hve:RdS tEnt I ve d.ents) (w:World) (hw:Ok I w):
 Calls Tryz.prog 24 #[drV d ve vk vt vh] w (RetSe I w (closeP d)):=by
 have Hcl:=Qh (fun w hw=>Xbp I ve d.ents hve w hw (by omega))
 have Hi6:=Qh (show (Tryz.prog.info? 56).map (·.size)=some 6 by kernel_rfl)
 obtain ⟨eo,ec,rfl,_,_,_⟩:=id hve
 obtain ⟨W2,hW2⟩:∃W2,((w.alloc (.cells #[.int .i64 d.num,.int .i64 d.date,S d.prev,.slice eo d.ents.length ec,vk,.int .i64 d.sto.ses,S d.sto.str,vt,vh] 46)).alloc (.cells zeroS 56))=W2:=⟨_,rfl⟩
 obtain ⟨hsz,h0,hout,hbW0⟩:=Xcp w _ _ _ _ W2 hW2
 have hok2:Ok I W2:=by rw [←hW2];exact (hw.alloc _).alloc _
 obtain ⟨b0,b1,b2,b3,b4,b5,b6,b7,b8⟩:=drB_row (d:=d) h0
 have Hout:=Qh hout
 clear hve h0 hout
 go_enter Tryz.func24,Tryz.ntmps24
 go_wp2_with fail
 have hout:=Hout.out
 clear hW2
 refine Xah (X:=Option Addr × Nat) (clL w.heap.size d.num d.date d.prev eo d.ents.length ec d.sto.str) (RgE W2 8 235 226 236 227 237 228 238 (fun _ _=>True) (fun x w=>OwnS tEnt 68 I w W2.heap.size (.slice x.1 d.ents.length x.2) d.ents) (fun _ _=>True) (fun _ _=>True) (fun _ _=>True) (fun x w=>OwnS tEnt 68 I w W2.heap.size (.slice x.1 d.ents.length x.2) d.ents) (fun x=>(w.heap.size+1)) 56 13 215 216 (fun x=>(sesCs (closeP d) (.slice x.1 d.ents.length x.2)).toArray) (fun x=>(sesCs (closeP d) (.slice x.1 d.ents.length x.2)).toArray) (fun x=>(sesCs (closeP d) (.slice x.1 d.ents.length x.2)).toArray)) (by kernel_rfl) (by kernel_rfl) ?_ ?_ ?_
 ·exact ⟨default,RgE.start _ _ trivial⟩
 ·rintro x s' a' w' i hsz hcl ha hC hi
  obtain ⟨hun,oi,hoi,hall⟩:=mem_ready.1 hi
  have ev:=Xcv Xd7 ha
  have hlt:=Xcy hun
  rcases i with _|_|_|_|_|_|_|_|_|_|_|_|_|_|i
  rotate_left 14
  ·simp at hoi
  all_goals
   have hoj:=hoi
   simp at hoi
   subst hoi
   simp [Region.binds] at hall
   try have hl:=Xas 6 13 hcl (by decide +kernel) hun
   try have hbw:=hC.off hl
   try have b0:=Xaa hbw b0
   try have b1:=Xaa hbw b1
   try have b2:=Xaa hbw b2
   try have b3:=Xaa hbw b3
   try have b6:=Xaa hbw b6
   refine wpOp_step hoj (fun K' hK=> ?_)
   rw [if_pos (by rfl)]
  rotate_left 8
  ·unfold Oper.wp
   simp [go_sem,ev,evF,hall,Oper.upon]
   refine (Hcl.out w' (hok2.below (Qn _) hbw)).mono ?_
   rintro r4 w4 ⟨v7,rfl,ho,hb4⟩
   obtain ⟨a7,k7,rfl⟩:=Xbl ho
   have ha:=ha.trans (Xav (L:=clL w.heap.size d.num d.date d.prev eo d.ents.length ec d.sto.str x) (M:=clL w.heap.size d.num d.date d.prev eo d.ents.length ec d.sto.str (a7,k7)) [8,12] rfl (fun j hne=>by
    rcases j with _|_|_|_|_|_|_|_|_|_|_|_|_|_|j<;>first|rfl|(exact absurd (by decide) hne)|simp) (List.forall_mem_cons.2 ⟨Xao hun,List.forall_mem_cons.2 ⟨Xas 6 12 hcl (by kernel_rfl) hun,List.forall_mem_nil _⟩⟩))
   exact hK _ _ ⟨(a7,k7),Xan Xd7 ha rfl hun,hC.step hl (hbw.trans (hb4.mono hbw.size)) (by decide) (fun _=>trivial) (fun _ _=>ho.lower hbw.size) (fun _ _=>trivial) (fun _ _=>trivial) (fun _ _=>trivial) hlt⟩
  rotate_left 4
  ·have hrow:w'.heap[(w.heap.size+1)]? =some (.cells _ 56 (0,0)):=(hbw.block _ (Array.getElem?_eq_some_iff.1 hout).1).trans hout
   refine Xaj 56 _ _ rfl ((w.heap.size+1)) 0 [.int .i64 d.num,.int .i64 d.date,S d.prev,.slice x.1 d.ents.length x.2,S d.sto.str,.string ⟨#[]⟩] (.agg #[.int .i64 d.num,.int .i64 d.date,S d.prev,.slice x.1 d.ents.length x.2,S d.sto.str,.string ⟨#[]⟩]) (by simp [Act.eval,ev,evF,hall]) (by simp [Act.eval,ev,evF,hall]) (by rfl) _ _ hrow (by simp) (by kernel_rfl) (by simp [Value.oneCell']) ?_
   exact hK _ _ ⟨x,Xad (d:=none) (v:=undef) Xd7 ha rfl hun,hC.put1 hun (hC.f1 (by first|simpa using hall|simp [hall]) (Xak (by simp [hsz])) hl) (Xak (by simp [hsz])) (Xak (by simp [hsz])) (by decide) hrow (by rfl)⟩
  all_goals
   unfold Oper.wp
   first
   |(simp [go_sem,ev,evF,hall,Oper.upon,b0,b1,b2,b3,b6];exact hK _ _ ⟨x,Xan Xd7 ha rfl hun,hC.pure (by decide)⟩)
   |(simp [go_sem,ev,evF,Oper.upon,b0,b1,b2,b3,b6];exact hK _ _ ⟨x,Xan Xd7 ha rfl hun,hC.pure (by decide)⟩)
 ·rintro x s' a' w3 hup ha hC
  obtain ⟨wb,hbW,hFin,hgr,hrow⟩:=hC.on (hup 13 (by decide))
  simp only [ite_self] at hrow
  rw [Xa1 _ _ _ _ (fun i hi=>by rw [Nat.zero_add];exact hup i (by simpa using hi))] at ha
  subst ha
  simp only [fillAll,Act.put,List.setIfInBounds_toArray,List.set_cons_succ,List.set_cons_zero]
  have ho3:=hFin.kept hgr (.inr (hFin.ne_lt (by omega)))
  have hok3:Ok I w3:=(hok2.below (Qn _) hbW).grown hgr (fun g e=>by injection e with e;subst e;exact hw.fresh (by omega))
  obtain ⟨J,hxJ,hokJ,hrJ,_⟩:=ho3.freeze hok3 (fun b hb=>hw.fresh (by omega))
  have hb3:=(hbW0.trans (hbW.mono hbW0.size)).grown hgr (by have:=hbW.size;omega) (fun k e=>by injection e with e;omega)
  go_wp2
  refine bodyPost_ret (results_cell_row rfl _ _ (w.heap.size+1) _ (sesCs (closeP d) (.slice x.1 d.ents.length x.2)).toArray (0,0) _ rfl hrow Tryz.underlying56 rfl Hi6.out) rfl ?_
  exact ⟨_,J,rfl,hb3,hxJ.mono (by omega),hokJ,hrJ⟩
structure ApM (I:IH) (w0:World) (ai dt sp:Int) (vs:Value) (s:Ses) (ve:Value) (W:World):Prop where
 at_:MAt I w0 I W
 row:W.heap[w0.heap.size]? =some (.cells #[.int .u32 ai,.int .i64 dt,.int .i64 sp,vs] 30 (0,0))
 ses:SesB W (w0.heap.size+1) s ve
 out:W.heap[w0.heap.size+2]? =some (.cells zeroA 30 (0,0))
theorem ApM.quiet {I:IH} {w0:World} {ai dt sp:Int} {vs:Value} {s:Ses} {ve:Value} {W W':World} (h:ApM I w0 ai dt sp vs s ve W) (hb:Below W.heap.size W W'):ApM I w0 ai dt sp vs s ve W':=
 ⟨h.at_.quiet hb,(hb.block _ (Array.getElem?_eq_some_iff.1 h.row).1).trans h.row,h.ses.thru hb,(hb.block _ (Array.getElem?_eq_some_iff.1 h.out).1).trans h.out⟩
theorem Xag {w:World} {b:Nat} {ai dt sp:Int} {vs:Value} (h:w.heap[b]? =some (.cells #[.int .u32 ai,.int .i64 dt,.int .i64 sp,vs] 30 (0,0))):
 w.cell? ⟨b,0,none⟩=some (.int .u32 ai)∧w.cell? ⟨b,1,none⟩=some (.int .i64 dt)∧w.cell? ⟨b,2,none⟩=some (.int .i64 sp)∧w.cell? ⟨b,3,none⟩=some vs:=
 ⟨(cell_of_row _ _ 0 _ _ _ h).trans rfl,(cell_of_row _ _ 1 _ _ _ h).trans rfl,(cell_of_row _ _ 2 _ _ _ h).trans rfl,(cell_of_row _ _ 3 _ _ _ h).trans rfl⟩
theorem ApM.old {I:IH} {w0:World} {ai dt sp:Int} {vs:Value} {s:Ses} {ve:Value} {W w9:World} (hw:Ok I w0) (h:ApM I w0 ai dt sp vs s ve W) (hg:W.grownBy w9 (some (w0.heap.size+2))) {L:List Ses} (hvs:RdS tSes I vs L) {p:List Ses × Int} {r:Int} (hp:p=(L,r)):
 RetAr I w0 ai dt sp p.1 p.2 (.returned (.tuple #[arcV ai dt sp vs,.int .i64 r])) w9:=by
 subst hp
 exact ⟨vs,I,rfl,h.at_.bel.grown hg h.at_.size (fun k e=>by injection e with e;omega),Ext.refl _ _,h.at_.ok.grown hg (fun g e=>by injection e with e;subst e;exact hw.fresh (by omega)),hvs⟩
set_option maxRecDepth 100000 in
set_option maxHeartbeats 8000000 in
theorem Xfq (I:IH) (ai dt sp:Int) {n m:Nat} (L:List Ses) (h:ArcOk n m L) (hn:n≤150) (hm:m≤250) (vs:Value) (hvs:RdS tSes I vs L) (s:Ses) (ve:Value) (hve:RdS tEnt I ve s.ents) (w:World) (hw:Ok I w):
 Calls Tryz.prog 27 #[arcV ai dt sp vs,sesV s ve] w (RetAr I w ai dt sp (appP L s).1 (appP L s).2):=by
 have hlen:=h.len
 have Hla:=Qh (fun w hw=>Xs7 I ai dt sp L vs hvs (h.sesD (by omega) (by omega)) w hw)
 have Hvs:=Qh hvs
 have Hve:=Qh hve
 have Hi4:=Qh (show (Tryz.prog.info? 30).map (·.size)=some 4 by kernel_rfl)
 obtain ⟨so,sc,rfl,_,_,_⟩:=id hvs
 obtain ⟨eo,ec,rfl,_,_,_⟩:=id hve
 have Hap:=Qh (show appP L s=if appErr L s≠0 then (L,appErr L s) else (L++ [s],0) from rfl)
 have Hae:=Qh (show appErr L s=if s.num≠(L.length:Nat)+1∨(L≠ []∧s.date<lastDt L) then 14 else if s.prev≠lastDig L then 20 else 0 by unfold appErr;rw [if_neg (by omega)])
 have d1:decide ((255:Int)≤(L.length:Int))=false:=Qf (by omega)
 have m1:IntKind.i64.wrap ((L.length:Int)+1)=(L.length:Int)+1:=IntWalk.i64_in _ (by omega)
 obtain ⟨W3,hW3⟩:∃W3,(((w.alloc (.cells #[.int .u32 ai,.int .i64 dt,.int .i64 sp,.slice so L.length sc] 30)).alloc (.cells #[.int .i64 s.num,.int .i64 s.date,S s.prev,.slice eo s.ents.length ec,S s.stream,S s.sl] 56)).alloc (.cells zeroA 30))=W3:=⟨_,rfl⟩
 obtain ⟨hsz3,h30,h31,h32⟩:=Xdm w _ _ _ _ _ _ W3 hW3
 have M:=Qh (show ApM I w ai dt sp (.slice so L.length sc) s (.slice eo s.ents.length ec) W3 from ⟨by rw [←hW3];exact (((MAt.start hw).past _).past _).past _,h30,
  ⟨(cell_of_row _ _ 0 _ _ _ h31).trans rfl,(cell_of_row _ _ 1 _ _ _ h31).trans rfl,(cell_of_row _ _ 2 _ _ _ h31).trans rfl,(cell_of_row _ _ 3 _ _ _ h31).trans rfl,(cell_of_row _ _ 4 _ _ _ h31).trans rfl,(cell_of_row _ _ 5 _ _ _ h31).trans rfl⟩,h32⟩)
 obtain ⟨z0,z1,z2,z3⟩:=Xag h30
 obtain ⟨c0,c1,c2,c3,c4,c5⟩:=M.out.ses
 clear h hvs hve h30 h31 h32
 go_enter Tryz.func27,Tryz.ntmps27
 go_upto_region 4 with fail
 clear hW3
 obtain ⟨B,hB⟩:∃B:Bool,decide (s.num≠(L.length:Nat)+1∨(L≠ []∧s.date<lastDt L))=B:=⟨_,rfl⟩
 go_cut [33] (fun s33 wx=>s33= .bool B∧Below W3.heap.size W3 wx)
 case first=>
  by_cases q1:s.num=(L.length:Nat)+1
  ·have i1:(s.num != (L.length:Int)+1)=false:=by simpa using q1
   rcases Xb0 L with hL|⟨k,hk,hkl,hlast⟩
   ·have hB2:B=false:=by rw [←hB];exact Qf (by rintro (h|⟨h,_⟩);exact h q1;exact h hL)
    have i0:decide (0<(L.length:Int))=false:=Qf (by rw [hL];simp)
    have i0':decide (0<L.length)=false:=Qf (by rw [hL];simp)
    subst hB2
    clear hB q1 hL
    have z0:=cell_regrown z0
    have z3:=cell_regrown z3
    have c0:=cell_regrown c0
    have c1:=cell_regrown c1
    go_wp2_with fail
    refine wp_region_quiet_below (by kernel_rfl) (by kernel_rfl) ?_
    repeat (go_big_quiet_step ((fail)))
    refine wpQuiet_nil ?_
    intro w2 hwq
    have hb2:Below (W3).heap.size (W3) w2:=by
     obtain ⟨pq,rfl⟩:=hwq
     exact below_regrown _ _ _
    clear hwq
    go_wp2_with fail
    go_meet
    exact ⟨rfl,hb2⟩
   ·have Hn:=Qh (show lastDt L=L[k].date by unfold lastDt;rw [hlast])
    obtain ⟨x,vx,b,off,cap',hlx,hvv,hat,_⟩:=Xfn Hvs.out M.out.at_.ok k hk
    cases hvv
    obtain ⟨g0,g1,g2,g3,g4,g5⟩:=hat
    have g1:=cell_regrown g1
    have m2:IntKind.i64.wrap ((L.length:Int)-1)=(k:Int):=by rw [show (L.length:Int)-1=(k:Int) by omega];exact IntWalk.i64_in _ (by omega)
    have i2:(k:Int)<(L.length:Int):=by omega
    have i0:decide (0<(L.length:Int))=true:=Qt (by omega)
    have i0':decide (0<L.length)=true:=Qt (by omega)
    have hne:L≠ []:=fun e=>by rw [e] at hk;simp at hk
    have hB2:decide (s.date<x.date)=B:=by rw [←hB,Hn.out,hlx];simp [q1,hne]
    clear hlx hB Hn hlast hne q1 hkl
    have z0:=cell_regrown z0
    have z3:=cell_regrown z3
    have c0:=cell_regrown c0
    have c1:=cell_regrown c1
    go_wp2_with fail
    refine wp_region_quiet_below (by kernel_rfl) (by kernel_rfl) ?_
    repeat (go_big_quiet_step ((fail)))
    refine wpQuiet_nil ?_
    intro w2 hwq
    have hb2:Below (W3).heap.size (W3) w2:=by
     obtain ⟨pq,rfl⟩:=hwq
     exact below_regrown _ _ _
    clear hwq
    go_wp2_with fail
    go_meet
    exact ⟨by first|rfl|rw [hB2],hb2⟩
  ·have i1:(s.num != (L.length:Int)+1)=true:=by simpa using q1
   have i1b:(s.num==(L.length:Int)+1)=false:=by simpa using q1
   have i1c:decide (s.num=(L.length:Int)+1)=false:=Qf q1
   have hB2:B=true:=by rw [←hB];exact Qt (.inl q1)
   subst hB2
   clear hB q1
   have z0:=cell_regrown z0
   have z3:=cell_regrown z3
   have c0:=cell_regrown c0
   have c1:=cell_regrown c1
   go_wp2_with fail
   refine wp_region_quiet_below (by kernel_rfl) (by kernel_rfl) ?_
   repeat (first|go_big_quiet_step (fail)|refine BigFrame.wpQuiet_skip (by rfl) ?_)
   refine wpQuiet_nil ?_
   intro w2 hwq
   have hb2:Below W3.heap.size W3 w2:=by
    obtain ⟨pq,rfl⟩:=hwq
    exact below_regrown _ _ _
   clear hwq
   go_wp2_with fail
   go_meet
   exact ⟨rfl,hb2⟩
 case rest=>
 obtain ⟨rfl,hb1⟩:=hcut
 replace M:=Qh (M.out.quiet hb1)
 clear hb1 z0 z1 z2 z3 c0 c1 c2 c3 c4 c5
 cases B
 case true=>
  have Hn:=Qh (show appP L s=(L,14) by rw [Hap.out,Hae.out,if_pos (of_decide_eq_true hB)];rfl)
  clear hB
  obtain ⟨z0,z1,z2,z3⟩:=Xag M.out.row
  have hout:=M.out.out
  go_wp2_with (refine Xab rfl rfl 30 _ _ rfl (w.heap.size+2) 0 [.int .u32 ai,.int .i64 dt,.int .i64 sp,.slice so L.length sc] (arcV ai dt sp (.slice so L.length sc)) (by simp [Act.eval]) (by simp [Act.eval]) (by rfl) zeroA 30 hout (by simp) (by kernel_rfl) (by simp [Value.oneCell']) #[.int .u32 ai,.int .i64 dt,.int .i64 sp,.slice so L.length sc] (by rfl) ?_
               intro w9 hg9 hr9)
  refine bodyPost_ret (v:= .tuple #[arcV ai dt sp (.slice so L.length sc),.int .i64 14]) ?_ rfl (M.out.old hw hg9 Hvs.out Hn.out)
  rw [results_cell_tmp rfl]
  simp [asAddr,run_loadVar_row w9 (w.heap.size+2) 30 30 _ (0,0) _ hr9 Tryz.underlying30 rfl Hi4.out]
 replace Hae:=Qh (Hae.out.trans (if_neg (of_decide_eq_false hB)))
 clear hB
 obtain ⟨z0,z1,z2,z3⟩:=Xag M.out.row
 obtain ⟨c0,c1,c2,c3,c4,c5⟩:=M.out.ses
 obtain ⟨wA,hwA⟩:∃wA,wA=wc:=⟨_,rfl⟩
 subst hwA
 obtain ⟨B,hB⟩:∃B:Bool,(!s.prev==lastDig L)=B:=⟨_,rfl⟩
 go_upto_region 6 with fail
 go_cut [39] (fun s39 wx=>s39= .bool B∧Below wA.heap.size wA wx)
 case first=>
  have z0:=cell_regrown z0
  have z1:=cell_regrown z1
  have z2:=cell_regrown z2
  have z3:=cell_regrown z3
  have c2:=cell_regrown c2
  go_wp2_with fail
  refine wp_region_quiet_below (by kernel_rfl) (by kernel_rfl) ?_
  repeat (go_big_quiet_step ((with_reducible exact Calls.regrown_of (Hla.out _ (M.out.at_.ok.below (Qn _) (below_regrown _ _ _))))))
  refine wpQuiet_nil ?_
  intro w2 hwq
  have hb2:Below (wA).heap.size (wA) w2:=by
   obtain ⟨pq,rfl⟩:=hwq
   exact below_regrown _ _ _
  clear hwq
  go_wp2_with fail
  go_meet
  exact ⟨by first|rfl|rw [hB],hb2⟩
 case rest=>
 obtain ⟨rfl,hb1⟩:=hcut
 replace M:=Qh (M.out.quiet hb1)
 clear hb1 z0 z1 z2 z3 c0 c1 c2 c3 c4 c5 Hla
 cases B
 case true=>
  have he:appErr L s=20:=by rw [Hae.out,if_pos (by simpa using hB)]
  have Hn:=Qh (show appP L s=(L,20) by rw [Hap.out,he];rfl)
  clear he
  clear hB
  obtain ⟨z0,z1,z2,z3⟩:=Xag M.out.row
  have hout:=M.out.out
  go_wp2_with (refine Xab rfl rfl 30 _ _ rfl (w.heap.size+2) 0 [.int .u32 ai,.int .i64 dt,.int .i64 sp,.slice so L.length sc] (arcV ai dt sp (.slice so L.length sc)) (by simp [Act.eval]) (by simp [Act.eval]) (by rfl) zeroA 30 hout (by simp) (by kernel_rfl) (by simp [Value.oneCell']) #[.int .u32 ai,.int .i64 dt,.int .i64 sp,.slice so L.length sc] (by rfl) ?_
               intro w9 hg9 hr9)
  refine bodyPost_ret (v:= .tuple #[arcV ai dt sp (.slice so L.length sc),.int .i64 20]) ?_ rfl (M.out.old hw hg9 Hvs.out Hn.out)
  rw [results_cell_tmp rfl]
  simp [asAddr,run_loadVar_row w9 (w.heap.size+2) 30 30 _ (0,0) _ hr9 Tryz.underlying30 rfl Hi4.out]
 have he:appErr L s=0:=by rw [Hae.out,if_neg (by simpa using hB)]
 have Hn:=Qh (show appP L s=(L++ [s],0) by rw [Hap.out,he];rfl)
 clear he
 clear hB Hap Hae
 obtain ⟨z0,z1,z2,z3⟩:=Xag M.out.row
 obtain ⟨c0,c1,c2,c3,c4,c5⟩:=M.out.ses
 obtain ⟨w4,hw4⟩:∃w4,w4=wc:=⟨_,rfl⟩
 subst hw4
 have M4:=M
 have hrA:=M.out.row
 have hlA:=(Array.getElem?_eq_some_iff.1 hrA).1
 have hlO:=(Array.getElem?_eq_some_iff.1 M.out.out).1
 go_wp2_with fail
 refine Xah (X:=Nat × (Option Addr × Nat) × Nat × (Option Addr × Nat)) (aqL w.heap.size L.length ((L++ [s]).length) sc so s (.slice eo s.ents.length ec)) (RgE w4 0 3 3 6 5 6 6 233 (fun x w=>x.2.2.1<w.heap.size) (fun x w=>OwnS tSes 56 I w w4.heap.size (.slice (some ⟨x.1,0,none⟩) 0 0) ([])∧x.1≠x.2.2.1) (fun x w=>OwnS tSes 56 I w w4.heap.size (.slice x.2.1.1 L.length x.2.1.2) (L)∧(Value.slice x.2.1.1 L.length x.2.1.2).ownBlock≠some x.2.2.1) (fun x w=>w.heap[x.2.2.1]? =some (.cells (sesCs s (.slice eo s.ents.length ec)).toArray 56 (0,0))) (fun x w=>OwnS tSes 56 I w w4.heap.size (.slice x.2.2.2.1 (L++ [s]).length x.2.2.2.2) (L++ [s])) (fun x w=>OwnS tSes 56 I w w4.heap.size (.slice x.2.2.2.1 (L++ [s]).length x.2.2.2.2) (L++ [s])) (fun x=>w.heap.size) 30 8 210 211 (fun x=> #[.int .u32 ai,.int .i64 dt,.int .i64 sp,.slice x.2.2.2.1 (L++ [s]).length x.2.2.2.2]) (fun x=> #[.int .u32 ai,.int .i64 dt,.int .i64 sp,.slice x.2.2.2.1 (L++ [s]).length x.2.2.2.2]) (fun x=> #[.int .u32 ai,.int .i64 dt,.int .i64 sp,.slice x.2.2.2.1 (L++ [s]).length x.2.2.2.2])) (by kernel_rfl) (by kernel_rfl) ?_ ?_ ?_
 ·exact ⟨(0,default,0,default),RgE.start _ _ (show 0<w4.heap.size by omega)⟩
 ·rintro x s' a' w' i hsz hcl ha hC hi
  obtain ⟨hun,oi,hoi,hall⟩:=mem_ready.1 hi
  have ev:=Xcv Xb6 ha
  have hlt:=Xcy hun
  rcases i with _|_|_|_|_|_|_|_|_|i
  rotate_left 9
  ·simp at hoi
  all_goals
   have hoj:=hoi
   simp at hoi
   subst hoi
   simp [Region.binds] at hall
   try have hl:=Xas 6 8 hcl (by decide +kernel) hun
   try have hbw:=hC.off hl
   try have z3:=Xaa hbw z3
   try have c0:=Xaa hbw c0
   try have c1:=Xaa hbw c1
   try have c2:=Xaa hbw c2
   try have c3:=Xaa hbw c3
   try have c4:=Xaa hbw c4
   try have c5:=Xaa hbw c5
   refine wpOp_step hoj (fun K' hK=> ?_)
   rw [if_pos (by rfl)]
  ·unfold Oper.wp
   simp [go_sem,ev,evF,hall,Oper.upon,z3,c0,c1,c2,c3,c4,c5]
   have ha:=ha.trans (Xav (L:=aqL w.heap.size L.length ((L++ [s]).length) sc so s (.slice eo s.ents.length ec) x) (M:=aqL w.heap.size L.length ((L++ [s]).length) sc so s (.slice eo s.ents.length ec) (w'.heap.size,x.2)) [0] rfl (fun j hne=>by
    rcases j with _|_|_|_|_|_|_|_|_|j<;>first|rfl|(exact absurd (by decide) hne)|simp) (List.forall_mem_cons.2 ⟨Xao hun,List.forall_mem_nil _⟩))
   exact hK _ _ ⟨(w'.heap.size,x.2),Xan Xb6 ha rfl hun,hC.step hl (hbw.trans (((Qb _ _).alloc (Qn _) _).mono hbw.size)) (by decide) (fun h=>by have h9:x.2.2.1<w'.heap.size:=h;simp;omega) (fun _ _=>⟨(Xdj w').lower hbw.size,fun q=>by have h9:x.2.2.1<w'.heap.size:=hC.inv hl;have q9:w'.heap.size=x.2.2.1:=q;omega⟩) (fun h _=>h.elim (fun e=>absurd e (by decide)) (fun ⟨_,_,q⟩=>⟨q.1.alloc _,q.2⟩)) (fun h _=>h.elim (fun e=>absurd e (by decide)) (fun ⟨_,_,q⟩=>(Below.heap_alloc _ _ _ (Array.getElem?_eq_some_iff.1 q).1).trans q)) (fun h _=>h.elim (fun e=>absurd e (by decide)) (fun ⟨_,_,q⟩=>q.alloc _)) hlt⟩
  rotate_left 2
  ·have h1:=hC.f1 (by first|simpa using hall|simp [hall]) (Xao hun) hl
   have hoff:=Xas 6 6 hcl (by decide +kernel) hun
   refine Xbu Xi8 _ _ rfl (by simp [Act.eval,ev,evF,hall]) h1.1 (by simp [Act.eval,ev,evF,hall]) (SrcS.of_rd Hvs.out (M4.out.at_.ok.below (Qn _) hbw) (by decide)) (by simp only [List.length_nil];omega) (by simp only [List.length_nil];omega) hbw.size ?_
   rintro v9 w9 ho9 hg9 hl9
   rw [List.nil_append] at ho9
   obtain ⟨a9,k9,rfl⟩:=Xbl ho9
   have ha:=ha.trans (Xav (L:=aqL w.heap.size L.length ((L++ [s]).length) sc so s (.slice eo s.ents.length ec) x) (M:=aqL w.heap.size L.length ((L++ [s]).length) sc so s (.slice eo s.ents.length ec) (x.1,(a9,k9),x.2.2)) [3] rfl (fun j hne=>by
    rcases j with _|_|_|_|_|_|_|_|_|j<;>first|rfl|(exact absurd (by decide) hne)|simp) (List.forall_mem_cons.2 ⟨Xao hun,List.forall_mem_nil _⟩))
   exact hK _ _ ⟨(x.1,(a9,k9),x.2.2),Xan Xb6 ha rfl hun,hC.step hl (hbw.grown hg9 hbw.size (fun k e=>(Xbn h1.1 e).1)) (by decide) (fun h=>Nat.lt_of_lt_of_le h hg9.size) (fun _ h=>absurd rfl h) (fun _ _=>⟨ho9,fun q=>(hl9 _ q).elim (fun q=>h1.2 (Option.some.inj q)) (fun q=>by have h9:x.2.2.1<w'.heap.size:=hC.inv hl;have q9:w'.heap.size≤x.2.2.1:=q;omega)⟩) (fun h _=>h.elim (fun e=>absurd e (by decide)) (fun ⟨_,_,q⟩=>(hg9.block _ (Array.getElem?_eq_some_iff.1 q).1 (fun e=>h1.2 (Option.some.inj e.symm))).trans q)) (fun h _=>h.elim (fun e=>absurd e (by decide)) (fun q=>by rw [hoff] at q;exact absurd q.1 (by decide))) hlt⟩
  rotate_left 1
  ·unfold Oper.wp
   simp [go_sem,ev,evF,hall,Oper.upon,z3,c0,c1,c2,c3,c4,c5]
   have ha:=ha.trans (Xav (L:=aqL w.heap.size L.length ((L++ [s]).length) sc so s (.slice eo s.ents.length ec) x) (M:=aqL w.heap.size L.length ((L++ [s]).length) sc so s (.slice eo s.ents.length ec) (x.1,x.2.1,w'.heap.size,x.2.2.2)) [5] rfl (fun j hne=>by
    rcases j with _|_|_|_|_|_|_|_|_|j<;>first|rfl|(exact absurd (by decide) hne)|simp) (List.forall_mem_cons.2 ⟨Xao hun,List.forall_mem_nil _⟩))
   exact hK _ _ ⟨(x.1,x.2.1,w'.heap.size,x.2.2.2),Xan Xb6 ha rfl hun,hC.step hl (hbw.trans (((Qb _ _).alloc (Qn _) _).mono hbw.size)) (by decide) (fun _=>by simp) (fun h _=>h.elim (fun e=>absurd e (by decide)) (fun ⟨_,_,q⟩=>⟨q.1.alloc _,fun r=>by have h8:=(Xbn (g:=x.1) q.1 (by simp [Value.ownBlock])).2;have r9:x.1=w'.heap.size:=r;omega⟩)) (fun h _=>h.elim (fun e=>absurd e (by decide)) (fun ⟨_,_,q⟩=>⟨q.1.alloc _,fun r=>absurd (Xbn q.1 r).2 (Nat.lt_irrefl _)⟩)) (fun _ _=>heap_alloc_new _ _) (fun h _=>h.elim (fun e=>absurd e (by decide)) (fun ⟨_,_,q⟩=>q.alloc _)) hlt⟩
  ·have h2:=hC.f2 (by first|simpa using hall|simp [hall]) (Xao hun) hl
   have h3:=hC.f3 (by first|simpa using hall|simp [hall]) (Xao hun) hl
   have hup:s'.getD 3 false=true:=(by first|simpa using hall|simp [hall])
   refine Xbu Xi8 _ _ rfl (by simp [Act.eval,ev,evF,hall]) h2.1 (by simp [Act.eval,ev,evF,hall]) (SrcS.of_one (T:=tSes) (x:=s) (cs:=sesCs s (.slice eo s.ents.length ec)) ⟨_,rfl,Hve.out⟩ (fun j u hu=>(cell_of_row w' _ j _ _ _ h3).trans (by simpa using hu))) (by simp only [List.length_nil,List.length_cons];omega) (by simp only [List.length_nil,List.length_cons];omega) hbw.size ?_
   rintro v9 w9 ho9 hg9 hl9
   obtain ⟨a9,k9,rfl⟩:=Xbl ho9
   have ha:=ha.trans (Xav (L:=aqL w.heap.size L.length ((L++ [s]).length) sc so s (.slice eo s.ents.length ec) x) (M:=aqL w.heap.size L.length ((L++ [s]).length) sc so s (.slice eo s.ents.length ec) (x.1,x.2.1,x.2.2.1,(a9,k9))) [6] rfl (fun j hne=>by
    rcases j with _|_|_|_|_|_|_|_|_|j<;>first|rfl|(exact absurd (by decide) hne)|simp) (List.forall_mem_cons.2 ⟨Xao hun,List.forall_mem_nil _⟩))
   exact hK _ _ ⟨(x.1,x.2.1,x.2.2.1,(a9,k9)),Xan Xb6 ha rfl hun,hC.step hl (hbw.grown hg9 hbw.size (fun k e=>(Xbn h2.1 e).1)) (by decide) (fun h=>Nat.lt_of_lt_of_le h hg9.size) (fun h _=>h.elim (fun e=>absurd e (by decide)) (fun q=>by rw [hup] at q;exact absurd q.2.1 (by decide))) (fun _ h=>absurd rfl h) (fun _ h=>absurd rfl h) (fun _ _=>ho9) hlt⟩
  rotate_left 1
  ·have hrow:w'.heap[w.heap.size]? =some (.cells _ 30 (0,0)):=(hbw.block _ (Array.getElem?_eq_some_iff.1 hrA).1).trans hrA
   refine Xaj 28 _ _ rfl (w.heap.size) 3 [.slice x.2.2.2.1 (L++ [s]).length x.2.2.2.2] (.slice x.2.2.2.1 (L++ [s]).length x.2.2.2.2) (by simp [Act.eval,ev,evF,hall]) (by simp [Act.eval,ev,evF,hall]) (by rfl) _ _ hrow (by simp) (by kernel_rfl) (by simp [Value.oneCell']) ?_
   exact hK _ _ ⟨x,Xad (d:=none) (v:=undef) Xb6 ha rfl hun,hC.put1 hun (hC.f4 (by first|simpa using hall|simp [hall]) (Xak (by simp [hsz])) hl) (Xak (by simp [hsz])) (Xak (by simp [hsz])) (by decide) hrow (by rfl)⟩
  all_goals
   unfold Oper.wp
   first
   |(simp [go_sem,ev,evF,hall,Oper.upon,z3,c0,c1,c2,c3,c4,c5];exact hK _ _ ⟨x,Xan Xb6 ha rfl hun,hC.pure (by decide)⟩)
   |(simp [go_sem,ev,evF,Oper.upon,z3,c0,c1,c2,c3,c4,c5];exact hK _ _ ⟨x,Xan Xb6 ha rfl hun,hC.pure (by decide)⟩)
 ·rintro x s' a' w6 hup ha hC
  obtain ⟨wb,hbW,hFin,hgr,hrow⟩:=hC.on (hup 8 (by decide))
  simp only [ite_self] at hrow
  rw [Xa1 _ _ _ _ (fun i hi=>by rw [Nat.zero_add];exact hup i (by simpa using hi))] at ha
  subst ha
  simp only [fillAll,Act.put,List.setIfInBounds_toArray,List.set_cons_succ,List.set_cons_zero]
  obtain ⟨xe,xv,xb,o9,k9⟩:=x
  dsimp only at hFin hgr hrow ⊢
  have hs4:=hbW.size
  have HO:=Qh (hFin.kept hgr (.inr (hFin.ne_lt hlA)))
  have hout:=(hgr.block (w.heap.size+2) (by omega) (fun h=>by injection h with h;omega)).trans ((hbW.block _ hlO).trans M4.out.out)
  have hok6:=(M4.out.at_.ok.below (Qn _) hbW).grown hgr (fun g e=>by injection e with e;subst e;exact hw.fresh (Qn _))
  have hbel6:=(M4.out.at_.bel.trans (hbW.mono M4.out.at_.size)).grown hgr (by have:=M4.out.at_.size;omega) (fun k e=>by injection e with e;omega)
  obtain ⟨y0,y1,y2,y3⟩:=Xag hrow
  have hs6:=hgr.size
  clear hC hup hFin c0 c1 c2 c3 c4 c5 z0 z1 z2 z3
  go_wp2_with (refine Xab rfl rfl 30 _ _ rfl (w.heap.size+2) 0 [.int .u32 ai,.int .i64 dt,.int .i64 sp,.slice o9 (L++ [s]).length k9] (arcV ai dt sp (.slice o9 (L++ [s]).length k9)) (by simp [Act.eval]) (by simp [Act.eval]) (by rfl) zeroA 30 hout (by simp) (by kernel_rfl) (by simp [Value.oneCell']) #[.int .u32 ai,.int .i64 dt,.int .i64 sp,.slice o9 (L++ [s]).length k9] (by rfl) ?_
               intro w9 hg9 hr9)
  refine bodyPost_ret (v:= .tuple #[arcV ai dt sp (.slice o9 (L++ [s]).length k9),.int .i64 0]) ?_ rfl ?_
  ·rw [results_cell_tmp rfl]
   simp [asAddr,run_loadVar_row w9 (w.heap.size+2) 30 30 _ (0,0) _ hr9 Tryz.underlying30 rfl Hi4.out]
  ·have hok9:=hok6.grown hg9 (fun g e=>by injection e with e;subst e;exact hw.fresh (by omega))
   obtain ⟨J7,hx7,hok7,hr7,_⟩:=(HO.out.kept hg9 (.inr (HO.out.ne_lt hlO))).freeze hok9 (fun b hb=>M4.out.at_.ok.fresh hb)
   rw [Hn.out]
   exact ⟨_,J7,rfl,hbel6.grown hg9 (by omega) (fun k h=>by injection h with h;omega),hx7.mono (by omega),hok7,hr7⟩
end Go.Proofs.YtjdednajelommaaGreatDoor
