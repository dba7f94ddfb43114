/-
  Walks and laws that the claim's theorem uses: texts SnX SnY SnZ SoA SoB RfG SnW SoG CaF RowNx, joined; comments out. Conditions: as each theorem says.
-/
import Derived.Test.YtkipnpjagcfcpaaGreatDoorC10
import Derived.Deep.DeepHandedRow
set_option linter.all false
namespace Go.Proofs.YtkipnpjagcfcpaaGreatDoor
open Go.RowKit
abbrev bpL (n m ll sc:Nat) (so:Option Addr) (ai dt sp date:Int) (ld:Bytes) (x:Nat):List (Option Tmp × Value):=
 [(some 31,.pointer (some ⟨n,3,none⟩)),(some 32,.slice so ll sc),(some 33,.int .i64 (ll:Int)),(some 34,.int .i64 ((ll:Int)+1)),(some 35,.int .i64 date),(some 36,arcV ai dt sp (.slice so ll sc)),(some 37,S ld),(some 38,.pointer (some ⟨m,0,none⟩)),(none,undef),(some 39,.pointer (some ⟨m,1,none⟩)),(none,undef),(some 40,.pointer (some ⟨m,2,none⟩)),(none,undef)]
theorem Xcj {n m ll sc:Nat} {so:Option Addr} {ai dt sp date:Int} {ld:Bytes} {x:Nat}:ApartF (bpL n m ll sc so ai dt sp date ld x):=by
 unfold ApartF
 simp
abbrev bqL (m:Nat) (q:Sto) (vk:Value) (ah:Option Addr) (hl ch al:Nat) (date:Int) (x:Option Addr × Nat):List (Option Tmp × Value):=
 [(some 53,stoV q vk),(some 54,.pointer (some ⟨m,8,none⟩)),(some 55,.slice ah hl ch),(some 56,.int .i64 date),(some 57,.slice x.1 al x.2),(some 58,.pointer (some ⟨m,4,none⟩)),(none,undef),(some 59,.pointer (some ⟨m,8,none⟩)),(none,undef)]
theorem Xc2 {m:Nat} {q:Sto} {vk:Value} {ah:Option Addr} {hl ch al:Nat} {date:Int} {x:Option Addr × Nat}:ApartF (bqL m q vk ah hl ch al date x):=by
 unfold ApartF
 simp
set_option maxRecDepth 100000 in
set_option maxHeartbeats 8000000 in
theorem Xsk (I:IH) (hI:Glob I) (ai dt sp:Int) {n m:Nat} (L:List Ses) (h:ArcOk n m L) (hn:n≤5000) (hm:m≤250) (vs:Value) (hvs:RdS tSes I vs L) (date:Int) (w:World) (hw:Ok I w):
 Calls Tryz.prog 38 #[arcV ai dt sp vs,.int .i64 date] w (RetDr I w (begP L date).1 (begP L date).2):=by
 have hlen:=h.len
 have Hst:=Qh (fun w hw=>Xpq I hI ai dt sp L h hn (by omega) vs hvs w hw)
 have Hpr:=Qh (fun J (hk:∀b c,I b=some c→J b=some c) w hw=>Xgj J (hI.mono hk) ai dt sp L vs (hvs.mono hk) (h.sesD (by omega) (by omega)) w hw)
 have Hld:=Qh (fun w hw=>Xgk I ai dt sp L vs hvs w hw)
 have Hrp:=Qh (h.repAll (by omega) (by omega))
 have hsin:=Qh h.sinAll
 have Hvs:=Qh hvs
 have Hi9:=Qh (show (Tryz.prog.info? 92).map (·.size)=some 9 by kernel_rfl)
 obtain ⟨so,sc,rfl,_,_,_⟩:=id hvs
 have M:=Qh (Xlw hw ai dt sp (.slice so L.length sc) zeroD 92)
 have hb:begP L date=if begErr L date≠0 then (nilD,begErr L date) else (openP L date,0):=rfl
 have d1:decide ((255:Int)≤(L.length:Int))=false:=Qf (by omega)
 have hbe:begErr L date=if date<0∨1000000000<date then 2 else if date<lastDt L then 14 else 0:=by unfold begErr;rw [if_neg (by omega)]
 have Hb:=Qh hb
 have Hbe:=Qh hbe
 clear h hvs hb hbe
 obtain ⟨W2,hW2⟩:∃W2,((w.alloc (.cells #[.int .u32 ai,.int .i64 dt,.int .i64 sp,.slice so L.length sc] 46)).alloc (.cells zeroD 92))=W2:=⟨_,rfl⟩
 rw [hW2] at M
 obtain ⟨z0,z1,z2,z3⟩:=(⟨M.out.a0,M.out.a1,M.out.a2,M.out.a3⟩:_∧_∧_∧_)
 go_enter Tryz.func38,Tryz.ntmps38
 go_upto_region 3 with fail
 obtain ⟨B,hB⟩:∃B:Bool,decide (date<0∨1000000000<date)=B:=⟨_,rfl⟩
 clear hW2
 go_cut [15] (fun s15 wx=>s15= .bool B∧W2=wx)
 case first=>
  by_cases q1:date<0
  ·have i1:decide (date<0)=true:=Qt q1
   have hB2:B=true:=by rw [←hB];exact Qt (.inl q1)
   subst hB2
   clear hB q1
   go_wp2_with fail
   go_meet
   exact ⟨rfl,rfl⟩
  ·have i1:decide (date<0)=false:=Qf q1
   by_cases q2:1000000000<date
   ·have i2:decide (1000000000<date)=true:=Qt q2
    have hB2:B=true:=by rw [←hB];exact Qt (.inr q2)
    subst hB2
    clear hB q1 q2
    go_wp2_with fail
    go_meet
    exact ⟨rfl,rfl⟩
   ·have i2:decide (1000000000<date)=false:=Qf q2
    have hB2:B=false:=by rw [←hB];exact Qf (by omega)
    subst hB2
    clear hB q1 q2
    go_wp2_with fail
    go_meet
    exact ⟨rfl,rfl⟩
 case rest=>
 obtain ⟨rfl,hcut⟩:=hcut
 subst hcut
 cases B
 case true=>
  have Hn:=Qh (show begP L date=(nilD,2) by rw [Hb.out,Hbe.out,if_pos (of_decide_eq_true hB)];rfl)
  clear hB z0 z1 z2 z3
  have hout:=M.out.out
  go_wp2_with (refine Xaf rfl rfl 92 _ _ rfl (w.heap.size+1) 0 zeroD.toList (.agg zeroD) (by simp [Act.eval]) (by simp [Act.eval]) (by rfl) zeroD 92 hout (by simp) (by kernel_rfl) (by simp [Value.oneCell']) zeroD (by rfl) ?_
               intro w9 hg9 hr9)
  refine bodyPost_ret (v:= .tuple #[.agg zeroD,.int .i64 2]) ?_ rfl (M.out.bad hg9 Hn.out)
  rw [results_cell_tmp rfl]
  simp [asAddr,run_loadVar_row w9 (w.heap.size+1) 92 92 _ (0,0) _ hr9 Tryz.underlying92 rfl Hi9.out]
 replace Hbe:=Qh (Hbe.out.trans (if_neg (of_decide_eq_false hB)))
 have hd0:0≤date∧date≤1000000000:=by have:=of_decide_eq_false hB;omega
 clear hB
 go_wp2_with fail
 refine (Hld.out W2 M.out.at_.ok).mono ?_
 rintro e0 w0 ⟨rfl,hb0⟩
 replace M:=Qh (M.out.quiet hb0)
 clear z0 z1 z2 z3 hb0 Hld
 obtain ⟨z0,z1,z2,z3⟩:=(⟨M.out.a0,M.out.a1,M.out.a2,M.out.a3⟩:_∧_∧_∧_)
 go_upto_if 23 with fail
 obtain ⟨B,hB⟩:∃B:Bool,decide (date<lastDt L)=B:=⟨_,rfl⟩
 rw [hB]
 cases B
 case true=>
  have Hn:=Qh (show begP L date=(nilD,14) by rw [Hb.out,Hbe.out,if_pos (of_decide_eq_true hB)];rfl)
  clear hB z0 z1 z2 z3
  have hout:=M.out.out
  go_wp2_with (refine Xaf rfl rfl 92 _ _ rfl (w.heap.size+1) 0 zeroD.toList (.agg zeroD) (by simp [Act.eval]) (by simp [Act.eval]) (by rfl) zeroD 92 hout (by simp) (by kernel_rfl) (by simp [Value.oneCell']) zeroD (by rfl) ?_
               intro w9 hg9 hr9)
  refine bodyPost_ret (v:= .tuple #[.agg zeroD,.int .i64 14]) ?_ rfl (M.out.bad hg9 Hn.out)
  rw [results_cell_tmp rfl]
  simp [asAddr,run_loadVar_row w9 (w.heap.size+1) 92 92 _ (0,0) _ hr9 Tryz.underlying92 rfl Hi9.out]
 have Hn:=Qh (show begP L date=(openP L date,0) by rw [Hb.out,Hbe.out,if_neg (of_decide_eq_false hB)];rfl)
 clear hB Hb Hbe
 go_wp2_with fail
 refine (Hst.out w0 M.out.at_.ok).mono ?_
 rintro e1 w1 ⟨vk,vt,vh,J1,rfl,hb1,hx1,hok1,hrk,hrt,hrh⟩
 obtain ⟨ak,ck,rfl,_,_,_⟩:=id hrk
 obtain ⟨at',ct',rfl,_,_,_⟩:=id hrt
 obtain ⟨ah,ch,rfl,_,_,_⟩:=id hrh
 have M1:=Qh (M.out.thru hb1 hx1 hok1)
 have hm1:=M1.out.lt
 have hJ7:J1 w1.heap.size=none:=hok1.fresh (Qn _)
 have m1:IntKind.i64.wrap ((L.length:Int)+1)=(L.length:Int)+1:=IntWalk.i64_in _ (by omega)
 have Hrp2:=Qh ((Hrp.out.begin (by omega)).1)
 clear z0 z1 z2 z3 hb1 hx1 hok1 M Hst
 go_wp2_with (refine Xaf rfl rfl 92 _ _ rfl w1.heap.size 0 (drCs (⟨0,0,[],[],repQ L,(aftS nilS L).tree,(aftS nilS L).holds⟩:Drf) (.slice none 0 0) (.slice ak (repQ L).cks.length ck) (.slice at' (aftS nilS L).tree.length ct') (.slice ah (aftS nilS L).holds.length ch)) (drV (⟨0,0,[],[],repQ L,(aftS nilS L).tree,(aftS nilS L).holds⟩:Drf) (.slice none 0 0) (.slice ak (repQ L).cks.length ck) (.slice at' (aftS nilS L).tree.length ct') (.slice ah (aftS nilS L).holds.length ch)) (by simp [Act.eval]) (by simp [Act.eval]) (by rfl) zeroD 92 (heap_alloc_new _ _) (by simp) (by kernel_rfl) (by simp [Value.oneCell']) (drCs (⟨0,0,[],[],repQ L,(aftS nilS L).tree,(aftS nilS L).holds⟩:Drf) (.slice none 0 0) (.slice ak (repQ L).cks.length ck) (.slice at' (aftS nilS L).tree.length ct') (.slice ah (aftS nilS L).holds.length ch)).toArray (by rfl) ?_
              intro w2 hg2 hr2
              have z0:=Xah hg2 (by simp;omega) (Xab (.cells zeroD 92) M1.out.a0)
              have z1:=Xah hg2 (by simp;omega) (Xab (.cells zeroD 92) M1.out.a1)
              have z2:=Xah hg2 (by simp;omega) (Xab (.cells zeroD 92) M1.out.a2)
              have z3:=Xah hg2 (by simp;omega) (Xab (.cells zeroD 92) M1.out.a3))
 have M2:=Qh (M1.out.quiet (((Qb _ _).alloc (Qn _) _).grown hg2 (by simp) (fun k e=>by injection e with e;omega)))
 have hs2:=(Array.getElem?_eq_some_iff.1 hr2).1
 have hJn:∀g,some w1.heap.size=some g→J1 g=none∧w.heap.size<g∧w.heap.size+1<g:=fun g e=>by injection e with e;subst e;exact ⟨hJ7,by omega,by omega⟩
 clear M1 hg2
 refine Xak (X:=Nat) (bpL w.heap.size w1.heap.size L.length sc so ai dt sp date (lastDig L)) (RgE w2 224 234 225 235 226 236 227 237 (fun _ _=>True) (fun _ _=>True) (fun _ _=>True) (fun _ _=>True) (fun _ _=>True) (fun _ _=>True) (fun x=>w1.heap.size) 92 8 10 12 (fun x=> #[.int .i64 ((L.length:Int)+1),.int .i64 0,S [],.slice none 0 0,(.slice ak (repQ L).cks.length ck),.int .i64 (repQ L).ses,S (repQ L).str,(.slice at' (aftS nilS L).tree.length ct'),(.slice ah (aftS nilS L).holds.length ch)]) (fun x=> #[.int .i64 ((L.length:Int)+1),.int .i64 date,S [],.slice none 0 0,(.slice ak (repQ L).cks.length ck),.int .i64 (repQ L).ses,S (repQ L).str,(.slice at' (aftS nilS L).tree.length ct'),(.slice ah (aftS nilS L).holds.length ch)]) (fun x=> #[.int .i64 ((L.length:Int)+1),.int .i64 date,S (lastDig L),.slice none 0 0,(.slice ak (repQ L).cks.length ck),.int .i64 (repQ L).ses,S (repQ L).str,(.slice at' (aftS nilS L).tree.length ct'),(.slice ah (aftS nilS L).holds.length ch)])) (by kernel_rfl) (by kernel_rfl) ?_ ?_ ?_
 ·exact ⟨0,RgE.start _ _ trivial⟩
 ·rintro x s' a' w' i hsz hcl ha hC hi
  obtain ⟨hun,oi,hoi,hall⟩:=mem_ready.1 hi
  have ev:=Xfu Xcj ha
  have hlt:=Xdh hun
  rcases i with _|_|_|_|_|_|_|_|_|_|_|_|_|i
  rotate_left 13
  ·simp at hoi
  all_goals
   have hoj:=hoi
   simp at hoi
   subst hoi
   simp [Region.binds] at hall
   try have hl:=Xay 6 8 hcl (by decide +kernel) hun
   try have hbw:=hC.off hl
   try have z0:=Xaa hbw z0
   try have z1:=Xaa hbw z1
   try have z2:=Xaa hbw z2
   try have z3:=Xaa hbw z3
   try have m1:=Xaa hbw m1
   refine wpOp_step hoj (fun K' hK=> ?_)
   rw [if_pos (by rfl)]
  rotate_left 6
  ·unfold Oper.wp
   simp [go_sem,ev,evF,hall,Oper.upon]
   refine (Hpr.out J1 M2.out.at_.keep w' (M2.out.at_.ok.below (Qn _) hbw)).mono ?_
   rintro r4 w4 ⟨rfl,hb4⟩
   exact hK _ _ ⟨x,Xaw Xcj ha rfl hun,hC.step hl (hbw.trans (hb4.mono hbw.size)) (by decide) (fun _=>trivial) (fun _ _=>trivial) (fun _ _=>trivial) (fun _ _=>trivial) (fun _ _=>trivial) hlt⟩
  rotate_left 1
  ·have hrow:w'.heap[w1.heap.size]? =some (.cells _ 92 (0,0)):=(hbw.block _ (Array.getElem?_eq_some_iff.1 hr2).1).trans hr2
   refine Xai 3 _ _ rfl (w1.heap.size) 0 [.int .i64 ((L.length:Int)+1)] (.int .i64 ((L.length:Int)+1)) (by simp [Act.eval,ev,evF,hall]) (by simp [Act.eval,ev,evF,hall]) (by rfl) _ _ hrow (by simp) (by kernel_rfl) (by simp [Value.oneCell']) ?_
   exact hK _ _ ⟨x,Xad (d:=none) (v:=undef) Xcj ha rfl hun,hC.put1 hun trivial (Xay 6 10 hcl (by kernel_rfl) hun) (Xay 6 12 hcl (by kernel_rfl) hun) (by decide) hrow (by rfl)⟩
  rotate_left 1
  ·have hrow:=hC.row1 (s1:=8) (by first|simpa using hall|simp [hall]) (Xan hun) (Xay 6 12 hcl (by kernel_rfl) hun)
   refine Xai 3 _ _ rfl (w1.heap.size) 1 [.int .i64 date] (.int .i64 date) (by simp [Act.eval,ev,evF,hall]) (by simp [Act.eval,ev,evF,hall]) (by rfl) _ _ hrow (by simp) (by kernel_rfl) (by simp [Value.oneCell']) ?_
   exact hK _ _ ⟨x,Xad (d:=none) (v:=undef) Xcj ha rfl hun,hC.put2 hun (by first|simpa using hall|simp [hall]) (Xay 6 12 hcl (by kernel_rfl) hun) (by decide) (by rfl)⟩
  rotate_left 1
  ·have hrow:=hC.row2 (s1:=8) (s2:=10) (by first|simpa using hall|simp [hall]) (by first|simpa using hall|simp [hall]) (Xan hun)
   refine Xai 9 _ _ rfl (w1.heap.size) 2 [S (lastDig L)] (S (lastDig L)) (by simp [Act.eval,ev,evF,hall]) (by simp [Act.eval,ev,evF,hall]) (by rfl) _ _ hrow (by simp) (by kernel_rfl) (by simp [Value.oneCell']) ?_
   exact hK _ _ ⟨x,Xad (d:=none) (v:=undef) Xcj ha rfl hun,hC.put3 hun (by first|simpa using hall|simp [hall]) (by decide) (by rfl)⟩
  all_goals
   unfold Oper.wp
   first
   |(simp [go_sem,ev,evF,hall,Oper.upon,z0,z1,z2,z3,m1];exact hK _ _ ⟨x,Xaw Xcj ha rfl hun,hC.pure (by decide)⟩)
   |(simp [go_sem,ev,evF,Oper.upon,z0,z1,z2,z3,m1];exact hK _ _ ⟨x,Xaw Xcj ha rfl hun,hC.pure (by decide)⟩)
 ·rintro x s' a' w6 hup ha hC
  obtain ⟨wb,hbW,hFin,hgr,hrow⟩:=hC.on (hup 8 (by decide))
  rw [if_pos (hup 12 (by decide))] at hrow
  rw [Xbb _ _ _ _ (fun i hi=>by rw [Nat.zero_add];exact hup i (by simpa using hi))] at ha
  subst ha
  simp only [fillAll,Act.put,List.setIfInBounds_toArray,List.set_cons_succ,List.set_cons_zero]
  clear hFin
  have M6:=Qh ((M2.out.quiet hbW).own hgr hJn)
  have hr6:=hrow
  have z4:w6.cell? ⟨w1.heap.size,4,none⟩=some _:=(cell_of_row _ _ 4 _ _ _ hr6).trans rfl
  have z5:w6.cell? ⟨w1.heap.size,5,none⟩=some _:=(cell_of_row _ _ 5 _ _ _ hr6).trans rfl
  have z6:w6.cell? ⟨w1.heap.size,6,none⟩=some _:=(cell_of_row _ _ 6 _ _ _ hr6).trans rfl
  have zn:w6.cell? ⟨w1.heap.size,0,none⟩=some _:=(cell_of_row _ _ 0 _ _ _ hr6).trans rfl
  have Hbe:=Qh (Xnr J1 (repQ L) (.slice ak (repQ L).cks.length ck) hrk (by have:=Hrp.out.cks;omega) ((L.length:Int)+1) w6 M6.out.at_.ok)
  rw [Hrp2.out] at Hbe
  clear z0 z1 z2 z3 hC hup hgr hbW hrow hr2 M2 Hpr
  go_wp2_with fail
  clear z4 z5 z6 zn
  refine Hbe.out.mono ?_
  rintro e7 w7 ⟨vk2,J2,rfl,hb7,hx7,hok7,hrk2⟩
  obtain ⟨ak2,ck2,rfl,_,_,_⟩:=id hrk2
  have M7:=Qh (M6.out.thru hb7 hx7 hok7)
  have hs6:=(Array.getElem?_eq_some_iff.1 hr6).1
  have hr7:=(hb7.block _ hs6).trans hr6
  have hJ7':J2 w1.heap.size=none:=(hx7 _ hs6).trans hJ7
  have hk7:=hx7.keep M6.out.at_.ok (Qn _)
  have hJn2:∀g,some w1.heap.size=some g→J2 g=none∧w.heap.size<g∧w.heap.size+1<g:=fun g e=>by injection e with e;subst e;exact ⟨hJ7',by omega,by omega⟩
  have hrt2:=hrt.mono hk7
  have hrh2:=hrh.mono hk7
  clear hb7 hx7 hok7 hr6 M6 Hbe hrk
  go_wp2_with (refine Xaf rfl rfl 89 _ _ rfl w7.heap.size 0 [.slice ak2 (repQ L).cks.length ck2,.int .i64 ((L.length:Int)+1),S []] (stoV ⟨(repQ L).cks,(L.length:Int)+1,[]⟩ (.slice ak2 (repQ L).cks.length ck2)) (by simp [Act.eval]) (by simp [Act.eval]) (by rfl) #[.slice none 0 0,.int .i64 0,.string ⟨#[]⟩] 89 (heap_alloc_new _ _) (by simp) (by kernel_rfl) (by simp [Value.oneCell']) #[.slice ak2 (repQ L).cks.length ck2,.int .i64 ((L.length:Int)+1),S []] (by rfl) ?_
               intro w8 hg8 hrs)
  have hb8:Below w7.heap.size w7 w8:=((Qb _ _).alloc (Qn _) _).grown hg8 (by simp) (fun k e=>by injection e with e;omega)
  have M8:=Qh (M7.out.quiet hb8)
  have hs7:=(Array.getElem?_eq_some_iff.1 hr7).1
  replace hr7:=(hb8.block _ hs7).trans hr7
  have y0:w8.cell? ⟨w7.heap.size,0,none⟩=some _:=(cell_of_row _ _ 0 _ _ _ hrs).trans rfl
  have y1:w8.cell? ⟨w7.heap.size,1,none⟩=some _:=(cell_of_row _ _ 1 _ _ _ hrs).trans rfl
  have y2:w8.cell? ⟨w7.heap.size,2,none⟩=some _:=(cell_of_row _ _ 2 _ _ _ hrs).trans rfl
  have z8:w8.cell? ⟨w1.heap.size,8,none⟩=some _:=(cell_of_row _ _ 8 _ _ _ hr7).trans rfl
  have Hac:=Qh (fun w hw=>Xeq J2 (.slice ah (aftS nilS L).holds.length ch) (aftS nilS L).holds hrh2 (by have:=hsin.out.ok.hlen;omega) date w hw)
  have hs8:=(Array.getElem?_eq_some_iff.1 hr7).1
  have hlt8:=M8.out.lt
  clear hg8 hrs M7
  refine Xak (X:=Option Addr × Nat) (bqL w1.heap.size (⟨(repQ L).cks,(L.length:Int)+1,[]⟩) (.slice ak2 (repQ L).cks.length ck2) ah ((aftS nilS L).holds.length) ch ((actP (aftS nilS L).holds date).length) date) (RgE w8 4 230 221 231 222 232 223 233 (fun _ _=>True) (fun x w=>OwnS tHo 184 J2 w w8.heap.size (.slice x.1 (actP (aftS nilS L).holds date).length x.2) (actP (aftS nilS L).holds date)) (fun _ _=>True) (fun _ _=>True) (fun _ _=>True) (fun x w=>OwnS tHo 184 J2 w w8.heap.size (.slice x.1 (actP (aftS nilS L).holds date).length x.2) (actP (aftS nilS L).holds date)) (fun x=>w1.heap.size) 92 6 8 210 (fun x=> #[.int .i64 ((L.length:Int)+1),.int .i64 date,S (lastDig L),.slice none 0 0,(.slice ak2 (repQ L).cks.length ck2),.int .i64 ((L.length:Int)+1),S [],(.slice at' (aftS nilS L).tree.length ct'),(.slice ah (aftS nilS L).holds.length ch)]) (fun x=> #[.int .i64 ((L.length:Int)+1),.int .i64 date,S (lastDig L),.slice none 0 0,(.slice ak2 (repQ L).cks.length ck2),.int .i64 ((L.length:Int)+1),S [],(.slice at' (aftS nilS L).tree.length ct'),.slice x.1 (actP (aftS nilS L).holds date).length x.2]) (fun x=> #[.int .i64 ((L.length:Int)+1),.int .i64 date,S (lastDig L),.slice none 0 0,(.slice ak2 (repQ L).cks.length ck2),.int .i64 ((L.length:Int)+1),S [],(.slice at' (aftS nilS L).tree.length ct'),.slice x.1 (actP (aftS nilS L).holds date).length x.2])) (by kernel_rfl) (by kernel_rfl) ?_ ?_ ?_
  ·exact ⟨default,RgE.start _ _ trivial⟩
  ·rintro x s' a' w' i hsz hcl ha hC hi
   obtain ⟨hun,oi,hoi,hall⟩:=mem_ready.1 hi
   have ev:=Xfu Xc2 ha
   have hlt:=Xdh hun
   rcases i with _|_|_|_|_|_|_|_|_|i
   rotate_left 9
   ·simp at hoi
   all_goals
    have hoj:=hoi
    simp at hoi
    subst hoi
    simp [Region.binds] at hall
    try have hl:=Xay 6 6 hcl (by decide +kernel) hun
    try have hbw:=hC.off hl
    try have y0:=Xaa hbw y0
    try have y1:=Xaa hbw y1
    try have y2:=Xaa hbw y2
    try have z8:=Xaa hbw z8
    refine wpOp_step hoj (fun K' hK=> ?_)
    rw [if_pos (by rfl)]
   rotate_left 4
   ·unfold Oper.wp
    simp [go_sem,ev,evF,hall,Oper.upon]
    refine (Hac.out w' (M8.out.at_.ok.below (Qn _) hbw)).mono ?_
    rintro r4 w4 ⟨v9,rfl,ho,hb4⟩
    obtain ⟨a9,k9,rfl⟩:=Xbz ho
    have ha:=ha.trans (Xa6 (L:=bqL w1.heap.size (⟨(repQ L).cks,(L.length:Int)+1,[]⟩) (.slice ak2 (repQ L).cks.length ck2) ah ((aftS nilS L).holds.length) ch ((actP (aftS nilS L).holds date).length) date x) (M:=bqL w1.heap.size (⟨(repQ L).cks,(L.length:Int)+1,[]⟩) (.slice ak2 (repQ L).cks.length ck2) ah ((aftS nilS L).holds.length) ch ((actP (aftS nilS L).holds date).length) date (a9,k9)) [4] rfl (fun j hne=>by
     rcases j with _|_|_|_|_|_|_|_|_|j<;>first|rfl|(exact absurd (by decide) hne)|simp) (List.forall_mem_cons.2 ⟨Xan hun,List.forall_mem_nil _⟩))
    exact hK _ _ ⟨(a9,k9),Xaw Xc2 ha rfl hun,hC.step hl (hbw.trans (hb4.mono hbw.size)) (by decide) (fun _=>trivial) (fun _ _=>ho.lower hbw.size) (fun _ _=>trivial) (fun _ _=>trivial) (fun _ _=>trivial) hlt⟩
   rotate_left 1
   ·have hrow:w'.heap[w1.heap.size]? =some (.cells _ 92 (0,0)):=(hbw.block _ (Array.getElem?_eq_some_iff.1 hr7).1).trans hr7
    refine Xai 89 _ _ rfl (w1.heap.size) 4 [.slice ak2 (repQ L).cks.length ck2,.int .i64 ((L.length:Int)+1),S []] (stoV ⟨(repQ L).cks,(L.length:Int)+1,[]⟩ (.slice ak2 (repQ L).cks.length ck2)) (by simp [Act.eval,ev,evF,hall]) (by simp [Act.eval,ev,evF,hall]) (by rfl) _ _ hrow (by simp) (by kernel_rfl) (by simp [Value.oneCell']) ?_
    exact hK _ _ ⟨x,Xad (d:=none) (v:=undef) Xc2 ha rfl hun,hC.put1 hun (hC.f1 (by first|simpa using hall|simp [hall]) (Xao (by simp [hsz])) hl) (Xay 6 8 hcl (by kernel_rfl) hun) (Xao (by simp [hsz])) (by decide) hrow (by rfl)⟩
   rotate_left 1
   ·have hrow:=hC.row1 (s1:=6) (by first|simpa using hall|simp [hall]) (Xan hun) (Xao (by simp [hsz]))
    refine Xai 90 _ _ rfl (w1.heap.size) 8 [.slice x.1 (actP (aftS nilS L).holds date).length x.2] (.slice x.1 (actP (aftS nilS L).holds date).length x.2) (by simp [Act.eval,ev,evF,hall]) (by simp [Act.eval,ev,evF,hall]) (by rfl) _ _ hrow (by simp) (by kernel_rfl) (by simp [Value.oneCell']) ?_
    exact hK _ _ ⟨x,Xad (d:=none) (v:=undef) Xc2 ha rfl hun,hC.put2 hun (by first|simpa using hall|simp [hall]) (Xao (by simp [hsz])) (by decide) (by rfl)⟩
   all_goals
    unfold Oper.wp
    first
    |(simp [go_sem,ev,evF,hall,Oper.upon,y0,y1,y2,z8];exact hK _ _ ⟨x,Xaw Xc2 ha rfl hun,hC.pure (by decide)⟩)
    |(simp [go_sem,ev,evF,Oper.upon,y0,y1,y2,z8];exact hK _ _ ⟨x,Xaw Xc2 ha rfl hun,hC.pure (by decide)⟩)
  ·rintro x s' a' w10 hup ha hC
   obtain ⟨wb,hbW,hFin,hgr,hrow⟩:=hC.on (hup 6 (by decide))
   rw [if_pos (hup 8 (by decide))] at hrow
   simp only [ite_self] at hrow
   rw [Xbb _ _ _ _ (fun i hi=>by rw [Nat.zero_add];exact hup i (by simpa using hi))] at ha
   subst ha
   simp only [fillAll,Act.put,List.setIfInBounds_toArray,List.set_cons_succ,List.set_cons_zero]
   obtain ⟨ah2,ch2⟩:=x
   dsimp only at hFin hgr hrow ⊢
   obtain ⟨y0,y1,y2,y3,y4,y5,y6,y7,y8⟩:=drB_row (d:=openP L date) hrow
   have M10:=Qh ((M8.out.quiet hbW).own hgr hJn2)
   have HO10:=Qh (hFin.kept hgr (.inr (hFin.ne_lt (by omega))))
   have hout:=M10.out.out
   go_wp2_with (refine Xaf rfl rfl 92 _ _ rfl (w.heap.size+1) 0 (drCs (openP L date) (.slice none 0 0) (.slice ak2 (repQ L).cks.length ck2) (.slice at' (aftS nilS L).tree.length ct') (.slice ah2 (actP (aftS nilS L).holds date).length ch2)) (drV (openP L date) (.slice none 0 0) (.slice ak2 (repQ L).cks.length ck2) (.slice at' (aftS nilS L).tree.length ct') (.slice ah2 (actP (aftS nilS L).holds date).length ch2)) (by simp [Act.eval]) (by simp [Act.eval]) (by rfl) _ 92 hout (by simp) (by kernel_rfl) (by simp [Value.oneCell']) (drCs (openP L date) (.slice none 0 0) (.slice ak2 (repQ L).cks.length ck2) (.slice at' (aftS nilS L).tree.length ct') (.slice ah2 (actP (aftS nilS L).holds date).length ch2)).toArray (by rfl) ?_
                intro w11 hg11 hr11)
   refine bodyPost_ret (v:= .tuple #[drV (openP L date) (.slice none 0 0) (.slice ak2 (repQ L).cks.length ck2) (.slice at' (aftS nilS L).tree.length ct') (.slice ah2 (actP (aftS nilS L).holds date).length ch2),.int .i64 0]) ?_ rfl ?_
   ·rw [results_cell_tmp rfl]
    simp [asAddr,run_loadVar_row w11 (w.heap.size+1) 92 92 _ (0,0) _ hr11 Tryz.underlying92 rfl Hi9.out]
   ·have hok11:=M10.out.at_.ok.grown hg11 (fun g e=>by injection e with e;subst e;exact M10.out.no1)
    obtain ⟨J3,hx3,hok3,hr3',_⟩:=(HO10.out.kept hg11 (.inr (HO10.out.ne_lt (by omega)))).freeze hok11 (fun b hb=>M8.out.at_.ok.fresh hb)
    have hk3:=hx3.keep M8.out.at_.ok (Qn _)
    rw [Hn.out]
    exact ⟨_,_,_,_,J3,rfl,M10.out.at_.bel.grown hg11 M10.out.at_.size (fun k e=>by injection e with e;omega),M8.out.ext.trans hx3 (by omega),hok3,⟨RdS.nil _ _,hrk2.mono hk3,hrt2.mono hk3,hr3'⟩⟩
theorem Xsl:ElemOk Tryz.prog 22 62 tSes 88:=ElemOk.of Tryz.underlying22 Xdd rfl (by decide) rfl
abbrev zeroS:Array Value:= #[.int .i64 0,.int .i64 0,.string ⟨#[]⟩,.slice none 0 0,.string ⟨#[]⟩,.string ⟨#[]⟩]
abbrev zeroA:Array Value:= #[.int .u32 0,.int .i64 0,.int .i64 0,.slice none 0 0]
def RetSe (I:IH) (w:World) (s:Ses) (e:Ending) (w':World):Prop:=
 ∃ve J,e= .returned (sesV s ve)∧Below w.heap.size w w'∧Ext w.heap.size I J∧Ok J w'∧RdS tEnt J ve s.ents
def RetAr (I:IH) (w:World) (ai dt sp:Int) (L:List Ses) (n:Int) (e:Ending) (w':World):Prop:=
 ∃vs J,e= .returned (.tuple #[arcV ai dt sp vs,.int .i64 n])∧Below w.heap.size w w'∧Ext w.heap.size I J∧Ok J w'∧RdS tSes J vs L
abbrev clL (n:Nat) (num date:Int) (prev:Bytes) (eo:Option Addr) (le ec:Nat) (str:Bytes) (x:Option Addr × Nat):List (Option Tmp × Value):=
 [(some 3,.pointer (some ⟨n,0,none⟩)),(some 4,.int .i64 num),(some 5,.pointer (some ⟨n,1,none⟩)),(some 6,.int .i64 date),(some 7,.pointer (some ⟨n,2,none⟩)),(some 8,S prev),(some 9,.pointer (some ⟨n,3,none⟩)),(some 10,.slice eo le ec),(some 11,.slice x.1 le x.2),(some 12,.pointer (some ⟨n,4,none⟩)),(some 13,.pointer (some ⟨n,6,none⟩)),(some 14,S str),(some 15,.agg #[.int .i64 num,.int .i64 date,S prev,.slice x.1 le x.2,S str,.string ⟨#[]⟩]),(none,undef)]
theorem Xdt {n:Nat} {num date:Int} {prev:Bytes} {eo:Option Addr} {le ec:Nat} {str:Bytes} {x:Option Addr × Nat}:ApartF (clL n num date prev eo le ec str x):=by
 unfold ApartF
 simp
abbrev aqL (n le le1 cp:Nat) (ao:Option Addr) (s:Ses) (ve:Value) (x:Nat × (Option Addr × Nat) × Nat × (Option Addr × Nat)):List (Option Tmp × Value):=
 [(some 41,.slice (some ⟨x.1,0,none⟩) 0 0),(some 42,.pointer (some ⟨n,3,none⟩)),(some 43,.slice ao le cp),(some 44,.slice x.2.1.1 le x.2.1.2),(some 45,sesV s ve),(some 46,.slice (some ⟨x.2.2.1,0,none⟩) 1 1),(some 47,.slice x.2.2.2.1 le1 x.2.2.2.2),(some 48,.pointer (some ⟨n,3,none⟩)),(none,undef)]
set_option maxRecDepth 100000 in
set_option maxHeartbeats 2000000 in
theorem Xsj (I:IH) (d:Drf) (hn:d.ents.length≤100000) (ve vk vt vh:Value) (hve:RdS tEnt I ve d.ents) (w:World) (hw:Ok I w):
 Calls Tryz.prog 41 #[drV d ve vk vt vh] w (RetSe I w (closeP d)):=by
 have Hcl:=Qh (fun w hw=>Xbq I ve d.ents hve w hw (by omega))
 have Hi6:=Qh (show (Tryz.prog.info? 62).map (·.size)=some 6 by kernel_rfl)
 obtain ⟨eo,ec,rfl,_,_,_⟩:=id hve
 obtain ⟨W2,hW2⟩:∃W2,((w.alloc (.cells #[.int .i64 d.num,.int .i64 d.date,S d.prev,.slice eo d.ents.length ec,vk,.int .i64 d.sto.ses,S d.sto.str,vt,vh] 92)).alloc (.cells zeroS 62))=W2:=⟨_,rfl⟩
 obtain ⟨hsz,h0,hout,hbW0⟩:=Xhs w _ _ _ _ W2 hW2
 have hok2:Ok I W2:=by rw [←hW2];exact (hw.alloc _).alloc _
 obtain ⟨b0,b1,b2,b3,b4,b5,b6,b7,b8⟩:=drB_row (d:=d) h0
 have Hout:=Qh hout
 clear hve h0 hout
 go_enter Tryz.func41,Tryz.ntmps41
 go_wp2_with fail
 have hout:=Hout.out
 clear hW2
 refine Xak (X:=Option Addr × Nat) (clL w.heap.size d.num d.date d.prev eo d.ents.length ec d.sto.str) (RgE W2 8 235 226 236 227 237 228 238 (fun _ _=>True) (fun x w=>OwnS tEnt 35 I w W2.heap.size (.slice x.1 d.ents.length x.2) d.ents) (fun _ _=>True) (fun _ _=>True) (fun _ _=>True) (fun x w=>OwnS tEnt 35 I w W2.heap.size (.slice x.1 d.ents.length x.2) d.ents) (fun x=>(w.heap.size+1)) 62 13 215 216 (fun x=>(sesCs (closeP d) (.slice x.1 d.ents.length x.2)).toArray) (fun x=>(sesCs (closeP d) (.slice x.1 d.ents.length x.2)).toArray) (fun x=>(sesCs (closeP d) (.slice x.1 d.ents.length x.2)).toArray)) (by kernel_rfl) (by kernel_rfl) ?_ ?_ ?_
 ·exact ⟨default,RgE.start _ _ trivial⟩
 ·rintro x s' a' w' i hsz hcl ha hC hi
  obtain ⟨hun,oi,hoi,hall⟩:=mem_ready.1 hi
  have ev:=Xfu Xdt ha
  have hlt:=Xdh hun
  rcases i with _|_|_|_|_|_|_|_|_|_|_|_|_|_|i
  rotate_left 14
  ·simp at hoi
  all_goals
   have hoj:=hoi
   simp at hoi
   subst hoi
   simp [Region.binds] at hall
   try have hl:=Xay 6 13 hcl (by decide +kernel) hun
   try have hbw:=hC.off hl
   try have b0:=Xaa hbw b0
   try have b1:=Xaa hbw b1
   try have b2:=Xaa hbw b2
   try have b3:=Xaa hbw b3
   try have b6:=Xaa hbw b6
   refine wpOp_step hoj (fun K' hK=> ?_)
   rw [if_pos (by rfl)]
  rotate_left 8
  ·unfold Oper.wp
   simp [go_sem,ev,evF,hall,Oper.upon]
   refine (Hcl.out w' (hok2.below (Qn _) hbw)).mono ?_
   rintro r4 w4 ⟨v7,rfl,ho,hb4⟩
   obtain ⟨a7,k7,rfl⟩:=Xbz ho
   have ha:=ha.trans (Xa6 (L:=clL w.heap.size d.num d.date d.prev eo d.ents.length ec d.sto.str x) (M:=clL w.heap.size d.num d.date d.prev eo d.ents.length ec d.sto.str (a7,k7)) [8,12] rfl (fun j hne=>by
    rcases j with _|_|_|_|_|_|_|_|_|_|_|_|_|_|j<;>first|rfl|(exact absurd (by decide) hne)|simp) (List.forall_mem_cons.2 ⟨Xan hun,List.forall_mem_cons.2 ⟨Xay 6 12 hcl (by kernel_rfl) hun,List.forall_mem_nil _⟩⟩))
   exact hK _ _ ⟨(a7,k7),Xaw Xdt ha rfl hun,hC.step hl (hbw.trans (hb4.mono hbw.size)) (by decide) (fun _=>trivial) (fun _ _=>ho.lower hbw.size) (fun _ _=>trivial) (fun _ _=>trivial) (fun _ _=>trivial) hlt⟩
  rotate_left 4
  ·have hrow:w'.heap[(w.heap.size+1)]? =some (.cells _ 62 (0,0)):=(hbw.block _ (Array.getElem?_eq_some_iff.1 hout).1).trans hout
   refine Xai 62 _ _ rfl ((w.heap.size+1)) 0 [.int .i64 d.num,.int .i64 d.date,S d.prev,.slice x.1 d.ents.length x.2,S d.sto.str,.string ⟨#[]⟩] (.agg #[.int .i64 d.num,.int .i64 d.date,S d.prev,.slice x.1 d.ents.length x.2,S d.sto.str,.string ⟨#[]⟩]) (by simp [Act.eval,ev,evF,hall]) (by simp [Act.eval,ev,evF,hall]) (by rfl) _ _ hrow (by simp) (by kernel_rfl) (by simp [Value.oneCell']) ?_
   exact hK _ _ ⟨x,Xad (d:=none) (v:=undef) Xdt ha rfl hun,hC.put1 hun (hC.f1 (by first|simpa using hall|simp [hall]) (Xao (by simp [hsz])) hl) (Xao (by simp [hsz])) (Xao (by simp [hsz])) (by decide) hrow (by rfl)⟩
  all_goals
   unfold Oper.wp
   first
   |(simp [go_sem,ev,evF,hall,Oper.upon,b0,b1,b2,b3,b6];exact hK _ _ ⟨x,Xaw Xdt ha rfl hun,hC.pure (by decide)⟩)
   |(simp [go_sem,ev,evF,Oper.upon,b0,b1,b2,b3,b6];exact hK _ _ ⟨x,Xaw Xdt ha rfl hun,hC.pure (by decide)⟩)
 ·rintro x s' a' w3 hup ha hC
  obtain ⟨wb,hbW,hFin,hgr,hrow⟩:=hC.on (hup 13 (by decide))
  simp only [ite_self] at hrow
  rw [Xbb _ _ _ _ (fun i hi=>by rw [Nat.zero_add];exact hup i (by simpa using hi))] at ha
  subst ha
  simp only [fillAll,Act.put,List.setIfInBounds_toArray,List.set_cons_succ,List.set_cons_zero]
  have ho3:=hFin.kept hgr (.inr (hFin.ne_lt (by omega)))
  have hok3:Ok I w3:=(hok2.below (Qn _) hbW).grown hgr (fun g e=>by injection e with e;subst e;exact hw.fresh (by omega))
  obtain ⟨J,hxJ,hokJ,hrJ,_⟩:=ho3.freeze hok3 (fun b hb=>hw.fresh (by omega))
  have hb3:=(hbW0.trans (hbW.mono hbW0.size)).grown hgr (by have:=hbW.size;omega) (fun k e=>by injection e with e;omega)
  go_wp2
  refine bodyPost_ret (results_cell_row rfl _ _ (w.heap.size+1) _ (sesCs (closeP d) (.slice x.1 d.ents.length x.2)).toArray (0,0) _ rfl hrow Tryz.underlying62 rfl Hi6.out) rfl ?_
  exact ⟨_,J,rfl,hb3,hxJ.mono (by omega),hokJ,hrJ⟩
structure ApM (I:IH) (w0:World) (ai dt sp:Int) (vs:Value) (s:Ses) (ve:Value) (W:World):Prop where
 at_:MAt I w0 I W
 row:W.heap[w0.heap.size]? =some (.cells #[.int .u32 ai,.int .i64 dt,.int .i64 sp,vs] 46 (0,0))
 ses:SesB W (w0.heap.size+1) s ve
 out:W.heap[w0.heap.size+2]? =some (.cells zeroA 46 (0,0))
theorem ApM.quiet {I:IH} {w0:World} {ai dt sp:Int} {vs:Value} {s:Ses} {ve:Value} {W W':World} (h:ApM I w0 ai dt sp vs s ve W) (hb:Below W.heap.size W W'):ApM I w0 ai dt sp vs s ve W':=
 ⟨h.at_.quiet hb,(hb.block _ (Array.getElem?_eq_some_iff.1 h.row).1).trans h.row,h.ses.thru hb,(hb.block _ (Array.getElem?_eq_some_iff.1 h.out).1).trans h.out⟩
theorem Xbh {w:World} {b:Nat} {ai dt sp:Int} {vs:Value} (h:w.heap[b]? =some (.cells #[.int .u32 ai,.int .i64 dt,.int .i64 sp,vs] 46 (0,0))):
 w.cell? ⟨b,0,none⟩=some (.int .u32 ai)∧w.cell? ⟨b,1,none⟩=some (.int .i64 dt)∧w.cell? ⟨b,2,none⟩=some (.int .i64 sp)∧w.cell? ⟨b,3,none⟩=some vs:=
 ⟨(cell_of_row _ _ 0 _ _ _ h).trans rfl,(cell_of_row _ _ 1 _ _ _ h).trans rfl,(cell_of_row _ _ 2 _ _ _ h).trans rfl,(cell_of_row _ _ 3 _ _ _ h).trans rfl⟩
theorem ApM.old {I:IH} {w0:World} {ai dt sp:Int} {vs:Value} {s:Ses} {ve:Value} {W w9:World} (hw:Ok I w0) (h:ApM I w0 ai dt sp vs s ve W) (hg:W.grownBy w9 (some (w0.heap.size+2))) {L:List Ses} (hvs:RdS tSes I vs L) {p:List Ses × Int} {r:Int} (hp:p=(L,r)):
 RetAr I w0 ai dt sp p.1 p.2 (.returned (.tuple #[arcV ai dt sp vs,.int .i64 r])) w9:=by
 subst hp
 exact ⟨vs,I,rfl,h.at_.bel.grown hg h.at_.size (fun k e=>by injection e with e;omega),Ext.refl _ _,h.at_.ok.grown hg (fun g e=>by injection e with e;subst e;exact hw.fresh (by omega)),hvs⟩
abbrev apL (n m le le1 cp:Nat) (ao:Option Addr) (s:Ses) (ve:Value) (x:(Option Addr × Nat) × Nat × (Option Addr × Nat)):List (Option Tmp × Value):=
 [(some 43,.pointer (some ⟨n,3,none⟩)),(some 44,.slice ao le cp),(some 45,.slice x.1.1 le x.1.2),(some 46,sesV s ve),(some 47,.slice (some ⟨x.2.1,0,none⟩) 1 1),(some 48,.slice x.2.2.1 le1 x.2.2.2),(some 49,.pointer (some ⟨m,3,none⟩)),(none,undef)]
theorem Xck {n m le le1 cp:Nat} {ao:Option Addr} {s:Ses} {ve:Value} {x:(Option Addr × Nat) × Nat × (Option Addr × Nat)}:ApartF (apL n m le le1 cp ao s ve x):=by
 unfold ApartF
 simp
set_option maxRecDepth 100000 in
set_option maxHeartbeats 8000000 in
theorem Xpt (I:IH) (hI:Glob I) (ai dt sp:Int) {n m:Nat} (L:List Ses) (h:ArcOk n m L) (hn:n≤5000) (hm:m≤250) (vs:Value) (hvs:RdS tSes I vs L) (s:Ses) (ve:Value) (hve:RdS tEnt I ve s.ents) (w:World) (hw:Ok I w):
 Calls Tryz.prog 40 #[arcV ai dt sp vs,sesV s ve] w (RetAr I w ai dt sp (appP L s).1 (appP L s).2):=by
 have hlen:=h.len
 have Hla:=Qh (fun w hw=>Xgj I hI ai dt sp L vs hvs (h.sesD (by omega) (by omega)) w hw)
 have Hld:=Qh (fun w hw=>Xgk I ai dt sp L vs hvs w hw)
 have Hcl:=Qh (fun w hw=>Xl6 I vs L hvs w hw (by omega))
 have Hvs:=Qh hvs
 have Hve:=Qh hve
 have Hi4:=Qh (show (Tryz.prog.info? 46).map (·.size)=some 4 by kernel_rfl)
 obtain ⟨so,sc,rfl,_,_,_⟩:=id hvs
 obtain ⟨eo,ec,rfl,_,_,_⟩:=id hve
 have Hap:=Qh (show appP L s=if appErr L s≠0 then (L,appErr L s) else (L++ [s],0) from rfl)
 have Hae:=Qh (show appErr L s=if s.num≠(L.length:Nat)+1∨(L≠ []∧s.date<lastDt L) then 14 else if s.prev≠lastDig L then 20 else 0 by unfold appErr;rw [if_neg (by omega)])
 have d1:decide ((255:Int)≤(L.length:Int))=false:=Qf (by omega)
 have m1:IntKind.i64.wrap ((L.length:Int)+1)=(L.length:Int)+1:=IntWalk.i64_in _ (by omega)
 obtain ⟨W3,hW3⟩:∃W3,(((w.alloc (.cells #[.int .u32 ai,.int .i64 dt,.int .i64 sp,.slice so L.length sc] 46)).alloc (.cells #[.int .i64 s.num,.int .i64 s.date,S s.prev,.slice eo s.ents.length ec,S s.stream,S s.sl] 62)).alloc (.cells zeroA 46))=W3:=⟨_,rfl⟩
 obtain ⟨hsz3,h30,h31,h32⟩:=Xel w _ _ _ _ _ _ W3 hW3
 have M:=Qh (show ApM I w ai dt sp (.slice so L.length sc) s (.slice eo s.ents.length ec) W3 from ⟨by rw [←hW3];exact (((MAt.start hw).past _).past _).past _,h30,
  ⟨(cell_of_row _ _ 0 _ _ _ h31).trans rfl,(cell_of_row _ _ 1 _ _ _ h31).trans rfl,(cell_of_row _ _ 2 _ _ _ h31).trans rfl,(cell_of_row _ _ 3 _ _ _ h31).trans rfl,(cell_of_row _ _ 4 _ _ _ h31).trans rfl,(cell_of_row _ _ 5 _ _ _ h31).trans rfl⟩,h32⟩)
 obtain ⟨z0,z1,z2,z3⟩:=Xbh h30
 obtain ⟨c0,c1,c2,c3,c4,c5⟩:=M.out.ses
 clear h hvs hve h30 h31 h32
 go_enter Tryz.func40,Tryz.ntmps40
 go_upto_region 3 with fail
 clear hW3
 obtain ⟨B,hB⟩:∃B:Bool,decide (s.num≠(L.length:Nat)+1∨(L≠ []∧s.date<lastDt L))=B:=⟨_,rfl⟩
 go_cut [13] (fun s13 wx=>s13= .bool B∧Below W3.heap.size W3 wx)
 case first=>
  have z0:=cell_regrown z0
  have z1:=cell_regrown z1
  have z2:=cell_regrown z2
  have z3:=cell_regrown z3
  have c0:=cell_regrown c0
  have c1:=cell_regrown c1
  by_cases q1:s.num=(L.length:Nat)+1
  ·have i1:(s.num != (L.length:Int)+1)=false:=by simpa using q1
   rcases last_cases L with hL|⟨k,hk,hkl,hlast⟩
   ·have hB2:B=false:=by rw [←hB];exact Qf (by rintro (h|⟨h,_⟩);exact h q1;exact h hL)
    have i0:decide (0<(L.length:Int))=false:=Qf (by rw [hL];simp)
    have i0':decide (0<L.length)=false:=Qf (by rw [hL];simp)
    subst hB2
    clear hB q1 hL
    go_wp2_with fail
    refine wp_region_quiet_below (by kernel_rfl) (by kernel_rfl) ?_
    repeat (go_big_quiet_step ((fail)))
    refine wpQuiet_nil ?_
    intro w2 hwq
    have hb2:Below (W3).heap.size (W3) w2:=by
     obtain ⟨pq,rfl⟩:=hwq
     exact below_regrown _ _ _
    clear hwq
    go_wp2_with fail
    go_meet
    exact ⟨rfl,hb2⟩
   ·have i0:decide (0<(L.length:Int))=true:=Qt (by omega)
    have i0':decide (0<L.length)=true:=Qt (by omega)
    have hne:L≠ []:=fun e=>by rw [e] at hk;simp at hk
    have hB2:decide (s.date<lastDt L)=B:=by rw [←hB];simp [q1,hne]
    clear hB hlast hne q1 hkl
    go_wp2_with fail
    refine wp_region_quiet_below (by kernel_rfl) (by kernel_rfl) ?_
    repeat (go_big_quiet_step ((with_reducible exact Calls.regrown_of (Hld.out _ (M.out.at_.ok.below (Qn _) (below_regrown _ _ _))))))
    refine wpQuiet_nil ?_
    intro w2 hwq
    have hb2:Below (W3).heap.size (W3) w2:=by
     obtain ⟨pq,rfl⟩:=hwq
     exact below_regrown _ _ _
    clear hwq
    go_wp2_with fail
    go_meet
    exact ⟨by first|rfl|rw [hB2],hb2⟩
  ·have i1:(s.num != (L.length:Int)+1)=true:=by simpa using q1
   have hB2:B=true:=by rw [←hB];exact Qt (.inl q1)
   subst hB2
   clear hB q1
   go_wp2_with fail
   refine wp_region_quiet_below (by kernel_rfl) (by kernel_rfl) ?_
   repeat (first|go_big_quiet_step (fail)|refine BigFrame.wpQuiet_skip (by rfl) ?_)
   refine wpQuiet_nil ?_
   intro w2 hwq
   have hb2:Below W3.heap.size W3 w2:=by
    obtain ⟨pq,rfl⟩:=hwq
    exact below_regrown _ _ _
   clear hwq
   go_wp2_with fail
   go_meet
   exact ⟨rfl,hb2⟩
 case rest=>
 obtain ⟨rfl,hb1⟩:=hcut
 replace M:=Qh (M.out.quiet hb1)
 clear hb1 z0 z1 z2 z3 c0 c1 c2 c3 c4 c5
 cases B
 case true=>
  have Hn:=Qh (show appP L s=(L,14) by rw [Hap.out,Hae.out,if_pos (of_decide_eq_true hB)];rfl)
  clear hB
  obtain ⟨z0,z1,z2,z3⟩:=Xbh M.out.row
  have hout:=M.out.out
  go_wp2_with (refine Xaf rfl rfl 46 _ _ rfl (w.heap.size+2) 0 [.int .u32 ai,.int .i64 dt,.int .i64 sp,.slice so L.length sc] (arcV ai dt sp (.slice so L.length sc)) (by simp [Act.eval]) (by simp [Act.eval]) (by rfl) zeroA 46 hout (by simp) (by kernel_rfl) (by simp [Value.oneCell']) #[.int .u32 ai,.int .i64 dt,.int .i64 sp,.slice so L.length sc] (by rfl) ?_
               intro w9 hg9 hr9)
  refine bodyPost_ret (v:= .tuple #[arcV ai dt sp (.slice so L.length sc),.int .i64 14]) ?_ rfl (M.out.old hw hg9 Hvs.out Hn.out)
  rw [results_cell_tmp rfl]
  simp [asAddr,run_loadVar_row w9 (w.heap.size+2) 46 46 _ (0,0) _ hr9 Tryz.underlying46 rfl Hi4.out]
 replace Hae:=Qh (Hae.out.trans (if_neg (of_decide_eq_false hB)))
 clear hB
 obtain ⟨z0,z1,z2,z3⟩:=Xbh M.out.row
 obtain ⟨c0,c1,c2,c3,c4,c5⟩:=M.out.ses
 obtain ⟨wA,hwA⟩:∃wA,wA=wc:=⟨_,rfl⟩
 subst hwA
 obtain ⟨B,hB⟩:∃B:Bool,(!s.prev==lastDig L)=B:=⟨_,rfl⟩
 go_upto_region 5 with fail
 go_cut [35] (fun s35 wx=>s35= .bool B∧Below wA.heap.size wA wx)
 case first=>
  have z0:=cell_regrown z0
  have z1:=cell_regrown z1
  have z2:=cell_regrown z2
  have z3:=cell_regrown z3
  have c2:=cell_regrown c2
  go_wp2_with fail
  refine wp_region_quiet_below (by kernel_rfl) (by kernel_rfl) ?_
  repeat (go_big_quiet_step ((with_reducible exact Calls.regrown_of (Hla.out _ (M.out.at_.ok.below (Qn _) (below_regrown _ _ _))))))
  refine wpQuiet_nil ?_
  intro w2 hwq
  have hb2:Below (wA).heap.size (wA) w2:=by
   obtain ⟨pq,rfl⟩:=hwq
   exact below_regrown _ _ _
  clear hwq
  go_wp2_with fail
  go_meet
  exact ⟨by first|rfl|rw [hB],hb2⟩
 case rest=>
 obtain ⟨rfl,hb1⟩:=hcut
 replace M:=Qh (M.out.quiet hb1)
 clear hb1 z0 z1 z2 z3 c0 c1 c2 c3 c4 c5 Hla
 cases B
 case true=>
  have he:appErr L s=20:=by rw [Hae.out,if_pos (by simpa using hB)]
  have Hn:=Qh (show appP L s=(L,20) by rw [Hap.out,he];rfl)
  clear he
  clear hB
  obtain ⟨z0,z1,z2,z3⟩:=Xbh M.out.row
  have hout:=M.out.out
  go_wp2_with (refine Xaf rfl rfl 46 _ _ rfl (w.heap.size+2) 0 [.int .u32 ai,.int .i64 dt,.int .i64 sp,.slice so L.length sc] (arcV ai dt sp (.slice so L.length sc)) (by simp [Act.eval]) (by simp [Act.eval]) (by rfl) zeroA 46 hout (by simp) (by kernel_rfl) (by simp [Value.oneCell']) #[.int .u32 ai,.int .i64 dt,.int .i64 sp,.slice so L.length sc] (by rfl) ?_
               intro w9 hg9 hr9)
  refine bodyPost_ret (v:= .tuple #[arcV ai dt sp (.slice so L.length sc),.int .i64 20]) ?_ rfl (M.out.old hw hg9 Hvs.out Hn.out)
  rw [results_cell_tmp rfl]
  simp [asAddr,run_loadVar_row w9 (w.heap.size+2) 46 46 _ (0,0) _ hr9 Tryz.underlying46 rfl Hi4.out]
 have he:appErr L s=0:=by rw [Hae.out,if_neg (by simpa using hB)]
 have Hn:=Qh (show appP L s=(L++ [s],0) by rw [Hap.out,he];rfl)
 clear he
 clear hB Hap Hae
 obtain ⟨z0,z1,z2,z3⟩:=Xbh M.out.row
 obtain ⟨wq,hwq⟩:∃wq,wq=wc:=⟨_,rfl⟩
 subst hwq
 have hlA:=(Array.getElem?_eq_some_iff.1 M.out.row).1
 have hlO:=(Array.getElem?_eq_some_iff.1 M.out.out).1
 go_wp2_with (refine Xaf rfl rfl 46 _ _ rfl wq.heap.size 0 [.int .u32 ai,.int .i64 dt,.int .i64 sp,.slice so L.length sc] (arcV ai dt sp (.slice so L.length sc)) (by simp [Act.eval]) (by simp [Act.eval]) (by rfl) zeroA 46 (heap_alloc_new _ _) (by simp) (by kernel_rfl) (by simp [Value.oneCell']) #[.int .u32 ai,.int .i64 dt,.int .i64 sp,.slice so L.length sc] (by rfl) ?_
              intro w5 hg5 hr5)
 have hb5:Below wq.heap.size wq w5:=((Qb _ _).alloc (Qn _) _).grown hg5 (by simp) (fun k e=>by injection e with e;omega)
 have M5:=Qh (M.out.quiet hb5)
 have hs5:wq.heap.size<w5.heap.size:=(Array.getElem?_eq_some_iff.1 hr5).1
 clear z0 z1 z2 z3 hg5
 obtain ⟨z0,z1,z2,z3⟩:=Xbh M5.out.row
 obtain ⟨c0,c1,c2,c3,c4,c5⟩:=M5.out.ses
 refine Xak (X:=(Option Addr × Nat) × Nat × (Option Addr × Nat)) (apL w.heap.size wq.heap.size L.length ((L++ [s]).length) sc so s (.slice eo s.ents.length ec)) (RgE w5 2 5 4 5 5 231 222 232 (fun x w=>x.2.1<w.heap.size) (fun x w=>OwnS tSes 62 I w w5.heap.size (.slice x.1.1 L.length x.1.2) L∧(Value.slice x.1.1 L.length x.1.2).ownBlock≠some x.2.1) (fun x w=>w.heap[x.2.1]? =some (.cells (sesCs s (.slice eo s.ents.length ec)).toArray 62 (0,0))) (fun x w=>OwnS tSes 62 I w w5.heap.size (.slice x.2.2.1 (L++ [s]).length x.2.2.2) (L++ [s])) (fun _ _=>True) (fun x w=>OwnS tSes 62 I w w5.heap.size (.slice x.2.2.1 (L++ [s]).length x.2.2.2) (L++ [s])) (fun x=>wq.heap.size) 46 7 209 210 (fun x=> #[.int .u32 ai,.int .i64 dt,.int .i64 sp,.slice x.2.2.1 (L++ [s]).length x.2.2.2]) (fun x=> #[.int .u32 ai,.int .i64 dt,.int .i64 sp,.slice x.2.2.1 (L++ [s]).length x.2.2.2]) (fun x=> #[.int .u32 ai,.int .i64 dt,.int .i64 sp,.slice x.2.2.1 (L++ [s]).length x.2.2.2])) (by kernel_rfl) (by kernel_rfl) ?_ ?_ ?_
 ·exact ⟨(default,0,default),RgE.start _ _ (show 0<w5.heap.size by omega)⟩
 ·rintro x s' a' w' i hsz hcl ha hC hi
  obtain ⟨hun,oi,hoi,hall⟩:=mem_ready.1 hi
  have ev:=Xfu Xck ha
  have hlt:=Xdh hun
  rcases i with _|_|_|_|_|_|_|_|i
  rotate_left 8
  ·simp at hoi
  all_goals
   have hoj:=hoi
   simp at hoi
   subst hoi
   simp [Region.binds] at hall
   try have hl:=Xay 6 7 hcl (by decide +kernel) hun
   try have hbw:=hC.off hl
   try have z3:=Xaa hbw z3
   try have c0:=Xaa hbw c0
   try have c1:=Xaa hbw c1
   try have c2:=Xaa hbw c2
   try have c3:=Xaa hbw c3
   try have c4:=Xaa hbw c4
   try have c5:=Xaa hbw c5
   refine wpOp_step hoj (fun K' hK=> ?_)
   rw [if_pos (by rfl)]
  rotate_left 2
  ·unfold Oper.wp
   simp [go_sem,ev,evF,hall,Oper.upon]
   refine (Hcl.out w' (M5.out.at_.ok.below (Qn _) hbw)).mono ?_
   rintro r4 w4 ⟨v7,rfl,ho,hb4⟩
   obtain ⟨a7,k7,rfl⟩:=Xbz ho
   have ha:=ha.trans (Xa6 (L:=apL w.heap.size wq.heap.size L.length ((L++ [s]).length) sc so s (.slice eo s.ents.length ec) x) (M:=apL w.heap.size wq.heap.size L.length ((L++ [s]).length) sc so s (.slice eo s.ents.length ec) ((a7,k7),x.2)) [2] rfl (fun j hne=>by
    rcases j with _|_|_|_|_|_|_|_|j<;>first|rfl|(exact absurd (by decide) hne)|simp) (List.forall_mem_cons.2 ⟨Xan hun,List.forall_mem_nil _⟩))
   exact hK _ _ ⟨((a7,k7),x.2),Xaw Xck ha rfl hun,hC.step hl (hbw.trans (hb4.mono hbw.size)) (by decide) (fun h=>Nat.lt_of_lt_of_le h hb4.size) (fun _ _=>⟨ho.lower hbw.size,fun q=>by have h8:w'.heap.size≤x.2.1:=ho.own_ge q;have h9:x.2.1<w'.heap.size:=hC.inv hl;omega⟩) (fun h _=>h.elim (fun e=>absurd e (by decide)) (fun ⟨_,_,q⟩=>(hb4.block _ (Array.getElem?_eq_some_iff.1 q).1).trans q)) (fun h _=>h.elim (fun e=>absurd e (by decide)) (fun ⟨_,_,q⟩=>q.below hb4)) (fun _ _=>trivial) hlt⟩
  rotate_left 1
  ·unfold Oper.wp
   simp [go_sem,ev,evF,hall,Oper.upon,z3,c0,c1,c2,c3,c4,c5]
   have ha:=ha.trans (Xa6 (L:=apL w.heap.size wq.heap.size L.length ((L++ [s]).length) sc so s (.slice eo s.ents.length ec) x) (M:=apL w.heap.size wq.heap.size L.length ((L++ [s]).length) sc so s (.slice eo s.ents.length ec) (x.1,w'.heap.size,x.2.2)) [4] rfl (fun j hne=>by
    rcases j with _|_|_|_|_|_|_|_|j<;>first|rfl|(exact absurd (by decide) hne)|simp) (List.forall_mem_cons.2 ⟨Xan hun,List.forall_mem_nil _⟩))
   exact hK _ _ ⟨(x.1,w'.heap.size,x.2.2),Xaw Xck ha rfl hun,hC.step hl (hbw.trans (((Qb _ _).alloc (Qn _) _).mono hbw.size)) (by decide) (fun _=>by simp) (fun h _=>h.elim (fun e=>absurd e (by decide)) (fun ⟨_,_,q⟩=>⟨q.1.alloc _,fun r=>absurd (Xdl q.1 r).2 (Nat.lt_irrefl _)⟩)) (fun _ _=>heap_alloc_new _ _) (fun h _=>h.elim (fun e=>absurd e (by decide)) (fun ⟨_,_,q⟩=>q.alloc _)) (fun _ _=>trivial) hlt⟩
  ·have h1:=hC.f1 (by first|simpa using hall|simp [hall]) (Xan hun) hl
   have h2:=hC.f2 (by first|simpa using hall|simp [hall]) (Xan hun) hl
   refine Xc3 Xsl _ _ rfl (by simp [Act.eval,ev,evF,hall]) h1.1 (by simp [Act.eval,ev,evF,hall]) (SrcS.of_one (T:=tSes) (x:=s) (cs:=sesCs s (.slice eo s.ents.length ec)) ⟨_,rfl,Hve.out⟩ (fun j u hu=>(cell_of_row w' _ j _ _ _ h2).trans (by simpa using hu))) (by simp only [List.length_nil,List.length_cons];omega) (by simp only [List.length_nil,List.length_cons];omega) hbw.size ?_
   rintro v9 w9 ho9 hg9 hl9
   obtain ⟨a9,k9,rfl⟩:=Xbz ho9
   have ha:=ha.trans (Xa6 (L:=apL w.heap.size wq.heap.size L.length ((L++ [s]).length) sc so s (.slice eo s.ents.length ec) x) (M:=apL w.heap.size wq.heap.size L.length ((L++ [s]).length) sc so s (.slice eo s.ents.length ec) (x.1,x.2.1,(a9,k9))) [5] rfl (fun j hne=>by
    rcases j with _|_|_|_|_|_|_|_|j<;>first|rfl|(exact absurd (by decide) hne)|simp) (List.forall_mem_cons.2 ⟨Xan hun,List.forall_mem_nil _⟩))
   exact hK _ _ ⟨(x.1,x.2.1,(a9,k9)),Xaw Xck ha rfl hun,hC.step hl (hbw.grown hg9 hbw.size (fun k e=>(Xdl h1.1 e).1)) (by decide) (fun h=>Nat.lt_of_lt_of_le h hg9.size) (fun _ h=>absurd rfl h) (fun _ h=>absurd rfl h) (fun _ _=>ho9) (fun _ _=>trivial) hlt⟩
  rotate_left 1
  ·have hrow:w'.heap[wq.heap.size]? =some (.cells _ 46 (0,0)):=(hbw.block _ (Array.getElem?_eq_some_iff.1 hr5).1).trans hr5
   refine Xai 22 _ _ rfl (wq.heap.size) 3 [.slice x.2.2.1 (L++ [s]).length x.2.2.2] (.slice x.2.2.1 (L++ [s]).length x.2.2.2) (by simp [Act.eval,ev,evF,hall]) (by simp [Act.eval,ev,evF,hall]) (by rfl) _ _ hrow (by simp) (by kernel_rfl) (by simp [Value.oneCell']) ?_
   exact hK _ _ ⟨x,Xad (d:=none) (v:=undef) Xck ha rfl hun,hC.put1 hun (hC.f3 (by first|simpa using hall|simp [hall]) (Xao (by simp [hsz])) hl) (Xao (by simp [hsz])) (Xao (by simp [hsz])) (by decide) hrow (by rfl)⟩
  all_goals
   unfold Oper.wp
   first
   |(simp [go_sem,ev,evF,hall,Oper.upon,z3,c0,c1,c2,c3,c4,c5];exact hK _ _ ⟨x,Xaw Xck ha rfl hun,hC.pure (by decide)⟩)
   |(simp [go_sem,ev,evF,Oper.upon,z3,c0,c1,c2,c3,c4,c5];exact hK _ _ ⟨x,Xaw Xck ha rfl hun,hC.pure (by decide)⟩)
 ·rintro x s' a' w6 hup ha hC
  obtain ⟨wb,hbW,hFin,hgr,hrow⟩:=hC.on (hup 7 (by decide))
  simp only [ite_self] at hrow
  rw [Xbb _ _ _ _ (fun i hi=>by rw [Nat.zero_add];exact hup i (by simpa using hi))] at ha
  subst ha
  simp only [fillAll,Act.put,List.setIfInBounds_toArray,List.set_cons_succ,List.set_cons_zero]
  obtain ⟨xv,xb,o9,k9⟩:=x
  dsimp only at hFin hgr hrow ⊢
  have hw5:=hbW.size
  have hb6:Below wq.heap.size wq w6:=(hb5.trans (hbW.mono (by omega))).grown hgr (by omega) (fun k e=>by injection e with e;omega)
  have M6:=Qh (M.out.quiet hb6)
  have HO:=Qh (hFin.kept hgr (.inr (hFin.ne_lt hs5)))
  have hout:=M6.out.out
  obtain ⟨y0,y1,y2,y3⟩:=Xbh hrow
  clear hC hup hFin c0 c1 c2 c3 c4 c5 z0 z1 z2 z3
  go_wp2_with (refine Xaf rfl rfl 46 _ _ rfl (w.heap.size+2) 0 [.int .u32 ai,.int .i64 dt,.int .i64 sp,.slice o9 (L++ [s]).length k9] (arcV ai dt sp (.slice o9 (L++ [s]).length k9)) (by simp [Act.eval]) (by simp [Act.eval]) (by rfl) zeroA 46 hout (by simp) (by kernel_rfl) (by simp [Value.oneCell']) #[.int .u32 ai,.int .i64 dt,.int .i64 sp,.slice o9 (L++ [s]).length k9] (by rfl) ?_
               intro w9 hg9 hr9)
  refine bodyPost_ret (v:= .tuple #[arcV ai dt sp (.slice o9 (L++ [s]).length k9),.int .i64 0]) ?_ rfl ?_
  ·rw [results_cell_tmp rfl]
   simp [asAddr,run_loadVar_row w9 (w.heap.size+2) 46 46 _ (0,0) _ hr9 Tryz.underlying46 rfl Hi4.out]
  ·have hok9:=M6.out.at_.ok.grown hg9 (fun g e=>by injection e with e;subst e;exact hw.fresh (by omega))
   have hs6:=M.out.at_.size
   obtain ⟨J7,hx7,hok7,hr7,_⟩:=(HO.out.kept hg9 (.inr (HO.out.ne_lt (by omega)))).freeze hok9 (fun b hb=>M5.out.at_.ok.fresh hb)
   rw [Hn.out]
   exact ⟨_,J7,rfl,M6.out.at_.bel.grown hg9 M6.out.at_.size (fun k h=>by injection h with h;omega),hx7.mono (by omega),hok7,hr7⟩
structure WrB (J:IH) (w:World) (B:Nat) (d:Drf) (ve vk vt vh:Value):Prop where
 ok:Ok J w
 no:J B=none
 rd:DrRd J d ve vk vt vh
 row:w.heap[B]? =some (.cells #[.int .i64 d.num,.int .i64 d.date,S d.prev,ve,vk,.int .i64 d.sto.ses,S d.sto.str,vt,vh] 92)
theorem WrB.lt {J:IH} {w:World} {B:Nat} {d:Drf} {ve vk vt vh:Value} (h:WrB J w B d ve vk vt vh):B<w.heap.size:=(Array.getElem?_eq_some_iff.1 h.row).1
theorem WrB.below {J:IH} {w w':World} {B:Nat} {d:Drf} {ve vk vt vh:Value} (h:WrB J w B d ve vk vt vh) (hb:Below w.heap.size w w'):WrB J w' B d ve vk vt vh:=
 ⟨h.ok.below (Qn _) hb,h.no,h.rd,(hb.block _ h.lt).trans h.row⟩
set_option maxRecDepth 100000 in
set_option maxHeartbeats 2000000 in
theorem Xpp (v:Drf) (ve vk vt vh:Value) (w:World):
 Calls Tryz.prog 39 #[drV v ve vk vt vh] w fun e w'=>
  e= .returned (.tuple #[.func (.func 78) #[] #[.pointer (some ⟨w.heap.size,0,none⟩)],.func (.func 80) #[] #[.pointer (some ⟨w.heap.size,0,none⟩)]])∧w'=w.alloc (.cells #[.int .i64 v.num,.int .i64 v.date,S v.prev,ve,vk,.int .i64 v.sto.ses,S v.sto.str,vt,vh] 92):=by
 go_enter Tryz.func39,Tryz.ntmps39
 go_wp2_with fail
 go_ret2
 exact ⟨rfl,rfl⟩
set_option maxRecDepth 100000 in
set_option maxHeartbeats 2000000 in
theorem Xn7 (J:IH) (d:Drf) (ve vk vt vh:Value) (B:Nat) (w:World) (M:WrB J w B d ve vk vt vh):
 Calls Tryz.prog 80 #[.pointer (some ⟨B,0,none⟩)] w fun e w'=>e= .returned (drV d ve vk vt vh)∧Below w.heap.size w w':=by
 have Hi9:=Qh (show (Tryz.prog.info? 92).map (·.size)=some 9 by kernel_rfl)
 obtain ⟨eo,ec,rfl,_,_,_⟩:=id M.rd.ents
 obtain ⟨ko,kc,rfl,_,_,_⟩:=id M.rd.cks
 obtain ⟨tt,tc,rfl,_,_,_⟩:=id M.rd.tree
 obtain ⟨ho,hc',rfl,_,_,_⟩:=id M.rd.holds
 have hlt:=M.lt
 obtain ⟨W1,hW1⟩:∃W1,w.alloc (.cells zeroD 92)=W1:=⟨_,rfl⟩
 have hrow:W1.heap[B]? =some (.cells #[.int .i64 d.num,.int .i64 d.date,S d.prev,.slice eo d.ents.length ec,.slice ko d.sto.cks.length kc,.int .i64 d.sto.ses,S d.sto.str,.slice tt d.tree.length tc,.slice ho d.holds.length hc'] 92):=by rw [←hW1];exact (Below.heap_alloc _ _ _ hlt).trans M.row
 have hout:W1.heap[w.heap.size]? =some (.cells zeroD 92 (0,0)):=by rw [←hW1];exact heap_alloc_new _ _
 have hb1:Below w.heap.size w W1:=by rw [←hW1];exact (Qb _ _).alloc (Qn _) _
 obtain ⟨b0,b1,b2,b3,b4,b5,b6,b7,b8⟩:=drB_row (d:=d) hrow
 clear M
 go_enter Tryz.func80,Tryz.ntmps80
 go_wp2_with (refine Xaf rfl rfl 92 _ _ rfl w.heap.size 0 (drCs d (.slice eo d.ents.length ec) (.slice ko d.sto.cks.length kc) (.slice tt d.tree.length tc) (.slice ho d.holds.length hc')) (drV d (.slice eo d.ents.length ec) (.slice ko d.sto.cks.length kc) (.slice tt d.tree.length tc) (.slice ho d.holds.length hc')) (by simp [Act.eval]) (by simp [Act.eval]) (by rfl) zeroD 92 hout (by simp) (by kernel_rfl) (by simp [Value.oneCell']) (drCs d (.slice eo d.ents.length ec) (.slice ko d.sto.cks.length kc) (.slice tt d.tree.length tc) (.slice ho d.holds.length hc')).toArray (by rfl) ?_
              intro w9 hg9 hr9)
 exact bodyPost_ret (results_cell_row rfl _ _ w.heap.size _ _ (0,0) _ rfl hr9 Tryz.underlying92 rfl Hi9.out) rfl ⟨rfl,hb1.grown hg9 hb1.size (fun k e=>by injection e with e;omega)⟩
set_option maxRecDepth 100000 in
set_option maxHeartbeats 4000000 in
theorem Xn8 (J:IH) (hJ:Glob J) {n:Nat} (d:Drf) (hd:DrOk n d) (hn:n≤5000) (ve vk vt vh:Value) (c:Chg) (hc:c.Wf) (hca:c.attrs.length≤4398046511000) (va:Value) (hva:RdS tAt J va c.attrs) (B:Nat) (w:World) (M:WrB J w B d ve vk vt vh):
 Calls Tryz.prog 78 #[chgV c va,.pointer (some ⟨B,0,none⟩)] w fun e w'=>e= .returned (.int .i64 (addP d c).2)∧ ∃ve' vk' vt' vh' J',Ext w.heap.size J J'∧WrB J' w' B (addP d c).1 ve' vk' vt' vh'∧Below B w w':=by
 have Hadd:=Qh (fun W hW=>Xv9 J hJ d hd hn ve vk vt vh M.rd c hc hca va hva W hW)
 obtain ⟨dn,rn,hdn⟩:∃dn rn,addP d c=(dn,rn):=⟨_,_,rfl⟩
 rw [hdn] at Hadd ⊢
 dsimp only at Hadd ⊢
 have hlt:=M.lt
 obtain ⟨eo,ec,rfl,_,_,_⟩:=id M.rd.ents
 obtain ⟨ko,kc,rfl,_,_,_⟩:=id M.rd.cks
 obtain ⟨tt,tc,rfl,_,_,_⟩:=id M.rd.tree
 obtain ⟨ho,hc',rfl,_,_,_⟩:=id M.rd.holds
 obtain ⟨ao,ac,rfl,_,_,_⟩:=id hva
 obtain ⟨W1,hW1⟩:∃W1,w.alloc (.cells #[.int .i64 c.kind,S c.path,.slice ao c.attrs.length ac,S c.target,S c.content] 49)=W1:=⟨_,rfl⟩
 have hb1:Below w.heap.size w W1:=by rw [←hW1];exact (Qb _ _).alloc (Qn _) _
 have h1:=M.below hb1
 obtain ⟨b0,b1,b2,b3,b4,b5,b6,b7,b8⟩:=drB_row (d:=d) h1.row
 obtain ⟨g0,g1,g2,g3,g4⟩:=chgB_row (c:=c) (show W1.heap[w.heap.size]? =some (.cells #[.int .i64 c.kind,S c.path,.slice ao c.attrs.length ac,S c.target,S c.content] 49 (0,0)) by rw [←hW1];exact heap_alloc_new _ _)
 have H1:=Qh h1
 clear M h1 hva hdn hd hc hca
 go_enter Tryz.func78,Tryz.ntmps78
 go_wp2_with fail
 refine (Hadd.out W1 H1.out.ok).mono ?_
 rintro e2 w2 ⟨ve',vk',vt',vh',J2,rfl,hb2,hx2,hok2,hrd2⟩
 obtain ⟨eo2,ec2,rfl,_,_,_⟩:=id hrd2.ents
 obtain ⟨ko2,kc2,rfl,_,_,_⟩:=id hrd2.cks
 obtain ⟨tt2,tc2,rfl,_,_,_⟩:=id hrd2.tree
 obtain ⟨ho2,hc2,rfl,_,_,_⟩:=id hrd2.holds
 have hB1:=H1.out.lt
 have hsz1:=hb1.size
 have hsz2:=hb2.size
 have hno2:J2 B=none:=(hx2 _ hB1).trans H1.out.no
 have hfr2:J2 w2.heap.size=none:=hok2.fresh (Qn _)
 have hrow2:=(hb2.block _ hB1).trans H1.out.row
 have Hrd:=Qh hrd2
 have Hrow:=Qh hrow2
 clear b0 b1 b2 b3 b4 b5 b6 b7 b8 g0 g1 g2 g3 g4 Hadd hW1 hrd2 hrow2
 go_upto_region 2 with (refine Xaf rfl rfl 92 _ _ rfl w2.heap.size 0 (drCs dn (.slice eo2 dn.ents.length ec2) (.slice ko2 dn.sto.cks.length kc2) (.slice tt2 dn.tree.length tc2) (.slice ho2 dn.holds.length hc2)) (drV dn (.slice eo2 dn.ents.length ec2) (.slice ko2 dn.sto.cks.length kc2) (.slice tt2 dn.tree.length tc2) (.slice ho2 dn.holds.length hc2)) (by simp [Act.eval]) (by simp [Act.eval]) (by rfl) zeroD 92 (heap_alloc_new _ _) (by simp) (by kernel_rfl) (by simp [Value.oneCell']) (drCs dn (.slice eo2 dn.ents.length ec2) (.slice ko2 dn.sto.cks.length kc2) (.slice tt2 dn.tree.length tc2) (.slice ho2 dn.holds.length hc2)).toArray (by rfl) ?_
                        intro w3 hg3 hr3
                        obtain ⟨b0,b1,b2,b3,b4,b5,b6,b7,b8⟩:=drB_row (d:=dn) hr3)
 have hb3:Below w2.heap.size w2 w3:=((Qb _ _).alloc (Qn _) _).grown hg3 (by simp) (fun k e=>by injection e with e;omega)
 have hrow3:=(hb3.block B (by omega)).trans Hrow.out
 clear hg3 hr3
 go_wp2_with (refine Xaf rfl rfl 92 _ _ rfl B 0 (drCs dn (.slice eo2 dn.ents.length ec2) (.slice ko2 dn.sto.cks.length kc2) (.slice tt2 dn.tree.length tc2) (.slice ho2 dn.holds.length hc2)) (drV dn (.slice eo2 dn.ents.length ec2) (.slice ko2 dn.sto.cks.length kc2) (.slice tt2 dn.tree.length tc2) (.slice ho2 dn.holds.length hc2)) (by simp [Act.eval]) (by simp [Act.eval]) (by rfl) _ 92 hrow3 (by simp) (by kernel_rfl) (by simp [Value.oneCell']) (drCs dn (.slice eo2 dn.ents.length ec2) (.slice ko2 dn.sto.cks.length kc2) (.slice tt2 dn.tree.length tc2) (.slice ho2 dn.holds.length hc2)).toArray (by rfl) ?_
              intro w4 hg4 hr4)
 have hok3:=hok2.below (Qn _) hb3
 have hfin:=Qh (show ∃ve' vk' vt' vh' J',Ext w.heap.size J J'∧WrB J' w4 B dn ve' vk' vt' vh'∧Below B w w4 from ⟨_,_,_,_,J2,fun b hb=>hx2 b (by omega),⟨hok3.grown hg4 (fun g e=>by injection e with e;subst e;exact hno2),hno2,Hrd.out,hr4⟩,(((hb1.mono (by omega)).trans (hb2.mono (by omega))).trans (hb3.mono (by omega))).grown hg4 (by have:=hb3.size;omega) (fun k e=>by injection e with e;omega)⟩)
 go_ret
 exact ⟨rfl,hfin.out⟩
def RetWr (I:IH) (w:World) (ai dt sp:Int) (p:List Ses × Nat × Int) (e:Ending) (w':World):Prop:=
 ∃vs J,e= .returned (.tuple #[arcV ai dt sp vs,.int .i64 p.2.1,.int .i64 p.2.2])∧Below w.heap.size w w'∧Ext w.heap.size I J∧Ok J w'∧RdS tSes J vs p.1
theorem Xr3 {d0 d:Drf} {l:List Chg} {k:Nat} (hk:k<l.length) {c:Chg} (hc:l[k]=c) (h:addsP d0 0 l=addsP d k (l.drop k)):
 ((addP d c).2≠0→addsP d0 0 l=(d,k,(addP d c).2))∧((addP d c).2=0→addsP d0 0 l=addsP (addP d c).1 (k+1) (l.drop (k+1))):=by
 rw [List.drop_eq_getElem_cons hk,hc,addsP] at h
 exact ⟨fun h0=>by rw [h,if_pos h0],fun h0=>by rw [h,if_neg (by rw [h0];simp)]⟩
theorem Xt8 {d0 d:Drf} {l:List Chg} (h:addsP d0 0 l=addsP d l.length (l.drop l.length)):addsP d0 0 l=(d,l.length,0):=by
 rw [List.drop_length] at h
 exact h
theorem Xug {L:List Ses} {date:Int} (l:List Chg) (h:begErr L date≠0):wrtP L date l=(L,0,begErr L date):=by unfold wrtP;rw [if_pos h]
theorem Xuh {L:List Ses} {date:Int} {l:List Chg} {d:Drf} {k:Nat} {r:Int} (h:begErr L date=0) (h0:r≠0) (ha:addsP (openP L date) 0 l=(d,k,r)):wrtP L date l=(L,k,r):=by
 unfold wrtP
 rw [if_neg (by rw [h];simp),ha,if_pos h0]
theorem Xv6 {L:List Ses} {date:Int} {l:List Chg} {d:Drf} (h:begErr L date=0) (ha:addsP (openP L date) 0 l=(d,l.length,0)):wrtP L date l=(L++ [closeP d],l.length,0):=by
 unfold wrtP
 rw [if_neg (by rw [h];simp),ha,if_neg (by simp)]
theorem Xui {L:List Ses} {date:Int} {l:List Chg} {d:Drf} {n m:Nat} (hA:ArcOk n m L) (hn:n+l.length≤60000) (hm:m≤250) (hc:∀c∈l,c.content.length≤1000) (h:begErr L date=0) (ha:addsP (openP L date) 0 l=(d,l.length,0)):
 appP L (closeP d)=(L++ [closeP d],0):=by
 have h1:=Xjw (L:=L) (l:=l) (n:=n) (d:=openP L date) 0 (Xmg hA (by omega) (by omega) h) hn (Xql L h) hc
 rw [ha] at h1
 have hl:=hA.len
 unfold appP
 rw [Xwp (by omega) h1.2.1]
 rfl
theorem Xvx {L:List Ses} {date:Int} (h:begErr L date=0):begP L date=(openP L date,0):=by unfold begP;rw [if_neg (by rw [h];simp)]
theorem Xtx {L:List Ses} {date:Int} (h:begErr L date≠0):begP L date=(nilD,begErr L date):=by unfold begP;rw [if_pos h]
theorem ArM.wr {I:IH} {w0:World} {ai dt sp:Int} {vs:Value} {zr:Array Value} {ty:TypeId} {J J':IH} {W W':World} {B:Nat} (h:ArM I w0 ai dt sp vs (w0.heap.size+1) zr ty J W) (hb:Below B W W') (hB:w0.heap.size+1<B) (hB2:B≤W.heap.size) (hx:Ext W.heap.size J J') (hok:Ok J' W'):
 ArM I w0 ai dt sp vs (w0.heap.size+1) zr ty J' W':=
 ⟨⟨hok,fun b c hc=>hx.keep h.at_.ok (Qn _) b c (h.at_.keep b c hc),h.at_.bel.trans (hb.mono (by omega))⟩,h.ext.trans hx h.at_.size,(hx _ (by omega)).trans h.no1,
   (hb.cell (by show w0.heap.size<B;omega)).trans h.a0,(hb.cell (by show w0.heap.size<B;omega)).trans h.a1,(hb.cell (by show w0.heap.size<B;omega)).trans h.a2,(hb.cell (by show w0.heap.size<B;omega)).trans h.a3,
   (hb.block _ hB).trans h.out⟩
abbrev wrL (B:Nat) (ai dt sp:Int) (so:Option Addr) (sc:Nat) (L L2:List Ses) (d:Drf) (ve vk vt vh:Value) (x:(Option Addr × Nat) × (Option Addr × Nat) × Nat):List (Option Tmp × Value):=
 [(some 49,arcV ai dt sp (.slice so L.length sc)),(some 50,.func (.func 80) #[] #[.pointer (some ⟨B,0,none⟩)]),(some 51,drV d ve vk vt vh),(some 52,sesV (closeP d) (.slice x.1.1 (closeP d).ents.length x.1.2)),(some 53,.tuple #[arcV ai dt sp (.slice x.2.1.1 L2.length x.2.1.2),.int .i64 0]),(some 48,.tuple #[arcV ai dt sp (.slice x.2.1.1 L2.length x.2.1.2),.int .i64 0]),(some 54,arcV ai dt sp (.slice x.2.1.1 L2.length x.2.1.2)),(some 55,.int .i64 0),(some 16,.pointer (some ⟨x.2.2,0,none⟩)),(none,undef),(some 10,.int .i64 0)]
theorem Xb2 {B:Nat} {ai dt sp:Int} {so:Option Addr} {sc:Nat} {L L2:List Ses} {d:Drf} {ve vk vt vh:Value} {x:(Option Addr × Nat) × (Option Addr × Nat) × Nat}:ApartF (wrL B ai dt sp so sc L L2 d ve vk vt vh x):=by
 unfold ApartF
 simp
set_option maxRecDepth 100000 in
set_option maxHeartbeats 8000000 in
theorem Xsi (I:IH) (hI:Glob I) (ai dt sp:Int) {n m:Nat} (L:List Ses) (h:ArcOk n m L) (l:List Chg) (hn:n+l.length≤5000) (hm:m≤250) (vs:Value) (hvs:RdS tSes I vs L) (date:Int) (vc:Value) (hvc:RdS tChg I vc l) (hc:∀c∈l,c.Wf∧c.attrs.length≤4398046511000∧c.content.length≤1000) (w:World) (hw:Ok I w):
 Calls Tryz.prog 14 #[arcV ai dt sp vs,.int .i64 date,vc] w (RetWr I w ai dt sp (wrtP L date l)):=by
 have hlen:=h.len
 have HA:=Qh h
 have HG:=Qh hI
 have Hvs:=Qh hvs
 have Hvc:=Qh hvc
 have Hc:=Qh hc
 have hcl:=hvc.len_le
 have Hbg:=Qh (fun w hw=>Xsk I hI ai dt sp L h (by omega) hm vs hvs date w hw)
 have Hi4:=Qh (show (Tryz.prog.info? 46).map (·.size)=some 4 by kernel_rfl)
 obtain ⟨so,sc,rfl,_,_,_⟩:=id hvs
 obtain ⟨co,cc,rfl,_,_,_⟩:=id hvc
 have M:=Qh (Xlw hw ai dt sp (.slice so L.length sc) zeroA 46)
 clear h hI hvs hvc hc
 obtain ⟨W2,hW2⟩:∃W2,((w.alloc (.cells #[.int .u32 ai,.int .i64 dt,.int .i64 sp,.slice so L.length sc] 46)).alloc (.cells zeroA 46))=W2:=⟨_,rfl⟩
 rw [hW2] at M
 obtain ⟨z0,z1,z2,z3⟩:=(⟨M.out.a0,M.out.a1,M.out.a2,M.out.a3⟩:_∧_∧_∧_)
 go_enter Tryz.func14,Tryz.ntmps14
 go_wp2_with fail
 clear hW2
 refine (Hbg.out W2 M.out.at_.ok).mono ?_
 rintro e1 w1 ⟨ve,vk,vt,vh,J1,rfl,hb1,hx1,hok1,hrd⟩
 obtain ⟨ae,ce,rfl,_,_,_⟩:=id hrd.ents
 obtain ⟨ak,ck,rfl,_,_,_⟩:=id hrd.cks
 obtain ⟨at',ct,rfl,_,_,_⟩:=id hrd.tree
 obtain ⟨ah,ch,rfl,_,_,_⟩:=id hrd.holds
 have M1:=Qh (M.out.thru hb1 hx1 hok1)
 have Hrd:=Qh hrd
 obtain ⟨dB,eB,hdB⟩:∃dB eB,begP L date=(dB,eB):=⟨_,_,rfl⟩
 rw [hdB] at Hrd ⊢
 dsimp only at Hrd ⊢
 have hJ7:J1 w1.heap.size=none:=hok1.fresh (Qn _)
 have hm1:=M1.out.lt
 have Hdb:=Qh hdB
 clear hrd hb1 hx1 hok1 M z0 z1 z2 z3 Hbg hdB
 go_upto_region 2 with (
                        refine Xaf rfl rfl 92 _ _ rfl w1.heap.size 0 (drCs dB (.slice ae dB.ents.length ce) (.slice ak dB.sto.cks.length ck) (.slice at' dB.tree.length ct) (.slice ah dB.holds.length ch)) (drV dB (.slice ae dB.ents.length ce) (.slice ak dB.sto.cks.length ck) (.slice at' dB.tree.length ct) (.slice ah dB.holds.length ch)) (by simp [Act.eval]) (by simp [Act.eval]) (by rfl) zeroD 92 (heap_alloc_new _ _) (by simp) (by kernel_rfl) (by simp [Value.oneCell']) (drCs dB (.slice ae dB.ents.length ce) (.slice ak dB.sto.cks.length ck) (.slice at' dB.tree.length ct) (.slice ah dB.holds.length ch)).toArray (by rfl) ?_
                        intro w2 hg2 hr2)
 have hb2:Below w1.heap.size w1 w2:=((Qb _ _).alloc (Qn _) _).grown hg2 (by simp) (fun k e=>by injection e with e;omega)
 have M2:=Qh (M1.out.quiet hb2)
 have hs2:=(Array.getElem?_eq_some_iff.1 hr2).1
 by_cases q:begErr L date=0
 case neg=>
  obtain ⟨rfl,rfl⟩:=Prod.mk.inj (Hdb.out.symm.trans (Xtx q))
  have Hn:=Qh (Xug l q)
  have i1:(begErr L date != 0)=true:=by simpa using q
  have i1b:(begErr L date==0)=false:=by simpa using q
  have i1c:decide (begErr L date=0)=false:=Qf q
  clear q hr2 hg2 hb2 M1 Hrd Hdb
  obtain ⟨z0,z1,z2,z3⟩:=(⟨M2.out.a0,M2.out.a1,M2.out.a2,M2.out.a3⟩:_∧_∧_∧_)
  have hout:=M2.out.out
  go_wp2_with (refine Xaf rfl rfl 46 _ _ rfl (w.heap.size+1) 0 [.int .u32 ai,.int .i64 dt,.int .i64 sp,.slice so L.length sc] (arcV ai dt sp (.slice so L.length sc)) (by simp [Act.eval]) (by simp [Act.eval]) (by rfl) zeroA 46 hout (by simp) (by kernel_rfl) (by simp [Value.oneCell']) #[.int .u32 ai,.int .i64 dt,.int .i64 sp,.slice so L.length sc] (by rfl) ?_
               intro w9 hg9 hr9)
  refine bodyPost_ret (v:= .tuple #[arcV ai dt sp (.slice so L.length sc),.int .i64 0,.int .i64 (begErr L date)]) ?_ rfl ?_
  ·rw [Xa3 rfl]
   simp [asAddr,run_loadVar_row w9 (w.heap.size+1) 46 46 _ (0,0) _ hr9 Tryz.underlying46 rfl Hi4.out]
  ·rw [Hn.out]
   exact ⟨_,_,rfl,M2.out.at_.bel.grown hg9 M2.out.at_.size (fun k e=>by injection e with e;omega),M2.out.ext,M2.out.at_.ok.grown hg9 (fun g e=>by injection e with e;subst e;exact M2.out.no1),Hvs.out.mono M2.out.at_.keep⟩
 case pos=>
  obtain ⟨e1,rfl⟩:=Prod.mk.inj (Hdb.out.symm.trans (Xvx q))
  have He:=Qh e1
  have Hq:=Qh q
  obtain ⟨b0,b1,b2,b3,b4,b5,b6,b7,b8⟩:=drB_row (d:=dB) hr2
  clear q e1 hg2 hb2 M1 Hdb
  go_wp2_with fail
  refine (Xpp dB _ _ _ _ w2).mono ?_
  rintro e3 w3 ⟨rfl,hw3⟩
  have hb3:Below w2.heap.size w2 w3:=by rw [hw3];exact (Qb _ _).alloc (Qn _) _
  have M3:=Qh (M2.out.quiet hb3)
  have WR3:=Qh (show WrB J1 w3 w2.heap.size dB _ _ _ _ from ⟨M3.out.at_.ok,M2.out.at_.ok.fresh (Qn _),Hrd.out,by rw [hw3];exact heap_alloc_new _ _⟩)
  have HdO:=Qh (show DrOk (n+0) dB by rw [He.out];exact Xmg HA.out (by omega) (by omega) Hq.out)
  have hBl:w.heap.size+1<w2.heap.size:=by omega
  have Had:=Qh (show addsP dB 0 l=addsP dB 0 (l.drop 0) from rfl)
  clear b0 b1 b2 b3 b4 b5 b6 b7 b8 hr2 hb3 hw3 M2 Hrd hJ7
  generalize w2.heap.size=B at WR3 hBl ⊢
  go_wp2_with fail
  go_loopw [13,14,15,34] (fun _ _ _ s34 wr=> ∃(k:Nat) (J:IH) (d:Drf) (ve vk vt vh:Value),k≤l.length∧s34= .int .i64 k∧ArM I w ai dt sp (.slice so L.length sc) (w.heap.size+1) zeroA 46 J wr∧WrB J wr B d ve vk vt vh∧DrOk (n+k) d∧addsP dB 0 l=addsP d k (l.drop k)) (fun _ _ _ i _=>l.length-(intOf i).toNat)
  case atStart=>exact ⟨0,J1,dB,_,_,_,_,Nat.zero_le _,rfl,M3.out,WR3.out,HdO.out,Had.out⟩
  case round=>
   clear M3 WR3 HdO Had
   obtain ⟨k,J,d,ve,vk,vt,vh,hk,rfl,hM,hWR,hdO,had⟩:=hrel
   have M:=Qh hM
   have WR:=Qh hWR
   have HdO:=Qh hdO
   have Had:=Qh had
   clear hM hWR hdO had
   by_cases hlt:k<l.length
   ·obtain ⟨c,va,b,off,cap',hlc,hvv,⟨c0,c1,c2,c3,c4⟩,hva⟩:=Xwk (Hvc.out.mono M.out.at_.keep) M.out.at_.ok k hlt
    cases hvv
    have hcm:=Hc.out c (by rw [←hlc];exact List.getElem_mem hlt)
    have Hst:=Xr3 hlt hlc Had.out
    have hdo:=Xue HdO.out (by omega) (show c.content.length≤65536 by omega)
    have Hw1:=(fun W (hW:WrB J W B d ve vk vt vh)=>Xn8 J (HG.out.mono M.out.at_.keep) d HdO.out (by omega) ve vk vt vh c hcm.1 hcm.2.1 _ hva B W hW)
    obtain ⟨dn,rn,hdn⟩:∃dn rn,addP d c=(dn,rn):=⟨_,_,rfl⟩
    rw [hdn] at Hst hdo Hw1
    dsimp only at Hst hdo Hw1
    replace Hst:=Qh Hst
    replace hdo:=Qh (show DrOk (n+(k+1)) dn from hdo)
    replace Hw1:=Qh Hw1
    obtain ⟨oa,ca,rfl,_,_,_⟩:=id hva
    have Ma:=Qh (M.out.quiet ((Qb _ _).alloc (Qn _) (.cells #[.int .i64 c.kind,S c.path,.slice oa c.attrs.length ca,S c.target,S c.content] 49)))
    have WRa:=Qh (WR.out.below ((Qb _ _).alloc (Qn _) (.cells #[.int .i64 c.kind,S c.path,.slice oa c.attrs.length ca,S c.target,S c.content] 49)))
    clear hcm hlc hva hdn M WR Had HdO
    go_wp2_with fail
    refine (Hw1.out _ WRa.out).mono ?_
    rintro e5 w5 ⟨rfl,ve',vk',vt',vh',J5,hx5,hWR5,hb5⟩
    have M5:=Qh (Ma.out.wr hb5 hBl (by have:=WRa.out.lt;omega) hx5 hWR5.ok)
    have WR5:=Qh hWR5
    clear hx5 hWR5 hb5 Ma WRa Hw1 c0 c1 c2 c3 c4
    by_cases h0:rn=0
    ·have Had5:=Qh (Hst.out.2 h0)
     subst h0
     clear Hst
     go_wp2_with fail
     go_roundw
     case rel=>exact ⟨k+1,J5,dn,_,_,_,_,by omega,by go_num,M5.out,WR5.out,hdo.out,Had5.out⟩
     case measure=>simp [intOf];omega
    ·have Hn:=Qh (Xuh Hq.out h0 (by rw [←He.out];exact Hst.out.1 h0):wrtP L date l=(L,k,rn))
     have i1:(rn != 0)=true:=by simpa using h0
     have i1b:(rn==0)=false:=by simpa using h0
     have i1c:decide (rn=0)=false:=Qf h0
     clear h0 Hst
     obtain ⟨z0,z1,z2,z3⟩:=(⟨M5.out.a0,M5.out.a1,M5.out.a2,M5.out.a3⟩:_∧_∧_∧_)
     have hout:=M5.out.out
     go_wp2_with (refine Xaf rfl rfl 46 _ _ rfl (w.heap.size+1) 0 [.int .u32 ai,.int .i64 dt,.int .i64 sp,.slice so L.length sc] (arcV ai dt sp (.slice so L.length sc)) (by simp [Act.eval]) (by simp [Act.eval]) (by rfl) zeroA 46 hout (by simp) (by kernel_rfl) (by simp [Value.oneCell']) #[.int .u32 ai,.int .i64 dt,.int .i64 sp,.slice so L.length sc] (by rfl) ?_
                  intro w9 hg9 hr9)
     refine bodyPost_ret (v:= .tuple #[arcV ai dt sp (.slice so L.length sc),.int .i64 (k:Int),.int .i64 rn]) ?_ rfl ?_
     ·rw [Xa3 rfl]
      simp [asAddr,run_loadVar_row w9 (w.heap.size+1) 46 46 _ (0,0) _ hr9 Tryz.underlying46 rfl Hi4.out]
     ·rw [Hn.out]
      exact ⟨_,_,rfl,M5.out.at_.bel.grown hg9 M5.out.at_.size (fun k e=>by injection e with e;omega),M5.out.ext,M5.out.at_.ok.grown hg9 (fun g e=>by injection e with e;subst e;exact M5.out.no1),Hvs.out.mono M5.out.at_.keep⟩
   ·have hke:k=l.length:=by omega
    subst hke
    have Had5:=Qh (Xt8 Had.out)
    have Happ:=Qh (Xui HA.out (by omega) hm (fun c hc=>(Hc.out c hc).2.2) Hq.out (by rw [←He.out];exact Had5.out))
    have Hn:=Qh (Xv6 Hq.out (by rw [←He.out];exact Had5.out):wrtP L date l=(L++ [closeP d],l.length,0))
    have Hap:=Qh (fun J6 (hk6:∀b c,J b=some c→J6 b=some c) ve6 (hr6:RdS tEnt J6 ve6 (closeP d).ents) w' hok6=>by
     have h9:=Xpt J6 (HG.out.mono (fun b c hb=>hk6 b c (M.out.at_.keep b c hb))) ai dt sp L HA.out (by omega) hm _ (Hvs.out.mono (fun b c hb=>hk6 b c (M.out.at_.keep b c hb))) (closeP d) ve6 hr6 w' hok6
     rw [Happ.out] at h9
     exact h9)
    obtain ⟨L2,hL2⟩:∃L2,L++ [closeP d]=L2:=⟨_,rfl⟩
    dsimp only at Hap
    rw [hL2] at Hap Hn
    clear hL2 Happ
    have hel:=HdO.out.ents
    obtain ⟨ae,ce,rfl,_,_,_⟩:=id WR.out.rd.ents
    obtain ⟨ak,ck,rfl,_,_,_⟩:=id WR.out.rd.cks
    obtain ⟨at',ct,rfl,_,_,_⟩:=id WR.out.rd.tree
    obtain ⟨ah,ch,rfl,_,_,_⟩:=id WR.out.rd.holds
    obtain ⟨z0,z1,z2,z3⟩:=(⟨M.out.a0,M.out.a1,M.out.a2,M.out.a3⟩:_∧_∧_∧_)
    clear Had HdO Had5
    go_wp2_with fail
    refine Xak (X:=(Option Addr × Nat) × (Option Addr × Nat) × Nat) (wrL B ai dt sp so sc L L2 d (.slice ae d.ents.length ce) (.slice ak d.sto.cks.length ck) (.slice at' d.tree.length ct) (.slice ah d.holds.length ch)) (RgE wr 3 232 4 233 8 234 225 235 (fun x w=>x.2.2<w.heap.size∧J x.2.2=none) (fun x w=> ∃J',Ext wr.heap.size J J'∧Ok J' w∧RdS tEnt J' (.slice x.1.1 (closeP d).ents.length x.1.2) (closeP d).ents∧J' x.2.2=none) (fun x w=> ∃J',Ext wr.heap.size J J'∧Ok J' w∧RdS tSes J' (.slice x.2.1.1 L2.length x.2.1.2) L2∧J' x.2.2=none) (fun x w=>w.heap[x.2.2]? =some (.cells zeroA 46 (0,0))∧wr.heap.size≤x.2.2) (fun _ _=>True) (fun x w=>(∃J',Ext wr.heap.size J J'∧Ok J' w∧RdS tSes J' (.slice x.2.1.1 L2.length x.2.1.2) L2∧J' x.2.2=none)∧(w.heap[x.2.2]? =some (.cells zeroA 46 (0,0))∧wr.heap.size≤x.2.2)) (fun x=>x.2.2) 46 9 212 213 (fun x=> #[.int .u32 ai,.int .i64 dt,.int .i64 sp,.slice x.2.1.1 L2.length x.2.1.2]) (fun x=> #[.int .u32 ai,.int .i64 dt,.int .i64 sp,.slice x.2.1.1 L2.length x.2.1.2]) (fun x=> #[.int .u32 ai,.int .i64 dt,.int .i64 sp,.slice x.2.1.1 L2.length x.2.1.2])) (by kernel_rfl) (by kernel_rfl) ?_ ?_ ?_
    ·exact ⟨(default,default,w.heap.size+1),RgE.start _ _ ⟨M.out.lt,M.out.no1⟩⟩
    ·rintro x s' a' w' i hsz hcl ha hC hi
     obtain ⟨hun,oi,hoi,hall⟩:=mem_ready.1 hi
     have ev:=Xfu Xb2 ha
     have hlt:=Xdh hun
     rcases i with _|_|_|_|_|_|_|_|_|_|_|i
     rotate_left 11
     ·simp at hoi
     all_goals
      have hoj:=hoi
      simp at hoi
      subst hoi
      simp [Region.binds] at hall
      try have hl:=Xay 6 9 hcl (by decide +kernel) hun
      try have hbw:=hC.off hl
      try have z0:=Xaa hbw z0
      try have z1:=Xaa hbw z1
      try have z2:=Xaa hbw z2
      try have z3:=Xaa hbw z3
      refine wpOp_step hoj (fun K' hK=> ?_)
      rw [if_pos (by rfl)]
     rotate_left 2
     ·unfold Oper.wp
      simp [go_sem,ev,evF,hall,Oper.upon]
      refine (Xn7 J d _ _ _ _ B w' (WR.out.below hbw)).mono ?_
      rintro r4 w4 ⟨rfl,hb4⟩
      exact hK _ _ ⟨x,Xaw Xb2 ha rfl hun,hC.step hl (hbw.trans (hb4.mono hbw.size)) (by decide) (fun h=>⟨Nat.lt_of_lt_of_le h.1 hb4.size,h.2⟩) (fun h _=>h.elim (fun e=>absurd e (by decide)) (fun ⟨_,_,q⟩=>(q.elim fun J9 h9=>⟨J9,h9.1,h9.2.1.below (Qn _) hb4,h9.2.2⟩))) (fun h _=>h.elim (fun e=>absurd e (by decide)) (fun ⟨_,_,q⟩=>(q.elim fun J9 h9=>⟨J9,h9.1,h9.2.1.below (Qn _) hb4,h9.2.2⟩))) (fun h _=>h.elim (fun e=>absurd e (by decide)) (fun ⟨_,_,q⟩=>⟨(hb4.block _ (Array.getElem?_eq_some_iff.1 q.1).1).trans q.1,q.2⟩)) (fun _ _=>trivial) hlt⟩
     ·unfold Oper.wp
      simp [go_sem,ev,evF,hall,Oper.upon]
      refine (Xsj J d (by omega) _ _ _ _ WR.out.rd.ents w' (M.out.at_.ok.below (Qn _) hbw)).mono ?_
      rintro r4 w4 ⟨v7,J7,rfl,hb4,hx7,hok7,hr7⟩
      obtain ⟨a7,k7,rfl,_,_,_⟩:=id hr7
      have ha:=ha.trans (Xa6 (L:=wrL B ai dt sp so sc L L2 d (.slice ae d.ents.length ce) (.slice ak d.sto.cks.length ck) (.slice at' d.tree.length ct) (.slice ah d.holds.length ch) x) (M:=wrL B ai dt sp so sc L L2 d (.slice ae d.ents.length ce) (.slice ak d.sto.cks.length ck) (.slice at' d.tree.length ct) (.slice ah d.holds.length ch) ((a7,k7),x.2)) [3] rfl (fun j hne=>by
       rcases j with _|_|_|_|_|_|_|_|_|_|_|j<;>first|rfl|(exact absurd (by decide) hne)|simp) (List.forall_mem_cons.2 ⟨Xan hun,List.forall_mem_nil _⟩))
      exact hK _ _ ⟨((a7,k7),x.2),Xaw Xb2 ha rfl hun,hC.step hl (hbw.trans (hb4.mono hbw.size)) (by decide) (fun h=>⟨Nat.lt_of_lt_of_le h.1 hb4.size,h.2⟩) (fun _ _=>⟨J7,fun b hb=>hx7 b (Nat.lt_of_lt_of_le hb hbw.size),hok7,hr7,(hx7 _ (hC.inv hl).1).trans (hC.inv hl).2⟩) (fun h _=>h.elim (fun e=>absurd e (by decide)) (fun ⟨_,_,q⟩=>(q.elim fun J9 h9=>⟨J9,h9.1,h9.2.1.below (Qn _) hb4,h9.2.2⟩))) (fun h _=>h.elim (fun e=>absurd e (by decide)) (fun ⟨_,_,q⟩=>⟨(hb4.block _ (Array.getElem?_eq_some_iff.1 q.1).1).trans q.1,q.2⟩)) (fun _ _=>trivial) hlt⟩
     ·obtain ⟨J6,hx6,hok6,hr6,hn6⟩:=hC.f1 (by first|simpa using hall|simp [hall]) (Xao (by simp [hsz])) hl
      unfold Oper.wp
      simp [go_sem,ev,evF,hall,Oper.upon]
      refine (Hap.out J6 (fun b c hb=>hx6.keep M.out.at_.ok (Qn _) b c hb) _ hr6 w' hok6).mono ?_
      rintro r4 w4 ⟨v7,J7,rfl,hb4,hx7,hok7,hr7⟩
      obtain ⟨a7,k7,rfl,_,_,_⟩:=id hr7
      have ha:=ha.trans (Xa6 (L:=wrL B ai dt sp so sc L L2 d (.slice ae d.ents.length ce) (.slice ak d.sto.cks.length ck) (.slice at' d.tree.length ct) (.slice ah d.holds.length ch) x) (M:=wrL B ai dt sp so sc L L2 d (.slice ae d.ents.length ce) (.slice ak d.sto.cks.length ck) (.slice at' d.tree.length ct) (.slice ah d.holds.length ch) (x.1,(a7,k7),x.2.2)) [4,5,6,9] rfl (fun j hne=>by
       rcases j with _|_|_|_|_|_|_|_|_|_|_|j<;>first|rfl|(exact absurd (by decide) hne)|simp) (List.forall_mem_cons.2 ⟨Xan hun,List.forall_mem_cons.2 ⟨Xay 6 5 hcl (by kernel_rfl) hun,List.forall_mem_cons.2 ⟨Xay 6 6 hcl (by kernel_rfl) hun,List.forall_mem_cons.2 ⟨Xay 6 9 hcl (by kernel_rfl) hun,List.forall_mem_nil _⟩⟩⟩⟩))
      exact hK _ _ ⟨(x.1,(a7,k7),x.2.2),Xaw Xb2 ha rfl hun,hC.step hl (hbw.trans (hb4.mono hbw.size)) (by decide) (fun h=>⟨Nat.lt_of_lt_of_le h.1 hb4.size,h.2⟩) (fun h _=>h.elim (fun e=>absurd e (by decide)) (fun ⟨_,_,q⟩=>(q.elim fun J9 h9=>⟨J9,h9.1,h9.2.1.below (Qn _) hb4,h9.2.2⟩))) (fun _ _=>⟨J7,fun b hb=>(hx7 b (Nat.lt_of_lt_of_le hb hbw.size)).trans (hx6 b hb),hok7,hr7,(hx7 _ (hC.inv hl).1).trans hn6⟩) (fun h _=>h.elim (fun e=>absurd e (by decide)) (fun ⟨_,_,q⟩=>⟨(hb4.block _ (Array.getElem?_eq_some_iff.1 q.1).1).trans q.1,q.2⟩)) (fun _ _=>trivial) hlt⟩
     rotate_left 3
     ·unfold Oper.wp
      simp [go_sem,ev,evF,hall,Oper.upon,z0,z1,z2,z3]
      have ha:=ha.trans (Xa6 (L:=wrL B ai dt sp so sc L L2 d (.slice ae d.ents.length ce) (.slice ak d.sto.cks.length ck) (.slice at' d.tree.length ct) (.slice ah d.holds.length ch) x) (M:=wrL B ai dt sp so sc L L2 d (.slice ae d.ents.length ce) (.slice ak d.sto.cks.length ck) (.slice at' d.tree.length ct) (.slice ah d.holds.length ch) (x.1,x.2.1,w'.heap.size)) [8] rfl (fun j hne=>by
       rcases j with _|_|_|_|_|_|_|_|_|_|_|j<;>first|rfl|(exact absurd (by decide) hne)|simp) (List.forall_mem_cons.2 ⟨Xan hun,List.forall_mem_nil _⟩))
      exact hK _ _ ⟨(x.1,x.2.1,w'.heap.size),Xaw Xb2 ha rfl hun,hC.step hl (hbw.trans (((Qb _ _).alloc (Qn _) _).mono hbw.size)) (by decide) (fun _=>⟨by simp,M.out.at_.ok.fresh hbw.size⟩) (fun h _=>h.elim (fun e=>absurd e (by decide)) (fun ⟨_,_,q⟩=>(q.elim fun J9 h9=>⟨J9,h9.1,h9.2.1.below (Qn _) ((Qb w'.heap.size w').alloc (Qn _) (.cells zeroA 46)),h9.2.2.1,h9.2.1.fresh (Qn _)⟩))) (fun h _=>h.elim (fun e=>absurd e (by decide)) (fun ⟨_,_,q⟩=>(q.elim fun J9 h9=>⟨J9,h9.1,h9.2.1.below (Qn _) ((Qb w'.heap.size w').alloc (Qn _) (.cells zeroA 46)),h9.2.2.1,h9.2.1.fresh (Qn _)⟩))) (fun _ _=>⟨heap_alloc_new _ _,hbw.size⟩) (fun _ _=>trivial) hlt⟩
     ·have hrow:w'.heap[x.2.2]? =some (.cells _ 46 (0,0)):=(hC.f3 (by first|simpa using hall|simp [hall]) (Xao (by simp [hsz])) hl).1
      refine Xai 46 _ _ rfl (x.2.2) 0 [.int .u32 ai,.int .i64 dt,.int .i64 sp,.slice x.2.1.1 L2.length x.2.1.2] (arcV ai dt sp (.slice x.2.1.1 L2.length x.2.1.2)) (by simp [Act.eval,ev,evF,hall]) (by simp [Act.eval,ev,evF,hall]) (by rfl) _ _ hrow (by simp) (by kernel_rfl) (by simp [Value.oneCell']) ?_
      exact hK _ _ ⟨x,Xad (d:=none) (v:=undef) Xb2 ha rfl hun,hC.put1 hun ⟨hC.f2 (by first|simpa using hall|simp [hall]) (Xao (by simp [hsz])) hl,hC.f3 (by first|simpa using hall|simp [hall]) (Xao (by simp [hsz])) hl⟩ (Xao (by simp [hsz])) (Xao (by simp [hsz])) (by decide) hrow (by rfl)⟩
     all_goals
      unfold Oper.wp
      first
      |(simp [go_sem,ev,evF,hall,Oper.upon,z0,z1,z2,z3];exact hK _ _ ⟨x,Xaw Xb2 ha rfl hun,hC.pure (by decide)⟩)
      |(simp [go_sem,ev,evF,Oper.upon,z0,z1,z2,z3];exact hK _ _ ⟨x,Xaw Xb2 ha rfl hun,hC.pure (by decide)⟩)
    ·rintro x s' a' w6 hup ha hC
     obtain ⟨wb,hbW,hFin,hgr,hrow⟩:=hC.on (hup 9 (by decide))
     simp only [ite_self] at hrow
     rw [Xbb _ _ _ _ (fun i hi=>by rw [Nat.zero_add];exact hup i (by simpa using hi))] at ha
     subst ha
     simp only [fillAll,Act.put,List.setIfInBounds_toArray,List.set_cons_succ,List.set_cons_zero]
     obtain ⟨⟨ac1,kc1⟩,⟨as1,ks⟩,bx⟩:=x
     dsimp only at hFin hgr hrow ⊢
     obtain ⟨⟨J9,hx9,hok9,hr9,hn9⟩,hbox,hbl⟩:=hFin
     have hsz:=M.out.at_.size
     have hlt1:=M.out.lt
     have hsW:=hbW.size
     have hsg:=hgr.size
     have hout:=(hgr.block _ (by omega:w.heap.size+1<wb.heap.size) (fun e=>by injection e with e;omega)).trans ((hbW.block _ M.out.lt).trans M.out.out)
     obtain ⟨y0,y1,y2,y3⟩:=Xbh hrow
     have Hb6:=Qh (show Below w.heap.size w w6 from (M.out.at_.bel.trans (hbW.mono hsz)).grown hgr (by omega) (fun k e=>by injection e with e;omega))
     have Hok6:=Qh (hok9.grown hgr (fun g e=>by injection e with e;subst e;exact hn9))
     have Hr9:=Qh hr9
     have Hx9:=Qh (M.out.ext.trans hx9 hsz)
     have hno9:=Qh ((hx9 _ M.out.lt).trans M.out.no1)
     clear hr9 hx9 hok9 hbox hrow z0 z1 z2 z3
     go_wp2_with (refine Xaf rfl rfl 46 _ _ rfl (w.heap.size+1) 0 [.int .u32 ai,.int .i64 dt,.int .i64 sp,.slice as1 L2.length ks] (arcV ai dt sp (.slice as1 L2.length ks)) (by simp [Act.eval]) (by simp [Act.eval]) (by rfl) zeroA 46 hout (by simp) (by kernel_rfl) (by simp [Value.oneCell']) #[.int .u32 ai,.int .i64 dt,.int .i64 sp,.slice as1 L2.length ks] (by rfl) ?_
                  intro w9 hg9 hr9)
     refine bodyPost_ret (v:= .tuple #[arcV ai dt sp (.slice as1 L2.length ks),.int .i64 (l.length:Int),.int .i64 0]) ?_ rfl ?_
     ·rw [Xa3 rfl]
      simp [asAddr,run_loadVar_row w9 (w.heap.size+1) 46 46 _ (0,0) _ hr9 Tryz.underlying46 rfl Hi4.out]
     ·rw [Hn.out]
      exact ⟨_,J9,rfl,Hb6.out.grown hg9 Hb6.out.size (fun k e=>by injection e with e;omega),Hx9.out,Hok6.out.grown hg9 (fun g e=>by injection e with e;subst e;exact hno9.out),Hr9.out⟩
structure RgF {X:Type} (W:World) (j1 j2 j3 j4:Nat) (G1 G2 G3 G4:X→World→Prop) (x:X) (s:Array Bool) (w:World):Prop where
 off:Below W.heap.size W w
 f1:s.getD j1 false=true→G1 x w
 f2:s.getD j2 false=true→G2 x w
 f3:s.getD j3 false=true→G3 x w
 f4:s.getD j4 false=true→G4 x w
section
variable {X:Type} {W w w':World} {j1 j2 j3 j4:Nat} {G1 G2 G3 G4:X→World→Prop} {x:X} {s:Array Bool} {i:Nat}
end
structure Pt2 (W:World) (m1 m2:Nat) (R1 R2:Array Value) (s:Array Bool) (w:World):Prop where
 eq:w=if s.getD 3 false=true then (({ W with drawn:=W.drawn+1 }:World).setRow m1 R1).setRow m2 R2 else if s.getD 2 false=true then ({ W with drawn:=W.drawn+1 }:World).setRow m1 R1 else { W with drawn:=W.drawn+1 }
section
variable {W w:World} {m1 m2:Nat} {R1 R2:Array Value} {s:Array Bool} {i:Nat}
end
theorem MAt.own {I J:IH} {w0 W W':World} (h:MAt I w0 J W) {g:Nat} (hg:W.grownBy W' (some g)) (hn:J g=none) (hl:w0.heap.size≤g):MAt I w0 J W':=
 ⟨h.ok.grown hg (fun k e=>by injection e with e;subst e;exact hn),h.keep,h.bel.grown hg h.size (fun k e=>by injection e with e;omega)⟩
end Go.Proofs.YtkipnpjagcfcpaaGreatDoor
namespace Go.Proofs.YtkipnpjagcfcpaaGreatDoor
def abcB:Bytes:= [97,98,99]
def cA:Chg:=⟨1,[97],[],[],abcB⟩
def xC:Xt:=⟨1,0,3⟩
def yC:Ent:=⟨1,[97],[],[],3,sumP abcB,[xC]⟩
def sC:Ses:=⟨1,5,[],[yC],abcB,[]⟩
end Go.Proofs.YtkipnpjagcfcpaaGreatDoor
namespace Go.Proofs.YtkipnpjagcfcpaaGreatDoor
open Go.RowKit
structure ArB (J:IH) (w:World) (B:Nat) (ai dt sp:Int) (vs:Value) (L:List Ses):Prop where
 no:J B=none
 rd:RdS tSes J vs L
 row:w.heap[B]? =some (.cells #[.int .u32 ai,.int .i64 dt,.int .i64 sp,vs] 46 (0,0))
section
variable {I J J':IH} {w0 w w':World} {B:Nat} {ai dt sp:Int} {vs:Value} {L:List Ses}
theorem ArB.lt (h:ArB J w B ai dt sp vs L):B<w.heap.size:=(Array.getElem?_eq_some_iff.1 h.row).1
theorem ArB.ext (h:ArB J w B ai dt sp vs L) (hok:Ok J w) (hb:Below w.heap.size w w') (hx:Ext w.heap.size J J'):ArB J' w' B ai dt sp vs L:=
 ⟨(hx _ h.lt).trans h.no,h.rd.mono (fun b c hc=>hx.keep hok (Qn _) b c hc),(hb.block _ h.lt).trans h.row⟩
theorem ArB.quiet (h:ArB J w B ai dt sp vs L) (hb:Below w.heap.size w w'):ArB J w' B ai dt sp vs L:=
 ⟨h.no,h.rd,(hb.block _ h.lt).trans h.row⟩
end
def RetA (I:IH) (w:World) (ai dt sp:Int) (L:List Ses) (e:Ending) (w':World):Prop:=
 ∃vs J,e= .returned (arcV ai dt sp vs)∧Below w.heap.size w w'∧Ext w.heap.size I J∧Ok J w'∧RdS tSes J vs L
def tLs:Ty (List Chg) where
 size:=1
 rd:=fun I cs l=> ∃v,cs= [v]∧RdS tChg I v l
 len:=fun ⟨_,h,_⟩=>by rw [h];rfl
 one:=fun ⟨v,h,h1⟩ u hu=>by
  rw [h] at hu
  simp at hu
  subst hu
  exact h1.one
 mono:=fun hI ⟨v,h,h1⟩=>⟨v,h,h1.mono hI⟩
theorem lsAt {I:IH} {v:Value} {l:List (List Chg)} {w:World} (h:RdS tLs I v l) (hw:Ok I w) (i:Nat) (hi:i<l.length):∃x vc b off cap,l[i]=x∧v= .slice (some ⟨b,off,none⟩) l.length cap∧
 w.cell? ⟨b,off+i,none⟩=some vc∧RdS tChg I vc x:=by
 obtain ⟨b,off,cap,cs,hv,⟨vc,hcs,h1⟩,hc⟩:=h.at_ hw hi
 subst hcs
 exact ⟨_,vc,b,off,cap,rfl,hv,by have:=hc 0 _ rfl;simpa [tLs] using this,h1⟩
structure Chg.Up (c:Chg):Prop where
 k0: -9223372036854775808≤c.kind
 k1:c.kind≤9223372036854775807
 path:c.path.length≤1048576
 target:c.target.length≤1048576
 content:c.content.length≤1048576
 nattrs:c.attrs.length≤1048576
 attrs:∀x∈c.attrs,x.Wf
def cntC (c:Chg):Nat:=c.content.length+c.path.length+c.target.length+1
def cntL (l:List Chg):Nat:=(l.map cntC).sum
theorem Xrj {l:List Chg} {j:Nat} (hj:j<l.length) {x:Chg} (hx:l[j]=x):cntL (l.take (j+1))=cntL (l.take j)+cntC x:=by
 unfold cntL
 rw [List.take_succ_eq_append_getElem hj,hx]
 simp
theorem Xrk {l:List Chg} (h:∀c∈l,c.Up):cntL l≤3145729*l.length:=by
 induction l with
 |nil=>simp [cntL]
 |cons c l ih=>
  have h1:=h c (List.mem_cons_self ..)
  have h2:=ih fun x hx=>h x (List.mem_cons_of_mem _ hx)
  have:=h1.path;have:=h1.target;have:=h1.content
  unfold cntL cntC at*
  simp only [List.map_cons,List.sum_cons,List.length_cons]
  omega
theorem Xtp {l:List Chg} {n:Nat} (h:cntL l≤n):l.length≤n∧ ∀c∈l,c.content.length≤n:=by
 induction l generalizing n with
 |nil=>exact ⟨Nat.zero_le _,fun _ h=>by cases h⟩
 |cons c l ih=>
  unfold cntL cntC at h ih
  simp only [List.map_cons,List.sum_cons] at h
  obtain ⟨i1,i2⟩:=ih (n:=n-(c.content.length+c.path.length+c.target.length+1)) (by omega)
  refine ⟨by rw [List.length_cons];omega,fun x hx=> ?_⟩
  rcases List.mem_cons.1 hx with rfl|hx
  ·omega
  ·have:=i2 x hx;omega
theorem Chg.Up.wf {c:Chg} (h:c.Up) (hc:c.content.length≤1000):c.Wf:=
 ⟨h.k0,h.k1,by have:=h.path;omega,h.attrs,by have:=h.target;omega,by omega⟩
theorem Xp6 {id:Nat} {L:List Ses} (hn:∀(k:Nat) (x:Ses),L[k]? =some x→x.num=(k:Int)+1) {i:Nat} {r:Rec} (h:(recsOfS id L)[i]? =some r):r.a=id∧r.s=(i:Int)+1:=by
 unfold recsOfS at h
 rw [List.getElem?_map] at h
 cases hx:L[i]? with
 |none=>rw [hx] at h;cases h
 |some x=>
  rw [hx] at h
  injection h with h
  subst h
  exact ⟨rfl,hn i x hx⟩
set_option maxRecDepth 100000 in
set_option maxHeartbeats 8000000 in
theorem Xd6 (I:IH) (hI:Glob I) (id:Nat) (hid:id<4294967296) (v:Value) (l:List (List Chg)) (hv:RdS tLs I v l) (hc:∀c∈l,c.length≤1048576∧ ∀x∈c,x.Up) (w:World) (hw:Ok I w):
 Calls Tryz.prog 5 #[.int .u32 id,v] w fun r w'=>r= .returned (.bool true)∧Below w.heap.size w w':=by
 have Hal:=Qh (fun w hw=>Xqr I hI w hw)
 have HG:=Qh hI
 have Hv:=Qh hv
 have Hc:=Qh hc
 have A0:=Qh (MAt.start hw)
 have hlen:=hv.len_le
 obtain ⟨ao,cap,rfl,_,_,_⟩:=_root_.id hv
 clear hv hc hI
 by_cases h4:4<l.length
 ·have d4:decide ((4:Int)<(l.length:Int))=true:=Qt (by omega)
  go_enter Tryz.func5,Tryz.ntmps5
  go_wp2_with fail
  refine (Hal.out _ A0.out.ok).mono ?_
  rintro e1 w1 ⟨rfl,hb1⟩
  have A1:=Qh (A0.out.quiet hb1)
  clear hb1 A0
  go_wp2
  go_ret
  exact ⟨rfl,A1.out.bel⟩
 have d4:decide ((4:Int)<(l.length:Int))=false:=Qf (by omega)
 go_enter Tryz.func5,Tryz.ntmps5
 go_wp2_with fail
 refine (Hal.out _ A0.out.ok).mono ?_
 rintro e1 w1 ⟨rfl,hb1⟩
 have A1:=Qh (A0.out.quiet hb1)
 clear hb1 A0
 go_upto_region 6 with (
  refine Xaf rfl rfl 46 _ _ rfl w1.heap.size 0 [.int .u32 id,.int .i64 2,.int .i64 1,.slice none 0 0] (arcV id 2 1 (.slice none 0 0)) (by simp [Act.eval]) (by simp [Act.eval]) (by rfl) zeroA 46 (heap_alloc_new _ _) (by simp) (by kernel_rfl) (by simp [Value.oneCell']) #[.int .u32 id,.int .i64 2,.int .i64 1,.slice none 0 0] (by rfl) ?_
  intro w2 hg2 hr2)
 have hb2:Below w1.heap.size w1 w2:=((Qb _ _).alloc (Qn _) _).grown hg2 (by simp) (fun k e=>by injection e with e;omega)
 have A2:=Qh (A1.out.quiet hb2)
 have B2:=Qh (show ArB I w2 w1.heap.size id 2 1 (.slice none 0 0) [] from ⟨A1.out.ok.fresh (Qn _),RdS.nil _ _,hr2⟩)
 have hB:=A1.out.size
 obtain ⟨B,hBe⟩:∃B,w1.heap.size=B:=⟨_,rfl⟩
 rw [hBe] at B2 hB ⊢
 clear hg2 hr2 hb2 A1 hBe
 go_wp2_with fail
 go_loopw [30] (fun s30 wr=> ∃(k:Nat) (J:IH) (vs:Value) (L:List Ses),k≤l.length∧s30= .int .i64 k∧MAt I w J wr∧ArB J wr B id 2 1 vs L∧ArcOk (1000*k) k L∧ArcD L) (fun i _=>l.length-(intOf i).toNat)
 case atStart=>exact ⟨0,I,_,[],Nat.zero_le _,rfl,A2.out,B2.out,Xv0,Xt1⟩
 case round=>
  clear A2 B2
  obtain ⟨k,J,vs,L,hk,rfl,hM,hBX,hA,hD⟩:=hrel
  have M:=Qh hM
  have BX:=Qh hBX
  have HA:=Qh hA
  have HD:=Qh hD
  obtain ⟨so,sc,rfl,_,_,_⟩:=_root_.id hBX.rd
  have hLk:=hA.len
  clear hM hBX hA hD
  by_cases hlt:k<l.length
  ·obtain ⟨c,vc,b,off,cap',hlx,hvv,c0,h1⟩:=lsAt (Hv.out.mono M.out.keep) M.out.ok k hlt
   cases hvv
   obtain ⟨co,cc,rfl,_,_,_⟩:=_root_.id h1
   have hcl:=h1.len_le
   obtain ⟨hcn,hcu⟩:=Hc.out c (by rw [←hlx];exact List.getElem_mem hlt)
   have Hcv:=Qh h1
   have Hcu:=Qh hcu
   have hct:=Xrk hcu
   clear hlx h1 hcu
   go_wp2_with fail
   go_loopw [8,37] (fun s8 s37 wi=> ∃j:Nat,j≤c.length∧s37= .int .i64 j∧s8= .int .i64 (cntL (c.take j):Nat)∧Below wr.heap.size wr wi) (fun _ j _=>c.length-(intOf j).toNat)
   case atStart=>exact ⟨0,Nat.zero_le _,rfl,rfl,Qb _ _⟩
   case round=>
    obtain ⟨j,hj,rfl,rfl,hbi⟩:=hrel
    have Mi:=Qh (M.out.quiet hbi)
    have Bi:=Qh (BX.out.quiet hbi)
    have Hbi:=Qh hbi
    clear hbi
    by_cases hjl:j<c.length
    ·obtain ⟨x,va,bb,off2,cap2,hjx,hvv,⟨e0,e1,e2,e3,e4⟩,h2⟩:=Xwk Hcv.out Mi.out.ok j hjl
     cases hvv
     obtain ⟨ax,cx,rfl,_,_,_⟩:=_root_.id h2
     have hxu:=Hcu.out x (by rw [←hjx];exact List.getElem_mem hjl)
     have x1:=hxu.path
     have x2:=hxu.target
     have x3:=hxu.content
     have hst:=Xrj hjl hjx
     have htk:=Xrk (l:=c.take j) fun y hy=>Hcu.out y (List.mem_of_mem_take hy)
     rw [List.length_take] at htk
     obtain ⟨q,hq⟩:∃q,cntL (c.take j)=q:=⟨_,rfl⟩
     rw [hq] at hst htk ⊢
     have Hst:=Qh hst
     have hq3:q≤3298534883329*2:=by omega
     clear hjx h2 hxu hst hq htk
     go_wp2
     go_roundw
     case rel=>
      refine ⟨j+1,by omega,by go_num,?_,Hbi.out.trans (((Qb _ _).alloc (Qn _) _).mono Hbi.out.size)⟩
      rw [Hst.out]
      unfold cntC
      congr 1
      try omega
     case measure=>simp [intOf];omega
    ·have hjc:j=c.length:=by omega
     subst hjc
     rw [List.take_length]
     clear M BX
     obtain ⟨z0,z1,z2,z3⟩:=Xbh Bi.out.row
     by_cases hn:cntL c≤1000
     ·have d5:decide ((1000:Int)<(cntL c:Nat))=false:=Qf (by omega)
      obtain ⟨hc1,hc2⟩:=Xtp hn
      have Hwr:=Qh (Xsi J (HG.out.mono Mi.out.keep) id 2 1 L HA.out c (by omega) (by omega) _ Bi.out.rd (k:Int) _ Hcv.out (fun x hx=>⟨(Hcu.out x hx).wf (hc2 x hx),by have:=(Hcu.out x hx).nattrs;omega,hc2 x hx⟩) _ Mi.out.ok)
      have hA2:=Xpd (date:=(k:Int)) (l:=c) HA.out (by omega) (by omega) hc2
      have hD2:=Xn3 HD.out (k:Int) c
      obtain ⟨L2,cnt,rn,hL2⟩:∃L2 cnt rn,wrtP L (k:Int) c=(L2,cnt,rn):=⟨_,_,_,rfl⟩
      rw [hL2] at Hwr hA2 hD2
      dsimp only at hA2 hD2
      have HA2:=Qh (hA2.mono (show 1000*k+c.length≤1000*(k+1) by omega) (Qn _))
      have HD2:=Qh hD2
      clear hn hct hc1 hc2 hA2 hD2 hL2
      go_wp2_with fail
      refine Hwr.out.mono ?_
      rintro e5 w5 ⟨v5,J5,rfl,hb5,hx5,hok5,hr5⟩
      obtain ⟨a5,k5,rfl,_,_,_⟩:=_root_.id hr5
      have M5:=Qh (Mi.out.ext hb5 hx5 hok5)
      have BX5:=Qh (Bi.out.ext Mi.out.ok hb5 hx5)
      have HR5:=Qh hr5
      clear hb5 hx5 hok5 hr5 Mi Bi z0 z1 z2 z3 Hwr
      dsimp only
      go_upto_region 18 with (
       refine Xaf rfl rfl 46 _ _ rfl w5.heap.size 0 [.int .u32 id,.int .i64 2,.int .i64 1,.slice a5 L2.length k5] (arcV id 2 1 (.slice a5 L2.length k5)) (by simp [Act.eval]) (by simp [Act.eval]) (by rfl) zeroA 46 (heap_alloc_new _ _) (by simp) (by kernel_rfl) (by simp [Value.oneCell']) #[.int .u32 id,.int .i64 2,.int .i64 1,.slice a5 L2.length k5] (by rfl) ?_
       intro w6 hg6 hr6)
      have hb6:Below w5.heap.size w5 w6:=((Qb _ _).alloc (Qn _) _).grown hg6 (by simp) (fun k e=>by injection e with e;omega)
      have M6:=Qh (M5.out.quiet hb6)
      have BX6:=Qh (BX5.out.quiet hb6)
      obtain ⟨y0,y1,y2,y3⟩:=Xbh hr6
      have hlb:=BX5.out.lt
      clear hg6 hb6 M5 BX5
      by_cases hrn:rn=0
      ·have k0:(rn==0)=true:=by simpa using hrn
       go_wp2_with (refine Xaf rfl rfl 46 _ _ rfl B 0 [.int .u32 id,.int .i64 2,.int .i64 1,.slice a5 L2.length k5] (arcV id 2 1 (.slice a5 L2.length k5)) (by simp [Act.eval]) (by simp [Act.eval]) (by rfl) _ 46 BX6.out.row (by simp) (by kernel_rfl) (by simp [Value.oneCell']) #[.int .u32 id,.int .i64 2,.int .i64 1,.slice a5 L2.length k5] (by rfl) ?_)
       intro w7 hg7 hr7
       have M7:=Qh (M6.out.own hg7 BX6.out.no (by omega))
       have BX7:=Qh (show ArB J5 w7 B id 2 1 (.slice a5 L2.length k5) L2 from ⟨BX6.out.no,HR5.out,hr7⟩)
       clear hg7 hr7 M6 BX6 y0 y1 y2 y3 hr6
       go_wp2
       go_roundw
       case rel=>exact ⟨k+1,J5,_,L2,by omega,by go_num,M7.out,BX7.out,HA2.out,HD2.out⟩
       case measure=>simp [intOf];omega
      ·have k0:(rn==0)=false:=by simpa using hrn
       clear y0 y1 y2 y3 hr6
       go_wp2
       go_roundw
       case rel=>exact ⟨k+1,J5,_,L,by omega,by go_num,M6.out,BX6.out,HA.out.mono (by omega) (by omega),HD.out⟩
       case measure=>simp [intOf];omega
     ·have d5:decide ((1000:Int)<(cntL c:Nat))=true:=Qt (by omega)
      go_wp2
      go_ret
      exact ⟨rfl,Mi.out.bel⟩
  ·have hkl:k=l.length:=by omega
   subst hkl
   obtain ⟨z0,z1,z2,z3⟩:=Xbh BX.out.row
   have Hof:=Qh (Xwl J (HG.out.mono M.out.keep) id hid 2 1 L HA.out HD.out (by omega) _ BX.out.rd wr M.out.ok)
   have Hn:=Qh (fun i r (h:(recsOfS id L)[i]? =some r)=>Xp6 (fun k x hx=>(HA.out.ses k x hx).num) h)
   have j1:(((recsOfS id L).length:Int) != (L.length:Int))=false:=by unfold recsOfS;rw [List.length_map];simp
   go_wp2_with fail
   refine Hof.out.mono ?_
   rintro e3 w3 ⟨v3,J3,rfl,hb3,hx3,hok3,hr3⟩
   have M3:=Qh (M.out.ext hb3 hx3 hok3)
   have BX3:=Qh (BX.out.ext M.out.ok hb3 hx3)
   have HR3:=Qh hr3
   clear hb3 hx3 hok3 hr3 z0 z1 z2 z3 M BX Hof
   obtain ⟨z0,z1,z2,z3⟩:=Xbh BX3.out.row
   have Hrf:=Qh (Xst J3 (HG.out.mono M3.out.keep) id hid 2 1 L HA.out HD.out (by omega) _ BX3.out.rd w3 M3.out.ok)
   generalize recsOfS id L=rs at*
   obtain ⟨a3,k3,rfl,_,_,_⟩:=_root_.id HR3.out
   go_wp2_with fail
   refine Hrf.out.mono ?_
   rintro e4 w4 ⟨v4,J4,rfl,hb4,hx4,hok4,hr4⟩
   have M4:=Qh (M3.out.ext hb4 hx4 hok4)
   have BX4:=Qh (BX3.out.ext M3.out.ok hb4 hx4)
   have HRA:=Qh (HR3.out.mono (fun b c h=>hx4.keep M3.out.ok (Qn _) b c h))
   have HRB:=Qh hr4
   obtain ⟨a4,k4,rfl,_,_,_⟩:=_root_.id hr4
   clear hb4 hx4 hok4 hr4 z0 z1 z2 z3 M3 BX3 Hrf HR3
   obtain ⟨z0,z1,z2,z3⟩:=Xbh BX4.out.row
   have Hsm:=Qh (fun w hw=>Xod J4 _ _ rs rs HRA.out HRB.out w hw)
   rw [Qt rfl] at Hsm
   have j2:((0:Int) != 0)=false:=rfl
   go_wp2_with fail
   refine (Hsm.out _ M4.out.ok).mono ?_
   rintro e5 w5 ⟨rfl,hb5⟩
   have M5:=Qh (M4.out.quiet hb5)
   have z3:=Xaa hb5 z3
   clear hb5 M4 z0 z1 z2 Hsm
   go_wp2_with fail
   go_loopw [103] (fun s103 wz=> ∃i:Nat,i≤rs.length∧s103= .int .i64 i∧MAt I w J4 wz) (fun i _=>rs.length-(intOf i).toNat)
   case atStart=>exact ⟨0,Nat.zero_le _,rfl,M5.out⟩
   case round=>
    clear M5 z3
    obtain ⟨i,hi,rfl,hM⟩:=hrel
    have Mz:=Qh hM
    clear hM
    by_cases hil:i<rs.length
    ·obtain ⟨r,b,off,cap5,hrx,hvv,p0,p1,p2⟩:=recAt HRA.out Mz.out.ok i hil
     cases hvv
     obtain ⟨n1,n2⟩:=Hn.out i r (by rw [List.getElem?_eq_getElem hil,hrx])
     rw [n1] at p0
     rw [n2] at p1
     have m1:IntKind.i64.wrap ((i:Int)+1)=(i:Int)+1:=IntWalk.i64_in _ (by have:=HRA.out.len_le;omega)
     have j3:((id:Int) != (id:Int))=false:=by simp
     have j4:((i:Int)+1 != (i:Int)+1)=false:=by simp
     have A6:=Qh (Mz.out.past (.cells #[.int .u32 id,.int .i64 ((i:Nat)+1),S r.d] 57))
     clear hrx n1 n2
     go_wp2
     go_roundw
     case rel=>exact ⟨i+1,by omega,by go_num,A6.out⟩
     case measure=>simp [intOf];omega
    ·go_wp2
     go_ret
     exact ⟨rfl,Mz.out.bel⟩
end Go.Proofs.YtkipnpjagcfcpaaGreatDoor
namespace Go.Proofs.YtkipnpjagcfcpaaGreatDoor
open Go.ChangeShapes Go.WideShapes Go.ChangeAt Go.RowKit
theorem Xwm {H:Type} (d:DataW H):1≤Rows.uptoBulk d:=by
 cases d with
 |lit l=>cases l<;>simp [Rows.uptoBulk]
 |nil=>simp [Rows.uptoBulk]
 |ptr d=>simp [Rows.uptoBulk]
 |slice elems spare=>simp [Rows.uptoBulk]
 |agg parts=>simp [Rows.uptoBulk]
 |iface t d=>simp [Rows.uptoBulk]
 |map entries=>simp [Rows.uptoBulk]
 |held h=>simp [Rows.uptoBulk]
theorem Xmv {H:Type} {d:DataW H} {l:List (DataW H)} (h:d∈l):Rows.uptoBulk d≤Rows.uptoBulkAll l:=by
 induction l with
 |nil=>cases h
 |cons x r ih=>
  simp only [Rows.uptoBulkAll]
  cases List.mem_cons.1 h with
  |inl e=>subst e;omega
  |inr e=>have:=ih e;omega
theorem Xwn {H:Type} (l:List (DataW H)):l.length≤Rows.uptoBulkAll l:=by
 induction l with
 |nil=>simp [Rows.uptoBulkAll]
 |cons x r ih=>have:=Xwm x;simp only [Rows.uptoBulkAll,List.length_cons];omega
theorem Xlu {H:Type} (bytes:List UInt8):Rows.uptoBulk (DataW.lit (H:=H) (.string bytes))=bytes.length+1:=by simp [Rows.uptoBulk]
theorem Xwo {H:Type} {ds gs:List (DataW H)} (h:Rows.uptoSmall H (ds++gs)=true) {d:DataW H} (hd:d∈ds):Rows.uptoBulk d≤1048576:=by
 have h2:Rows.uptoBulkAll (ds++gs)≤1048576:=of_decide_eq_true h
 exact Nat.le_trans (Xmv (List.mem_append_left _ hd)) h2
def OpensN {α:Type} (P:Program) (t:TypeId) (T:Ty α) (Wf:α→Prop):Prop:=
 P.cellsOf t=T.size∧0<T.size∧ ∀ {H:Type} {enc:TypeId × Value→H} {w:World} {base:Nat} {spare:Nat→Bool} {held:Bool} {fuel:Nat} {cs:List Value} {x:DataW H × List MemPlace},
  DataW.trod enc P w base spare held fuel t cs=some x→Rows.uptoBulk x.1≤1048576→ ∃y,T.rd (HeapI w) cs y∧Wf y
section
variable {α:Type} {P:Program} {T:Ty α} {Wf:α→Prop}
variable {H:Type} {enc:TypeId × Value→H} {w:World} {base:Nat} {spare:Nat→Bool} {held:Bool} {fuel:Nat} {cs:List Value} {x:DataW H × List MemPlace}
theorem OpensN.slice {t e:TypeId} (ht:P.underlying t=some (.slice e)) (he:OpensN P e T Wf) (h:DataW.trod enc P w base spare held fuel t cs=some x) (hb:Rows.uptoBulk x.1≤1048576):
 ∃v l,cs= [v]∧RdS T (HeapI w) v l∧(∀y∈l,Wf y)∧l.length≤1048576:=by
 rcases Go.Deep.open_slice ht h with ⟨rfl,_⟩|⟨a,len,cap,m,n,D,Pl,rfl,_,hl,hm,hmm,rfl,hi⟩
 ·exact ⟨_,[],rfl,RdS.nil _ _,fun _ h=>absurd h (by simp),by simp⟩
 ·have hlm:len≤m:=by rw [hmm];split<;>omega
  simp only [Rows.uptoBulk] at hb
  have hlen:=Xwn ((List.range len).map D)
  rw [List.length_map,List.length_range] at hlen
  have hx:∀i:Fin len,∃y,(∃cs',T.rd (HeapI w) cs' y∧ ∀j u,cs'[j]? =some u→w.cell? (a.add (i.1*T.size+j))=some u)∧Wf y:=by
   intro i
   obtain ⟨cs',hc,ht'⟩:=hi i.1 (by omega)
   rw [he.1] at hc
   have hbi:Rows.uptoBulk (D i.1)≤1048576:=by
    have:=Xmv (show D i.1∈(List.range len).map D from List.mem_map.2 ⟨i.1,List.mem_range.2 i.2,rfl⟩)
    omega
   obtain ⟨y,hy,hwf⟩:=he.2.2 ht' hbi
   obtain ⟨_,hcl,hat⟩:=World.cells?_some hc
   refine ⟨y,⟨cs',hy,fun j u hu=> ?_⟩,hwf⟩
   have hj:=(List.getElem?_eq_some_iff.1 hu).1
   rw [←hu,←hat j (by omega),Go.Deep.add_add]
  obtain ⟨f,hf⟩:=Classical.axiomOfChoice hx
  refine ⟨_,List.ofFn f,rfl,⟨some a,cap,by rw [List.length_ofFn],by rw [List.length_ofFn];exact hl,hm,fun h0=> ?_⟩,fun y hy=> ?_,by rw [List.length_ofFn];omega⟩
  ·rw [List.length_ofFn] at h0
   obtain ⟨cs0,h1,h2⟩:=(hf ⟨0,h0⟩).1
   have hlen:=T.len h1
   have hc0:=h2 0 _ (List.getElem?_eq_getElem (by rw [hlen];exact he.2.1))
   have e0:a.add ((⟨0,h0⟩:Fin len).1*T.size+0)=a:=by simp [Addr.add]
   rw [e0] at hc0
   obtain ⟨hs,c,hc,_⟩:=HeapI.of_cell hc0
   obtain ⟨ab,ao,asp⟩:=a
   change asp=none at hs
   subst hs
   change HeapI w ab=some c at hc
   refine ⟨ab,ao,c,rfl,hc,fun i hi=> ?_⟩
   rw [List.length_ofFn] at hi
   obtain ⟨csi,h3,h4⟩:=(hf ⟨i,hi⟩).1
   refine ⟨csi,by rw [List.getElem_ofFn];exact h3,fun j u hu=> ?_⟩
   have h5:=h4 j u hu
   rw [Addr.add_lit] at h5
   obtain ⟨_,c',hc',h6⟩:=HeapI.of_cell h5
   change HeapI w ab=some c' at hc'
   rw [hc] at hc'
   cases hc'
   exact h6
  ·obtain ⟨i,hi,rfl⟩:=List.getElem_of_mem hy
   rw [List.getElem_ofFn]
   exact (hf _).2
theorem OpensN.arg {t e:TypeId} (ht:P.underlying t=some (.slice e)) (he:OpensN P e T Wf) {r:Reach} {b0:Nat} {v:Value} {d:DataW H} {ps:List MemPlace} (hv:Value.okWide P w r b0 t v) (h:DataW.Trod enc P w base spare held t v d ps) (hb:Rows.uptoBulk d≤1048576):
 ∃l,RdS T (HeapI w) v l∧(∀y∈l,Wf y)∧l.length≤1048576:=by
 obtain ⟨fuel,hf⟩:=h
 obtain ⟨v',l,hcs,h1,h2⟩:=he.slice ht hf hb
 obtain ⟨ao,cap,rfl,_⟩:=id h1
 obtain ⟨ao',n',c',rfl⟩:=okWide_slice ht hv
 simp [Value.cells] at hcs
 obtain ⟨rfl,rfl,rfl⟩:=hcs
 exact ⟨l,h1,h2⟩
end
theorem Xo7 {H:Type} {xs:List (DataW H × List MemPlace)} (hb:Rows.uptoBulk (DataW.agg (xs.map (·.1)))≤1048576) {i:Nat} (hi:i<xs.length):Rows.uptoBulk xs[i].1≤1048576:=by
 simp only [Rows.uptoBulk] at hb
 have:=Xmv (show xs[i].1∈xs.map (·.1) from List.mem_map.2 ⟨xs[i],List.getElem_mem hi,rfl⟩)
 omega
def At.N (x:At):Prop:=x.k.length≤1048576∧x.v.length≤1048576
set_option maxRecDepth 100000 in
theorem at_opensN:OpensN Tryz.prog 129 tAt At.N:=by
 refine ⟨by kernel_rfl,by decide,fun {H enc w base spare held fuel cs x} h hb=> ?_⟩
 obtain ⟨xs,n,_,rfl,hl,hxl,hf⟩:=DataW.trod_struct Tryz.underlying129 h
 have hc:Tryz.prog.cellsOf 129=2:=by kernel_rfl
 have c3:Tryz.prog.cellsOf 9=1:=by kernel_rfl
 rw [hc] at hl
 obtain ⟨a,b,rfl⟩:=Xwv hl
 simp at hxl
 have h0:=hf 0 _ rfl
 have h1:=hf 1 _ rfl
 rw [List.getElem?_eq_getElem (by omega)] at h0 h1
 have g0:=Xo7 hb (show 0<xs.length by omega)
 have g1:=Xo7 hb (show 1<xs.length by omega)
 simp [c3] at h0 h1
 obtain ⟨s,e0,x0,w0⟩:=DataW.trod_string Tryz.underlying9 h0
 obtain ⟨t,e1,x1,w1⟩:=DataW.trod_string Tryz.underlying9 h1
 rw [x0,Xlu] at g0
 rw [x1,Xlu] at g1
 cases e0;cases e1
 exact ⟨⟨s.data.toList,t.data.toList⟩,rfl,by show s.data.toList.length≤_;omega,by show t.data.toList.length≤_;omega⟩
structure Chg.N (c:Chg):Prop where
 k0: -9223372036854775808≤c.kind
 k1:c.kind≤9223372036854775807
 path:c.path.length≤1048576
 target:c.target.length≤1048576
 nattrs:c.attrs.length≤1048576
 content:c.content.length≤1048576
 attrs:∀x∈c.attrs,x.N
set_option maxRecDepth 100000 in
theorem chg_opensN:OpensN Tryz.prog 49 tChg Chg.N:=by
 refine ⟨by kernel_rfl,by decide,fun {H enc w base spare held fuel cs x} h hb=> ?_⟩
 obtain ⟨xs,n,_,rfl,hl,hxl,hf⟩:=DataW.trod_struct Tryz.underlying49 h
 have hc:Tryz.prog.cellsOf 49=5:=by kernel_rfl
 have c2:Tryz.prog.cellsOf 3=1:=by kernel_rfl
 have c3:Tryz.prog.cellsOf 9=1:=by kernel_rfl
 have c4:Tryz.prog.cellsOf 32=1:=by kernel_rfl
 rw [hc] at hl
 obtain ⟨u0,u1,u2,u3,u4,rfl⟩:=Xwu hl
 simp at hxl
 have h0:=hf 0 _ rfl
 have h1:=hf 1 _ rfl
 have h2:=hf 2 _ rfl
 have h3:=hf 3 _ rfl
 have h4:=hf 4 _ rfl
 rw [List.getElem?_eq_getElem (by omega)] at h0 h1 h2 h3 h4
 have g1:=Xo7 hb (show 1<xs.length by omega)
 have g2:=Xo7 hb (show 2<xs.length by omega)
 have g3:=Xo7 hb (show 3<xs.length by omega)
 have g4:=Xo7 hb (show 4<xs.length by omega)
 simp [c2,c3,c4] at h0 h1 h2 h3 h4
 obtain ⟨i0,e0,_,w0⟩:=DataW.trod_int Tryz.underlying3 h0
 obtain ⟨s1,e1,x1,w1⟩:=DataW.trod_string Tryz.underlying9 h1
 obtain ⟨v2,l2,e2,r2,m2,n2⟩:=at_opensN.slice Tryz.underlying32 h2 g2
 obtain ⟨s3,e3,x3,w3⟩:=DataW.trod_string Tryz.underlying9 h3
 obtain ⟨s4,e4,x4,w4⟩:=DataW.trod_string Tryz.underlying9 h4
 rw [x1,Xlu] at g1
 rw [x3,Xlu] at g3
 rw [x4,Xlu] at g4
 cases e0;cases e1;cases e2;cases e3;cases e4
 rw [Go.Lit.wf_int_iff] at w0
 have k2:IntKind.i64.min= -9223372036854775808:=rfl
 have k3:IntKind.i64.max=9223372036854775807:=rfl
 refine ⟨⟨i0,s1.data.toList,l2,s3.data.toList,s4.data.toList⟩,⟨u2,rfl,r2⟩,⟨?_,?_,?_,?_,n2,?_,m2⟩⟩
 ·show _≤i0;omega
 ·show i0≤_;omega
 ·show s1.data.toList.length≤_;omega
 ·show s3.data.toList.length≤_;omega
 ·show s4.data.toList.length≤_;omega
theorem Chg.N.up {c:Chg} (h:c.N):c.Up:=
 ⟨h.k0,h.k1,h.path,h.target,h.content,h.nattrs,fun x hx=>by have:=h.attrs x hx;exact ⟨by have:=this.1;omega,by have:=this.2;omega⟩⟩
set_option maxRecDepth 100000 in
theorem ls_opensN:OpensN Tryz.prog 47 tLs fun l=>l.length≤1048576∧ ∀c∈l,c.Up:=by
 refine ⟨by kernel_rfl,by decide,fun {H enc w base spare held fuel cs x} h hb=> ?_⟩
 obtain ⟨v,l,hcs,h1,h2,h3⟩:=chg_opensN.slice Tryz.underlying47 h hb
 exact ⟨l,⟨v,hcs,h1⟩,h3,fun c hc=>(h2 c hc).up⟩
theorem Xjy {H:Type} {enc:TypeId × Value→H} {C:Checked} {os:Os} {f:FuncId} {fn:Func} {s:OpenSpec} {conds:List PathCond} {apart:Bool} {laid:List (String × DataW Unit)} (modest:Bool) (w0:World) (args:Array Value) (hos:w0.os=os)
 (hsh:(w0.forCall (fun _ _=>0) ⟨#[],args,[]⟩).Shaped C.prog)
 (hok:Input.okWideB C.prog (w0.forCall (fun _ _=>0) ⟨#[],args,[]⟩) f ⟨#[],args,[]⟩=true)
 (hrow:s.preRow enc C.prog fn conds apart laid (w0.forCall (fun _ _=>0) ⟨#[],args,[]⟩).memory args):
 ∃(w:World) (tape:Tape) (i:Input),w.os=os∧(w.forCall tape i).Shaped C.prog∧i.vars= []∧Input.okWide C.prog (w.forCall tape i) .any w.heap.size f i∧
  s.preRow enc C.prog fn conds apart laid (w.forCall tape i).memory i.args∧({ modest:=modest }:Assume).holds C.prog (lone (Frame.enter C.prog f i.args .normal) [] (w.forCall tape i)):=
 ⟨w0,fun _ _=>0,⟨#[],args,[]⟩,hos,hsh,(Input.okWide_of_okWideB (base:=0) hok).1,(Input.okWide_of_okWideB hok).2,hrow,by
   simp only [Assume.holds]
   exact ⟨by simp,by simp,fun _=>Modest.zero,by simp,by simp⟩⟩
end Go.Proofs.YtkipnpjagcfcpaaGreatDoor
