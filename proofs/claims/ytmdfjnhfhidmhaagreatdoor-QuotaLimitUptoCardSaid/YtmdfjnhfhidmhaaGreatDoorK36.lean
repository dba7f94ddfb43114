/-
  Walks and laws that the claim's theorem uses: texts SnL SnV SnX, joined; comments out. Conditions: as each theorem says.
-/
import Derived.Test.YtmdfjnhfhidmhaaGreatDoorK35
set_option linter.all false
namespace Go.Proofs.YtmdfjnhfhidmhaaGreatDoor
open Go.RowKit
theorem Xf7 (w:World) (a b:Array Value) (ta tb:TypeId) (W:World) (hW:(w.alloc (.cells a ta)).alloc (.cells b tb)=W):
 W.heap.size=w.heap.size+2∧W.heap[w.heap.size]? =some (.cells a ta (0,0))∧W.heap[w.heap.size+1]? =some (.cells b tb (0,0))∧Below w.heap.size w W:=by
 subst hW
 refine ⟨by simp,(Below.heap_alloc _ _ _ (by simp)).trans (heap_alloc_new w _),?_,((Qb _ _).alloc (Qn _) _).alloc (by simp) _⟩
 have h:=heap_alloc_new (w.alloc (.cells a ta)) (.cells b tb)
 rwa [World.size_alloc] at h
set_option maxRecDepth 100000 in
set_option maxHeartbeats 1000000 in
theorem Xhk (I:IH) (d:Drf) (ve vk vt vh ue uk ut uh:Value) (h1:DrRd I d ve vk vt vh) (h2:DrRd I d ue uk ut uh) (w:World) (hw:Ok I w):
 Calls Tryz.prog 23 #[drV d ve vk vt vh,drV d ue uk ut uh] w fun e w'=>e= .returned (.bool true)∧Below w.heap.size w w':=by
 have He:=Qh (fun w hw=>Xco I ve ue d.ents h1.ents h2.ents w hw)
 have Hk:=Qh (fun w hw=>Xqp I d.sto vk uk h1.cks h2.cks w hw)
 have Ht:=Qh (fun w hw=>Xco I vt ut d.tree h1.tree h2.tree w hw)
 have Hh:=Qh (fun w hw=>Xmo I vh uh d.holds d.holds h1.holds h2.holds w hw)
 rw [Qt (rfl:d.holds=d.holds)] at Hh
 obtain ⟨ao,ac,rfl,_,_,_⟩:=id h1.ents
 obtain ⟨bo,bc,rfl,_,_,_⟩:=id h1.cks
 obtain ⟨co,cc,rfl,_,_,_⟩:=id h1.tree
 obtain ⟨eo,ec,rfl,_,_,_⟩:=id h1.holds
 obtain ⟨ao',ac',rfl,_,_,_⟩:=id h2.ents
 obtain ⟨bo',bc',rfl,_,_,_⟩:=id h2.cks
 obtain ⟨co',cc',rfl,_,_,_⟩:=id h2.tree
 obtain ⟨eo',ec',rfl,_,_,_⟩:=id h2.holds
 obtain ⟨W,hW⟩:∃W,((w.alloc (.cells #[.int .i64 d.num,.int .i64 d.date,S d.prev,.slice ao d.ents.length ac,.slice bo d.sto.cks.length bc,.int .i64 d.sto.ses,S d.sto.str,.slice co d.tree.length cc,.slice eo d.holds.length ec] 43)).alloc (.cells #[.int .i64 d.num,.int .i64 d.date,S d.prev,.slice ao' d.ents.length ac',.slice bo' d.sto.cks.length bc',.int .i64 d.sto.ses,S d.sto.str,.slice co' d.tree.length cc',.slice eo' d.holds.length ec'] 43))=W:=⟨_,rfl⟩
 obtain ⟨hsz,r0,r1,hbW⟩:=Xf7 w _ _ _ _ W hW
 have D0:=Qh (drB_row r0)
 have D1:=Qh (drB_row r1)
 have hokW:Ok I W:=by rw [←hW];exact (hw.alloc _).alloc _
 obtain ⟨a0,a1,a2,a3,a4,a5,a6,a7,a8⟩:=drB_row r0
 obtain ⟨b0,b1,b2,b3,b4,b5,b6,b7,b8⟩:=drB_row r1
 clear h1 h2 r0 r1
 go_enter Tryz.func23,Tryz.ntmps23
 go_wp2_with fail
 refine (He.out W hokW).mono ?_
 rintro e1 w1 ⟨rfl,hb1⟩
 have hok1:=hokW.below (Qn _) hb1
 have D0:=Qh (D0.out.thru hb1)
 have D1:=Qh (D1.out.thru hb1)
 have hbW:=hbW.trans (hb1.mono (by omega))
 clear a0 a1 a2 a3 a4 a5 a6 a7 a8 b0 b1 b2 b3 b4 b5 b6 b7 b8 hb1 hW He
 obtain ⟨a0,a1,a2,a3,a4,a5,a6,a7,a8⟩:=D0.out
 obtain ⟨b0,b1,b2,b3,b4,b5,b6,b7,b8⟩:=D1.out
 go_wp2_with fail
 refine (Hk.out w1 hok1).mono ?_
 rintro e2 w2 ⟨rfl,hb2⟩
 have hok2:=hok1.below (Qn _) hb2
 have D0:=Qh (D0.out.thru hb2)
 have D1:=Qh (D1.out.thru hb2)
 have hbW:=hbW.trans (hb2.mono hbW.size)
 clear a0 a1 a2 a3 a4 a5 a6 a7 a8 b0 b1 b2 b3 b4 b5 b6 b7 b8 hb2 Hk
 obtain ⟨a0,a1,a2,a3,a4,a5,a6,a7,a8⟩:=D0.out
 obtain ⟨b0,b1,b2,b3,b4,b5,b6,b7,b8⟩:=D1.out
 go_wp2_with fail
 refine (Ht.out w2 hok2).mono ?_
 rintro e3 w3 ⟨rfl,hb3⟩
 have hok3:=hok2.below (Qn _) hb3
 have D0:=Qh (D0.out.thru hb3)
 have D1:=Qh (D1.out.thru hb3)
 have hbW:=hbW.trans (hb3.mono hbW.size)
 clear a0 a1 a2 a3 a4 a5 a6 a7 a8 b0 b1 b2 b3 b4 b5 b6 b7 b8 hb3 Ht
 obtain ⟨a0,a1,a2,a3,a4,a5,a6,a7,a8⟩:=D0.out
 obtain ⟨b0,b1,b2,b3,b4,b5,b6,b7,b8⟩:=D1.out
 go_wp2_with fail
 refine (Hh.out w3 hok3).mono ?_
 rintro e4 w4 ⟨rfl,hb4⟩
 have hbW:=hbW.trans (hb4.mono hbW.size)
 go_wp2
 go_ret
 exact ⟨rfl,hbW⟩
structure ArM (I:IH) (w0:World) (ai dt sp:Int) (vs:Value) (n1:Nat) (zr:Array Value) (ty:TypeId) (J:IH) (W:World):Prop where
 at_:MAt I w0 J W
 ext:Ext w0.heap.size I J
 no1:J n1=none
 a0:W.cell? ⟨w0.heap.size,0,none⟩=some (.int .u32 ai)
 a1:W.cell? ⟨w0.heap.size,1,none⟩=some (.int .i64 dt)
 a2:W.cell? ⟨w0.heap.size,2,none⟩=some (.int .i64 sp)
 a3:W.cell? ⟨w0.heap.size,3,none⟩=some vs
 out:W.heap[n1]? =some (.cells zr ty (0,0))
section
variable {I:IH} {w0:World} {ai dt sp:Int} {vs:Value} {n1:Nat} {zr:Array Value} {ty:TypeId} {J J':IH} {W W':World}
theorem ArM.lt (h:ArM I w0 ai dt sp vs n1 zr ty J W):n1<W.heap.size:=(Array.getElem?_eq_some_iff.1 h.out).1
theorem ArM.thru (h:ArM I w0 ai dt sp vs n1 zr ty J W) (hb:Below W.heap.size W W') (hx:Ext W.heap.size J J') (hok:Ok J' W'):ArM I w0 ai dt sp vs n1 zr ty J' W':=
 ⟨h.at_.ext hb hx hok,h.ext.trans hx h.at_.size,(hx _ h.lt).trans h.no1,Xaa hb h.a0,Xaa hb h.a1,Xaa hb h.a2,Xaa hb h.a3,(hb.block _ h.lt).trans h.out⟩
theorem ArM.quiet (h:ArM I w0 ai dt sp vs n1 zr ty J W) (hb:Below W.heap.size W W'):ArM I w0 ai dt sp vs n1 zr ty J W':=h.thru hb (Ext.refl _ _) (h.at_.ok.below (Qn _) hb)
theorem ArM.own (h:ArM I w0 ai dt sp vs n1 zr ty J W) {row:Option Nat} (hg:W.grownBy W' row) (hr:∀g,row=some g→J g=none∧w0.heap.size<g∧n1<g):ArM I w0 ai dt sp vs n1 zr ty J W':=by
 have hne:row≠some w0.heap.size:=fun e=>by have:=(hr _ e).2.1;omega
 exact ⟨⟨h.at_.ok.grown hg fun g e=>(hr g e).1,h.at_.keep,h.at_.bel.grown hg h.at_.size fun g e=>by have:=(hr g e).2.1;omega⟩,h.ext,h.no1,Xaf hg hne h.a0,Xaf hg hne h.a1,Xaf hg hne h.a2,Xaf hg hne h.a3,
  (hg.block _ h.lt (fun e=>by have:=(hr _ e.symm).2.2;omega)).trans h.out⟩
end
theorem Xpt {I:IH} {w:World} (hw:Ok I w) (ai dt sp:Int) (vs:Value) (zr:Array Value) (ty:TypeId):ArM I w ai dt sp vs (w.heap.size+1) zr ty I ((w.alloc (.cells #[.int .u32 ai,.int .i64 dt,.int .i64 sp,vs] 63)).alloc (.cells zr ty)):=by
 obtain ⟨_,r0,r1,_⟩:=Xf7 w #[.int .u32 ai,.int .i64 dt,.int .i64 sp,vs] zr 63 ty _ rfl
 exact ⟨((MAt.start hw).past _).past _,Ext.refl _ _,hw.fresh (by omega),(cell_of_row _ _ 0 _ _ _ r0).trans rfl,(cell_of_row _ _ 1 _ _ _ r0).trans rfl,(cell_of_row _ _ 2 _ _ _ r0).trans rfl,(cell_of_row _ _ 3 _ _ _ r0).trans rfl,r1⟩
theorem ArM.bad {I:IH} {w0:World} {ai dt sp:Int} {vs:Value} {J:IH} {W w9:World} (h:ArM I w0 ai dt sp vs (w0.heap.size+1) zeroD 43 J W) (hg:W.grownBy w9 (some (w0.heap.size+1))) {p:Drf × Int} {r:Int} (hp:p=(nilD,r)):
 RetDr I w0 p.1 p.2 (.returned (.tuple #[.agg zeroD,.int .i64 r])) w9:=by
 subst hp
 exact ⟨.slice none 0 0,.slice none 0 0,.slice none 0 0,.slice none 0 0,J,rfl,h.at_.bel.grown hg h.at_.size (fun k e=>by injection e with e;omega),h.ext,h.at_.ok.grown hg (fun g e=>by injection e with e;subst e;exact h.no1),⟨RdS.nil _ _,RdS.nil _ _,RdS.nil _ _,RdS.nil _ _⟩⟩
abbrev bpL (n m ll sc:Nat) (so:Option Addr) (ai dt sp date:Int) (ld:Bytes) (x:Nat):List (Option Tmp × Value):=
 [(some 31,.pointer (some ⟨n,3,none⟩)),(some 32,.slice so ll sc),(some 33,.int .i64 (ll:Int)),(some 34,.int .i64 ((ll:Int)+1)),(some 35,.int .i64 date),(some 36,arcV ai dt sp (.slice so ll sc)),(some 37,S ld),(some 38,.pointer (some ⟨m,0,none⟩)),(none,undef),(some 39,.pointer (some ⟨m,1,none⟩)),(none,undef),(some 40,.pointer (some ⟨m,2,none⟩)),(none,undef)]
theorem Xb4 {n m ll sc:Nat} {so:Option Addr} {ai dt sp date:Int} {ld:Bytes} {x:Nat}:ApartF (bpL n m ll sc so ai dt sp date ld x):=by
 unfold ApartF
 simp
abbrev bqL (m:Nat) (q:Sto) (vk:Value) (ah:Option Addr) (hl ch al:Nat) (date:Int) (x:Option Addr × Nat):List (Option Tmp × Value):=
 [(some 53,stoV q vk),(some 54,.pointer (some ⟨m,8,none⟩)),(some 55,.slice ah hl ch),(some 56,.int .i64 date),(some 57,.slice x.1 al x.2),(some 58,.pointer (some ⟨m,4,none⟩)),(none,undef),(some 59,.pointer (some ⟨m,8,none⟩)),(none,undef)]
theorem Xci {m:Nat} {q:Sto} {vk:Value} {ah:Option Addr} {hl ch al:Nat} {date:Int} {x:Option Addr × Nat}:ApartF (bqL m q vk ah hl ch al date x):=by
 unfold ApartF
 simp
set_option maxRecDepth 100000 in
set_option maxHeartbeats 8000000 in
theorem Xk2 (I:IH) (hI:Glob I) (ai dt sp:Int) {n m:Nat} (L:List Ses) (h:ArcOk n m L) (hn:n≤150) (hm:m≤250) (vs:Value) (hvs:RdS tSes I vs L) (date:Int) (w:World) (hw:Ok I w):
 Calls Tryz.prog 31 #[arcV ai dt sp vs,.int .i64 date] w (RetDr I w (begP L date).1 (begP L date).2):=by
 have hlen:=h.len
 have Hst:=Qh (fun w hw=>Xnx I hI ai dt sp L h hn (by omega) vs hvs w hw)
 have Hpr:=Qh (fun J (hk:∀b c,I b=some c→J b=some c) w hw=>Xj7 J (hI.mono hk) ai dt sp L vs (hvs.mono hk) (h.sesD (by omega) (by omega)) w hw)
 have Hld:=Qh (fun w hw=>Xj8 I ai dt sp L vs hvs w hw)
 have Hrp:=Qh (h.repAll (by omega) (by omega))
 have hsin:=Qh h.sinAll
 have Hvs:=Qh hvs
 have Hi9:=Qh (show (Tryz.prog.info? 43).map (·.size)=some 9 by kernel_rfl)
 obtain ⟨so,sc,rfl,_,_,_⟩:=id hvs
 have M:=Qh (Xpt hw ai dt sp (.slice so L.length sc) zeroD 43)
 have hb:begP L date=if begErr L date≠0 then (nilD,begErr L date) else (openP L date,0):=rfl
 have d1:decide ((255:Int)≤(L.length:Int))=false:=Qf (by omega)
 have hbe:begErr L date=if date<0∨1000000000<date then 2 else if date<lastDt L then 14 else 0:=by unfold begErr;rw [if_neg (by omega)]
 have Hb:=Qh hb
 have Hbe:=Qh hbe
 clear h hvs hb hbe
 obtain ⟨W2,hW2⟩:∃W2,((w.alloc (.cells #[.int .u32 ai,.int .i64 dt,.int .i64 sp,.slice so L.length sc] 63)).alloc (.cells zeroD 43))=W2:=⟨_,rfl⟩
 rw [hW2] at M
 obtain ⟨z0,z1,z2,z3⟩:=(⟨M.out.a0,M.out.a1,M.out.a2,M.out.a3⟩:_∧_∧_∧_)
 go_enter Tryz.func31,Tryz.ntmps31
 go_upto_region 3 with fail
 obtain ⟨B,hB⟩:∃B:Bool,decide (date<0∨1000000000<date)=B:=⟨_,rfl⟩
 clear hW2
 go_cut [15] (fun s15 wx=>s15= .bool B∧W2=wx)
 case first=>
  by_cases q1:date<0
  ·have i1:decide (date<0)=true:=Qt q1
   have hB2:B=true:=by rw [←hB];exact Qt (.inl q1)
   subst hB2
   clear hB q1
   go_wp2_with fail
   go_meet
   exact ⟨rfl,rfl⟩
  ·have i1:decide (date<0)=false:=Qf q1
   by_cases q2:1000000000<date
   ·have i2:decide (1000000000<date)=true:=Qt q2
    have hB2:B=true:=by rw [←hB];exact Qt (.inr q2)
    subst hB2
    clear hB q1 q2
    go_wp2_with fail
    go_meet
    exact ⟨rfl,rfl⟩
   ·have i2:decide (1000000000<date)=false:=Qf q2
    have hB2:B=false:=by rw [←hB];exact Qf (by omega)
    subst hB2
    clear hB q1 q2
    go_wp2_with fail
    go_meet
    exact ⟨rfl,rfl⟩
 case rest=>
 obtain ⟨rfl,hcut⟩:=hcut
 subst hcut
 cases B
 case true=>
  have Hn:=Qh (show begP L date=(nilD,2) by rw [Hb.out,Hbe.out,if_pos (of_decide_eq_true hB)];rfl)
  clear hB z0 z1 z2 z3
  have hout:=M.out.out
  go_wp2_with (refine Xab rfl rfl 43 _ _ rfl (w.heap.size+1) 0 zeroD.toList (.agg zeroD) (by simp [Act.eval]) (by simp [Act.eval]) (by rfl) zeroD 43 hout (by simp) (by kernel_rfl) (by simp [Value.oneCell']) zeroD (by rfl) ?_
               intro w9 hg9 hr9)
  refine bodyPost_ret (v:= .tuple #[.agg zeroD,.int .i64 2]) ?_ rfl (M.out.bad hg9 Hn.out)
  rw [results_cell_tmp rfl]
  simp [asAddr,run_loadVar_row w9 (w.heap.size+1) 43 43 _ (0,0) _ hr9 Tryz.underlying43 rfl Hi9.out]
 replace Hbe:=Qh (Hbe.out.trans (if_neg (of_decide_eq_false hB)))
 have hd0:0≤date∧date≤1000000000:=by have:=of_decide_eq_false hB;omega
 clear hB
 go_wp2_with fail
 refine (Hld.out W2 M.out.at_.ok).mono ?_
 rintro e0 w0 ⟨rfl,hb0⟩
 replace M:=Qh (M.out.quiet hb0)
 clear z0 z1 z2 z3 hb0 Hld
 obtain ⟨z0,z1,z2,z3⟩:=(⟨M.out.a0,M.out.a1,M.out.a2,M.out.a3⟩:_∧_∧_∧_)
 go_upto_if 23 with fail
 obtain ⟨B,hB⟩:∃B:Bool,decide (date<lastDt L)=B:=⟨_,rfl⟩
 rw [hB]
 cases B
 case true=>
  have Hn:=Qh (show begP L date=(nilD,14) by rw [Hb.out,Hbe.out,if_pos (of_decide_eq_true hB)];rfl)
  clear hB z0 z1 z2 z3
  have hout:=M.out.out
  go_wp2_with (refine Xab rfl rfl 43 _ _ rfl (w.heap.size+1) 0 zeroD.toList (.agg zeroD) (by simp [Act.eval]) (by simp [Act.eval]) (by rfl) zeroD 43 hout (by simp) (by kernel_rfl) (by simp [Value.oneCell']) zeroD (by rfl) ?_
               intro w9 hg9 hr9)
  refine bodyPost_ret (v:= .tuple #[.agg zeroD,.int .i64 14]) ?_ rfl (M.out.bad hg9 Hn.out)
  rw [results_cell_tmp rfl]
  simp [asAddr,run_loadVar_row w9 (w.heap.size+1) 43 43 _ (0,0) _ hr9 Tryz.underlying43 rfl Hi9.out]
 have Hn:=Qh (show begP L date=(openP L date,0) by rw [Hb.out,Hbe.out,if_neg (of_decide_eq_false hB)];rfl)
 clear hB Hb Hbe
 go_wp2_with fail
 refine (Hst.out w0 M.out.at_.ok).mono ?_
 rintro e1 w1 ⟨vk,vt,vh,J1,rfl,hb1,hx1,hok1,hrk,hrt,hrh⟩
 obtain ⟨ak,ck,rfl,_,_,_⟩:=id hrk
 obtain ⟨at',ct',rfl,_,_,_⟩:=id hrt
 obtain ⟨ah,ch,rfl,_,_,_⟩:=id hrh
 have M1:=Qh (M.out.thru hb1 hx1 hok1)
 have hm1:=M1.out.lt
 have hJ7:J1 w1.heap.size=none:=hok1.fresh (Qn _)
 have m1:IntKind.i64.wrap ((L.length:Int)+1)=(L.length:Int)+1:=IntWalk.i64_in _ (by omega)
 have Hrp2:=Qh ((Hrp.out.begin (by omega)).1)
 clear z0 z1 z2 z3 hb1 hx1 hok1 M Hst
 go_wp2_with (refine Xab rfl rfl 43 _ _ rfl w1.heap.size 0 (drCs (⟨0,0,[],[],repQ L,(aftS nilS L).tree,(aftS nilS L).holds⟩:Drf) (.slice none 0 0) (.slice ak (repQ L).cks.length ck) (.slice at' (aftS nilS L).tree.length ct') (.slice ah (aftS nilS L).holds.length ch)) (drV (⟨0,0,[],[],repQ L,(aftS nilS L).tree,(aftS nilS L).holds⟩:Drf) (.slice none 0 0) (.slice ak (repQ L).cks.length ck) (.slice at' (aftS nilS L).tree.length ct') (.slice ah (aftS nilS L).holds.length ch)) (by simp [Act.eval]) (by simp [Act.eval]) (by rfl) zeroD 43 (heap_alloc_new _ _) (by simp) (by kernel_rfl) (by simp [Value.oneCell']) (drCs (⟨0,0,[],[],repQ L,(aftS nilS L).tree,(aftS nilS L).holds⟩:Drf) (.slice none 0 0) (.slice ak (repQ L).cks.length ck) (.slice at' (aftS nilS L).tree.length ct') (.slice ah (aftS nilS L).holds.length ch)).toArray (by rfl) ?_
              intro w2 hg2 hr2
              have z0:=Xaf hg2 (by simp;omega) (Xad (.cells zeroD 43) M1.out.a0)
              have z1:=Xaf hg2 (by simp;omega) (Xad (.cells zeroD 43) M1.out.a1)
              have z2:=Xaf hg2 (by simp;omega) (Xad (.cells zeroD 43) M1.out.a2)
              have z3:=Xaf hg2 (by simp;omega) (Xad (.cells zeroD 43) M1.out.a3))
 have M2:=Qh (M1.out.quiet (((Qb _ _).alloc (Qn _) _).grown hg2 (by simp) (fun k e=>by injection e with e;omega)))
 have hs2:=(Array.getElem?_eq_some_iff.1 hr2).1
 have hJn:∀g,some w1.heap.size=some g→J1 g=none∧w.heap.size<g∧w.heap.size+1<g:=fun g e=>by injection e with e;subst e;exact ⟨hJ7,by omega,by omega⟩
 clear M1 hg2
 refine Xak (X:=Nat) (bpL w.heap.size w1.heap.size L.length sc so ai dt sp date (lastDig L)) (RgE w2 224 234 225 235 226 236 227 237 (fun _ _=>True) (fun _ _=>True) (fun _ _=>True) (fun _ _=>True) (fun _ _=>True) (fun _ _=>True) (fun x=>w1.heap.size) 43 8 10 12 (fun x=> #[.int .i64 ((L.length:Int)+1),.int .i64 0,S [],.slice none 0 0,(.slice ak (repQ L).cks.length ck),.int .i64 (repQ L).ses,S (repQ L).str,(.slice at' (aftS nilS L).tree.length ct'),(.slice ah (aftS nilS L).holds.length ch)]) (fun x=> #[.int .i64 ((L.length:Int)+1),.int .i64 date,S [],.slice none 0 0,(.slice ak (repQ L).cks.length ck),.int .i64 (repQ L).ses,S (repQ L).str,(.slice at' (aftS nilS L).tree.length ct'),(.slice ah (aftS nilS L).holds.length ch)]) (fun x=> #[.int .i64 ((L.length:Int)+1),.int .i64 date,S (lastDig L),.slice none 0 0,(.slice ak (repQ L).cks.length ck),.int .i64 (repQ L).ses,S (repQ L).str,(.slice at' (aftS nilS L).tree.length ct'),(.slice ah (aftS nilS L).holds.length ch)])) (by kernel_rfl) (by kernel_rfl) ?_ ?_ ?_
 ·exact ⟨0,RgE.start _ _ trivial⟩
 ·rintro x s' a' w' i hsz hcl ha hC hi
  obtain ⟨hun,oi,hoi,hall⟩:=mem_ready.1 hi
  have ev:=Xg4 Xb4 ha
  have hlt:=Xc9 hun
  rcases i with _|_|_|_|_|_|_|_|_|_|_|_|_|i
  rotate_left 13
  ·simp at hoi
  all_goals
   have hoj:=hoi
   simp at hoi
   subst hoi
   simp [Region.binds] at hall
   try have hl:=Xas 6 8 hcl (by decide +kernel) hun
   try have hbw:=hC.off hl
   try have z0:=Xaa hbw z0
   try have z1:=Xaa hbw z1
   try have z2:=Xaa hbw z2
   try have z3:=Xaa hbw z3
   try have m1:=Xaa hbw m1
   refine wpOp_step hoj (fun K' hK=> ?_)
   rw [if_pos (by rfl)]
  rotate_left 6
  ·unfold Oper.wp
   simp [go_sem,ev,evF,hall,Oper.upon]
   refine (Hpr.out J1 M2.out.at_.keep w' (M2.out.at_.ok.below (Qn _) hbw)).mono ?_
   rintro r4 w4 ⟨rfl,hb4⟩
   exact hK _ _ ⟨x,Xax Xb4 ha rfl hun,hC.step hl (hbw.trans (hb4.mono hbw.size)) (by decide) (fun _=>trivial) (fun _ _=>trivial) (fun _ _=>trivial) (fun _ _=>trivial) (fun _ _=>trivial) hlt⟩
  rotate_left 1
  ·have hrow:w'.heap[w1.heap.size]? =some (.cells _ 43 (0,0)):=(hbw.block _ (Array.getElem?_eq_some_iff.1 hr2).1).trans hr2
   refine Xag 3 _ _ rfl (w1.heap.size) 0 [.int .i64 ((L.length:Int)+1)] (.int .i64 ((L.length:Int)+1)) (by simp [Act.eval,ev,evF,hall]) (by simp [Act.eval,ev,evF,hall]) (by rfl) _ _ hrow (by simp) (by kernel_rfl) (by simp [Value.oneCell']) ?_
   exact hK _ _ ⟨x,Xac (d:=none) (v:=undef) Xb4 ha rfl hun,hC.put1 hun trivial (Xas 6 10 hcl (by kernel_rfl) hun) (Xas 6 12 hcl (by kernel_rfl) hun) (by decide) hrow (by rfl)⟩
  rotate_left 1
  ·have hrow:=hC.row1 (s1:=8) (by first|simpa using hall|simp [hall]) (Xam hun) (Xas 6 12 hcl (by kernel_rfl) hun)
   refine Xag 3 _ _ rfl (w1.heap.size) 1 [.int .i64 date] (.int .i64 date) (by simp [Act.eval,ev,evF,hall]) (by simp [Act.eval,ev,evF,hall]) (by rfl) _ _ hrow (by simp) (by kernel_rfl) (by simp [Value.oneCell']) ?_
   exact hK _ _ ⟨x,Xac (d:=none) (v:=undef) Xb4 ha rfl hun,hC.put2 hun (by first|simpa using hall|simp [hall]) (Xas 6 12 hcl (by kernel_rfl) hun) (by decide) (by rfl)⟩
  rotate_left 1
  ·have hrow:=hC.row2 (s1:=8) (s2:=10) (by first|simpa using hall|simp [hall]) (by first|simpa using hall|simp [hall]) (Xam hun)
   refine Xag 9 _ _ rfl (w1.heap.size) 2 [S (lastDig L)] (S (lastDig L)) (by simp [Act.eval,ev,evF,hall]) (by simp [Act.eval,ev,evF,hall]) (by rfl) _ _ hrow (by simp) (by kernel_rfl) (by simp [Value.oneCell']) ?_
   exact hK _ _ ⟨x,Xac (d:=none) (v:=undef) Xb4 ha rfl hun,hC.put3 hun (by first|simpa using hall|simp [hall]) (by decide) (by rfl)⟩
  all_goals
   unfold Oper.wp
   first
   |(simp [go_sem,ev,evF,hall,Oper.upon,z0,z1,z2,z3,m1];exact hK _ _ ⟨x,Xax Xb4 ha rfl hun,hC.pure (by decide)⟩)
   |(simp [go_sem,ev,evF,Oper.upon,z0,z1,z2,z3,m1];exact hK _ _ ⟨x,Xax Xb4 ha rfl hun,hC.pure (by decide)⟩)
 ·rintro x s' a' w6 hup ha hC
  obtain ⟨wb,hbW,hFin,hgr,hrow⟩:=hC.on (hup 8 (by decide))
  rw [if_pos (hup 12 (by decide))] at hrow
  rw [Xa6 _ _ _ _ (fun i hi=>by rw [Nat.zero_add];exact hup i (by simpa using hi))] at ha
  subst ha
  simp only [fillAll,Act.put,List.setIfInBounds_toArray,List.set_cons_succ,List.set_cons_zero]
  clear hFin
  have M6:=Qh ((M2.out.quiet hbW).own hgr hJn)
  have hr6:=hrow
  have z4:w6.cell? ⟨w1.heap.size,4,none⟩=some _:=(cell_of_row _ _ 4 _ _ _ hr6).trans rfl
  have z5:w6.cell? ⟨w1.heap.size,5,none⟩=some _:=(cell_of_row _ _ 5 _ _ _ hr6).trans rfl
  have z6:w6.cell? ⟨w1.heap.size,6,none⟩=some _:=(cell_of_row _ _ 6 _ _ _ hr6).trans rfl
  have zn:w6.cell? ⟨w1.heap.size,0,none⟩=some _:=(cell_of_row _ _ 0 _ _ _ hr6).trans rfl
  have Hbe:=Qh (Xly J1 (repQ L) (.slice ak (repQ L).cks.length ck) hrk (by have:=Hrp.out.cks;omega) ((L.length:Int)+1) w6 M6.out.at_.ok)
  rw [Hrp2.out] at Hbe
  clear z0 z1 z2 z3 hC hup hgr hbW hrow hr2 M2 Hpr
  go_wp2_with fail
  clear z4 z5 z6 zn
  refine Hbe.out.mono ?_
  rintro e7 w7 ⟨vk2,J2,rfl,hb7,hx7,hok7,hrk2⟩
  obtain ⟨ak2,ck2,rfl,_,_,_⟩:=id hrk2
  have M7:=Qh (M6.out.thru hb7 hx7 hok7)
  have hs6:=(Array.getElem?_eq_some_iff.1 hr6).1
  have hr7:=(hb7.block _ hs6).trans hr6
  have hJ7':J2 w1.heap.size=none:=(hx7 _ hs6).trans hJ7
  have hk7:=hx7.keep M6.out.at_.ok (Qn _)
  have hJn2:∀g,some w1.heap.size=some g→J2 g=none∧w.heap.size<g∧w.heap.size+1<g:=fun g e=>by injection e with e;subst e;exact ⟨hJ7',by omega,by omega⟩
  have hrt2:=hrt.mono hk7
  have hrh2:=hrh.mono hk7
  clear hb7 hx7 hok7 hr6 M6 Hbe hrk
  go_wp2_with (refine Xab rfl rfl 40 _ _ rfl w7.heap.size 0 [.slice ak2 (repQ L).cks.length ck2,.int .i64 ((L.length:Int)+1),S []] (stoV ⟨(repQ L).cks,(L.length:Int)+1,[]⟩ (.slice ak2 (repQ L).cks.length ck2)) (by simp [Act.eval]) (by simp [Act.eval]) (by rfl) #[.slice none 0 0,.int .i64 0,.string ⟨#[]⟩] 40 (heap_alloc_new _ _) (by simp) (by kernel_rfl) (by simp [Value.oneCell']) #[.slice ak2 (repQ L).cks.length ck2,.int .i64 ((L.length:Int)+1),S []] (by rfl) ?_
               intro w8 hg8 hrs)
  have hb8:Below w7.heap.size w7 w8:=((Qb _ _).alloc (Qn _) _).grown hg8 (by simp) (fun k e=>by injection e with e;omega)
  have M8:=Qh (M7.out.quiet hb8)
  have hs7:=(Array.getElem?_eq_some_iff.1 hr7).1
  replace hr7:=(hb8.block _ hs7).trans hr7
  have y0:w8.cell? ⟨w7.heap.size,0,none⟩=some _:=(cell_of_row _ _ 0 _ _ _ hrs).trans rfl
  have y1:w8.cell? ⟨w7.heap.size,1,none⟩=some _:=(cell_of_row _ _ 1 _ _ _ hrs).trans rfl
  have y2:w8.cell? ⟨w7.heap.size,2,none⟩=some _:=(cell_of_row _ _ 2 _ _ _ hrs).trans rfl
  have z8:w8.cell? ⟨w1.heap.size,8,none⟩=some _:=(cell_of_row _ _ 8 _ _ _ hr7).trans rfl
  have Hac:=Qh (fun w hw=>Xdl J2 (.slice ah (aftS nilS L).holds.length ch) (aftS nilS L).holds hrh2 (by have:=hsin.out.ok.hlen;omega) date w hw)
  have hs8:=(Array.getElem?_eq_some_iff.1 hr7).1
  have hlt8:=M8.out.lt
  clear hg8 hrs M7
  refine Xak (X:=Option Addr × Nat) (bqL w1.heap.size (⟨(repQ L).cks,(L.length:Int)+1,[]⟩) (.slice ak2 (repQ L).cks.length ck2) ah ((aftS nilS L).holds.length) ch ((actP (aftS nilS L).holds date).length) date) (RgE w8 4 230 221 231 222 232 223 233 (fun _ _=>True) (fun x w=>OwnS tHo 148 J2 w w8.heap.size (.slice x.1 (actP (aftS nilS L).holds date).length x.2) (actP (aftS nilS L).holds date)) (fun _ _=>True) (fun _ _=>True) (fun _ _=>True) (fun x w=>OwnS tHo 148 J2 w w8.heap.size (.slice x.1 (actP (aftS nilS L).holds date).length x.2) (actP (aftS nilS L).holds date)) (fun x=>w1.heap.size) 43 6 8 210 (fun x=> #[.int .i64 ((L.length:Int)+1),.int .i64 date,S (lastDig L),.slice none 0 0,(.slice ak2 (repQ L).cks.length ck2),.int .i64 ((L.length:Int)+1),S [],(.slice at' (aftS nilS L).tree.length ct'),(.slice ah (aftS nilS L).holds.length ch)]) (fun x=> #[.int .i64 ((L.length:Int)+1),.int .i64 date,S (lastDig L),.slice none 0 0,(.slice ak2 (repQ L).cks.length ck2),.int .i64 ((L.length:Int)+1),S [],(.slice at' (aftS nilS L).tree.length ct'),.slice x.1 (actP (aftS nilS L).holds date).length x.2]) (fun x=> #[.int .i64 ((L.length:Int)+1),.int .i64 date,S (lastDig L),.slice none 0 0,(.slice ak2 (repQ L).cks.length ck2),.int .i64 ((L.length:Int)+1),S [],(.slice at' (aftS nilS L).tree.length ct'),.slice x.1 (actP (aftS nilS L).holds date).length x.2])) (by kernel_rfl) (by kernel_rfl) ?_ ?_ ?_
  ·exact ⟨default,RgE.start _ _ trivial⟩
  ·rintro x s' a' w' i hsz hcl ha hC hi
   obtain ⟨hun,oi,hoi,hall⟩:=mem_ready.1 hi
   have ev:=Xg4 Xci ha
   have hlt:=Xc9 hun
   rcases i with _|_|_|_|_|_|_|_|_|i
   rotate_left 9
   ·simp at hoi
   all_goals
    have hoj:=hoi
    simp at hoi
    subst hoi
    simp [Region.binds] at hall
    try have hl:=Xas 6 6 hcl (by decide +kernel) hun
    try have hbw:=hC.off hl
    try have y0:=Xaa hbw y0
    try have y1:=Xaa hbw y1
    try have y2:=Xaa hbw y2
    try have z8:=Xaa hbw z8
    refine wpOp_step hoj (fun K' hK=> ?_)
    rw [if_pos (by rfl)]
   rotate_left 4
   ·unfold Oper.wp
    simp [go_sem,ev,evF,hall,Oper.upon]
    refine (Hac.out w' (M8.out.at_.ok.below (Qn _) hbw)).mono ?_
    rintro r4 w4 ⟨v9,rfl,ho,hb4⟩
    obtain ⟨a9,k9,rfl⟩:=Xb9 ho
    have ha:=ha.trans (Xa3 (L:=bqL w1.heap.size (⟨(repQ L).cks,(L.length:Int)+1,[]⟩) (.slice ak2 (repQ L).cks.length ck2) ah ((aftS nilS L).holds.length) ch ((actP (aftS nilS L).holds date).length) date x) (M:=bqL w1.heap.size (⟨(repQ L).cks,(L.length:Int)+1,[]⟩) (.slice ak2 (repQ L).cks.length ck2) ah ((aftS nilS L).holds.length) ch ((actP (aftS nilS L).holds date).length) date (a9,k9)) [4] rfl (fun j hne=>by
     rcases j with _|_|_|_|_|_|_|_|_|j<;>first|rfl|(exact absurd (by decide) hne)|simp) (List.forall_mem_cons.2 ⟨Xam hun,List.forall_mem_nil _⟩))
    exact hK _ _ ⟨(a9,k9),Xax Xci ha rfl hun,hC.step hl (hbw.trans (hb4.mono hbw.size)) (by decide) (fun _=>trivial) (fun _ _=>ho.lower hbw.size) (fun _ _=>trivial) (fun _ _=>trivial) (fun _ _=>trivial) hlt⟩
   rotate_left 1
   ·have hrow:w'.heap[w1.heap.size]? =some (.cells _ 43 (0,0)):=(hbw.block _ (Array.getElem?_eq_some_iff.1 hr7).1).trans hr7
    refine Xag 40 _ _ rfl (w1.heap.size) 4 [.slice ak2 (repQ L).cks.length ck2,.int .i64 ((L.length:Int)+1),S []] (stoV ⟨(repQ L).cks,(L.length:Int)+1,[]⟩ (.slice ak2 (repQ L).cks.length ck2)) (by simp [Act.eval,ev,evF,hall]) (by simp [Act.eval,ev,evF,hall]) (by rfl) _ _ hrow (by simp) (by kernel_rfl) (by simp [Value.oneCell']) ?_
    exact hK _ _ ⟨x,Xac (d:=none) (v:=undef) Xci ha rfl hun,hC.put1 hun (hC.f1 (by first|simpa using hall|simp [hall]) (Xan (by simp [hsz])) hl) (Xas 6 8 hcl (by kernel_rfl) hun) (Xan (by simp [hsz])) (by decide) hrow (by rfl)⟩
   rotate_left 1
   ·have hrow:=hC.row1 (s1:=6) (by first|simpa using hall|simp [hall]) (Xam hun) (Xan (by simp [hsz]))
    refine Xag 41 _ _ rfl (w1.heap.size) 8 [.slice x.1 (actP (aftS nilS L).holds date).length x.2] (.slice x.1 (actP (aftS nilS L).holds date).length x.2) (by simp [Act.eval,ev,evF,hall]) (by simp [Act.eval,ev,evF,hall]) (by rfl) _ _ hrow (by simp) (by kernel_rfl) (by simp [Value.oneCell']) ?_
    exact hK _ _ ⟨x,Xac (d:=none) (v:=undef) Xci ha rfl hun,hC.put2 hun (by first|simpa using hall|simp [hall]) (Xan (by simp [hsz])) (by decide) (by rfl)⟩
   all_goals
    unfold Oper.wp
    first
    |(simp [go_sem,ev,evF,hall,Oper.upon,y0,y1,y2,z8];exact hK _ _ ⟨x,Xax Xci ha rfl hun,hC.pure (by decide)⟩)
    |(simp [go_sem,ev,evF,Oper.upon,y0,y1,y2,z8];exact hK _ _ ⟨x,Xax Xci ha rfl hun,hC.pure (by decide)⟩)
  ·rintro x s' a' w10 hup ha hC
   obtain ⟨wb,hbW,hFin,hgr,hrow⟩:=hC.on (hup 6 (by decide))
   rw [if_pos (hup 8 (by decide))] at hrow
   simp only [ite_self] at hrow
   rw [Xa6 _ _ _ _ (fun i hi=>by rw [Nat.zero_add];exact hup i (by simpa using hi))] at ha
   subst ha
   simp only [fillAll,Act.put,List.setIfInBounds_toArray,List.set_cons_succ,List.set_cons_zero]
   obtain ⟨ah2,ch2⟩:=x
   dsimp only at hFin hgr hrow ⊢
   obtain ⟨y0,y1,y2,y3,y4,y5,y6,y7,y8⟩:=drB_row (d:=openP L date) hrow
   have M10:=Qh ((M8.out.quiet hbW).own hgr hJn2)
   have HO10:=Qh (hFin.kept hgr (.inr (hFin.ne_lt (by omega))))
   have hout:=M10.out.out
   go_wp2_with (refine Xab rfl rfl 43 _ _ rfl (w.heap.size+1) 0 (drCs (openP L date) (.slice none 0 0) (.slice ak2 (repQ L).cks.length ck2) (.slice at' (aftS nilS L).tree.length ct') (.slice ah2 (actP (aftS nilS L).holds date).length ch2)) (drV (openP L date) (.slice none 0 0) (.slice ak2 (repQ L).cks.length ck2) (.slice at' (aftS nilS L).tree.length ct') (.slice ah2 (actP (aftS nilS L).holds date).length ch2)) (by simp [Act.eval]) (by simp [Act.eval]) (by rfl) _ 43 hout (by simp) (by kernel_rfl) (by simp [Value.oneCell']) (drCs (openP L date) (.slice none 0 0) (.slice ak2 (repQ L).cks.length ck2) (.slice at' (aftS nilS L).tree.length ct') (.slice ah2 (actP (aftS nilS L).holds date).length ch2)).toArray (by rfl) ?_
                intro w11 hg11 hr11)
   refine bodyPost_ret (v:= .tuple #[drV (openP L date) (.slice none 0 0) (.slice ak2 (repQ L).cks.length ck2) (.slice at' (aftS nilS L).tree.length ct') (.slice ah2 (actP (aftS nilS L).holds date).length ch2),.int .i64 0]) ?_ rfl ?_
   ·rw [results_cell_tmp rfl]
    simp [asAddr,run_loadVar_row w11 (w.heap.size+1) 43 43 _ (0,0) _ hr11 Tryz.underlying43 rfl Hi9.out]
   ·have hok11:=M10.out.at_.ok.grown hg11 (fun g e=>by injection e with e;subst e;exact M10.out.no1)
    obtain ⟨J3,hx3,hok3,hr3',_⟩:=(HO10.out.kept hg11 (.inr (HO10.out.ne_lt (by omega)))).freeze hok11 (fun b hb=>M8.out.at_.ok.fresh hb)
    have hk3:=hx3.keep M8.out.at_.ok (Qn _)
    rw [Hn.out]
    exact ⟨_,_,_,_,J3,rfl,M10.out.at_.bel.grown hg11 M10.out.at_.size (fun k e=>by injection e with e;omega),M8.out.ext.trans hx3 (by omega),hok3,⟨RdS.nil _ _,hrk2.mono hk3,hrt2.mono hk3,hr3'⟩⟩
end Go.Proofs.YtmdfjnhfhidmhaaGreatDoor
