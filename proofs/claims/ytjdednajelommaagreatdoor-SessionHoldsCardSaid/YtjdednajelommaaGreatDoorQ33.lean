/-
  Walks and laws that the claim's theorem uses: texts SnL SnV, joined; comments out. Conditions: as each theorem says.
-/
import Derived.Test.YtjdednajelommaaGreatDoorQ32
set_option linter.unusedSimpArgs false
set_option linter.unusedVariables false
namespace Go.Proofs.YtjdednajelommaaGreatDoor
open Go.RowKit
set_option maxRecDepth 100000 in
set_option maxHeartbeats 1000000 in
theorem Xci (I:IH) (s:Ses) (v1 v2:Value) (hv1:RdS tEnt I v1 s.ents) (hv2:RdS tEnt I v2 s.ents) (w:World) (hw:Ok I w):
 Calls Tryz.prog 23 #[sesV s v1,sesV s v2] w fun e w'=>e= .returned (.bool true)∧Below w.heap.size w w':=by
 have He:=Qh (fun w hw=>Xcj I v1 v2 s.ents hv1 hv2 w hw)
 obtain ⟨ao,cap,rfl,_,_,_⟩:=id hv1
 obtain ⟨ao2,cap2,rfl,_,_,_⟩:=id hv2
 clear hv1 hv2
 go_enter Tryz.func23,Tryz.ntmps23
 go_wp2_with fail
 refine (He.out _ ((hw.alloc _).alloc _)).mono ?_
 rintro e1 w1 ⟨rfl,hb1⟩
 have hb:=(((Qb w.heap.size w).alloc (Qn _) (.cells #[.int .i64 s.num,.int .i64 s.date,S s.prev,.slice ao s.ents.length cap,S s.stream,S s.sl] 56)).alloc (by simp) (.cells #[.int .i64 s.num,.int .i64 s.date,S s.prev,.slice ao2 s.ents.length cap2,S s.stream,S s.sl] 56)).trans (hb1.mono (by simp;omega))
 go_wp2
 go_ret
 exact ⟨rfl,hb⟩
theorem Xcp (w:World) (a b:Array Value) (ta tb:TypeId) (W:World) (hW:(w.alloc (.cells a ta)).alloc (.cells b tb)=W):
 W.heap.size=w.heap.size+2∧W.heap[w.heap.size]? =some (.cells a ta (0,0))∧W.heap[w.heap.size+1]? =some (.cells b tb (0,0))∧Below w.heap.size w W:=by
 subst hW
 refine ⟨by simp,(Below.heap_alloc _ _ _ (by simp)).trans (heap_alloc_new w _),?_,((Qb _ _).alloc (Qn _) _).alloc (by simp) _⟩
 have h:=heap_alloc_new (w.alloc (.cells a ta)) (.cells b tb)
 rwa [World.size_alloc] at h
set_option maxRecDepth 100000 in
set_option maxHeartbeats 1000000 in
theorem Xjc (I:IH) (d:Drf) (ve vk vt vh ue uk ut uh:Value) (h1:DrRd I d ve vk vt vh) (h2:DrRd I d ue uk ut uh) (w:World) (hw:Ok I w):
 Calls Tryz.prog 20 #[drV d ve vk vt vh,drV d ue uk ut uh] w fun e w'=>e= .returned (.bool true)∧Below w.heap.size w w':=by
 have He:=Qh (fun w hw=>Xcj I ve ue d.ents h1.ents h2.ents w hw)
 have Hk:=Qh (fun w hw=>Xs8 I d.sto vk uk h1.cks h2.cks w hw)
 have Ht:=Qh (fun w hw=>Xcj I vt ut d.tree h1.tree h2.tree w hw)
 have Hh:=Qh (fun w hw=>Xo7 I vh uh d.holds d.holds h1.holds h2.holds w hw)
 rw [Qt (rfl:d.holds=d.holds)] at Hh
 obtain ⟨ao,ac,rfl,_,_,_⟩:=id h1.ents
 obtain ⟨bo,bc,rfl,_,_,_⟩:=id h1.cks
 obtain ⟨co,cc,rfl,_,_,_⟩:=id h1.tree
 obtain ⟨eo,ec,rfl,_,_,_⟩:=id h1.holds
 obtain ⟨ao',ac',rfl,_,_,_⟩:=id h2.ents
 obtain ⟨bo',bc',rfl,_,_,_⟩:=id h2.cks
 obtain ⟨co',cc',rfl,_,_,_⟩:=id h2.tree
 obtain ⟨eo',ec',rfl,_,_,_⟩:=id h2.holds
 obtain ⟨W,hW⟩:∃W,((w.alloc (.cells #[.int .i64 d.num,.int .i64 d.date,S d.prev,.slice ao d.ents.length ac,.slice bo d.sto.cks.length bc,.int .i64 d.sto.ses,S d.sto.str,.slice co d.tree.length cc,.slice eo d.holds.length ec] 46)).alloc (.cells #[.int .i64 d.num,.int .i64 d.date,S d.prev,.slice ao' d.ents.length ac',.slice bo' d.sto.cks.length bc',.int .i64 d.sto.ses,S d.sto.str,.slice co' d.tree.length cc',.slice eo' d.holds.length ec'] 46))=W:=⟨_,rfl⟩
 obtain ⟨hsz,r0,r1,hbW⟩:=Xcp w _ _ _ _ W hW
 have D0:=Qh (drB_row r0)
 have D1:=Qh (drB_row r1)
 have hokW:Ok I W:=by rw [←hW];exact (hw.alloc _).alloc _
 obtain ⟨a0,a1,a2,a3,a4,a5,a6,a7,a8⟩:=drB_row r0
 obtain ⟨b0,b1,b2,b3,b4,b5,b6,b7,b8⟩:=drB_row r1
 clear h1 h2 r0 r1
 go_enter Tryz.func20,Tryz.ntmps20
 go_wp2_with fail
 refine (He.out W hokW).mono ?_
 rintro e1 w1 ⟨rfl,hb1⟩
 have hok1:=hokW.below (Qn _) hb1
 have D0:=Qh (D0.out.thru hb1)
 have D1:=Qh (D1.out.thru hb1)
 have hbW:=hbW.trans (hb1.mono (by omega))
 clear a0 a1 a2 a3 a4 a5 a6 a7 a8 b0 b1 b2 b3 b4 b5 b6 b7 b8 hb1 hW He
 obtain ⟨a0,a1,a2,a3,a4,a5,a6,a7,a8⟩:=D0.out
 obtain ⟨b0,b1,b2,b3,b4,b5,b6,b7,b8⟩:=D1.out
 go_wp2_with fail
 refine (Hk.out w1 hok1).mono ?_
 rintro e2 w2 ⟨rfl,hb2⟩
 have hok2:=hok1.below (Qn _) hb2
 have D0:=Qh (D0.out.thru hb2)
 have D1:=Qh (D1.out.thru hb2)
 have hbW:=hbW.trans (hb2.mono hbW.size)
 clear a0 a1 a2 a3 a4 a5 a6 a7 a8 b0 b1 b2 b3 b4 b5 b6 b7 b8 hb2 Hk
 obtain ⟨a0,a1,a2,a3,a4,a5,a6,a7,a8⟩:=D0.out
 obtain ⟨b0,b1,b2,b3,b4,b5,b6,b7,b8⟩:=D1.out
 go_wp2_with fail
 refine (Ht.out w2 hok2).mono ?_
 rintro e3 w3 ⟨rfl,hb3⟩
 have hok3:=hok2.below (Qn _) hb3
 have D0:=Qh (D0.out.thru hb3)
 have D1:=Qh (D1.out.thru hb3)
 have hbW:=hbW.trans (hb3.mono hbW.size)
 clear a0 a1 a2 a3 a4 a5 a6 a7 a8 b0 b1 b2 b3 b4 b5 b6 b7 b8 hb3 Ht
 obtain ⟨a0,a1,a2,a3,a4,a5,a6,a7,a8⟩:=D0.out
 obtain ⟨b0,b1,b2,b3,b4,b5,b6,b7,b8⟩:=D1.out
 go_wp2_with fail
 refine (Hh.out w3 hok3).mono ?_
 rintro e4 w4 ⟨rfl,hb4⟩
 have hbW:=hbW.trans (hb4.mono hbW.size)
 go_wp2
 go_ret
 exact ⟨rfl,hbW⟩
set_option maxRecDepth 100000 in
set_option maxHeartbeats 1000000 in
theorem Xe8 (I:IH) (ai dt sp:Int) (L:List Ses) (v1 v2:Value) (hv1:RdS tSes I v1 L) (hv2:RdS tSes I v2 L) (w:World) (hw:Ok I w):
 Calls Tryz.prog 16 #[arcV ai dt sp v1,arcV ai dt sp v2] w fun e w'=>e= .returned (.bool true)∧Below w.heap.size w w':=by
 have hlen:=hv1.len_le
 obtain ⟨ao,cap,rfl,hcap,hcm,_⟩:=id hv1
 obtain ⟨ao2,cap2,rfl,hcap2,hcm2,_⟩:=id hv2
 have Hv1:=Qh hv1;clear hv1
 have Hv2:=Qh hv2;clear hv2
 obtain ⟨W,hW⟩:∃W,((w.alloc (.cells #[.int .u32 ai,.int .i64 dt,.int .i64 sp,.slice ao L.length cap] 30)).alloc (.cells #[.int .u32 ai,.int .i64 dt,.int .i64 sp,.slice ao2 L.length cap2] 30))=W:=⟨_,rfl⟩
 obtain ⟨hsz,r0,r1,hbW⟩:=Xcp w _ _ _ _ W hW
 have hokW:Ok I W:=by rw [←hW];exact (hw.alloc _).alloc _
 have a0:W.cell? ⟨w.heap.size,0,none⟩=some (.int .u32 ai):=(cell_of_row _ _ 0 _ _ _ r0).trans rfl
 have a1:W.cell? ⟨w.heap.size,1,none⟩=some (.int .i64 dt):=(cell_of_row _ _ 1 _ _ _ r0).trans rfl
 have a2:W.cell? ⟨w.heap.size,2,none⟩=some (.int .i64 sp):=(cell_of_row _ _ 2 _ _ _ r0).trans rfl
 have a3:W.cell? ⟨w.heap.size,3,none⟩=some (.slice ao L.length cap):=(cell_of_row _ _ 3 _ _ _ r0).trans rfl
 have b0:W.cell? ⟨w.heap.size+1,0,none⟩=some (.int .u32 ai):=(cell_of_row _ _ 0 _ _ _ r1).trans rfl
 have b1:W.cell? ⟨w.heap.size+1,1,none⟩=some (.int .i64 dt):=(cell_of_row _ _ 1 _ _ _ r1).trans rfl
 have b2:W.cell? ⟨w.heap.size+1,2,none⟩=some (.int .i64 sp):=(cell_of_row _ _ 2 _ _ _ r1).trans rfl
 have b3:W.cell? ⟨w.heap.size+1,3,none⟩=some (.slice ao2 L.length cap2):=(cell_of_row _ _ 3 _ _ _ r1).trans rfl
 have H0:=Qh a3
 have H1:=Qh b3
 have hneq:∀W,(binOp .neq 27 (.agg #[.int .i64 dt,.int .i64 sp]) (.agg #[.int .i64 dt,.int .i64 sp])).run Tryz.prog W= .ok (.bool false) W:=fun W=>by
  rw [Xc1 _ _ [(3,0,false),(3,1,false)] W (by kernel_rfl) (by kernel_rfl) (by kernel_rfl)]
  simp [go_sem]
 clear r0 r1
 go_enter Tryz.func16,Tryz.ntmps16
 go_wp2_with fail
 clear hW a0 a1 a2 a3 b0 b1 b2 b3
 go_loopw [5] (fun s5 wr=> ∃k:Nat,k≤L.length∧s5= .int .i64 k∧Below W.heap.size W wr) (fun i _=>L.length-(intOf i).toNat)
 case atStart=>exact ⟨0,Nat.zero_le _,rfl,Qb _ _⟩
 case round=>
  obtain ⟨k,hk,rfl,hb⟩:=hrel
  have z0:wr.cell? ⟨w.heap.size,3,none⟩=some (.slice ao L.length cap):=(hb.cell (by show w.heap.size<_;omega)).trans H0.out
  have z1:wr.cell? ⟨w.heap.size+1,3,none⟩=some (.slice ao2 L.length cap2):=(hb.cell (by show w.heap.size+1<_;omega)).trans H1.out
  have hbw:=hbW.trans (hb.mono hbW.size)
  by_cases hlt:k<L.length
  ·have hwr:Ok I wr:=hokW.below (Qn _) hb
   obtain ⟨x,ve,b,off,cap',hlx,hvv,⟨c0,c1,c2,c3,c4,c5⟩,h1⟩:=Xfn Hv1.out hwr k hlt
   cases hvv
   obtain ⟨y,vf,b',off',cap'',hly,hvv,⟨d0,d1,d2,d3,d4,d5⟩,h2⟩:=Xfn Hv2.out hwr k hlt
   cases hvv
   obtain rfl:x=y:=hlx.symm.trans hly
   have Hs:=Qh (fun w hw=>Xci I x ve vf h1 h2 w hw)
   obtain ⟨ax,cx,rfl,_,_,_⟩:=id h1
   obtain ⟨ay,cy,rfl,_,_,_⟩:=id h2
   clear hlx hly h1 h2
   go_wp2_with fail
   have z0:=cell_regrown z0
   have z1:=cell_regrown z1
   have c0:=cell_regrown c0
   have c1:=cell_regrown c1
   have c2:=cell_regrown c2
   have c3:=cell_regrown c3
   have c4:=cell_regrown c4
   have c5:=cell_regrown c5
   have d0:=cell_regrown d0
   have d1:=cell_regrown d1
   have d2:=cell_regrown d2
   have d3:=cell_regrown d3
   have d4:=cell_regrown d4
   have d5:=cell_regrown d5
   refine wp_region_quiet_below (by kernel_rfl) (by kernel_rfl) ?_
   repeat (go_big_quiet_step ((with_reducible exact Calls.regrown_of (Hs.out _ (hwr.below (Qn _) (below_regrown _ _ _))))))
   refine wpQuiet_nil ?_
   intro w2 hwq
   have hb2:Below (wr).heap.size (wr) w2:=by
    obtain ⟨pq,rfl⟩:=hwq
    exact below_regrown _ _ _
   clear hwq
   go_wp2
   go_roundw
   case rel=>exact ⟨k+1,by omega,by go_num,hb.trans (hb2.mono hb.size)⟩
   case measure=>simp [intOf];omega
  ·go_wp2
   go_ret
   exact ⟨rfl,hbw⟩
structure ArM (I:IH) (w0:World) (ai dt sp:Int) (vs:Value) (n1:Nat) (zr:Array Value) (ty:TypeId) (J:IH) (W:World):Prop where
 at_:MAt I w0 J W
 ext:Ext w0.heap.size I J
 no1:J n1=none
 a0:W.cell? ⟨w0.heap.size,0,none⟩=some (.int .u32 ai)
 a1:W.cell? ⟨w0.heap.size,1,none⟩=some (.int .i64 dt)
 a2:W.cell? ⟨w0.heap.size,2,none⟩=some (.int .i64 sp)
 a3:W.cell? ⟨w0.heap.size,3,none⟩=some vs
 out:W.heap[n1]? =some (.cells zr ty (0,0))
section
variable {I:IH} {w0:World} {ai dt sp:Int} {vs:Value} {n1:Nat} {zr:Array Value} {ty:TypeId} {J J':IH} {W W':World}
theorem ArM.lt (h:ArM I w0 ai dt sp vs n1 zr ty J W):n1<W.heap.size:=(Array.getElem?_eq_some_iff.1 h.out).1
theorem ArM.thru (h:ArM I w0 ai dt sp vs n1 zr ty J W) (hb:Below W.heap.size W W') (hx:Ext W.heap.size J J') (hok:Ok J' W'):ArM I w0 ai dt sp vs n1 zr ty J' W':=
 ⟨h.at_.ext hb hx hok,h.ext.trans hx h.at_.size,(hx _ h.lt).trans h.no1,Xaa hb h.a0,Xaa hb h.a1,Xaa hb h.a2,Xaa hb h.a3,(hb.block _ h.lt).trans h.out⟩
theorem ArM.quiet (h:ArM I w0 ai dt sp vs n1 zr ty J W) (hb:Below W.heap.size W W'):ArM I w0 ai dt sp vs n1 zr ty J W':=h.thru hb (Ext.refl _ _) (h.at_.ok.below (Qn _) hb)
theorem ArM.own (h:ArM I w0 ai dt sp vs n1 zr ty J W) {row:Option Nat} (hg:W.grownBy W' row) (hr:∀g,row=some g→J g=none∧w0.heap.size<g∧n1<g):ArM I w0 ai dt sp vs n1 zr ty J W':=by
 have hne:row≠some w0.heap.size:=fun e=>by have:=(hr _ e).2.1;omega
 exact ⟨⟨h.at_.ok.grown hg fun g e=>(hr g e).1,h.at_.keep,h.at_.bel.grown hg h.at_.size fun g e=>by have:=(hr g e).2.1;omega⟩,h.ext,h.no1,Xam hg hne h.a0,Xam hg hne h.a1,Xam hg hne h.a2,Xam hg hne h.a3,
  (hg.block _ h.lt (fun e=>by have:=(hr _ e.symm).2.2;omega)).trans h.out⟩
end
theorem Xl3 {I:IH} {w:World} (hw:Ok I w) (ai dt sp:Int) (vs:Value) (zr:Array Value) (ty:TypeId):ArM I w ai dt sp vs (w.heap.size+1) zr ty I ((w.alloc (.cells #[.int .u32 ai,.int .i64 dt,.int .i64 sp,vs] 30)).alloc (.cells zr ty)):=by
 obtain ⟨_,r0,r1,_⟩:=Xcp w #[.int .u32 ai,.int .i64 dt,.int .i64 sp,vs] zr 30 ty _ rfl
 exact ⟨((MAt.start hw).past _).past _,Ext.refl _ _,hw.fresh (by omega),(cell_of_row _ _ 0 _ _ _ r0).trans rfl,(cell_of_row _ _ 1 _ _ _ r0).trans rfl,(cell_of_row _ _ 2 _ _ _ r0).trans rfl,(cell_of_row _ _ 3 _ _ _ r0).trans rfl,r1⟩
theorem ArM.bad {I:IH} {w0:World} {ai dt sp:Int} {vs:Value} {J:IH} {W w9:World} (h:ArM I w0 ai dt sp vs (w0.heap.size+1) zeroD 46 J W) (hg:W.grownBy w9 (some (w0.heap.size+1))) {p:Drf × Int} {r:Int} (hp:p=(nilD,r)):
 RetDr I w0 p.1 p.2 (.returned (.tuple #[.agg zeroD,.int .i64 r])) w9:=by
 subst hp
 exact ⟨.slice none 0 0,.slice none 0 0,.slice none 0 0,.slice none 0 0,J,rfl,h.at_.bel.grown hg h.at_.size (fun k e=>by injection e with e;omega),h.ext,h.at_.ok.grown hg (fun g e=>by injection e with e;subst e;exact h.no1),⟨RdS.nil _ _,RdS.nil _ _,RdS.nil _ _,RdS.nil _ _⟩⟩
end Go.Proofs.YtjdednajelommaaGreatDoor
