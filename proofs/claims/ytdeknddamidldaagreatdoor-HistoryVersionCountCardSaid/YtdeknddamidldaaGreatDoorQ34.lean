/-
  Walks and laws that the claim's theorem uses: texts MkC AfC ItA ItB ItC, joined; comments out. Conditions: as each theorem says.
-/
import Derived.Test.YtdeknddamidldaaGreatDoorQ33
import Derived.RangeFuncNested
import Derived.RangeFuncLeaves
import Derived.Shelf.Abstract
import Derived.OwnWalkIn
import Derived.TacticsInMore
import Derived.LoopNIn
import Derived.LoopIn
namespace Go.Proofs.YtdeknddamidldaaGreatDoor
open Go.RowKit
theorem Xqo:SesG sA:=by
 refine ⟨by decide,by decide,by decide,by decide,fun e he=> ?_,fun e he=> ?_,fun e he=> ?_,fun e he=> ?_,by decide,by decide⟩<;>(have h:e=yA:=by simpa [sA] using he)<;>subst h
 ·exact Xvo
 ·decide
 ·decide
 ·decide
theorem Xv8:SmlT [yA]:=fun x hx=>by rw [List.mem_singleton.1 hx];exact ⟨by decide,by decide⟩
set_option maxRecDepth 100000 in
set_option maxHeartbeats 4000000 in
theorem Xm0 (I:IH) (v:Value) (hv:RdS tSes I v [sA]) (w:World) (hw:Ok I w) (cb:Nat) (hcb:w.heap[cb]? =some (.cells (chgRow 4 [97] []) 60 (0,0))):
 Calls Tryz.prog 30 #[v,.int .i64 6,.slice (some ⟨cb,0,none⟩) 1 1] w (RetS tSes I w [sA,sB]):=by
 have A0:=Qh ((MAt.start hw).past (.cells #[.int .i64 2,.int .i64 6,S [],.slice none 0 0,S [],S []] 47))
 have Hv:=Qh hv
 obtain ⟨ao,cap,rfl⟩:=hv.slN (n:=1) rfl
 have hlc:cb<w.heap.size:=(Array.getElem?_eq_some_iff.1 hcb).1
 have Haf:=Qh (fun J (hk:∀b c,I b=some c→J b=some c) W hW=>(show Calls Tryz.prog 49 #[.slice ao 1 cap,.int .i64 1] W (RetSt J W ⟨[yA],[]⟩) from by
  have h:=Xc3 J (.slice ao 1 cap) [sA] (hv.mono hk) (fun x hx=>by rw [List.mem_singleton.1 hx];exact Xqo) (by decide) 1 (Qn _) W hW
  rw [show ([sA]:List Ses).take 1= [sA] from rfl,Xsk] at h
  exact h))
 have XR:=heap_alloc_new w (.cells #[.int .i64 2,.int .i64 6,S [],.slice none 0 0,S [],S []] 47)
 obtain ⟨x,ve,b,off,cap',hlx,hvv,⟨c0,c1,c2,c3,c4,c5⟩,h1⟩:=Xdc hv A0.out.ok 0 (by decide)
 obtain ⟨oe,ce,rfl⟩:=h1.slN (n:=1) (by rw [←hlx];rfl)
 cases hvv
 rw [Nat.zero_mul,Nat.add_zero] at c0 c1 c2 c3 c4 c5
 have hd:decide ((6:Int)<x.date)=false:=by rw [←hlx];rfl
 have Hlx:=Qh (show sA=x from hlx)
 have Hdg:=Qh (fun W hW=>(show Calls Tryz.prog 34 #[sesV x (.slice oe 1 ce)] W _ from by have h:=Xdf I x (.slice oe 1 ce) h1 (by rw [←Hlx.out];exact Xqo) W hW;exact h))
 have g1:=cell_regrown c1
 have gx:=cell_regrown ((cell_of_row _ _ 1 _ _ _ XR).trans rfl:(w.alloc (.cells #[.int .i64 2,.int .i64 6,S [],.slice none 0 0,S [],S []] 47)).cell? ⟨w.heap.size,1,none⟩=some (.int .i64 6))
 clear hv hlx h1
 go_enter Tryz.func30,Tryz.ntmps30
 go_wp2_with fail
 refine wp_region_quiet_below (by kernel_rfl) (by kernel_rfl) ?_
 repeat (go_big_quiet_step ((fail)))
 refine wpQuiet_nil ?_
 intro w1 hwq
 have hb1:Below (w.alloc (.cells #[.int .i64 2,.int .i64 6,S [],.slice none 0 0,S [],S []] 47)).heap.size (w.alloc (.cells #[.int .i64 2,.int .i64 6,S [],.slice none 0 0,S [],S []] 47)) w1:=by
  obtain ⟨pq,rfl⟩:=hwq
  exact below_regrown _ _ _
 clear hwq
 have A1:=Qh (A0.out.quiet hb1)
 have hs1:=hb1.size
 rw [World.size_alloc] at hs1
 replace XR:=(hb1.block _ (by simp)).trans XR
 have CR:w1.heap[cb]? =some (.cells (chgRow 4 [97] []) 60 (0,0)):=(hb1.block _ (by simp;omega)).trans ((Below.heap_alloc _ _ _ hlc).trans hcb)
 replace c0:=Xaa hb1 c0
 replace c1:=Xaa hb1 c1
 replace c2:=Xaa hb1 c2
 replace c3:=Xaa hb1 c3
 replace c4:=Xaa hb1 c4
 replace c5:=Xaa hb1 c5
 clear hb1 g1 gx A0
 go_wp2_with fail
 refine (Hdg.out _ A1.out.ok).mono ?_
 rintro e2 w2 ⟨rfl,hb2⟩
 rw [←Hlx.out,show dirDig sA=((dirDig sA).1,0) from by rw [Xkh]]
 obtain ⟨dg,hdg⟩:∃dg,(dirDig sA).1=dg:=⟨_,rfl⟩
 rw [hdg]
 have Hdga:=Qh hdg
 have A2:=Qh (A1.out.quiet hb2)
 have hs2:=hb2.size
 replace XR:=(hb2.block _ (by omega)).trans XR
 replace CR:=(hb2.block _ (by omega)).trans CR
 clear hb2 A1 c0 c1 c2 c3 c4 c5 hdg
 have m2:w2.cell? ⟨w.heap.size,2,none⟩=some (S []):=(cell_of_row w2 _ 2 _ _ _ XR).trans rfl
 have fm2:=frozen_of_row w2 _ 2 _ _ XR
 go_wp2_with fail
 obtain ⟨w3,hw3⟩:∃w3,w2.setCell ⟨w.heap.size,2,none⟩ (S dg)=w3:=⟨_,rfl⟩
 have A3:=Qh (show MAt I w I w3 from ⟨by rw [←hw3];exact A2.out.ok.setCell (a:=⟨w.heap.size,2,none⟩) (hw.fresh (Qn _)) _,A2.out.keep,by rw [←hw3];exact A2.out.bel.setCell (p:=⟨w.heap.size,2,none⟩) (Qn _) _⟩)
 replace XR:w3.heap[w.heap.size]? =some (.cells #[.int .i64 2,.int .i64 6,S dg,.slice none 0 0,S [],S []] 47 (0,0)):=by rw [←hw3];exact heap_setCell_same w2 w.heap.size 2 _ _ _ XR
 replace CR:w3.heap[cb]? =_:=(by rw [←hw3];exact Below.heap_setCell _ _ _ _ (show cb≠w.heap.size by omega):w3.heap[cb]? =w2.heap[cb]?).trans CR
 have hs3:w3.heap.size=w2.heap.size:=by rw [←hw3];simp
 have hs3':w.heap.size<w3.heap.size:=by omega
 clear hs3 m2 fm2 A2 Hdg hd
 rw [show w2.setCell ⟨w.heap.size,2,none⟩ (.string ⟨dg.toArray⟩)=w3 from hw3]
 clear hw3
 refine (Haf.out I (fun _ _ h=>h) w3 A3.out.ok).mono ?_
 rintro e4 w4 ⟨vt,vh,I4,rfl,hb4,hx4,hok4,ht4,hh4⟩
 obtain ⟨t1,tc1,rfl⟩:=ht4.slN (n:=1) rfl
 obtain ⟨u1,uc1,rfl⟩:=hh4.slN (n:=0) rfl
 have A4:=Qh (A3.out.ext hb4 hx4 hok4)
 have hs4:=hb4.size
 replace XR:=(hb4.block _ (by omega)).trans XR
 replace CR:=(hb4.block _ (by omega)).trans CR
 have Hx4:=Qh (show Ext (w.heap.size+1) I I4 from hx4.mono (by omega))
 have Ht:=Qh ht4
 have Hh:=Qh hh4
 have Hk4:=Qh (hx4.keep A3.out.ok (Qn _))
 clear hb4 hx4 hok4 ht4 hh4 A3 Haf
 go_wp2_with fail
 refine (Xku I4 (.slice (some ⟨b,off,none⟩) 1 cap) (Hv.out.mono Hk4.out) 2 w4 A4.out.ok).mono ?_
 rintro e5 w5 ⟨vc5,I5,rfl,hb5,hx5,hok5,hr5⟩
 obtain ⟨a2,c2,rfl⟩:=hr5.slN (n:=1) rfl
 have A5:=Qh (A4.out.ext hb5 hx5 hok5)
 have hs5:=hb5.size
 replace XR:=(hb5.block _ (by omega)).trans XR
 replace CR:=(hb5.block _ (by omega)).trans CR
 have hkp5:=hx5.keep A4.out.ok (Qn _)
 have Hx5:=Qh (Hx4.out.trans hx5 (by omega))
 replace Ht:=Qh (Ht.out.mono hkp5)
 replace Hh:=Qh (Hh.out.mono hkp5)
 have Hr5:=Qh hr5
 clear hb5 hx5 hok5 hr5 A4 hkp5 Hx4 Hk4
 go_wp2_with fail
 obtain ⟨W3,hW3⟩:∃W3,(w5.alloc (.cells #[.slice t1 1 tc1,.slice u1 0 uc1] 69)).alloc (.cells #[.slice a2 1 c2,.int .i64 2,S []] 91)=W3:=⟨_,rfl⟩
 have A6:=Qh (show MAt I w I5 W3 by rw [←hW3];exact (A5.out.past _).past _)
 have hs6:w5.heap.size+1<W3.heap.size:=by rw [←hW3];simp
 replace XR:W3.heap[w.heap.size]? =_:=(by rw [←hW3];exact (Below.heap_alloc _ _ _ (by simp;omega)).trans (Below.heap_alloc _ _ _ (by omega)):W3.heap[w.heap.size]? =w5.heap[w.heap.size]?).trans XR
 replace CR:W3.heap[cb]? =_:=(by rw [←hW3];exact (Below.heap_alloc _ _ _ (by simp;omega)).trans (Below.heap_alloc _ _ _ (by omega)):W3.heap[cb]? =w5.heap[cb]?).trans CR
 have SR:W3.heap[w5.heap.size]? =some (.cells #[.slice t1 1 tc1,.slice u1 0 uc1] 69 (0,0)):=by rw [←hW3];exact (Below.heap_alloc _ _ _ (by simp)).trans (heap_alloc_new w5 _)
 have TR:W3.heap[w5.heap.size+1]? =some (.cells #[.slice a2 1 c2,.int .i64 2,S []] 91 (0,0)):=by
  rw [←hW3]
  have h:=heap_alloc_new (w5.alloc (.cells #[.slice t1 1 tc1,.slice u1 0 uc1] 69)) (.cells #[.slice a2 1 c2,.int .i64 2,S []] 91)
  rw [World.size_alloc] at h
  exact h
 change Code.wp _ _ _ _ ((w5.alloc (.cells #[.slice t1 1 tc1,.slice u1 0 uc1] 69)).alloc (.cells #[.slice a2 1 c2,.int .i64 2,S []] 91))
 rw [hW3]
 have hfs2:I5 w5.heap.size=none:=A5.out.ok.fresh (Qn _)
 have hft2:I5 (w5.heap.size+1)=none:=A5.out.ok.fresh (Nat.le_succ _)
 clear hW3 A5
 have k0:W3.cell? ⟨cb,0,none⟩=some (.int .i64 4):=(cell_of_row W3 _ 0 _ _ _ CR).trans rfl
 have k1:W3.cell? ⟨cb,1,none⟩=some (S [97]):=(cell_of_row W3 _ 1 _ _ _ CR).trans rfl
 have k2:W3.cell? ⟨cb,2,none⟩=some (.slice none 0 0):=(cell_of_row W3 _ 2 _ _ _ CR).trans rfl
 have k3:W3.cell? ⟨cb,3,none⟩=some (S []):=(cell_of_row W3 _ 3 _ _ _ CR).trans rfl
 have k4:W3.cell? ⟨cb,4,none⟩=some (S []):=(cell_of_row W3 _ 4 _ _ _ CR).trans rfl
 have j0:W3.cell? ⟨w5.heap.size+1,0,none⟩=some (.slice a2 1 c2):=(cell_of_row W3 _ 0 _ _ _ TR).trans rfl
 have j1:W3.cell? ⟨w5.heap.size+1,1,none⟩=some (.int .i64 2):=(cell_of_row W3 _ 1 _ _ _ TR).trans rfl
 have j2:W3.cell? ⟨w5.heap.size+1,2,none⟩=some (S []):=(cell_of_row W3 _ 2 _ _ _ TR).trans rfl
 have s0:W3.cell? ⟨w5.heap.size,0,none⟩=some (.slice t1 1 tc1):=(cell_of_row W3 _ 0 _ _ _ SR).trans rfl
 have s1:W3.cell? ⟨w5.heap.size,1,none⟩=some (.slice u1 0 uc1):=(cell_of_row W3 _ 1 _ _ _ SR).trans rfl
 have d1:W3.cell? ⟨w.heap.size,1,none⟩=some (.int .i64 6):=(cell_of_row W3 _ 1 _ _ _ XR).trans rfl
 have pst:∀ {a:Addr} {u:Value},W3.cell? a=some u→((W3.alloc (.cells (chgRow 4 [97] []) 60)).alloc (.cells #[.int .i64 4,S [97],.slice none 0 0,S [],.int .i64 0,S [],.slice none 0 0] 39)).cell? a=some u:=fun h=>Xab _ (Xab _ h)
 have pst3:∀ {a:Addr} {u:Value},W3.cell? a=some u→(((W3.alloc (.cells (chgRow 4 [97] []) 60)).alloc (.cells #[.int .i64 4,S [97],.slice none 0 0,S [],.int .i64 0,S [],.slice none 0 0] 39)).alloc (.cells #[.slice a2 1 c2,.int .i64 2,S []] 91)).cell? a=some u:=fun h=>Xab _ (pst h)
 have j0':=pst j0
 have j1':=pst j1
 have j2':=pst j2
 have s0':=pst3 s0
 have s1':=pst3 s1
 have d1':=pst3 d1
 have Hst:=Qh (fun W hW=>(show Calls Tryz.prog 35 #[.agg #[.slice t1 1 tc1,.slice u1 0 uc1],.agg #[.int .i64 4,S [97],.slice none 0 0,S [],.int .i64 0,S [],.slice none 0 0],.int .i64 6] W (RetT I5 W nilS 0) from by
  have h:=Xa5 I5 ⟨[yA],[]⟩ (.slice t1 1 tc1) (.slice u1 0 uc1) Ht.out Hh.out Xv8 (by decide) Xjy (by decide) yR (.slice none 0 0) (.slice none 0 0) (RdS.nil _ _) (RdS.nil _ _) Xvn (by decide) (by decide) 6 W hW
  rw [Xny] at h
  exact h))
 clear pst pst3
 refine wp_loop_rounds 2 ?_
 rw [rounds_succ]
 go_wp2_with fail
 refine (Hst.out _ (((A6.out.ok.alloc _).alloc _).alloc _)).mono ?_
 rintro e9 w9 ⟨v9,v8,I9,rfl,hb9,hx9,hok9,ht9,hh9⟩
 obtain ⟨a9,d9,rfl⟩:=ht9.slN (n:=0) rfl
 obtain ⟨a8,d8,rfl⟩:=hh9.slN (n:=0) rfl
 have A9:=Qh ((((A6.out.past _).past _).past _).ext hb9 hx9 hok9)
 have hs9:=hb9.size
 simp only [World.size_alloc] at hs9
 have thru:∀k,k<W3.heap.size→w9.heap[k]? =W3.heap[k]? :=fun k hk=>(hb9.block _ (by simp;omega)).trans ((Below.heap_alloc _ _ _ (by simp;omega)).trans ((Below.heap_alloc _ _ _ (by simp;omega)).trans (Below.heap_alloc _ _ _ hk)))
 replace XR:=(thru _ (by omega)).trans XR
 replace SR:=(thru _ (by omega)).trans SR
 replace TR:=(thru _ (by omega)).trans TR
 obtain ⟨bc,hbc⟩:∃bc,W3.heap.size=bc:=⟨_,rfl⟩
 have YR:w9.heap[bc+1]? =some (.cells #[.int .i64 4,S [97],.slice none 0 0,S [],.int .i64 0,S [],.slice none 0 0] 39 (0,0)):=by
  rw [←hbc]
  have h:=heap_alloc_new (W3.alloc (.cells (chgRow 4 [97] []) 60)) (.cells #[.int .i64 4,S [97],.slice none 0 0,S [],.int .i64 0,S [],.slice none 0 0] 39)
  rw [World.size_alloc] at h
  exact (hb9.block _ (by simp)).trans ((Below.heap_alloc _ _ _ (by simp)).trans h)
 have NR:w9.heap[bc+1+1]? =some (.cells #[.slice a2 1 c2,.int .i64 2,S []] 91 (0,0)):=by
  rw [←hbc]
  have h:=heap_alloc_new ((W3.alloc (.cells (chgRow 4 [97] []) 60)).alloc (.cells #[.int .i64 4,S [97],.slice none 0 0,S [],.int .i64 0,S [],.slice none 0 0] 39)) (.cells #[.slice a2 1 c2,.int .i64 2,S []] 91)
  rw [World.size_alloc,World.size_alloc] at h
  exact (hb9.block _ (by simp)).trans h
 have hlt9:bc+2<w9.heap.size:=by omega
 have hxs:∀k,k<W3.heap.size→I9 k=I5 k:=fun k hk=>hx9 k (by simp;omega)
 have hg5:I9 w.heap.size=none:=(hxs _ (by omega)).trans ((Hx5.out _ (Nat.lt_succ_self _)).trans (hw.fresh (Qn _)))
 have hgs:I9 w5.heap.size=none:=(hxs _ (by omega)).trans hfs2
 have hgt:I9 (w5.heap.size+1)=none:=(hxs _ (by omega)).trans hft2
 have HxI9:=Qh (Hx5.out.trans (hx9.mono (show W3.heap.size≤_ by simp;omega)) (by omega))
 have hs35:w5.heap.size+1<bc:=by omega
 rw [hbc]
 clear hb9 hx9 hok9 ht9 hh9 thru hxs k0 k1 k2 k3 k4 j0 j1 j2 j0' j1' j2' s0 s1 d1 s0' s1' d1' CR Hst A6 Hx5 hbc hfs2 hft2 Ht Hh
 have p0:w9.cell? ⟨bc+1+1,0,none⟩=some (.slice a2 1 c2):=(cell_of_row w9 _ 0 _ _ _ NR).trans rfl
 go_wp2_with fail
 obtain ⟨W10,hW10⟩:∃W10,w9.alloc (.cells #[.slice a9 0 d9,.slice a8 0 d8] 69)=W10:=⟨_,rfl⟩
 have o10:∀k,k<w9.heap.size→W10.heap[k]? =w9.heap[k]? :=fun k h1=>by rw [←hW10];exact Below.heap_alloc _ _ _ h1
 have AR:W10.heap[w9.heap.size]? =some (.cells #[.slice a9 0 d9,.slice a8 0 d8] 69 (0,0)):=by rw [←hW10];exact heap_alloc_new w9 _
 have A10:=Qh (show MAt I w I9 W10 by rw [←hW10];exact A9.out.past _)
 have hs10:w9.heap.size<W10.heap.size:=by rw [←hW10];simp
 replace XR:=(o10 _ (by omega)).trans XR
 replace SR:=(o10 _ (by omega)).trans SR
 replace TR:=(o10 _ (by omega)).trans TR
 replace NR:=(o10 _ (by omega)).trans NR
 replace YR:=(o10 _ (by omega)).trans YR
 change Code.wp _ _ _ _ (w9.alloc (.cells #[.slice a9 0 d9,.slice a8 0 d8] 69))
 rw [hW10]
 clear hW10 o10 A9 p0
 have z0:W10.cell? ⟨w9.heap.size,0,none⟩=some (.slice a9 0 d9):=(cell_of_row W10 _ 0 _ _ _ AR).trans rfl
 have z1:W10.cell? ⟨w9.heap.size,1,none⟩=some (.slice a8 0 d8):=(cell_of_row W10 _ 1 _ _ _ AR).trans rfl
 have p0:W10.cell? ⟨bc+1+1,0,none⟩=some (.slice a2 1 c2):=(cell_of_row W10 _ 0 _ _ _ NR).trans rfl
 have p1:W10.cell? ⟨bc+1+1,1,none⟩=some (.int .i64 2):=(cell_of_row W10 _ 1 _ _ _ NR).trans rfl
 have p2:W10.cell? ⟨bc+1+1,2,none⟩=some (S []):=(cell_of_row W10 _ 2 _ _ _ NR).trans rfl
 refine Xa3 (X:=Unit) (fun _=> [(some 112,.agg #[.slice a9 0 d9,.slice a8 0 d8]),(some 113,.agg #[.slice a2 1 c2,.int .i64 2,S []]),(none,undef),(none,undef)])
  (MkC W10 w5.heap.size (.slice a9 0 d9) (.slice a8 0 d8) (.slice t1 1 tc1) (.slice u1 0 uc1) #[.slice a2 1 c2,.int .i64 2,S []] #[.slice a2 1 c2,.int .i64 2,S []]) (by kernel_rfl) (by kernel_rfl) ?_ ?_ ?_
 ·exact ⟨(),MkC.start _ SR TR⟩
 ·rintro x s a' w' i hsz ha hC hi
  obtain ⟨hun,oi,hoi,hall⟩:=mem_ready.1 hi
  rcases i with _|_|_|_|i
  rotate_left 4
  ·simp at hoi
  all_goals
   have hoj:=hoi
   simp at hoi
   subst hoi
   simp [Region.binds] at hall
  ·have e18:a'.tmps[18]?.getD undef= .pointer (some ⟨w9.heap.size,0,none⟩):=Xbv ha (by simp)
   have z0':=hC.cell (by omega) (by omega) z0
   have z1':=hC.cell (by omega) (by omega) z1
   refine wpOp_step hoj (fun K' hK=> ?_)
   rw [if_pos (by rfl)]
   unfold Oper.wp
   simp [go_sem,e18,z0',z1',Oper.upon]
   exact hK _ _ ⟨(),Xaf (d:=some 112) (v:= .agg #[.slice a9 0 d9,.slice a8 0 d8]) Xa9 ha rfl hun,hC.step (by decide) (by decide)⟩
  ·have e14:a'.tmps[14]?.getD undef= .pointer (some ⟨bc+1+1,0,none⟩):=Xbv ha (by simp)
   have p0':=hC.cell (by omega) (by omega) p0
   have p1':=hC.cell (by omega) (by omega) p1
   have p2':=hC.cell (by omega) (by omega) p2
   refine wpOp_step hoj (fun K' hK=> ?_)
   rw [if_pos (by rfl)]
   unfold Oper.wp
   simp [go_sem,e14,p0',p1',p2',Oper.upon]
   exact hK _ _ ⟨(),Xaf (d:=some 113) (v:= .agg #[.slice a2 1 c2,.int .i64 2,S []]) Xa9 ha rfl hun,hC.step (by decide) (by decide)⟩
  ·have e9:a'.tmps[9]?.getD undef= .pointer (some ⟨w5.heap.size,0,none⟩):=Xbv ha (by simp)
   have e112:a'.tmps[112]?.getD undef= .agg #[.slice a9 0 d9,.slice a8 0 d8]:=Xaq (i:=0) Xa9 ha rfl (by first|simpa using hall|simpa using hall.1) (by simp)
   have hst:=hC.s0 (Xas hun)
   refine wpOp_step hoj (fun K' hK=> ?_)
   rw [if_pos (by rfl)]
   refine wp_store_row 69 _ _ rfl w5.heap.size #[.slice a9 0 d9,.slice a8 0 d8] (by simp [Act.eval,e9]) (by simp [Act.eval,e112]) 69 _ hst (by kernel_rfl) rfl (by simp [Value.oneCell']) ?_
   exact hK _ _ ⟨(),Xaf (d:=none) (v:=undef) Xa9 ha rfl hun,hC.at2 hun⟩
  ·have e10:a'.tmps[10]?.getD undef= .pointer (some ⟨w5.heap.size+1,0,none⟩):=Xbv ha (by simp)
   have e113:a'.tmps[113]?.getD undef= .agg #[.slice a2 1 c2,.int .i64 2,S []]:=Xaq (i:=1) Xa9 ha rfl (by simpa using hall.1) (by simp)
   have hst:=hC.t0 (Xas hun)
   refine wpOp_step hoj (fun K' hK=> ?_)
   rw [if_pos (by rfl)]
   refine wp_store_row 91 _ _ rfl (w5.heap.size+1) #[.slice a2 1 c2,.int .i64 2,S []] (by simp [Act.eval,e10]) (by simp [Act.eval,e113]) 91 _ hst (by kernel_rfl) rfl (by simp [Value.oneCell']) ?_
   exact hK _ _ ⟨(),Xaf (d:=none) (v:=undef) Xa9 ha rfl hun,hC.at3 hun⟩
 rintro x s a' W12 hup ha hC
 obtain ⟨SR',TR'⟩:=hC.done (hup 2 (by decide)) (hup 3 (by decide))
 rw [Xb8 _ _ _ _ (fun i hi=>by rw [Nat.zero_add];exact hup i (by simpa using hi))] at ha
 subst ha
 simp only [fillAll,Act.put]
 have A12:=Qh (hC.mat A10.out hgs hgt (by omega))
 have oth:∀k,k≠w5.heap.size→k≠w5.heap.size+1→W12.heap[k]? =W10.heap[k]? :=hC.oth
 have hs12:=hC.size
 replace XR:=(oth _ (by omega) (by omega)).trans XR
 replace YR:=(oth _ (by omega) (by omega)).trans YR
 clear hC hup oth SR TR A10 AR NR z0 z1 p0 p1 p2
 have y0:W12.cell? ⟨bc+1,0,none⟩=some (.int .i64 4):=(cell_of_row W12 _ 0 _ _ _ YR).trans rfl
 have y1:W12.cell? ⟨bc+1,1,none⟩=some (S [97]):=(cell_of_row W12 _ 1 _ _ _ YR).trans rfl
 have y2:W12.cell? ⟨bc+1,2,none⟩=some (.slice none 0 0):=(cell_of_row W12 _ 2 _ _ _ YR).trans rfl
 have y3:W12.cell? ⟨bc+1,3,none⟩=some (S []):=(cell_of_row W12 _ 3 _ _ _ YR).trans rfl
 have y4:W12.cell? ⟨bc+1,4,none⟩=some (.int .i64 0):=(cell_of_row W12 _ 4 _ _ _ YR).trans rfl
 have y5:W12.cell? ⟨bc+1,5,none⟩=some (S []):=(cell_of_row W12 _ 5 _ _ _ YR).trans rfl
 have y6:W12.cell? ⟨bc+1,6,none⟩=some (.slice none 0 0):=(cell_of_row W12 _ 6 _ _ _ YR).trans rfl
 have d3:W12.cell? ⟨w.heap.size,3,none⟩=some (.slice none 0 0):=(cell_of_row W12 _ 3 _ _ _ XR).trans rfl
 have fd3:=frozen_of_row W12 _ 3 _ _ XR
 have hyr:tEnt.rd I9 [.int .i64 4,S [97],.slice none 0 0,S [],.int .i64 0,S [],.slice none 0 0] yR:=⟨_,_,rfl,RdS.nil _ _,RdS.nil _ _⟩
 go_wp2_with (at_builtin;refine Xad (w0:=W12) Xau rfl _ _ rfl W12.heap.size (.slice none 0 0) [] rfl (OwnS.nil _ _ _ _ _) yR [.int .i64 4,S [97],.slice none 0 0,S [],.int .i64 0,S [],.slice none 0 0] _ (by first|rfl|simp [Act.eval]) hyr (by decide) (by decide) (Qn _) ?_;intro v13 w13 ho13 hg13;obtain ⟨g13,n13,k13,rfl⟩:=Xdz ho13;have d3':=Xam hg13 (by simp [Value.ownBlock]) d3;have fd3':=Xj4 hg13 (by simp [Value.ownBlock]) d3 fd3)
 have hbn:Below W12.heap.size W12 w13:=⟨hg13.os,hg13.tape,hg13.output,hg13.size,fun k hk=>hg13.block k hk (by simp [Value.ownBlock])⟩
 have hok13':Ok I9 w13:=A12.out.ok.below (Qn _) hbn
 obtain ⟨J13,hx13,hok13,hr13,_⟩:=ho13.freeze hok13' (fun b hb=>A12.out.ok.fresh hb)
 have hj0:J13 w.heap.size=none:=(hx13 _ (by omega)).trans hg5
 have A13:=A12.out.ext hbn hx13 hok13
 have HxI13:=Qh (HxI9.out.trans hx13 (by omega))
 have hs13:=hbn.size
 replace XR:=(hbn.block _ (by omega)).trans XR
 replace TR':=(hbn.block _ (by omega)).trans TR'
 obtain ⟨W14,hW14⟩:∃W14,w13.setCell ⟨w.heap.size,3,none⟩ (.slice (some ⟨g13,0,none⟩) n13 k13)=W14:=⟨_,rfl⟩
 have XR14:W14.heap[w.heap.size]? =some (.cells #[.int .i64 2,.int .i64 6,S dg,.slice (some ⟨g13,0,none⟩) n13 k13,S [],S []] 47 (0,0)):=by rw [←hW14];exact heap_setCell_same w13 w.heap.size 3 _ _ _ XR
 have TR14:W14.heap[w5.heap.size+1]? =_:=(by rw [←hW14];exact Below.heap_setCell _ _ _ _ (show w5.heap.size+1≠w.heap.size by omega):W14.heap[w5.heap.size+1]? =w13.heap[w5.heap.size+1]?).trans TR'
 have A14:=Qh (show MAt I w J13 W14 from ⟨by rw [←hW14];exact A13.ok.setCell (a:=⟨w.heap.size,3,none⟩) hj0 _,A13.keep,by rw [←hW14];exact A13.bel.setCell (p:=⟨w.heap.size,3,none⟩) (Qn _) _⟩)
 have Hr13:=Qh hr13
 change Code.rounds _ _ _ _ _ (w13.setCell ⟨w.heap.size,3,none⟩ (.slice (some ⟨g13,0,none⟩) n13 k13))
 rw [hW14]
 clear hW14 XR TR' A13 ho13 hg13 hbn hok13' hx13 hok13 hr13 d3 d3' fd3 fd3' y0 y1 y2 y3 y4 y5 y6 A12 HxI9 hyr
 have d4:W14.cell? ⟨w.heap.size,4,none⟩=some (S []):=(cell_of_row W14 _ 4 _ _ _ XR14).trans rfl
 have fd4:=frozen_of_row W14 _ 4 _ _ XR14
 have q2:W14.cell? ⟨w5.heap.size+1,2,none⟩=some (S []):=(cell_of_row W14 _ 2 _ _ _ TR14).trans rfl
 rw [rounds_succ]
 go_wp2_with fail
 obtain ⟨W15,hW15⟩:∃W15,W14.setCell ⟨w.heap.size,4,none⟩ (S [])=W15:=⟨_,rfl⟩
 have XR15:W15.heap[w.heap.size]? =some (.cells (sesRw sB (.slice (some ⟨g13,0,none⟩) n13 k13)) 47 (0,0)):=by
  have h:=heap_setCell_same W14 w.heap.size 4 _ _ (S []) XR14
  rw [←hW15,h,←Hdga.out]
  rfl
 have A15:=Qh (show MAt I w J13 W15 from ⟨by rw [←hW15];exact A14.out.ok.setCell (a:=⟨w.heap.size,4,none⟩) hj0 _,A14.out.keep,by rw [←hW15];exact A14.out.bel.setCell (p:=⟨w.heap.size,4,none⟩) (Qn _) _⟩)
 change Code.wp _ _ _ _ (W14.setCell ⟨w.heap.size,4,none⟩ (S []))
 rw [hW15]
 clear hW15 A14 d4 fd4 q2 XR14 TR14 YR
 have Hrow:RdS tEnt J13 (.slice (some ⟨g13,0,none⟩) n13 k13) sB.ents:=Hr13.out
 have hl13:RdS tSes J13 (.slice (some ⟨b,off,none⟩) 1 cap) [sA]:=Hv.out.mono A15.out.keep
 refine Xa3 (X:=A2X × Value) (mrL (.slice (some ⟨b,off,none⟩) 1 cap) sB (.slice (some ⟨g13,0,none⟩) n13 k13)) (MrC J13 W15 [sA] sB (sesRw sB (.slice (some ⟨g13,0,none⟩) n13 k13))) (by kernel_rfl) (by kernel_rfl) ?_ ?_ ?_
 ·exact ⟨(⟨0,0,undef,undef⟩,undef),A2C.start _ _,fun q=>(by rw [Xbn] at q;cases q)⟩
 ·rintro x s a' w' i hsz ha hC hi
  obtain ⟨hun,oi,hoi,hall⟩:=mem_ready.1 hi
  have hokw:Ok J13 w':=A15.out.ok.below (Qn _) hC.1.bel
  rcases i with _|_|_|_|_|_|_|i
  rotate_left 7
  ·simp at hoi
  all_goals
   have hoj:=hoi
   simp at hoi
   subst hoi
   simp [Region.binds] at hall
  ·have ha:=ha.trans (Xef (x:=x) (y:=({ x.1 with e:=w'.heap.size },x.2)) 0 (fun j hne=>by
    rcases j with _|_|_|_|_|_|_|j<;>first|rfl|(exact absurd rfl hne)|simp) hun)
   refine wpOp_step hoj (fun K' hK=> ?_)
   rw [if_pos (by rfl)]
   unfold Oper.wp
   simp [go_sem,Oper.upon]
   refine hK _ _ ⟨({ x.1 with e:=w'.heap.size },x.2),Xaf (d:=some 124) (v:= .slice (some ⟨w'.heap.size,0,none⟩) 0 0) Xaj ha rfl hun,hC.1.at0 hun (by decide),?_⟩
   rw [getD_set_ne false (by decide),getD_set_ne false (by decide)]
   exact hC.2
  ·have e0:a'.tmps[0]?.getD undef=(.slice (some ⟨b,off,none⟩) 1 cap):=Xbv ha (by simp)
   refine wpOp_step hoj (fun K' hK=> ?_)
   rw [if_pos (by rfl)]
   unfold Oper.wp
   simp [go_sem,e0,Oper.upon]
   exact hK _ _ ⟨x,Xaf (d:=some 125) (v:=(.slice (some ⟨b,off,none⟩) 1 cap)) Xaj ha rfl hun,hC.step (Qb _ _) (by decide) (by decide) (by decide) (by decide) (by decide)⟩
  ·have e124:a'.tmps[124]?.getD undef= .slice (some ⟨x.1.e,0,none⟩) 0 0:=Xaq (i:=0) Xaj ha rfl (by simpa using hall.1) (by simp)
   have e125:a'.tmps[125]?.getD undef=(.slice (some ⟨b,off,none⟩) 1 cap):=Xaq (i:=1) Xaj ha rfl (by simpa using hall.2) (by simp)
   have hs0:s.getD 0 false=true:=by simpa using hall.1
   refine wpOp_step hoj (fun K' hK=> ?_)
   rw [if_pos (by rfl)]
   refine Xbg Xdu _ _ rfl (by simp [Act.eval,e124]) (hC.1.p0 hs0 (Xas hun)) (by simp [Act.eval,e125]) (SrcS.of_rd (T:=tSes) hl13 hokw (by decide)) (by simp only [List.length_nil,List.length_cons];omega) (by simp only [List.length_nil,List.length_cons];omega) hC.1.bel.size ?_
   intro v' w'' ho hg hl
   have ha:=ha.trans (Xef (x:=x) (y:=({ x.1 with v1:=v' },x.2)) 2 (fun j hne=>by
    rcases j with _|_|_|_|_|_|_|j<;>first|rfl|(exact absurd rfl hne)|simp) hun)
   refine hK _ _ ⟨({ x.1 with v1:=v' },x.2),Xaf (d:=some 126) (v:=v') Xaj ha rfl hun,hC.1.at2 hun hs0 (by decide) ho hg hl,?_⟩
   rw [getD_set_ne false (by decide),getD_set_ne false (by decide)]
   exact hC.2
  ·have e8:a'.tmps[8]?.getD undef= .pointer (some ⟨w.heap.size,0,none⟩):=Xbv ha (by simp)
   have hr:w'.heap[w.heap.size]? =some (.cells (sesRw sB (.slice (some ⟨g13,0,none⟩) n13 k13)) 47 (0,0)):=(hC.1.bel.block _ (Array.getElem?_eq_some_iff.1 XR15).1).trans XR15
   obtain ⟨m0,m1,m2,m3,m4,m5⟩:=(show SesB w' w.heap.size sB (.slice (some ⟨g13,0,none⟩) n13 k13) from ⟨(cell_of_row w' _ 0 _ _ _ hr).trans rfl,(cell_of_row w' _ 1 _ _ _ hr).trans rfl,(cell_of_row w' _ 2 _ _ _ hr).trans rfl,(cell_of_row w' _ 3 _ _ _ hr).trans rfl,(cell_of_row w' _ 4 _ _ _ hr).trans rfl,(cell_of_row w' _ 5 _ _ _ hr).trans rfl⟩)
   refine wpOp_step hoj (fun K' hK=> ?_)
   rw [if_pos (by rfl)]
   unfold Oper.wp
   simp [go_sem,e8,m0,m1,m2,m3,m4,m5,Oper.upon]
   exact hK _ _ ⟨x,Xaf (d:=some 127) (v:=sesV sB (.slice (some ⟨g13,0,none⟩) n13 k13)) Xaj ha rfl hun,hC.step (Qb _ _) (by decide) (by decide) (by decide) (by decide) (by decide)⟩
  ·have e127:a'.tmps[127]?.getD undef=sesV sB (.slice (some ⟨g13,0,none⟩) n13 k13):=Xaq (i:=3) Xaj ha rfl (by simpa using hall) (by simp)
   have ha:=ha.trans (Xef (x:=x) (y:=({ x.1 with b:=w'.heap.size },x.2)) 4 (fun j hne=>by
    rcases j with _|_|_|_|_|_|_|j<;>first|rfl|(exact absurd rfl hne)|simp) hun)
   refine wpOp_step hoj (fun K' hK=> ?_)
   rw [if_pos (by rfl)]
   unfold Oper.wp
   simp [go_sem,e127,Oper.upon]
   refine hK _ _ ⟨({ x.1 with b:=w'.heap.size },x.2),Xaf (d:=some 128) (v:= .slice (some ⟨w'.heap.size,0,none⟩) 1 1) Xaj ha rfl hun,hC.1.at4 hun (by decide),?_⟩
   rw [getD_set_ne false (by decide),getD_set_ne false (by decide)]
   exact hC.2
  ·have e126:a'.tmps[126]?.getD undef=x.1.v1:=Xaq (i:=2) Xaj ha rfl (by simpa using hall.1) (by simp)
   have e128:a'.tmps[128]?.getD undef= .slice (some ⟨x.1.b,0,none⟩) 1 1:=Xaq (i:=4) Xaj ha rfl (by first|simpa using hall.2|simpa using hall.2.1) (by simp)
   have hs2:s.getD 2 false=true:=by simpa using hall.1
   have hs4:s.getD 4 false=true:=by first|simpa using hall.2|simpa using hall.2.1
   refine wpOp_step hoj (fun K' hK=> ?_)
   rw [if_pos (by rfl)]
   refine Xbg Xdu _ _ rfl (by simp [Act.eval,e126]) (hC.1.p2 hs2 (Xas hun)) (by simp [Act.eval,e128]) (SrcS.of_one (T:=tSes) (x:=sB) (cs:=sesCs sB (.slice (some ⟨g13,0,none⟩) n13 k13)) ⟨_,rfl,Hrow⟩ (fun j u hu=>(cell_of_row w' _ j _ _ _ (hC.1.p4 hs4 (Xas hun))).trans (by simpa using hu))) (by simp only [List.length_nil,List.length_cons];omega) (by simp only [List.length_nil,List.length_cons];omega) hC.1.bel.size ?_
   intro v' w'' ho hg _
   have hu6:s.getD 6 false=false:=by
    cases q:s.getD 6 false with
    |false=>rfl
    |true=>have:=(hC.2 q).1;rw [Xas hun] at this;cases this
   have ha:=ha.trans (Xef (x:=x) (y:=({ x.1 with v2:=v' },x.2)) 5 (fun j hne=>by
    rcases j with _|_|_|_|_|_|_|j<;>first|rfl|(exact absurd rfl hne)|simp) hun)
   refine hK _ _ ⟨({ x.1 with v2:=v' },x.2),Xaf (d:=some 129) (v:=v') Xaj ha rfl hun,hC.1.at5 hun hs2 hs4 (by decide) ho hg,?_⟩
   rw [getD_set_ne false (by decide),hu6]
   intro q
   cases q
  ·have e129:a'.tmps[129]?.getD undef=x.1.v2:=Xaq (i:=5) Xaj ha rfl (by first|simpa using hall|simpa using hall.1) (by simp)
   have hs5:s.getD 5 false=true:=by first|simpa using hall|simpa using hall.1
   have ha:=ha.trans (Xef (x:=x) (y:=(x.1,x.1.v2)) 6 (fun j hne=>by
    rcases j with _|_|_|_|_|_|_|j<;>first|rfl|(exact absurd rfl hne)|simp) hun)
   refine wpOp_step hoj (fun K' hK=> ?_)
   rw [if_pos (by rfl)]
   unfold Oper.wp
   simp [go_sem,e129,Oper.upon]
   refine hK _ _ ⟨(x.1,x.1.v2),Xaf (d:=some 6) (v:=x.1.v2) Xaj ha rfl hun,hC.1.step (Qb _ _) (by decide) (by decide) (by decide) (by decide),fun _=>⟨?_,rfl⟩⟩
   rw [getD_set_ne false (by decide)]
   exact hs5
 rintro ⟨x,v16⟩ s a' w16 hup ha hC
 obtain ⟨_,hv16⟩:=hC.2 (hup 6 (by decide))
 have ho16:=hC.1.p5 (hup 5 (by decide))
 have hb16:=hC.1.bel
 dsimp only at hv16 ho16
 rw [←hv16] at ho16
 have hok16:Ok J13 w16:=A15.out.ok.below (Qn _) hb16
 obtain ⟨J16,hx16,hok16',hr16,_⟩:=ho16.freeze hok16 (fun b hb=>A15.out.ok.fresh hb)
 rw [Xb8 _ _ _ _ (fun i hi=>by rw [Nat.zero_add];exact hup i (by simpa using hi))] at ha
 subst ha
 simp only [fillAll,Act.put]
 have A16:=A15.out.ext hb16 hx16 hok16'
 clear hC hup
 simp only [List.setIfInBounds_toArray,List.set_cons_zero,List.set_cons_succ]
 go_wp2
 go_ret
 exact ⟨_,J16,rfl,A16.bel,(HxI13.out.mono (Nat.le_succ _)).trans hx16 A15.out.size,A16.ok,hr16⟩
theorem Xg2 (num d:Int) (p:Bytes):∀(a b:List Ent) (s:Stt),verS num d p s (a++b)=verS num d p s a++verS num d p (runS s d a) b
 | [],_,_=>rfl
 |e::a,b,s=>by rw [List.cons_append,verS,verS,Xg2 num d p a b,List.append_assoc];rfl
theorem Xss (num d:Int) (p:Bytes) (s:Stt) (e:Ent):verS num d p s [e]=if verHit s p e then [⟨num,d,e⟩] else []:=by
 rw [verS,verS,List.append_nil]
theorem Xqe {num d:Int} {p:Bytes} {s:Stt} {l:List Ent} {k:Nat} (hk:k<l.length) {e:Ent} (he:l[k]=e):
 verS num d p s (l.take (k+1))=verS num d p s (l.take k)++if verHit (runS s d (l.take k)) p e then [⟨num,d,e⟩] else []:=by
 rw [List.take_succ_eq_append_getElem hk,he,Xg2,Xss]
theorem Xg3 (p:Bytes):∀(a b:List Ses) (s:Stt),verFrom p s (a++b)=verFrom p s a++verFrom p (aftS s a) b
 | [],_,_=>rfl
 |x::a,b,s=>by rw [List.cons_append,verFrom,verFrom,Xg3 p a b,List.append_assoc];rfl
theorem Xqf {p:Bytes} {s:Stt} {l:List Ses} {k:Nat} (hk:k<l.length) {x:Ses} (hx:l[k]=x):
 verFrom p s (l.take (k+1))=verFrom p s (l.take k)++verS x.num x.date p (aftS s (l.take k)) x.ents:=by
 rw [List.take_succ_eq_append_getElem hk,hx,Xg3,verFrom,verFrom,List.append_nil]
theorem Xjc (num d:Int) (p:Bytes):∀(l:List Ent) (s:Stt),(verS num d p s l).length≤l.length
 | [],_=>Qn _
 |e::l,s=>by
  have:=Xjc num d p l (stpP s e d).1
  rw [verS,List.length_append,List.length_cons]
  split<;>simp<;>omega
theorem Xn5 (p:Bytes):∀(l:List Ses) (s:Stt),(∀x∈l,x.ents.length≤30)→(verFrom p s l).length≤30*l.length
 | [],_,_=>Qn _
 |x::l,s,h=>by
  have h1:=h x (List.mem_cons_self ..)
  have h2:=Xn5 p l (runS s x.date x.ents) fun y hy=>h y (List.mem_cons_of_mem _ hy)
  have h3:=Xjc x.num x.date p x.ents s
  rw [verFrom,List.length_append,List.length_cons]
  omega
abbrev verCs (x:Ver) (va vx:Value):List Value:= [.int .i64 x.s,.int .i64 x.d,.int .i64 x.e.kind,S x.e.path,va,S x.e.target,.int .i64 x.e.size,S x.e.digest,vx]
def tVer:Ty Ver where
 size:=9
 rd:=fun I cs x=> ∃va vx,cs=verCs x va vx∧RdS tAt I va x.e.attrs∧RdS tXt I vx x.e.exts
 len:=fun ⟨_,_,h,_⟩=>by rw [h];rfl
 one:=fun ⟨va,vx,h,h1,h2⟩ u hu=>by
  rw [h] at hu
  simp at hu
  rcases hu with rfl|rfl|rfl|rfl|rfl|rfl|rfl|rfl|rfl<;>first|rfl|exact h1.one|exact h2.one
 mono:=fun hI ⟨va,vx,h,h1,h2⟩=>⟨va,vx,h,h1.mono hI,h2.mono hI⟩
theorem Xsr:(Tryz.prog.info? 43).map (fun i=>(i.zero,i.size,i.bytes))=some (some (.agg #[.int .i64 0,.int .i64 0,.int .i64 0,.string ⟨#[]⟩,.slice none 0 0,.string ⟨#[]⟩,.int .i64 0,.string ⟨#[]⟩,.slice none 0 0]),9,128):=by kernel_rfl
theorem Xgj:ElemOk Tryz.prog 30 43 tVer 128:=ElemOk.of Tryz.underlying30 Xsr rfl (by decide) rfl
structure GatV (B nS:Nat) (J:IH) (W:World) (vo:Value) (out:List Ver):Prop where
 own:OwnS tVer 43 J W B vo out
 ne:vo.ownBlock≠some nS
 apart:∀g,vo.ownBlock=some g→J g=none
section
variable {B nS:Nat} {J J':IH} {W W':World} {vo vo':Value} {out out':List Ver}
theorem Xjq {g:Nat} (h:OwnS tVer 43 J W B vo out) (hg:vo.ownBlock=some g):B≤g∧g<W.heap.size:=by
 obtain ⟨xs,h1,_⟩:=h
 exact h1.lt g hg
theorem GatV.below (h:GatV B nS J W vo out) (hb:Below W.heap.size W W'):GatV B nS J W' vo out:=⟨h.own.below hb,h.ne,h.apart⟩
theorem GatV.past (h:GatV B nS J W vo out) (o:Obj):GatV B nS J (W.alloc o) vo out:=h.below ((Qb _ _).alloc (Qn _) o)
theorem GatV.ext (h:GatV B nS J W vo out) (hb:Below W.heap.size W W') (hw:Ok J W) (hx:Ext W.heap.size J J'):GatV B nS J' W' vo out:=
 ⟨(h.own.below hb).mono (hx.keep hw (Qn _)),h.ne,fun g hg=>(hx g (Xjq h.own hg).2).trans (h.apart g hg)⟩
theorem GatV.set (h:GatV B nS J W vo out) (u v:Value):GatV B nS J ((W.setCell ⟨nS,0,none⟩ u).setCell ⟨nS,1,none⟩ v) vo out:=by
 have key:∀(X:World) (j:Nat) (y:Value),OwnS tVer 43 J X B vo out→OwnS tVer 43 J (X.setCell ⟨nS,j,none⟩ y) B vo out:=fun X j y hX=>
  hX.kept (row:=some nS) ⟨rfl,rfl,rfl,by simp,fun k _ hk=>heap_setCell_other X ⟨nS,j,none⟩ k y (fun e=>hk (by simp [e]))⟩ (.inr h.ne)
 exact ⟨key _ 1 v (key W 0 u h.own),h.ne,h.apart⟩
theorem GatV.added (h:GatV B nS J W vo out) (hok:Ok J W) (hS:nS<W.heap.size) (ho:OwnS tVer 43 J W' B vo' out') (hl:∀g,vo'.ownBlock=some g→vo.ownBlock=some g∨W.heap.size≤g):GatV B nS J W' vo' out':=by
 refine ⟨ho,fun e=> ?_,fun g hk=> ?_⟩
 ·rcases hl _ e with h1|h1
  ·exact h.ne h1
  ·omega
 ·rcases hl g hk with h1|h1
  ·exact h.apart g h1
  ·exact hok.fresh h1
theorem GatV.okG (h:GatV B nS J W vo out) (hok:Ok J W) (hg:W.grownBy W' vo.ownBlock):Ok J W':=hok.grown hg fun g hk=>h.apart g hk
theorem GatV.stm {T:TypeId} {s:Stt} {vt vh:Value} (h:GatV B nS J W vo out) (hs:StM T nS J W s vt vh) (hg:W.grownBy W' vo.ownBlock):StM T nS J W' s vt vh:=
 ⟨(hg.block _ hs.lt (fun e=>h.ne e.symm)).trans hs.row,hs.tree,hs.holds,h.okG hs.ok hg,hs.free⟩
end
theorem SesB.own {W W':World} {b:Nat} {s:Ses} {ve:Value} {r:Option Nat} (h:SesB W b s ve) (hg:W.grownBy W' r) (hne:r≠some b):SesB W' b s ve:=
 ⟨Xam hg hne h.c0,Xam hg hne h.c1,Xam hg hne h.c2,Xam hg hne h.c3,Xam hg hne h.c4,Xam hg hne h.c5⟩
theorem Xgn {s:Stt} {p:Bytes} {e:Ent} (h:e.kind≤3):verHit s p e=(e.path==p):=by
 unfold verHit
 rw [Qt h,show (e.kind==4)=false by simp;omega]
 simp
theorem Xj1 {s:Stt} {p:Bytes} {e:Ent} (h:e.kind=4):verHit s p e=((getT s.tree p).isSome&&under p e.path):=by
 unfold verHit
 rw [Qf (show ¬e.kind≤3 by omega),show (e.kind==4)=true by simp [h]]
 simp
theorem Xoi {s:Stt} {p:Bytes} {e:Ent} (h:4<e.kind):verHit s p e=false:=by
 unfold verHit
 rw [Qf (show ¬e.kind≤3 by omega),show (e.kind==4)=false by simp;omega]
 simp
theorem Xgr {W:World} {k:Nat} {c:Array Value} {e:TypeId} {f:Nat × Nat} {row:Option Nat} (hk:W.heap[k]? =some (.cells c e f)) (hr:∀r,row=some r→ ∃o:Obj,W.heap[r]? =some o∧o.isCells=false):row≠some k:=by
 intro e'
 obtain ⟨o,ho,hc⟩:=hr k e'
 rw [hk] at ho
 cases ho
 cases hc
theorem Ok.turn {I:IH} {W W':World} {row:Option Nat} (h:Ok I W) (hg:W.grownBy W' row) (hr:∀r,row=some r→ ∃o:Obj,W.heap[r]? =some o∧o.isCells=false):Ok I W':=fun b c hb=>by
 obtain ⟨e,f,hh⟩:=h b c hb
 exact ⟨e,f,(hg.block b (Array.getElem?_eq_some_iff.1 hh).1 (fun e'=>Xgr hh hr e'.symm)).trans hh⟩
theorem StM.turn {T:TypeId} {n:Nat} {J:IH} {W W':World} {s:Stt} {vt vh:Value} {row:Option Nat} (h:StM T n J W s vt vh) (hg:W.grownBy W' row) (hr:∀r,row=some r→ ∃o:Obj,W.heap[r]? =some o∧o.isCells=false):StM T n J W' s vt vh:=
 ⟨(hg.block n h.lt (fun e'=>Xgr h.row hr e'.symm)).trans h.row,h.tree,h.holds,h.ok.turn hg hr,h.free⟩
theorem Below.turn {n:Nat} {w W W':World} {row:Option Nat} {B:Nat} (h:Below n w W) (hn:n≤w.heap.size) (hB:n≤B) (hg:W.grownBy W' row) (hr:∀r,row=some r→B≤r∧ ∃o:Obj,W.heap[r]? =some o∧o.isCells=false):Below n w W':=
 h.grown hg (Nat.le_trans hn h.size) (fun k e=>Nat.le_trans hB (hr k e).1)
structure KpS (n₀:Nat) (T:TypeId) (W W':World):Prop where
 below:Below n₀ W W'
 ses:∀(k:Nat) (c:Array Value) (f:Nat × Nat),W.heap[k]? =some (.cells c T f)→W'.heap[k]? =some (.cells c T f)
section
variable {n₀:Nat} {T:TypeId} {W W' W'':World}
theorem KpS.refl (W:World):KpS n₀ T W W:=⟨Qb _ _,fun _ _ _ h=>h⟩
theorem KpS.trans (h:KpS n₀ T W W') (k:KpS n₀ T W' W''):KpS n₀ T W W'':=⟨h.below.trans k.below,fun i c f hi=>k.ses i c f (h.ses i c f hi)⟩
theorem KpS.of_below (hb:Below W.heap.size W W') (hn:n₀≤W.heap.size):KpS n₀ T W W':=
 ⟨hb.mono hn,fun k _ _ h=>(hb.block k (Array.getElem?_eq_some_iff.1 h).1).trans h⟩
theorem KpS.alloc (hn:n₀≤W.heap.size) (o:Obj):KpS n₀ T W (W.alloc o):=KpS.of_below ((Qb _ _).alloc (Qn _) o) hn
theorem KpS.setCell {n:Nat} {c:Array Value} {T':TypeId} {f:Nat × Nat} (hrow:W.heap[n]? =some (.cells c T' f)) (hT:T'≠T) (hn:n₀≤n) (j:Nat) (u:Value):KpS n₀ T W (W.setCell ⟨n,j,none⟩ u):=
 ⟨(Qb n₀ W).setCell (p:=⟨n,j,none⟩) hn u,fun k c' f' h=>(Below.heap_setCell W ⟨n,j,none⟩ u k (fun e=>by
   have e':k=n:=by first|exact e|exact e.symm
   subst e'
   rw [hrow] at h
   cases h
   exact hT rfl)).trans h⟩
theorem KpS.put {w:World} (hn:n₀≤w.heap.size) (W:World) (l:Nat) (o o':Obj) (hl:w.heap.size≤l) (h:W.heap[l]? =some o) (hc:o.isCells=false) (hw:o.isWalk=false):KpS n₀ T W (W.putObj l o'):=
 ⟨belowK_b hn W l o o' hl h hc hw,fun k c f hk=>by
   have hne:k≠l:=by
    intro e
    subst e
    rw [h] at hk
    cases hk
    cases hc
   exact (World.putObj_heap_other hne).trans hk⟩
theorem KpS.grown {row:Option Nat} (hg:W.grownBy W' row) (hn:n₀≤W.heap.size) (hr:∀g,row=some g→n₀≤g∧ ∀c f,W.heap[g]? ≠some (.cells c T f)):KpS n₀ T W W':=
 ⟨(Qb n₀ W).grown hg hn (fun k e=>(hr k e).1),fun k c f h=>(hg.block k (Array.getElem?_eq_some_iff.1 h).1 (fun e=>(hr k e.symm).2 c f h)).trans h⟩
end
theorem KeepsFrom.of_below {B:Nat} {W W':World} (hb:Below W.heap.size W W'):KeepsFrom B W W':=⟨hb.size,fun k _ _ h _=>(hb.block k (Array.getElem?_eq_some_iff.1 h).1).trans h⟩
theorem KeepsFrom.setCellK {B:Nat} (W:World) (p:Addr) (u:Value):KeepsFrom B W (W.setCell p u):=(KeepsOthers.setCell W p u).from B
structure YP where
 s:Ses
 e:Ent
 ve:Value
 va:Value
 vx:Value
structure YP.In (I:IH) (L:List Ses) (y:YP):Prop where
 ses:y.s∈L
 g:SesG y.s
 mem:y.e∈y.s.ents
 ve:RdS tEnt I y.ve y.s.ents
 va:RdS tAt I y.va y.e.attrs
 vx:RdS tXt I y.vx y.e.exts
abbrev YS (I:IH) (L:List Ses):= { y:YP // y.In I L }
def YS.key {I:IH} {L:List Ses} (y:YS I L):Ses × Ent:=(y.1.s,y.1.e)
def YS.enc {I:IH} {L:List Ses} (y:YS I L):Array Value:= #[sesV y.1.s y.1.ve,entV y.1.e y.1.va y.1.vx]
def keys {I:IH} {L:List Ses} (l:List (YS I L)):List (Ses × Ent):=l.map YS.key
theorem Xhr {I:IH} {L:List Ses} (l:List (YS I L)) (y:YS I L):keys (l++ [y])=keys l++ [(y.1.s,y.1.e)]:=by simp [keys,YS.key]
theorem Xju {I:IH} {L:List Ses} (l:List (YS I L)):(keys l).length=l.length:=by simp [keys]
theorem Xux {I:IH} {L:List Ses} (l:List (YS I L)):∀q∈keys l,q.2.path.length≤300∧q.2.target.length≤300:=fun q hq=>by
 obtain ⟨y,_,rfl⟩:=List.mem_map.1 hq
 exact ⟨y.2.g.path _ y.2.mem,y.2.g.target _ y.2.mem⟩
theorem Xpm {l:List Ses} {k:Nat} (hk:k<l.length) {x:Ses} (hx:l[k]=x):pairs (l.take (k+1))=pairs (l.take k)++x.ents.map fun e=>(x,e):=by
 rw [List.take_succ_eq_append_getElem hk,hx]
 simp [pairs]
theorem Xtj {x:Ses} {k:Nat} (hk:k<x.ents.length) {e:Ent} (he:x.ents[k]=e):(x.ents.take (k+1)).map (fun e=>(x,e))=(x.ents.take k).map (fun e=>(x,e))++ [(x,e)]:=by
 rw [List.take_succ_eq_append_getElem hk,he]
 simp
theorem Xow {I:IH} {L:List Ses} (l:List (YS I L)):SIn l.length ((keys l).foldl stq nilS):=by
 have:=Xok (keys l) Xg8 (Xux l)
 rw [Xju,Nat.zero_add] at this
 exact this
end Go.Proofs.YtdeknddamidldaaGreatDoor
namespace Go.Proofs.YtdeknddamidldaaGreatDoor
open Go.RowKit Go.Shelf
attribute [local go_sem] Oper.semAt_some
abbrev sesRow (s:Ses) (ve:Value):Array Value:= #[.int .i64 s.num,.int .i64 s.date,S s.prev,ve,S s.stream,S s.sl]
theorem sesB_row {W:World} {b:Nat} {s:Ses} {ve:Value} {t:TypeId} (h:W.heap[b]? =some (.cells (sesRow s ve) t (0,0))):SesB W b s ve:=
 ⟨(cell_of_row W _ 0 _ _ _ h).trans rfl,(cell_of_row W _ 1 _ _ _ h).trans rfl,(cell_of_row W _ 2 _ _ _ h).trans rfl,(cell_of_row W _ 3 _ _ _ h).trans rfl,(cell_of_row W _ 4 _ _ _ h).trans rfl,(cell_of_row W _ 5 _ _ _ h).trans rfl⟩
theorem entB_row {W:World} {b:Nat} {e:Ent} {va vx:Value} {t:TypeId} (h:W.heap[b]? =some (.cells (entRow e va vx) t (0,0))):EntB W b e va vx:=
 ⟨(cell_of_row W _ 0 _ _ _ h).trans rfl,(cell_of_row W _ 1 _ _ _ h).trans rfl,(cell_of_row W _ 2 _ _ _ h).trans rfl,(cell_of_row W _ 3 _ _ _ h).trans rfl,(cell_of_row W _ 4 _ _ _ h).trans rfl,(cell_of_row W _ 5 _ _ _ h).trans rfl,(cell_of_row W _ 6 _ _ _ h).trans rfl⟩
set_option maxRecDepth 100000 in
set_option maxHeartbeats 4000000 in
theorem Xnk (n:Nat) (hn:1≤n) (I:IH) (v:Value) (L:List Ses) (hv:RdS tSes I v L) (hg:∀x∈L,SesG x) (hL:L.length≤1000) (l Bs n₀:Nat) (J Jx:List (YS I L)→World→Prop)
 (W:World) (hJ:AbidesFrom W.heap.size J)
 (hY:∀pre x W',J pre W'→pre.length<30000→YieldAt Fence.wide (n-1) Tryz.prog l x.enc W' fun e W''=>
   (e= .returned (.bool true)∧J (pre++ [x]) W''∧KpS n₀ 47 W' W'')∨(e= .returned (.bool false)∧Jx (pre++ [x]) W''))
 (hok:Ok I W) (hI:∀b c,I b=some c→b<n₀) (hsz:n₀≤W.heap.size) (hBs:W.cell? ⟨Bs,0,none⟩=some v) (h0:J [] W):
 CallsIn Fence.wide n Tryz.prog 65 #[.func (.yield l) #[] #[],.pointer (some ⟨Bs,0,none⟩)] W fun e W'=>(∃v,e= .returned v)∧
  ((∃ys,keys ys=pairs L∧J ys W')∨(∃pre,True∧Jx pre W')):=by
 obtain ⟨ao,cap,rfl,_,_,_⟩:=id hv
 have Hv:=Qh hv
 have Hg:=Qh hg
 have HJ:=Qh hJ
 have HY:=Qh hY
 have Hok:=Qh hok
 have HI:=Qh hI
 clear hv hg hJ hY hok hI
 refine callsIn_of_wp Tryz.func65 rfl trivial ?_ rfl
 simp only [Tryz.ntmps65,List.size_toArray,List.length_cons,List.length_nil,Nat.reduceAdd,Nat.reduceSub,Array.replicate_succ,Array.replicate_zero,List.push_toArray,List.append_toArray,List.nil_append,List.cons_append]
 gi_wp2
 gi_loopw [9] (fun s9 wr=> ∃(k:Nat) (pre:List (YS I L)),k≤L.length∧s9= .int .i64 k∧keys pre=pairs (L.take k)∧J pre wr∧KpS n₀ 47 W wr) (fun i _=>L.length-(intOf i).toNat)
 case atStart=>exact ⟨0,[],Nat.zero_le _,rfl,rfl,h0,KpS.refl _⟩
 case round=>
  obtain ⟨k,pre,hk,rfl,hkey,hj,hkp⟩:=hrel
  have Hkey:=Qh hkey
  have Hj:=Qh hj
  have Hkp:=Qh hkp
  have hokr:Ok I wr:=Hok.out.of_block fun b c hb=>hkp.below.block b (HI.out b c hb)
  have hszr:W.heap.size≤wr.heap.size:=hkp.below.size
  clear hkey hj hkp
  by_cases hlt:k<L.length
  ·obtain ⟨x,ve,b,off,cap',hlx,hvv,⟨c0,c1,c2,c3,c4,c5⟩,h1⟩:=Xdc Hv.out hokr k hlt
   cases hvv
   obtain ⟨oe,ce,rfl,_,_,_⟩:=id h1
   have Hxm:=Qh (show x∈L by rw [←hlx];exact List.getElem_mem hlt)
   have Hxg:=Qh (Hg.out x Hxm.out)
   have Hve:=Qh h1
   have Hpt:=Qh (Xpm hlt hlx)
   have hn30:=Hxg.out.nents
   have Hpl:=Qh (Xk8 (l:=L.take k) fun y hy=>Hg.out y (List.mem_of_mem_take hy))
   have Hrow:=Qh (heap_alloc_new wr (.cells #[.int .i64 x.num,.int .i64 x.date,S x.prev,.slice oe x.ents.length ce,S x.stream,S x.sl] 47))
   have Hj1:=Qh (HJ.out _ _ _ none Hj.out (World.grownBy_alloc wr (.cells #[.int .i64 x.num,.int .i64 x.date,S x.prev,.slice oe x.ents.length ce,S x.stream,S x.sl] 47) none) (fun r h=>by cases h))
   have Hkp1:=Qh (Hkp.out.trans (KpS.alloc (by omega) (.cells #[.int .i64 x.num,.int .i64 x.date,S x.prev,.slice oe x.ents.length ce,S x.stream,S x.sl] 47)))
   have hlt1:wr.heap.size<(wr.alloc (.cells #[.int .i64 x.num,.int .i64 x.date,S x.prev,.slice oe x.ents.length ce,S x.stream,S x.sl] 47)).heap.size:=by simp
   clear hlx h1 Hj Hkp hokr
   gi_wp2
   clear c0 c1 c2 c3 c4 c5
   generalize wr.heap.size=bx at Hrow hlt1 hszr ⊢
   gi_loopw [16] (fun s16 wq=> ∃(j:Nat) (pre:List (YS I L)),j≤x.ents.length∧s16= .int .i64 j∧keys pre=pairs (L.take k)++(x.ents.take j).map (fun e=>(x,e))∧J pre wq∧KpS n₀ 47 W wq∧wq.heap[bx]? =some (.cells (sesRow x (.slice oe x.ents.length ce)) 47 (0,0))) (fun i _=>x.ents.length-(intOf i).toNat)
   case atStart=>exact ⟨0,pre,Nat.zero_le _,rfl,by rw [Hkey.out];simp,Hj1.out,Hkp1.out,Hrow.out⟩
   case round=>
    clear Hj1 Hkp1 Hrow Hkey hlt1
    obtain ⟨j,pre',hjl,rfl,hkey,hj,hkp,hrow⟩:=hrel
    have Hkey:=Qh hkey
    have Hj:=Qh hj
    have Hkp:=Qh hkp
    have Hrow:=Qh hrow
    have hokr:Ok I wr:=Hok.out.of_block fun b c hb=>hkp.below.block b (HI.out b c hb)
    have hszr':W.heap.size≤wr.heap.size:=hkp.below.size
    clear hkey hj hkp hrow
    by_cases hjt:j<x.ents.length
    ·obtain ⟨y,vya,vyx,b9,off9,cap9,hly,hvv,⟨x0,x1,x2,x3,x4,x5,x6⟩,h1,h2⟩:=Xbt Hve.out hokr j hjt
     cases hvv
     obtain ⟨xa,xc,rfl,_,_,_⟩:=id h1
     obtain ⟨xx,xd,rfl,_,_,_⟩:=id h2
     have Hmt:=Qh (Xtj (x:=x) hjt hly)
     have hin:YP.In I L ⟨x,y,.slice (some ⟨b9,off9,none⟩) x.ents.length ce,.slice xa y.attrs.length xc,.slice xx y.exts.length xd⟩:=⟨Hxm.out,Hxg.out,by rw [←hly];exact List.getElem_mem hjt,Hve.out,h1,h2⟩
     have hpl:pre'.length<30000:=by
      have e1:=congrArg List.length Hkey.out
      rw [Xju,List.length_append,List.length_map,List.length_take] at e1
      have e2:=Hpl.out
      rw [List.length_take] at e2
      omega
     obtain ⟨fn,tmps,assign,body,hy,hR⟩:=HY.out pre' ⟨_,hin⟩ (wr.alloc (.cells #[.int .i64 y.kind,S y.path,.slice xa y.attrs.length xc,S y.target,.int .i64 y.size,S y.digest,.slice xx y.exts.length xd] 39)) (HJ.out _ _ _ none Hj.out (World.grownBy_alloc wr _ none) (fun r h=>by cases h)) hpl
     have Hks:=Qh (show keys (pre'++ [(⟨_,hin⟩:YS I L)])=pairs (L.take k)++(x.ents.take (j+1)).map (fun e=>(x,e)) by rw [Xhr,Hkey.out,Hmt.out,List.append_assoc])
     dsimp only [YS.enc,sesV,entV] at hy
     generalize (⟨_,hin⟩:YS I L)=ys at hR Hks
     have hrow1:(wr.alloc (.cells #[.int .i64 y.kind,S y.path,.slice xa y.attrs.length xc,S y.target,.int .i64 y.size,S y.digest,.slice xx y.exts.length xd] 39)).heap[bx]? =_:=(Below.heap_alloc wr _ bx (Array.getElem?_eq_some_iff.1 Hrow.out).1).trans Hrow.out
     have Hrow1:=Qh hrow1
     obtain ⟨c0,c1,c2,c3,c4,c5⟩:=sesB_row hrow1
     have Hkp1:=Qh (Hkp.out.trans (KpS.alloc (by omega) (.cells #[.int .i64 y.kind,S y.path,.slice xa y.attrs.length xc,S y.target,.int .i64 y.size,S y.digest,.slice xx y.exts.length xd] 39)))
     clear hly h1 h2 hrow1 hin hpl Hkey Hj Hkp hokr
     gi_wp2
     refine hR.mono ?_
     rintro e W3 (⟨rfl,hJ3,hk3⟩|⟨rfl,hJx3⟩)
     ·have HJ3:=Qh hJ3
      have Hk3:=Qh (Hkp1.out.trans hk3)
      have Hr3:=Qh (hk3.ses _ _ _ Hrow1.out)
      clear hJ3 hk3 hy c0 c1 c2 c3 c4 c5 x0 x1 x2 x3 x4 x5 x6
      gi_wp2
      go_roundw
      case rel=>exact ⟨j+1,_,by omega,by go_num,Hks.out,HJ3.out,Hk3.out,Hr3.out⟩
      case measure=>simp [intOf];omega
     ·gi_wp2
      refine bodyPost_ret (results_none rfl _ _ _) rfl ?_
      exact ⟨⟨_,rfl⟩,.inr ⟨_,trivial,hJx3⟩⟩
    ·have Hks:=Qh (show keys pre'=pairs (L.take (k+1)) by rw [Hkey.out,Hpt.out,List.take_of_length_le (show x.ents.length≤j by omega)])
     gi_wp2
     go_roundw
     case rel=>exact ⟨k+1,_,by omega,by go_num,Hks.out,Hj.out,Hkp.out⟩
     case measure=>simp [intOf];omega
  ·have Hks:=Qh (show keys pre=pairs L by rw [Hkey.out,List.take_of_length_le (show L.length≤k by omega)])
   gi_wp2
   go_end0
   exact ⟨⟨_,rfl⟩,.inl ⟨_,Hks.out,Hj.out⟩⟩
set_option maxRecDepth 100000 in
theorem Xi1 (v:Value) (w:World) (h1:∃ao n c,v= .slice ao n c):
 Calls Tryz.prog 38 #[v] w fun e w'=>e= .returned (.func (.func 65) #[] #[.pointer (some ⟨w.heap.size,0,none⟩)])∧w'=w.alloc (.cells #[v] 22):=by
 obtain ⟨ao,k,c,rfl⟩:=h1
 go_enter Tryz.func38,Tryz.ntmps38
 go_wp2
 go_ret
 exact ⟨rfl,rfl⟩
theorem Xof (n:Nat) (hn:1≤n) (I:IH) (v:Value) (L:List Ses) (hv:RdS tSes I v L) (hg:∀x∈L,SesG x) (hL:L.length≤1000) (Bs n₀:Nat) (w:World) (hok:Ok I w) (hI:∀b c,I b=some c→b<n₀) (hsz:n₀≤w.heap.size) (hBs:w.cell? ⟨Bs,0,none⟩=some v):
 SeqStopsK Fence.wide n Tryz.prog 65 #[.pointer (some ⟨Bs,0,none⟩)] (fun x:YS I L=>x.enc) (KpS n₀ 47) (fun ys=>keys ys=pairs L) (fun _=>True) 30000 w:=fun l J Jx W hW hJ _ hY h0=>
 Xnk n hn I v L hv hg hL l Bs n₀ J Jx W hJ hY (hok.below (Qn _) hW) hI (Nat.le_trans hsz hW.size) (Xaa hW hBs) h0
end Go.Proofs.YtdeknddamidldaaGreatDoor
namespace Go.Proofs.YtdeknddamidldaaGreatDoor
open Go.RowKit Go.Shelf
attribute [local go_sem] Oper.semAt_some
theorem Xez {W W':World} {k:Nat} {c:Array Value} {e:TypeId} {f:Nat × Nat} {row:Option Nat} (h:W.heap[k]? =some (.cells c e f)) (hg:W.grownBy W' row) (hr:∀r,row=some r→ ∃o:Obj,W.heap[r]? =some o∧o.isCells=false):W'.heap[k]? =some (.cells c e f):=
 (hg.block k (Array.getElem?_eq_some_iff.1 h).1 (fun e'=>Xgr h hr e'.symm)).trans h
theorem ResB.turn {T:TypeId} {n:Nat} {J:IH} {W W':World} {row:Option Nat} (h:ResB T n J W) (hg:W.grownBy W' row) (hr:∀r,row=some r→ ∃o:Obj,W.heap[r]? =some o∧o.isCells=false):ResB T n J W':=⟨Xez h.row hg hr,h.free⟩
def AftI (T:TypeId) (m:Nat) (I:IH) (w:World) (s:Stt) (W:World):Prop:= ∃vt vh J,StM T (m+1) J W s vt vh∧ResB T m J W∧Ext m I J∧Below m w W
theorem Xua {T:TypeId} {m B:Nat} {I:IH} {w:World} {β:Type} (f:β→Stt) (hm:m≤w.heap.size) (hB:m≤B):OwnFrom B (fun b W=>AftI T m I w (f b) W):=by
 intro b W W' row ⟨vt,vh,J,h1,h2,h3,h4⟩ hg hr
 exact ⟨vt,vh,J,h1.turn hg fun r e=>(hr r e).2,h2.turn hg fun r e=>(hr r e).2,h3,Below.turn h4 hm hB hg hr⟩
structure AxR (T1 T2:TypeId) (m:Nat) (y:YP) (b:Nat) (W:World):Prop where
 lt:m<b
 s:W.heap[b]? =some (.cells (sesRow y.s y.ve) T1 (0,0))
 e:W.heap[b+1]? =some (.cells (entRow y.e y.va y.vx) T2 (0,0))
theorem AxR.turn {T1 T2:TypeId} {m b:Nat} {y:YP} {W W':World} {row:Option Nat} (h:AxR T1 T2 m y b W) (hg:W.grownBy W' row) (hr:∀r,row=some r→ ∃o:Obj,W.heap[r]? =some o∧o.isCells=false):AxR T1 T2 m y b W':=
 ⟨h.lt,Xez h.s hg hr,Xez h.e hg hr⟩
set_option maxRecDepth 100000 in
set_option maxHeartbeats 4000000 in
theorem Xoh (I:IH) (hI:Glob I) (v:Value) (L:List Ses) (hv:RdS tSes I v L) (hg:∀x∈L,SesG x) (hL:L.length≤1000) (w:World) (hw:Ok I w):
 Calls Tryz.prog 44 #[v] w (RetSt I w (aftS nilS L)):=by
 obtain ⟨ao,cap,rfl,_,_,_⟩:=id hv
 have Hv:=Qh hv
 have Hg:=Qh hg
 have HI:=Qh hI
 have H0:=Qh (StM.new (T:=64) (hw.alloc (.cells #[.slice none 0 0,.slice none 0 0] 64)) rfl)
 have HR0:=Qh (show ResB 64 w.heap.size I (w.alloc (.cells #[.slice none 0 0,.slice none 0 0] 64)) from ⟨heap_alloc_new w _,hw.fresh (Qn _)⟩)
 rw [World.size_alloc] at H0
 have hbA:Below w.heap.size w (w.alloc (.cells #[.slice none 0 0,.slice none 0 0] 64)):=(Qb _ _).alloc (Qn _) _
 have hbB:=hbA.alloc hbA.size (.cells #[.slice none 0 0,.slice none 0 0] 64)
 clear hv hg hI
 refine (callsIn_wide (n:=3)).1 ?_
 refine callsIn_of_wp_marks Tryz.func44 rfl trivial ?_ rfl
 simp only [Tryz.ntmps44,List.size_toArray,List.length_cons,List.length_nil,Nat.reduceAdd,Nat.reduceSub,Array.replicate_succ,Array.replicate_zero,List.push_toArray,List.append_toArray,List.nil_append,List.cons_append]
 gi_wp2_with (refine ⟨trivial,?_⟩;gi_at_call 38;refine (callsIn_wide.2 (Xi1 _ _ ⟨_,_,_,rfl⟩)).mono ?_;rintro e w' ⟨rfl,rfl⟩)
 have hc2:(((w.alloc (.cells #[.slice none 0 0,.slice none 0 0] 64)).alloc (.cells #[.slice none 0 0,.slice none 0 0] 64)).alloc (.cells #[.slice ao L.length cap] 22)).cell? ⟨w.heap.size+1+1,0,none⟩=some (.slice ao L.length cap):=
  (cell_of_row _ (w.heap.size+1+1) 0 _ _ _ (by have h:=heap_alloc_new ((w.alloc (.cells #[.slice none 0 0,.slice none 0 0] 64)).alloc (.cells #[.slice none 0 0,.slice none 0 0] 64)) (.cells #[.slice ao L.length cap] 22);simpa using h)).trans rfl
 have hok2:Ok I (((w.alloc (.cells #[.slice none 0 0,.slice none 0 0] 64)).alloc (.cells #[.slice none 0 0,.slice none 0 0] 64)).alloc (.cells #[.slice ao L.length cap] 22)):=((hw.alloc _).alloc _).alloc _
 have H2:=Qh (H0.out.past (.cells #[.slice ao L.length cap] 22))
 have HR2:=Qh ((HR0.out.past (.cells #[.slice none 0 0,.slice none 0 0] 64)).past (.cells #[.slice ao L.length cap] 22))
 have hb2:=hbB.alloc hbB.size (.cells #[.slice ao L.length cap] 22)
 have hsz:(((w.alloc (.cells #[.slice none 0 0,.slice none 0 0] 64)).alloc (.cells #[.slice none 0 0,.slice none 0 0] 64)).alloc (.cells #[.slice ao L.length cap] 22)).heap.size=w.heap.size+3:=by simp
 clear H0 HR0 hbA hbB
 obtain ⟨W0,hW0⟩:∃W0,(((w.alloc (.cells #[.slice none 0 0,.slice none 0 0] 64)).alloc (.cells #[.slice none 0 0,.slice none 0 0] 64)).alloc (.cells #[.slice ao L.length cap] 22))=W0:=⟨_,rfl⟩
 rw [hW0] at hc2 hok2 H2 HR2 hb2 hsz ⊢
 clear hW0
 refine wpIn_rangeFunc_ownH rfl (by decide) (gf:=65) (lb:= #[.pointer (some ⟨w.heap.size+1+1,0,none⟩)]) rfl trivial (enters_of Tryz.func65 (by kernel_rfl) rfl)
  (Xof _ (by decide) I _ L Hv.out Hg.out hL (w.heap.size+1+1) w.heap.size W0 hok2 (fun b c h=>hw.lt h) (by omega) hc2) KpS.trans (KpS.put (by omega)) (Qb _ _) (fun _=>rfl)
  (fun pre W=>AftI 64 w.heap.size I w ((keys pre).foldl stq nilS) W)
  (fun _ _ _=>False)
  (Xua _ (Qn _) (by omega))
  (fun _ _ _ _ _ hs _ _=>hs)
  ⟨_,_,I,H2.out,HR2.out,Ext.refl _ _,hb2⟩
  (fun x a' W=> ∃Bx,AxR 47 39 (w.heap.size+1) x.1 Bx W∧a'= { tmps:= #[.slice ao L.length cap,undef,.pointer (some ⟨w.heap.size,0,none⟩),.pointer (some ⟨w.heap.size+1,0,none⟩),.pointer (some ⟨Bx,0,none⟩),.pointer (some ⟨Bx+1,0,none⟩),.slice ao L.length cap,.func (.func 65) #[] #[.pointer (some ⟨w.heap.size+1+1,0,none⟩)],sesV x.1.s x.1.ve,entV x.1.e x.1.va x.1.vx,undef,undef,undef,undef,undef,undef,undef,undef,undef],defers:= [] })
  (fun x a' _ X Y row hs hg hr=>by obtain ⟨Bx,h1,h2⟩:=hs;exact ⟨Bx,h1.turn hg (fun r e=>(hr r e).2),h2⟩)
  ?assign ?body ?done ?stop
 case assign=>
  rintro l pre x W K ⟨vt,vh,J,h1,h2,h3,h4⟩ hK
  obtain ⟨⟨s,e,ve,va,vx⟩,hx⟩:=x
  have g1:=hx.ve
  have g2:=hx.va
  have g3:=hx.vx
  dsimp only at g1 g2 g3
  obtain ⟨oe,ce,rfl,_,_,_⟩:=id g1
  obtain ⟨oa,ca,rfl,_,_,_⟩:=id g2
  obtain ⟨ox,cx,rfl,_,_,_⟩:=id g3
  clear g1 g2 g3
  dsimp only [YS.enc,sesV,entV]
  gi_wp2
  have hsz1:=h4.size
  have hlt:=h1.lt
  refine hK _ _ (KeepsFrom.of_below (((Qb _ W).alloc (Qn _) _).alloc (by simp) _)) ((KpS.alloc hsz1 _).trans (KpS.alloc (by simp;omega) _)) ⟨_,_,J,(h1.past _).past _,(h2.past _).past _,h3,(h4.alloc hsz1 _).alloc (by simp;omega) _⟩ ⟨W.heap.size,⟨hlt,(Below.heap_alloc _ _ _ (by simp)).trans (heap_alloc_new W _),?_⟩,rfl⟩
  have h:=heap_alloc_new (W.alloc (.cells #[.int .i64 s.num,.int .i64 s.date,S s.prev,.slice oe s.ents.length ce,S s.stream,S s.sl] 47)) (.cells #[.int .i64 e.kind,S e.path,.slice oa e.attrs.length ca,S e.target,.int .i64 e.size,S e.digest,.slice ox e.exts.length cx] 39)
  simpa using h
 case body=>
  rintro l pre x a' W _ _ ⟨vt,vh,J,h1,h2,h3,h4⟩ ⟨Bx,hax,rfl⟩ hpl
  obtain ⟨⟨s,e,ve,va,vx⟩,hx⟩:=x
  have g1:=hx.ve
  have g2:=hx.va
  have g3:=hx.vx
  have gg:=hx.g
  have gm:=hx.mem
  have gks:=Xhr pre ⟨_,hx⟩
  dsimp only at g1 g2 g3 gg gm gks hax
  obtain ⟨oe,ce,rfl,_,_,_⟩:=id g1
  obtain ⟨oa,ca,rfl,_,_,_⟩:=id g2
  obtain ⟨ox,cx,rfl,_,_,_⟩:=id g3
  obtain ⟨t1,tc1,rfl,_,_,_⟩:=id h1.tree
  obtain ⟨u1,uc1,rfl,_,_,_⟩:=id h1.holds
  have hsk:=Xow pre
  have hkp:=h3.keep hw (Qn _)
  have htl:=hsk.ok.tlen
  have hhl:=hsk.ok.hlen
  have hpy:=gg.path e gm
  have hty:=gg.target e gm
  have Hfs:=Qh (show (keys (pre++ [⟨_,hx⟩])).foldl stq nilS=(stpP ((keys pre).foldl stq nilS) e s.date).1 by rw [gks,Xls])
  have Hap:=Qh (Xjw J (HI.out.mono hkp) ((keys pre).foldl stq nilS) _ _ h1.tree h1.holds hsk.sml hsk.ok.tree.srt (by omega) hsk.ok.holds (by omega) e _ _ (g2.mono hkp) (g3.mono hkp) (gg.wf e gm) (by omega) (by omega) s.date W h1.ok)
  generalize (keys pre).foldl stq nilS=s0 at h1 hsk htl hhl Hap Hfs
  obtain ⟨s2,er3,hs2⟩:∃s2 er3,stpP s0 e s.date=(s2,er3):=⟨_,_,rfl⟩
  rw [hs2] at Hap Hfs
  have H1:=Qh h1
  have H2:=Qh h2
  have H3:=Qh h3
  have c0:=h1.c0
  have c1:=h1.c1
  obtain ⟨b0,b1,b2,b3,b4,b5⟩:=sesB_row hax.s
  obtain ⟨x0,x1,x2,x3,x4,x5,x6⟩:=entB_row hax.e
  clear g1 g2 g3 gg gm gks h1 h2 h3 hsk hkp hs2 htl hhl
  gi_wp2_with fail
  refine ⟨trivial,(CallsIn.inRound l (callsIn_wide.2 Hap.out)).mono ?_⟩
  rintro e3 W3 ⟨v3,v4,J3,rfl,hb3,hx3,hok3,ht3,hh3⟩
  obtain ⟨a3,d3,rfl,_,_,_⟩:=id ht3
  obtain ⟨a4,d4,rfl,_,_,_⟩:=id hh3
  have S3:=H1.out.ext hb3 hx3 hok3
  have R3:=H2.out.ext hb3 hx3
  have r0:=S3.c0
  have r1:=S3.c1
  have f0:=S3.f0
  have f1:=S3.f1
  have hsz1:=h4.size
  have hf:=(KeepsFrom.of_below (B:=W0.heap.size) hb3).trans ((KeepsFrom.setCellK W3 ⟨w.heap.size+1,0,none⟩ (.slice a3 s2.tree.length d3)).trans (KeepsFrom.setCellK _ ⟨w.heap.size+1,1,none⟩ (.slice a4 s2.holds.length d4)))
  have hk:=(KpS.of_below (n₀:=w.heap.size) (T:=47) hb3 hsz1).trans ((KpS.setCell S3.row (by decide) (Nat.le_succ _) 0 (.slice a3 s2.tree.length d3)).trans (KpS.setCell (heap_setCell_same W3 (w.heap.size+1) 0 _ _ (.slice a3 s2.tree.length d3) S3.row) (by decide) (Nat.le_succ _) 1 (.slice a4 s2.holds.length d4)))
  have hi:AftI 64 w.heap.size I w s2 ((W3.setCell ⟨w.heap.size+1,0,none⟩ (.slice a3 s2.tree.length d3)).setCell ⟨w.heap.size+1,1,none⟩ (.slice a4 s2.holds.length d4)):=
   ⟨_,_,J3,S3.set (s':=s2) ht3 hh3,R3.set2 (by omega),H3.out.trans hx3 hsz1,((h4.trans (hb3.mono hsz1)).setCell (p:=⟨w.heap.size+1,0,none⟩) (Nat.le_succ _) _).setCell (p:=⟨w.heap.size+1,1,none⟩) (Nat.le_succ _) _⟩
  have Hpost:=Qh (And.intro hf (And.intro hk hi))
  clear ht3 hh3 hb3 hx3 hok3 S3 R3 hf hk hi c0 c1 b0 b1 b2 b3 b4 b5 x0 x1 x2 x3 x4 x5 x6 hax
  gi_wp2
  refine ⟨Hpost.out.1,Hpost.out.2.1,?_⟩
  show AftI _ _ _ _ _ _
  rw [Hfs.out]
  exact Hpost.out.2.2
 case done=>
  rintro D ys W hD hS ⟨vt,vh,J,h1,h2,h3,h4⟩ hK
  have hst:(keys ys).foldl stq nilS=aftS nilS L:=by rw [hS,Xmo]
  obtain ⟨s0,hs0⟩:∃s0,aftS nilS L=s0:=⟨_,rfl⟩
  rw [hst,hs0] at h1
  have Hs0:=Qh hs0
  have Hi2:=Qh (show (Tryz.prog.info? 64).map (·.size)=some 2 by kernel_rfl)
  clear hst hs0
  obtain ⟨t1,tc1,rfl,_,_,_⟩:=id h1.tree
  obtain ⟨u1,uc1,rfl,_,_,_⟩:=id h1.holds
  have c0:=h1.c0
  have c1:=h1.c1
  have q0:W.cell? ⟨w.heap.size,0,none⟩=some (.slice none 0 0):=(cell_of_row W _ 0 _ _ _ h2.row).trans rfl
  have q1:W.cell? ⟨w.heap.size,1,none⟩=some (.slice none 0 0):=(cell_of_row W _ 1 _ _ _ h2.row).trans rfl
  have f0:=frozen_of_row W _ 0 _ _ h2.row
  have f1:=frozen_of_row W _ 1 _ _ h2.row
  have hlt:=h1.lt
  have hne:w.heap.size≠D:=by omega
  have hK2:((W.setCell ⟨w.heap.size,0,none⟩ (.slice t1 s0.tree.length tc1)).setCell ⟨w.heap.size,1,none⟩ (.slice u1 s0.holds.length uc1)).heap[D]? =some (.deferred (some [])):=
   (Below.heap_setCell _ ⟨w.heap.size,1,none⟩ _ D hne.symm).trans ((Below.heap_setCell _ ⟨w.heap.size,0,none⟩ _ D hne.symm).trans hK)
  have hW:=heap_setCell_same _ w.heap.size 1 _ _ (.slice u1 s0.holds.length uc1) (heap_setCell_same W w.heap.size 0 _ _ (.slice t1 s0.tree.length tc1) h2.row)
  have hok:=(h1.ok.setCell (a:=⟨w.heap.size,0,none⟩) h2.free (.slice t1 s0.tree.length tc1)).setCell (a:=⟨w.heap.size,1,none⟩) h2.free (.slice u1 s0.holds.length uc1)
  have hbb:=(h4.setCell (p:=⟨w.heap.size,0,none⟩) (Qn _) (.slice t1 s0.tree.length tc1)).setCell (p:=⟨w.heap.size,1,none⟩) (Qn _) (.slice u1 s0.holds.length uc1)
  have hsz2:=h4.size
  gi_wp2
  refine ⟨by simp,.inl ⟨_,_,rfl,run_takeDeferred hK2,?_⟩⟩
  refine ⟨_,results_cell_row rfl _ _ w.heap.size _ #[.slice t1 s0.tree.length tc1,.slice u1 s0.holds.length uc1] (0,0) _ rfl ((World.putObj_heap_other hne).trans hW) Tryz.underlying64 rfl Hi2.out,?_⟩
  rw [Hs0.out]
  exact ⟨_,_,J,rfl,Below.turn hbb (Qn _) (Qn _) (grownBy_putObj' _ D _) (fun r e=>by cases e;exact ⟨by omega,_,hK2,rfl⟩),h3,hok.turn (grownBy_putObj' _ D _) (fun r e=>by cases e;exact ⟨_,hK2,rfl⟩),h1.tree,h1.holds⟩
 case stop=>
  rintro D c pre W _ _ h _
  exact h.elim
set_option maxRecDepth 100000 in
set_option maxHeartbeats 1000000 in
theorem Xfu (I:IH) (hI:Glob I) (v:Value) (l:List Ses) (hv:RdS tSes I v l) (hg:∀x∈l,SesG x) (hn:l.length≤1000) (n:Int) (w:World) (hw:Ok I w):
 Calls Tryz.prog 20 #[v,.int .i64 n] w (RetL tEnt I w (treeR l n).1 (treeR l n).2):=by
 obtain ⟨ao,cap,rfl,hcap,_,_⟩:=id hv
 have Ha:=Qh (fun (m:Nat) (hm:m≤l.length) w hw=>Xoh I hI (.slice ao m cap) (l.take m) (hv.takeS hm) (fun x hx=>hg x (List.mem_of_mem_take hx)) (by rw [List.length_take];omega) w hw)
 clear hv hg
 by_cases h1:n<0
 ·have Hn:=Qh (show treeR l n=([],2) by rw [treeR,if_pos (.inl h1)])
  have d1:decide (n<0)=true:=Qt h1
  clear h1
  go_enter Tryz.func20,Tryz.ntmps20
  go_wp2
  go_ret2
  rw [Hn.out]
  exact ⟨_,I,rfl,Qb _ _,Ext.refl _ _,hw,RdS.nil _ _⟩
 have d1:decide (n<0)=false:=Qf h1
 by_cases h2:(l.length:Int)<n
 ·have Hn:=Qh (show treeR l n=([],2) by rw [treeR,if_pos (.inr h2)])
  have d2:decide ((l.length:Int)<n)=true:=Qt h2
  clear h1 h2
  go_enter Tryz.func20,Tryz.ntmps20
  go_wp2
  go_ret2
  rw [Hn.out]
  exact ⟨_,I,rfl,Qb _ _,Ext.refl _ _,hw,RdS.nil _ _⟩
 have d2:decide ((l.length:Int)<n)=false:=Qf h2
 obtain ⟨m,rfl⟩:∃m:Nat,n=(m:Int):=⟨n.toNat,by omega⟩
 have Hn:=Qh (show treeR l (m:Int)=((aftS nilS (l.take m)).tree,0) by rw [treeR,if_neg (by omega)];rfl)
 have hml:m≤l.length:=by omega
 have hi0:(0:Int)≤(m:Int):=by omega
 have hi1:(m:Int)≤(l.length:Int):=by omega
 have hi2:(m:Int)≤(cap:Int):=by omega
 have hfd:∀(a b:Value) (w:World),(Instr.field 64 (.agg #[a,b]) 0).run Tryz.prog w= .ok a w:=fun _ _ _=>by kernel_rfl
 clear h1 h2
 go_enter Tryz.func20,Tryz.ntmps20
 go_wp2_with fail
 refine (Ha.out m hml w hw).mono ?_
 rintro e1 w1 ⟨vt,vh,J,rfl,hb,hx,hok,ht,hh⟩
 have Ht:=Qh ht
 clear ht hh
 go_wp2
 go_ret2
 rw [Hn.out]
 exact ⟨_,J,rfl,hb,hx,hok,Ht.out⟩
set_option maxRecDepth 100000 in
set_option maxHeartbeats 1000000 in
theorem Xjx (I:IH) (hI:Glob I) (v:Value) (l:List Ses) (hv:RdS tSes I v l) (hg:∀x∈l,SesG x) (hn:l.length≤1000) (n:Int) (w:World) (hw:Ok I w):
 Calls Tryz.prog 28 #[v,.int .i64 n] w (RetS tHo I w (holdsR l n)):=by
 obtain ⟨ao,cap,rfl,hcap,_,_⟩:=id hv
 have Ha:=Qh (fun (m:Nat) (hm:m≤l.length) w hw=>Xoh I hI (.slice ao m cap) (l.take m) (hv.takeS hm) (fun x hx=>hg x (List.mem_of_mem_take hx)) (by rw [List.length_take];omega) w hw)
 clear hv hg
 by_cases h1:n<0
 ·have Hn:=Qh (show holdsR l n= [] by rw [holdsR,if_pos (.inl h1)])
  have d1:decide (n<0)=true:=Qt h1
  clear h1
  go_enter Tryz.func28,Tryz.ntmps28
  go_wp2
  go_ret
  rw [Hn.out]
  exact ⟨_,I,rfl,Qb _ _,Ext.refl _ _,hw,RdS.nil _ _⟩
 have d1:decide (n<0)=false:=Qf h1
 by_cases h2:(l.length:Int)<n
 ·have Hn:=Qh (show holdsR l n= [] by rw [holdsR,if_pos (.inr h2)])
  have d2:decide ((l.length:Int)<n)=true:=Qt h2
  clear h1 h2
  go_enter Tryz.func28,Tryz.ntmps28
  go_wp2
  go_ret
  rw [Hn.out]
  exact ⟨_,I,rfl,Qb _ _,Ext.refl _ _,hw,RdS.nil _ _⟩
 have d2:decide ((l.length:Int)<n)=false:=Qf h2
 obtain ⟨m,rfl⟩:∃m:Nat,n=(m:Int):=⟨n.toNat,by omega⟩
 have Hn:=Qh (show holdsR l (m:Int)=(aftS nilS (l.take m)).holds by rw [holdsR,if_neg (by omega)];rfl)
 have hml:m≤l.length:=by omega
 have hi0:(0:Int)≤(m:Int):=by omega
 have hi1:(m:Int)≤(l.length:Int):=by omega
 have hi2:(m:Int)≤(cap:Int):=by omega
 have hfd:∀(a b:Value) (w:World),(Instr.field 64 (.agg #[a,b]) 1).run Tryz.prog w= .ok b w:=fun _ _ _=>by kernel_rfl
 clear h1 h2
 go_enter Tryz.func28,Tryz.ntmps28
 go_wp2_with fail
 refine (Ha.out m hml w hw).mono ?_
 rintro e1 w1 ⟨vt,vh,J,rfl,hb,hx,hok,ht,hh⟩
 have Hh:=Qh hh
 clear ht hh
 go_wp2
 go_ret
 rw [Hn.out]
 exact ⟨_,J,rfl,hb,hx,hok,Hh.out⟩
end Go.Proofs.YtdeknddamidldaaGreatDoor
