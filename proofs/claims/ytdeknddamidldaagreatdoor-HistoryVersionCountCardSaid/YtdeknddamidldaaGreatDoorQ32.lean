/-
  Walks and laws that the claim's theorem uses: texts MkB EeC, joined; comments out. Conditions: as each theorem says.
-/
import Derived.Test.YtdeknddamidldaaGreatDoorQ31
namespace Go.Proofs.YtdeknddamidldaaGreatDoor
open Go.RowKit
abbrev chgRow (k:Int) (p c:Bytes):Array Value:= #[.int .i64 k,S p,.slice none 0 0,S [],S c]
abbrev mkL (bc:Nat) (vx:Value) (x:Nat):List (Option Tmp × Value):=
 [(some 91,.pointer (some ⟨bc,4,none⟩)),(some 92,S txtA),(some 93,.int .i64 (txtA.length:Int)),(some 94,vx),(some 95,.pointer (some ⟨bc,4,none⟩)),(some 96,S txtA),(some 97,.slice (some ⟨x,0,none⟩) 1 1),(some 98,S digA),
  (some 99,.pointer (some ⟨bc+1,4,none⟩)),(none,undef),(some 100,.pointer (some ⟨bc+1,6,none⟩)),(none,undef),(some 101,.pointer (some ⟨bc+1,5,none⟩)),(none,undef)]
theorem Xak {bc:Nat} {vx:Value} {x:Nat}:ApartF (mkL bc vx x):=by
 unfold ApartF
 simp
theorem Xvu {bc:Nat} {vx:Value} {x y:Nat} {s:Array Bool} {a:Act} (hun:s.getD 6 true=false):fillA (mkL bc vx x) 0 s a=fillA (mkL bc vx y) 0 s a:=by
 refine Xh1 6 rfl (fun i hne=> ?_) hun
 rcases i with _|_|_|_|_|_|_|_|_|_|_|_|_|_|i<;>first|rfl|(exact absurd rfl hne)|simp
abbrev sesRw (s:Ses) (ve:Value):Array Value:= #[.int .i64 s.num,.int .i64 s.date,S s.prev,ve,S s.stream,S s.sl]
theorem Xs2:(Tryz.prog.info? 47).map (fun i=>(i.zero,i.size,i.bytes))=some (some (.agg #[.int .i64 0,.int .i64 0,.string ⟨#[]⟩,.slice none 0 0,.string ⟨#[]⟩,.string ⟨#[]⟩]),6,88):=by kernel_rfl
theorem Xdu:ElemOk Tryz.prog 22 47 tSes 88:=ElemOk.of Tryz.underlying22 Xs2 rfl (by decide) rfl
abbrev mrL (vl:Value) (s:Ses) (ve:Value) (x:A2X × Value):List (Option Tmp × Value):=
 [(some 124,.slice (some ⟨x.1.e,0,none⟩) 0 0),(some 125,vl),(some 126,x.1.v1),(some 127,sesV s ve),(some 128,.slice (some ⟨x.1.b,0,none⟩) 1 1),(some 129,x.1.v2),(some 6,x.2)]
theorem Xaj {vl:Value} {s:Ses} {ve:Value} {x:A2X × Value}:ApartF (mrL vl s ve x):=by
 unfold ApartF
 simp
theorem Xef {vl:Value} {ss:Ses} {ve:Value} {x y:A2X × Value} {s:Array Bool} {a:Act} (i:Nat) (h:∀j,j≠i→(mrL vl ss ve x)[j]? =(mrL vl ss ve y)[j]?) (hun:s.getD i true=false):fillA (mrL vl ss ve x) 0 s a=fillA (mrL vl ss ve y) 0 s a:=Xh1 i rfl h hun
def MrC (J:IH) (W:World) (l:List Ses) (y:Ses) (row:Array Value) (x:A2X × Value) (s:Array Bool) (w:World):Prop:=
 A2C tSes 47 J W l y row 0 2 4 5 x.1 s w∧(s.getD 6 false=true→s.getD 5 false=true∧x.2=x.1.v2)
theorem MrC.step {J:IH} {W w w':World} {l:List Ses} {y:Ses} {row:Array Value} {x:A2X × Value} {s:Array Bool} (h:MrC J W l y row x s w) (hb:Below w.heap.size w w') {i:Nat} (h0:i≠0) (h2:i≠2) (h4:i≠4) (h5:i≠5) (h6:i≠6):MrC J W l y row x (s.setIfInBounds i true) w':=
 ⟨h.1.step hb h0 h2 h4 h5,by rw [getD_set_ne false h6,getD_set_ne false h5];exact h.2⟩
set_option maxRecDepth 100000 in
set_option maxHeartbeats 4000000 in
theorem Xm1 (I:IH) (w:World) (hw:Ok I w) (cb:Nat) (hcb:w.heap[cb]? =some (.cells (chgRow 1 [97] txtA) 60 (0,0))):
 Calls Tryz.prog 30 #[.slice none 0 0,.int .i64 5,.slice (some ⟨cb,0,none⟩) 1 1] w (RetS tSes I w [sA]):=by
 have A0:=Qh (MAt.start hw)
 have Haf:=Qh (fun W hW=>(show Calls Tryz.prog 49 #[.slice none 0 0,.int .i64 0] W (RetSt I W nilS) from Xc3 I (.slice none 0 0) [] (RdS.nil _ _) (fun _ h=>(by cases h)) (by decide) 0 (Qn _) W hW))
 have hlc:cb<w.heap.size:=(Array.getElem?_eq_some_iff.1 hcb).1
 go_enter Tryz.func30,Tryz.ntmps30
 go_wp2_with fail
 refine (Haf.out _ (hw.alloc _)).mono ?_
 rintro e1 w1 ⟨vt,vh,I1,rfl,hb1,hx1,hok1,ht1,hh1⟩
 obtain ⟨t1,tc1,rfl⟩:=ht1.slN (n:=0) rfl
 obtain ⟨u1,uc1,rfl⟩:=hh1.slN (n:=0) rfl
 have A1:=Qh ((A0.out.past _).ext hb1 hx1 hok1)
 have XR:w1.heap[w.heap.size]? =some (.cells #[.int .i64 1,.int .i64 5,S [],.slice none 0 0,S [],S []] 47 (0,0)):=(hb1.block _ (by simp)).trans (heap_alloc_new w _)
 have CR:w1.heap[cb]? =some (.cells (chgRow 1 [97] txtA) 60 (0,0)):=(hb1.block _ (by simp;omega)).trans ((Below.heap_alloc _ _ _ hlc).trans hcb)
 have HxI:=Qh (hx1.mono (show w.heap.size+1≤_ by simp))
 have Ht:=Qh ht1
 have Hh:=Qh hh1
 have hs1:=hb1.size
 rw [World.size_alloc] at hs1
 clear hb1 hx1 hok1 ht1 hh1 A0 Haf
 go_wp2_with fail
 refine (Xkv I1 1 w1 A1.out.ok).mono ?_
 rintro e2 w2 ⟨vc2,I2,rfl,hb2,hx2,hok2,hr2⟩
 obtain ⟨a2,c2,rfl⟩:=hr2.slN (n:=0) rfl
 have A2:=Qh (A1.out.ext hb2 hx2 hok2)
 replace XR:=(hb2.block _ (by omega)).trans XR
 replace CR:=(hb2.block _ (by omega)).trans CR
 have hkp2:=hx2.keep A1.out.ok (Qn _)
 replace HxI:=Qh (HxI.out.trans hx2 (by omega))
 replace Ht:=Qh (Ht.out.mono hkp2)
 replace Hh:=Qh (Hh.out.mono hkp2)
 have Hr2:=Qh hr2
 have hs2:=hb2.size
 clear hb2 hx2 hok2 hr2 A1 hkp2
 go_wp2_with fail
 obtain ⟨W3,hW3⟩:∃W3,(w2.alloc (.cells #[.slice t1 0 tc1,.slice u1 0 uc1] 69)).alloc (.cells #[.slice a2 0 c2,.int .i64 1,S []] 91)=W3:=⟨_,rfl⟩
 have A3:=Qh (show MAt I w I2 W3 by rw [←hW3];exact (A2.out.past _).past _)
 have hs3:w2.heap.size+1<W3.heap.size:=by rw [←hW3];simp
 replace XR:W3.heap[w.heap.size]? =_:=(by rw [←hW3];exact (Below.heap_alloc _ _ _ (by simp;omega)).trans (Below.heap_alloc _ _ _ (by omega)):W3.heap[w.heap.size]? =w2.heap[w.heap.size]?).trans XR
 replace CR:W3.heap[cb]? =_:=(by rw [←hW3];exact (Below.heap_alloc _ _ _ (by simp;omega)).trans (Below.heap_alloc _ _ _ (by omega)):W3.heap[cb]? =w2.heap[cb]?).trans CR
 have SR:W3.heap[w2.heap.size]? =some (.cells #[.slice t1 0 tc1,.slice u1 0 uc1] 69 (0,0)):=by rw [←hW3];exact (Below.heap_alloc _ _ _ (by simp)).trans (heap_alloc_new w2 _)
 have TR:W3.heap[w2.heap.size+1]? =some (.cells #[.slice a2 0 c2,.int .i64 1,S []] 91 (0,0)):=by
  rw [←hW3]
  have h:=heap_alloc_new (w2.alloc (.cells #[.slice t1 0 tc1,.slice u1 0 uc1] 69)) (.cells #[.slice a2 0 c2,.int .i64 1,S []] 91)
  rw [World.size_alloc] at h
  exact h
 change Code.wp _ _ _ _ ((w2.alloc (.cells #[.slice t1 0 tc1,.slice u1 0 uc1] 69)).alloc (.cells #[.slice a2 0 c2,.int .i64 1,S []] 91))
 rw [hW3]
 have hfs2:I2 w2.heap.size=none:=A2.out.ok.fresh (Qn _)
 have hft2:I2 (w2.heap.size+1)=none:=A2.out.ok.fresh (Nat.le_succ _)
 clear hW3 A2
 have k0:W3.cell? ⟨cb,0,none⟩=some (.int .i64 1):=(cell_of_row W3 _ 0 _ _ _ CR).trans rfl
 have k1:W3.cell? ⟨cb,1,none⟩=some (S [97]):=(cell_of_row W3 _ 1 _ _ _ CR).trans rfl
 have k2:W3.cell? ⟨cb,2,none⟩=some (.slice none 0 0):=(cell_of_row W3 _ 2 _ _ _ CR).trans rfl
 have k3:W3.cell? ⟨cb,3,none⟩=some (S []):=(cell_of_row W3 _ 3 _ _ _ CR).trans rfl
 have k4:W3.cell? ⟨cb,4,none⟩=some (S txtA):=(cell_of_row W3 _ 4 _ _ _ CR).trans rfl
 have j0:W3.cell? ⟨w2.heap.size+1,0,none⟩=some (.slice a2 0 c2):=(cell_of_row W3 _ 0 _ _ _ TR).trans rfl
 have j1:W3.cell? ⟨w2.heap.size+1,1,none⟩=some (.int .i64 1):=(cell_of_row W3 _ 1 _ _ _ TR).trans rfl
 have j2:W3.cell? ⟨w2.heap.size+1,2,none⟩=some (S []):=(cell_of_row W3 _ 2 _ _ _ TR).trans rfl
 have j0':=Xab (.cells #[.int .i64 1,S [97],.slice none 0 0,S [],.int .i64 0,S [],.slice none 0 0] 39) (Xab (.cells (chgRow 1 [97] txtA) 60) j0)
 have j1':=Xab (.cells #[.int .i64 1,S [97],.slice none 0 0,S [],.int .i64 0,S [],.slice none 0 0] 39) (Xab (.cells (chgRow 1 [97] txtA) 60) j1)
 have j2':=Xab (.cells #[.int .i64 1,S [97],.slice none 0 0,S [],.int .i64 0,S [],.slice none 0 0] 39) (Xab (.cells (chgRow 1 [97] txtA) 60) j2)
 have j0'':=Xab (.cells #[.slice a2 0 c2,.int .i64 1,S []] 91) j0'
 have j1'':=Xab (.cells #[.slice a2 0 c2,.int .i64 1,S []] 91) j1'
 have j2'':=Xab (.cells #[.slice a2 0 c2,.int .i64 1,S []] 91) j2'
 have Hpu:=Qh (fun W hW=>Xk1 0 0 (by decide) (by decide) I2 ⟨[],1,[]⟩ (.slice a2 0 c2) Hr2.out ⟨by decide,by decide,Qn _,Qn _,fun _ h=>(by cases h)⟩ txtA (by decide) W hW)
 rw [Xq0] at Hpu
 refine wp_loop_rounds 2 ?_
 rw [rounds_succ]
 go_wp2_with fail
 refine (Hpu.out _ (((A3.out.ok.alloc _).alloc _).alloc _)).mono ?_
 rintro e5 w5 ⟨vc,vx,I5,rfl,hb5,hx5,hok5,hr5,hv5⟩
 obtain ⟨a5,c5,rfl⟩:=hr5.slN (n:=1) rfl
 obtain ⟨a6,c6,rfl⟩:=hv5.slN (n:=1) rfl
 have A5:=Qh ((((A3.out.past _).past _).past _).ext hb5 hx5 hok5)
 have hs5:=hb5.size
 simp only [World.size_alloc] at hs5
 have thru:∀k,k<W3.heap.size→w5.heap[k]? =W3.heap[k]? :=fun k hk=>(hb5.block _ (by simp;omega)).trans ((Below.heap_alloc _ _ _ (by simp;omega)).trans ((Below.heap_alloc _ _ _ (by simp;omega)).trans (Below.heap_alloc _ _ _ hk)))
 replace XR:=(thru _ (by omega)).trans XR
 replace SR:=(thru _ (by omega)).trans SR
 replace TR:=(thru _ (by omega)).trans TR
 obtain ⟨bc,hbc⟩:∃bc,W3.heap.size=bc:=⟨_,rfl⟩
 have BR:w5.heap[bc]? =some (.cells (chgRow 1 [97] txtA) 60 (0,0)):=by
  rw [←hbc]
  exact (hb5.block _ (by simp;omega)).trans ((Below.heap_alloc _ _ _ (by simp;omega)).trans ((Below.heap_alloc _ _ _ (by simp)).trans (heap_alloc_new W3 _)))
 have YR:w5.heap[bc+1]? =some (.cells #[.int .i64 1,S [97],.slice none 0 0,S [],.int .i64 0,S [],.slice none 0 0] 39 (0,0)):=by
  rw [←hbc]
  have h:=heap_alloc_new (W3.alloc (.cells (chgRow 1 [97] txtA) 60)) (.cells #[.int .i64 1,S [97],.slice none 0 0,S [],.int .i64 0,S [],.slice none 0 0] 39)
  rw [World.size_alloc] at h
  exact (hb5.block _ (by simp)).trans ((Below.heap_alloc _ _ _ (by simp)).trans h)
 have NR:w5.heap[bc+2]? =some (.cells #[.slice a2 0 c2,.int .i64 1,S []] 91 (0,0)):=by
  rw [←hbc]
  have h:=heap_alloc_new ((W3.alloc (.cells (chgRow 1 [97] txtA) 60)).alloc (.cells #[.int .i64 1,S [97],.slice none 0 0,S [],.int .i64 0,S [],.slice none 0 0] 39)) (.cells #[.slice a2 0 c2,.int .i64 1,S []] 91)
  rw [World.size_alloc,World.size_alloc] at h
  exact (hb5.block _ (by simp)).trans h
 have hlt5:bc+2<w5.heap.size:=by omega
 have hxs:∀k,k<W3.heap.size→I5 k=I2 k:=fun k hk=>hx5 k (by simp;omega)
 have hf5:I5 w.heap.size=none:=(hxs _ (by omega)).trans ((HxI.out _ (Nat.lt_succ_self _)).trans (hw.fresh (Qn _)))
 have hfs:I5 w2.heap.size=none:=(hxs _ (by omega)).trans hfs2
 have hft:I5 (w2.heap.size+1)=none:=(hxs _ (by omega)).trans hft2
 have hfb:∀k,bc≤k→k≤bc+2→I5 k=none:=fun k h1 h2=>(hx5 k (by simp;omega)).trans (A3.out.ok.fresh (by omega))
 have HxI5:=Qh (HxI.out.trans (hx5.mono (show W3.heap.size≤_ by simp;omega)) (by omega))
 have hk5:=hx5.keep (((A3.out.ok.alloc _).alloc _).alloc _) (Qn _)
 replace Ht:=Qh (Ht.out.mono hk5)
 replace Hh:=Qh (Hh.out.mono hk5)
 have Hr5:=Qh hr5
 have Hv5:=Qh hv5
 have hs35:w2.heap.size+1<bc:=by omega
 clear hb5 hx5 hok5 hr5 hv5 thru hxs hk5 k0 k1 k2 k3 k4 j0 j1 j2 j0' j1' j2' j0'' j1'' j2'' CR Hpu A3 HxI
 rw [hbc]
 clear hbc hfs2 hft2
 have b0:w5.cell? ⟨bc,0,none⟩=some (.int .i64 1):=(cell_of_row w5 _ 0 _ _ _ BR).trans rfl
 have n0:w5.cell? ⟨bc+2,0,none⟩=some (.slice a2 0 c2):=(cell_of_row w5 _ 0 _ _ _ NR).trans rfl
 have n1:w5.cell? ⟨bc+2,1,none⟩=some (.int .i64 1):=(cell_of_row w5 _ 1 _ _ _ NR).trans rfl
 have n2:w5.cell? ⟨bc+2,2,none⟩=some (S []):=(cell_of_row w5 _ 2 _ _ _ NR).trans rfl
 have n0p:=Xab (.cells #[.slice a5 1 c5,.int .i64 stA.ses,S stA.str] 91) n0
 have n1p:=Xab (.cells #[.slice a5 1 c5,.int .i64 stA.ses,S stA.str] 91) n1
 have n2p:=Xab (.cells #[.slice a5 1 c5,.int .i64 stA.ses,S stA.str] 91) n2
 have g0:w5.frozen? ⟨bc+1+1,0,none⟩=false:=frozen_of_row w5 _ 0 _ _ NR
 have g1:w5.frozen? ⟨bc+1+1,1,none⟩=false:=frozen_of_row w5 _ 1 _ _ NR
 have g2:w5.frozen? ⟨bc+1+1,2,none⟩=false:=frozen_of_row w5 _ 2 _ _ NR
 go_wp2_with fail
 obtain ⟨W6,hW6⟩:∃W6,(((w5.setCell ⟨bc+1+1,0,none⟩ (.slice a5 1 c5)).setCell ⟨bc+1+1,1,none⟩ (.int .i64 stA.ses)).setCell ⟨bc+1+1,2,none⟩ (S stA.str)).alloc (.cells #[.slice a5 1 c5,.int .i64 stA.ses,S stA.str] 91)=W6:=⟨_,rfl⟩
 have oth:∀k,k<w5.heap.size→k≠bc+1+1→W6.heap[k]? =w5.heap[k]? :=fun k hk hne=>by
  rw [←hW6]
  exact (Below.heap_alloc _ _ _ (by simp;omega)).trans ((Below.heap_setCell _ _ _ _ hne).trans ((Below.heap_setCell _ _ _ _ hne).trans (Below.heap_setCell _ _ _ _ hne)))
 have NR6:W6.heap[bc+1+1]? =some (.cells #[.slice a5 1 c5,.int .i64 stA.ses,S stA.str] 91 (0,0)):=by
  rw [←hW6]
  exact (Below.heap_alloc _ _ _ (by simp;omega)).trans (Xe0 NR)
 have hfn:I5 (bc+1+1)=none:=hfb (bc+1+1) (by omega) (by omega)
 have A6:=Qh (show MAt I w I5 W6 from ⟨by rw [←hW6];exact (((A5.out.ok.setCell (a:=⟨bc+1+1,0,none⟩) hfn _).setCell (a:=⟨bc+1+1,1,none⟩) hfn _).setCell (a:=⟨bc+1+1,2,none⟩) hfn _).alloc _,A5.out.keep,
  by rw [←hW6];exact (((A5.out.bel.setCell (p:=⟨bc+1+1,0,none⟩) (by show w.heap.size≤bc+1+1;omega) _).setCell (p:=⟨bc+1+1,1,none⟩) (by show w.heap.size≤bc+1+1;omega) _).setCell (p:=⟨bc+1+1,2,none⟩) (by show w.heap.size≤bc+1+1;omega) _).alloc (by simp;have:=A5.out.size;omega) _⟩)
 have hs6:w5.heap.size<W6.heap.size:=by rw [←hW6];simp
 replace XR:=(oth _ (by omega) (by omega)).trans XR
 replace SR:=(oth _ (by omega) (by omega)).trans SR
 replace TR:=(oth _ (by omega) (by omega)).trans TR
 replace BR:=(oth _ (by omega) (by omega)).trans BR
 replace YR:=(oth _ (by omega) (by omega)).trans YR
 change Code.wp _ _ _ _ ((((w5.setCell ⟨bc+1+1,0,none⟩ (.slice a5 1 c5)).setCell ⟨bc+1+1,1,none⟩ (.int .i64 stA.ses)).setCell ⟨bc+1+1,2,none⟩ (S stA.str)).alloc (.cells #[.slice a5 1 c5,.int .i64 stA.ses,S stA.str] 91))
 rw [hW6]
 clear hW6 NR A5 b0 n0 n1 n2 n0p n1p n2p g0 g1 g2 oth
 have b4:W6.cell? ⟨bc,4,none⟩=some (S txtA):=(cell_of_row W6 _ 4 _ _ _ BR).trans rfl
 refine Xa3 (X:=Nat) (mkL bc (.slice a6 1 c6)) (YC W6 (bc+1) txtA digA (txtA.length:Int) (.slice a6 1 c6)) (by kernel_rfl) (by kernel_rfl) ?_ ?_ ?_
 ·exact ⟨0,YC.start _ YR⟩
 ·rintro x s a' w' i hsz ha hC hi
  obtain ⟨hun,oi,hoi,hall⟩:=mem_ready.1 hi
  rcases i with _|_|_|_|_|_|_|_|_|_|_|_|_|_|i
  rotate_left 14
  ·simp at hoi
  all_goals
   have hoj:=hoi
   simp at hoi
   subst hoi
   simp [Region.binds] at hall
  ·have e12:a'.tmps[12]?.getD undef= .pointer (some ⟨bc,0,none⟩):=Xbv ha (by simp)
   refine wpOp_step hoj (fun K' hK=> ?_)
   rw [if_pos (by rfl)]
   unfold Oper.wp
   simp [go_sem,e12,Oper.upon]
   exact hK _ _ ⟨x,Xaf (d:=some 91) (v:=(.pointer (some ⟨bc,4,none⟩))) Xak ha rfl hun,hC.step (Qb _ _) (by decide) (by decide) (by decide) (by decide)⟩
  ·have e91:a'.tmps[91]?.getD undef= .pointer (some ⟨bc,4,none⟩):=Xaq (i:=0) Xak ha rfl (by simpa using hall) (by simp)
   have b4':=hC.cell (by omega) b4
   refine wpOp_step hoj (fun K' hK=> ?_)
   rw [if_pos (by rfl)]
   unfold Oper.wp
   simp [go_sem,e91,b4',Oper.upon]
   exact hK _ _ ⟨x,Xaf (d:=some 92) (v:=S txtA) Xak ha rfl hun,hC.step (Qb _ _) (by decide) (by decide) (by decide) (by decide)⟩
  ·have e92:a'.tmps[92]?.getD undef=S txtA:=Xaq (i:=1) Xak ha rfl (by simpa using hall) (by simp)
   refine wpOp_step hoj (fun K' hK=> ?_)
   rw [if_pos (by rfl)]
   unfold Oper.wp
   simp [go_sem,e92,Oper.upon]
   exact hK _ _ ⟨x,Xaf (d:=some 93) (v:=(.int .i64 (txtA.length:Int))) Xak ha rfl hun,hC.step (Qb _ _) (by decide) (by decide) (by decide) (by decide)⟩
  ·have e16:a'.tmps[16]?.getD undef= .slice a6 1 c6:=Xbv ha (by simp)
   refine wpOp_step hoj (fun K' hK=> ?_)
   rw [if_pos (by rfl)]
   unfold Oper.wp
   simp [go_sem,e16,Oper.upon]
   exact hK _ _ ⟨x,Xaf (d:=some 94) (v:=(.slice a6 1 c6)) Xak ha rfl hun,hC.step (Qb _ _) (by decide) (by decide) (by decide) (by decide)⟩
  ·have e12:a'.tmps[12]?.getD undef= .pointer (some ⟨bc,0,none⟩):=Xbv ha (by simp)
   refine wpOp_step hoj (fun K' hK=> ?_)
   rw [if_pos (by rfl)]
   unfold Oper.wp
   simp [go_sem,e12,Oper.upon]
   exact hK _ _ ⟨x,Xaf (d:=some 95) (v:=(.pointer (some ⟨bc,4,none⟩))) Xak ha rfl hun,hC.step (Qb _ _) (by decide) (by decide) (by decide) (by decide)⟩
  ·have e95:a'.tmps[95]?.getD undef= .pointer (some ⟨bc,4,none⟩):=Xaq (i:=4) Xak ha rfl (by simpa using hall) (by simp)
   have b4':=hC.cell (by omega) b4
   refine wpOp_step hoj (fun K' hK=> ?_)
   rw [if_pos (by rfl)]
   unfold Oper.wp
   simp [go_sem,e95,b4',Oper.upon]
   exact hK _ _ ⟨x,Xaf (d:=some 96) (v:=S txtA) Xak ha rfl hun,hC.step (Qb _ _) (by decide) (by decide) (by decide) (by decide)⟩
  ·have e96:a'.tmps[96]?.getD undef=S txtA:=Xaq (i:=5) Xak ha rfl (by simpa using hall) (by simp)
   have ha:=ha.trans (Xvu (x:=x) (y:=w'.heap.size) hun)
   refine wpOp_step hoj (fun K' hK=> ?_)
   rw [if_pos (by rfl)]
   unfold Oper.wp
   simp [go_sem,e96,Oper.upon]
   exact hK _ _ ⟨w'.heap.size,Xaf (d:=some 97) (v:= .slice (some ⟨w'.heap.size,0,none⟩) 1 1) Xak ha rfl hun,hC.at6 hun⟩
  ·have e97:a'.tmps[97]?.getD undef= .slice (some ⟨x,0,none⟩) 1 1:=Xaq (i:=6) Xak ha rfl (by simpa using hall) (by simp)
   refine wpOp_step hoj (fun K' hK=> ?_)
   rw [if_pos (by rfl)]
   unfold Oper.wp
   simp [go_sem,e97,Oper.upon]
   refine (Xit x 0 1 txtA (by decide) w' ((cell_of_row w' _ 0 _ _ _ (hC.blk (by simpa using hall)).1).trans rfl)).mono ?_
   rintro e w9 ⟨rfl,hb9⟩
   exact hK _ _ ⟨x,Xaf (d:=some 98) (v:=S digA) Xak ha rfl hun,hC.step hb9 (by decide) (by decide) (by decide) (by decide)⟩
  ·have e13:a'.tmps[13]?.getD undef= .pointer (some ⟨bc+1,0,none⟩):=Xbv ha (by simp)
   refine wpOp_step hoj (fun K' hK=> ?_)
   rw [if_pos (by rfl)]
   unfold Oper.wp
   simp [go_sem,e13,Oper.upon]
   exact hK _ _ ⟨x,Xaf (d:=some 99) (v:=(.pointer (some ⟨bc+1,4,none⟩))) Xak ha rfl hun,hC.step (Qb _ _) (by decide) (by decide) (by decide) (by decide)⟩
  ·have e99:a'.tmps[99]?.getD undef= .pointer (some ⟨bc+1,4,none⟩):=Xaq (i:=8) Xak ha rfl (by simpa using hall.1) (by simp)
   have e93:a'.tmps[93]?.getD undef= .int .i64 (txtA.length:Int):=Xaq (i:=2) Xak ha rfl (by simpa using hall.2.1) (by simp)
   obtain ⟨u,hu⟩:=hC.own 4 (by decide)
   have hf:=hC.frz 4
   refine wpOp_step hoj (fun K' hK=> ?_)
   rw [if_pos (by rfl)]
   unfold Oper.wp
   simp [go_sem,e99,e93,hu,hf,Oper.upon]
   exact hK _ _ ⟨x,Xaf (d:=none) (v:=undef) Xak ha rfl hun,hC.at9 hun⟩
  ·have e13:a'.tmps[13]?.getD undef= .pointer (some ⟨bc+1,0,none⟩):=Xbv ha (by simp)
   refine wpOp_step hoj (fun K' hK=> ?_)
   rw [if_pos (by rfl)]
   unfold Oper.wp
   simp [go_sem,e13,Oper.upon]
   exact hK _ _ ⟨x,Xaf (d:=some 100) (v:=(.pointer (some ⟨bc+1,6,none⟩))) Xak ha rfl hun,hC.step (Qb _ _) (by decide) (by decide) (by decide) (by decide)⟩
  ·have e100:a'.tmps[100]?.getD undef= .pointer (some ⟨bc+1,6,none⟩):=Xaq (i:=10) Xak ha rfl (by simpa using hall.1) (by simp)
   have e94:a'.tmps[94]?.getD undef= .slice a6 1 c6:=Xaq (i:=3) Xak ha rfl (by simpa using hall.2.1) (by simp)
   obtain ⟨u,hu⟩:=hC.own 6 (by decide)
   have hf:=hC.frz 6
   refine wpOp_step hoj (fun K' hK=> ?_)
   rw [if_pos (by rfl)]
   unfold Oper.wp
   simp [go_sem,e100,e94,hu,hf,Oper.upon]
   exact hK _ _ ⟨x,Xaf (d:=none) (v:=undef) Xak ha rfl hun,hC.at11 hun⟩
  ·have e13:a'.tmps[13]?.getD undef= .pointer (some ⟨bc+1,0,none⟩):=Xbv ha (by simp)
   refine wpOp_step hoj (fun K' hK=> ?_)
   rw [if_pos (by rfl)]
   unfold Oper.wp
   simp [go_sem,e13,Oper.upon]
   exact hK _ _ ⟨x,Xaf (d:=some 101) (v:=(.pointer (some ⟨bc+1,5,none⟩))) Xak ha rfl hun,hC.step (Qb _ _) (by decide) (by decide) (by decide) (by decide)⟩
  ·have e101:a'.tmps[101]?.getD undef= .pointer (some ⟨bc+1,5,none⟩):=Xaq (i:=12) Xak ha rfl (by simpa using hall.1) (by simp)
   have e98:a'.tmps[98]?.getD undef=S digA:=Xaq (i:=7) Xak ha rfl (by simpa using hall.2.1) (by simp)
   obtain ⟨u,hu⟩:=hC.own 5 (by decide)
   have hf:=hC.frz 5
   refine wpOp_step hoj (fun K' hK=> ?_)
   rw [if_pos (by rfl)]
   unfold Oper.wp
   simp [go_sem,e101,e98,hu,hf,Oper.upon]
   exact hK _ _ ⟨x,Xaf (d:=none) (v:=undef) Xak ha rfl hun,hC.at13 hun⟩
 rintro x s a' W8 hup ha hC
 obtain ⟨hgr,YR8⟩:=hC.done (hup 9 (by decide)) (hup 11 (by decide)) (hup 13 (by decide))
 rw [Xb8 _ _ _ _ (fun i hi=>by rw [Nat.zero_add];exact hup i (by simpa using hi))] at ha
 subst ha
 simp only [fillAll,Act.put]
 have old:∀k,k<W6.heap.size→k≠bc+1→W8.heap[k]? =W6.heap[k]? :=fun k h1 h2=>hC.old h1 h2
 have hs8:=hgr.size
 have hfy:I5 (bc+1)=none:=hfb (bc+1) (by omega) (by omega)
 have A8:=Qh (show MAt I w I5 W8 from ⟨A6.out.ok.grown hgr (fun g e=>by cases e;exact hfy),A6.out.keep,A6.out.bel.grown hgr A6.out.size (fun k e=>by cases e;omega)⟩)
 replace XR:=(old _ (by omega) (by omega)).trans XR
 replace SR:=(old _ (by omega) (by omega)).trans SR
 replace TR:=(old _ (by omega) (by omega)).trans TR
 replace NR6:=(old _ (by omega) (by omega)).trans NR6
 clear hC hup hgr old YR b4 A6 BR
 have Hst:=Qh (fun W hW=>(show Calls Tryz.prog 35 #[.agg #[.slice t1 0 tc1,.slice u1 0 uc1],.agg #[.int .i64 1,S [97],.slice none 0 0,S [],.int .i64 (txtA.length:Int),S digA,.slice a6 1 c6],.int .i64 5] W (RetT I5 W ⟨[yA],[]⟩ 0) from by
  have h:=Xa5 I5 nilS (.slice t1 0 tc1) (.slice u1 0 uc1) Ht.out Hh.out (fun _ h=>(by cases h)) (by decide) Xjy (by decide) yA (.slice none 0 0) (.slice a6 1 c6) (RdS.nil _ _) Hv5.out Xvo (by decide) (by decide) 5 W hW
  rw [Xif] at h
  exact h))
 have s0:W8.cell? ⟨w2.heap.size,0,none⟩=some (.slice t1 0 tc1):=(cell_of_row W8 _ 0 _ _ _ SR).trans rfl
 have s1:W8.cell? ⟨w2.heap.size,1,none⟩=some (.slice u1 0 uc1):=(cell_of_row W8 _ 1 _ _ _ SR).trans rfl
 have y0:W8.cell? ⟨bc+1,0,none⟩=some (.int .i64 1):=(cell_of_row W8 _ 0 _ _ _ YR8).trans rfl
 have y1:W8.cell? ⟨bc+1,1,none⟩=some (S [97]):=(cell_of_row W8 _ 1 _ _ _ YR8).trans rfl
 have y2:W8.cell? ⟨bc+1,2,none⟩=some (.slice none 0 0):=(cell_of_row W8 _ 2 _ _ _ YR8).trans rfl
 have y3:W8.cell? ⟨bc+1,3,none⟩=some (S []):=(cell_of_row W8 _ 3 _ _ _ YR8).trans rfl
 have y4:W8.cell? ⟨bc+1,4,none⟩=some (.int .i64 (txtA.length:Int)):=(cell_of_row W8 _ 4 _ _ _ YR8).trans rfl
 have y5:W8.cell? ⟨bc+1,5,none⟩=some (S digA):=(cell_of_row W8 _ 5 _ _ _ YR8).trans rfl
 have y6:W8.cell? ⟨bc+1,6,none⟩=some (.slice a6 1 c6):=(cell_of_row W8 _ 6 _ _ _ YR8).trans rfl
 have d1:W8.cell? ⟨w.heap.size,1,none⟩=some (.int .i64 5):=(cell_of_row W8 _ 1 _ _ _ XR).trans rfl
 go_wp2_with fail
 refine (Hst.out _ A8.out.ok).mono ?_
 rintro e9 w9 ⟨v9,v8,I9,rfl,hb9,hx9,hok9,ht9,hh9⟩
 obtain ⟨a9,d9,rfl⟩:=ht9.slN (n:=1) rfl
 obtain ⟨a8,d8,rfl⟩:=hh9.slN (n:=0) rfl
 have A9:=Qh (A8.out.ext hb9 hx9 hok9)
 have hs9:=hb9.size
 have oth9:∀k,k<W8.heap.size→w9.heap[k]? =W8.heap[k]? :=fun k h1=>hb9.block k h1
 replace XR:=(oth9 _ (by omega)).trans XR
 replace SR:=(oth9 _ (by omega)).trans SR
 replace TR:=(oth9 _ (by omega)).trans TR
 replace NR6:=(oth9 _ (by omega)).trans NR6
 replace YR8:=(oth9 _ (by omega)).trans YR8
 have hx9':∀k,k<W8.heap.size→I9 k=I5 k:=fun k h1=>hx9 k h1
 have hg5:I9 w.heap.size=none:=(hx9' _ (by omega)).trans hf5
 have hgs:I9 w2.heap.size=none:=(hx9' _ (by omega)).trans hfs
 have hgt:I9 (w2.heap.size+1)=none:=(hx9' _ (by omega)).trans hft
 have HxI9:=Qh (HxI5.out.trans hx9 (by omega))
 have hk9:=hx9.keep A8.out.ok (Qn _)
 replace Hr5:=Qh (Hr5.out.mono hk9)
 replace Hv5:=Qh (Hv5.out.mono hk9)
 clear hb9 hx9 hok9 ht9 hh9 oth9 hx9' hk9 A8 Hst s0 s1 y0 y1 y2 y3 y4 y5 y6 d1 Ht Hh HxI5
 have p0:w9.cell? ⟨bc+2,0,none⟩=some (.slice a5 1 c5):=(cell_of_row w9 _ 0 _ _ _ NR6).trans rfl
 have p1:w9.cell? ⟨bc+2,1,none⟩=some (.int .i64 stA.ses):=(cell_of_row w9 _ 1 _ _ _ NR6).trans rfl
 have p2:w9.cell? ⟨bc+2,2,none⟩=some (S stA.str):=(cell_of_row w9 _ 2 _ _ _ NR6).trans rfl
 have s0:w9.cell? ⟨w2.heap.size,0,none⟩=some (.slice t1 0 tc1):=(cell_of_row w9 _ 0 _ _ _ SR).trans rfl
 have s1:w9.cell? ⟨w2.heap.size,1,none⟩=some (.slice u1 0 uc1):=(cell_of_row w9 _ 1 _ _ _ SR).trans rfl
 have q0:w9.cell? ⟨w2.heap.size+1,0,none⟩=some (.slice a2 0 c2):=(cell_of_row w9 _ 0 _ _ _ TR).trans rfl
 have q1:w9.cell? ⟨w2.heap.size+1,1,none⟩=some (.int .i64 1):=(cell_of_row w9 _ 1 _ _ _ TR).trans rfl
 have q2:w9.cell? ⟨w2.heap.size+1,2,none⟩=some (S []):=(cell_of_row w9 _ 2 _ _ _ TR).trans rfl
 have fs0:=frozen_of_row w9 _ 0 _ _ SR
 have fs1:=frozen_of_row w9 _ 1 _ _ SR
 have fq0:=frozen_of_row w9 _ 0 _ _ TR
 have fq1:=frozen_of_row w9 _ 1 _ _ TR
 have fq2:=frozen_of_row w9 _ 2 _ _ TR
 go_wp2_with fail
 obtain ⟨W10,hW10⟩:∃W10,w9.alloc (.cells #[.slice a9 1 d9,.slice a8 0 d8] 69)=W10:=⟨_,rfl⟩
 have o10:∀k,k<w9.heap.size→W10.heap[k]? =w9.heap[k]? :=fun k h1=>by rw [←hW10];exact Below.heap_alloc _ _ _ h1
 have AR:W10.heap[w9.heap.size]? =some (.cells #[.slice a9 1 d9,.slice a8 0 d8] 69 (0,0)):=by rw [←hW10];exact heap_alloc_new w9 _
 have A10:=Qh (show MAt I w I9 W10 by rw [←hW10];exact A9.out.past _)
 have hs10:w9.heap.size<W10.heap.size:=by rw [←hW10];simp
 replace XR:=(o10 _ (by omega)).trans XR
 replace SR:=(o10 _ (by omega)).trans SR
 replace TR:=(o10 _ (by omega)).trans TR
 replace NR6:=(o10 _ (by omega)).trans NR6
 replace YR8:=(o10 _ (by omega)).trans YR8
 change Code.wp _ _ _ _ (w9.alloc (.cells #[.slice a9 1 d9,.slice a8 0 d8] 69))
 rw [hW10]
 clear hW10 o10 A9 p0 p1 p2 s0 s1 q0 q1 q2 fs0 fs1 fq0 fq1 fq2
 have z0:W10.cell? ⟨w9.heap.size,0,none⟩=some (.slice a9 1 d9):=(cell_of_row W10 _ 0 _ _ _ AR).trans rfl
 have z1:W10.cell? ⟨w9.heap.size,1,none⟩=some (.slice a8 0 d8):=(cell_of_row W10 _ 1 _ _ _ AR).trans rfl
 have p0:W10.cell? ⟨bc+1+1,0,none⟩=some (.slice a5 1 c5):=(cell_of_row W10 _ 0 _ _ _ NR6).trans rfl
 have p1:W10.cell? ⟨bc+1+1,1,none⟩=some (.int .i64 stA.ses):=(cell_of_row W10 _ 1 _ _ _ NR6).trans rfl
 have p2:W10.cell? ⟨bc+1+1,2,none⟩=some (S stA.str):=(cell_of_row W10 _ 2 _ _ _ NR6).trans rfl
 refine Xa3 (X:=Unit) (fun _=> [(some 112,.agg #[.slice a9 1 d9,.slice a8 0 d8]),(some 113,.agg #[.slice a5 1 c5,.int .i64 stA.ses,S stA.str]),(none,undef),(none,undef)])
  (MkC W10 w2.heap.size (.slice a9 1 d9) (.slice a8 0 d8) (.slice t1 0 tc1) (.slice u1 0 uc1) (stoC stA (.slice a5 1 c5)) #[.slice a2 0 c2,.int .i64 1,S []]) (by kernel_rfl) (by kernel_rfl) ?_ ?_ ?_
 ·exact ⟨(),MkC.start _ SR TR⟩
 ·rintro x s a' w' i hsz ha hC hi
  obtain ⟨hun,oi,hoi,hall⟩:=mem_ready.1 hi
  rcases i with _|_|_|_|i
  rotate_left 4
  ·simp at hoi
  all_goals
   have hoj:=hoi
   simp at hoi
   subst hoi
   simp [Region.binds] at hall
  ·have e18:a'.tmps[18]?.getD undef= .pointer (some ⟨w9.heap.size,0,none⟩):=Xbv ha (by simp)
   have z0':=hC.cell (by omega) (by omega) z0
   have z1':=hC.cell (by omega) (by omega) z1
   refine wpOp_step hoj (fun K' hK=> ?_)
   rw [if_pos (by rfl)]
   unfold Oper.wp
   simp [go_sem,e18,z0',z1',Oper.upon]
   exact hK _ _ ⟨(),Xaf (d:=some 112) (v:= .agg #[.slice a9 1 d9,.slice a8 0 d8]) Xa9 ha rfl hun,hC.step (by decide) (by decide)⟩
  ·have e14:a'.tmps[14]?.getD undef= .pointer (some ⟨bc+1+1,0,none⟩):=Xbv ha (by simp)
   have p0':=hC.cell (by omega) (by omega) p0
   have p1':=hC.cell (by omega) (by omega) p1
   have p2':=hC.cell (by omega) (by omega) p2
   refine wpOp_step hoj (fun K' hK=> ?_)
   rw [if_pos (by rfl)]
   unfold Oper.wp
   simp [go_sem,e14,p0',p1',p2',Oper.upon]
   exact hK _ _ ⟨(),Xaf (d:=some 113) (v:= .agg #[.slice a5 1 c5,.int .i64 stA.ses,S stA.str]) Xa9 ha rfl hun,hC.step (by decide) (by decide)⟩
  ·have e9:a'.tmps[9]?.getD undef= .pointer (some ⟨w2.heap.size,0,none⟩):=Xbv ha (by simp)
   have e112:a'.tmps[112]?.getD undef= .agg #[.slice a9 1 d9,.slice a8 0 d8]:=Xaq (i:=0) Xa9 ha rfl (by first|simpa using hall|simpa using hall.1) (by simp)
   have hst:=hC.s0 (Xas hun)
   refine wpOp_step hoj (fun K' hK=> ?_)
   rw [if_pos (by rfl)]
   refine wp_store_row 69 _ _ rfl w2.heap.size #[.slice a9 1 d9,.slice a8 0 d8] (by simp [Act.eval,e9]) (by simp [Act.eval,e112]) 69 _ hst (by kernel_rfl) rfl (by simp [Value.oneCell']) ?_
   exact hK _ _ ⟨(),Xaf (d:=none) (v:=undef) Xa9 ha rfl hun,hC.at2 hun⟩
  ·have e10:a'.tmps[10]?.getD undef= .pointer (some ⟨w2.heap.size+1,0,none⟩):=Xbv ha (by simp)
   have e113:a'.tmps[113]?.getD undef= .agg (stoC stA (.slice a5 1 c5)):=Xaq (i:=1) Xa9 ha rfl (by simpa using hall.1) (by simp)
   have hst:=hC.t0 (Xas hun)
   refine wpOp_step hoj (fun K' hK=> ?_)
   rw [if_pos (by rfl)]
   refine wp_store_row 91 _ _ rfl (w2.heap.size+1) (stoC stA (.slice a5 1 c5)) (by simp [Act.eval,e10]) (by simp [Act.eval,e113]) 91 _ hst (by kernel_rfl) rfl (by simp [Value.oneCell',stoC]) ?_
   exact hK _ _ ⟨(),Xaf (d:=none) (v:=undef) Xa9 ha rfl hun,hC.at3 hun⟩
 rintro x s a' W12 hup ha hC
 obtain ⟨SR',TR'⟩:=hC.done (hup 2 (by decide)) (hup 3 (by decide))
 rw [Xb8 _ _ _ _ (fun i hi=>by rw [Nat.zero_add];exact hup i (by simpa using hi))] at ha
 subst ha
 simp only [fillAll,Act.put]
 have A12:=Qh (hC.mat A10.out hgs hgt (by omega))
 have oth:∀k,k≠w2.heap.size→k≠w2.heap.size+1→W12.heap[k]? =W10.heap[k]? :=hC.oth
 have hs12:=hC.size
 replace XR:=(oth _ (by omega) (by omega)).trans XR
 replace YR8:=(oth _ (by omega) (by omega)).trans YR8
 clear hC hup oth SR TR A10 AR NR6 z0 z1 p0 p1 p2
 have y0:W12.cell? ⟨bc+1,0,none⟩=some (.int .i64 1):=(cell_of_row W12 _ 0 _ _ _ YR8).trans rfl
 have y1:W12.cell? ⟨bc+1,1,none⟩=some (S [97]):=(cell_of_row W12 _ 1 _ _ _ YR8).trans rfl
 have y2:W12.cell? ⟨bc+1,2,none⟩=some (.slice none 0 0):=(cell_of_row W12 _ 2 _ _ _ YR8).trans rfl
 have y3:W12.cell? ⟨bc+1,3,none⟩=some (S []):=(cell_of_row W12 _ 3 _ _ _ YR8).trans rfl
 have y4:W12.cell? ⟨bc+1,4,none⟩=some (.int .i64 (txtA.length:Int)):=(cell_of_row W12 _ 4 _ _ _ YR8).trans rfl
 have y5:W12.cell? ⟨bc+1,5,none⟩=some (S digA):=(cell_of_row W12 _ 5 _ _ _ YR8).trans rfl
 have y6:W12.cell? ⟨bc+1,6,none⟩=some (.slice a6 1 c6):=(cell_of_row W12 _ 6 _ _ _ YR8).trans rfl
 have d3:W12.cell? ⟨w.heap.size,3,none⟩=some (.slice none 0 0):=(cell_of_row W12 _ 3 _ _ _ XR).trans rfl
 have fd3:=frozen_of_row W12 _ 3 _ _ XR
 have hyr:tEnt.rd I9 [.int .i64 1,S [97],.slice none 0 0,S [],.int .i64 (txtA.length:Int),S digA,.slice a6 1 c6] yA:=⟨_,_,rfl,RdS.nil _ _,Hv5.out⟩
 go_wp2_with (at_builtin;refine Xad (w0:=W12) Xau rfl _ _ rfl W12.heap.size (.slice none 0 0) [] rfl (OwnS.nil _ _ _ _ _) yA [.int .i64 1,S [97],.slice none 0 0,S [],.int .i64 (txtA.length:Int),S digA,.slice a6 1 c6] _ (by first|rfl|simp [Act.eval]) hyr (by decide) (by decide) (Qn _) ?_;intro v13 w13 ho13 hg13;obtain ⟨g13,n13,k13,rfl⟩:=Xdz ho13;have d3':=Xam hg13 (by simp [Value.ownBlock]) d3;have fd3':=Xj4 hg13 (by simp [Value.ownBlock]) d3 fd3)
 have hbn:Below W12.heap.size W12 w13:=⟨hg13.os,hg13.tape,hg13.output,hg13.size,fun k hk=>hg13.block k hk (by simp [Value.ownBlock])⟩
 have hok13':Ok I9 w13:=A12.out.ok.below (Qn _) hbn
 obtain ⟨J13,hx13,hok13,hr13,_⟩:=ho13.freeze hok13' (fun b hb=>A12.out.ok.fresh hb)
 have hj0:J13 w.heap.size=none:=(hx13 _ (by omega)).trans hg5
 have A13:=A12.out.ext hbn hx13 hok13
 have HxI13:=Qh (HxI9.out.trans hx13 (by omega))
 have hs13:=hbn.size
 replace XR:=(hbn.block _ (by omega)).trans XR
 replace TR':=(hbn.block _ (by omega)).trans TR'
 obtain ⟨W14,hW14⟩:∃W14,w13.setCell ⟨w.heap.size,3,none⟩ (.slice (some ⟨g13,0,none⟩) n13 k13)=W14:=⟨_,rfl⟩
 have XR14:W14.heap[w.heap.size]? =some (.cells #[.int .i64 1,.int .i64 5,S [],.slice (some ⟨g13,0,none⟩) n13 k13,S [],S []] 47 (0,0)):=by rw [←hW14];exact heap_setCell_same w13 w.heap.size 3 _ _ _ XR
 have TR14:W14.heap[w2.heap.size+1]? =_:=(by rw [←hW14];exact Below.heap_setCell _ _ _ _ (show w2.heap.size+1≠w.heap.size by omega):W14.heap[w2.heap.size+1]? =w13.heap[w2.heap.size+1]?).trans TR'
 have A14:=Qh (show MAt I w J13 W14 from ⟨by rw [←hW14];exact A13.ok.setCell (a:=⟨w.heap.size,3,none⟩) hj0 _,A13.keep,by rw [←hW14];exact A13.bel.setCell (p:=⟨w.heap.size,3,none⟩) (Qn _) _⟩)
 have hs14:W14.heap.size=w13.heap.size:=by rw [←hW14];simp
 have Hs14:=Qh hs14
 have Hr13:=Qh hr13
 change Code.rounds _ _ _ _ _ (w13.setCell ⟨w.heap.size,3,none⟩ (.slice (some ⟨g13,0,none⟩) n13 k13))
 rw [hW14]
 clear hW14 hs14 XR TR' A13 ho13 hg13 hbn hok13' hx13 hok13 hr13 d3 d3' fd3 fd3' y0 y1 y2 y3 y4 y5 y6 A12 HxI9 hyr
 have d4:W14.cell? ⟨w.heap.size,4,none⟩=some (S []):=(cell_of_row W14 _ 4 _ _ _ XR14).trans rfl
 have fd4:=frozen_of_row W14 _ 4 _ _ XR14
 have q2:W14.cell? ⟨w2.heap.size+1,2,none⟩=some (S stA.str):=(cell_of_row W14 _ 2 _ _ _ TR14).trans rfl
 rw [rounds_succ]
 go_wp2_with fail
 obtain ⟨W15,hW15⟩:∃W15,W14.setCell ⟨w.heap.size,4,none⟩ (S stA.str)=W15:=⟨_,rfl⟩
 have XR15:W15.heap[w.heap.size]? =some (.cells (sesRw sA (.slice (some ⟨g13,0,none⟩) n13 k13)) 47 (0,0)):=by rw [←hW15];exact heap_setCell_same W14 w.heap.size 4 _ _ _ XR14
 have A15:=Qh (show MAt I w J13 W15 from ⟨by rw [←hW15];exact A14.out.ok.setCell (a:=⟨w.heap.size,4,none⟩) hj0 _,A14.out.keep,by rw [←hW15];exact A14.out.bel.setCell (p:=⟨w.heap.size,4,none⟩) (Qn _) _⟩)
 change Code.wp _ _ _ _ (W14.setCell ⟨w.heap.size,4,none⟩ (S stA.str))
 rw [hW15]
 clear hW15 A14 d4 fd4 q2 XR14 TR14 YR8
 have Hrow:RdS tEnt J13 (.slice (some ⟨g13,0,none⟩) n13 k13) sA.ents:=Hr13.out
 have hl13:RdS tSes J13 (.slice none 0 0) []:=RdS.nil _ _
 refine Xa3 (X:=A2X × Value) (mrL (.slice none 0 0) sA (.slice (some ⟨g13,0,none⟩) n13 k13)) (MrC J13 W15 [] sA (sesRw sA (.slice (some ⟨g13,0,none⟩) n13 k13))) (by kernel_rfl) (by kernel_rfl) ?_ ?_ ?_
 ·exact ⟨(⟨0,0,undef,undef⟩,undef),A2C.start _ _,fun q=>(by rw [Xbn] at q;cases q)⟩
 ·rintro x s a' w' i hsz ha hC hi
  obtain ⟨hun,oi,hoi,hall⟩:=mem_ready.1 hi
  have hokw:Ok J13 w':=A15.out.ok.below (Qn _) hC.1.bel
  rcases i with _|_|_|_|_|_|_|i
  rotate_left 7
  ·simp at hoi
  all_goals
   have hoj:=hoi
   simp at hoi
   subst hoi
   simp [Region.binds] at hall
  ·have ha:=ha.trans (Xef (x:=x) (y:=({ x.1 with e:=w'.heap.size },x.2)) 0 (fun j hne=>by
    rcases j with _|_|_|_|_|_|_|j<;>first|rfl|(exact absurd rfl hne)|simp) hun)
   refine wpOp_step hoj (fun K' hK=> ?_)
   rw [if_pos (by rfl)]
   unfold Oper.wp
   simp [go_sem,Oper.upon]
   refine hK _ _ ⟨({ x.1 with e:=w'.heap.size },x.2),Xaf (d:=some 124) (v:= .slice (some ⟨w'.heap.size,0,none⟩) 0 0) Xaj ha rfl hun,hC.1.at0 hun (by decide),?_⟩
   rw [getD_set_ne false (by decide),getD_set_ne false (by decide)]
   exact hC.2
  ·have e0:a'.tmps[0]?.getD undef=(.slice none 0 0):=Xbv ha (by simp)
   refine wpOp_step hoj (fun K' hK=> ?_)
   rw [if_pos (by rfl)]
   unfold Oper.wp
   simp [go_sem,e0,Oper.upon]
   exact hK _ _ ⟨x,Xaf (d:=some 125) (v:=(.slice none 0 0)) Xaj ha rfl hun,hC.step (Qb _ _) (by decide) (by decide) (by decide) (by decide) (by decide)⟩
  ·have e124:a'.tmps[124]?.getD undef= .slice (some ⟨x.1.e,0,none⟩) 0 0:=Xaq (i:=0) Xaj ha rfl (by simpa using hall.1) (by simp)
   have e125:a'.tmps[125]?.getD undef=(.slice none 0 0):=Xaq (i:=1) Xaj ha rfl (by simpa using hall.2) (by simp)
   have hs0:s.getD 0 false=true:=by simpa using hall.1
   refine wpOp_step hoj (fun K' hK=> ?_)
   rw [if_pos (by rfl)]
   refine Xbg Xdu _ _ rfl (by simp [Act.eval,e124]) (hC.1.p0 hs0 (Xas hun)) (by simp [Act.eval,e125]) (SrcS.of_rd (T:=tSes) hl13 hokw (by decide)) (by first|(simp only [List.length_nil];omega)|(simp only [List.length_nil,List.length_cons];omega)) (by first|(simp only [List.length_nil];omega)|(simp only [List.length_nil,List.length_cons];omega)) hC.1.bel.size ?_
   intro v' w'' ho hg hl
   have ha:=ha.trans (Xef (x:=x) (y:=({ x.1 with v1:=v' },x.2)) 2 (fun j hne=>by
    rcases j with _|_|_|_|_|_|_|j<;>first|rfl|(exact absurd rfl hne)|simp) hun)
   refine hK _ _ ⟨({ x.1 with v1:=v' },x.2),Xaf (d:=some 126) (v:=v') Xaj ha rfl hun,hC.1.at2 hun hs0 (by decide) ho hg hl,?_⟩
   rw [getD_set_ne false (by decide),getD_set_ne false (by decide)]
   exact hC.2
  ·have e8:a'.tmps[8]?.getD undef= .pointer (some ⟨w.heap.size,0,none⟩):=Xbv ha (by simp)
   have hr:w'.heap[w.heap.size]? =some (.cells (sesRw sA (.slice (some ⟨g13,0,none⟩) n13 k13)) 47 (0,0)):=(hC.1.bel.block _ (Array.getElem?_eq_some_iff.1 XR15).1).trans XR15
   obtain ⟨m0,m1,m2,m3,m4,m5⟩:=(show SesB w' w.heap.size sA (.slice (some ⟨g13,0,none⟩) n13 k13) from ⟨(cell_of_row w' _ 0 _ _ _ hr).trans rfl,(cell_of_row w' _ 1 _ _ _ hr).trans rfl,(cell_of_row w' _ 2 _ _ _ hr).trans rfl,(cell_of_row w' _ 3 _ _ _ hr).trans rfl,(cell_of_row w' _ 4 _ _ _ hr).trans rfl,(cell_of_row w' _ 5 _ _ _ hr).trans rfl⟩)
   refine wpOp_step hoj (fun K' hK=> ?_)
   rw [if_pos (by rfl)]
   unfold Oper.wp
   simp [go_sem,e8,m0,m1,m2,m3,m4,m5,Oper.upon]
   exact hK _ _ ⟨x,Xaf (d:=some 127) (v:=sesV sA (.slice (some ⟨g13,0,none⟩) n13 k13)) Xaj ha rfl hun,hC.step (Qb _ _) (by decide) (by decide) (by decide) (by decide) (by decide)⟩
  ·have e127:a'.tmps[127]?.getD undef=sesV sA (.slice (some ⟨g13,0,none⟩) n13 k13):=Xaq (i:=3) Xaj ha rfl (by simpa using hall) (by simp)
   have ha:=ha.trans (Xef (x:=x) (y:=({ x.1 with b:=w'.heap.size },x.2)) 4 (fun j hne=>by
    rcases j with _|_|_|_|_|_|_|j<;>first|rfl|(exact absurd rfl hne)|simp) hun)
   refine wpOp_step hoj (fun K' hK=> ?_)
   rw [if_pos (by rfl)]
   unfold Oper.wp
   simp [go_sem,e127,Oper.upon]
   refine hK _ _ ⟨({ x.1 with b:=w'.heap.size },x.2),Xaf (d:=some 128) (v:= .slice (some ⟨w'.heap.size,0,none⟩) 1 1) Xaj ha rfl hun,hC.1.at4 hun (by decide),?_⟩
   rw [getD_set_ne false (by decide),getD_set_ne false (by decide)]
   exact hC.2
  ·have e126:a'.tmps[126]?.getD undef=x.1.v1:=Xaq (i:=2) Xaj ha rfl (by simpa using hall.1) (by simp)
   have e128:a'.tmps[128]?.getD undef= .slice (some ⟨x.1.b,0,none⟩) 1 1:=Xaq (i:=4) Xaj ha rfl (by first|simpa using hall.2|simpa using hall.2.1) (by simp)
   have hs2:s.getD 2 false=true:=by simpa using hall.1
   have hs4:s.getD 4 false=true:=by first|simpa using hall.2|simpa using hall.2.1
   refine wpOp_step hoj (fun K' hK=> ?_)
   rw [if_pos (by rfl)]
   refine Xbg Xdu _ _ rfl (by simp [Act.eval,e126]) (hC.1.p2 hs2 (Xas hun)) (by simp [Act.eval,e128]) (SrcS.of_one (T:=tSes) (x:=sA) (cs:=sesCs sA (.slice (some ⟨g13,0,none⟩) n13 k13)) ⟨_,rfl,Hrow⟩ (fun j u hu=>(cell_of_row w' _ j _ _ _ (hC.1.p4 hs4 (Xas hun))).trans (by simpa using hu))) (by simp only [List.length_nil,List.length_cons];omega) (by simp only [List.length_nil,List.length_cons];omega) hC.1.bel.size ?_
   intro v' w'' ho hg _
   have hu6:s.getD 6 false=false:=by
    cases q:s.getD 6 false with
    |false=>rfl
    |true=>have:=(hC.2 q).1;rw [Xas hun] at this;cases this
   have ha:=ha.trans (Xef (x:=x) (y:=({ x.1 with v2:=v' },x.2)) 5 (fun j hne=>by
    rcases j with _|_|_|_|_|_|_|j<;>first|rfl|(exact absurd rfl hne)|simp) hun)
   refine hK _ _ ⟨({ x.1 with v2:=v' },x.2),Xaf (d:=some 129) (v:=v') Xaj ha rfl hun,hC.1.at5 hun hs2 hs4 (by decide) ho hg,?_⟩
   rw [getD_set_ne false (by decide),hu6]
   intro q
   cases q
  ·have e129:a'.tmps[129]?.getD undef=x.1.v2:=Xaq (i:=5) Xaj ha rfl (by first|simpa using hall|simpa using hall.1) (by simp)
   have hs5:s.getD 5 false=true:=by first|simpa using hall|simpa using hall.1
   have ha:=ha.trans (Xef (x:=x) (y:=(x.1,x.1.v2)) 6 (fun j hne=>by
    rcases j with _|_|_|_|_|_|_|j<;>first|rfl|(exact absurd rfl hne)|simp) hun)
   refine wpOp_step hoj (fun K' hK=> ?_)
   rw [if_pos (by rfl)]
   unfold Oper.wp
   simp [go_sem,e129,Oper.upon]
   refine hK _ _ ⟨(x.1,x.1.v2),Xaf (d:=some 6) (v:=x.1.v2) Xaj ha rfl hun,hC.1.step (Qb _ _) (by decide) (by decide) (by decide) (by decide),fun _=>⟨?_,rfl⟩⟩
   rw [getD_set_ne false (by decide)]
   exact hs5
 rintro ⟨x,v16⟩ s a' w16 hup ha hC
 obtain ⟨_,hv16⟩:=hC.2 (hup 6 (by decide))
 have ho16:=hC.1.p5 (hup 5 (by decide))
 have hb16:=hC.1.bel
 dsimp only at hv16 ho16
 rw [←hv16] at ho16
 have hok16:Ok J13 w16:=A15.out.ok.below (Qn _) hb16
 obtain ⟨J16,hx16,hok16',hr16,_⟩:=ho16.freeze hok16 (fun b hb=>A15.out.ok.fresh hb)
 rw [Xb8 _ _ _ _ (fun i hi=>by rw [Nat.zero_add];exact hup i (by simpa using hi))] at ha
 subst ha
 simp only [fillAll,Act.put]
 have A16:=A15.out.ext hb16 hx16 hok16'
 clear hC hup
 simp only [List.setIfInBounds_toArray,List.set_cons_zero,List.set_cons_succ]
 go_wp2
 go_ret
 exact ⟨_,J16,rfl,A16.bel,(HxI13.out.mono (Nat.le_succ _)).trans hx16 A15.out.size,A16.ok,hr16⟩
theorem Xti (k:Int) (w:World):Calls Tryz.prog 159 #[.int .i64 k] w fun e w'=>e= .returned (S (nameP k))∧Below w.heap.size w w':=
 (Xis k w).mono fun _ _ h=>⟨h.1,by rw [h.2];exact Qb _ _⟩
set_option maxRecDepth 100000 in
set_option maxHeartbeats 2000000 in
theorem Xpc (I:IH) (e:Ent) (va vx:Value) (hva:RdS tAt I va e.attrs) (hvx:RdS tXt I vx e.exts) (hc:EncOk e) (w:World) (hw:Ok I w):
 Calls Tryz.prog 158 #[entV e va vx] w fun r w'=>r= .returned (S (headE e))∧Below w.heap.size w w':=by
 obtain ⟨aa,ca,rfl,_,_,_⟩:=id hva
 obtain ⟨ax,cx,rfl,_,_,_⟩:=id hvx
 have Hv:=Qh hva
 have hna:=hc.natt
 have hp200:=hc.path
 have ht200:=hc.target
 have Hat:=Qh hc.att
 have Hl:=Qh (Xos hna Hat.out)
 have hl0:=Hl.out 0
 have hnn:=Xe8 e.kind
 have hl1:=Xal (nameP e.kind) (by omega)
 have hl2:=Xal e.path (by omega)
 have hl4:=Xal e.target (by omega)
 have H0:=Qh (fun w=>Xti e.kind w)
 have H1:=Qh (fun w=>Xax (nameP e.kind) (by omega) w)
 have H2:=Qh (fun w=>Xax e.path (by omega) w)
 have H3:=Qh (fun w=>Xb0 e.attrs.length (by omega) w)
 have H4:=Qh (fun w=>Xax e.target (by omega) w)
 have hz:numP e.attrs.length=attK e.attrs 0:=by rw [attK,List.take_zero,List.flatMap_nil,List.append_nil]
 have Hh:=Qh (show netP (nameP e.kind)++netP e.path++attP e.attrs++netP e.target=headE e from rfl)
 rw [hz] at H3
 clear hva hvx hc hz
 generalize netP (nameP e.kind)=p1 at hl1 H1 Hh
 generalize nameP e.kind=nm at hnn hl1 H0 H1
 generalize netP e.path=p2 at hl2 H2 Hh
 generalize netP e.target=p4 at hl4 H4 Hh
 have HB0:=Qh (entB (W:=w) (e:=e) (va:= .slice aa e.attrs.length ca) (vx:= .slice ax e.exts.length cx) (t:=39) rfl (Qb _ _))
 obtain ⟨c0,c1,c2,c3,c4,c5,c6⟩:=HB0.out
 have e0:=cell_regrown c0
 have e1:=cell_regrown c1
 have e2:=cell_regrown c2
 have hba:=(Qb w.heap.size w).alloc (Qn _) (.cells #[.int .i64 e.kind,S e.path,.slice aa e.attrs.length ca,S e.target,.int .i64 e.size,S e.digest,.slice ax e.exts.length cx] 39)
 clear c0 c1 c2 c3 c4 c5 c6
 go_enter Tryz.func158,Tryz.ntmps158
 go_wp2_with fail
 refine wp_region_quiet_below (by kernel_rfl) (by kernel_rfl) ?_
 repeat (go_big_quiet_step ((with_reducible first|exact Calls.regrown_of (H0.out _)|exact Calls.regrown_of (H1.out _)|exact Calls.regrown_of (H2.out _)|exact Calls.regrown_of (H3.out _))))
 refine wpQuiet_nil ?_
 intro w1 hwq
 have hb1:Below ((w.alloc (.cells #[.int .i64 e.kind,S e.path,.slice aa e.attrs.length ca,S e.target,.int .i64 e.size,S e.digest,.slice ax e.exts.length cx] 39))).heap.size ((w.alloc (.cells #[.int .i64 e.kind,S e.path,.slice aa e.attrs.length ca,S e.target,.int .i64 e.size,S e.digest,.slice ax e.exts.length cx] 39))) w1:=by
  obtain ⟨pq,rfl⟩:=hwq
  exact below_regrown _ _ _
 clear hwq
 have HB1:=Qh (HB0.out.thru hb1)
 have hb1':=hba.trans (hb1.mono hba.size)
 clear e0 e1 e2 hb1 hba HB0 H0 H1 H2 H3
 go_wp2_with fail
 go_loopw [3,4] (fun s3 s4 wr=> ∃k:Nat,k≤e.attrs.length∧s4= .int .i64 k∧s3=S (p1++p2++attK e.attrs k)∧EntB wr w.heap.size e (.slice aa e.attrs.length ca) (.slice ax e.exts.length cx)∧Below w.heap.size w wr) (fun _ i _=>e.attrs.length-(intOf i).toNat)
 case atStart=>exact ⟨0,Nat.zero_le _,rfl,by simp,HB1.out,hb1'⟩
 case round=>
  clear hb1' HB1
  obtain ⟨k,hk,rfl,rfl,hBe,hb⟩:=hrel
  have HBe:=Qh hBe
  have hwr:Ok I wr:=hw.below (Qn _) hb
  have hal:=Hl.out k
  obtain ⟨c0,c1,c2,c3,c4,c5,c6⟩:=HBe.out
  clear hBe
  by_cases hlt:k<e.attrs.length
  ·obtain ⟨x,b,off,cap',hlx,hvv,a0,a1⟩:=atAt Hv.out hwr k hlt
   cases hvv
   have hax:=Hat.out x (by rw [←hlx];exact List.getElem_mem hlt)
   have Hst:=Qh (Xmj hlt hlx)
   have hk1:=Xal x.k (by omega)
   have hk2:=Xal x.v (by omega)
   have Hs1:=Qh (fun w=>Xax x.k (by omega) w)
   have Hs2:=Qh (fun w=>Xax x.v (by omega) w)
   clear hlx
   generalize netP x.k=p at Hst hk1 Hs1
   generalize netP x.v=q at Hst hk2 Hs2
   generalize attK e.attrs k=u at Hst hal ⊢
   have x0:=cell_regrown a0
   have x1:=cell_regrown a1
   have e2:=cell_regrown c2
   go_wp2_with fail
   refine wp_region_quiet_below (by kernel_rfl) (by kernel_rfl) ?_
   repeat (go_big_quiet_step ((with_reducible first|exact Calls.regrown_of (Hs1.out _)|exact Calls.regrown_of (Hs2.out _))))
   refine wpQuiet_nil ?_
   intro w2 hwq
   have hb2:Below (wr).heap.size (wr) w2:=by
    obtain ⟨pq,rfl⟩:=hwq
    exact below_regrown _ _ _
   clear hwq
   have HB2:=Qh (HBe.out.thru hb2)
   clear x0 x1 e2 c0 c1 c2 c3 c4 c5 c6
   go_wp2
   go_roundw
   case rel=>exact ⟨k+1,by omega,by go_num,(by rw [Hst.out];simp),HB2.out,hb.trans (hb2.mono hb.size)⟩
   case measure=>simp [intOf];omega
  ·have Hn:=Qh (Xot e.attrs (k:=k) (by omega))
   rw [Hn.out] at hal ⊢
   generalize attP e.attrs=u at hal Hh ⊢
   go_wp2_with fail
   refine (H4.out _).mono ?_
   rintro r w2 ⟨rfl,hb2⟩
   go_wp2
   go_ret
   exact ⟨Xmy (by rw [←Hh.out];simp),hb.trans (hb2.mono hb.size)⟩
set_option maxRecDepth 100000 in
set_option maxHeartbeats 400000 in
theorem Xqx (I:IH) (e:Ent) (va vx:Value) (hva:RdS tAt I va e.attrs) (hvx:RdS tXt I vx e.exts) (hwf:e.Wf) (hx:e.exts.length≤1000) (he:entErr e≠0) (w:World) (hw:Ok I w):
 Calls Tryz.prog 116 #[entV e va vx] w fun r w'=>r= .returned (.tuple #[S [],.int .i64 (entErr e)])∧Below w.heap.size w w':=by
 have Hck:=Qh (fun w hw=>Xcg I e va vx hva hvx hwf w hw)
 obtain ⟨aa,ca,rfl,_,_,_⟩:=id hva
 obtain ⟨ax,cx,rfl,_,_,_⟩:=id hvx
 rw [Xcz (by omega)] at Hck
 obtain ⟨q,hq⟩:∃q,entErr e=q:=⟨_,rfl⟩
 rw [hq] at Hck he ⊢
 have hn0:(q != 0)=true:=by simpa using he
 clear hq he
 go_enter Tryz.func116,Tryz.ntmps116
 go_wp2_with fail
 refine (Hck.out _ (hw.alloc _)).mono ?_
 rintro e1 w1 ⟨rfl,hb1⟩
 have hb1':=((Qb w.heap.size w).alloc (Qn _) (.cells #[.int .i64 e.kind,S e.path,.slice aa e.attrs.length ca,S e.target,.int .i64 e.size,S e.digest,.slice ax e.exts.length cx] 39)).trans (hb1.mono (by simp))
 go_wp2
 go_ret2
 exact ⟨rfl,hb1'⟩
set_option maxRecDepth 100000 in
set_option maxHeartbeats 2000000 in
theorem Xk0 (I:IH) (e:Ent) (va vx:Value) (hva:RdS tAt I va e.attrs) (hvx:RdS tXt I vx e.exts) (hwf:e.Wf) (hc:EncOk e) (he:entErr e=0) (hx:e.exts.length≤1000) (w:World) (hw:Ok I w):
 Calls Tryz.prog 116 #[entV e va vx] w fun r w'=>r= .returned (.tuple #[S (encE e),.int .i64 0])∧Below w.heap.size w w':=by
 have Hck:=Qh (fun w hw=>Xcg I e va vx hva hvx hwf w hw)
 have H0:=Qh (fun w hw=>Xpc I e va vx hva hvx hc w hw)
 obtain ⟨aa,ca,rfl,_,_,_⟩:=id hva
 obtain ⟨ax,cx,rfl,_,_,_⟩:=id hvx
 rw [Xcz (by omega),he] at Hck
 have Hv:=Qh hvx
 have hs0:=hc.s0
 have hs1:=hc.s1
 have hd32:=hc.digest
 have Hxs:=Qh hc.xts
 have Hl:=Qh (Xj6 hc hx)
 have hhl:=Xhw hc
 have Hz:=Qh (show netP (headE e)++numP e.size++netP e.digest++numP e.exts.length=encK e 0 from (Xly e).symm)
 have hl1:=Xal (headE e) (by omega)
 have hl2:=Xbd hs0 (by omega)
 have hl3:=Xal e.digest (by omega)
 have hl4:=Xbm e.exts.length (by omega)
 have H1:=Qh (fun w=>Xax (headE e) (by omega) w)
 have H2:=Qh (fun w=>Xfo e.size hs0 (by omega) w)
 have H3:=Qh (fun w=>Xax e.digest (by omega) w)
 have H4:=Qh (fun w=>Xb0 e.exts.length (by omega) w)
 clear hva hvx hc he
 generalize netP (headE e)=p1 at Hz hl1 H1
 generalize numP e.size=p2 at Hz hl2 H2
 generalize netP e.digest=p3 at Hz hl3 H3
 generalize numP (e.exts.length:Int)=p4 at Hz hl4 H4
 generalize headE e=hd at H0 H1 hhl hl1
 go_enter Tryz.func116,Tryz.ntmps116
 go_wp2_with fail
 refine (Hck.out _ (hw.alloc _)).mono ?_
 rintro e1 w1 ⟨rfl,hb1⟩
 have HB1:=Qh (entB (e:=e) rfl hb1)
 have hok1:Ok I w1:=(hw.alloc _).below (Qn _) hb1
 have hb1':=((Qb w.heap.size w).alloc (Qn _) (.cells #[.int .i64 e.kind,S e.path,.slice aa e.attrs.length ca,S e.target,.int .i64 e.size,S e.digest,.slice ax e.exts.length cx] 39)).trans (hb1.mono (by simp))
 obtain ⟨c0,c1,c2,c3,c4,c5,c6⟩:=HB1.out
 have e0:=cell_regrown c0
 have e1:=cell_regrown c1
 have e2:=cell_regrown c2
 have e3:=cell_regrown c3
 have e4:=cell_regrown c4
 have e5:=cell_regrown c5
 have e6:=cell_regrown c6
 clear hb1 Hck c0 c1 c2 c3 c4 c5 c6
 go_wp2_with fail
 refine wp_region_quiet_below (by kernel_rfl) (by kernel_rfl) ?_
 repeat (go_big_quiet_step ((with_reducible first|exact Calls.regrown_of (H0.out _ (hok1.below (Qn _) (below_regrown _ _ _)))|exact Calls.regrown_of (H1.out _)|exact Calls.regrown_of (H2.out _)|exact Calls.regrown_of (H3.out _)|exact Calls.regrown_of (H4.out _))))
 refine wpQuiet_nil ?_
 intro w2 hwq
 have hb2:Below (w1).heap.size (w1) w2:=by
  obtain ⟨pq,rfl⟩:=hwq
  exact below_regrown _ _ _
 clear hwq
 have HB2:=Qh (HB1.out.thru hb2)
 have hb2':=hb1'.trans (hb2.mono hb1'.size)
 clear e0 e1 e2 e3 e4 e5 e6 hb2 HB1 hok1 hb1' H0 H1 H2 H3 H4
 go_wp2_with fail
 go_loopw [5,6] (fun s5 s6 wr=> ∃k:Nat,k≤e.exts.length∧s6= .int .i64 k∧s5=S (encK e k)∧EntB wr w.heap.size e (.slice aa e.attrs.length ca) (.slice ax e.exts.length cx)∧Below w.heap.size w wr) (fun _ i _=>e.exts.length-(intOf i).toNat)
 case atStart=>exact ⟨0,Nat.zero_le _,rfl,by rw [←Hz.out];simp,HB2.out,hb2'⟩
 case round=>
  clear HB2 hb2' Hz hl1 hl2 hl3 hl4 hhl
  obtain ⟨k,hk,rfl,rfl,hBe,hb⟩:=hrel
  have HBe:=Qh hBe
  have hwr:Ok I wr:=hw.below (Qn _) hb
  have hal:=Hl.out k
  obtain ⟨c0,c1,c2,c3,c4,c5,c6⟩:=HBe.out
  clear hBe
  by_cases hlt:k<e.exts.length
  ·obtain ⟨x,b,off,cap',hlx,hvv,a0,a1,a2⟩:=xtAt Hv.out hwr k hlt
   cases hvv
   obtain ⟨y0,y1,y2,y3,y4,y5⟩:=Hxs.out x (by rw [←hlx];exact List.getElem_mem hlt)
   have Hst:=Qh (Xlz hlt hlx)
   have hm1:=Xbd (n:=x.s) (by omega) (by omega)
   have hm2:=Xbd (n:=x.o) (by omega) (by omega)
   have hm3:=Xbd (n:=x.n) (by omega) (by omega)
   have H1:=Qh (fun w=>Xfo x.s (by omega) (by omega) w)
   have H2:=Qh (fun w=>Xfo x.o (by omega) (by omega) w)
   have H3:=Qh (fun w=>Xfo x.n (by omega) (by omega) w)
   have g0:=cell_regrown (show (wr.alloc (.cells #[.int .i64 x.s,.int .i64 x.o,.int .i64 x.n] 73)).cell? ⟨wr.heap.size,0,none⟩=some (.int .i64 x.s) by simp)
   have g1:=cell_regrown (show (wr.alloc (.cells #[.int .i64 x.s,.int .i64 x.o,.int .i64 x.n] 73)).cell? ⟨wr.heap.size,1,none⟩=some (.int .i64 x.o) by simp)
   have g2:=cell_regrown (show (wr.alloc (.cells #[.int .i64 x.s,.int .i64 x.o,.int .i64 x.n] 73)).cell? ⟨wr.heap.size,2,none⟩=some (.int .i64 x.n) by simp)
   have HBa:=Qh (EntB.past HBe.out (.cells #[.int .i64 x.s,.int .i64 x.o,.int .i64 x.n] 73))
   have hba:=hb.alloc hb.size (.cells #[.int .i64 x.s,.int .i64 x.o,.int .i64 x.n] 73)
   clear hlx
   generalize numP x.s=q1 at Hst hm1 H1
   generalize numP x.o=q2 at Hst hm2 H2
   generalize numP x.n=q3 at Hst hm3 H3
   generalize encK e k=u at Hst hal ⊢
   go_wp2_with fail
   refine wp_region_quiet_below (by kernel_rfl) (by kernel_rfl) ?_
   repeat (go_big_quiet_step ((with_reducible first|exact Calls.regrown_of (H1.out _)|exact Calls.regrown_of (H2.out _)|exact Calls.regrown_of (H3.out _))))
   refine wpQuiet_nil ?_
   intro w2 hwq
   have hb2:Below ((wr.alloc (.cells #[.int .i64 x.s,.int .i64 x.o,.int .i64 x.n] 73))).heap.size ((wr.alloc (.cells #[.int .i64 x.s,.int .i64 x.o,.int .i64 x.n] 73))) w2:=by
    obtain ⟨pq,rfl⟩:=hwq
    exact below_regrown _ _ _
   clear hwq
   have HB2:=Qh (HBa.out.thru hb2)
   clear g0 g1 g2 a0 a1 a2 c0 c1 c2 c3 c4 c5 c6
   go_wp2
   go_roundw
   case rel=>exact ⟨k+1,by omega,by go_num,(by rw [Hst.out];simp),HB2.out,hba.trans (hb2.mono hba.size)⟩
   case measure=>simp [intOf];omega
  ·have Hn:=Qh (Xj7 e (k:=k) (by omega))
   rw [Hn.out]
   go_wp2
   go_ret2
   exact ⟨rfl,hb⟩
end Go.Proofs.YtdeknddamidldaaGreatDoor
