/-
  Walks and laws that the claim's theorem uses: texts MkA RfB HsA StB HsB, joined; comments out. Conditions: as each theorem says.
-/
import Derived.Test.YtdeknddamidldaaGreatDoorQ16
import Derived.Test.YtdeknddamidldaaGreatDoorQ25
import Derived.LoopN
namespace Go.Proofs.YtdeknddamidldaaGreatDoor
open Go.RowKit
def RetSto (I:IH) (w:World) (s:Sto) (e:Ending) (w':World):Prop:=
 ∃vc I',e= .returned (stoV s vc)∧Below w.heap.size w w'∧Ext w.heap.size I I'∧Ok I' w'∧RdS tCk I' vc s.cks
set_option maxRecDepth 100000 in
set_option maxHeartbeats 1000000 in
theorem Xkv (I:IH) (n:Int) (w:World) (hw:Ok I w):
 Calls Tryz.prog 50 #[.slice none 0 0,.int .i64 n] w (RetSto I w ⟨[],n,[]⟩):=by
 have Hi3:=Qh (show (Tryz.prog.info? 91).map (·.size)=some 3 by kernel_rfl)
 go_enter Tryz.func50,Tryz.ntmps50
 go_wp2_with fail
 refine wp_loop_rounds 1 ?_
 rw [rounds_succ]
 go_wp2_with fail
 refine wp_loop_rounds 1 ?_
 rw [rounds_succ]
 go_wp2_with fail
 have hW:∀(c d e:Array Value) (T U V:TypeId),(((w.alloc (.cells c T)).alloc (.cells d U)).alloc (.cells e V)).heap[w.heap.size]? =some (.cells c T (0,0)):=fun c d e T U V=>
  (Below.heap_alloc _ _ _ (by simp;omega)).trans ((Below.heap_alloc _ _ _ (by simp)).trans (heap_alloc_new w _))
 refine bodyPost_ret (results_cell_row rfl _ _ w.heap.size _ #[.slice none 0 0,.int .i64 n,S []] (0,0) _ rfl (hW _ _ _ _ _ _) Tryz.underlying91 rfl Hi3.out) rfl ?_
 have A:=(((MAt.start hw).past (.cells #[.slice none 0 0,.int .i64 n,S []] 91)).past (.cells #[.slice none 0 0,.int .i64 n,S []] 91)).past (.cells #[] 9)
 exact ⟨_,I,rfl,A.bel,Ext.refl _ _,A.ok,RdS.nil _ _⟩
theorem RdS.slN {α:Type} {T:Ty α} {I:IH} {v:Value} {l:List α} (h:RdS T I v l) {n:Nat} (hn:l.length=n):∃ao cap,v= .slice ao n cap:=by
 obtain ⟨ao,cap,rfl,_⟩:=h
 exact ⟨ao,cap,by rw [hn]⟩
set_option maxRecDepth 100000 in
set_option maxHeartbeats 4000000 in
theorem Xku (I:IH) (v:Value) (hv:RdS tSes I v [sA]) (n:Int) (w:World) (hw:Ok I w):
 Calls Tryz.prog 50 #[v,.int .i64 n] w (RetSto I w ⟨stA.cks,n,[]⟩):=by
 have Hi3:=Qh (show (Tryz.prog.info? 91).map (·.size)=some 3 by kernel_rfl)
 have A0:=Qh (MAt.start hw)
 have Hv:=Qh hv
 obtain ⟨ao,cap,rfl⟩:=hv.slN (n:=1) rfl
 clear hv
 go_enter Tryz.func50,Tryz.ntmps50
 go_wp2_with fail
 obtain ⟨W1,hW1⟩:∃W1,(((w.alloc (.cells #[.slice none 0 0,.int .i64 0,S []] 91)).alloc (.cells #[.slice none 0 0,.int .i64 n,S []] 91)).alloc (.cells #[] 9))=W1:=⟨_,rfl⟩
 have A1:=Qh (show MAt I w I W1 by rw [←hW1];exact ((A0.out.past _).past _).past _)
 have hsz1:W1.heap.size=w.heap.size+3:=by rw [←hW1];simp
 have R0:W1.heap[w.heap.size]? =some (.cells #[.slice none 0 0,.int .i64 0,S []] 91 (0,0)):=by
  rw [←hW1]
  exact (Below.heap_alloc _ _ _ (by simp;omega)).trans ((Below.heap_alloc _ _ _ (by simp)).trans (heap_alloc_new w _))
 have R1:W1.heap[w.heap.size+1]? =some (.cells #[.slice none 0 0,.int .i64 n,S []] 91 (0,0)):=by
  rw [←hW1]
  have h:=heap_alloc_new (w.alloc (.cells #[.slice none 0 0,.int .i64 0,S []] 91)) (.cells #[.slice none 0 0,.int .i64 n,S []] 91)
  rw [World.size_alloc] at h
  exact (Below.heap_alloc _ _ _ (by simp)).trans h
 have HO:=Qh (show OwnS tStr 9 I W1 (w.heap.size+2) (.slice (some ⟨w.heap.size+2,0,none⟩) 0 0) [] by
  rw [←hW1]
  have h:=World.ownsRow_made ((w.alloc (.cells #[.slice none 0 0,.int .i64 0,S []] 91)).alloc (.cells #[.slice none 0 0,.int .i64 n,S []] 91)) #[] 0 (Qn _) (Nat.zero_le _) (e:=9) (size:=1) (by simp)
  rw [World.size_alloc,World.size_alloc] at h
  exact ⟨[],h,LiesL.nil _ _⟩)
 change Code.wp _ _ _ _ (((w.alloc (.cells #[.slice none 0 0,.int .i64 0,S []] 91)).alloc (.cells #[.slice none 0 0,.int .i64 n,S []] 91)).alloc (.cells #[] 9))
 rw [hW1]
 clear hW1 A0
 refine wp_loop_rounds 2 ?_
 rw [rounds_succ]
 obtain ⟨x,ve,b,off,cap',hlx,hvv,⟨c0,c1,c2,c3,c4,c5⟩,h1⟩:=Xdc Hv.out A1.out.ok 0 (by decide)
 cases hvv
 rw [Nat.zero_mul,Nat.add_zero] at c0 c1 c2 c3 c4 c5
 have Hlx:=Qh (show sA=x from hlx)
 obtain ⟨oe,ce,rfl⟩:=h1.slN (n:=1) (by rw [←Hlx.out];rfl)
 have Hve:=Qh h1
 clear hlx h1
 go_wp2_with (at_builtin;refine Xad (w0:=W1.alloc (.cells #[.int .i64 x.num,.int .i64 x.date,S x.prev,.slice oe 1 ce,S x.stream,S x.sl] 47)) Xgk rfl _ _ rfl (w.heap.size+2) _ _ rfl (HO.out.alloc _) x.stream [S x.stream] _ (by first|rfl|simp [Act.eval]) rfl (by decide) (by decide) (by simp;omega) ?_;intro v2 w2 ho2 hg2)
 have hg2':(W1.alloc (.cells #[.int .i64 x.num,.int .i64 x.date,S x.prev,.slice oe 1 ce,S x.stream,S x.sl] 47)).grownBy w2 (some (w.heap.size+2)):=hg2
 have hok2:Ok I w2:=(A1.out.ok.alloc _).grown hg2' (fun g e=>by cases e;exact hw.fresh (by omega))
 have hb2:Below w.heap.size w w2:=(A1.out.bel.alloc A1.out.size _).grown hg2' (by simp;omega) (fun k e=>by cases e;omega)
 have hs2:=hg2'.size
 rw [World.size_alloc] at hs2
 replace R0:=((hg2'.block _ (by simp;omega) (by simp)).trans (Below.heap_alloc _ _ _ (by omega))).trans R0
 replace R1:=((hg2'.block _ (by simp;omega) (by simp)).trans (Below.heap_alloc _ _ _ (by omega))).trans R1
 obtain ⟨J,hxJ,hokJ,hrJ,_⟩:=ho2.freeze hok2 (fun b hb=>hw.fresh (by omega))
 have hkJ:=(hxJ.mono (show w.heap.size≤_ by omega)).keep hw (Qn _)
 have A2:=Qh (show MAt I w J w2 from ⟨hokJ,hkJ,hb2⟩)
 have hJ0:J w.heap.size=none:=(hxJ _ (by omega)).trans (hw.fresh (Qn _))
 have hJ1:J (w.heap.size+1)=none:=(hxJ _ (by omega)).trans (hw.fresh (by omega))
 have HxJ:=Qh (hxJ.mono (show w.heap.size≤_ by omega))
 have hlt2:w.heap.size+2≤w2.heap.size:=by omega
 obtain ⟨o2,k2,rfl⟩:=hrJ.slN (n:=1) rfl
 have Hst:=Qh (show RdS tStr J (.slice o2 1 k2) [txtA] by rw [←Hlx.out] at hrJ;exact hrJ)
 replace Hv:=Qh (Hv.out.mono hkJ)
 replace Hve:=Qh (Hve.out.mono hkJ)
 clear ho2 hg2 hg2' hok2 hb2 hxJ hokJ hrJ hkJ HO A1 hsz1 c0 c1 c2 c3 c4 c5
 rw [rounds_succ]
 go_wp2_with fail
 refine wp_loop_rounds 2 ?_
 rw [rounds_succ]
 obtain ⟨x',ve',b',off',cap',hlx,hvv,⟨c0,c1,c2,c3,c4,c5⟩,h1⟩:=Xdc Hv.out A2.out.ok 0 (by decide)
 cases hvv
 obtain rfl:x=x':=Hlx.out.symm.trans hlx
 rw [Nat.zero_mul,Nat.add_zero] at c0 c1 c2 c3 c4 c5
 obtain ⟨oe',ce',rfl⟩:=h1.slN (n:=1) (by rw [←Hlx.out];rfl)
 have Hve':=Qh h1
 have r0:w2.cell? ⟨w.heap.size+1,0,none⟩=some (.slice none 0 0):=(cell_of_row w2 _ 0 _ _ _ R1).trans rfl
 have c3p:=Xab (.cells #[.slice none 0 0,.int .i64 1,S []] 91) c3
 clear hlx h1
 go_wp2_with fail
 obtain ⟨W3,hW3⟩:∃W3,w2.alloc (.cells #[.slice none 0 0,.int .i64 1,S []] 91)=W3:=⟨_,rfl⟩
 have A3:=Qh (show MAt I w J W3 by rw [←hW3];exact A2.out.past _)
 have hs3:w2.heap.size<W3.heap.size:=by rw [←hW3];simp
 have R2:W3.heap[w2.heap.size]? =some (.cells #[.slice none 0 0,.int .i64 1,S []] 91 (0,0)):=by rw [←hW3];exact heap_alloc_new w2 _
 replace R0:W3.heap[w.heap.size]? =_:=(by rw [←hW3];exact Below.heap_alloc _ _ _ (by omega):W3.heap[w.heap.size]? =w2.heap[w.heap.size]?).trans R0
 replace R1:W3.heap[w.heap.size+1]? =_:=(by rw [←hW3];exact Below.heap_alloc _ _ _ (by omega):W3.heap[w.heap.size+1]? =w2.heap[w.heap.size+1]?).trans R1
 have hJ2:J w2.heap.size=none:=A2.out.ok.fresh (Qn _)
 change Code.wp _ _ _ _ (w2.alloc (.cells #[.slice none 0 0,.int .i64 1,S []] 91))
 rw [hW3]
 clear hW3 A2 c0 c1 c2 c3 c3p c4 c5 r0
 refine wp_loop_rounds 2 ?_
 rw [rounds_succ]
 obtain ⟨y,vya,vyx,b9,off9,cap9,hly,hvv,⟨x0,x1,x2,x3,x4,x5,x6⟩,h2,h3⟩:=Xbt Hve'.out A3.out.ok 0 (by rw [←Hlx.out];decide)
 have Hy:=Qh (show yA=y by rw [←hly];simp only [←Hlx.out];rfl)
 rw [show x.ents.length=1 by rw [←Hlx.out];rfl] at hvv
 cases hvv
 rw [Nat.zero_mul,Nat.add_zero] at x0 x1 x2 x3 x4 x5 x6
 obtain ⟨xa,xc,rfl,_,_,_⟩:=id h2
 obtain ⟨xx,xd,rfl⟩:=h3.slN (n:=1) (by rw [←Hy.out];rfl)
 have hk1:(y.kind==1)=true:=by rw [←Hy.out];rfl
 have Hge:=Qh (fun W hW=>Xqy J (.slice o2 1 k2) (.slice xx 1 xd) [txtA] [xA] Hst.out (by have:=h3;rw [←Hy.out] at this;exact this) (by simp [txtA]) W hW)
 rw [Xuy] at Hge
 clear hly h2 h3
 have p0:=Xab (.cells #[.int .i64 y.kind,S y.path,.slice xa y.attrs.length xc,S y.target,.int .i64 y.size,S y.digest,.slice xx 1 xd] 39) ((cell_of_row W3 _ 0 _ _ _ R2).trans rfl:W3.cell? ⟨w2.heap.size,0,none⟩=some (.slice none 0 0))
 go_wp2_with fail
 refine (Hge.out _ (A3.out.ok.alloc _)).mono ?_
 rintro e4 w4 ⟨rfl,hb4⟩
 have A4:=Qh ((A3.out.past _).quiet hb4)
 have hs4:=hb4.size
 rw [World.size_alloc] at hs4
 replace R0:=((hb4.block _ (by simp;omega)).trans (Below.heap_alloc _ _ _ (by omega))).trans R0
 replace R1:=((hb4.block _ (by simp;omega)).trans (Below.heap_alloc _ _ _ (by omega))).trans R1
 replace R2:=((hb4.block _ (by simp;omega)).trans (Below.heap_alloc _ _ _ (by omega))).trans R2
 obtain ⟨k0,_,_,_,_,_,_⟩:=entB (W:=W3) (e:=y) (va:= .slice xa y.attrs.length xc) (vx:= .slice xx 1 xd) (t:=39) rfl hb4
 have q0:w4.cell? ⟨w2.heap.size,0,none⟩=some (.slice none 0 0):=(cell_of_row w4 _ 0 _ _ _ R2).trans rfl
 have q1:w4.cell? ⟨w2.heap.size,1,none⟩=some (.int .i64 1):=(cell_of_row w4 _ 1 _ _ _ R2).trans rfl
 have q2:w4.cell? ⟨w2.heap.size,2,none⟩=some (S []):=(cell_of_row w4 _ 2 _ _ _ R2).trans rfl
 have Hpu:=Qh (Xk1 0 0 (by decide) (by decide) J ⟨[],1,[]⟩ (.slice none 0 0) (RdS.nil _ _) ⟨by decide,by decide,Qn _,Qn _,fun _ h=>(by cases h)⟩ txtA (by decide) w4 A4.out.ok)
 rw [Xq0] at Hpu
 clear x0 x1 x2 x3 x4 x5 x6 p0 hb4
 go_wp2_with fail
 refine Hpu.out.mono ?_
 rintro e5 w5 ⟨vc,vx,J5,rfl,hb5,hx5,hok5,hr5,_⟩
 obtain ⟨a5,c5,rfl⟩:=hr5.slN (n:=1) rfl
 have A5:=Qh (A4.out.ext hb5 hx5 hok5)
 have hs5:=hb5.size
 have hJ50:J5 w.heap.size=none:=(hx5 _ (by omega)).trans hJ0
 have hJ51:J5 (w.heap.size+1)=none:=(hx5 _ (by omega)).trans hJ1
 have hJ52:J5 w2.heap.size=none:=(hx5 _ (by omega)).trans hJ2
 have Hx5:=Qh (HxJ.out.trans hx5 (by omega))
 have Hr5:=Qh hr5
 replace R0:=(hb5.block _ (by omega)).trans R0
 replace R1:=(hb5.block _ (by omega)).trans R1
 replace R2:=(hb5.block _ (by omega)).trans R2
 clear hr5 hb5 hx5 hok5 k0 q0 q1 q2 hJ0 hJ1 hJ2 A4 Hpu Hge
 have q0:w5.cell? ⟨w2.heap.size,0,none⟩=some (.slice none 0 0):=(cell_of_row w5 _ 0 _ _ _ R2).trans rfl
 have q1:w5.cell? ⟨w2.heap.size,1,none⟩=some (.int .i64 1):=(cell_of_row w5 _ 1 _ _ _ R2).trans rfl
 have q2:w5.cell? ⟨w2.heap.size,2,none⟩=some (S []):=(cell_of_row w5 _ 2 _ _ _ R2).trans rfl
 have g0:=frozen_of_row w5 _ 0 _ _ R2
 have g1:=frozen_of_row w5 _ 1 _ _ R2
 have g2:=frozen_of_row w5 _ 2 _ _ R2
 go_wp2_with fail
 obtain ⟨W6,hW6⟩:∃W6,((w5.setCell ⟨w2.heap.size,0,none⟩ (.slice a5 1 c5)).setCell ⟨w2.heap.size,1,none⟩ (.int .i64 stA.ses)).setCell ⟨w2.heap.size,2,none⟩ (S stA.str)=W6:=⟨_,rfl⟩
 have R2':W6.heap[w2.heap.size]? =some (.cells #[.slice a5 1 c5,.int .i64 stA.ses,S stA.str] 91 (0,0)):=by rw [←hW6];exact Xe0 R2
 have hoth:∀k,k≠w2.heap.size→W6.heap[k]? =w5.heap[k]? :=fun k hk=>by rw [←hW6];exact (Below.heap_setCell _ _ _ _ hk).trans ((Below.heap_setCell _ _ _ _ hk).trans (Below.heap_setCell _ _ _ _ hk))
 have A6:=Qh (show MAt I w J5 W6 from ⟨by rw [←hW6];exact ((A5.out.ok.setCell (a:=⟨w2.heap.size,0,none⟩) hJ52 _).setCell (a:=⟨w2.heap.size,1,none⟩) hJ52 _).setCell (a:=⟨w2.heap.size,2,none⟩) hJ52 _,A5.out.keep,
  by rw [←hW6];exact ((A5.out.bel.setCell (p:=⟨w2.heap.size,0,none⟩) (by show w.heap.size≤w2.heap.size;omega) _).setCell (p:=⟨w2.heap.size,1,none⟩) (by show w.heap.size≤w2.heap.size;omega) _).setCell (p:=⟨w2.heap.size,2,none⟩) (by show w.heap.size≤w2.heap.size;omega) _⟩)
 replace R0:=(hoth _ (by omega)).trans R0
 replace R1:=(hoth _ (by omega)).trans R1
 change Code.rounds _ _ _ _ _ (((w5.setCell ⟨w2.heap.size,0,none⟩ (.slice a5 1 c5)).setCell ⟨w2.heap.size,1,none⟩ (.int .i64 stA.ses)).setCell ⟨w2.heap.size,2,none⟩ (S stA.str))
 rw [hW6]
 clear hW6 hoth R2 A5 q0 q1 q2 g0 g1 g2
 have q0:W6.cell? ⟨w2.heap.size,0,none⟩=some (.slice a5 1 c5):=(cell_of_row W6 _ 0 _ _ _ R2').trans rfl
 have r0:W6.cell? ⟨w.heap.size+1,0,none⟩=some (.slice none 0 0):=(cell_of_row W6 _ 0 _ _ _ R1).trans rfl
 have f0:=frozen_of_row W6 _ 0 _ _ R1
 rw [rounds_succ]
 go_wp2_with fail
 obtain ⟨W7,hW7⟩:∃W7,W6.setCell ⟨w.heap.size+1,0,none⟩ (.slice a5 1 c5)=W7:=⟨_,rfl⟩
 have R1':W7.heap[w.heap.size+1]? =some (.cells #[.slice a5 1 c5,.int .i64 n,S []] 91 (0,0)):=by rw [←hW7];exact heap_setCell_same W6 (w.heap.size+1) 0 _ _ _ R1
 replace R0:W7.heap[w.heap.size]? =_:=(by rw [←hW7];exact Below.heap_setCell _ _ _ _ (show w.heap.size≠w.heap.size+1 by omega):W7.heap[w.heap.size]? =W6.heap[w.heap.size]?).trans R0
 have A7:=Qh (show MAt I w J5 W7 from ⟨by rw [←hW7];exact A6.out.ok.setCell (a:=⟨w.heap.size+1,0,none⟩) hJ51 _,A6.out.keep,by rw [←hW7];exact A6.out.bel.setCell (p:=⟨w.heap.size+1,0,none⟩) (Nat.le_succ _) _⟩)
 change Code.rounds _ _ _ _ _ (W6.setCell ⟨w.heap.size+1,0,none⟩ (.slice a5 1 c5))
 rw [hW7]
 clear hW7 R1 R2' A6 q0 r0 f0
 have r0:W7.cell? ⟨w.heap.size+1,0,none⟩=some (.slice a5 1 c5):=(cell_of_row W7 _ 0 _ _ _ R1').trans rfl
 have r1:W7.cell? ⟨w.heap.size+1,1,none⟩=some (.int .i64 n):=(cell_of_row W7 _ 1 _ _ _ R1').trans rfl
 have r2:W7.cell? ⟨w.heap.size+1,2,none⟩=some (S []):=(cell_of_row W7 _ 2 _ _ _ R1').trans rfl
 have q0:W7.cell? ⟨w.heap.size,0,none⟩=some (.slice none 0 0):=(cell_of_row W7 _ 0 _ _ _ R0).trans rfl
 have q1:W7.cell? ⟨w.heap.size,1,none⟩=some (.int .i64 0):=(cell_of_row W7 _ 1 _ _ _ R0).trans rfl
 have q2:W7.cell? ⟨w.heap.size,2,none⟩=some (S []):=(cell_of_row W7 _ 2 _ _ _ R0).trans rfl
 have f0:=frozen_of_row W7 _ 0 _ _ R0
 have f1:=frozen_of_row W7 _ 1 _ _ R0
 have f2:=frozen_of_row W7 _ 2 _ _ R0
 rw [rounds_succ]
 go_wp2
 refine bodyPost_ret (results_cell_row rfl _ _ w.heap.size _ #[.slice a5 1 c5,.int .i64 n,S []] (0,0) _ rfl (Xe0 R0) Tryz.underlying91 rfl Hi3.out) rfl ?_
 exact ⟨_,J5,rfl,((A7.out.bel.setCell (p:=⟨w.heap.size,0,none⟩) (Qn _) _).setCell (p:=⟨w.heap.size,1,none⟩) (Qn _) _).setCell (p:=⟨w.heap.size,2,none⟩) (Qn _) _,Hx5.out,
  ((A7.out.ok.setCell (a:=⟨w.heap.size,0,none⟩) hJ50 _).setCell (a:=⟨w.heap.size,1,none⟩) hJ50 _).setCell (a:=⟨w.heap.size,2,none⟩) hJ50 _,Hr5.out⟩
def yRow (dg:Bytes) (n:Int) (vx:Value) (s:Array Bool):Array Value:= #[.int .i64 1,S [97],.slice none 0 0,S [],.int .i64 (if s.getD 9 false then n else 0),S (if s.getD 13 false then dg else []),(if s.getD 11 false then vx else .slice none 0 0)]
structure YC (W6:World) (by':Nat) (c dg:Bytes) (n:Int) (vx:Value) (x:Nat) (s:Array Bool) (w:World):Prop where
 gr:W6.grownBy w (some by')
 row:w.heap[by']? =some (.cells (yRow dg n vx s) 39 (0,0))
 blk:s.getD 6 false=true→w.heap[x]? =some (.cells #[S c] 9 (0,0))∧x≠by'
section
variable {W6 w w':World} {b:Nat} {c dg:Bytes} {n:Int} {vx:Value} {x:Nat} {s:Array Bool}
theorem YC.start (k:Nat) (h:W6.heap[b]? =some (.cells #[.int .i64 1,S [97],.slice none 0 0,S [],.int .i64 0,S [],.slice none 0 0] 39 (0,0))):YC W6 b c dg n vx x (Array.replicate k false) { W6 with drawn:=W6.drawn+1 }:=
 ⟨⟨rfl,rfl,rfl,Qn _,fun _ _ _=>rfl⟩,by unfold yRow;simp only [Xbn,Bool.false_eq_true,if_false];exact h,fun q=>(by rw [Xbn] at q;cases q)⟩
theorem YC.lt (h:YC W6 b c dg n vx x s w):b<w.heap.size:=(Array.getElem?_eq_some_iff.1 h.row).1
theorem Xp6 {i:Nat} (h9:i≠9) (h13:i≠13) (h11:i≠11):yRow dg n vx (s.setIfInBounds i true)=yRow dg n vx s:=by
 unfold yRow
 rw [getD_set_ne false h9,getD_set_ne false h13,getD_set_ne false h11]
theorem YC.step (h:YC W6 b c dg n vx x s w) (hb:Below w.heap.size w w') {i:Nat} (h6:i≠6) (h9:i≠9) (h13:i≠13) (h11:i≠11):YC W6 b c dg n vx x (s.setIfInBounds i true) w':=by
 refine ⟨Xa8 h.gr (Xbe hb _),by rw [Xp6 h9 h13 h11];exact (hb.block _ h.lt).trans h.row,fun q=> ?_⟩
 rw [getD_set_ne false h6] at q
 exact ⟨(hb.block _ (Array.getElem?_eq_some_iff.1 (h.blk q).1).1).trans (h.blk q).1,(h.blk q).2⟩
theorem YC.at6 (h:YC W6 b c dg n vx x s w) (_:s.getD 6 true=false):YC W6 b c dg n vx w.heap.size (s.setIfInBounds 6 true) (w.alloc (.cells #[S c] 9)):=by
 refine ⟨Xa8 h.gr (World.grownBy_alloc w _ _),by rw [Xp6 (by decide) (by decide) (by decide)];exact (Below.heap_alloc _ _ _ h.lt).trans h.row,fun _=>⟨heap_alloc_new w _,?_⟩⟩
 have:=h.lt
 omega
theorem Xrq (w:World) (b j:Nat) (u:Value):w.grownBy (w.setCell ⟨b,j,none⟩ u) (some b):=⟨rfl,rfl,rfl,by simp,fun k _ hk=>heap_setCell_other w ⟨b,j,none⟩ k u (fun e=>hk (by simp [e]))⟩
theorem YC.set {i j:Nat} {u:Value} (h:YC W6 b c dg n vx x s w) (h6:i≠6) (hr:(yRow dg n vx s).setIfInBounds j u=yRow dg n vx (s.setIfInBounds i true)):YC W6 b c dg n vx x (s.setIfInBounds i true) (w.setCell ⟨b,j,none⟩ u):=by
 refine ⟨Xa8 h.gr (Xrq w b j u),by rw [←hr];exact heap_setCell_same w b j _ _ u h.row,fun q=> ?_⟩
 rw [getD_set_ne false h6] at q
 exact ⟨(Below.heap_setCell w ⟨b,j,none⟩ u x (h.blk q).2).trans (h.blk q).1,(h.blk q).2⟩
theorem YC.at9 (h:YC W6 b c dg n vx x s w) (hun:s.getD 9 true=false):YC W6 b c dg n vx x (s.setIfInBounds 9 true) (w.setCell ⟨b,4,none⟩ (.int .i64 n)):=
 h.set (by decide) (by unfold yRow;rw [Xav (Xgf hun),getD_set_ne false (by decide),getD_set_ne false (by decide)];rfl)
theorem YC.at13 (h:YC W6 b c dg n vx x s w) (hun:s.getD 13 true=false):YC W6 b c dg n vx x (s.setIfInBounds 13 true) (w.setCell ⟨b,5,none⟩ (S dg)):=
 h.set (by decide) (by unfold yRow;rw [Xav (Xgf hun),getD_set_ne false (by decide),getD_set_ne false (by decide)];rfl)
theorem YC.at11 (h:YC W6 b c dg n vx x s w) (hun:s.getD 11 true=false):YC W6 b c dg n vx x (s.setIfInBounds 11 true) (w.setCell ⟨b,6,none⟩ vx):=
 h.set (by decide) (by unfold yRow;rw [Xav (Xgf hun),getD_set_ne false (by decide),getD_set_ne false (by decide)];rfl)
theorem YC.old (h:YC W6 b c dg n vx x s w) {k:Nat} (hk:k<W6.heap.size) (hne:k≠b):w.heap[k]? =W6.heap[k]? :=h.gr.block k hk (fun e=>hne (Option.some.inj e))
theorem YC.cell (h:YC W6 b c dg n vx x s w) {k j:Nat} {u:Value} (hne:k≠b) (hc:W6.cell? ⟨k,j,none⟩=some u):w.cell? ⟨k,j,none⟩=some u:=
 (World.cell?_of_block (h.old (block_lt_of_cell hc) hne)).trans hc
theorem YC.own (h:YC W6 b c dg n vx x s w) (j:Nat) (hj:j<7):∃u,w.cell? ⟨b,j,none⟩=some u:=⟨(yRow dg n vx s)[j]'(by simpa [yRow] using hj),(cell_of_row w _ j _ _ _ h.row).trans (by rw [Array.getElem?_eq_getElem])⟩
theorem YC.frz (h:YC W6 b c dg n vx x s w) (j:Nat):w.frozen? ⟨b,j,none⟩=false:=frozen_of_row w _ j _ _ h.row
theorem YC.done (h:YC W6 b c dg n vx x s w) (h9:s.getD 9 false=true) (h11:s.getD 11 false=true) (h13:s.getD 13 false=true):
 W6.grownBy w (some b)∧w.heap[b]? =some (.cells #[.int .i64 1,S [97],.slice none 0 0,S [],.int .i64 n,S dg,vx] 39 (0,0)):=by
 have hr:=h.row
 unfold yRow at hr
 rw [h9,h11,h13] at hr
 exact ⟨h.gr,hr⟩
end
structure MkC (W6:World) (b:Nat) (a1 a2 o1 o2:Value) (n p:Array Value) (_:Unit) (s:Array Bool) (w:World):Prop where
 os:w.os=W6.os
 tape:w.tape=W6.tape
 out:w.output=W6.output
 size:w.heap.size=W6.heap.size
 oth:∀k,k≠b→k≠b+1→w.heap[k]? =W6.heap[k]?
 s0:s.getD 2 false=false→w.heap[b]? =some (.cells #[o1,o2] 69 (0,0))
 s1:s.getD 2 false=true→w.heap[b]? =some (.cells #[a1,a2] 69 (0,0))
 t0:s.getD 3 false=false→w.heap[b+1]? =some (.cells p 91 (0,0))
 t1:s.getD 3 false=true→w.heap[b+1]? =some (.cells n 91 (0,0))
section
variable {W6 w:World} {b:Nat} {a1 a2 o1 o2:Value} {n p:Array Value} {u:Unit} {s:Array Bool}
theorem MkC.start (k:Nat) (h1:W6.heap[b]? =some (.cells #[o1,o2] 69 (0,0))) (h2:W6.heap[b+1]? =some (.cells p 91 (0,0))):MkC W6 b a1 a2 o1 o2 n p u (Array.replicate k false) { W6 with drawn:=W6.drawn+1 }:=
 ⟨rfl,rfl,rfl,rfl,fun _ _ _=>rfl,fun _=>h1,fun q=>(by rw [Xbn] at q;cases q),fun _=>h2,fun q=>(by rw [Xbn] at q;cases q)⟩
theorem MkC.step (h:MkC W6 b a1 a2 o1 o2 n p u s w) {i:Nat} (h2:i≠2) (h3:i≠3):MkC W6 b a1 a2 o1 o2 n p u (s.setIfInBounds i true) w:=by
 refine ⟨h.os,h.tape,h.out,h.size,h.oth,?_,?_,?_,?_⟩<;>first|rw [getD_set_ne false h2]|rw [getD_set_ne false h3]
 ·exact h.s0
 ·exact h.s1
 ·exact h.t0
 ·exact h.t1
theorem MkC.cell (h:MkC W6 b a1 a2 o1 o2 n p u s w) {k j:Nat} {v:Value} (h1:k≠b) (h2:k≠b+1) (hc:W6.cell? ⟨k,j,none⟩=some v):w.cell? ⟨k,j,none⟩=some v:=(World.cell?_of_block (h.oth k h1 h2)).trans hc
theorem MkC.at2 (h:MkC W6 b a1 a2 o1 o2 n p u s w) (hun:s.getD 2 true=false):MkC W6 b a1 a2 o1 o2 n p u (s.setIfInBounds 2 true) (w.setRow b #[a1,a2]):=by
 have e2:=Xav (Xgf hun)
 have e3:(s.setIfInBounds 2 true).getD 3 false=s.getD 3 false:=getD_set_ne false (by decide)
 refine ⟨h.os,h.tape,h.out,?_,fun k h1 h2=>(setRow_other _ _ _ _ h1).trans (h.oth k h1 h2),fun q=>(by rw [e2] at q;cases q),fun _=>setRow_heap _ _ _ _ _ _ (h.s0 (Xas hun)),fun q=> ?_,fun q=> ?_⟩
 ·rw [setRow_size];exact h.size
 ·rw [e3] at q;exact (setRow_other _ _ _ _ (by omega)).trans (h.t0 q)
 ·rw [e3] at q;exact (setRow_other _ _ _ _ (by omega)).trans (h.t1 q)
theorem MkC.at3 (h:MkC W6 b a1 a2 o1 o2 n p u s w) (hun:s.getD 3 true=false):MkC W6 b a1 a2 o1 o2 n p u (s.setIfInBounds 3 true) (w.setRow (b+1) n):=by
 have e3:=Xav (Xgf hun)
 have e2:(s.setIfInBounds 3 true).getD 2 false=s.getD 2 false:=getD_set_ne false (by decide)
 refine ⟨h.os,h.tape,h.out,?_,fun k h1 h2=>(setRow_other _ _ _ _ h2).trans (h.oth k h1 h2),fun q=> ?_,fun q=> ?_,fun q=>(by rw [e3] at q;cases q),fun _=>setRow_heap _ _ _ _ _ _ (h.t0 (Xas hun))⟩
 ·rw [setRow_size];exact h.size
 ·rw [e2] at q;exact (setRow_other _ _ _ _ (by omega)).trans (h.s0 q)
 ·rw [e2] at q;exact (setRow_other _ _ _ _ (by omega)).trans (h.s1 q)
theorem MkC.done (h:MkC W6 b a1 a2 o1 o2 n p u s w) (h2:s.getD 2 false=true) (h3:s.getD 3 false=true):w.heap[b]? =some (.cells #[a1,a2] 69 (0,0))∧w.heap[b+1]? =some (.cells n 91 (0,0)):=⟨h.s1 h2,h.t1 h3⟩
theorem MkC.mat {I J:IH} {w0:World} (h:MkC W6 b a1 a2 o1 o2 n p u s w) (hA:MAt I w0 J W6) (h1:J b=none) (h2:J (b+1)=none) (hb:w0.heap.size≤b):MAt I w0 J w:=by
 refine ⟨hA.ok.of_block fun k c hk=>h.oth k (fun e=>by subst e;rw [h1] at hk;cases hk) (fun e=>by subst e;rw [h2] at hk;cases hk),hA.keep,?_⟩
 exact ⟨h.os.trans hA.bel.os,h.tape.trans hA.bel.tape,h.out.trans hA.bel.output,by rw [h.size];exact hA.bel.size,fun k hk=>(h.oth k (by omega) (by omega)).trans (hA.bel.block k hk)⟩
end
theorem Xa9 {x y z t:Value}:ApartF [(some 112,x),(some 113,y),(none,z),(none,t)]:=by
 unfold ApartF
 simp
theorem Xml {d:Int}:∀ {l:List Ses},l.any (fun x=>decide (d<x.date))=false→asOf d l=l.length
 | [],_=>rfl
 |x::l,h=>by
  rw [List.any_cons,Bool.or_eq_false_iff] at h
  rw [asOf,if_neg (of_decide_eq_false h.1),Xml h.2];rfl
theorem Xmk {d:Int}:∀ {l:List Ses} {i:Nat} (hi:i<l.length),decide (d<l[i].date)=true→(l.take i).any (fun x=>decide (d<x.date))=false→asOf d l=i
 | [],_,hi,_,_=>absurd hi (by simp)
 |x::l,0,_,hp,_=>by
  have hp':d<x.date:=of_decide_eq_true hp
  rw [asOf,if_pos hp']
 |x::l,i+1,hi,hp,hn=>by
  rw [List.take_succ_cons,List.any_cons,Bool.or_eq_false_iff] at hn
  rw [asOf,if_neg (of_decide_eq_false hn.1),Xmk (l:=l) (by simpa using hi) hp hn.2]
abbrev sttV (vt vh:Value):Value:= .agg #[vt,vh]
set_option maxRecDepth 100000 in
set_option maxHeartbeats 400000 in
theorem Xog (I:IH) (vt vh:Value) (t:List Ent) (hs:List Ho) (hvt:RdS tEnt I vt t) (hvh:RdS tHo I vh hs) (p:Bytes) (w:World) (hw:Ok I w):
 Calls Tryz.prog 39 #[sttV vt vh,S p] w fun r w'=>r= .returned (.bool (getE t p).2)∧Below w.heap.size w w':=by
 have Hg:=Qh (fun w hw=>Xl2 I vt t hvt p w hw)
 obtain ⟨at',ct,rfl,_,_,_⟩:=id hvt
 obtain ⟨ah,ch,rfl,_,_,_⟩:=id hvh
 obtain ⟨⟨x,b⟩,hx⟩:∃q,getE t p=q:=⟨_,rfl⟩
 rw [hx] at Hg ⊢
 clear hvt hvh hx
 go_enter Tryz.func39,Tryz.ntmps39
 go_wp2_with fail
 refine (Hg.out _ (hw.alloc _)).mono ?_
 rintro e1 w1 ⟨va,vx,rfl,h1,h2,hb1⟩
 obtain ⟨oa,oc,rfl,_,_,_⟩:=id h1
 obtain ⟨ox,od,rfl,_,_,_⟩:=id h2
 have hb1':=((Qb w.heap.size w).alloc (Qn _) (.cells #[.slice at' t.length ct,.slice ah hs.length ch] 64)).trans (hb1.mono (by simp))
 clear h1 h2 hb1
 go_wp2
 go_ret
 exact ⟨rfl,hb1'.alloc hb1'.size _⟩
set_option maxRecDepth 100000 in
set_option maxHeartbeats 400000 in
theorem Xcb (I:IH) (e:Ent) (va vx:Value) (hva:RdS tAt I va e.attrs) (hvx:RdS tXt I vx e.exts) (w:World):
 Calls Tryz.prog 41 #[entV e va vx] w fun r w'=>r= .returned (.bool (e.kind==1 || e.kind==2 || e.kind==3))∧Below w.heap.size w w':=by
 obtain ⟨aa,ca,rfl,_,_,_⟩:=id hva
 obtain ⟨ax,cx,rfl,_,_,_⟩:=id hvx
 clear hva hvx
 obtain ⟨b1,h1⟩:∃b,(e.kind==1)=b:=⟨_,rfl⟩
 obtain ⟨b2,h2⟩:∃b,(e.kind==2)=b:=⟨_,rfl⟩
 obtain ⟨b3,h3⟩:∃b,(e.kind==3)=b:=⟨_,rfl⟩
 have Hn:=Qh (show (e.kind==1 || e.kind==2 || e.kind==3)=(b1 || b2 || b3) by rw [h1,h2,h3])
 cases b1
 ·cases b2
  ·cases b3
   ·go_enter Tryz.func41,Tryz.ntmps41
    go_wp2
    go_ret
    exact ⟨Xah Hn.out.symm,(Qb w.heap.size w).alloc (Qn _) _⟩
   ·go_enter Tryz.func41,Tryz.ntmps41
    go_wp2
    go_ret
    exact ⟨Xah Hn.out.symm,(Qb w.heap.size w).alloc (Qn _) _⟩
  ·go_enter Tryz.func41,Tryz.ntmps41
   go_wp2
   go_ret
   exact ⟨Xah Hn.out.symm,(Qb w.heap.size w).alloc (Qn _) _⟩
 ·go_enter Tryz.func41,Tryz.ntmps41
  go_wp2
  go_ret
  exact ⟨Xah Hn.out.symm,(Qb w.heap.size w).alloc (Qn _) _⟩
def PredSes (I:IH) (g:Nat) (cb:Array Value) (l:List Ses) (p:Ses→Bool) (C:World→Prop):Prop:=
 ∀x∈l,∀(ve:Value) (W:World),RdS tEnt I ve x.ents→C W→Calls Tryz.prog g (#[sesV x ve]++cb) W fun e w'=>e= .returned (.bool (p x))∧Below W.heap.size W w'
set_option maxRecDepth 100000 in
set_option maxHeartbeats 1000000 in
theorem Xgg (I:IH) (v:Value) (l:List Ses) (hv:RdS tSes I v l) (g:Nat) (cb:Array Value) (p:Ses→Bool) (w:World) (hw:Ok I w) (eg:∀args w,(callFunc g args).run Tryz.prog w= .ok (.enter g args) w) (hp:PredSes I g cb l p (Below w.heap.size w)):
 Calls Tryz.prog 36 #[v,.func (.func g) #[] cb] w fun e w'=>e= .returned (.int .i64 (idxL l p))∧Below w.heap.size w w':=by
 have hlen:=hv.len_le
 obtain ⟨ao,cap,rfl,hcap,hcm,_⟩:=id hv
 have Hv:=Qh hv;clear hv
 have Hp:=Qh hp;clear hp
 go_enter Tryz.func36,Tryz.ntmps36
 go_wp2_with fail
 go_loopw [8] (fun s8 wr=> ∃k:Nat,k≤l.length∧s8= .int .i64 k∧(l.take k).any p=false∧Below w.heap.size w wr) (fun i _=>l.length-(intOf i).toNat)
 case atStart=>exact ⟨0,Nat.zero_le _,rfl,rfl,Qb _ _⟩
 case round=>
  obtain ⟨k,hk,rfl,hr,hb⟩:=hrel
  have Hr:=Qh hr;clear hr
  by_cases hlt:k<l.length
  ·have hwr:Ok I wr:=hw.below (Qn _) hb
   obtain ⟨x,ve,b,off,cap',hlx,hvv,⟨c0,c1,c2,c3,c4,c5⟩,h1⟩:=Xdc Hv.out hwr k hlt
   cases hvv
   have Hlx:=Qh hlx
   have Hcall:=Qh (Hp.out x (by rw [←hlx];exact List.getElem_mem hlt) ve wr h1 hb)
   obtain ⟨oe,ce,rfl,_,_,_⟩:=id h1
   clear hlx h1
   go_wp2_with fail
   refine Hcall.out.mono ?_
   rintro e w1 ⟨rfl,hb1⟩
   have hb1':=hb.trans (hb1.mono hb.size)
   clear hb1 Hcall c0 c1 c2 c3 c4 c5
   cases hpx:p x
   ·have Hn:=Qh (show (l.take (k+1)).any p=false by rw [List.take_succ_eq_append_getElem hlt,List.any_append,Hr.out,Hlx.out];simp [hpx])
    clear hpx
    go_wp2
    go_roundw
    case rel=>exact ⟨k+1,by omega,by go_num,Hn.out,hb1'⟩
    case measure=>simp [intOf];omega
   ·have Hn:=Qh (Xdl (p:=p) hlt (by rw [Hlx.out];exact hpx) Hr.out)
    clear hpx
    go_wp2
    go_ret
    exact ⟨Xac Hn.out.symm,hb1'⟩
  ·have Hn:=Qh (show idxL l p= -1 from Xdm (by have:=Hr.out;rwa [List.take_of_length_le (by omega)] at this))
   go_wp2
   go_ret
   exact ⟨Xac Hn.out.symm,hb⟩
set_option maxRecDepth 100000 in
theorem Xts (I:IH) (d:Int) (b:Nat) (l:List Ses) (w:World) (hc:w.cell? ⟨b,0,none⟩=some (.int .i64 d)):PredSes I 37 #[.pointer (some ⟨b,0,none⟩)] l (fun x=>decide (d<x.date)) (Below w.heap.size w):=by
 intro x _ ve W h1 hW
 obtain ⟨oe,ce,rfl,_,_,_⟩:=id h1
 have hcW:=Xab (.cells #[.int .i64 x.num,.int .i64 x.date,S x.prev,.slice oe x.ents.length ce,S x.stream,S x.sl] 47) (Xaa hW hc)
 clear hc h1
 show Calls Tryz.prog _ #[sesV x (.slice oe x.ents.length ce),.pointer (some ⟨b,0,none⟩)] W _
 go_enter Tryz.func37,Tryz.ntmps37
 go_wp2
 go_ret
 exact ⟨rfl,(Qb _ _).alloc (Qn _) _⟩
set_option maxRecDepth 100000 in
set_option maxHeartbeats 400000 in
theorem Xrm (I:IH) (v:Value) (l:List Ses) (hv:RdS tSes I v l) (d:Int) (w:World) (hw:Ok I w):
 Calls Tryz.prog 14 #[v,.int .i64 d] w fun r w'=>r= .returned (.int .i64 (asOf d l))∧Below w.heap.size w w':=by
 have Hi:=Qh (Xgg I v l hv _ _ _ _ (hw.alloc (.cells #[.int .i64 d] 3)) (fun _ _=>by kernel_rfl) (Xts I d w.heap.size l (w.alloc (.cells #[.int .i64 d] 3)) (by simp)))
 have hlen:=hv.len_le
 obtain ⟨ao,cap,rfl,hcap,hcm,_⟩:=id hv
 clear hv
 rcases Xbp l (fun x=>decide (d<x.date)) with ⟨i,hi,e1,e2,e3⟩|⟨e1,e2⟩
 ·have Hn:=Qh (show ((asOf d l:Nat):Int)=(i:Int) by rw [Xmk hi e2 e3])
  rw [e1] at Hi
  clear e1 e2 e3
  go_enter Tryz.func14,Tryz.ntmps14
  go_wp2_with fail
  refine Hi.out.mono ?_
  rintro e w1 ⟨rfl,hb1⟩
  go_wp2
  go_ret
  exact ⟨Xac Hn.out.symm,((Qb _ _).alloc (Qn _) _).trans (hb1.mono (by simp))⟩
 ·have Hn:=Qh (show ((asOf d l:Nat):Int)=(l.length:Int) by rw [Xml e2])
  rw [e1] at Hi
  clear e1 e2
  go_enter Tryz.func14,Tryz.ntmps14
  go_wp2_with fail
  refine Hi.out.mono ?_
  rintro e w1 ⟨rfl,hb1⟩
  go_wp2
  go_ret
  exact ⟨Xac Hn.out.symm,((Qb _ _).alloc (Qn _) _).trans (hb1.mono (by simp))⟩
abbrev xtV (x:Xt):Value:= .agg #[.int .i64 x.s,.int .i64 x.o,.int .i64 x.n]
def PredXt (g:Nat) (cb:Array Value) (l:List Xt) (p:Xt→Bool) (C:World→Prop):Prop:=
 ∀x∈l,∀W:World,C W→Calls Tryz.prog g (#[xtV x]++cb) W fun e w'=>e= .returned (.bool (p x))∧Below W.heap.size W w'
set_option maxRecDepth 100000 in
set_option maxHeartbeats 1000000 in
theorem Xho (I:IH) (v:Value) (l:List Xt) (hv:RdS tXt I v l) (g:Nat) (cb:Array Value) (p:Xt→Bool) (w:World) (hw:Ok I w) (eg:∀args w,(callFunc g args).run Tryz.prog w= .ok (.enter g args) w) (hp:PredXt g cb l p (Below w.heap.size w)):
 Calls Tryz.prog 109 #[v,.func (.func g) #[] cb] w fun e w'=>e= .returned (.int .i64 (idxL l p))∧Below w.heap.size w w':=by
 have hlen:=hv.len_le
 obtain ⟨ao,cap,rfl,hcap,hcm,_⟩:=id hv
 have Hv:=Qh hv;clear hv
 have Hp:=Qh hp;clear hp
 go_enter Tryz.func109,Tryz.ntmps109
 go_wp2_with fail
 go_loopw [8] (fun s8 wr=> ∃k:Nat,k≤l.length∧s8= .int .i64 k∧(l.take k).any p=false∧Below w.heap.size w wr) (fun i _=>l.length-(intOf i).toNat)
 case atStart=>exact ⟨0,Nat.zero_le _,rfl,rfl,Qb _ _⟩
 case round=>
  obtain ⟨k,hk,rfl,hr,hb⟩:=hrel
  have Hr:=Qh hr;clear hr
  by_cases hlt:k<l.length
  ·have hwr:Ok I wr:=hw.below (Qn _) hb
   obtain ⟨x,b,off,cap',hlx,hvv,c0,c1,c2⟩:=xtAt Hv.out hwr k hlt
   cases hvv
   have Hlx:=Qh hlx
   have Hcall:=Qh (Hp.out x (by rw [←hlx];exact List.getElem_mem hlt) wr hb)
   clear hlx
   go_wp2_with fail
   refine Hcall.out.mono ?_
   rintro e w1 ⟨rfl,hb1⟩
   have hb1':=hb.trans (hb1.mono hb.size)
   clear hb1 Hcall c0 c1 c2
   cases hpx:p x
   ·have Hn:=Qh (show (l.take (k+1)).any p=false by rw [List.take_succ_eq_append_getElem hlt,List.any_append,Hr.out,Hlx.out];simp [hpx])
    clear hpx
    go_wp2
    go_roundw
    case rel=>exact ⟨k+1,by omega,by go_num,Hn.out,hb1'⟩
    case measure=>simp [intOf];omega
   ·have Hn:=Qh (Xdl (p:=p) hlt (by rw [Hlx.out];exact hpx) Hr.out)
    clear hpx
    go_wp2
    go_ret
    exact ⟨Xac Hn.out.symm,hb1'⟩
  ·have Hn:=Qh (show idxL l p= -1 from Xdm (by have:=Hr.out;rwa [List.take_of_length_le (by omega)] at this))
   go_wp2
   go_ret
   exact ⟨Xac Hn.out.symm,hb⟩
set_option maxRecDepth 100000 in
set_option maxHeartbeats 400000 in
theorem Xfa (I:IH) (v:Value) (l:List Xt) (hv:RdS tXt I v l) (g:Nat) (cb:Array Value) (p:Xt→Bool) (w:World) (hw:Ok I w) (eg:∀args w,(callFunc g args).run Tryz.prog w= .ok (.enter g args) w) (hp:PredXt g cb l p (Below w.heap.size w)):
 Calls Tryz.prog 57 #[v,.func (.func g) #[] cb] w fun e w'=>e= .returned (.bool (l.any p))∧Below w.heap.size w w':=by
 have Hi:=Qh (Xho I v l hv g cb p w hw eg hp)
 obtain ⟨ao,cap,rfl,hcap,hcm,_⟩:=id hv
 clear hv hp eg
 rcases Xbp l p with ⟨i,hi,e1,e2,_⟩|⟨e1,e2⟩
 ·have Ha:=Qh (show l.any p=true from List.any_eq_true.2 ⟨l[i],List.getElem_mem hi,e2⟩)
  have hd:decide ((0:Int)≤(i:Int))=true:=Qt (by omega)
  rw [e1] at Hi
  clear e1 e2
  go_enter Tryz.func57,Tryz.ntmps57
  go_wp2_with fail
  refine Hi.out.mono ?_
  rintro e w1 ⟨rfl,hb1⟩
  go_wp2
  go_ret
  exact ⟨Xah Ha.out.symm,hb1⟩
 ·have Ha:=Qh e2
  rw [e1] at Hi
  clear e1 e2
  go_enter Tryz.func57,Tryz.ntmps57
  go_wp2_with fail
  refine Hi.out.mono ?_
  rintro e w1 ⟨rfl,hb1⟩
  go_wp2
  go_ret
  exact ⟨Xah Ha.out.symm,hb1⟩
def XtB (x:Xt):Prop:=0≤x.s∧x.s≤255∧0≤x.o∧x.o≤2147483647∧1≤x.n∧x.n≤65536
theorem Xgx {l:List Ses} {x:Xt} (h:x.s=0):xtIn l x=true:=by simp [xtIn,h]
theorem Xn2 {l:List Ses} {x:Xt} (h0:x.s≠0) (h:(l.length:Int)<x.s):xtIn l x=false:=by
 unfold xtIn
 rw [Qf (show ¬x.s≤(l.length:Int) by omega)]
 simpa using h0
theorem Xp8 {l:List Ses} {x:Xt} {k:Nat} (hk:k<l.length) {y:Ses} (hy:l[k]=y) (h:x.s=(k:Int)+1):xtIn l x=decide (x.o+x.n≤(y.stream.length:Int)):=by
 unfold xtIn
 rw [Qt (show x.s≤(l.length:Int) by omega),show (x.s-1).toNat=k by omega,List.getElem?_eq_getElem hk,hy,show (x.s==0)=false by simp;omega]
 rfl
set_option maxRecDepth 100000 in
set_option maxHeartbeats 1000000 in
theorem Xpr (I:IH) (v:Value) (l:List Ses) (hv:RdS tSes I v l) (xs:List Xt) (hx:∀x∈xs,XtB x) (b:Nat) (w:World) (hw:Ok I w) (hc:w.cell? ⟨b,0,none⟩=some v):PredXt 58 #[.pointer (some ⟨b,0,none⟩)] xs (fun x=> !(xtIn l x)) (Below w.heap.size w):=by
 intro x hm W hW
 have hlen:=hv.len_le
 obtain ⟨b0,b1,b2,b3,b4,b5⟩:=hx x hm
 have Hv:=Qh hv
 obtain ⟨ao,cap,rfl,_,_,_⟩:=id hv
 have hokW:Ok I (W.alloc (.cells #[.int .i64 x.s,.int .i64 x.o,.int .i64 x.n] 73)):=(hw.below (Qn _) hW).alloc _
 have hcW:=Xab (.cells #[.int .i64 x.s,.int .i64 x.o,.int .i64 x.n] 73) (Xaa hW hc)
 clear hc hv hx hm hW hw
 obtain ⟨s,o,n⟩:=x
 dsimp only at b0 b1 b2 b3 b4 b5
 by_cases h0:s=0
 ·have Hn:=Qh (Xgx (l:=l) (x:=⟨s,o,n⟩) h0)
  subst h0
  show Calls Tryz.prog _ #[xtV ⟨0,o,n⟩,.pointer (some ⟨b,0,none⟩)] W _
  go_enter Tryz.func58,Tryz.ntmps58
  go_wp2
  go_ret
  exact ⟨Xah (by rw [Hn.out];rfl),(Qb _ _).alloc (Qn _) _⟩
 have k0:(s==0)=false:=by simpa using h0
 by_cases hf:(l.length:Int)<s
 ·have Hn:=Qh (Xn2 (l:=l) (x:=⟨s,o,n⟩) h0 hf)
  have df:decide ((l.length:Int)<s)=true:=Qt hf
  clear h0 hf
  have g0:=cell_regrown hcW
  have y0:=cell_regrown (show (W.alloc (.cells #[.int .i64 s,.int .i64 o,.int .i64 n] 73)).cell? ⟨W.heap.size,0,none⟩=some (.int .i64 s) by simp)
  have y1:=cell_regrown (show (W.alloc (.cells #[.int .i64 s,.int .i64 o,.int .i64 n] 73)).cell? ⟨W.heap.size,1,none⟩=some (.int .i64 o) by simp)
  have y2:=cell_regrown (show (W.alloc (.cells #[.int .i64 s,.int .i64 o,.int .i64 n] 73)).cell? ⟨W.heap.size,2,none⟩=some (.int .i64 n) by simp)
  show Calls Tryz.prog _ #[xtV ⟨s,o,n⟩,.pointer (some ⟨b,0,none⟩)] W _
  go_enter Tryz.func58,Tryz.ntmps58
  go_wp2_with fail
  refine wp_region_quiet_below (by kernel_rfl) (by kernel_rfl) ?_
  repeat (go_big_quiet_step ((fail)))
  refine wpQuiet_nil ?_
  intro w2 hwq
  have hb2:Below ((W.alloc (.cells #[.int .i64 s,.int .i64 o,.int .i64 n] 73))).heap.size ((W.alloc (.cells #[.int .i64 s,.int .i64 o,.int .i64 n] 73))) w2:=by
   obtain ⟨pq,rfl⟩:=hwq
   exact below_regrown _ _ _
  clear hwq
  go_wp2
  go_ret
  exact ⟨Xah (by rw [Hn.out];rfl),((Qb _ _).alloc (Qn _) _).trans (hb2.mono (by simp))⟩
 obtain ⟨k,hk⟩:∃k:Nat,s=(k:Int)+1:=⟨(s-1).toNat,by omega⟩
 subst hk
 have hkl:k<l.length:=by omega
 obtain ⟨y,ve,bb,off,cap',hly,hvv,⟨c0,c1,c2,c3,c4,c5⟩,h1⟩:=Xdc Hv.out hokW k hkl
 cases hvv
 have hxe:=Xp8 (x:=⟨(k:Int)+1,o,n⟩) hkl hly rfl
 have df:decide ((l.length:Int)<(k:Int)+1)=false:=Qf (by omega)
 have g0:=cell_regrown hcW
 have g1:=cell_regrown c4
 have y0:=cell_regrown (show (W.alloc (.cells #[.int .i64 ((k:Int)+1),.int .i64 o,.int .i64 n] 73)).cell? ⟨W.heap.size,0,none⟩=some (.int .i64 ((k:Int)+1)) by simp)
 have y1:=cell_regrown (show (W.alloc (.cells #[.int .i64 ((k:Int)+1),.int .i64 o,.int .i64 n] 73)).cell? ⟨W.heap.size,1,none⟩=some (.int .i64 o) by simp)
 have y2:=cell_regrown (show (W.alloc (.cells #[.int .i64 ((k:Int)+1),.int .i64 o,.int .i64 n] 73)).cell? ⟨W.heap.size,2,none⟩=some (.int .i64 n) by simp)
 have hi:(k:Int)<l.length:=by omega
 clear h0 hf hly c0 c1 c2 c3 c4 c5 h1
 by_cases hin:o+n≤(y.stream.length:Int)
 ·have Hn:=Qh (show xtIn l ⟨(k:Int)+1,o,n⟩=true by rw [hxe];exact Qt hin)
  have d2:decide ((y.stream.length:Int)<o+n)=false:=Qf (by omega)
  clear hxe hin
  show Calls Tryz.prog _ #[xtV ⟨(k:Int)+1,o,n⟩,.pointer (some ⟨b,0,none⟩)] W _
  go_enter Tryz.func58,Tryz.ntmps58
  go_wp2_with fail
  refine wp_region_quiet_below (by kernel_rfl) (by kernel_rfl) ?_
  repeat (go_big_quiet_step ((fail)))
  refine wpQuiet_nil ?_
  intro w2 hwq
  have hb2:Below ((W.alloc (.cells #[.int .i64 ((k:Int)+1),.int .i64 o,.int .i64 n] 73))).heap.size ((W.alloc (.cells #[.int .i64 ((k:Int)+1),.int .i64 o,.int .i64 n] 73))) w2:=by
   obtain ⟨pq,rfl⟩:=hwq
   exact below_regrown _ _ _
  clear hwq
  go_wp2
  go_ret
  exact ⟨Xah (by rw [Hn.out];rfl),((Qb _ _).alloc (Qn _) _).trans (hb2.mono (by simp))⟩
 ·have Hn:=Qh (show xtIn l ⟨(k:Int)+1,o,n⟩=false by rw [hxe];exact Qf hin)
  have d2:decide ((y.stream.length:Int)<o+n)=true:=Qt (by omega)
  clear hxe hin
  show Calls Tryz.prog _ #[xtV ⟨(k:Int)+1,o,n⟩,.pointer (some ⟨b,0,none⟩)] W _
  go_enter Tryz.func58,Tryz.ntmps58
  go_wp2_with fail
  refine wp_region_quiet_below (by kernel_rfl) (by kernel_rfl) ?_
  repeat (go_big_quiet_step ((fail)))
  refine wpQuiet_nil ?_
  intro w2 hwq
  have hb2:Below ((W.alloc (.cells #[.int .i64 ((k:Int)+1),.int .i64 o,.int .i64 n] 73))).heap.size ((W.alloc (.cells #[.int .i64 ((k:Int)+1),.int .i64 o,.int .i64 n] 73))) w2:=by
   obtain ⟨pq,rfl⟩:=hwq
   exact below_regrown _ _ _
  clear hwq
  go_wp2
  go_ret
  exact ⟨Xah (by rw [Hn.out];rfl),((Qb _ _).alloc (Qn _) _).trans (hb2.mono (by simp))⟩
theorem Xo3 (l:List Ses) (e:Ent):storedP l e= !(e.exts.any fun x=> !(xtIn l x)):=by
 unfold storedP
 rw [List.any_eq_not_all_not]
 simp
set_option maxRecDepth 100000 in
set_option maxHeartbeats 1000000 in
theorem Xrl (I:IH) (v:Value) (l:List Ses) (hv:RdS tSes I v l) (e:Ent) (va vx:Value) (hva:RdS tAt I va e.attrs) (hvx:RdS tXt I vx e.exts) (hx:∀x∈e.exts,XtB x) (w:World) (hw:Ok I w):
 Calls Tryz.prog 33 #[v,entV e va vx] w fun r w'=>r= .returned (.bool (storedP l e))∧Below w.heap.size w w':=by
 obtain ⟨ao,cap,rfl,_,_,_⟩:=id hv
 obtain ⟨aa,ca,rfl,_,_,_⟩:=id hva
 obtain ⟨ax,cx,rfl,_,_,_⟩:=id hvx
 have hok:Ok I ((w.alloc (.cells #[.slice ao l.length cap] 22)).alloc (.cells #[.int .i64 e.kind,S e.path,.slice aa e.attrs.length ca,S e.target,.int .i64 e.size,S e.digest,.slice ax e.exts.length cx] 39)):=(hw.alloc _).alloc _
 have Hc:=Qh (Xfa I _ _ hvx _ _ _ _ hok (fun _ _=>by kernel_rfl) (Xpr I _ l hv e.exts hx w.heap.size _ hok (Xab _ (by simp))))
 have Hn:=Qh (Xo3 l e)
 generalize (e.exts.any fun x=> !(xtIn l x))=q at Hc Hn
 clear hv hva hvx hx hok
 go_enter Tryz.func33,Tryz.ntmps33
 go_wp2_with fail
 refine Hc.out.mono ?_
 rintro r w1 ⟨rfl,hb1⟩
 go_wp2
 go_ret
 exact ⟨Xah Hn.out.symm,(((Qb _ _).alloc (Qn _) _).alloc (by simp) _).trans (hb1.mono (by simp;omega))⟩
structure StM (T:TypeId) (n:Nat) (I:IH) (W:World) (s:Stt) (vt vh:Value):Prop where
 row:W.heap[n]? =some (.cells #[vt,vh] T (0,0))
 tree:RdS tEnt I vt s.tree
 holds:RdS tHo I vh s.holds
 ok:Ok I W
 free:I n=none
section
variable {T:TypeId} {n:Nat} {I I':IH} {W W':World} {s s':Stt} {vt vh vt' vh':Value}
theorem StM.c0 (h:StM T n I W s vt vh):W.cell? ⟨n,0,none⟩=some vt:=(cell_of_row W _ 0 _ _ _ h.row).trans rfl
theorem StM.c1 (h:StM T n I W s vt vh):W.cell? ⟨n,1,none⟩=some vh:=(cell_of_row W _ 1 _ _ _ h.row).trans rfl
theorem StM.f0 (h:StM T n I W s vt vh):W.frozen? ⟨n,0,none⟩=false:=frozen_of_row W _ 0 _ _ h.row
theorem StM.f1 (h:StM T n I W s vt vh):W.frozen? ⟨n,1,none⟩=false:=frozen_of_row W _ 1 _ _ h.row
theorem StM.lt (h:StM T n I W s vt vh):n<W.heap.size:=(Array.getElem?_eq_some_iff.1 h.row).1
theorem StM.below (h:StM T n I W s vt vh) (hb:Below W.heap.size W W'):StM T n I W' s vt vh:=
 ⟨(hb.block _ h.lt).trans h.row,h.tree,h.holds,h.ok.below (Qn _) hb,h.free⟩
theorem StM.past (h:StM T n I W s vt vh) (o:Obj):StM T n I (W.alloc o) s vt vh:=h.below ((Qb _ _).alloc (Qn _) o)
theorem StM.ext (h:StM T n I W s vt vh) (hb:Below W.heap.size W W') (hx:Ext W.heap.size I I') (hok:Ok I' W'):StM T n I' W' s vt vh:=
 ⟨(hb.block _ h.lt).trans h.row,h.tree.mono (hx.keep h.ok (Qn _)),h.holds.mono (hx.keep h.ok (Qn _)),hok,(hx _ h.lt).trans h.free⟩
theorem StM.set (h:StM T n I W s vt vh) (h1:RdS tEnt I vt' s'.tree) (h2:RdS tHo I vh' s'.holds):StM T n I ((W.setCell ⟨n,0,none⟩ vt').setCell ⟨n,1,none⟩ vh') s' vt' vh':=
 ⟨heap_setCell_same _ n 1 _ _ vh' (heap_setCell_same W n 0 _ _ vt' h.row),h1,h2,(h.ok.setCell h.free _).setCell h.free _,h.free⟩
theorem StM.new (hw:Ok I W) (_:T=T):StM T W.heap.size I (W.alloc (.cells #[.slice none 0 0,.slice none 0 0] T)) nilS (.slice none 0 0) (.slice none 0 0):=
 ⟨heap_alloc_new W _,RdS.nil _ _,RdS.nil _ _,hw.alloc _,hw.fresh (Qn _)⟩
end
theorem Xud {l0 l:List Ses} {k:Nat} {s:Stt} {prev:Bytes} {date:Int} (hk:k<l.length) {x:Ses} (hx:l[k]=x):chkFromH l0 k s prev date (l.drop k)=
 if (dirDig x).2≠0 then (dirDig x).2 else if x.num≠k+1∨x.date<date then 14 else if x.prev≠prev then 20
 else if (entsH (l0.take (k+1)) x.date s x.ents).2≠0 then (entsH (l0.take (k+1)) x.date s x.ents).2 else chkFromH l0 (k+1) (entsH (l0.take (k+1)) x.date s x.ents).1 (dirDig x).1 x.date (l.drop (k+1)):=by
 rw [List.drop_eq_getElem_cons hk,hx,chkFromH]
theorem Xnr {L:List Ses} {d:Int} {s:Stt} {es:List Ent} {j:Nat} (hj:j<es.length) {y:Ent} (hy:es[j]=y):entsH L d s (es.drop j)=
 if (stpP s y d).2≠0 then ((stpP s y d).1,(stpP s y d).2) else if storedP L y=false then ((stpP s y d).1,2) else entsH L d (stpP s y d).1 (es.drop (j+1)):=by
 rw [List.drop_eq_getElem_cons hj,hy,entsH]
theorem Xsi {d:Int} {l:List Ses} {k:Nat} (hk:k<l.length) {x:Ses} (hx:l[k]=x):asOf d (l.drop k)=if d<x.date then 0 else asOf d (l.drop (k+1))+1:=by
 rw [List.drop_eq_getElem_cons hk,hx];rfl
set_option maxRecDepth 100000 in
set_option maxHeartbeats 1000000 in
theorem Xo9 (I:IH) (v:Value) (l:List Ses) (hv:RdS tSes I v l) (d:Int) (w:World) (hw:Ok I w):
 Calls Tryz.prog 15 #[v,.int .i64 d] w fun r w'=>r= .returned (.int .i64 (asOf d l))∧Below w.heap.size w w':=by
 have hlen:=hv.len_le
 obtain ⟨ao,cap,rfl,hcap,hcm,_⟩:=id hv
 have Hv:=Qh hv;clear hv
 go_enter Tryz.func15,Tryz.ntmps15
 go_wp2_with fail
 go_loopw [9] (fun s9 wr=> ∃k:Nat,k≤l.length∧s9= .int .i64 k∧k+asOf d (l.drop k)=asOf d l∧Below w.heap.size w wr) (fun i _=>l.length-(intOf i).toNat)
 case atStart=>exact ⟨0,Nat.zero_le _,rfl,by simp,Qb _ _⟩
 case round=>
  obtain ⟨k,hk,rfl,hr,hb⟩:=hrel
  have Hr:=Qh hr;clear hr
  have hwr:Ok I wr:=hw.below (Qn _) hb
  by_cases hlt:k<l.length
  ·obtain ⟨x,ve,b,off,cap',hlx,hvv,⟨c0,c1,c2,c3,c4,c5⟩,h1⟩:=Xdc Hv.out hwr k hlt
   cases hvv
   obtain ⟨oe,ce,rfl,_,_,_⟩:=id h1
   have Hst:=Qh (Xsi (d:=d) hlt hlx)
   have hba:=hb.alloc hb.size (.cells #[.int .i64 x.num,.int .i64 x.date,S x.prev,.slice oe x.ents.length ce,S x.stream,S x.sl] 47)
   clear hlx h1
   by_cases hq:d<x.date
   ·have dq:decide (d<x.date)=true:=Qt hq
    have Hn:=Qh (show ((asOf d l:Nat):Int)=(k:Int) by rw [←Hr.out,Hst.out,if_pos hq];simp)
    clear hq
    go_wp2
    go_ret
    exact ⟨Xac Hn.out.symm,hba⟩
   ·have dq:decide (d<x.date)=false:=Qf hq
    have Hn:=Qh (show k+1+asOf d (l.drop (k+1))=asOf d l by have:=Hr.out;rw [Hst.out,if_neg hq] at this;omega)
    clear hq
    go_wp2
    go_roundw
    case rel=>exact ⟨k+1,by omega,by go_num,Hn.out,hba⟩
    case measure=>simp [intOf];omega
  ·have Hn:=Qh (show ((asOf d l:Nat):Int)=(l.length:Int) by
    have:=Hr.out
    rw [List.drop_of_length_le (by omega)] at this
    have h0:asOf d []=0:=rfl
    omega)
   go_wp2
   go_ret
   exact ⟨Xac Hn.out.symm,hb⟩
def RetT (I:IH) (w:World) (s:Stt) (n:Int) (e:Ending) (w':World):Prop:=
 ∃vt vh I',e= .returned (.tuple #[sttV vt vh,.int .i64 n])∧Below w.heap.size w w'∧Ext w.heap.size I I'∧Ok I' w'∧RdS tEnt I' vt s.tree∧RdS tHo I' vh s.holds
theorem Xs0 {s:Stt} {e:Ent} {d:Int} (h:(applyT s.tree e).2≠0):stpP s e d=(s,(applyT s.tree e).2):=by rw [stpP,if_pos h]
set_option maxRecDepth 100000 in
set_option maxHeartbeats 2000000 in
theorem Xlm (I:IH) (hI:Glob I) (s:Stt) (vt vh:Value) (hvt:RdS tEnt I vt s.tree) (hvh:RdS tHo I vh s.holds) (hs:SmlT s.tree) (hsr:SrtT s.tree) (hn:s.tree.length≤100000) (e:Ent) (va vx:Value) (hva:RdS tAt I va e.attrs) (hvx:RdS tXt I vx e.exts) (hwf:e.Wf) (hpl:e.path.length≤4294967280) (htl:e.target.length≤4294967280) (d:Int) (h:(applyT s.tree e).2≠0) (w:World) (hw:Ok I w):
 Calls Tryz.prog 32 #[sttV vt vh,entV e va vx,.int .i64 d] w (RetT I w (stpP s e d).1 (stpP s e d).2):=by
 have Ha:=Qh (fun w hw=>Xon I hI vt s.tree hvt hs hsr hn e va vx hva hvx hwf hpl htl w hw)
 rw [Xs0 h]
 have Hvt:=Qh hvt
 have Hvh:=Qh hvh
 obtain ⟨at',ct,rfl,_,_,_⟩:=id hvt
 obtain ⟨ah,ch,rfl,_,_,_⟩:=id hvh
 obtain ⟨aa,ca,rfl,_,_,_⟩:=id hva
 obtain ⟨ax,cx,rfl,_,_,_⟩:=id hvx
 obtain ⟨t2,n,hx⟩:∃t2 n,applyT s.tree e=(t2,n):=⟨_,_,rfl⟩
 rw [hx] at Ha h ⊢
 have hn0:(n != 0)=true:=by simpa using h
 clear hvt hvh hva hvx h hx
 have hok2:Ok I (((w.alloc (.cells #[.slice at' s.tree.length ct,.slice ah s.holds.length ch] 64)).alloc (.cells #[.int .i64 e.kind,S e.path,.slice aa e.attrs.length ca,S e.target,.int .i64 e.size,S e.digest,.slice ax e.exts.length cx] 39)).alloc (.cells #[.slice none 0 0,.slice none 0 0] 64)):=((hw.alloc _).alloc _).alloc _
 go_enter Tryz.func32,Tryz.ntmps32
 go_wp2_with fail
 refine (Ha.out _ hok2).mono ?_
 rintro e1 w1 ⟨v2,I1,rfl,hb1,hx1,hok1,hr2⟩
 obtain ⟨a2,c2',rfl,_,_,_⟩:=id hr2
 have s0:w1.cell? ⟨w.heap.size,0,none⟩=some (.slice at' s.tree.length ct):=Xaa hb1 (Xab _ (Xab _ (by simp)))
 have s1:w1.cell? ⟨w.heap.size,1,none⟩=some (.slice ah s.holds.length ch):=Xaa hb1 (Xab _ (Xab _ (by simp)))
 have hrow:w1.heap[w.heap.size+1+1]? =some (.cells #[.slice none 0 0,.slice none 0 0] 64 (0,0)):=(hb1.block _ (by simp)).trans (by have:=heap_alloc_new ((w.alloc (.cells #[.slice at' s.tree.length ct,.slice ah s.holds.length ch] 64)).alloc (.cells #[.int .i64 e.kind,S e.path,.slice aa e.attrs.length ca,S e.target,.int .i64 e.size,S e.digest,.slice ax e.exts.length cx] 39)) (.cells #[.slice none 0 0,.slice none 0 0] 64);simpa using this)
 have r0:w1.cell? ⟨w.heap.size+1+1,0,none⟩=some (.slice none 0 0):=(cell_of_row w1 _ 0 _ _ _ hrow).trans rfl
 have r1:w1.cell? ⟨w.heap.size+1+1,1,none⟩=some (.slice none 0 0):=(cell_of_row w1 _ 1 _ _ _ hrow).trans rfl
 have f0:=frozen_of_row w1 _ 0 _ _ hrow
 have f1:=frozen_of_row w1 _ 1 _ _ hrow
 have hb1':Below w.heap.size w w1:=((((Qb w.heap.size w).alloc (Qn _) (.cells #[.slice at' s.tree.length ct,.slice ah s.holds.length ch] 64)).alloc (by simp) (.cells #[.int .i64 e.kind,S e.path,.slice aa e.attrs.length ca,S e.target,.int .i64 e.size,S e.digest,.slice ax e.exts.length cx] 39)).alloc (by simp;omega) (.cells #[.slice none 0 0,.slice none 0 0] 64)).trans (hb1.mono (by simp;omega))
 clear hr2 hb1 hok2 Ha
 have hi2:(Tryz.prog.info? 64).map (·.size)=some 2:=by kernel_rfl
 have Hi2:=Qh hi2
 have Hrow:=Qh hrow
 have hokw:Ok I w1:=hw.below (Qn _) hb1'
 have hfr:I (w.heap.size+1+1)=none:=hw.fresh (by omega)
 clear hi2 hrow
 go_wp2
 have hW:=heap_setCell_same _ (w.heap.size+1+1) 1 _ _ (.slice ah s.holds.length ch) (heap_setCell_same w1 (w.heap.size+1+1) 0 _ _ (.slice at' s.tree.length ct) Hrow.out)
 refine bodyPost_ret (v:= .tuple #[sttV (.slice at' s.tree.length ct) (.slice ah s.holds.length ch),.int .i64 n]) ?_ rfl ?_
 ·rw [results_cell_tmp rfl]
  simp [asAddr,run_loadVar_row _ (w.heap.size+1+1) 64 64 #[.slice at' s.tree.length ct,.slice ah s.holds.length ch] (0,0) _ hW Tryz.underlying64 rfl Hi2.out]
 ·exact ⟨_,_,I,rfl,(hb1'.setCell (by simp;omega) _).setCell (by simp;omega) _,Ext.refl _ _,(hokw.setCell hfr _).setCell hfr _,Hvt.out,Hvh.out⟩
end Go.Proofs.YtdeknddamidldaaGreatDoor
