/-
  Walks and laws that the claim's theorem uses: texts StA AfA, joined; comments out. Conditions: as each theorem says.
-/
import Derived.Test.YtdeknddamidldaaGreatDoorQ30
namespace Go.Proofs.YtdeknddamidldaaGreatDoor
open Go.RowKit
structure ApR (n:Nat) (W:World) (vt vh:Value) (e:Ent) (va vx:Value):Prop where
 s0:W.cell? ⟨n,0,none⟩=some vt
 s1:W.cell? ⟨n,1,none⟩=some vh
 eb:EntB W (n+1) e va vx
 row:W.heap[n+1+1]? =some (.cells #[.slice none 0 0,.slice none 0 0] 69 (0,0))
theorem ApR.thru {n:Nat} {W W':World} {vt vh:Value} {e:Ent} {va vx:Value} (h:ApR n W vt vh e va vx) (hb:Below W.heap.size W W'):ApR n W' vt vh e va vx:=
 ⟨Xaa hb h.s0,Xaa hb h.s1,h.eb.thru hb,(hb.block _ (Array.getElem?_eq_some_iff.1 h.row).1).trans h.row⟩
theorem ApR.past {n:Nat} {W:World} {vt vh:Value} {e:Ent} {va vx:Value} (h:ApR n W vt vh e va vx) (o:Obj):ApR n (W.alloc o) vt vh e va vx:=h.thru ((Qb _ _).alloc (Qn _) o)
set_option maxRecDepth 100000 in
set_option maxHeartbeats 4000000 in
theorem Xa5 (I:IH) (s:Stt) (vt vh:Value) (hvt:RdS tEnt I vt s.tree) (hvh:RdS tHo I vh s.holds) (hs:SmlT s.tree) (hn:s.tree.length≤100000) (hk:HOk s.holds) (hnh:s.holds.length≤100000) (e:Ent) (va vx:Value) (hva:RdS tAt I va e.attrs) (hvx:RdS tXt I vx e.exts) (hwf:e.Wf) (hpl:e.path.length≤4294967280) (hxl:e.exts.length≤1000000) (d:Int) (w:World) (hw:Ok I w):
 Calls Tryz.prog 35 #[sttV vt vh,entV e va vx,.int .i64 d] w (RetT I w (stpP s e d).1 (stpP s e d).2):=by
 have Ha:=Qh (fun w hw=>Xm5 I vt s.tree hvt hs hn e va vx hva hvx hwf hpl hxl w hw)
 have Hvt:=Qh hvt
 have Hvh:=Qh hvh
 have Hva:=Qh hva
 have Hvx:=Qh hvx
 have Hap0:=Qh (fun (he:entErr e=0) I v va vx hv hva hvx w hw=>Xm4 I v s.holds hv hk hnh e va vx hva hvx he d w hw)
 obtain ⟨at',ct,rfl,_,_,_⟩:=id hvt
 obtain ⟨ah,ch,rfl,_,_,_⟩:=id hvh
 obtain ⟨aa,ca,rfl,_,_,_⟩:=id hva
 obtain ⟨ax,cx,rfl,_,_,_⟩:=id hvx
 have hi2:(Tryz.prog.info? 69).map (·.size)=some 2:=by kernel_rfl
 have Hi2:=Qh hi2
 obtain ⟨t2,n,hx⟩:∃t2 n,applyT s.tree e=(t2,n):=⟨_,_,rfl⟩
 by_cases h:n=0
 case neg=>
  have Hn:=Qh (show stpP s e d=(s,n) by rw [stpP,hx,if_pos h])
  rw [hx] at Ha
  have hn0:(n != 0)=true:=by simpa using h
  clear hvt hvh hva hvx hi2 hx hk h hs hn hwf Hap0
  go_enter Tryz.func35,Tryz.ntmps35
  go_wp2_with fail
  refine (Ha.out _ (((hw.alloc _).alloc _).alloc _)).mono ?_
  rintro e1 w1 ⟨v2,I1,rfl,hb1,hx1,hok1,hr2⟩
  have hrow:w1.heap[w.heap.size+1+1]? =some (.cells #[.slice none 0 0,.slice none 0 0] 69 (0,0)):=(hb1.block _ (by simp)).trans (by have:=heap_alloc_new ((w.alloc (.cells #[.slice at' s.tree.length ct,.slice ah s.holds.length ch] 69)).alloc (.cells #[.int .i64 e.kind,S e.path,.slice aa e.attrs.length ca,S e.target,.int .i64 e.size,S e.digest,.slice ax e.exts.length cx] 39)) (.cells #[.slice none 0 0,.slice none 0 0] 69);simpa using this)
  have heb:EntB ((w.alloc (.cells #[.slice at' s.tree.length ct,.slice ah s.holds.length ch] 69)).alloc (.cells #[.int .i64 e.kind,S e.path,.slice aa e.attrs.length ca,S e.target,.int .i64 e.size,S e.digest,.slice ax e.exts.length cx] 39)) (w.heap.size+1) e (.slice aa e.attrs.length ca) (.slice ax e.exts.length cx):=entB (by simp) (Qb _ _)
  have AW1:=Qh (ApR.mk (Xaa hb1 (Xab _ (Xab _ (by simp)))) (Xaa hb1 (Xab _ (Xab _ (by simp)))) ((heb.past _).thru hb1) hrow:ApR w.heap.size w1 (.slice at' s.tree.length ct) (.slice ah s.holds.length ch) e (.slice aa e.attrs.length ca) (.slice ax e.exts.length cx))
  have hb1':Below w.heap.size w w1:=((((Qb w.heap.size w).alloc (Qn _) (.cells #[.slice at' s.tree.length ct,.slice ah s.holds.length ch] 69)).alloc (by simp) (.cells #[.int .i64 e.kind,S e.path,.slice aa e.attrs.length ca,S e.target,.int .i64 e.size,S e.digest,.slice ax e.exts.length cx] 39)).alloc (by simp;omega) (.cells #[.slice none 0 0,.slice none 0 0] 69)).trans (hb1.mono (by simp;omega))
  have hx1':Ext (w.heap.size+1+1+1) I I1:=hx1.mono (by simp)
  have hkp:=(hx1'.mono (show w.heap.size≤_ by omega)).keep hw (Qn _)
  have Hx1:=Qh hx1'
  have Hr2:=Qh hr2
  have Hvt1:=Qh (Hvt.out.mono hkp)
  have Hvh1:=Qh (Hvh.out.mono hkp)
  have Hva1:=Qh (Hva.out.mono hkp)
  have Hvx1:=Qh (Hvx.out.mono hkp)
  obtain ⟨a2,c2',rfl,_,_,_⟩:=id hr2
  clear hb1 hrow heb hx1 hx1' hkp hr2 Ha
  obtain ⟨s0,s1,⟨c0,c1,c2,c3,c4,c5,c6⟩,_⟩:=AW1.out
  have r0:w1.cell? ⟨w.heap.size+1+1,0,none⟩=some (.slice none 0 0):=(cell_of_row w1 _ 0 _ _ _ AW1.out.row).trans rfl
  have r1:w1.cell? ⟨w.heap.size+1+1,1,none⟩=some (.slice none 0 0):=(cell_of_row w1 _ 1 _ _ _ AW1.out.row).trans rfl
  have f0:=frozen_of_row w1 _ 0 _ _ AW1.out.row
  have f1:=frozen_of_row w1 _ 1 _ _ AW1.out.row
  go_wp2
  have hW:=heap_setCell_same _ (w.heap.size+1+1) 1 _ _ (.slice ah s.holds.length ch) (heap_setCell_same w1 (w.heap.size+1+1) 0 _ _ (.slice at' s.tree.length ct) AW1.out.row)
  refine bodyPost_ret (v:= .tuple #[sttV (.slice at' s.tree.length ct) (.slice ah s.holds.length ch),.int .i64 n]) ?_ rfl ?_
  ·rw [results_cell_tmp rfl]
   simp [asAddr,run_loadVar_row _ (w.heap.size+1+1) 69 69 #[(.slice at' s.tree.length ct),(.slice ah s.holds.length ch)] (0,0) _ hW Tryz.underlying69 rfl Hi2.out]
  ·rw [Hn.out]
   have hfr:I1 (w.heap.size+1+1)=none:=(Hx1.out _ (by omega)).trans (hw.fresh (by omega))
   exact ⟨_,_,I1,rfl,(hb1'.setCell (by simp;omega) _).setCell (by simp;omega) _,Ext.mono Hx1.out (by omega),(Ok.setCell hok1 hfr _).setCell hfr _,Hvt1.out,Hvh1.out⟩
 subst h
 have he:entErr e=0:=(applyT_iff.1 (Xcl (by rw [hx]))).1.ent
 have Hap:=Qh (Hap0.out he)
 obtain ⟨h2,m,hah⟩:∃h2 m,appH s.holds e d=(h2,m):=⟨_,_,rfl⟩
 obtain ⟨al,hal⟩:∃al,alwP s.holds e.kind e.path d=al:=⟨_,rfl⟩
 obtain ⟨gx,hb,hge⟩:∃gx hb,getE s.tree e.path=(gx,hb):=⟨_,_,rfl⟩
 have hgt:(getT s.tree e.path).isSome=hb:=by rw [←Xc9,hge]
 have hst:stpP s e d=if askP s e d≠0 then (s,askP s e d) else if m≠0 then (s,m) else (⟨t2,h2⟩,0):=by
  rw [stpP,if_neg (by rw [hx];simp),hah,hx]
 have hask0:askP s e d=if 3<e.kind∨hb=true then al else 0:=by rw [askP,hgt,hal]
 rw [hx] at Ha
 rw [hah] at Hap
 have Hge:=Qh hge
 have Hal:=Qh hal
 clear hvt hvh hva hvx hi2 hx hah hge hal hgt hk hs hn hwf he Hap0
 cases hb
 case true=>
  have hask:askP s e d=al:=by rw [hask0,if_pos (.inr rfl)]
  clear hask0
  by_cases ha:al=0
  ·have HnewN:=Qh (fun (hm:m=0)=>show stpP s e d=(⟨t2,h2⟩,0) by rw [hst,hask,if_neg (show ¬(al≠0) by omega),if_neg (show ¬(m≠0) by omega)])
   have HnewE:=Qh (fun (hm:¬m=0)=>show stpP s e d=(s,m) by rw [hst,hask,if_neg (show ¬(al≠0) by omega),if_pos hm])
   subst ha
   clear hst hask
   go_enter Tryz.func35,Tryz.ntmps35
   go_wp2_with fail
   refine (Ha.out _ (((hw.alloc _).alloc _).alloc _)).mono ?_
   rintro e1 w1 ⟨v2,I1,rfl,hb1,hx1,hok1,hr2⟩
   have hrow:w1.heap[w.heap.size+1+1]? =some (.cells #[.slice none 0 0,.slice none 0 0] 69 (0,0)):=(hb1.block _ (by simp)).trans (by have:=heap_alloc_new ((w.alloc (.cells #[.slice at' s.tree.length ct,.slice ah s.holds.length ch] 69)).alloc (.cells #[.int .i64 e.kind,S e.path,.slice aa e.attrs.length ca,S e.target,.int .i64 e.size,S e.digest,.slice ax e.exts.length cx] 39)) (.cells #[.slice none 0 0,.slice none 0 0] 69);simpa using this)
   have heb:EntB ((w.alloc (.cells #[.slice at' s.tree.length ct,.slice ah s.holds.length ch] 69)).alloc (.cells #[.int .i64 e.kind,S e.path,.slice aa e.attrs.length ca,S e.target,.int .i64 e.size,S e.digest,.slice ax e.exts.length cx] 39)) (w.heap.size+1) e (.slice aa e.attrs.length ca) (.slice ax e.exts.length cx):=entB (by simp) (Qb _ _)
   have AW1:=Qh (ApR.mk (Xaa hb1 (Xab _ (Xab _ (by simp)))) (Xaa hb1 (Xab _ (Xab _ (by simp)))) ((heb.past _).thru hb1) hrow:ApR w.heap.size w1 (.slice at' s.tree.length ct) (.slice ah s.holds.length ch) e (.slice aa e.attrs.length ca) (.slice ax e.exts.length cx))
   have hb1':Below w.heap.size w w1:=((((Qb w.heap.size w).alloc (Qn _) (.cells #[.slice at' s.tree.length ct,.slice ah s.holds.length ch] 69)).alloc (by simp) (.cells #[.int .i64 e.kind,S e.path,.slice aa e.attrs.length ca,S e.target,.int .i64 e.size,S e.digest,.slice ax e.exts.length cx] 39)).alloc (by simp;omega) (.cells #[.slice none 0 0,.slice none 0 0] 69)).trans (hb1.mono (by simp;omega))
   have hx1':Ext (w.heap.size+1+1+1) I I1:=hx1.mono (by simp)
   have hkp:=(hx1'.mono (show w.heap.size≤_ by omega)).keep hw (Qn _)
   have Hx1:=Qh hx1'
   have Hr2:=Qh hr2
   have Hvt1:=Qh (Hvt.out.mono hkp)
   have Hvh1:=Qh (Hvh.out.mono hkp)
   have Hva1:=Qh (Hva.out.mono hkp)
   have Hvx1:=Qh (Hvx.out.mono hkp)
   obtain ⟨a2,c2',rfl,_,_,_⟩:=id hr2
   clear hb1 hrow heb hx1 hx1' hkp hr2 Ha
   obtain ⟨s0,s1,⟨c0,c1,c2,c3,c4,c5,c6⟩,_⟩:=AW1.out
   go_wp2_with fail
   refine (Xbz I1 _ s.tree Hvt1.out e.path w1 hok1).mono ?_
   rw [Hge.out]
   rintro e2 w2 ⟨ga,gv,rfl,hg1,hg2,hb2⟩
   obtain ⟨oa,oc,rfl,_,_,_⟩:=id hg1
   obtain ⟨ox,od,rfl,_,_,_⟩:=id hg2
   have hb2':=hb1'.trans (hb2.mono hb1'.size)
   have hb3':=hb2'.alloc hb2'.size (.cells #[.int .i64 gx.kind,S gx.path,.slice oa gx.attrs.length oc,S gx.target,.int .i64 gx.size,S gx.digest,.slice ox gx.exts.length od] 39)
   have hok3:Ok I1 (w2.alloc (.cells #[.int .i64 gx.kind,S gx.path,.slice oa gx.attrs.length oc,S gx.target,.int .i64 gx.size,S gx.digest,.slice ox gx.exts.length od] 39)):=(hok1.below (Qn _) hb2).alloc _
   have AW3:=Qh ((AW1.out.thru hb2).past (.cells #[.int .i64 gx.kind,S gx.path,.slice oa gx.attrs.length oc,S gx.target,.int .i64 gx.size,S gx.digest,.slice ox gx.exts.length od] 39))
   clear hb2 hb1' hb2' AW1 hok1 s0 s1 c0 c1 c2 c3 c4 c5 c6 hg1 hg2
   obtain ⟨s0,s1,⟨c0,c1,c2,c3,c4,c5,c6⟩,_⟩:=AW3.out
   obtain ⟨w3,hw3⟩:∃w3,w2.alloc (.cells #[.int .i64 gx.kind,S gx.path,.slice oa gx.attrs.length oc,S gx.target,.int .i64 gx.size,S gx.digest,.slice ox gx.exts.length od] 39)=w3:=⟨_,rfl⟩
   rw [hw3] at hok3 AW3 hb3' s0 s1 c0 c1 c2 c3 c4 c5 c6
   go_wp2_with fail
   refine (Xb3 I1 _ s.holds Hvh1.out hnh e _ _ Hva1.out Hvx1.out d w3 hok3).mono ?_
   rintro e4 w4 ⟨rfl,hb4⟩
   rw [Hal.out]
   have hok4:Ok I1 w4:=hok3.below (Qn _) hb4
   have AW4:=Qh (AW3.out.thru hb4)
   have hb4':=hb3'.trans (hb4.mono hb3'.size)
   clear hb4 hb3' AW3 hok3 hw3 s0 s1 c0 c1 c2 c3 c4 c5 c6
   obtain ⟨s0,s1,⟨c0,c1,c2,c3,c4,c5,c6⟩,_⟩:=AW4.out
   by_cases hm:m=0
   ·have Hn:=Qh (HnewN.out hm)
    subst hm
    go_wp2_with fail
    refine (Hap.out I1 _ _ _ Hvh1.out Hva1.out Hvx1.out w4 hok4).mono ?_
    rintro e5 w5 ⟨vh2,I2,rfl,hb5,hx2,hok5,hr3⟩
    obtain ⟨a3,c3',rfl,_,_,_⟩:=id hr3
    have Hr3:=Qh hr3
    have AW5:=Qh (AW4.out.thru hb5)
    have Hx2:=Qh (Hx1.out.trans hx2 (by have:=(Array.getElem?_eq_some_iff.1 AW4.out.row).1;omega))
    have Hkp2:=Qh (hx2.keep hok4 (Qn _))
    have hb5':=hb4'.trans (hb5.mono hb4'.size)
    clear hb5 hb4' AW4 hok4 s0 s1 c0 c1 c2 c3 c4 c5 c6 hr3 hx2
    obtain ⟨s0,s1,⟨c0,c1,c2,c3,c4,c5,c6⟩,_⟩:=AW5.out
    have r0:w5.cell? ⟨w.heap.size+1+1,0,none⟩=some (.slice none 0 0):=(cell_of_row w5 _ 0 _ _ _ AW5.out.row).trans rfl
    have r1:w5.cell? ⟨w.heap.size+1+1,1,none⟩=some (.slice none 0 0):=(cell_of_row w5 _ 1 _ _ _ AW5.out.row).trans rfl
    have f0:=frozen_of_row w5 _ 0 _ _ AW5.out.row
    have f1:=frozen_of_row w5 _ 1 _ _ AW5.out.row
    go_wp2
    have hW:=heap_setCell_same _ (w.heap.size+1+1) 1 _ _ (.slice a3 h2.length c3') (heap_setCell_same w5 (w.heap.size+1+1) 0 _ _ (.slice a2 t2.length c2') AW5.out.row)
    refine bodyPost_ret (v:= .tuple #[sttV (.slice a2 t2.length c2') (.slice a3 h2.length c3'),.int .i64 0]) ?_ rfl ?_
    ·rw [results_cell_tmp rfl]
     simp [asAddr,run_loadVar_row _ (w.heap.size+1+1) 69 69 #[(.slice a2 t2.length c2'),(.slice a3 h2.length c3')] (0,0) _ hW Tryz.underlying69 rfl Hi2.out]
    ·rw [Hn.out]
     have hfr:I2 (w.heap.size+1+1)=none:=(Hx2.out _ (by omega)).trans (hw.fresh (by omega))
     exact ⟨_,_,I2,rfl,(hb5'.setCell (by simp;omega) _).setCell (by simp;omega) _,Ext.mono Hx2.out (by omega),(Ok.setCell hok5 hfr _).setCell hfr _,(Hr2.out.mono Hkp2.out),Hr3.out⟩
   ·have Hn:=Qh (HnewE.out hm)
    have hm0:(m != 0)=true:=by simpa using hm
    clear hm
    go_wp2_with fail
    refine (Hap.out I1 _ _ _ Hvh1.out Hva1.out Hvx1.out w4 hok4).mono ?_
    rintro e5 w5 ⟨vh2,I2,rfl,hb5,hx2,hok5,hr3⟩
    obtain ⟨a3,c3',rfl,_,_,_⟩:=id hr3
    have Hr3:=Qh hr3
    have AW5:=Qh (AW4.out.thru hb5)
    have Hx2:=Qh (Hx1.out.trans hx2 (by have:=(Array.getElem?_eq_some_iff.1 AW4.out.row).1;omega))
    have Hkp2:=Qh (hx2.keep hok4 (Qn _))
    have hb5':=hb4'.trans (hb5.mono hb4'.size)
    clear hb5 hb4' AW4 hok4 s0 s1 c0 c1 c2 c3 c4 c5 c6 hr3 hx2
    obtain ⟨s0,s1,⟨c0,c1,c2,c3,c4,c5,c6⟩,_⟩:=AW5.out
    have r0:w5.cell? ⟨w.heap.size+1+1,0,none⟩=some (.slice none 0 0):=(cell_of_row w5 _ 0 _ _ _ AW5.out.row).trans rfl
    have r1:w5.cell? ⟨w.heap.size+1+1,1,none⟩=some (.slice none 0 0):=(cell_of_row w5 _ 1 _ _ _ AW5.out.row).trans rfl
    have f0:=frozen_of_row w5 _ 0 _ _ AW5.out.row
    have f1:=frozen_of_row w5 _ 1 _ _ AW5.out.row
    go_wp2
    have hW:=heap_setCell_same _ (w.heap.size+1+1) 1 _ _ (.slice ah s.holds.length ch) (heap_setCell_same w5 (w.heap.size+1+1) 0 _ _ (.slice at' s.tree.length ct) AW5.out.row)
    refine bodyPost_ret (v:= .tuple #[sttV (.slice at' s.tree.length ct) (.slice ah s.holds.length ch),.int .i64 m]) ?_ rfl ?_
    ·rw [results_cell_tmp rfl]
     simp [asAddr,run_loadVar_row _ (w.heap.size+1+1) 69 69 #[(.slice at' s.tree.length ct),(.slice ah s.holds.length ch)] (0,0) _ hW Tryz.underlying69 rfl Hi2.out]
    ·rw [Hn.out]
     have hfr:I2 (w.heap.size+1+1)=none:=(Hx2.out _ (by omega)).trans (hw.fresh (by omega))
     exact ⟨_,_,I2,rfl,(hb5'.setCell (by simp;omega) _).setCell (by simp;omega) _,Ext.mono Hx2.out (by omega),(Ok.setCell hok5 hfr _).setCell hfr _,(Hvt1.out.mono Hkp2.out),(Hvh1.out.mono Hkp2.out)⟩
  ·have Hn:=Qh (show stpP s e d=(s,al) by rw [hst,hask,if_pos ha])
   have ha0:(al != 0)=true:=by simpa using ha
   clear hst hask ha Hap
   go_enter Tryz.func35,Tryz.ntmps35
   go_wp2_with fail
   refine (Ha.out _ (((hw.alloc _).alloc _).alloc _)).mono ?_
   rintro e1 w1 ⟨v2,I1,rfl,hb1,hx1,hok1,hr2⟩
   have hrow:w1.heap[w.heap.size+1+1]? =some (.cells #[.slice none 0 0,.slice none 0 0] 69 (0,0)):=(hb1.block _ (by simp)).trans (by have:=heap_alloc_new ((w.alloc (.cells #[.slice at' s.tree.length ct,.slice ah s.holds.length ch] 69)).alloc (.cells #[.int .i64 e.kind,S e.path,.slice aa e.attrs.length ca,S e.target,.int .i64 e.size,S e.digest,.slice ax e.exts.length cx] 39)) (.cells #[.slice none 0 0,.slice none 0 0] 69);simpa using this)
   have heb:EntB ((w.alloc (.cells #[.slice at' s.tree.length ct,.slice ah s.holds.length ch] 69)).alloc (.cells #[.int .i64 e.kind,S e.path,.slice aa e.attrs.length ca,S e.target,.int .i64 e.size,S e.digest,.slice ax e.exts.length cx] 39)) (w.heap.size+1) e (.slice aa e.attrs.length ca) (.slice ax e.exts.length cx):=entB (by simp) (Qb _ _)
   have AW1:=Qh (ApR.mk (Xaa hb1 (Xab _ (Xab _ (by simp)))) (Xaa hb1 (Xab _ (Xab _ (by simp)))) ((heb.past _).thru hb1) hrow:ApR w.heap.size w1 (.slice at' s.tree.length ct) (.slice ah s.holds.length ch) e (.slice aa e.attrs.length ca) (.slice ax e.exts.length cx))
   have hb1':Below w.heap.size w w1:=((((Qb w.heap.size w).alloc (Qn _) (.cells #[.slice at' s.tree.length ct,.slice ah s.holds.length ch] 69)).alloc (by simp) (.cells #[.int .i64 e.kind,S e.path,.slice aa e.attrs.length ca,S e.target,.int .i64 e.size,S e.digest,.slice ax e.exts.length cx] 39)).alloc (by simp;omega) (.cells #[.slice none 0 0,.slice none 0 0] 69)).trans (hb1.mono (by simp;omega))
   have hx1':Ext (w.heap.size+1+1+1) I I1:=hx1.mono (by simp)
   have hkp:=(hx1'.mono (show w.heap.size≤_ by omega)).keep hw (Qn _)
   have Hx1:=Qh hx1'
   have Hr2:=Qh hr2
   have Hvt1:=Qh (Hvt.out.mono hkp)
   have Hvh1:=Qh (Hvh.out.mono hkp)
   have Hva1:=Qh (Hva.out.mono hkp)
   have Hvx1:=Qh (Hvx.out.mono hkp)
   obtain ⟨a2,c2',rfl,_,_,_⟩:=id hr2
   clear hb1 hrow heb hx1 hx1' hkp hr2 Ha
   obtain ⟨s0,s1,⟨c0,c1,c2,c3,c4,c5,c6⟩,_⟩:=AW1.out
   go_wp2_with fail
   refine (Xbz I1 _ s.tree Hvt1.out e.path w1 hok1).mono ?_
   rw [Hge.out]
   rintro e2 w2 ⟨ga,gv,rfl,hg1,hg2,hb2⟩
   obtain ⟨oa,oc,rfl,_,_,_⟩:=id hg1
   obtain ⟨ox,od,rfl,_,_,_⟩:=id hg2
   have hb2':=hb1'.trans (hb2.mono hb1'.size)
   have hb3':=hb2'.alloc hb2'.size (.cells #[.int .i64 gx.kind,S gx.path,.slice oa gx.attrs.length oc,S gx.target,.int .i64 gx.size,S gx.digest,.slice ox gx.exts.length od] 39)
   have hok3:Ok I1 (w2.alloc (.cells #[.int .i64 gx.kind,S gx.path,.slice oa gx.attrs.length oc,S gx.target,.int .i64 gx.size,S gx.digest,.slice ox gx.exts.length od] 39)):=(hok1.below (Qn _) hb2).alloc _
   have AW3:=Qh ((AW1.out.thru hb2).past (.cells #[.int .i64 gx.kind,S gx.path,.slice oa gx.attrs.length oc,S gx.target,.int .i64 gx.size,S gx.digest,.slice ox gx.exts.length od] 39))
   clear hb2 hb1' hb2' AW1 hok1 s0 s1 c0 c1 c2 c3 c4 c5 c6 hg1 hg2
   obtain ⟨s0,s1,⟨c0,c1,c2,c3,c4,c5,c6⟩,_⟩:=AW3.out
   obtain ⟨w3,hw3⟩:∃w3,w2.alloc (.cells #[.int .i64 gx.kind,S gx.path,.slice oa gx.attrs.length oc,S gx.target,.int .i64 gx.size,S gx.digest,.slice ox gx.exts.length od] 39)=w3:=⟨_,rfl⟩
   rw [hw3] at hok3 AW3 hb3' s0 s1 c0 c1 c2 c3 c4 c5 c6
   go_wp2_with fail
   refine (Xb3 I1 _ s.holds Hvh1.out hnh e _ _ Hva1.out Hvx1.out d w3 hok3).mono ?_
   rintro e4 w4 ⟨rfl,hb4⟩
   rw [Hal.out]
   have hok4:Ok I1 w4:=hok3.below (Qn _) hb4
   have AW4:=Qh (AW3.out.thru hb4)
   have hb4':=hb3'.trans (hb4.mono hb3'.size)
   clear hb4 hb3' AW3 hok3 hw3 s0 s1 c0 c1 c2 c3 c4 c5 c6
   obtain ⟨s0,s1,⟨c0,c1,c2,c3,c4,c5,c6⟩,_⟩:=AW4.out
   have r0:w4.cell? ⟨w.heap.size+1+1,0,none⟩=some (.slice none 0 0):=(cell_of_row w4 _ 0 _ _ _ AW4.out.row).trans rfl
   have r1:w4.cell? ⟨w.heap.size+1+1,1,none⟩=some (.slice none 0 0):=(cell_of_row w4 _ 1 _ _ _ AW4.out.row).trans rfl
   have f0:=frozen_of_row w4 _ 0 _ _ AW4.out.row
   have f1:=frozen_of_row w4 _ 1 _ _ AW4.out.row
   go_wp2
   have hW:=heap_setCell_same _ (w.heap.size+1+1) 1 _ _ (.slice ah s.holds.length ch) (heap_setCell_same w4 (w.heap.size+1+1) 0 _ _ (.slice at' s.tree.length ct) AW4.out.row)
   refine bodyPost_ret (v:= .tuple #[sttV (.slice at' s.tree.length ct) (.slice ah s.holds.length ch),.int .i64 al]) ?_ rfl ?_
   ·rw [results_cell_tmp rfl]
    simp [asAddr,run_loadVar_row _ (w.heap.size+1+1) 69 69 #[(.slice at' s.tree.length ct),(.slice ah s.holds.length ch)] (0,0) _ hW Tryz.underlying69 rfl Hi2.out]
   ·rw [Hn.out]
    have hfr:I1 (w.heap.size+1+1)=none:=(Hx1.out _ (by omega)).trans (hw.fresh (by omega))
    exact ⟨_,_,I1,rfl,(hb4'.setCell (by simp;omega) _).setCell (by simp;omega) _,Ext.mono Hx1.out (by omega),(Ok.setCell hok4 hfr _).setCell hfr _,Hvt1.out,Hvh1.out⟩
 case false=>
  by_cases hk3:3<e.kind
  ·have hask:askP s e d=al:=by rw [hask0,if_pos (.inl hk3)]
   have d3:decide (3<e.kind)=true:=Qt hk3
   clear hask0 hk3
   by_cases ha:al=0
   ·have HnewN:=Qh (fun (hm:m=0)=>show stpP s e d=(⟨t2,h2⟩,0) by rw [hst,hask,if_neg (show ¬(al≠0) by omega),if_neg (show ¬(m≠0) by omega)])
    have HnewE:=Qh (fun (hm:¬m=0)=>show stpP s e d=(s,m) by rw [hst,hask,if_neg (show ¬(al≠0) by omega),if_pos hm])
    subst ha
    clear hst hask
    go_enter Tryz.func35,Tryz.ntmps35
    go_wp2_with fail
    refine (Ha.out _ (((hw.alloc _).alloc _).alloc _)).mono ?_
    rintro e1 w1 ⟨v2,I1,rfl,hb1,hx1,hok1,hr2⟩
    have hrow:w1.heap[w.heap.size+1+1]? =some (.cells #[.slice none 0 0,.slice none 0 0] 69 (0,0)):=(hb1.block _ (by simp)).trans (by have:=heap_alloc_new ((w.alloc (.cells #[.slice at' s.tree.length ct,.slice ah s.holds.length ch] 69)).alloc (.cells #[.int .i64 e.kind,S e.path,.slice aa e.attrs.length ca,S e.target,.int .i64 e.size,S e.digest,.slice ax e.exts.length cx] 39)) (.cells #[.slice none 0 0,.slice none 0 0] 69);simpa using this)
    have heb:EntB ((w.alloc (.cells #[.slice at' s.tree.length ct,.slice ah s.holds.length ch] 69)).alloc (.cells #[.int .i64 e.kind,S e.path,.slice aa e.attrs.length ca,S e.target,.int .i64 e.size,S e.digest,.slice ax e.exts.length cx] 39)) (w.heap.size+1) e (.slice aa e.attrs.length ca) (.slice ax e.exts.length cx):=entB (by simp) (Qb _ _)
    have AW1:=Qh (ApR.mk (Xaa hb1 (Xab _ (Xab _ (by simp)))) (Xaa hb1 (Xab _ (Xab _ (by simp)))) ((heb.past _).thru hb1) hrow:ApR w.heap.size w1 (.slice at' s.tree.length ct) (.slice ah s.holds.length ch) e (.slice aa e.attrs.length ca) (.slice ax e.exts.length cx))
    have hb1':Below w.heap.size w w1:=((((Qb w.heap.size w).alloc (Qn _) (.cells #[.slice at' s.tree.length ct,.slice ah s.holds.length ch] 69)).alloc (by simp) (.cells #[.int .i64 e.kind,S e.path,.slice aa e.attrs.length ca,S e.target,.int .i64 e.size,S e.digest,.slice ax e.exts.length cx] 39)).alloc (by simp;omega) (.cells #[.slice none 0 0,.slice none 0 0] 69)).trans (hb1.mono (by simp;omega))
    have hx1':Ext (w.heap.size+1+1+1) I I1:=hx1.mono (by simp)
    have hkp:=(hx1'.mono (show w.heap.size≤_ by omega)).keep hw (Qn _)
    have Hx1:=Qh hx1'
    have Hr2:=Qh hr2
    have Hvt1:=Qh (Hvt.out.mono hkp)
    have Hvh1:=Qh (Hvh.out.mono hkp)
    have Hva1:=Qh (Hva.out.mono hkp)
    have Hvx1:=Qh (Hvx.out.mono hkp)
    obtain ⟨a2,c2',rfl,_,_,_⟩:=id hr2
    clear hb1 hrow heb hx1 hx1' hkp hr2 Ha
    obtain ⟨s0,s1,⟨c0,c1,c2,c3,c4,c5,c6⟩,_⟩:=AW1.out
    go_wp2_with fail
    refine (Xbz I1 _ s.tree Hvt1.out e.path w1 hok1).mono ?_
    rw [Hge.out]
    rintro e2 w2 ⟨ga,gv,rfl,hg1,hg2,hb2⟩
    obtain ⟨oa,oc,rfl,_,_,_⟩:=id hg1
    obtain ⟨ox,od,rfl,_,_,_⟩:=id hg2
    have hb2':=hb1'.trans (hb2.mono hb1'.size)
    have hb3':=hb2'.alloc hb2'.size (.cells #[.int .i64 gx.kind,S gx.path,.slice oa gx.attrs.length oc,S gx.target,.int .i64 gx.size,S gx.digest,.slice ox gx.exts.length od] 39)
    have hok3:Ok I1 (w2.alloc (.cells #[.int .i64 gx.kind,S gx.path,.slice oa gx.attrs.length oc,S gx.target,.int .i64 gx.size,S gx.digest,.slice ox gx.exts.length od] 39)):=(hok1.below (Qn _) hb2).alloc _
    have AW3:=Qh ((AW1.out.thru hb2).past (.cells #[.int .i64 gx.kind,S gx.path,.slice oa gx.attrs.length oc,S gx.target,.int .i64 gx.size,S gx.digest,.slice ox gx.exts.length od] 39))
    clear hb2 hb1' hb2' AW1 hok1 s0 s1 c0 c1 c2 c3 c4 c5 c6 hg1 hg2
    obtain ⟨s0,s1,⟨c0,c1,c2,c3,c4,c5,c6⟩,_⟩:=AW3.out
    obtain ⟨w3,hw3⟩:∃w3,w2.alloc (.cells #[.int .i64 gx.kind,S gx.path,.slice oa gx.attrs.length oc,S gx.target,.int .i64 gx.size,S gx.digest,.slice ox gx.exts.length od] 39)=w3:=⟨_,rfl⟩
    rw [hw3] at hok3 AW3 hb3' s0 s1 c0 c1 c2 c3 c4 c5 c6
    go_wp2_with fail
    refine (Xb3 I1 _ s.holds Hvh1.out hnh e _ _ Hva1.out Hvx1.out d w3 hok3).mono ?_
    rintro e4 w4 ⟨rfl,hb4⟩
    rw [Hal.out]
    have hok4:Ok I1 w4:=hok3.below (Qn _) hb4
    have AW4:=Qh (AW3.out.thru hb4)
    have hb4':=hb3'.trans (hb4.mono hb3'.size)
    clear hb4 hb3' AW3 hok3 hw3 s0 s1 c0 c1 c2 c3 c4 c5 c6
    obtain ⟨s0,s1,⟨c0,c1,c2,c3,c4,c5,c6⟩,_⟩:=AW4.out
    by_cases hm:m=0
    ·have Hn:=Qh (HnewN.out hm)
     subst hm
     go_wp2_with fail
     refine (Hap.out I1 _ _ _ Hvh1.out Hva1.out Hvx1.out w4 hok4).mono ?_
     rintro e5 w5 ⟨vh2,I2,rfl,hb5,hx2,hok5,hr3⟩
     obtain ⟨a3,c3',rfl,_,_,_⟩:=id hr3
     have Hr3:=Qh hr3
     have AW5:=Qh (AW4.out.thru hb5)
     have Hx2:=Qh (Hx1.out.trans hx2 (by have:=(Array.getElem?_eq_some_iff.1 AW4.out.row).1;omega))
     have Hkp2:=Qh (hx2.keep hok4 (Qn _))
     have hb5':=hb4'.trans (hb5.mono hb4'.size)
     clear hb5 hb4' AW4 hok4 s0 s1 c0 c1 c2 c3 c4 c5 c6 hr3 hx2
     obtain ⟨s0,s1,⟨c0,c1,c2,c3,c4,c5,c6⟩,_⟩:=AW5.out
     have r0:w5.cell? ⟨w.heap.size+1+1,0,none⟩=some (.slice none 0 0):=(cell_of_row w5 _ 0 _ _ _ AW5.out.row).trans rfl
     have r1:w5.cell? ⟨w.heap.size+1+1,1,none⟩=some (.slice none 0 0):=(cell_of_row w5 _ 1 _ _ _ AW5.out.row).trans rfl
     have f0:=frozen_of_row w5 _ 0 _ _ AW5.out.row
     have f1:=frozen_of_row w5 _ 1 _ _ AW5.out.row
     go_wp2
     have hW:=heap_setCell_same _ (w.heap.size+1+1) 1 _ _ (.slice a3 h2.length c3') (heap_setCell_same w5 (w.heap.size+1+1) 0 _ _ (.slice a2 t2.length c2') AW5.out.row)
     refine bodyPost_ret (v:= .tuple #[sttV (.slice a2 t2.length c2') (.slice a3 h2.length c3'),.int .i64 0]) ?_ rfl ?_
     ·rw [results_cell_tmp rfl]
      simp [asAddr,run_loadVar_row _ (w.heap.size+1+1) 69 69 #[(.slice a2 t2.length c2'),(.slice a3 h2.length c3')] (0,0) _ hW Tryz.underlying69 rfl Hi2.out]
     ·rw [Hn.out]
      have hfr:I2 (w.heap.size+1+1)=none:=(Hx2.out _ (by omega)).trans (hw.fresh (by omega))
      exact ⟨_,_,I2,rfl,(hb5'.setCell (by simp;omega) _).setCell (by simp;omega) _,Ext.mono Hx2.out (by omega),(Ok.setCell hok5 hfr _).setCell hfr _,(Hr2.out.mono Hkp2.out),Hr3.out⟩
    ·have Hn:=Qh (HnewE.out hm)
     have hm0:(m != 0)=true:=by simpa using hm
     clear hm
     go_wp2_with fail
     refine (Hap.out I1 _ _ _ Hvh1.out Hva1.out Hvx1.out w4 hok4).mono ?_
     rintro e5 w5 ⟨vh2,I2,rfl,hb5,hx2,hok5,hr3⟩
     obtain ⟨a3,c3',rfl,_,_,_⟩:=id hr3
     have Hr3:=Qh hr3
     have AW5:=Qh (AW4.out.thru hb5)
     have Hx2:=Qh (Hx1.out.trans hx2 (by have:=(Array.getElem?_eq_some_iff.1 AW4.out.row).1;omega))
     have Hkp2:=Qh (hx2.keep hok4 (Qn _))
     have hb5':=hb4'.trans (hb5.mono hb4'.size)
     clear hb5 hb4' AW4 hok4 s0 s1 c0 c1 c2 c3 c4 c5 c6 hr3 hx2
     obtain ⟨s0,s1,⟨c0,c1,c2,c3,c4,c5,c6⟩,_⟩:=AW5.out
     have r0:w5.cell? ⟨w.heap.size+1+1,0,none⟩=some (.slice none 0 0):=(cell_of_row w5 _ 0 _ _ _ AW5.out.row).trans rfl
     have r1:w5.cell? ⟨w.heap.size+1+1,1,none⟩=some (.slice none 0 0):=(cell_of_row w5 _ 1 _ _ _ AW5.out.row).trans rfl
     have f0:=frozen_of_row w5 _ 0 _ _ AW5.out.row
     have f1:=frozen_of_row w5 _ 1 _ _ AW5.out.row
     go_wp2
     have hW:=heap_setCell_same _ (w.heap.size+1+1) 1 _ _ (.slice ah s.holds.length ch) (heap_setCell_same w5 (w.heap.size+1+1) 0 _ _ (.slice at' s.tree.length ct) AW5.out.row)
     refine bodyPost_ret (v:= .tuple #[sttV (.slice at' s.tree.length ct) (.slice ah s.holds.length ch),.int .i64 m]) ?_ rfl ?_
     ·rw [results_cell_tmp rfl]
      simp [asAddr,run_loadVar_row _ (w.heap.size+1+1) 69 69 #[(.slice at' s.tree.length ct),(.slice ah s.holds.length ch)] (0,0) _ hW Tryz.underlying69 rfl Hi2.out]
     ·rw [Hn.out]
      have hfr:I2 (w.heap.size+1+1)=none:=(Hx2.out _ (by omega)).trans (hw.fresh (by omega))
      exact ⟨_,_,I2,rfl,(hb5'.setCell (by simp;omega) _).setCell (by simp;omega) _,Ext.mono Hx2.out (by omega),(Ok.setCell hok5 hfr _).setCell hfr _,(Hvt1.out.mono Hkp2.out),(Hvh1.out.mono Hkp2.out)⟩
   ·have Hn:=Qh (show stpP s e d=(s,al) by rw [hst,hask,if_pos ha])
    have ha0:(al != 0)=true:=by simpa using ha
    clear hst hask ha Hap
    go_enter Tryz.func35,Tryz.ntmps35
    go_wp2_with fail
    refine (Ha.out _ (((hw.alloc _).alloc _).alloc _)).mono ?_
    rintro e1 w1 ⟨v2,I1,rfl,hb1,hx1,hok1,hr2⟩
    have hrow:w1.heap[w.heap.size+1+1]? =some (.cells #[.slice none 0 0,.slice none 0 0] 69 (0,0)):=(hb1.block _ (by simp)).trans (by have:=heap_alloc_new ((w.alloc (.cells #[.slice at' s.tree.length ct,.slice ah s.holds.length ch] 69)).alloc (.cells #[.int .i64 e.kind,S e.path,.slice aa e.attrs.length ca,S e.target,.int .i64 e.size,S e.digest,.slice ax e.exts.length cx] 39)) (.cells #[.slice none 0 0,.slice none 0 0] 69);simpa using this)
    have heb:EntB ((w.alloc (.cells #[.slice at' s.tree.length ct,.slice ah s.holds.length ch] 69)).alloc (.cells #[.int .i64 e.kind,S e.path,.slice aa e.attrs.length ca,S e.target,.int .i64 e.size,S e.digest,.slice ax e.exts.length cx] 39)) (w.heap.size+1) e (.slice aa e.attrs.length ca) (.slice ax e.exts.length cx):=entB (by simp) (Qb _ _)
    have AW1:=Qh (ApR.mk (Xaa hb1 (Xab _ (Xab _ (by simp)))) (Xaa hb1 (Xab _ (Xab _ (by simp)))) ((heb.past _).thru hb1) hrow:ApR w.heap.size w1 (.slice at' s.tree.length ct) (.slice ah s.holds.length ch) e (.slice aa e.attrs.length ca) (.slice ax e.exts.length cx))
    have hb1':Below w.heap.size w w1:=((((Qb w.heap.size w).alloc (Qn _) (.cells #[.slice at' s.tree.length ct,.slice ah s.holds.length ch] 69)).alloc (by simp) (.cells #[.int .i64 e.kind,S e.path,.slice aa e.attrs.length ca,S e.target,.int .i64 e.size,S e.digest,.slice ax e.exts.length cx] 39)).alloc (by simp;omega) (.cells #[.slice none 0 0,.slice none 0 0] 69)).trans (hb1.mono (by simp;omega))
    have hx1':Ext (w.heap.size+1+1+1) I I1:=hx1.mono (by simp)
    have hkp:=(hx1'.mono (show w.heap.size≤_ by omega)).keep hw (Qn _)
    have Hx1:=Qh hx1'
    have Hr2:=Qh hr2
    have Hvt1:=Qh (Hvt.out.mono hkp)
    have Hvh1:=Qh (Hvh.out.mono hkp)
    have Hva1:=Qh (Hva.out.mono hkp)
    have Hvx1:=Qh (Hvx.out.mono hkp)
    obtain ⟨a2,c2',rfl,_,_,_⟩:=id hr2
    clear hb1 hrow heb hx1 hx1' hkp hr2 Ha
    obtain ⟨s0,s1,⟨c0,c1,c2,c3,c4,c5,c6⟩,_⟩:=AW1.out
    go_wp2_with fail
    refine (Xbz I1 _ s.tree Hvt1.out e.path w1 hok1).mono ?_
    rw [Hge.out]
    rintro e2 w2 ⟨ga,gv,rfl,hg1,hg2,hb2⟩
    obtain ⟨oa,oc,rfl,_,_,_⟩:=id hg1
    obtain ⟨ox,od,rfl,_,_,_⟩:=id hg2
    have hb2':=hb1'.trans (hb2.mono hb1'.size)
    have hb3':=hb2'.alloc hb2'.size (.cells #[.int .i64 gx.kind,S gx.path,.slice oa gx.attrs.length oc,S gx.target,.int .i64 gx.size,S gx.digest,.slice ox gx.exts.length od] 39)
    have hok3:Ok I1 (w2.alloc (.cells #[.int .i64 gx.kind,S gx.path,.slice oa gx.attrs.length oc,S gx.target,.int .i64 gx.size,S gx.digest,.slice ox gx.exts.length od] 39)):=(hok1.below (Qn _) hb2).alloc _
    have AW3:=Qh ((AW1.out.thru hb2).past (.cells #[.int .i64 gx.kind,S gx.path,.slice oa gx.attrs.length oc,S gx.target,.int .i64 gx.size,S gx.digest,.slice ox gx.exts.length od] 39))
    clear hb2 hb1' hb2' AW1 hok1 s0 s1 c0 c1 c2 c3 c4 c5 c6 hg1 hg2
    obtain ⟨s0,s1,⟨c0,c1,c2,c3,c4,c5,c6⟩,_⟩:=AW3.out
    obtain ⟨w3,hw3⟩:∃w3,w2.alloc (.cells #[.int .i64 gx.kind,S gx.path,.slice oa gx.attrs.length oc,S gx.target,.int .i64 gx.size,S gx.digest,.slice ox gx.exts.length od] 39)=w3:=⟨_,rfl⟩
    rw [hw3] at hok3 AW3 hb3' s0 s1 c0 c1 c2 c3 c4 c5 c6
    go_wp2_with fail
    refine (Xb3 I1 _ s.holds Hvh1.out hnh e _ _ Hva1.out Hvx1.out d w3 hok3).mono ?_
    rintro e4 w4 ⟨rfl,hb4⟩
    rw [Hal.out]
    have hok4:Ok I1 w4:=hok3.below (Qn _) hb4
    have AW4:=Qh (AW3.out.thru hb4)
    have hb4':=hb3'.trans (hb4.mono hb3'.size)
    clear hb4 hb3' AW3 hok3 hw3 s0 s1 c0 c1 c2 c3 c4 c5 c6
    obtain ⟨s0,s1,⟨c0,c1,c2,c3,c4,c5,c6⟩,_⟩:=AW4.out
    have r0:w4.cell? ⟨w.heap.size+1+1,0,none⟩=some (.slice none 0 0):=(cell_of_row w4 _ 0 _ _ _ AW4.out.row).trans rfl
    have r1:w4.cell? ⟨w.heap.size+1+1,1,none⟩=some (.slice none 0 0):=(cell_of_row w4 _ 1 _ _ _ AW4.out.row).trans rfl
    have f0:=frozen_of_row w4 _ 0 _ _ AW4.out.row
    have f1:=frozen_of_row w4 _ 1 _ _ AW4.out.row
    go_wp2
    have hW:=heap_setCell_same _ (w.heap.size+1+1) 1 _ _ (.slice ah s.holds.length ch) (heap_setCell_same w4 (w.heap.size+1+1) 0 _ _ (.slice at' s.tree.length ct) AW4.out.row)
    refine bodyPost_ret (v:= .tuple #[sttV (.slice at' s.tree.length ct) (.slice ah s.holds.length ch),.int .i64 al]) ?_ rfl ?_
    ·rw [results_cell_tmp rfl]
     simp [asAddr,run_loadVar_row _ (w.heap.size+1+1) 69 69 #[(.slice at' s.tree.length ct),(.slice ah s.holds.length ch)] (0,0) _ hW Tryz.underlying69 rfl Hi2.out]
    ·rw [Hn.out]
     have hfr:I1 (w.heap.size+1+1)=none:=(Hx1.out _ (by omega)).trans (hw.fresh (by omega))
     exact ⟨_,_,I1,rfl,(hb4'.setCell (by simp;omega) _).setCell (by simp;omega) _,Ext.mono Hx1.out (by omega),(Ok.setCell hok4 hfr _).setCell hfr _,Hvt1.out,Hvh1.out⟩
  ·have hask:askP s e d=0:=by rw [hask0,if_neg (by rintro (q|q);exact hk3 q;cases q)]
   have d3:decide (3<e.kind)=false:=Qf hk3
   have HnewN:=Qh (fun (hm:m=0)=>show stpP s e d=(⟨t2,h2⟩,0) by rw [hst,hask,if_neg (show ¬((0:Int)≠0) by decide),if_neg (show ¬(m≠0) by omega)])
   have HnewE:=Qh (fun (hm:¬m=0)=>show stpP s e d=(s,m) by rw [hst,hask,if_neg (show ¬((0:Int)≠0) by decide),if_pos hm])
   clear hst hask hask0 hk3
   go_enter Tryz.func35,Tryz.ntmps35
   go_wp2_with fail
   refine (Ha.out _ (((hw.alloc _).alloc _).alloc _)).mono ?_
   rintro e1 w1 ⟨v2,I1,rfl,hb1,hx1,hok1,hr2⟩
   have hrow:w1.heap[w.heap.size+1+1]? =some (.cells #[.slice none 0 0,.slice none 0 0] 69 (0,0)):=(hb1.block _ (by simp)).trans (by have:=heap_alloc_new ((w.alloc (.cells #[.slice at' s.tree.length ct,.slice ah s.holds.length ch] 69)).alloc (.cells #[.int .i64 e.kind,S e.path,.slice aa e.attrs.length ca,S e.target,.int .i64 e.size,S e.digest,.slice ax e.exts.length cx] 39)) (.cells #[.slice none 0 0,.slice none 0 0] 69);simpa using this)
   have heb:EntB ((w.alloc (.cells #[.slice at' s.tree.length ct,.slice ah s.holds.length ch] 69)).alloc (.cells #[.int .i64 e.kind,S e.path,.slice aa e.attrs.length ca,S e.target,.int .i64 e.size,S e.digest,.slice ax e.exts.length cx] 39)) (w.heap.size+1) e (.slice aa e.attrs.length ca) (.slice ax e.exts.length cx):=entB (by simp) (Qb _ _)
   have AW1:=Qh (ApR.mk (Xaa hb1 (Xab _ (Xab _ (by simp)))) (Xaa hb1 (Xab _ (Xab _ (by simp)))) ((heb.past _).thru hb1) hrow:ApR w.heap.size w1 (.slice at' s.tree.length ct) (.slice ah s.holds.length ch) e (.slice aa e.attrs.length ca) (.slice ax e.exts.length cx))
   have hb1':Below w.heap.size w w1:=((((Qb w.heap.size w).alloc (Qn _) (.cells #[.slice at' s.tree.length ct,.slice ah s.holds.length ch] 69)).alloc (by simp) (.cells #[.int .i64 e.kind,S e.path,.slice aa e.attrs.length ca,S e.target,.int .i64 e.size,S e.digest,.slice ax e.exts.length cx] 39)).alloc (by simp;omega) (.cells #[.slice none 0 0,.slice none 0 0] 69)).trans (hb1.mono (by simp;omega))
   have hx1':Ext (w.heap.size+1+1+1) I I1:=hx1.mono (by simp)
   have hkp:=(hx1'.mono (show w.heap.size≤_ by omega)).keep hw (Qn _)
   have Hx1:=Qh hx1'
   have Hr2:=Qh hr2
   have Hvt1:=Qh (Hvt.out.mono hkp)
   have Hvh1:=Qh (Hvh.out.mono hkp)
   have Hva1:=Qh (Hva.out.mono hkp)
   have Hvx1:=Qh (Hvx.out.mono hkp)
   obtain ⟨a2,c2',rfl,_,_,_⟩:=id hr2
   clear hb1 hrow heb hx1 hx1' hkp hr2 Ha
   obtain ⟨s0,s1,⟨c0,c1,c2,c3,c4,c5,c6⟩,_⟩:=AW1.out
   go_wp2_with fail
   refine (Xbz I1 _ s.tree Hvt1.out e.path w1 hok1).mono ?_
   rw [Hge.out]
   rintro e2 w2 ⟨ga,gv,rfl,hg1,hg2,hb2⟩
   obtain ⟨oa,oc,rfl,_,_,_⟩:=id hg1
   obtain ⟨ox,od,rfl,_,_,_⟩:=id hg2
   have hb2':=hb1'.trans (hb2.mono hb1'.size)
   have hb3':=hb2'.alloc hb2'.size (.cells #[.int .i64 gx.kind,S gx.path,.slice oa gx.attrs.length oc,S gx.target,.int .i64 gx.size,S gx.digest,.slice ox gx.exts.length od] 39)
   have hok3:Ok I1 (w2.alloc (.cells #[.int .i64 gx.kind,S gx.path,.slice oa gx.attrs.length oc,S gx.target,.int .i64 gx.size,S gx.digest,.slice ox gx.exts.length od] 39)):=(hok1.below (Qn _) hb2).alloc _
   have AW3:=Qh ((AW1.out.thru hb2).past (.cells #[.int .i64 gx.kind,S gx.path,.slice oa gx.attrs.length oc,S gx.target,.int .i64 gx.size,S gx.digest,.slice ox gx.exts.length od] 39))
   clear hb2 hb1' hb2' AW1 hok1 s0 s1 c0 c1 c2 c3 c4 c5 c6 hg1 hg2
   obtain ⟨s0,s1,⟨c0,c1,c2,c3,c4,c5,c6⟩,_⟩:=AW3.out
   obtain ⟨w3,hw3⟩:∃w3,w2.alloc (.cells #[.int .i64 gx.kind,S gx.path,.slice oa gx.attrs.length oc,S gx.target,.int .i64 gx.size,S gx.digest,.slice ox gx.exts.length od] 39)=w3:=⟨_,rfl⟩
   rw [hw3] at hok3 AW3 hb3' s0 s1 c0 c1 c2 c3 c4 c5 c6
   by_cases hm:m=0
   ·have Hn:=Qh (HnewN.out hm)
    subst hm
    go_wp2_with fail
    refine (Hap.out I1 _ _ _ Hvh1.out Hva1.out Hvx1.out w3 hok3).mono ?_
    rintro e5 w5 ⟨vh2,I2,rfl,hb5,hx2,hok5,hr3⟩
    obtain ⟨a3,c3',rfl,_,_,_⟩:=id hr3
    have Hr3:=Qh hr3
    have AW5:=Qh (AW3.out.thru hb5)
    have Hx2:=Qh (Hx1.out.trans hx2 (by have:=(Array.getElem?_eq_some_iff.1 AW3.out.row).1;omega))
    have Hkp2:=Qh (hx2.keep hok3 (Qn _))
    have hb5':=hb3'.trans (hb5.mono hb3'.size)
    clear hb5 hb3' AW3 hok3 s0 s1 c0 c1 c2 c3 c4 c5 c6 hr3 hx2
    obtain ⟨s0,s1,⟨c0,c1,c2,c3,c4,c5,c6⟩,_⟩:=AW5.out
    have r0:w5.cell? ⟨w.heap.size+1+1,0,none⟩=some (.slice none 0 0):=(cell_of_row w5 _ 0 _ _ _ AW5.out.row).trans rfl
    have r1:w5.cell? ⟨w.heap.size+1+1,1,none⟩=some (.slice none 0 0):=(cell_of_row w5 _ 1 _ _ _ AW5.out.row).trans rfl
    have f0:=frozen_of_row w5 _ 0 _ _ AW5.out.row
    have f1:=frozen_of_row w5 _ 1 _ _ AW5.out.row
    go_wp2
    have hW:=heap_setCell_same _ (w.heap.size+1+1) 1 _ _ (.slice a3 h2.length c3') (heap_setCell_same w5 (w.heap.size+1+1) 0 _ _ (.slice a2 t2.length c2') AW5.out.row)
    refine bodyPost_ret (v:= .tuple #[sttV (.slice a2 t2.length c2') (.slice a3 h2.length c3'),.int .i64 0]) ?_ rfl ?_
    ·rw [results_cell_tmp rfl]
     simp [asAddr,run_loadVar_row _ (w.heap.size+1+1) 69 69 #[(.slice a2 t2.length c2'),(.slice a3 h2.length c3')] (0,0) _ hW Tryz.underlying69 rfl Hi2.out]
    ·rw [Hn.out]
     have hfr:I2 (w.heap.size+1+1)=none:=(Hx2.out _ (by omega)).trans (hw.fresh (by omega))
     exact ⟨_,_,I2,rfl,(hb5'.setCell (by simp;omega) _).setCell (by simp;omega) _,Ext.mono Hx2.out (by omega),(Ok.setCell hok5 hfr _).setCell hfr _,(Hr2.out.mono Hkp2.out),Hr3.out⟩
   ·have Hn:=Qh (HnewE.out hm)
    have hm0:(m != 0)=true:=by simpa using hm
    clear hm
    go_wp2_with fail
    refine (Hap.out I1 _ _ _ Hvh1.out Hva1.out Hvx1.out w3 hok3).mono ?_
    rintro e5 w5 ⟨vh2,I2,rfl,hb5,hx2,hok5,hr3⟩
    obtain ⟨a3,c3',rfl,_,_,_⟩:=id hr3
    have Hr3:=Qh hr3
    have AW5:=Qh (AW3.out.thru hb5)
    have Hx2:=Qh (Hx1.out.trans hx2 (by have:=(Array.getElem?_eq_some_iff.1 AW3.out.row).1;omega))
    have Hkp2:=Qh (hx2.keep hok3 (Qn _))
    have hb5':=hb3'.trans (hb5.mono hb3'.size)
    clear hb5 hb3' AW3 hok3 s0 s1 c0 c1 c2 c3 c4 c5 c6 hr3 hx2
    obtain ⟨s0,s1,⟨c0,c1,c2,c3,c4,c5,c6⟩,_⟩:=AW5.out
    have r0:w5.cell? ⟨w.heap.size+1+1,0,none⟩=some (.slice none 0 0):=(cell_of_row w5 _ 0 _ _ _ AW5.out.row).trans rfl
    have r1:w5.cell? ⟨w.heap.size+1+1,1,none⟩=some (.slice none 0 0):=(cell_of_row w5 _ 1 _ _ _ AW5.out.row).trans rfl
    have f0:=frozen_of_row w5 _ 0 _ _ AW5.out.row
    have f1:=frozen_of_row w5 _ 1 _ _ AW5.out.row
    go_wp2
    have hW:=heap_setCell_same _ (w.heap.size+1+1) 1 _ _ (.slice ah s.holds.length ch) (heap_setCell_same w5 (w.heap.size+1+1) 0 _ _ (.slice at' s.tree.length ct) AW5.out.row)
    refine bodyPost_ret (v:= .tuple #[sttV (.slice at' s.tree.length ct) (.slice ah s.holds.length ch),.int .i64 m]) ?_ rfl ?_
    ·rw [results_cell_tmp rfl]
     simp [asAddr,run_loadVar_row _ (w.heap.size+1+1) 69 69 #[(.slice at' s.tree.length ct),(.slice ah s.holds.length ch)] (0,0) _ hW Tryz.underlying69 rfl Hi2.out]
    ·rw [Hn.out]
     have hfr:I2 (w.heap.size+1+1)=none:=(Hx2.out _ (by omega)).trans (hw.fresh (by omega))
     exact ⟨_,_,I2,rfl,(hb5'.setCell (by simp;omega) _).setCell (by simp;omega) _,Ext.mono Hx2.out (by omega),(Ok.setCell hok5 hfr _).setCell hfr _,(Hvt1.out.mono Hkp2.out),(Hvh1.out.mono Hkp2.out)⟩
def RetSt (I:IH) (w:World) (s:Stt) (e:Ending) (w':World):Prop:=
 ∃vt vh I',e= .returned (sttV vt vh)∧Below w.heap.size w w'∧Ext w.heap.size I I'∧Ok I' w'∧RdS tEnt I' vt s.tree∧RdS tHo I' vh s.holds
structure ResB (T:TypeId) (n:Nat) (J:IH) (W:World):Prop where
 row:W.heap[n]? =some (.cells #[.slice none 0 0,.slice none 0 0] T (0,0))
 free:J n=none
section
variable {T:TypeId} {n:Nat} {I J:IH} {W W':World}
theorem ResB.lt (h:ResB T n J W):n<W.heap.size:=(Array.getElem?_eq_some_iff.1 h.row).1
theorem ResB.below (h:ResB T n J W) (hb:Below W.heap.size W W'):ResB T n J W':=⟨(hb.block _ h.lt).trans h.row,h.free⟩
theorem ResB.past (h:ResB T n J W) (o:Obj):ResB T n J (W.alloc o):=h.below ((Qb _ _).alloc (Qn _) o)
theorem ResB.ext (h:ResB T n J W) (hb:Below W.heap.size W W') (hx:Ext W.heap.size J I):ResB T n I W':=⟨(hb.block _ h.lt).trans h.row,(hx _ h.lt).trans h.free⟩
theorem ResB.set2 {m:Nat} {u v:Value} (h:ResB T n J W) (hm:n≠m):ResB T n J ((W.setCell ⟨m,0,none⟩ u).setCell ⟨m,1,none⟩ v):=
 ⟨(Below.heap_setCell _ _ _ _ hm).trans ((Below.heap_setCell _ _ _ _ hm).trans h.row),h.free⟩
end
set_option maxRecDepth 100000 in
set_option maxHeartbeats 4000000 in
theorem Xc3 (I:IH) (v:Value) (l:List Ses) (hv:RdS tSes I v l) (hg:∀x∈l,SesG x) (hn:l.length≤1000) (n:Nat) (hnl:n≤l.length) (w:World) (hw:Ok I w):
 Calls Tryz.prog 49 #[v,.int .i64 n] w (RetSt I w (aftS nilS (l.take n))):=by
 obtain ⟨ao,cap,rfl,hcap,hcm,_⟩:=id hv
 have hi0:(0:Int)≤(n:Int):=by omega
 have hi1:(n:Int)≤(l.length:Int):=by omega
 have hi2:(n:Int)≤(cap:Int):=by omega
 have Hv:=Qh (hv.takeS hnl)
 have hll:(l.take n).length=n:=by simp;omega
 have Hg:=Qh (fun x (hx:x∈l.take n)=>hg x (List.mem_of_mem_take hx))
 generalize hL:l.take n=L at Hv hll Hg ⊢
 have Hll:=Qh hll
 clear hv hg hL hll
 have H0:=Qh (StM.new (T:=69) (hw.alloc (.cells #[.slice none 0 0,.slice none 0 0] 69)) rfl)
 have HR0:=Qh (show ResB 69 w.heap.size I (w.alloc (.cells #[.slice none 0 0,.slice none 0 0] 69)) from ⟨heap_alloc_new w _,hw.fresh (Qn _)⟩)
 have hbA:Below w.heap.size w (w.alloc (.cells #[.slice none 0 0,.slice none 0 0] 69)):=(Qb _ _).alloc (Qn _) _
 go_enter Tryz.func49,Tryz.ntmps49
 go_wp2_with fail
 rw [World.size_alloc] at H0
 go_loopw [15] (fun s15 wr=> ∃(k:Nat) (vt vh:Value) (J:IH),k≤n∧s15= .int .i64 k∧StM 69 (w.heap.size+1) J wr (aftS nilS (L.take k)) vt vh∧ResB 69 w.heap.size J wr∧Ext w.heap.size I J∧Below w.heap.size w wr) (fun i _=>n-(intOf i).toNat)
 case atStart=>exact ⟨0,_,_,I,Nat.zero_le _,rfl,H0.out,HR0.out.past _,Ext.refl _ _,hbA.alloc hbA.size _⟩
 case round=>
  clear H0 HR0 hbA
  obtain ⟨k,vt,vh,J,hk,rfl,hst,hrs,hx,hb⟩:=hrel
  have Hst:=Qh hst
  have HRs:=Qh hrs
  have Hx:=Qh hx
  have hokr:Ok J wr:=hst.ok
  have hltr:=hst.lt
  have HvJ:=Qh (Hv.out.mono (hx.keep hw (Qn _)))
  clear hst hrs hx
  by_cases hlt:k<n
  ·obtain ⟨x,ve,b,off,cap',hlx,hvv,⟨c0,c1,c2,c3,c4,c5⟩,h1⟩:=Xdc HvJ.out hokr k (by rw [Hll.out];exact hlt)
   cases hvv
   obtain ⟨oe,ce,rfl,_,_,_⟩:=id h1
   have Hxg:=Qh (Hg.out x (by rw [←hlx];exact List.getElem_mem hlt))
   have Hve:=Qh h1
   have hsn0:SIn (0+30*(L.take k).length) (aftS nilS (L.take k)):=Xnz (L.take k) Xg8 fun y hy=>Hg.out y (List.mem_of_mem_take hy)
   have hsn1:SIn (30*k) (aftS nilS (L.take k)):=hsn0.mono (by rw [List.length_take];omega)
   have Hsn:=Qh hsn1
   have Hat:=Qh (Xov (s:=nilS) hlt hlx)
   generalize aftS nilS (L.take k)=s0 at Hst Hsn Hat
   have HB1:=Qh (sesB (W:=wr) (s:=x) (ve:= .slice oe x.ents.length ce) (t:=47) rfl (Qb _ _))
   have Hst1:=Qh (Hst.out.past (.cells #[.int .i64 x.num,.int .i64 x.date,S x.prev,.slice oe x.ents.length ce,S x.stream,S x.sl] 47))
   have HR1:=Qh (HRs.out.past (.cells #[.int .i64 x.num,.int .i64 x.date,S x.prev,.slice oe x.ents.length ce,S x.stream,S x.sl] 47))
   have hb1:=hb.alloc hb.size (.cells #[.int .i64 x.num,.int .i64 x.date,S x.prev,.slice oe x.ents.length ce,S x.stream,S x.sl] 47)
   have hlt1:wr.heap.size<(wr.alloc (.cells #[.int .i64 x.num,.int .i64 x.date,S x.prev,.slice oe x.ents.length ce,S x.stream,S x.sl] 47)).heap.size:=by simp
   clear hlx h1 hsn0 hsn1 Hst HRs hokr
   go_wp2_with fail
   clear c0 c1 c2 c3 c4 c5
   generalize wr.heap.size=bx at HB1 hlt1 hltr ⊢
   go_loopw [22] (fun s22 wq=> ∃(j:Nat) (vt' vh':Value) (J':IH),j≤x.ents.length∧s22= .int .i64 j∧StM 69 (w.heap.size+1) J' wq (runS s0 x.date (x.ents.take j)) vt' vh'∧ResB 69 w.heap.size J' wq∧Ext w.heap.size I J'∧SesB wq bx x (.slice oe x.ents.length ce)∧(∀b c,J b=some c→J' b=some c)∧bx<wq.heap.size∧Below w.heap.size w wq) (fun i _=>x.ents.length-(intOf i).toNat)
   case atStart=>exact ⟨0,vt,vh,J,Nat.zero_le _,rfl,Hst1.out,HR1.out,Hx.out,HB1.out,fun _ _ h=>h,hlt1,hb1⟩
   case round=>
    clear Hst1 HB1 hb1 hlt1 HR1
    obtain ⟨j,vt',vh',J',hj,rfl,hst,hrs,hx,hB,hkp,hltq,hbq⟩:=hrel
    have Hst:=Qh hst
    have HRs:=Qh hrs
    have HB:=Qh hB
    have Hx':=Qh hx
    have Hkp:=Qh hkp
    have hok:Ok J' wr:=hst.ok
    clear hst hB hx hkp hrs
    obtain ⟨c0,c1,c2,c3,c4,c5⟩:=HB.out
    by_cases hjt:j<x.ents.length
    ·obtain ⟨y,vya,vyx,b9,off9,cap9,hly,hvv,⟨x0,x1,x2,x3,x4,x5,x6⟩,h1,h2⟩:=Xbt (Hve.out.mono Hkp.out) hok j hjt
     cases hvv
     obtain ⟨xa,xc,rfl,_,_,_⟩:=id h1
     obtain ⟨xx,xd,rfl,_,_,_⟩:=id h2
     obtain ⟨t1,tc1,rfl,_,_,_⟩:=id Hst.out.tree
     obtain ⟨u1,uc1,rfl,_,_,_⟩:=id Hst.out.holds
     have hmem:y∈x.ents:=by rw [←hly];exact List.getElem_mem hjt
     have hsj:SIn (30*k+(x.ents.take j).length) (runS s0 x.date (x.ents.take j)):=Xjn (x.ents.take j) Hsn.out x.date fun e he=>⟨Hxg.out.path e (List.mem_of_mem_take he),Hxg.out.target e (List.mem_of_mem_take he)⟩
     have hn30:=Hxg.out.nents
     have hsk:SIn (30*k+30) (runS s0 x.date (x.ents.take j)):=hsj.mono (by rw [List.length_take];omega)
     have Hrt:=Qh (Xn7 (s:=s0) (d:=x.date) hjt hly)
     have hpy:=Hxg.out.path y hmem
     have hty:=Hxg.out.target y hmem
     have hxl:=Hxg.out.exts y hmem
     have htl:=hsk.ok.tlen
     have hhl:=hsk.ok.hlen
     generalize runS s0 x.date (x.ents.take j)=s' at Hst hsk Hrt htl hhl
     have Hst':=Qh (Hst.out.past (.cells #[.int .i64 y.kind,S y.path,.slice xa y.attrs.length xc,S y.target,.int .i64 y.size,S y.digest,.slice xx y.exts.length xd] 39))
     have Hap:=Qh (Xa5 J' s' _ _ Hst.out.tree Hst.out.holds hsk.sml (by omega) hsk.ok.holds (by omega) y _ _ h1 h2 (Hxg.out.wf y hmem) (by omega) (by omega) x.date (wr.alloc (.cells #[.int .i64 y.kind,S y.path,.slice xa y.attrs.length xc,S y.target,.int .i64 y.size,S y.digest,.slice xx y.exts.length xd] 39)) (hok.alloc _))
     obtain ⟨s2,er3,hs2⟩:∃s2 er3,stpP s' y x.date=(s2,er3):=⟨_,_,rfl⟩
     rw [hs2] at Hap Hrt
     have k0:=Hst'.out.c0
     have k1:=Hst'.out.c1
     have p1:=Xab (.cells #[.int .i64 y.kind,S y.path,.slice xa y.attrs.length xc,S y.target,.int .i64 y.size,S y.digest,.slice xx y.exts.length xd] 39) c1
     have hner:bx≠w.heap.size+1:=by omega
     have hbq':=hbq.alloc hbq.size (.cells #[.int .i64 y.kind,S y.path,.slice xa y.attrs.length xc,S y.target,.int .i64 y.size,S y.digest,.slice xx y.exts.length xd] 39)
     have HBp:=Qh (HB.out.past (.cells #[.int .i64 y.kind,S y.path,.slice xa y.attrs.length xc,S y.target,.int .i64 y.size,S y.digest,.slice xx y.exts.length xd] 39))
     have HRp:=Qh (HRs.out.past (.cells #[.int .i64 y.kind,S y.path,.slice xa y.attrs.length xc,S y.target,.int .i64 y.size,S y.digest,.slice xx y.exts.length xd] 39))
     clear hly h1 h2 hmem htl hhl hs2 Hst HB hok hbq hsj hsk HRs
     go_wp2_with fail
     refine Hap.out.mono ?_
     rintro e3 w3 ⟨v3,v4,J3,rfl,hb3,hx3,hok3,ht3,hh3⟩
     obtain ⟨a3,d3,rfl,_,_,_⟩:=id ht3
     obtain ⟨a4,d4,rfl,_,_,_⟩:=id hh3
     have HB3:=Qh (HBp.out.thru hb3)
     have Hst3:=Qh (Hst'.out.ext hb3 hx3 hok3)
     have HR3:=Qh (HRp.out.ext hb3 hx3)
     have hbq3:=hbq'.trans (hb3.mono hbq'.size)
     have Hkp3:=Qh (hx3.keep Hst'.out.ok (Qn _))
     have hlt3:wr.heap.size<w3.heap.size:=by have:=hb3.size;simp at this;omega
     have Hx3:=Qh (Hx'.out.trans hx3 (by have:=hbq'.size;omega))
     have Hst4:=Qh (Hst3.out.set (s':=s2) ht3 hh3)
     clear c0 c1 c2 c3 c4 c5 x0 x1 x2 x3 x4 x5 x6 k0 k1 p1 hb3 hx3 hok3 ht3 hh3 Hap Hst' HBp HRp
     have r0:=Hst3.out.c0
     have r1:=Hst3.out.c1
     have f0:=Hst3.out.f0
     have f1:=Hst3.out.f1
     have hbs:Below w.heap.size w ((w3.setCell ⟨w.heap.size+1,0,none⟩ (.slice a3 s2.tree.length d3)).setCell ⟨w.heap.size+1,1,none⟩ (.slice a4 s2.holds.length d4)):=(hbq3.setCell (by simp) _).setCell (by simp) _
     have HB4:=Qh (HB3.out.set2 (u:=(.slice a3 s2.tree.length d3)) (v:=(.slice a4 s2.holds.length d4)) hner)
     have HR4:=Qh (HR3.out.set2 (u:=(.slice a3 s2.tree.length d3)) (v:=(.slice a4 s2.holds.length d4)) (show w.heap.size≠w.heap.size+1 by omega))
     clear HB3 hbq' HR3
     go_wp2
     go_roundw
     case rel=>exact ⟨j+1,_,_,J3,by omega,by go_num,by rw [Hrt.out];exact Hst4.out,HR4.out,Hx3.out,HB4.out,fun b c h=>Hkp3.out b c (Hkp.out b c h),by simp;omega,hbs⟩
     case measure=>simp [intOf];omega
    ·have Hall:=Qh (show aftS nilS (L.take (k+1))=runS s0 x.date (x.ents.take j) by rw [Hat.out,List.take_of_length_le (by omega)])
     clear c0 c1 c2 c3 c4 c5
     go_wp2
     go_roundw
     case rel=>exact ⟨k+1,_,_,J',by omega,by go_num,by rw [Hall.out];exact Hst.out,HRs.out,Hx'.out,hbq⟩
     case measure=>simp [intOf];omega
  ·have Hall:=Qh (show aftS nilS L=aftS nilS (L.take k) by rw [List.take_of_length_le (by rw [Hll.out];omega)])
   have hi2:(Tryz.prog.info? 69).map (·.size)=some 2:=by kernel_rfl
   have Hi2:=Qh hi2
   obtain ⟨t1,tc1,rfl,_,_,_⟩:=id Hst.out.tree
   obtain ⟨u1,uc1,rfl,_,_,_⟩:=id Hst.out.holds
   have r0:=Hst.out.c0
   have r1:=Hst.out.c1
   have q0:wr.cell? ⟨w.heap.size,0,none⟩=some (.slice none 0 0):=(cell_of_row wr _ 0 _ _ _ HRs.out.row).trans rfl
   have q1:wr.cell? ⟨w.heap.size,1,none⟩=some (.slice none 0 0):=(cell_of_row wr _ 1 _ _ _ HRs.out.row).trans rfl
   have f0:=frozen_of_row wr _ 0 _ _ HRs.out.row
   have f1:=frozen_of_row wr _ 1 _ _ HRs.out.row
   clear hi2
   go_wp2
   have hW:=heap_setCell_same _ w.heap.size 1 _ _ (.slice u1 (aftS nilS (L.take k)).holds.length uc1) (heap_setCell_same wr w.heap.size 0 _ _ (.slice t1 (aftS nilS (L.take k)).tree.length tc1) HRs.out.row)
   refine bodyPost_ret (results_cell_row rfl _ _ w.heap.size _ #[.slice t1 (aftS nilS (L.take k)).tree.length tc1,.slice u1 (aftS nilS (L.take k)).holds.length uc1] (0,0) _ rfl hW Tryz.underlying69 rfl Hi2.out) rfl ?_
   rw [Hall.out]
   exact ⟨_,_,J,rfl,(hb.setCell (Qn _) _).setCell (Qn _) _,Hx.out,(hokr.setCell HRs.out.free _).setCell HRs.out.free _,Hst.out.tree,Hst.out.holds⟩
def treeR (l:List Ses) (n:Int):List Ent × Int:=if n<0∨(l.length:Int)<n then ([],2) else ((aftS nilS (l.take n.toNat)).tree,0)
def holdsR (l:List Ses) (n:Int):List Ho:=if n<0∨(l.length:Int)<n then [] else (aftS nilS (l.take n.toNat)).holds
set_option maxRecDepth 100000 in
set_option maxHeartbeats 1000000 in
theorem Xo8 (I:IH) (v:Value) (l:List Ses) (hv:RdS tSes I v l) (hg:∀x∈l,SesG x) (hn:l.length≤1000) (n:Int) (w:World) (hw:Ok I w):
 Calls Tryz.prog 25 #[v,.int .i64 n] w (RetL tEnt I w (treeR l n).1 (treeR l n).2):=by
 obtain ⟨ao,cap,rfl,_,_,_⟩:=id hv
 have Ha:=Qh (fun m hm w hw=>Xc3 I _ l hv hg hn m hm w hw)
 clear hv hg
 by_cases h1:n<0
 ·have Hn:=Qh (show treeR l n=([],2) by rw [treeR,if_pos (.inl h1)])
  have d1:decide (n<0)=true:=Qt h1
  clear h1
  go_enter Tryz.func25,Tryz.ntmps25
  go_wp2
  go_ret2
  rw [Hn.out]
  exact ⟨_,I,rfl,Qb _ _,Ext.refl _ _,hw,RdS.nil _ _⟩
 have d1:decide (n<0)=false:=Qf h1
 by_cases h2:(l.length:Int)<n
 ·have Hn:=Qh (show treeR l n=([],2) by rw [treeR,if_pos (.inr h2)])
  have d2:decide ((l.length:Int)<n)=true:=Qt h2
  clear h1 h2
  go_enter Tryz.func25,Tryz.ntmps25
  go_wp2
  go_ret2
  rw [Hn.out]
  exact ⟨_,I,rfl,Qb _ _,Ext.refl _ _,hw,RdS.nil _ _⟩
 have d2:decide ((l.length:Int)<n)=false:=Qf h2
 obtain ⟨m,rfl⟩:∃m:Nat,n=(m:Int):=⟨n.toNat,by omega⟩
 have Hn:=Qh (show treeR l (m:Int)=((aftS nilS (l.take m)).tree,0) by rw [treeR,if_neg (by omega)];rfl)
 have hml:m≤l.length:=by omega
 have hfd:∀(a b:Value) (w:World),(Instr.field 69 (.agg #[a,b]) 0).run Tryz.prog w= .ok a w:=fun _ _ _=>by kernel_rfl
 clear h1 h2
 go_enter Tryz.func25,Tryz.ntmps25
 go_wp2_with fail
 refine (Ha.out m hml w hw).mono ?_
 rintro e1 w1 ⟨vt,vh,J,rfl,hb,hx,hok,ht,hh⟩
 have Ht:=Qh ht
 clear ht hh
 go_wp2
 go_ret2
 rw [Hn.out]
 exact ⟨_,J,rfl,hb,hx,hok,Ht.out⟩
set_option maxRecDepth 100000 in
set_option maxHeartbeats 1000000 in
theorem Xm2 (I:IH) (v:Value) (l:List Ses) (hv:RdS tSes I v l) (hg:∀x∈l,SesG x) (hn:l.length≤1000) (n:Int) (w:World) (hw:Ok I w):
 Calls Tryz.prog 29 #[v,.int .i64 n] w (RetS tHo I w (holdsR l n)):=by
 obtain ⟨ao,cap,rfl,_,_,_⟩:=id hv
 have Ha:=Qh (fun m hm w hw=>Xc3 I _ l hv hg hn m hm w hw)
 clear hv hg
 by_cases h1:n<0
 ·have Hn:=Qh (show holdsR l n= [] by rw [holdsR,if_pos (.inl h1)])
  have d1:decide (n<0)=true:=Qt h1
  clear h1
  go_enter Tryz.func29,Tryz.ntmps29
  go_wp2
  go_ret
  rw [Hn.out]
  exact ⟨_,I,rfl,Qb _ _,Ext.refl _ _,hw,RdS.nil _ _⟩
 have d1:decide (n<0)=false:=Qf h1
 by_cases h2:(l.length:Int)<n
 ·have Hn:=Qh (show holdsR l n= [] by rw [holdsR,if_pos (.inr h2)])
  have d2:decide ((l.length:Int)<n)=true:=Qt h2
  clear h1 h2
  go_enter Tryz.func29,Tryz.ntmps29
  go_wp2
  go_ret
  rw [Hn.out]
  exact ⟨_,I,rfl,Qb _ _,Ext.refl _ _,hw,RdS.nil _ _⟩
 have d2:decide ((l.length:Int)<n)=false:=Qf h2
 obtain ⟨m,rfl⟩:∃m:Nat,n=(m:Int):=⟨n.toNat,by omega⟩
 have Hn:=Qh (show holdsR l (m:Int)=(aftS nilS (l.take m)).holds by rw [holdsR,if_neg (by omega)];rfl)
 have hml:m≤l.length:=by omega
 have hfd:∀(a b:Value) (w:World),(Instr.field 69 (.agg #[a,b]) 1).run Tryz.prog w= .ok b w:=fun _ _ _=>by kernel_rfl
 clear h1 h2
 go_enter Tryz.func29,Tryz.ntmps29
 go_wp2_with fail
 refine (Ha.out m hml w hw).mono ?_
 rintro e1 w1 ⟨vt,vh,J,rfl,hb,hx,hok,ht,hh⟩
 have Hh:=Qh hh
 clear ht hh
 go_wp2
 go_ret
 rw [Hn.out]
 exact ⟨_,J,rfl,hb,hx,hok,Hh.out⟩
end Go.Proofs.YtdeknddamidldaaGreatDoor
