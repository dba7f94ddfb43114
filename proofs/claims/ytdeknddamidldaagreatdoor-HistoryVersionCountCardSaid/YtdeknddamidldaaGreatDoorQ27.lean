/-
  Walks and laws that the claim's theorem uses: texts HsC HiS, joined; comments out. Conditions: as each theorem says.
-/
import Derived.Test.YtdeknddamidldaaGreatDoorQ26
namespace Go.Proofs.YtdeknddamidldaaGreatDoor
open Go.RowKit
structure ApW (n:Nat) (W:World) (vt vh:Value) (e:Ent) (va vx:Value):Prop where
 s0:W.cell? ⟨n,0,none⟩=some vt
 s1:W.cell? ⟨n,1,none⟩=some vh
 eb:EntB W (n+1) e va vx
 row:W.heap[n+1+1]? =some (.cells #[.slice none 0 0,.slice none 0 0] 64 (0,0))
theorem ApW.thru {n:Nat} {W W':World} {vt vh:Value} {e:Ent} {va vx:Value} (h:ApW n W vt vh e va vx) (hb:Below W.heap.size W W'):ApW n W' vt vh e va vx:=
 ⟨Xaa hb h.s0,Xaa hb h.s1,h.eb.thru hb,(hb.block _ (Array.getElem?_eq_some_iff.1 h.row).1).trans h.row⟩
theorem Xc9 (t:List Ent) (p:Bytes):(getE t p).2=(getT t p).isSome:=by
 unfold getE
 cases getT t p<;>rfl
set_option maxRecDepth 100000 in
set_option maxHeartbeats 4000000 in
theorem Xjw (I:IH) (hI:Glob I) (s:Stt) (vt vh:Value) (hvt:RdS tEnt I vt s.tree) (hvh:RdS tHo I vh s.holds) (hs:SmlT s.tree) (hsr:SrtT s.tree) (hn:s.tree.length≤100000) (hk:HOk s.holds) (hnh:s.holds.length≤100000) (e:Ent) (va vx:Value) (hva:RdS tAt I va e.attrs) (hvx:RdS tXt I vx e.exts) (hwf:e.Wf) (hpl:e.path.length≤4294967280) (htl:e.target.length≤4294967280) (d:Int) (w:World) (hw:Ok I w):
 Calls Tryz.prog 32 #[sttV vt vh,entV e va vx,.int .i64 d] w (RetT I w (stpP s e d).1 (stpP s e d).2):=by
 by_cases h:(applyT s.tree e).2=0
 case neg=>exact Xlm I hI s vt vh hvt hvh hs hsr hn e va vx hva hvx hwf hpl htl d h w hw
 have Ha:=Qh (fun w hw=>Xon I hI vt s.tree hvt hs hsr hn e va vx hva hvx hwf hpl htl w hw)
 have he:entErr e=0:=(applyT_iff.1 (Xcl h)).1.ent
 have hke:=Xba he
 have HG:=Qh hI
 have Hk:=Qh hk
 have Hvt:=Qh hvt
 have Hvh:=Qh hvh
 have Hva:=Qh hva
 have Hvx:=Qh hvx
 have Hap:=Qh (fun I hI v va vx hv hva hvx w hw=>Xs8 I hI v s.holds hv hk hnh e va vx hva hvx he d w hw)
 obtain ⟨at',ct,rfl,_,_,_⟩:=id hvt
 obtain ⟨ah,ch,rfl,_,_,_⟩:=id hvh
 obtain ⟨aa,ca,rfl,_,_,_⟩:=id hva
 obtain ⟨ax,cx,rfl,_,_,_⟩:=id hvx
 have hi2:(Tryz.prog.info? 64).map (·.size)=some 2:=by kernel_rfl
 have Hi2:=Qh hi2
 obtain ⟨t2,ht2⟩:∃t2,(applyT s.tree e).1=t2:=⟨_,rfl⟩
 have hx:applyT s.tree e=(t2,0):=by rw [←ht2,←h]
 obtain ⟨h2,m,hah⟩:∃h2 m,appH s.holds e d=(h2,m):=⟨_,_,rfl⟩
 obtain ⟨al,hal⟩:∃al,alwP s.holds e.kind e.path d=al:=⟨_,rfl⟩
 obtain ⟨hb,hgt⟩:∃hb,(getE s.tree e.path).2=hb:=⟨_,rfl⟩
 obtain ⟨cr,hcr⟩:∃cr,(e.kind==1 || e.kind==2 || e.kind==3)=cr:=⟨_,rfl⟩
 have hcr3:(3<e.kind)↔cr=false:=by
  rw [←hcr]
  have e1:(e.kind==1)=decide (e.kind=1):=rfl
  have e2:(e.kind==2)=decide (e.kind=2):=rfl
  have e3:(e.kind==3)=decide (e.kind=3):=rfl
  rw [e1,e2,e3]
  simp only [Bool.or_eq_false_iff,decide_eq_false_iff_not]
  omega
 have hask:askP s e d=if cr=false∨hb=true then al else 0:=by
  unfold askP
  rw [hal,←Xc9,hgt]
  by_cases q:3<e.kind∨hb=true
  ·rw [if_pos q,if_pos (q.imp hcr3.1 id)]
  ·rw [if_neg q,if_neg fun k=>q (k.imp hcr3.2 id)]
 have hst:stpP s e d=if askP s e d≠0 then (s,askP s e d) else if m≠0 then (s,m) else (⟨t2,h2⟩,0):=by
  rw [stpP,if_neg (by omega),hah,ht2]
 rw [hx] at Ha
 rw [hah] at Hap
 have Hcr:=Qh hcr
 have Hgt:=Qh hgt
 have Hal:=Qh hal
 clear hvt hvh hva hvx hi2 hx hah hcr hgt hal hcr3 hI hk h ht2 hs hsr he hke hn hwf htl
 cases cr
 case false=>
  by_cases ha:al=0
  ·have HnewN:=Qh (fun (hm:m=0)=>show stpP s e d=(⟨t2,h2⟩,0) by rw [hst,(show askP s e d=al by rw [hask,if_pos (.inl rfl)]),if_neg (show ¬(al≠0) by omega),if_neg (show ¬(m≠0) by omega)])
   have HnewE:=Qh (fun (hm:¬m=0)=>show stpP s e d=(s,m) by rw [hst,(show askP s e d=al by rw [hask,if_pos (.inl rfl)]),if_neg (show ¬(al≠0) by omega),if_pos hm])
   subst ha
   clear hst hask
   go_enter Tryz.func32,Tryz.ntmps32
   go_wp2_with fail
   refine (Ha.out _ (((hw.alloc _).alloc _).alloc _)).mono ?_
   rintro e1 w1 ⟨v2,I1,rfl,hb1,hx1,hok1,hr2⟩
   have hrow:w1.heap[w.heap.size+1+1]? =some (.cells #[.slice none 0 0,.slice none 0 0] 64 (0,0)):=(hb1.block _ (by simp)).trans (by have:=heap_alloc_new ((w.alloc (.cells #[.slice at' s.tree.length ct,.slice ah s.holds.length ch] 64)).alloc (.cells #[.int .i64 e.kind,S e.path,.slice aa e.attrs.length ca,S e.target,.int .i64 e.size,S e.digest,.slice ax e.exts.length cx] 39)) (.cells #[.slice none 0 0,.slice none 0 0] 64);simpa using this)
   have heb:EntB ((w.alloc (.cells #[.slice at' s.tree.length ct,.slice ah s.holds.length ch] 64)).alloc (.cells #[.int .i64 e.kind,S e.path,.slice aa e.attrs.length ca,S e.target,.int .i64 e.size,S e.digest,.slice ax e.exts.length cx] 39)) (w.heap.size+1) e (.slice aa e.attrs.length ca) (.slice ax e.exts.length cx):=entB (by simp) (Qb _ _)
   have AW1:=Qh (ApW.mk (Xaa hb1 (Xab _ (Xab _ (by simp)))) (Xaa hb1 (Xab _ (Xab _ (by simp)))) ((heb.past _).thru hb1) hrow:ApW w.heap.size w1 (.slice at' s.tree.length ct) (.slice ah s.holds.length ch) e (.slice aa e.attrs.length ca) (.slice ax e.exts.length cx))
   have hb1':Below w.heap.size w w1:=((((Qb w.heap.size w).alloc (Qn _) (.cells #[.slice at' s.tree.length ct,.slice ah s.holds.length ch] 64)).alloc (by simp) (.cells #[.int .i64 e.kind,S e.path,.slice aa e.attrs.length ca,S e.target,.int .i64 e.size,S e.digest,.slice ax e.exts.length cx] 39)).alloc (by simp;omega) (.cells #[.slice none 0 0,.slice none 0 0] 64)).trans (hb1.mono (by simp;omega))
   have hx1':Ext (w.heap.size+1+1+1) I I1:=hx1.mono (by simp)
   have hkp:=(hx1'.mono (show w.heap.size≤_ by omega)).keep hw (Qn _)
   have Hx1:=Qh hx1'
   have Hr2:=Qh hr2
   have HG1:=Qh (HG.out.mono hkp)
   have Hvt1:=Qh (Hvt.out.mono hkp)
   have Hvh1:=Qh (Hvh.out.mono hkp)
   have Hva1:=Qh (Hva.out.mono hkp)
   have Hvx1:=Qh (Hvx.out.mono hkp)
   obtain ⟨a2,c2',rfl,_,_,_⟩:=id hr2
   clear hb1 hrow heb hx1 hx1' hkp hr2 Ha
   obtain ⟨s0,s1,⟨c0,c1,c2,c3,c4,c5,c6⟩,_⟩:=AW1.out
   go_wp2_with fail
   refine (Xcb I1 e _ _ Hva1.out Hvx1.out w1).mono ?_
   rintro e2 w2 ⟨rfl,hb2⟩
   rw [Hcr.out]
   have hok2:Ok I1 w2:=hok1.below (Qn _) hb2
   have AW2:=Qh (AW1.out.thru hb2)
   have hb2':=hb1'.trans (hb2.mono hb1'.size)
   clear hb2 hb1' AW1 hok1 s0 s1 c0 c1 c2 c3 c4 c5 c6
   obtain ⟨s0,s1,⟨c0,c1,c2,c3,c4,c5,c6⟩,_⟩:=AW2.out
   go_wp2_with fail
   refine (Xdw I1 HG1.out _ s.holds Hvh1.out Hk.out hnh e _ _ Hva1.out Hvx1.out hpl d w2 hok2).mono ?_
   rintro e4 w4 ⟨rfl,hb4⟩
   rw [Hal.out]
   have hok4:Ok I1 w4:=hok2.below (Qn _) hb4
   have AW4:=Qh (AW2.out.thru hb4)
   have hb4':=hb2'.trans (hb4.mono hb2'.size)
   clear hb4 hb2' AW2 hok2 s0 s1 c0 c1 c2 c3 c4 c5 c6
   obtain ⟨s0,s1,⟨c0,c1,c2,c3,c4,c5,c6⟩,_⟩:=AW4.out
   by_cases hm:m=0
   ·have Hn:=Qh (HnewN.out hm)
    subst hm
    go_wp2_with fail
    refine (Hap.out I1 HG1.out _ _ _ Hvh1.out Hva1.out Hvx1.out w4 hok4).mono ?_
    rintro e5 w5 ⟨vh2,I2,rfl,hb5,hx2,hok5,hr3⟩
    obtain ⟨a3,c3',rfl,_,_,_⟩:=id hr3
    have Hr3:=Qh hr3
    have AW5:=Qh (AW4.out.thru hb5)
    have Hx2:=Qh (Hx1.out.trans hx2 (by have:=(Array.getElem?_eq_some_iff.1 AW4.out.row).1;omega))
    have Hkp2:=Qh (hx2.keep hok4 (Qn _))
    have hb5':=hb4'.trans (hb5.mono hb4'.size)
    clear hb5 hb4' AW4 hok4 s0 s1 c0 c1 c2 c3 c4 c5 c6 hr3 hx2
    obtain ⟨s0,s1,⟨c0,c1,c2,c3,c4,c5,c6⟩,_⟩:=AW5.out
    have r0:w5.cell? ⟨w.heap.size+1+1,0,none⟩=some (.slice none 0 0):=(cell_of_row w5 _ 0 _ _ _ AW5.out.row).trans rfl
    have r1:w5.cell? ⟨w.heap.size+1+1,1,none⟩=some (.slice none 0 0):=(cell_of_row w5 _ 1 _ _ _ AW5.out.row).trans rfl
    have f0:=frozen_of_row w5 _ 0 _ _ AW5.out.row
    have f1:=frozen_of_row w5 _ 1 _ _ AW5.out.row
    go_wp2
    have hW:=heap_setCell_same _ (w.heap.size+1+1) 1 _ _ (.slice a3 h2.length c3') (heap_setCell_same w5 (w.heap.size+1+1) 0 _ _ (.slice a2 t2.length c2') AW5.out.row)
    refine bodyPost_ret (v:= .tuple #[sttV (.slice a2 t2.length c2') (.slice a3 h2.length c3'),.int .i64 0]) ?_ rfl ?_
    ·rw [results_cell_tmp rfl]
     simp [asAddr,run_loadVar_row _ (w.heap.size+1+1) 64 64 #[(.slice a2 t2.length c2'),(.slice a3 h2.length c3')] (0,0) _ hW Tryz.underlying64 rfl Hi2.out]
    ·rw [Hn.out]
     have hfr:I2 (w.heap.size+1+1)=none:=(Hx2.out _ (by omega)).trans (hw.fresh (by omega))
     exact ⟨_,_,I2,rfl,(hb5'.setCell (by simp;omega) _).setCell (by simp;omega) _,Ext.mono Hx2.out (by omega),(Ok.setCell hok5 hfr _).setCell hfr _,(Hr2.out.mono Hkp2.out),Hr3.out⟩
   ·have Hn:=Qh (HnewE.out hm)
    have hm0:(m != 0)=true:=by simpa using hm
    clear hm
    go_wp2_with fail
    refine (Hap.out I1 HG1.out _ _ _ Hvh1.out Hva1.out Hvx1.out w4 hok4).mono ?_
    rintro e5 w5 ⟨vh2,I2,rfl,hb5,hx2,hok5,hr3⟩
    obtain ⟨a3,c3',rfl,_,_,_⟩:=id hr3
    have Hr3:=Qh hr3
    have AW5:=Qh (AW4.out.thru hb5)
    have Hx2:=Qh (Hx1.out.trans hx2 (by have:=(Array.getElem?_eq_some_iff.1 AW4.out.row).1;omega))
    have Hkp2:=Qh (hx2.keep hok4 (Qn _))
    have hb5':=hb4'.trans (hb5.mono hb4'.size)
    clear hb5 hb4' AW4 hok4 s0 s1 c0 c1 c2 c3 c4 c5 c6 hr3 hx2
    obtain ⟨s0,s1,⟨c0,c1,c2,c3,c4,c5,c6⟩,_⟩:=AW5.out
    have r0:w5.cell? ⟨w.heap.size+1+1,0,none⟩=some (.slice none 0 0):=(cell_of_row w5 _ 0 _ _ _ AW5.out.row).trans rfl
    have r1:w5.cell? ⟨w.heap.size+1+1,1,none⟩=some (.slice none 0 0):=(cell_of_row w5 _ 1 _ _ _ AW5.out.row).trans rfl
    have f0:=frozen_of_row w5 _ 0 _ _ AW5.out.row
    have f1:=frozen_of_row w5 _ 1 _ _ AW5.out.row
    go_wp2
    have hW:=heap_setCell_same _ (w.heap.size+1+1) 1 _ _ (.slice ah s.holds.length ch) (heap_setCell_same w5 (w.heap.size+1+1) 0 _ _ (.slice at' s.tree.length ct) AW5.out.row)
    refine bodyPost_ret (v:= .tuple #[sttV (.slice at' s.tree.length ct) (.slice ah s.holds.length ch),.int .i64 m]) ?_ rfl ?_
    ·rw [results_cell_tmp rfl]
     simp [asAddr,run_loadVar_row _ (w.heap.size+1+1) 64 64 #[(.slice at' s.tree.length ct),(.slice ah s.holds.length ch)] (0,0) _ hW Tryz.underlying64 rfl Hi2.out]
    ·rw [Hn.out]
     have hfr:I2 (w.heap.size+1+1)=none:=(Hx2.out _ (by omega)).trans (hw.fresh (by omega))
     exact ⟨_,_,I2,rfl,(hb5'.setCell (by simp;omega) _).setCell (by simp;omega) _,Ext.mono Hx2.out (by omega),(Ok.setCell hok5 hfr _).setCell hfr _,(Hvt1.out.mono Hkp2.out),(Hvh1.out.mono Hkp2.out)⟩
  ·have Hn:=Qh (show stpP s e d=(s,al) by rw [hst,(show askP s e d=al by rw [hask,if_pos (.inl rfl)]),if_pos ha])
   have ha0:(al != 0)=true:=by simpa using ha
   clear hst hask ha Hap
   go_enter Tryz.func32,Tryz.ntmps32
   go_wp2_with fail
   refine (Ha.out _ (((hw.alloc _).alloc _).alloc _)).mono ?_
   rintro e1 w1 ⟨v2,I1,rfl,hb1,hx1,hok1,hr2⟩
   have hrow:w1.heap[w.heap.size+1+1]? =some (.cells #[.slice none 0 0,.slice none 0 0] 64 (0,0)):=(hb1.block _ (by simp)).trans (by have:=heap_alloc_new ((w.alloc (.cells #[.slice at' s.tree.length ct,.slice ah s.holds.length ch] 64)).alloc (.cells #[.int .i64 e.kind,S e.path,.slice aa e.attrs.length ca,S e.target,.int .i64 e.size,S e.digest,.slice ax e.exts.length cx] 39)) (.cells #[.slice none 0 0,.slice none 0 0] 64);simpa using this)
   have heb:EntB ((w.alloc (.cells #[.slice at' s.tree.length ct,.slice ah s.holds.length ch] 64)).alloc (.cells #[.int .i64 e.kind,S e.path,.slice aa e.attrs.length ca,S e.target,.int .i64 e.size,S e.digest,.slice ax e.exts.length cx] 39)) (w.heap.size+1) e (.slice aa e.attrs.length ca) (.slice ax e.exts.length cx):=entB (by simp) (Qb _ _)
   have AW1:=Qh (ApW.mk (Xaa hb1 (Xab _ (Xab _ (by simp)))) (Xaa hb1 (Xab _ (Xab _ (by simp)))) ((heb.past _).thru hb1) hrow:ApW w.heap.size w1 (.slice at' s.tree.length ct) (.slice ah s.holds.length ch) e (.slice aa e.attrs.length ca) (.slice ax e.exts.length cx))
   have hb1':Below w.heap.size w w1:=((((Qb w.heap.size w).alloc (Qn _) (.cells #[.slice at' s.tree.length ct,.slice ah s.holds.length ch] 64)).alloc (by simp) (.cells #[.int .i64 e.kind,S e.path,.slice aa e.attrs.length ca,S e.target,.int .i64 e.size,S e.digest,.slice ax e.exts.length cx] 39)).alloc (by simp;omega) (.cells #[.slice none 0 0,.slice none 0 0] 64)).trans (hb1.mono (by simp;omega))
   have hx1':Ext (w.heap.size+1+1+1) I I1:=hx1.mono (by simp)
   have hkp:=(hx1'.mono (show w.heap.size≤_ by omega)).keep hw (Qn _)
   have Hx1:=Qh hx1'
   have Hr2:=Qh hr2
   have HG1:=Qh (HG.out.mono hkp)
   have Hvt1:=Qh (Hvt.out.mono hkp)
   have Hvh1:=Qh (Hvh.out.mono hkp)
   have Hva1:=Qh (Hva.out.mono hkp)
   have Hvx1:=Qh (Hvx.out.mono hkp)
   obtain ⟨a2,c2',rfl,_,_,_⟩:=id hr2
   clear hb1 hrow heb hx1 hx1' hkp hr2 Ha
   obtain ⟨s0,s1,⟨c0,c1,c2,c3,c4,c5,c6⟩,_⟩:=AW1.out
   go_wp2_with fail
   refine (Xcb I1 e _ _ Hva1.out Hvx1.out w1).mono ?_
   rintro e2 w2 ⟨rfl,hb2⟩
   rw [Hcr.out]
   have hok2:Ok I1 w2:=hok1.below (Qn _) hb2
   have AW2:=Qh (AW1.out.thru hb2)
   have hb2':=hb1'.trans (hb2.mono hb1'.size)
   clear hb2 hb1' AW1 hok1 s0 s1 c0 c1 c2 c3 c4 c5 c6
   obtain ⟨s0,s1,⟨c0,c1,c2,c3,c4,c5,c6⟩,_⟩:=AW2.out
   go_wp2_with fail
   refine (Xdw I1 HG1.out _ s.holds Hvh1.out Hk.out hnh e _ _ Hva1.out Hvx1.out hpl d w2 hok2).mono ?_
   rintro e4 w4 ⟨rfl,hb4⟩
   rw [Hal.out]
   have hok4:Ok I1 w4:=hok2.below (Qn _) hb4
   have AW4:=Qh (AW2.out.thru hb4)
   have hb4':=hb2'.trans (hb4.mono hb2'.size)
   clear hb4 hb2' AW2 hok2 s0 s1 c0 c1 c2 c3 c4 c5 c6
   obtain ⟨s0,s1,⟨c0,c1,c2,c3,c4,c5,c6⟩,_⟩:=AW4.out
   have r0:w4.cell? ⟨w.heap.size+1+1,0,none⟩=some (.slice none 0 0):=(cell_of_row w4 _ 0 _ _ _ AW4.out.row).trans rfl
   have r1:w4.cell? ⟨w.heap.size+1+1,1,none⟩=some (.slice none 0 0):=(cell_of_row w4 _ 1 _ _ _ AW4.out.row).trans rfl
   have f0:=frozen_of_row w4 _ 0 _ _ AW4.out.row
   have f1:=frozen_of_row w4 _ 1 _ _ AW4.out.row
   go_wp2
   have hW:=heap_setCell_same _ (w.heap.size+1+1) 1 _ _ (.slice ah s.holds.length ch) (heap_setCell_same w4 (w.heap.size+1+1) 0 _ _ (.slice at' s.tree.length ct) AW4.out.row)
   refine bodyPost_ret (v:= .tuple #[sttV (.slice at' s.tree.length ct) (.slice ah s.holds.length ch),.int .i64 al]) ?_ rfl ?_
   ·rw [results_cell_tmp rfl]
    simp [asAddr,run_loadVar_row _ (w.heap.size+1+1) 64 64 #[(.slice at' s.tree.length ct),(.slice ah s.holds.length ch)] (0,0) _ hW Tryz.underlying64 rfl Hi2.out]
   ·rw [Hn.out]
    have hfr:I1 (w.heap.size+1+1)=none:=(Hx1.out _ (by omega)).trans (hw.fresh (by omega))
    exact ⟨_,_,I1,rfl,(hb4'.setCell (by simp;omega) _).setCell (by simp;omega) _,Ext.mono Hx1.out (by omega),(Ok.setCell hok4 hfr _).setCell hfr _,Hvt1.out,Hvh1.out⟩
 case true=>
  cases hb
  case false=>
   have HnewN:=Qh (fun (hm:m=0)=>show stpP s e d=(⟨t2,h2⟩,0) by rw [hst,(show askP s e d=0 by rw [hask,if_neg (by simp)]),if_neg (show ¬((0:Int)≠0) by decide),if_neg (show ¬(m≠0) by omega)])
   have HnewE:=Qh (fun (hm:¬m=0)=>show stpP s e d=(s,m) by rw [hst,(show askP s e d=0 by rw [hask,if_neg (by simp)]),if_neg (show ¬((0:Int)≠0) by decide),if_pos hm])
   clear hst hask
   go_enter Tryz.func32,Tryz.ntmps32
   go_wp2_with fail
   refine (Ha.out _ (((hw.alloc _).alloc _).alloc _)).mono ?_
   rintro e1 w1 ⟨v2,I1,rfl,hb1,hx1,hok1,hr2⟩
   have hrow:w1.heap[w.heap.size+1+1]? =some (.cells #[.slice none 0 0,.slice none 0 0] 64 (0,0)):=(hb1.block _ (by simp)).trans (by have:=heap_alloc_new ((w.alloc (.cells #[.slice at' s.tree.length ct,.slice ah s.holds.length ch] 64)).alloc (.cells #[.int .i64 e.kind,S e.path,.slice aa e.attrs.length ca,S e.target,.int .i64 e.size,S e.digest,.slice ax e.exts.length cx] 39)) (.cells #[.slice none 0 0,.slice none 0 0] 64);simpa using this)
   have heb:EntB ((w.alloc (.cells #[.slice at' s.tree.length ct,.slice ah s.holds.length ch] 64)).alloc (.cells #[.int .i64 e.kind,S e.path,.slice aa e.attrs.length ca,S e.target,.int .i64 e.size,S e.digest,.slice ax e.exts.length cx] 39)) (w.heap.size+1) e (.slice aa e.attrs.length ca) (.slice ax e.exts.length cx):=entB (by simp) (Qb _ _)
   have AW1:=Qh (ApW.mk (Xaa hb1 (Xab _ (Xab _ (by simp)))) (Xaa hb1 (Xab _ (Xab _ (by simp)))) ((heb.past _).thru hb1) hrow:ApW w.heap.size w1 (.slice at' s.tree.length ct) (.slice ah s.holds.length ch) e (.slice aa e.attrs.length ca) (.slice ax e.exts.length cx))
   have hb1':Below w.heap.size w w1:=((((Qb w.heap.size w).alloc (Qn _) (.cells #[.slice at' s.tree.length ct,.slice ah s.holds.length ch] 64)).alloc (by simp) (.cells #[.int .i64 e.kind,S e.path,.slice aa e.attrs.length ca,S e.target,.int .i64 e.size,S e.digest,.slice ax e.exts.length cx] 39)).alloc (by simp;omega) (.cells #[.slice none 0 0,.slice none 0 0] 64)).trans (hb1.mono (by simp;omega))
   have hx1':Ext (w.heap.size+1+1+1) I I1:=hx1.mono (by simp)
   have hkp:=(hx1'.mono (show w.heap.size≤_ by omega)).keep hw (Qn _)
   have Hx1:=Qh hx1'
   have Hr2:=Qh hr2
   have HG1:=Qh (HG.out.mono hkp)
   have Hvt1:=Qh (Hvt.out.mono hkp)
   have Hvh1:=Qh (Hvh.out.mono hkp)
   have Hva1:=Qh (Hva.out.mono hkp)
   have Hvx1:=Qh (Hvx.out.mono hkp)
   obtain ⟨a2,c2',rfl,_,_,_⟩:=id hr2
   clear hb1 hrow heb hx1 hx1' hkp hr2 Ha
   obtain ⟨s0,s1,⟨c0,c1,c2,c3,c4,c5,c6⟩,_⟩:=AW1.out
   go_wp2_with fail
   refine (Xcb I1 e _ _ Hva1.out Hvx1.out w1).mono ?_
   rintro e2 w2 ⟨rfl,hb2⟩
   rw [Hcr.out]
   have hok2:Ok I1 w2:=hok1.below (Qn _) hb2
   have AW2:=Qh (AW1.out.thru hb2)
   have hb2':=hb1'.trans (hb2.mono hb1'.size)
   clear hb2 hb1' AW1 hok1 s0 s1 c0 c1 c2 c3 c4 c5 c6
   obtain ⟨s0,s1,⟨c0,c1,c2,c3,c4,c5,c6⟩,_⟩:=AW2.out
   go_wp2_with fail
   refine (Xog I1 _ _ s.tree s.holds Hvt1.out Hvh1.out e.path w2 hok2).mono ?_
   rintro e3 w3 ⟨rfl,hb3⟩
   rw [Hgt.out]
   have hok3:Ok I1 w3:=hok2.below (Qn _) hb3
   have AW3:=Qh (AW2.out.thru hb3)
   have hb3':=hb2'.trans (hb3.mono hb2'.size)
   clear hb3 hb2' AW2 hok2 s0 s1 c0 c1 c2 c3 c4 c5 c6
   obtain ⟨s0,s1,⟨c0,c1,c2,c3,c4,c5,c6⟩,_⟩:=AW3.out
   by_cases hm:m=0
   ·have Hn:=Qh (HnewN.out hm)
    subst hm
    go_wp2_with fail
    refine (Hap.out I1 HG1.out _ _ _ Hvh1.out Hva1.out Hvx1.out w3 hok3).mono ?_
    rintro e5 w5 ⟨vh2,I2,rfl,hb5,hx2,hok5,hr3⟩
    obtain ⟨a3,c3',rfl,_,_,_⟩:=id hr3
    have Hr3:=Qh hr3
    have AW5:=Qh (AW3.out.thru hb5)
    have Hx2:=Qh (Hx1.out.trans hx2 (by have:=(Array.getElem?_eq_some_iff.1 AW3.out.row).1;omega))
    have Hkp2:=Qh (hx2.keep hok3 (Qn _))
    have hb5':=hb3'.trans (hb5.mono hb3'.size)
    clear hb5 hb3' AW3 hok3 s0 s1 c0 c1 c2 c3 c4 c5 c6 hr3 hx2
    obtain ⟨s0,s1,⟨c0,c1,c2,c3,c4,c5,c6⟩,_⟩:=AW5.out
    have r0:w5.cell? ⟨w.heap.size+1+1,0,none⟩=some (.slice none 0 0):=(cell_of_row w5 _ 0 _ _ _ AW5.out.row).trans rfl
    have r1:w5.cell? ⟨w.heap.size+1+1,1,none⟩=some (.slice none 0 0):=(cell_of_row w5 _ 1 _ _ _ AW5.out.row).trans rfl
    have f0:=frozen_of_row w5 _ 0 _ _ AW5.out.row
    have f1:=frozen_of_row w5 _ 1 _ _ AW5.out.row
    go_wp2
    have hW:=heap_setCell_same _ (w.heap.size+1+1) 1 _ _ (.slice a3 h2.length c3') (heap_setCell_same w5 (w.heap.size+1+1) 0 _ _ (.slice a2 t2.length c2') AW5.out.row)
    refine bodyPost_ret (v:= .tuple #[sttV (.slice a2 t2.length c2') (.slice a3 h2.length c3'),.int .i64 0]) ?_ rfl ?_
    ·rw [results_cell_tmp rfl]
     simp [asAddr,run_loadVar_row _ (w.heap.size+1+1) 64 64 #[(.slice a2 t2.length c2'),(.slice a3 h2.length c3')] (0,0) _ hW Tryz.underlying64 rfl Hi2.out]
    ·rw [Hn.out]
     have hfr:I2 (w.heap.size+1+1)=none:=(Hx2.out _ (by omega)).trans (hw.fresh (by omega))
     exact ⟨_,_,I2,rfl,(hb5'.setCell (by simp;omega) _).setCell (by simp;omega) _,Ext.mono Hx2.out (by omega),(Ok.setCell hok5 hfr _).setCell hfr _,(Hr2.out.mono Hkp2.out),Hr3.out⟩
   ·have Hn:=Qh (HnewE.out hm)
    have hm0:(m != 0)=true:=by simpa using hm
    clear hm
    go_wp2_with fail
    refine (Hap.out I1 HG1.out _ _ _ Hvh1.out Hva1.out Hvx1.out w3 hok3).mono ?_
    rintro e5 w5 ⟨vh2,I2,rfl,hb5,hx2,hok5,hr3⟩
    obtain ⟨a3,c3',rfl,_,_,_⟩:=id hr3
    have Hr3:=Qh hr3
    have AW5:=Qh (AW3.out.thru hb5)
    have Hx2:=Qh (Hx1.out.trans hx2 (by have:=(Array.getElem?_eq_some_iff.1 AW3.out.row).1;omega))
    have Hkp2:=Qh (hx2.keep hok3 (Qn _))
    have hb5':=hb3'.trans (hb5.mono hb3'.size)
    clear hb5 hb3' AW3 hok3 s0 s1 c0 c1 c2 c3 c4 c5 c6 hr3 hx2
    obtain ⟨s0,s1,⟨c0,c1,c2,c3,c4,c5,c6⟩,_⟩:=AW5.out
    have r0:w5.cell? ⟨w.heap.size+1+1,0,none⟩=some (.slice none 0 0):=(cell_of_row w5 _ 0 _ _ _ AW5.out.row).trans rfl
    have r1:w5.cell? ⟨w.heap.size+1+1,1,none⟩=some (.slice none 0 0):=(cell_of_row w5 _ 1 _ _ _ AW5.out.row).trans rfl
    have f0:=frozen_of_row w5 _ 0 _ _ AW5.out.row
    have f1:=frozen_of_row w5 _ 1 _ _ AW5.out.row
    go_wp2
    have hW:=heap_setCell_same _ (w.heap.size+1+1) 1 _ _ (.slice ah s.holds.length ch) (heap_setCell_same w5 (w.heap.size+1+1) 0 _ _ (.slice at' s.tree.length ct) AW5.out.row)
    refine bodyPost_ret (v:= .tuple #[sttV (.slice at' s.tree.length ct) (.slice ah s.holds.length ch),.int .i64 m]) ?_ rfl ?_
    ·rw [results_cell_tmp rfl]
     simp [asAddr,run_loadVar_row _ (w.heap.size+1+1) 64 64 #[(.slice at' s.tree.length ct),(.slice ah s.holds.length ch)] (0,0) _ hW Tryz.underlying64 rfl Hi2.out]
    ·rw [Hn.out]
     have hfr:I2 (w.heap.size+1+1)=none:=(Hx2.out _ (by omega)).trans (hw.fresh (by omega))
     exact ⟨_,_,I2,rfl,(hb5'.setCell (by simp;omega) _).setCell (by simp;omega) _,Ext.mono Hx2.out (by omega),(Ok.setCell hok5 hfr _).setCell hfr _,(Hvt1.out.mono Hkp2.out),(Hvh1.out.mono Hkp2.out)⟩
  case true=>
   by_cases ha:al=0
   ·have HnewN:=Qh (fun (hm:m=0)=>show stpP s e d=(⟨t2,h2⟩,0) by rw [hst,(show askP s e d=al by rw [hask,if_pos (.inr rfl)]),if_neg (show ¬(al≠0) by omega),if_neg (show ¬(m≠0) by omega)])
    have HnewE:=Qh (fun (hm:¬m=0)=>show stpP s e d=(s,m) by rw [hst,(show askP s e d=al by rw [hask,if_pos (.inr rfl)]),if_neg (show ¬(al≠0) by omega),if_pos hm])
    subst ha
    clear hst hask
    go_enter Tryz.func32,Tryz.ntmps32
    go_wp2_with fail
    refine (Ha.out _ (((hw.alloc _).alloc _).alloc _)).mono ?_
    rintro e1 w1 ⟨v2,I1,rfl,hb1,hx1,hok1,hr2⟩
    have hrow:w1.heap[w.heap.size+1+1]? =some (.cells #[.slice none 0 0,.slice none 0 0] 64 (0,0)):=(hb1.block _ (by simp)).trans (by have:=heap_alloc_new ((w.alloc (.cells #[.slice at' s.tree.length ct,.slice ah s.holds.length ch] 64)).alloc (.cells #[.int .i64 e.kind,S e.path,.slice aa e.attrs.length ca,S e.target,.int .i64 e.size,S e.digest,.slice ax e.exts.length cx] 39)) (.cells #[.slice none 0 0,.slice none 0 0] 64);simpa using this)
    have heb:EntB ((w.alloc (.cells #[.slice at' s.tree.length ct,.slice ah s.holds.length ch] 64)).alloc (.cells #[.int .i64 e.kind,S e.path,.slice aa e.attrs.length ca,S e.target,.int .i64 e.size,S e.digest,.slice ax e.exts.length cx] 39)) (w.heap.size+1) e (.slice aa e.attrs.length ca) (.slice ax e.exts.length cx):=entB (by simp) (Qb _ _)
    have AW1:=Qh (ApW.mk (Xaa hb1 (Xab _ (Xab _ (by simp)))) (Xaa hb1 (Xab _ (Xab _ (by simp)))) ((heb.past _).thru hb1) hrow:ApW w.heap.size w1 (.slice at' s.tree.length ct) (.slice ah s.holds.length ch) e (.slice aa e.attrs.length ca) (.slice ax e.exts.length cx))
    have hb1':Below w.heap.size w w1:=((((Qb w.heap.size w).alloc (Qn _) (.cells #[.slice at' s.tree.length ct,.slice ah s.holds.length ch] 64)).alloc (by simp) (.cells #[.int .i64 e.kind,S e.path,.slice aa e.attrs.length ca,S e.target,.int .i64 e.size,S e.digest,.slice ax e.exts.length cx] 39)).alloc (by simp;omega) (.cells #[.slice none 0 0,.slice none 0 0] 64)).trans (hb1.mono (by simp;omega))
    have hx1':Ext (w.heap.size+1+1+1) I I1:=hx1.mono (by simp)
    have hkp:=(hx1'.mono (show w.heap.size≤_ by omega)).keep hw (Qn _)
    have Hx1:=Qh hx1'
    have Hr2:=Qh hr2
    have HG1:=Qh (HG.out.mono hkp)
    have Hvt1:=Qh (Hvt.out.mono hkp)
    have Hvh1:=Qh (Hvh.out.mono hkp)
    have Hva1:=Qh (Hva.out.mono hkp)
    have Hvx1:=Qh (Hvx.out.mono hkp)
    obtain ⟨a2,c2',rfl,_,_,_⟩:=id hr2
    clear hb1 hrow heb hx1 hx1' hkp hr2 Ha
    obtain ⟨s0,s1,⟨c0,c1,c2,c3,c4,c5,c6⟩,_⟩:=AW1.out
    go_wp2_with fail
    refine (Xcb I1 e _ _ Hva1.out Hvx1.out w1).mono ?_
    rintro e2 w2 ⟨rfl,hb2⟩
    rw [Hcr.out]
    have hok2:Ok I1 w2:=hok1.below (Qn _) hb2
    have AW2:=Qh (AW1.out.thru hb2)
    have hb2':=hb1'.trans (hb2.mono hb1'.size)
    clear hb2 hb1' AW1 hok1 s0 s1 c0 c1 c2 c3 c4 c5 c6
    obtain ⟨s0,s1,⟨c0,c1,c2,c3,c4,c5,c6⟩,_⟩:=AW2.out
    go_wp2_with fail
    refine (Xog I1 _ _ s.tree s.holds Hvt1.out Hvh1.out e.path w2 hok2).mono ?_
    rintro e3 w3 ⟨rfl,hb3⟩
    rw [Hgt.out]
    have hok3:Ok I1 w3:=hok2.below (Qn _) hb3
    have AW3:=Qh (AW2.out.thru hb3)
    have hb3':=hb2'.trans (hb3.mono hb2'.size)
    clear hb3 hb2' AW2 hok2 s0 s1 c0 c1 c2 c3 c4 c5 c6
    obtain ⟨s0,s1,⟨c0,c1,c2,c3,c4,c5,c6⟩,_⟩:=AW3.out
    go_wp2_with fail
    refine (Xdw I1 HG1.out _ s.holds Hvh1.out Hk.out hnh e _ _ Hva1.out Hvx1.out hpl d w3 hok3).mono ?_
    rintro e4 w4 ⟨rfl,hb4⟩
    rw [Hal.out]
    have hok4:Ok I1 w4:=hok3.below (Qn _) hb4
    have AW4:=Qh (AW3.out.thru hb4)
    have hb4':=hb3'.trans (hb4.mono hb3'.size)
    clear hb4 hb3' AW3 hok3 s0 s1 c0 c1 c2 c3 c4 c5 c6
    obtain ⟨s0,s1,⟨c0,c1,c2,c3,c4,c5,c6⟩,_⟩:=AW4.out
    by_cases hm:m=0
    ·have Hn:=Qh (HnewN.out hm)
     subst hm
     go_wp2_with fail
     refine (Hap.out I1 HG1.out _ _ _ Hvh1.out Hva1.out Hvx1.out w4 hok4).mono ?_
     rintro e5 w5 ⟨vh2,I2,rfl,hb5,hx2,hok5,hr3⟩
     obtain ⟨a3,c3',rfl,_,_,_⟩:=id hr3
     have Hr3:=Qh hr3
     have AW5:=Qh (AW4.out.thru hb5)
     have Hx2:=Qh (Hx1.out.trans hx2 (by have:=(Array.getElem?_eq_some_iff.1 AW4.out.row).1;omega))
     have Hkp2:=Qh (hx2.keep hok4 (Qn _))
     have hb5':=hb4'.trans (hb5.mono hb4'.size)
     clear hb5 hb4' AW4 hok4 s0 s1 c0 c1 c2 c3 c4 c5 c6 hr3 hx2
     obtain ⟨s0,s1,⟨c0,c1,c2,c3,c4,c5,c6⟩,_⟩:=AW5.out
     have r0:w5.cell? ⟨w.heap.size+1+1,0,none⟩=some (.slice none 0 0):=(cell_of_row w5 _ 0 _ _ _ AW5.out.row).trans rfl
     have r1:w5.cell? ⟨w.heap.size+1+1,1,none⟩=some (.slice none 0 0):=(cell_of_row w5 _ 1 _ _ _ AW5.out.row).trans rfl
     have f0:=frozen_of_row w5 _ 0 _ _ AW5.out.row
     have f1:=frozen_of_row w5 _ 1 _ _ AW5.out.row
     go_wp2
     have hW:=heap_setCell_same _ (w.heap.size+1+1) 1 _ _ (.slice a3 h2.length c3') (heap_setCell_same w5 (w.heap.size+1+1) 0 _ _ (.slice a2 t2.length c2') AW5.out.row)
     refine bodyPost_ret (v:= .tuple #[sttV (.slice a2 t2.length c2') (.slice a3 h2.length c3'),.int .i64 0]) ?_ rfl ?_
     ·rw [results_cell_tmp rfl]
      simp [asAddr,run_loadVar_row _ (w.heap.size+1+1) 64 64 #[(.slice a2 t2.length c2'),(.slice a3 h2.length c3')] (0,0) _ hW Tryz.underlying64 rfl Hi2.out]
     ·rw [Hn.out]
      have hfr:I2 (w.heap.size+1+1)=none:=(Hx2.out _ (by omega)).trans (hw.fresh (by omega))
      exact ⟨_,_,I2,rfl,(hb5'.setCell (by simp;omega) _).setCell (by simp;omega) _,Ext.mono Hx2.out (by omega),(Ok.setCell hok5 hfr _).setCell hfr _,(Hr2.out.mono Hkp2.out),Hr3.out⟩
    ·have Hn:=Qh (HnewE.out hm)
     have hm0:(m != 0)=true:=by simpa using hm
     clear hm
     go_wp2_with fail
     refine (Hap.out I1 HG1.out _ _ _ Hvh1.out Hva1.out Hvx1.out w4 hok4).mono ?_
     rintro e5 w5 ⟨vh2,I2,rfl,hb5,hx2,hok5,hr3⟩
     obtain ⟨a3,c3',rfl,_,_,_⟩:=id hr3
     have Hr3:=Qh hr3
     have AW5:=Qh (AW4.out.thru hb5)
     have Hx2:=Qh (Hx1.out.trans hx2 (by have:=(Array.getElem?_eq_some_iff.1 AW4.out.row).1;omega))
     have Hkp2:=Qh (hx2.keep hok4 (Qn _))
     have hb5':=hb4'.trans (hb5.mono hb4'.size)
     clear hb5 hb4' AW4 hok4 s0 s1 c0 c1 c2 c3 c4 c5 c6 hr3 hx2
     obtain ⟨s0,s1,⟨c0,c1,c2,c3,c4,c5,c6⟩,_⟩:=AW5.out
     have r0:w5.cell? ⟨w.heap.size+1+1,0,none⟩=some (.slice none 0 0):=(cell_of_row w5 _ 0 _ _ _ AW5.out.row).trans rfl
     have r1:w5.cell? ⟨w.heap.size+1+1,1,none⟩=some (.slice none 0 0):=(cell_of_row w5 _ 1 _ _ _ AW5.out.row).trans rfl
     have f0:=frozen_of_row w5 _ 0 _ _ AW5.out.row
     have f1:=frozen_of_row w5 _ 1 _ _ AW5.out.row
     go_wp2
     have hW:=heap_setCell_same _ (w.heap.size+1+1) 1 _ _ (.slice ah s.holds.length ch) (heap_setCell_same w5 (w.heap.size+1+1) 0 _ _ (.slice at' s.tree.length ct) AW5.out.row)
     refine bodyPost_ret (v:= .tuple #[sttV (.slice at' s.tree.length ct) (.slice ah s.holds.length ch),.int .i64 m]) ?_ rfl ?_
     ·rw [results_cell_tmp rfl]
      simp [asAddr,run_loadVar_row _ (w.heap.size+1+1) 64 64 #[(.slice at' s.tree.length ct),(.slice ah s.holds.length ch)] (0,0) _ hW Tryz.underlying64 rfl Hi2.out]
     ·rw [Hn.out]
      have hfr:I2 (w.heap.size+1+1)=none:=(Hx2.out _ (by omega)).trans (hw.fresh (by omega))
      exact ⟨_,_,I2,rfl,(hb5'.setCell (by simp;omega) _).setCell (by simp;omega) _,Ext.mono Hx2.out (by omega),(Ok.setCell hok5 hfr _).setCell hfr _,(Hvt1.out.mono Hkp2.out),(Hvh1.out.mono Hkp2.out)⟩
   ·have Hn:=Qh (show stpP s e d=(s,al) by rw [hst,(show askP s e d=al by rw [hask,if_pos (.inr rfl)]),if_pos ha])
    have ha0:(al != 0)=true:=by simpa using ha
    clear hst hask ha Hap
    go_enter Tryz.func32,Tryz.ntmps32
    go_wp2_with fail
    refine (Ha.out _ (((hw.alloc _).alloc _).alloc _)).mono ?_
    rintro e1 w1 ⟨v2,I1,rfl,hb1,hx1,hok1,hr2⟩
    have hrow:w1.heap[w.heap.size+1+1]? =some (.cells #[.slice none 0 0,.slice none 0 0] 64 (0,0)):=(hb1.block _ (by simp)).trans (by have:=heap_alloc_new ((w.alloc (.cells #[.slice at' s.tree.length ct,.slice ah s.holds.length ch] 64)).alloc (.cells #[.int .i64 e.kind,S e.path,.slice aa e.attrs.length ca,S e.target,.int .i64 e.size,S e.digest,.slice ax e.exts.length cx] 39)) (.cells #[.slice none 0 0,.slice none 0 0] 64);simpa using this)
    have heb:EntB ((w.alloc (.cells #[.slice at' s.tree.length ct,.slice ah s.holds.length ch] 64)).alloc (.cells #[.int .i64 e.kind,S e.path,.slice aa e.attrs.length ca,S e.target,.int .i64 e.size,S e.digest,.slice ax e.exts.length cx] 39)) (w.heap.size+1) e (.slice aa e.attrs.length ca) (.slice ax e.exts.length cx):=entB (by simp) (Qb _ _)
    have AW1:=Qh (ApW.mk (Xaa hb1 (Xab _ (Xab _ (by simp)))) (Xaa hb1 (Xab _ (Xab _ (by simp)))) ((heb.past _).thru hb1) hrow:ApW w.heap.size w1 (.slice at' s.tree.length ct) (.slice ah s.holds.length ch) e (.slice aa e.attrs.length ca) (.slice ax e.exts.length cx))
    have hb1':Below w.heap.size w w1:=((((Qb w.heap.size w).alloc (Qn _) (.cells #[.slice at' s.tree.length ct,.slice ah s.holds.length ch] 64)).alloc (by simp) (.cells #[.int .i64 e.kind,S e.path,.slice aa e.attrs.length ca,S e.target,.int .i64 e.size,S e.digest,.slice ax e.exts.length cx] 39)).alloc (by simp;omega) (.cells #[.slice none 0 0,.slice none 0 0] 64)).trans (hb1.mono (by simp;omega))
    have hx1':Ext (w.heap.size+1+1+1) I I1:=hx1.mono (by simp)
    have hkp:=(hx1'.mono (show w.heap.size≤_ by omega)).keep hw (Qn _)
    have Hx1:=Qh hx1'
    have Hr2:=Qh hr2
    have HG1:=Qh (HG.out.mono hkp)
    have Hvt1:=Qh (Hvt.out.mono hkp)
    have Hvh1:=Qh (Hvh.out.mono hkp)
    have Hva1:=Qh (Hva.out.mono hkp)
    have Hvx1:=Qh (Hvx.out.mono hkp)
    obtain ⟨a2,c2',rfl,_,_,_⟩:=id hr2
    clear hb1 hrow heb hx1 hx1' hkp hr2 Ha
    obtain ⟨s0,s1,⟨c0,c1,c2,c3,c4,c5,c6⟩,_⟩:=AW1.out
    go_wp2_with fail
    refine (Xcb I1 e _ _ Hva1.out Hvx1.out w1).mono ?_
    rintro e2 w2 ⟨rfl,hb2⟩
    rw [Hcr.out]
    have hok2:Ok I1 w2:=hok1.below (Qn _) hb2
    have AW2:=Qh (AW1.out.thru hb2)
    have hb2':=hb1'.trans (hb2.mono hb1'.size)
    clear hb2 hb1' AW1 hok1 s0 s1 c0 c1 c2 c3 c4 c5 c6
    obtain ⟨s0,s1,⟨c0,c1,c2,c3,c4,c5,c6⟩,_⟩:=AW2.out
    go_wp2_with fail
    refine (Xog I1 _ _ s.tree s.holds Hvt1.out Hvh1.out e.path w2 hok2).mono ?_
    rintro e3 w3 ⟨rfl,hb3⟩
    rw [Hgt.out]
    have hok3:Ok I1 w3:=hok2.below (Qn _) hb3
    have AW3:=Qh (AW2.out.thru hb3)
    have hb3':=hb2'.trans (hb3.mono hb2'.size)
    clear hb3 hb2' AW2 hok2 s0 s1 c0 c1 c2 c3 c4 c5 c6
    obtain ⟨s0,s1,⟨c0,c1,c2,c3,c4,c5,c6⟩,_⟩:=AW3.out
    go_wp2_with fail
    refine (Xdw I1 HG1.out _ s.holds Hvh1.out Hk.out hnh e _ _ Hva1.out Hvx1.out hpl d w3 hok3).mono ?_
    rintro e4 w4 ⟨rfl,hb4⟩
    rw [Hal.out]
    have hok4:Ok I1 w4:=hok3.below (Qn _) hb4
    have AW4:=Qh (AW3.out.thru hb4)
    have hb4':=hb3'.trans (hb4.mono hb3'.size)
    clear hb4 hb3' AW3 hok3 s0 s1 c0 c1 c2 c3 c4 c5 c6
    obtain ⟨s0,s1,⟨c0,c1,c2,c3,c4,c5,c6⟩,_⟩:=AW4.out
    have r0:w4.cell? ⟨w.heap.size+1+1,0,none⟩=some (.slice none 0 0):=(cell_of_row w4 _ 0 _ _ _ AW4.out.row).trans rfl
    have r1:w4.cell? ⟨w.heap.size+1+1,1,none⟩=some (.slice none 0 0):=(cell_of_row w4 _ 1 _ _ _ AW4.out.row).trans rfl
    have f0:=frozen_of_row w4 _ 0 _ _ AW4.out.row
    have f1:=frozen_of_row w4 _ 1 _ _ AW4.out.row
    go_wp2
    have hW:=heap_setCell_same _ (w.heap.size+1+1) 1 _ _ (.slice ah s.holds.length ch) (heap_setCell_same w4 (w.heap.size+1+1) 0 _ _ (.slice at' s.tree.length ct) AW4.out.row)
    refine bodyPost_ret (v:= .tuple #[sttV (.slice at' s.tree.length ct) (.slice ah s.holds.length ch),.int .i64 al]) ?_ rfl ?_
    ·rw [results_cell_tmp rfl]
     simp [asAddr,run_loadVar_row _ (w.heap.size+1+1) 64 64 #[(.slice at' s.tree.length ct),(.slice ah s.holds.length ch)] (0,0) _ hW Tryz.underlying64 rfl Hi2.out]
    ·rw [Hn.out]
     have hfr:I1 (w.heap.size+1+1)=none:=(Hx1.out _ (by omega)).trans (hw.fresh (by omega))
     exact ⟨_,_,I1,rfl,(hb4'.setCell (by simp;omega) _).setCell (by simp;omega) _,Ext.mono Hx1.out (by omega),(Ok.setCell hok4 hfr _).setCell hfr _,Hvt1.out,Hvh1.out⟩
end Go.Proofs.YtdeknddamidldaaGreatDoor
namespace Go.Proofs.YtdeknddamidldaaGreatDoor
theorem Xj2 {x:Ent} (h:greatE x=false):x.path.length≤300∧x.target.length≤300∧x.digest.length≤100∧x.exts.length≤30:=by
 simp [greatE] at h
 omega
structure SIn (n:Nat) (s:Stt):Prop where
 ok:SOk n s
 sml:SmlT s.tree
theorem Xg8:SIn 0 nilS:=⟨Xql,fun _ h=>(by cases h)⟩
theorem SIn.mono {n m:Nat} {s:Stt} (h:SIn n s) (hm:n≤m):SIn m s:=⟨h.ok.mono hm,h.sml⟩
theorem Xew {n:Nat} {s:Stt} (h:SIn n s) (e:Ent) (d:Int) (hp:e.path.length≤300) (ht:e.target.length≤300):SIn (n+1) (stpP s e d).1:=by
 refine ⟨Xjf h.ok e d,?_⟩
 unfold stpP
 split
 ·exact h.sml
 ·rename_i h1
  split
  ·exact h.sml
  ·split
   ·exact h.sml
   ·have ha:=Xcl (t:=s.tree) (e:=e) (by omega)
    obtain ⟨_,hx⟩:=applyT_iff.1 ha
    intro z hz
    rw [hx] at hz
    rcases (Xra h.ok.tree.srt e z).1 hz with ⟨_,rfl⟩|⟨hz,_⟩
    ·omega
    ·exact h.sml z hz
theorem Xjn:∀(l:List Ent) {n:Nat} {s:Stt} (_:SIn n s) (d:Int),(∀e∈l,e.path.length≤300∧e.target.length≤300)→SIn (n+l.length) (runS s d l)
 | [],_,_,h,_,_=>h
 |e::l,n,s,h,d,hl=>by
  have he:=hl e (List.mem_cons_self ..)
  have:=Xjn l (Xew h e d he.1 he.2) d fun x hx=>hl x (List.mem_cons_of_mem _ hx)
  exact this.mono (by simp;omega)
theorem Xs6 (s:Stt) (d:Int) (l:List Ent) (e:Ent):runS s d (l++ [e])=(stpP (runS s d l) e d).1:=by simp [runS]
theorem Xn7 {s:Stt} {d:Int} {l:List Ent} {k:Nat} (hk:k<l.length) {e:Ent} (he:l[k]=e):runS s d (l.take (k+1))=(stpP (runS s d (l.take k)) e d).1:=by
 rw [List.take_succ_eq_append_getElem hk,he,Xs6]
theorem Xov {s:Stt} {l:List Ses} {k:Nat} (hk:k<l.length) {x:Ses} (hx:l[k]=x):aftS s (l.take (k+1))=runS (aftS s (l.take k)) x.date x.ents:=by
 rw [List.take_succ_eq_append_getElem hk,hx,Xp5];rfl
theorem Xnz:∀(l:List Ses) {n:Nat} {s:Stt} (_:SIn n s),(∀x∈l,SesG x)→SIn (n+30*l.length) (aftS s l)
 | [],_,_,h,_=>h
 |x::l,n,s,h,hl=>by
  have hx:=hl x (List.mem_cons_self ..)
  have h1:=Xjn x.ents h x.date fun e he=>⟨hx.path e he,hx.target e he⟩
  have:=Xnz l h1 fun y hy=>hl y (List.mem_cons_of_mem _ hy)
  have hn:=hx.nents
  exact this.mono (by simp only [List.length_cons];omega)
def pairs (l:List Ses):List (Ses × Ent):=l.flatMap fun s=>s.ents.map fun e=>(s,e)
def stq (s:Stt) (q:Ses × Ent):Stt:=(stpP s q.2 q.1.date).1
theorem Xhb (x:Ses):∀(l:List Ent) (s:Stt),runS s x.date l=(l.map fun e=>(x,e)).foldl stq s
 | [],_=>rfl
 |e::l,s=>by
  rw [List.map_cons,List.foldl_cons]
  exact Xhb x l _
theorem Xmo:∀(l:List Ses) (s:Stt),aftS s l=(pairs l).foldl stq s
 | [],_=>rfl
 |x::l,s=>by
  rw [pairs,List.flatMap_cons,List.foldl_append,←Xhb]
  exact Xmo l _
def verQ (p:Bytes):Stt→List (Ses × Ent)→List Ver
 |_,[]=> []
 |s,q::r=>(if verHit s p q.2 then [⟨q.1.num,q.1.date,q.2⟩] else [])++verQ p (stq s q) r
theorem Xej (p:Bytes):∀(a b:List (Ses × Ent)) (s:Stt),verQ p s (a++b)=verQ p s a++verQ p (a.foldl stq s) b
 | [],_,_=>rfl
 |q::a,b,s=>by rw [List.cons_append,verQ,verQ,Xej p a b,List.append_assoc];rfl
theorem Xst (p:Bytes) (s:Stt) (q:Ses × Ent):verQ p s [q]=if verHit s p q.2 then [⟨q.1.num,q.1.date,q.2⟩] else []:=by
 rw [verQ,verQ,List.append_nil]
theorem Xio (p:Bytes) (x:Ses):∀(l:List Ent) (s:Stt),verS x.num x.date p s l=verQ p s (l.map fun e=>(x,e))
 | [],_=>rfl
 |e::l,s=>by
  rw [verS,List.map_cons,verQ,Xio p x l]
  rfl
theorem Xkk (p:Bytes):∀(l:List Ses) (s:Stt),verFrom p s l=verQ p s (pairs l)
 | [],_=>rfl
 |x::l,s=>by
  rw [verFrom,pairs,List.flatMap_cons,Xej,←Xio,Xkk p l,Xhb]
  rfl
theorem Xn4 (p:Bytes):∀(l:List (Ses × Ent)) (s:Stt),(verQ p s l).length≤l.length
 | [],_=>Qn _
 |q::l,s=>by
  have:=Xn4 p l (stq s q)
  rw [verQ,List.length_append,List.length_cons]
  split<;>simp<;>omega
theorem Xk8:∀ {l:List Ses},(∀x∈l,SesG x)→(pairs l).length≤30*l.length
 | [],_=>Qn _
 |x::l,h=>by
  have h1:=(h x (List.mem_cons_self ..)).nents
  have h2:=Xk8 (l:=l) fun y hy=>h y (List.mem_cons_of_mem _ hy)
  rw [pairs,List.flatMap_cons,List.length_append,List.length_map,List.length_cons]
  have:(List.flatMap (fun s:Ses=>List.map (fun e=>(s,e)) s.ents) l).length≤30*l.length:=h2
  omega
theorem Xok:∀(l:List (Ses × Ent)) {n:Nat} {s:Stt} (_:SIn n s),(∀q∈l,q.2.path.length≤300∧q.2.target.length≤300)→SIn (n+l.length) (l.foldl stq s)
 | [],_,_,h,_=>h
 |q::l,n,s,h,hl=>by
  have he:=hl q (List.mem_cons_self ..)
  have:=Xok l (Xew h q.2 q.1.date he.1 he.2) fun x hx=>hl x (List.mem_cons_of_mem _ hx)
  exact this.mono (by simp;omega)
theorem Xls (l:List (Ses × Ent)) (q:Ses × Ent) (s:Stt):(l++ [q]).foldl stq s=(stpP (l.foldl stq s) q.2 q.1.date).1:=by simp [stq]
def gr40 (s:Ses):Bool:=decide (100<s.prev.length) || (decide (1000<s.stream.length) || (decide (2100<s.sl.length) || ((decide (12<s.ents.length)&&decide (s.ents.length≠401)) || s.ents.any greatE)))
def gr41s (s:Ses):Bool:=decide (30<s.ents.length) || gr40 s
def wtS (s:Ses):Nat:=s.stream.length+10*s.ents.length
def wtL (l:List Ses):Nat:=(l.map wtS).sum
def gr41 (l:List Ses):Bool:=decide (8<l.length) || (l.any gr41s || decide (20000<wtL l))
structure Ses.Wf (s:Ses):Prop where
 num: -9223372036854775808≤s.num∧s.num≤9223372036854775807
 date: -9223372036854775808≤s.date∧s.date≤9223372036854775807
 ents:∀e∈s.ents,e.Wf
theorem Xno {s:Ses} (h:gr40 s=false):s.prev.length≤100∧s.stream.length≤1000∧s.sl.length≤2100∧(s.ents.length≤12∨s.ents.length=401)∧ ∀e∈s.ents,greatE e=false:=by
 unfold gr40 at h
 simp only [Bool.or_eq_false_iff,Bool.and_eq_false_iff,decide_eq_false_iff_not] at h
 obtain ⟨h1,h2,h3,h4,h5⟩:=h
 refine ⟨by omega,by omega,by omega,by omega,fun e he=> ?_⟩
 have:=List.any_eq_false.1 h5 e he
 simpa using this
theorem Xj3 {s:Ses} (hw:s.Wf) (h:gr41s s=false):SesG s:=by
 unfold gr41s at h
 simp only [Bool.or_eq_false_iff,decide_eq_false_iff_not] at h
 obtain ⟨h1,h2,h3,h4,h5⟩:=And.intro h.1 (Xno h.2)
 exact ⟨by omega,h3,h2,h4,hw.ents,fun e he=>(Xj2 (h5.2 e he)).1,fun e he=>(Xj2 (h5.2 e he)).2.1,fun e he=>(Xj2 (h5.2 e he)).2.2.2,hw.num,hw.date⟩
theorem Xdo {l:List Ses} (hw:∀x∈l,x.Wf) (h:gr41 l=false):l.length≤8∧(∀x∈l,SesG x)∧wtL l≤20000:=by
 unfold gr41 at h
 simp only [Bool.or_eq_false_iff,decide_eq_false_iff_not] at h
 obtain ⟨h1,h2,h3⟩:=h
 refine ⟨by omega,fun x hx=>Xj3 (hw x hx) ?_,by omega⟩
 have:=List.any_eq_false.1 h2 x hx
 simpa using this
theorem Xsp {l:List Ses} {k:Nat} (hk:k<l.length) {x:Ses} (hx:l[k]=x):wtL (l.take (k+1))=wtL (l.take k)+wtS x:=by
 unfold wtL
 rw [List.take_succ_eq_append_getElem hk,hx]
 simp
theorem any_take_succ {α:Type} {p:α→Bool} {l:List α} {k:Nat} (hk:k<l.length) {x:α} (hx:l[k]=x) (h1:(l.take k).any p=false) (h2:p x=false):(l.take (k+1)).any p=false:=by
 rw [List.take_succ_eq_append_getElem hk,hx,List.any_append,h1];simp [h2]
theorem Xnx {α:Type} {p:α→Bool} {l:List α} {k:Nat} (hk:k<l.length) {x:α} (hx:l[k]=x) (h:p x=true):l.any p=true:=
 List.any_eq_true.2 ⟨x,by rw [←hx];exact List.getElem_mem hk,h⟩
theorem Xv6 {l:List Ses} (h:∀x∈l,x.stream.length≤1000∧x.ents.length≤30):wtL l≤1300*l.length:=by
 unfold wtL
 induction l with
 |nil=>simp
 |cons x l ih=>
  have h1:=h x (List.mem_cons_self ..)
  have h2:=ih fun y hy=>h y (List.mem_cons_of_mem _ hy)
  rw [List.map_cons,List.sum_cons,List.length_cons]
  have:wtS x≤1300:=by unfold wtS;omega
  omega
end Go.Proofs.YtdeknddamidldaaGreatDoor
