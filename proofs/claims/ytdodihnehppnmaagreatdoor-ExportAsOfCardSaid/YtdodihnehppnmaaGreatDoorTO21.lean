/-
  Walks and laws that the claim's theorem uses: texts BmU BmV AlP, joined; comments out. Conditions: as each theorem says.
-/
import Derived.Test.YtdodihnehppnmaaGreatDoorTO20
set_option linter.all false
namespace Go.Proofs.YtdodihnehppnmaaGreatDoor
open Go.RowKit
structure Rm0 (w:World) (hs m:List Int) (X:World):Prop where
 below:Below w.heap.size w X
 size:w.heap.size+1+1<X.heap.size
 b0:X.heap[w.heap.size]? =some (.cells (row hs) 111 (0,0))
 b1:X.heap[w.heap.size+1]? =some (.cells (row (List.replicate 8 0)) 111 (0,0))
 b2:X.heap[w.heap.size+1+1]? =some (.cells (row m) 160 (0,0))
structure Rm (w:World) (BI BV:Nat) (hs m v:List Int) (X:World):Prop extends Rm0 w hs m X where
 lo:w.heap.size+1+1<BI
 mid:BI<BV
 hi:BV<X.heap.size
 bi:X.heap[BI]? =some (.cells (row blkIV) 111 (0,0))
 bv:X.heap[BV]? =some (.cells (row v) 160 (0,0))
section
variable {w X X':World} {BI BV:Nat} {hs m v:List Int}
theorem Rm0.start (w:World) (hs:List Int):Rm0 w hs (List.replicate 16 0) (((w.alloc (.cells (row hs) 111)).alloc (.cells (row (List.replicate 8 0)) 111)).alloc (.cells (row (List.replicate 16 0)) 160)):=by
 refine ⟨(((Qb _ _).alloc (Qn _) _).alloc (by simp) _).alloc (by simp;omega) _,by simp,?_,?_,?_⟩
 ·exact (Below.heap_alloc _ _ _ (by simp;omega)).trans ((Below.heap_alloc _ _ _ (by simp)).trans (heap_alloc_new _ _))
 ·exact (Below.heap_alloc _ _ _ (by simp)).trans (Xf2 (by simp) _)
 ·exact Xf2 (by simp) _
theorem Rm0.pass (h:Rm0 w hs m X) (hb:Below X.heap.size X X'):Rm0 w hs m X':=by
 have:=h.size
 exact ⟨h.below.trans (hb.mono h.below.size),by have:=hb.size;omega,(hb.block _ (by omega)).trans h.b0,(hb.block _ (by omega)).trans h.b1,(hb.block _ (by omega)).trans h.b2⟩
theorem Rm0.set2 (h:Rm0 w hs m X) (i:Nat) (x:Int):Rm0 w hs (m.set i x) (X.setCell ⟨w.heap.size+1+1,i,none⟩ (.int .u32 x)):=by
 have o:∀k,k≠w.heap.size+1+1→(X.setCell ⟨w.heap.size+1+1,i,none⟩ (.int .u32 x)).heap[k]? =X.heap[k]? :=fun k hk=>Below.heap_setCell _ _ _ _ hk
 exact ⟨h.below.setCell (by show w.heap.size≤w.heap.size+1+1;omega) _,by simpa [World.setCell] using h.size,(o _ (by omega)).trans h.b0,(o _ (by omega)).trans h.b1,heap_setCell _ h.b2⟩
theorem Rm.pass (h:Rm w BI BV hs m v X) (hb:Below X.heap.size X X'):Rm w BI BV hs m v X':=by
 have:=h.hi
 have:=h.mid
 exact ⟨h.toRm0.pass hb,h.lo,h.mid,by have:=hb.size;omega,(hb.block _ (by omega)).trans h.bi,(hb.block _ (by omega)).trans h.bv⟩
theorem Rm.alloc (h:Rm w BI BV hs m v X) (o:Obj):Rm w BI BV hs m v (X.alloc o):=h.pass ((Qb _ _).alloc (Qn _) o)
theorem Rm.set0 (h:Rm w BI BV hs m v X) (i:Nat) (x:Int):Rm w BI BV (hs.set i x) m v (X.setCell ⟨w.heap.size,i,none⟩ (.int .u32 x)):=by
 have h1:=h.lo
 have h2:=h.mid
 have o:∀k,k≠w.heap.size→(X.setCell ⟨w.heap.size,i,none⟩ (.int .u32 x)).heap[k]? =X.heap[k]? :=fun k hk=>Below.heap_setCell _ _ _ _ hk
 exact ⟨⟨h.below.setCell (Qn _) _,by simpa [World.setCell] using h.size,heap_setCell _ h.b0,(o _ (by omega)).trans h.b1,(o _ (by omega)).trans h.b2⟩,h.lo,h.mid,by simpa [World.setCell] using h.hi,(o _ (by omega)).trans h.bi,(o _ (by omega)).trans h.bv⟩
theorem Rm.setv (h:Rm w BI BV hs m v X) (i:Nat) (x:Int):Rm w BI BV hs m (v.set i x) (X.setCell ⟨BV,i,none⟩ (.int .u32 x)):=by
 have h1:=h.lo
 have h2:=h.mid
 have o:∀k,k≠BV→(X.setCell ⟨BV,i,none⟩ (.int .u32 x)).heap[k]? =X.heap[k]? :=fun k hk=>Below.heap_setCell _ _ _ _ hk
 exact ⟨⟨h.below.setCell (by show w.heap.size≤BV;omega) _,by simpa [World.setCell] using h.size,(o _ (by omega)).trans h.b0,(o _ (by omega)).trans h.b1,(o _ (by omega)).trans h.b2⟩,h.lo,h.mid,by simpa [World.setCell] using h.hi,(o _ (by omega)).trans h.bi,heap_setCell _ h.bv⟩
theorem Rm.rowv {v':List Int} (h:Rm w BI BV hs m v X):Rm w BI BV hs m v' (X.setRow BV (row v')):=by
 have h1:=h.lo
 have h2:=h.mid
 have o:∀k,k≠BV→(X.setRow BV (row v')).heap[k]? =X.heap[k]? :=fun k hk=>setRow_other _ _ _ _ hk
 exact ⟨⟨below_setRow h.below (by omega) _,by simpa using h.size,(o _ (by omega)).trans h.b0,(o _ (by omega)).trans h.b1,(o _ (by omega)).trans h.b2⟩,h.lo,h.mid,by simpa using h.hi,(o _ (by omega)).trans h.bi,setRow_heap _ _ _ _ _ _ h.bv⟩
theorem Rm.start (h:Rm0 w hs m X):Rm w X.heap.size (X.heap.size+1) hs m (List.replicate 16 0) ((X.alloc (.cells (row blkIV) 111)).alloc (.cells (row (List.replicate 16 0)) 160)):=by
 refine ⟨h.pass (((Qb _ _).alloc (Qn _) _).alloc (by simp) _),h.size,by omega,by simp,?_,?_⟩
 ·exact (Below.heap_alloc _ _ _ (by simp)).trans (heap_alloc_new _ _)
 ·exact Xf2 (by simp) _
end
set_option maxRecDepth 100000 in
set_option maxHeartbeats 1500000 in
theorem Xeq (hs:List Int) (hh:hs.length=8) (s:Bytes) (hsl:s.length=64) (count:Int) (last:Bool) (w:World):
 Calls Tryz.prog 140 #[.agg (row hs),S s,.int .u64 count,.bool last] w fun e w'=>e= .returned (.tuple #[.agg (row (compressP hs s count last)),.int .i64 0])∧Below w.heap.size w w':=by
 obtain ⟨h0,h1,h2,h3,h4,h5,h6,h7,rfl⟩:=Xng hh
 rw [show row [h0,h1,h2,h3,h4,h5,h6,h7]= #[.int .u32 h0,.int .u32 h1,.int .u32 h2,.int .u32 h3,.int .u32 h4,.int .u32 h5,.int .u32 h6,.int .u32 h7] from rfl]
 have hsz:(s.length:Int)=64:=by omega
 clear hh
 have Hst:=Qh (show Rm0 w [h0,h1,h2,h3,h4,h5,h6,h7] (refW s 0) _ by rw [Xq4];exact Rm0.start w [h0,h1,h2,h3,h4,h5,h6,h7])
 go_enter Tryz.func140,Tryz.ntmps140
 go_wp2_with fail
 go_loopw [11] (fun s11 wr=> ∃(k:Nat),k≤64∧s11= .int .i64 k∧Rm0 w [h0,h1,h2,h3,h4,h5,h6,h7] (refW s k) wr) (fun i _=>64-(intOf i).toNat)
 case atStart=>exact ⟨0,Nat.zero_le _,rfl,Hst.out⟩
 case round=>
  clear Hst
  obtain ⟨k,hk,rfl,hm⟩:=hrel
  by_cases hlt:k<64
  ·obtain ⟨q,r,hq,hr,hkq⟩:∃q r,q<16∧r<4∧k=4*q+r:=⟨k / 4,k%4,by omega,by omega,by omega⟩
   have hdiv:(k:Int) / 4=(q:Int):=by omega
   have hqi:(q:Int)<16:=by omega
   have Hw:=Qh (show (refW s k).set q (pW s q (r+1))=refW s (k+1) by rw [hkq];exact Xq5 s q r hq hr)
   have hcell:=cell_of_row wr _ q _ _ _ hm.b2
   rw [Xau (by rw [Xm0];exact hq),show (refW s k).getD q 0=pW s q r by rw [hkq];exact Xvy s q r hq hr] at hcell
   have Hkq:=Qh hkq
   clear hkq
   obtain ⟨a,ha⟩:∃a,pW s q r=a:=⟨_,rfl⟩
   rw [ha] at hcell
   have Ha:=Qh ha
   clear ha
   have Hm:=Qh hm
   clear hm
   have hx0:=run_at Tryz.underlying9 s (k:Int) k rfl (by omega)
   rcases (show r=0∨r=1∨r=2∨r=3 by omega) with rfl|rfl|rfl|rfl
   ·have hmod:(k:Int)%4=0:=by have:=Hkq.out;omega
    go_wp2_with fail
    have g:=cell_regrown hcell
    refine Xae 17 (by kernel_rfl) (by kernel_rfl) ?_
    simp only [List.take_succ_cons,List.take_zero,List.drop_succ_cons,List.drop_zero]
    repeat (go_big_quiet_step ((fail)))
    refine wpQuiet_nil ?_
    intro X1 hwq
    have hbt:Below (wr).heap.size (wr) X1:=by
     obtain ⟨pq,rfl⟩:=hwq
     exact below_regrown _ _ _
    clear hwq
    have hMt:=Hm.out.pass hbt
    have g1:=hbt.cell (p:=⟨w.heap.size+1+1,q,none⟩) (show w.heap.size+1+1<_ from Hm.out.size)
    rw [hcell] at g1
    have g2:=frozen_of_row X1 _ q _ _ hMt.b2
    have HMt:=Qh hMt
    clear hMt hbt g
    go_wp2
    go_roundw
    case rel=>exact ⟨k+1,by omega,by go_num,by rw [←Hw.out,←pW_0 s q k Hkq.out (by omega),Ha.out];exact HMt.out.set2 q _⟩
    case measure=>simp [intOf];omega
   ·have hmod:(k:Int)%4=1:=by have:=Hkq.out;omega
    go_wp2_with fail
    have g:=cell_regrown hcell
    refine Xae 17 (by kernel_rfl) (by kernel_rfl) ?_
    simp only [List.take_succ_cons,List.take_zero,List.drop_succ_cons,List.drop_zero]
    repeat (go_big_quiet_step ((fail)))
    refine wpQuiet_nil ?_
    intro X1 hwq
    have hbt:Below (wr).heap.size (wr) X1:=by
     obtain ⟨pq,rfl⟩:=hwq
     exact below_regrown _ _ _
    clear hwq
    have hMt:=Hm.out.pass hbt
    have g1:=hbt.cell (p:=⟨w.heap.size+1+1,q,none⟩) (show w.heap.size+1+1<_ from Hm.out.size)
    rw [hcell] at g1
    have g2:=frozen_of_row X1 _ q _ _ hMt.b2
    have HMt:=Qh hMt
    clear hMt hbt g
    go_wp2
    go_roundw
    case rel=>exact ⟨k+1,by omega,by go_num,by rw [←Hw.out,←pW_1 s q k Hkq.out (by omega),Ha.out];exact HMt.out.set2 q _⟩
    case measure=>simp [intOf];omega
   ·have hmod:(k:Int)%4=2:=by have:=Hkq.out;omega
    go_wp2_with fail
    have g:=cell_regrown hcell
    refine Xae 17 (by kernel_rfl) (by kernel_rfl) ?_
    simp only [List.take_succ_cons,List.take_zero,List.drop_succ_cons,List.drop_zero]
    repeat (go_big_quiet_step ((fail)))
    refine wpQuiet_nil ?_
    intro X1 hwq
    have hbt:Below (wr).heap.size (wr) X1:=by
     obtain ⟨pq,rfl⟩:=hwq
     exact below_regrown _ _ _
    clear hwq
    have hMt:=Hm.out.pass hbt
    have g1:=hbt.cell (p:=⟨w.heap.size+1+1,q,none⟩) (show w.heap.size+1+1<_ from Hm.out.size)
    rw [hcell] at g1
    have g2:=frozen_of_row X1 _ q _ _ hMt.b2
    have HMt:=Qh hMt
    clear hMt hbt g
    go_wp2
    go_roundw
    case rel=>exact ⟨k+1,by omega,by go_num,by rw [←Hw.out,←pW_2 s q k Hkq.out (by omega),Ha.out];exact HMt.out.set2 q _⟩
    case measure=>simp [intOf];omega
   ·have hmod:(k:Int)%4=3:=by have:=Hkq.out;omega
    go_wp2_with fail
    have g:=cell_regrown hcell
    refine Xae 17 (by kernel_rfl) (by kernel_rfl) ?_
    simp only [List.take_succ_cons,List.take_zero,List.drop_succ_cons,List.drop_zero]
    repeat (go_big_quiet_step ((fail)))
    refine wpQuiet_nil ?_
    intro X1 hwq
    have hbt:Below (wr).heap.size (wr) X1:=by
     obtain ⟨pq,rfl⟩:=hwq
     exact below_regrown _ _ _
    clear hwq
    have hMt:=Hm.out.pass hbt
    have g1:=hbt.cell (p:=⟨w.heap.size+1+1,q,none⟩) (show w.heap.size+1+1<_ from Hm.out.size)
    rw [hcell] at g1
    have g2:=frozen_of_row X1 _ q _ _ hMt.b2
    have HMt:=Qh hMt
    clear hMt hbt g
    go_wp2
    go_roundw
    case rel=>exact ⟨k+1,by omega,by go_num,by rw [←Hw.out,←pW_3 s q k Hkq.out (by omega),Ha.out];exact HMt.out.set2 q _⟩
    case measure=>simp [intOf];omega
  ·have hke:k=64:=by omega
   subst hke
   rw [Xt0] at hm
   have Hm:=Qh hm
   clear hm
   go_wp2_with fail
   refine (Xe8 _).mono ?_
   rintro e w1 ⟨rfl,hb1⟩
   have hn1:=hb1.size
   have Hm1:=Qh (Hm.out.pass hb1)
   clear hb1 Hm
   rw [show row blkIV= #[.int .u32 1779033703,.int .u32 3144134277,.int .u32 1013904242,.int .u32 2773480762,.int .u32 1359893119,.int .u32 2600822924,.int .u32 528734635,.int .u32 1541459225] from rfl]
   go_wp2_with fail
   have hmX:Rm w w1.heap.size (w1.heap.size+1) [h0,h1,h2,h3,h4,h5,h6,h7] (words s) (vFill [h0,h1,h2,h3,h4,h5,h6,h7] 0) ((w1.alloc (.cells (row blkIV) 111)).alloc (.cells (row (List.replicate 16 0)) 160)):=by
    rw [Xpo];exact Rm.start Hm1.out
   have HmX:=Qh hmX
   clear hmX Hm1
   obtain ⟨BI,hBI⟩:∃BI,w1.heap.size=BI:=⟨_,rfl⟩
   rw [hBI] at HmX ⊢
   have Hlo:=Qh HmX.out.lo
   clear hBI hn1
   go_loopw [14] (fun s14 wr=> ∃k:Nat,k≤8∧s14= .int .i64 k∧Rm w BI (BI+1) [h0,h1,h2,h3,h4,h5,h6,h7] (words s) (vFill [h0,h1,h2,h3,h4,h5,h6,h7] k) wr) (fun i _=>8-(intOf i).toNat)
   case atStart=>exact ⟨0,Nat.zero_le _,rfl,HmX.out⟩
   case round=>
    clear HmX
    obtain ⟨k,hk,rfl,hm⟩:=hrel
    by_cases hltk:k<8
    ·have c1:=(cell_of_row wr _ k _ _ _ hm.b0).trans (Xau (l:= [h0,h1,h2,h3,h4,h5,h6,h7]) hltk)
     have c2:=(cell_of_row wr _ k _ _ _ hm.bi).trans (Xau (l:=blkIV) hltk)
     have c3:=(cell_of_row wr _ k _ _ _ hm.bv).trans (Xau (by rw [Xf8];omega))
     have c4:=(cell_of_row wr _ (k+8) _ _ _ hm.bv).trans (Xau (by rw [Xf8];omega))
     have f3:=frozen_of_row wr _ k _ _ hm.bv
     have f4:=frozen_of_row wr _ (k+8) _ _ hm.bv
     have Hvs:=Qh (Xpp [h0,h1,h2,h3,h4,h5,h6,h7] k hltk)
     have Hm:=Qh hm
     clear hm
     generalize List.getD [h0,h1,h2,h3,h4,h5,h6,h7] k 0=x0 at c1 Hvs
     generalize blkIV.getD k 0=x1 at c2 Hvs
     generalize List.getD (vFill [h0,h1,h2,h3,h4,h5,h6,h7] k) k 0=x2 at c3
     generalize List.getD (vFill [h0,h1,h2,h3,h4,h5,h6,h7] k) (k+8) 0=x3 at c4
     go_wp2
     go_roundw
     case rel=>exact ⟨k+1,by omega,by go_num,by rw [←Hvs.out];exact (Hm.out.setv k _).setv (k+8) _⟩
     case measure=>simp [intOf];omega
    ·have hke:k=8:=by omega
     subst hke
     rw [Xqr _ rfl] at hm
     have c12:wr.cell? ⟨BI+1,12,none⟩=some (.int .u32 1359893119):=(cell_of_row wr _ 12 _ _ _ hm.bv).trans rfl
     have c13:wr.cell? ⟨BI+1,13,none⟩=some (.int .u32 2600822924):=(cell_of_row wr _ 13 _ _ _ hm.bv).trans rfl
     have c14:wr.cell? ⟨BI+1,14,none⟩=some (.int .u32 528734635):=(cell_of_row wr _ 14 _ _ _ hm.bv).trans rfl
     have f12:=frozen_of_row wr _ 12 _ _ hm.bv
     have f13:=frozen_of_row wr _ 13 _ _ hm.bv
     have f14:=frozen_of_row wr _ 14 _ _ hm.bv
     have Hm:=Qh hm
     clear hm
     cases last with
     |true=>
      go_wp2_with fail
      obtain ⟨v0,hv0⟩:∃v0,vInit [h0,h1,h2,h3,h4,h5,h6,h7] count true=v0:=⟨_,rfl⟩
      have Hv0:=Qh hv0
      clear hv0
      have hlv:v0.length=16:=by rw [←Hv0.out];exact Xcu _ rfl _ _
      clear c12 c13 c14 f12 f13 f14
      go_loopw [15] (fun s15 wr=> ∃r:Nat,r≤10∧s15= .int .i64 r∧Rm w BI (BI+1) [h0,h1,h2,h3,h4,h5,h6,h7] (words s) (roundsP (words s) r v0) wr) (fun i _=>10-(intOf i).toNat)
      case atStart=>exact ⟨0,Nat.zero_le _,rfl,by show Rm w BI (BI+1) _ (words s) v0 _;rw [←Hv0.out];exact ((Hm.out.setv 12 _).setv 13 _).setv 14 _⟩
      case round=>
       clear Hm
       obtain ⟨r,hr,rfl,hmr⟩:=hrel
       by_cases hltr:r<10
       ·obtain ⟨vr,hvr⟩:∃vr,roundsP (words s) r v0=vr:=⟨_,rfl⟩
        have Hvr:=Qh hvr
        rw [hvr] at hmr
        clear hvr
        have hlr:vr.length=16:=by rw [←Hvr.out,Xas,hlv]
        have Hmr:=Qh hmr
        clear hmr
        go_wp2_with fail
        refine (Xc5 r hltr _).mono ?_
        rintro e w4 ⟨rfl,hb4⟩
        have Hm4:=Qh (Hmr.out.pass hb4)
        clear Hmr hb4
        have hPl:=Xep r hltr
        have Hdig:=Qh (fun i hi=>Xl4 r i hltr hi)
        generalize refPerm r=P at hPl Hdig ⊢
        go_wp2_with fail
        go_loopw [17] (fun s17 wr=> ∃k:Nat,k≤8∧s17= .int .i64 k∧Rm w BI (BI+1) [h0,h1,h2,h3,h4,h5,h6,h7] (words s) (stepsP (words s) r k vr) wr) (fun i _=>8-(intOf i).toNat)
        case atStart=>exact ⟨0,Nat.zero_le _,rfl,Hm4.out⟩
        case round=>
         clear Hm4
         obtain ⟨k,hk,rfl,hmk⟩:=hrel
         by_cases hltk:k<8
         ·have Hmk:=Qh hmk
          clear hmk
          go_wp2_with fail
          refine (Xe7 k hltk _).mono ?_
          rintro e w5 ⟨rfl,hb5⟩
          have Hm5:=Qh (Hmk.out.pass hb5)
          clear Hmk hb5
          obtain ⟨qa,qb,qc,qd,hq⟩:∃qa qb qc qd,quad k=(qa,qb,qc,qd):=⟨_,_,_,_,rfl⟩
          have hqo:=Xjz k hltk
          have hst:stepP (words s) r k (stepsP (words s) r k vr)=mixP (stepsP (words s) r k vr) qa qb qc qd ((words s).getD (sigma r (2*k)) 0) ((words s).getD (sigma r (2*k+1)) 0):=by rw [stepP,hq]
          rw [hq] at hqo ⊢
          rw [show quadV (qa,qb,qc,qd)= .agg #[.int .i64 qa,.int .i64 qb,.int .i64 qc,.int .i64 qd] from rfl]
          have Hap:=Qh (show Apart 16 qa qb qc qd from ⟨hqo.1,hqo.2.1,hqo.2.2.1,hqo.2.2.2.1,hqo.2.2.2.2.1,hqo.2.2.2.2.2.1,hqo.2.2.2.2.2.2.1,hqo.2.2.2.2.2.2.2.1,hqo.2.2.2.2.2.2.2.2.1,hqo.2.2.2.2.2.2.2.2.2⟩)
          clear hq hqo
          have hs1:=Xcv r (2*k) hltr (by omega)
          have hs2:=Xcv r (2*k+1) hltr (by omega)
          obtain ⟨hd1,hd1a,hd1b⟩:=Hdig.out (2*k) (by omega)
          obtain ⟨hd2,hd2a,hd2b⟩:=Hdig.out (2*k+1) (by omega)
          have hx1:=run_at Tryz.underlying9 P (2*(k:Int)) (2*k) (by omega) (by omega)
          have hx2:=run_at Tryz.underlying9 P (2*(k:Int)+1) (2*k+1) (by omega) (by omega)
          generalize (P.getD (2*k) 0).toNat=e1 at hd1 hd1a hd1b hx1
          generalize (P.getD (2*k+1) 0).toNat=e2 at hd2 hd2a hd2b hx2
          generalize sigma r (2*k)=sx at hs1 hst hd1
          generalize sigma r (2*k+1)=sy at hs2 hst hd2
          have Hg1:=Qh (show ∀W,Calls Tryz.prog 205 #[.int .u8 (e1:Int)] W fun e w'=>e= .returned (.int .i64 (sx:Int))∧Below W.heap.size W w' from fun W=>by rw [←hd1];exact Xdk e1 hd1a hd1b W)
          have Hg2:=Qh (show ∀W,Calls Tryz.prog 205 #[.int .u8 (e2:Int)] W fun e w'=>e= .returned (.int .i64 (sy:Int))∧Below W.heap.size W w' from fun W=>by rw [←hd2];exact Xdk e2 hd2a hd2b W)
          clear hd1 hd1a hd1b hd2 hd2a hd2b
          have hlk:(stepsP (words s) r k vr).length=16:=by rw [Xbc,hlr]
          generalize hvk:stepsP (words s) r k vr=vk at hst hlk Hm5
          have Hvk:=Qh hvk
          clear hvk
          have m0:=(cell_of_row w5 _ sx _ _ _ Hm5.out.b2).trans (Xau (l:=words s) (by simpa [words] using hs1))
          have m1:=(cell_of_row w5 _ sy _ _ _ Hm5.out.b2).trans (Xau (l:=words s) (by simpa [words] using hs2))
          generalize (words s).getD sx 0=mx at m0 hst
          generalize (words s).getD sy 0=my at m1 hst
          have Hst:=Qh hst
          clear hst
          go_wp2_with fail
          have Hm6:=Qh (Hm5.out.alloc (.cells #[.int .i64 qa,.int .i64 qb,.int .i64 qc,.int .i64 qd] 164))
          have m0:=cell_regrown (Xab (.cells #[.int .i64 qa,.int .i64 qb,.int .i64 qc,.int .i64 qd] 164) m0)
          have m1:=cell_regrown (Xab (.cells #[.int .i64 qa,.int .i64 qb,.int .i64 qc,.int .i64 qd] 164) m1)
          have k0:=cell_regrown (show (w5.alloc (.cells #[.int .i64 qa,.int .i64 qb,.int .i64 qc,.int .i64 qd] 164)).cell? ⟨w5.heap.size,0,none⟩=some (.int .i64 qa) by simp)
          have k1:=cell_regrown (show (w5.alloc (.cells #[.int .i64 qa,.int .i64 qb,.int .i64 qc,.int .i64 qd] 164)).cell? ⟨w5.heap.size,1,none⟩=some (.int .i64 qb) by simp)
          have k2:=cell_regrown (show (w5.alloc (.cells #[.int .i64 qa,.int .i64 qb,.int .i64 qc,.int .i64 qd] 164)).cell? ⟨w5.heap.size,2,none⟩=some (.int .i64 qc) by simp)
          have k3:=cell_regrown (show (w5.alloc (.cells #[.int .i64 qa,.int .i64 qb,.int .i64 qc,.int .i64 qd] 164)).cell? ⟨w5.heap.size,3,none⟩=some (.int .i64 qd) by simp)
          have hi16:(Tryz.prog.info? 160).map (·.size)=some (row vk).size:=by rw [row_size,hlk];kernel_rfl
          have n1:(sx:Int)<16:=by omega
          have n2:(sy:Int)<16:=by omega
          refine Xae 24 (by kernel_rfl) (by kernel_rfl) ?_
          simp only [List.take_succ_cons,List.take_zero,List.drop_succ_cons,List.drop_zero]
          refine wpQuiet_load_row rfl 160 _ rfl (BI+1) rfl 160 (row vk) (0,0) _ (Xe5 Hm6.out.bv) Tryz.underlying160 rfl hi16 ?_
          simp only [Act.put,List.setIfInBounds_toArray,List.set_cons_succ,List.set_cons_zero]
          repeat (go_big_quiet_step (with_reducible first|exact Calls.regrown_of (Hg1.out _)|exact Calls.regrown_of (Hg2.out _)))
          refine wpQuiet_nil ?_
          intro w6 hwq
          have hb6:Below (w5.alloc (.cells #[.int .i64 qa,.int .i64 qb,.int .i64 qc,.int .i64 qd] 164)).heap.size (w5.alloc (.cells #[.int .i64 qa,.int .i64 qb,.int .i64 qc,.int .i64 qd] 164)) w6:=by
           obtain ⟨pq,rfl⟩:=hwq
           exact below_regrown _ _ _
          clear hwq
          have Hm7:=Qh (Hm6.out.pass hb6)
          clear Hm6 hb6 m0 m1 k0 k1 k2 k3 hx1 hx2
          go_wp2_with fail
          refine (Xk0 vk hlk qa qb qc qd mx my _ Hap.out).mono ?_
          rintro e w8 ⟨rfl,hb8⟩
          have Hm8:=Qh (Hm7.out.pass hb8)
          clear Hm7 hb8
          have hlm:(mixP vk qa qb qc qd mx my).length=16:=by rw [Xev,hlk]
          generalize hF:mixP vk qa qb qc qd mx my=F at hlm ⊢
          have HF:=Qh hF
          have hbv:=Hm8.out.bv
          have hiF:(Tryz.prog.info? 160).map (·.size)=some (row F).size:=by rw [row_size,hlm];kernel_rfl
          have hzF:(row vk).size=(row F).size:=by rw [row_size,row_size,hlk,hlm]
          have hoF:(row F).all (·.oneCell')=true:=by simp [row,Value.oneCell']
          clear hF hlm
          go_wp2_with (refine wpList_store_row rfl 160 _ _ rfl (BI+1) (row F) rfl rfl 160 (row vk) hbv hiF hzF hoF ?_)
          go_roundw
          case rel=>exact ⟨k+1,by omega,by go_num,by rw [stepsP,Hvk.out,Hst.out,HF.out];exact Hm8.out.rowv⟩
          case measure=>simp [intOf];omega
         ·have hke:k=8:=by omega
          subst hke
          have Hmk:=Qh hmk
          clear hmk
          go_wp2_with fail
          go_roundw
          case rel=>
           have hrel':∃r':Nat,r'≤10∧Value.int .i64 ((r:Int)+1)= .int .i64 r'∧Rm w BI (BI+1) [h0,h1,h2,h3,h4,h5,h6,h7] (words s) (roundsP (words s) r' v0) wr:=⟨r+1,by omega,by go_num,by rw [roundsP,Hvr.out];exact Hmk.out⟩
           first|exact hrel'|((repeat apply Exists.intro);exact ⟨hrel',rfl⟩)
          case measure=>simp [intOf];omega
       ·have hre:r=10:=by omega
        obtain ⟨v,hv⟩:∃v,roundsP (words s) r v0=v:=⟨_,rfl⟩
        have Hv:=Qh hv
        have hlv2:v.length=16:=by rw [←hv,Xas,hlv]
        rw [hv] at hmr
        clear hv
        have Hmr:=Qh hmr
        clear hmr
        go_wp2_with fail
        go_loopw [19] (fun s19 wr=> ∃k:Nat,k≤8∧s19= .int .i64 k∧Rm w BI (BI+1) (finTo [h0,h1,h2,h3,h4,h5,h6,h7] v k) (words s) v wr) (fun i _=>8-(intOf i).toNat)
        case atStart=>exact ⟨0,Nat.zero_le _,rfl,Hmr.out⟩
        case round=>
         clear Hmr
         obtain ⟨k,hk,rfl,hmk⟩:=hrel
         by_cases hltk:k<8
         ·have hfl:=Xa1 [h0,h1,h2,h3,h4,h5,h6,h7] v k
          have a0:=(cell_of_row wr _ k _ _ _ hmk.b0).trans (Xau (by rw [hfl];exact hltk))
          have a1:=(cell_of_row wr _ k _ _ _ hmk.bv).trans (Xau (l:=v) (by omega))
          have a2:=(cell_of_row wr _ (k+8) _ _ _ hmk.bv).trans (Xau (l:=v) (by omega))
          rw [Xg1 _ _ _ hltk] at a0
          have hsc:=Xeh [h0,h1,h2,h3,h4,h5,h6,h7] v k
          generalize List.getD [h0,h1,h2,h3,h4,h5,h6,h7] k 0=x0 at a0 hsc
          generalize v.getD k 0=x1 at a1 hsc
          generalize v.getD (k+8) 0=x2 at a2 hsc
          have Hsc:=Qh hsc
          have Hmk:=Qh hmk
          clear hmk hfl hsc
          go_wp2_with fail
          have g0:=cell_regrown a0
          have g1:=cell_regrown a1
          have g2:=cell_regrown a2
          refine Xae 14 (by kernel_rfl) (by kernel_rfl) ?_
          simp only [List.take_succ_cons,List.take_zero,List.drop_succ_cons,List.drop_zero]
          repeat (go_big_quiet_step ((fail)))
          refine wpQuiet_nil ?_
          intro w9 hwq
          have hb9:Below (wr).heap.size (wr) w9:=by
           obtain ⟨pq,rfl⟩:=hwq
           exact below_regrown _ _ _
          clear hwq
          have hm9:=Hmk.out.pass hb9
          have a9:=hb9.cell (p:=⟨w.heap.size,k,none⟩) (block_lt_of_cell a0)
          rw [a0] at a9
          have f9:=frozen_of_row w9 _ k _ _ hm9.b0
          have Hm9:=Qh hm9
          clear hm9 hb9 g0 g1 g2 a0 a1 a2
          go_wp2
          go_roundw
          case rel=>exact ⟨k+1,by omega,by go_num,by rw [←Hsc.out,←Xg8];exact Hm9.out.set0 k _⟩
          case measure=>simp [intOf];omega
         ·have hfl:=Xa1 [h0,h1,h2,h3,h4,h5,h6,h7] v k
          have hfin:finTo [h0,h1,h2,h3,h4,h5,h6,h7] v k=compressP [h0,h1,h2,h3,h4,h5,h6,h7] s count true:=by
           rw [compressP,Hv0.out,←hre,Hv.out,show k=8 by omega]
          generalize finTo [h0,h1,h2,h3,h4,h5,h6,h7] v k=F at hmk hfl hfin
          have Hfin:=Qh hfin
          have hi8:(Tryz.prog.info? 111).map (·.size)=some (row F).size:=by rw [row_size,hfl];kernel_rfl
          have hz8:(row (List.replicate 8 0)).size=(row F).size:=by rw [row_size,row_size,hfl];rfl
          have ho8:(row F).all (·.oneCell')=true:=by simp [row,Value.oneCell']
          have b0:=hmk.b0
          have b1:=hmk.b1
          have Hmk:=Qh hmk
          clear hmk hfin hre
          go_wp2_with (first
           |(refine wpList_load_row rfl 111 _ rfl w.heap.size rfl 111 (row F) (0,0) _ b0 Tryz.underlying111 rfl hi8 ?_)
           |(refine wpList_store_row rfl 111 _ _ rfl (w.heap.size+1) (row F) rfl rfl 111 (row (List.replicate 8 0)) b1 hi8 hz8 ho8 ?_))
          try simp only [Exit.inBlock,Exit.then]
          refine bodyPost_ret (v:= .tuple #[.agg (row F),.int .i64 0]) ?_ rfl ⟨?_,?_⟩
          ·rw [results_cell_tmp rfl]
           simp [asAddr,run_loadVar_row _ (w.heap.size+1) 111 111 (row F) (0,0) _ (setRow_heap _ _ _ _ _ _ b1) Tryz.underlying111 rfl hi8]
          ·rw [Hfin.out]
          ·exact below_setRow Hmk.out.below (by omega) _
     |false=>
      go_wp2_with fail
      obtain ⟨v0,hv0⟩:∃v0,vInit [h0,h1,h2,h3,h4,h5,h6,h7] count false=v0:=⟨_,rfl⟩
      have Hv0:=Qh hv0
      clear hv0
      have hlv:v0.length=16:=by rw [←Hv0.out];exact Xcu _ rfl _ _
      clear c12 c13 c14 f12 f13 f14
      go_loopw [15] (fun s15 wr=> ∃r:Nat,r≤10∧s15= .int .i64 r∧Rm w BI (BI+1) [h0,h1,h2,h3,h4,h5,h6,h7] (words s) (roundsP (words s) r v0) wr) (fun i _=>10-(intOf i).toNat)
      case atStart=>exact ⟨0,Nat.zero_le _,rfl,by show Rm w BI (BI+1) _ (words s) v0 _;rw [←Hv0.out];exact (Hm.out.setv 12 _).setv 13 _⟩
      case round=>
       clear Hm
       obtain ⟨r,hr,rfl,hmr⟩:=hrel
       by_cases hltr:r<10
       ·obtain ⟨vr,hvr⟩:∃vr,roundsP (words s) r v0=vr:=⟨_,rfl⟩
        have Hvr:=Qh hvr
        rw [hvr] at hmr
        clear hvr
        have hlr:vr.length=16:=by rw [←Hvr.out,Xas,hlv]
        have Hmr:=Qh hmr
        clear hmr
        go_wp2_with fail
        refine (Xc5 r hltr _).mono ?_
        rintro e w4 ⟨rfl,hb4⟩
        have Hm4:=Qh (Hmr.out.pass hb4)
        clear Hmr hb4
        have hPl:=Xep r hltr
        have Hdig:=Qh (fun i hi=>Xl4 r i hltr hi)
        generalize refPerm r=P at hPl Hdig ⊢
        go_wp2_with fail
        go_loopw [17] (fun s17 wr=> ∃k:Nat,k≤8∧s17= .int .i64 k∧Rm w BI (BI+1) [h0,h1,h2,h3,h4,h5,h6,h7] (words s) (stepsP (words s) r k vr) wr) (fun i _=>8-(intOf i).toNat)
        case atStart=>exact ⟨0,Nat.zero_le _,rfl,Hm4.out⟩
        case round=>
         clear Hm4
         obtain ⟨k,hk,rfl,hmk⟩:=hrel
         by_cases hltk:k<8
         ·have Hmk:=Qh hmk
          clear hmk
          go_wp2_with fail
          refine (Xe7 k hltk _).mono ?_
          rintro e w5 ⟨rfl,hb5⟩
          have Hm5:=Qh (Hmk.out.pass hb5)
          clear Hmk hb5
          obtain ⟨qa,qb,qc,qd,hq⟩:∃qa qb qc qd,quad k=(qa,qb,qc,qd):=⟨_,_,_,_,rfl⟩
          have hqo:=Xjz k hltk
          have hst:stepP (words s) r k (stepsP (words s) r k vr)=mixP (stepsP (words s) r k vr) qa qb qc qd ((words s).getD (sigma r (2*k)) 0) ((words s).getD (sigma r (2*k+1)) 0):=by rw [stepP,hq]
          rw [hq] at hqo ⊢
          rw [show quadV (qa,qb,qc,qd)= .agg #[.int .i64 qa,.int .i64 qb,.int .i64 qc,.int .i64 qd] from rfl]
          have Hap:=Qh (show Apart 16 qa qb qc qd from ⟨hqo.1,hqo.2.1,hqo.2.2.1,hqo.2.2.2.1,hqo.2.2.2.2.1,hqo.2.2.2.2.2.1,hqo.2.2.2.2.2.2.1,hqo.2.2.2.2.2.2.2.1,hqo.2.2.2.2.2.2.2.2.1,hqo.2.2.2.2.2.2.2.2.2⟩)
          clear hq hqo
          have hs1:=Xcv r (2*k) hltr (by omega)
          have hs2:=Xcv r (2*k+1) hltr (by omega)
          obtain ⟨hd1,hd1a,hd1b⟩:=Hdig.out (2*k) (by omega)
          obtain ⟨hd2,hd2a,hd2b⟩:=Hdig.out (2*k+1) (by omega)
          have hx1:=run_at Tryz.underlying9 P (2*(k:Int)) (2*k) (by omega) (by omega)
          have hx2:=run_at Tryz.underlying9 P (2*(k:Int)+1) (2*k+1) (by omega) (by omega)
          generalize (P.getD (2*k) 0).toNat=e1 at hd1 hd1a hd1b hx1
          generalize (P.getD (2*k+1) 0).toNat=e2 at hd2 hd2a hd2b hx2
          generalize sigma r (2*k)=sx at hs1 hst hd1
          generalize sigma r (2*k+1)=sy at hs2 hst hd2
          have Hg1:=Qh (show ∀W,Calls Tryz.prog 205 #[.int .u8 (e1:Int)] W fun e w'=>e= .returned (.int .i64 (sx:Int))∧Below W.heap.size W w' from fun W=>by rw [←hd1];exact Xdk e1 hd1a hd1b W)
          have Hg2:=Qh (show ∀W,Calls Tryz.prog 205 #[.int .u8 (e2:Int)] W fun e w'=>e= .returned (.int .i64 (sy:Int))∧Below W.heap.size W w' from fun W=>by rw [←hd2];exact Xdk e2 hd2a hd2b W)
          clear hd1 hd1a hd1b hd2 hd2a hd2b
          have hlk:(stepsP (words s) r k vr).length=16:=by rw [Xbc,hlr]
          generalize hvk:stepsP (words s) r k vr=vk at hst hlk Hm5
          have Hvk:=Qh hvk
          clear hvk
          have m0:=(cell_of_row w5 _ sx _ _ _ Hm5.out.b2).trans (Xau (l:=words s) (by simpa [words] using hs1))
          have m1:=(cell_of_row w5 _ sy _ _ _ Hm5.out.b2).trans (Xau (l:=words s) (by simpa [words] using hs2))
          generalize (words s).getD sx 0=mx at m0 hst
          generalize (words s).getD sy 0=my at m1 hst
          have Hst:=Qh hst
          clear hst
          go_wp2_with fail
          have Hm6:=Qh (Hm5.out.alloc (.cells #[.int .i64 qa,.int .i64 qb,.int .i64 qc,.int .i64 qd] 164))
          have m0:=cell_regrown (Xab (.cells #[.int .i64 qa,.int .i64 qb,.int .i64 qc,.int .i64 qd] 164) m0)
          have m1:=cell_regrown (Xab (.cells #[.int .i64 qa,.int .i64 qb,.int .i64 qc,.int .i64 qd] 164) m1)
          have k0:=cell_regrown (show (w5.alloc (.cells #[.int .i64 qa,.int .i64 qb,.int .i64 qc,.int .i64 qd] 164)).cell? ⟨w5.heap.size,0,none⟩=some (.int .i64 qa) by simp)
          have k1:=cell_regrown (show (w5.alloc (.cells #[.int .i64 qa,.int .i64 qb,.int .i64 qc,.int .i64 qd] 164)).cell? ⟨w5.heap.size,1,none⟩=some (.int .i64 qb) by simp)
          have k2:=cell_regrown (show (w5.alloc (.cells #[.int .i64 qa,.int .i64 qb,.int .i64 qc,.int .i64 qd] 164)).cell? ⟨w5.heap.size,2,none⟩=some (.int .i64 qc) by simp)
          have k3:=cell_regrown (show (w5.alloc (.cells #[.int .i64 qa,.int .i64 qb,.int .i64 qc,.int .i64 qd] 164)).cell? ⟨w5.heap.size,3,none⟩=some (.int .i64 qd) by simp)
          have hi16:(Tryz.prog.info? 160).map (·.size)=some (row vk).size:=by rw [row_size,hlk];kernel_rfl
          have n1:(sx:Int)<16:=by omega
          have n2:(sy:Int)<16:=by omega
          refine Xae 24 (by kernel_rfl) (by kernel_rfl) ?_
          simp only [List.take_succ_cons,List.take_zero,List.drop_succ_cons,List.drop_zero]
          refine wpQuiet_load_row rfl 160 _ rfl (BI+1) rfl 160 (row vk) (0,0) _ (Xe5 Hm6.out.bv) Tryz.underlying160 rfl hi16 ?_
          simp only [Act.put,List.setIfInBounds_toArray,List.set_cons_succ,List.set_cons_zero]
          repeat (go_big_quiet_step (with_reducible first|exact Calls.regrown_of (Hg1.out _)|exact Calls.regrown_of (Hg2.out _)))
          refine wpQuiet_nil ?_
          intro w6 hwq
          have hb6:Below (w5.alloc (.cells #[.int .i64 qa,.int .i64 qb,.int .i64 qc,.int .i64 qd] 164)).heap.size (w5.alloc (.cells #[.int .i64 qa,.int .i64 qb,.int .i64 qc,.int .i64 qd] 164)) w6:=by
           obtain ⟨pq,rfl⟩:=hwq
           exact below_regrown _ _ _
          clear hwq
          have Hm7:=Qh (Hm6.out.pass hb6)
          clear Hm6 hb6 m0 m1 k0 k1 k2 k3 hx1 hx2
          go_wp2_with fail
          refine (Xk0 vk hlk qa qb qc qd mx my _ Hap.out).mono ?_
          rintro e w8 ⟨rfl,hb8⟩
          have Hm8:=Qh (Hm7.out.pass hb8)
          clear Hm7 hb8
          have hlm:(mixP vk qa qb qc qd mx my).length=16:=by rw [Xev,hlk]
          generalize hF:mixP vk qa qb qc qd mx my=F at hlm ⊢
          have HF:=Qh hF
          have hbv:=Hm8.out.bv
          have hiF:(Tryz.prog.info? 160).map (·.size)=some (row F).size:=by rw [row_size,hlm];kernel_rfl
          have hzF:(row vk).size=(row F).size:=by rw [row_size,row_size,hlk,hlm]
          have hoF:(row F).all (·.oneCell')=true:=by simp [row,Value.oneCell']
          clear hF hlm
          go_wp2_with (refine wpList_store_row rfl 160 _ _ rfl (BI+1) (row F) rfl rfl 160 (row vk) hbv hiF hzF hoF ?_)
          go_roundw
          case rel=>exact ⟨k+1,by omega,by go_num,by rw [stepsP,Hvk.out,Hst.out,HF.out];exact Hm8.out.rowv⟩
          case measure=>simp [intOf];omega
         ·have hke:k=8:=by omega
          subst hke
          have Hmk:=Qh hmk
          clear hmk
          go_wp2_with fail
          go_roundw
          case rel=>
           have hrel':∃r':Nat,r'≤10∧Value.int .i64 ((r:Int)+1)= .int .i64 r'∧Rm w BI (BI+1) [h0,h1,h2,h3,h4,h5,h6,h7] (words s) (roundsP (words s) r' v0) wr:=⟨r+1,by omega,by go_num,by rw [roundsP,Hvr.out];exact Hmk.out⟩
           first|exact hrel'|((repeat apply Exists.intro);exact ⟨hrel',rfl⟩)
          case measure=>simp [intOf];omega
       ·have hre:r=10:=by omega
        obtain ⟨v,hv⟩:∃v,roundsP (words s) r v0=v:=⟨_,rfl⟩
        have Hv:=Qh hv
        have hlv2:v.length=16:=by rw [←hv,Xas,hlv]
        rw [hv] at hmr
        clear hv
        have Hmr:=Qh hmr
        clear hmr
        go_wp2_with fail
        go_loopw [19] (fun s19 wr=> ∃k:Nat,k≤8∧s19= .int .i64 k∧Rm w BI (BI+1) (finTo [h0,h1,h2,h3,h4,h5,h6,h7] v k) (words s) v wr) (fun i _=>8-(intOf i).toNat)
        case atStart=>exact ⟨0,Nat.zero_le _,rfl,Hmr.out⟩
        case round=>
         clear Hmr
         obtain ⟨k,hk,rfl,hmk⟩:=hrel
         by_cases hltk:k<8
         ·have hfl:=Xa1 [h0,h1,h2,h3,h4,h5,h6,h7] v k
          have a0:=(cell_of_row wr _ k _ _ _ hmk.b0).trans (Xau (by rw [hfl];exact hltk))
          have a1:=(cell_of_row wr _ k _ _ _ hmk.bv).trans (Xau (l:=v) (by omega))
          have a2:=(cell_of_row wr _ (k+8) _ _ _ hmk.bv).trans (Xau (l:=v) (by omega))
          rw [Xg1 _ _ _ hltk] at a0
          have hsc:=Xeh [h0,h1,h2,h3,h4,h5,h6,h7] v k
          generalize List.getD [h0,h1,h2,h3,h4,h5,h6,h7] k 0=x0 at a0 hsc
          generalize v.getD k 0=x1 at a1 hsc
          generalize v.getD (k+8) 0=x2 at a2 hsc
          have Hsc:=Qh hsc
          have Hmk:=Qh hmk
          clear hmk hfl hsc
          go_wp2_with fail
          have g0:=cell_regrown a0
          have g1:=cell_regrown a1
          have g2:=cell_regrown a2
          refine Xae 14 (by kernel_rfl) (by kernel_rfl) ?_
          simp only [List.take_succ_cons,List.take_zero,List.drop_succ_cons,List.drop_zero]
          repeat (go_big_quiet_step ((fail)))
          refine wpQuiet_nil ?_
          intro w9 hwq
          have hb9:Below (wr).heap.size (wr) w9:=by
           obtain ⟨pq,rfl⟩:=hwq
           exact below_regrown _ _ _
          clear hwq
          have hm9:=Hmk.out.pass hb9
          have a9:=hb9.cell (p:=⟨w.heap.size,k,none⟩) (block_lt_of_cell a0)
          rw [a0] at a9
          have f9:=frozen_of_row w9 _ k _ _ hm9.b0
          have Hm9:=Qh hm9
          clear hm9 hb9 g0 g1 g2 a0 a1 a2
          go_wp2
          go_roundw
          case rel=>exact ⟨k+1,by omega,by go_num,by rw [←Hsc.out,←Xg8];exact Hm9.out.set0 k _⟩
          case measure=>simp [intOf];omega
         ·have hfl:=Xa1 [h0,h1,h2,h3,h4,h5,h6,h7] v k
          have hfin:finTo [h0,h1,h2,h3,h4,h5,h6,h7] v k=compressP [h0,h1,h2,h3,h4,h5,h6,h7] s count false:=by
           rw [compressP,Hv0.out,←hre,Hv.out,show k=8 by omega]
          generalize finTo [h0,h1,h2,h3,h4,h5,h6,h7] v k=F at hmk hfl hfin
          have Hfin:=Qh hfin
          have hi8:(Tryz.prog.info? 111).map (·.size)=some (row F).size:=by rw [row_size,hfl];kernel_rfl
          have hz8:(row (List.replicate 8 0)).size=(row F).size:=by rw [row_size,row_size,hfl];rfl
          have ho8:(row F).all (·.oneCell')=true:=by simp [row,Value.oneCell']
          have b0:=hmk.b0
          have b1:=hmk.b1
          have Hmk:=Qh hmk
          clear hmk hfin hre
          go_wp2_with (first
           |(refine wpList_load_row rfl 111 _ rfl w.heap.size rfl 111 (row F) (0,0) _ b0 Tryz.underlying111 rfl hi8 ?_)
           |(refine wpList_store_row rfl 111 _ _ rfl (w.heap.size+1) (row F) rfl rfl 111 (row (List.replicate 8 0)) b1 hi8 hz8 ho8 ?_))
          try simp only [Exit.inBlock,Exit.then]
          refine bodyPost_ret (v:= .tuple #[.agg (row F),.int .i64 0]) ?_ rfl ⟨?_,?_⟩
          ·rw [results_cell_tmp rfl]
           simp [asAddr,run_loadVar_row _ (w.heap.size+1) 111 111 (row F) (0,0) _ (setRow_heap _ _ _ _ _ _ b1) Tryz.underlying111 rfl hi8]
          ·rw [Hfin.out]
          ·exact below_setRow Hmk.out.below (by omega) _
structure DM (w:World) (B:Nat) (l:List Int) (X:World):Prop where
 below:Below w.heap.size w X
 le:w.heap.size≤B
 lt:B<X.heap.size
 row_:X.heap[B]? =some (.cells (row l) 111 (0,0))
theorem DM.pass {w X X':World} {B:Nat} {l:List Int} (h:DM w B l X) (hb:Below X.heap.size X X'):DM w B l X':=
 ⟨h.below.trans (hb.mono h.below.size),h.le,Nat.lt_of_lt_of_le h.lt hb.size,(hb.block _ h.lt).trans h.row_⟩
theorem DM.set {w X:World} {B:Nat} {l l':List Int} (h:DM w B l X):DM w B l' (X.setRow B (row l')):=
 ⟨below_setRow h.below h.le _,h.le,by simpa using h.lt,setRow_heap _ _ _ _ _ _ h.row_⟩
def DgR (w:World) (B:Nat) (s:Bytes) (v4 v5:Value) (X:World):Prop:=
 (∃i:Nat,i≤lastAt s∧64*i≤s.length∧v4= .int .i64 (64*(i:Int))∧v5= .bool false∧DM w B (hAt s i) X)∨(v4= .int .i64 (s.length:Int)∧v5= .bool true∧DM w B (sumWords s) X)
def bOf:Value→Nat
 | .bool true=>0
 |_=>1
theorem Xt6 (G:List Int) (hG:G.length=8) (q r:Nat) (hq:q<8) (hr:r<4):(outTo G 8).take (4*q+r+1)=(outTo G 8).take (4*q+r)++ [(wordBytes (G.getD q 0)).getD r 0]:=by
 obtain ⟨a,b,c,d,e,f,g,h,rfl⟩:=Xng hG
 rcases (show q=0∨q=1∨q=2∨q=3∨q=4∨q=5∨q=6∨q=7 by omega) with rfl|rfl|rfl|rfl|rfl|rfl|rfl|rfl<;>
  rcases (show r=0∨r=1∨r=2∨r=3 by omega) with rfl|rfl|rfl|rfl<;>rfl
theorem Xrm (G:List Int) (hG:G.length=8):(outTo G 8).length=32:=by
 obtain ⟨a,b,c,d,e,f,g,h,rfl⟩:=Xng hG
 rfl
set_option maxRecDepth 100000 in
set_option maxHeartbeats 2000000 in
theorem Xdz (s:Bytes) (hs:s.length≤140737488355328) (w:World):
 Calls Tryz.prog 92 #[S s] w fun e w'=>e= .returned (S (sumP s))∧Below w.heap.size w w':=by
 go_enter Tryz.func92,Tryz.ntmps92
 go_wp2_with fail
 refine (Xe8 _).mono ?_
 rintro e w1 ⟨rfl,hb1⟩
 rw [show row blkIV= #[.int .u32 1779033703,.int .u32 3144134277,.int .u32 1013904242,.int .u32 2773480762,.int .u32 1359893119,.int .u32 2600822924,.int .u32 528734635,.int .u32 1541459225] from rfl]
 go_wp2_with fail
 go_loopw [4,5] (fun s4 s5 wr=>DgR w w1.heap.size s s4 s5 wr) (fun c d _=>(s.length-(intOf c).toNat)+bOf d)
 case atStart=>exact .inl ⟨0,Nat.zero_le _,Nat.zero_le _,rfl,rfl,hb1.alloc hb1.size _,hb1.size,by simp,heap_alloc_new w1 (.cells (row sumStart) 111)⟩
 case round=>
  have hb1s:=hb1.size
  clear hb1
  rcases hrel with ⟨i,hi,hil,rfl,rfl,hm⟩|⟨rfl,rfl,hm⟩
  ·have Hm:=Qh hm
   clear hm
   by_cases hlt:i<lastAt s
   ·have hgt:64*i+64<s.length:=by unfold lastAt at hlt;omega
    have hi1:i+1≤lastAt s:=hlt
    clear hlt hi
    have hw1:IntKind.i64.wrap ((s.length:Int)-64*(i:Int))=(s.length:Int)-64*(i:Int):=IntWalk.i64_in _ (by omega)
    have hw2:IntKind.i64.wrap (64*(i:Int)+64)=64*(i:Int)+64:=IntWalk.i64_in _ (by omega)
    have hw3:(0:Int)≤64*(i:Int):=by omega
    have hw4:(64*(i:Int)+64).toNat=64*i+64:=by omega
    have hw5:(64*(i:Int)).toNat=64*i:=by omega
    have hw6:64*i+64-64*i=64:=by omega
    have hd1:decide (64<(s.length:Int)-64*(i:Int))=true:=by simp;omega
    have Hat:=Qh (show compressP (hAt s i) ((s.drop (64*i)).take 64) (64*(i:Int)+64) false=hAt s (i+1) by rw [hAt,show ((64*i+64:Nat):Int)=64*(i:Int)+64 by omega])
    have hbl:((s.drop (64*i)).take 64).length=64:=by simp;omega
    have hc:((64*(i:Int)+64)==(s.length:Int))=false:=by rw [beq_eq_false_iff_ne];omega
    have hwu:IntKind.u64.wrap (64*(i:Int)+64)=64*(i:Int)+64:=IntWalk.u64_in _ (by omega)
    go_wp2_with fail
    generalize (s.drop (64*i)).take 64=blk at Hat hbl ⊢
    have Hbl:=Qh hbl
    have hbl2:64≤blk.length:=by omega
    clear hbl
    go_loop [7] (fun s7=>s7=S blk) (fun _=>0)
    case atStart=>rfl
    case round=>
     obtain rfl:=hrel
     have hrow:=Hm.out.row_
     have hl8:=Xdb s i
     generalize hAt s i=F at hrow hl8 Hat
     have hi8:(Tryz.prog.info? 111).map (·.size)=some (row F).size:=by rw [row_size,hl8];kernel_rfl
     have Hl8:=Qh hl8
     clear hl8
     go_wp2_with (refine wpList_load_row rfl 111 _ rfl w1.heap.size rfl 111 (row F) (0,0) _ hrow Tryz.underlying111 rfl hi8 ?_)
     refine (Xeq F Hl8.out blk Hbl.out (64*(i:Int)+64) false _).mono ?_
     rintro e w3 ⟨rfl,hb3⟩
     have Hm3:=Qh (Hm.out.pass hb3)
     have hr3:w3.heap[w1.heap.size]? =some (.cells (row F) 111 (0,0)):=(hb3.block _ Hm.out.lt).trans hrow
     rw [Hat.out]
     have hl9:=Xdb s (i+1)
     generalize hG:hAt s (i+1)=G at hl9 ⊢
     have HG:=Qh hG
     have hi9:(Tryz.prog.info? 111).map (·.size)=some (row G).size:=by rw [row_size,hl9];kernel_rfl
     have hz9:(row F).size=(row G).size:=by rw [row_size,row_size,Hl8.out,hl9]
     have ho9:(row G).all (·.oneCell')=true:=by simp [row,Value.oneCell']
     clear hb3 hrow hG hl9
     go_wp2_with (refine wpList_store_row rfl 111 _ _ rfl w1.heap.size (row G) rfl rfl 111 (row F) hr3 hi9 hz9 ho9 ?_)
     simp only [Act.put]
     go_roundw
     case rel=>exact .inl ⟨i+1,by omega,by omega,by go_num,rfl,by rw [HG.out];exact Hm3.out.set⟩
     case measure=>simp [intOf,bOf];omega
   ·have hie:i=lastAt s:=by omega
    have hle:s.length≤64*i+64:=by unfold lastAt at hie;omega
    obtain ⟨m,hm⟩:∃m,s.length-64*i=m:=⟨_,rfl⟩
    have hmi:(s.length:Int)-64*(i:Int)=(m:Int):=by omega
    have hm64:m≤64:=by omega
    have Hsum:=Qh (show compressP (hAt s i) (s.drop (64*i)++List.replicate (64-m) 0) (s.length:Int) true=sumWords s by rw [sumWords,←hie,hm])
    have hdr:(s.drop (64*i)).length=m:=by simp;omega
    have htk:(s.drop (64*i)).take m=s.drop (64*i):=List.take_of_length_le (by omega)
    have hw1:IntKind.i64.wrap ((s.length:Int)-64*(i:Int))=(m:Int):=by rw [hmi];exact IntWalk.i64_in _ (by omega)
    have hw2:IntKind.i64.wrap (64*(i:Int)+(m:Int))=(s.length:Int):=by rw [IntWalk.i64_in _ (by omega)];omega
    have hw3:(0:Int)≤64*(i:Int):=by omega
    have hw5:(64*(i:Int)).toNat=64*i:=by omega
    have hw7:s.length-64*i=m:=hm
    have hw8:64*(i:Int)≤(s.length:Int):=by omega
    have hwu:IntKind.u64.wrap (s.length:Int)=(s.length:Int):=IntWalk.u64_in _ (by omega)
    clear hm hie hlt hmi hdr
    go_wp2_with fail
    generalize hblk:s.drop (64*i)=blk at Hsum ⊢
    have hbl:blk.length=m:=by rw [←hblk];simp;omega
    clear hblk hw1 hw2 hw3 hw5 hw7 hw8
    have Hbl:=Qh hbl
    have hbl2:blk.length≤64:=by omega
    have hwc:((s.length:Int)==(s.length:Int))=true:=beq_self_eq_true _
    clear hbl
    go_loop [7] (fun s7=> ∃j:Nat,j+m≤64∧s7=S (blk++List.replicate j 0)) (fun v=>match v with| .string b=>64-b.size|_=>0)
    case atStart=>exact ⟨0,by omega,by simp⟩
    case round=>
     obtain ⟨j,hj,rfl⟩:=hrel
     have hjl:(blk++List.replicate j (0:UInt8)).length=m+j:=by rw [List.length_append,List.length_replicate,Hbl.out]
     have Hjs:=Qh (show blk++List.replicate j (0:UInt8)++ [0]=blk++List.replicate (j+1) 0 by rw [List.replicate_succ',List.append_assoc])
     have Hjl:=Qh hjl
     generalize hx:blk++List.replicate j (0:UInt8)=x at hjl Hjs Hjl ⊢
     have Hx:=Qh hx
     clear hx
     by_cases hlt64:j+m<64
     ·have hx64:x.length<64:=by omega
      clear hjl
      go_wp2
      go_round
      case rel=>exact ⟨j+1,by omega,by rw [Hjs.out]⟩
      case measure=>simp [ByteArray.size];omega
     ·have hx64:64≤x.length:=by omega
      have Hx64:=Qh (show x.length=64 by omega)
      have Hxe:=Qh (show x=blk++List.replicate (64-m) 0 by rw [←Hx.out,show 64-m=j by omega])
      clear hjl
      have hrow:=Hm.out.row_
      have hl8:=Xdb s i
      generalize hAt s i=F at hrow hl8 Hsum
      have hi8:(Tryz.prog.info? 111).map (·.size)=some (row F).size:=by rw [row_size,hl8];kernel_rfl
      have Hl8:=Qh hl8
      clear hl8
      go_wp2_with (refine wpList_load_row rfl 111 _ rfl w1.heap.size rfl 111 (row F) (0,0) _ hrow Tryz.underlying111 rfl hi8 ?_)
      refine (Xeq F Hl8.out x Hx64.out (s.length:Int) true _).mono ?_
      rintro e w3 ⟨rfl,hb3⟩
      have Hm3:=Qh (Hm.out.pass hb3)
      have hr3:w3.heap[w1.heap.size]? =some (.cells (row F) 111 (0,0)):=(hb3.block _ Hm.out.lt).trans hrow
      have hl9:(compressP F x (s.length:Int) true).length=8:=Xaz ..
      generalize hG:compressP F x (s.length:Int) true=G at hl9 ⊢
      have HG:=Qh (show sumWords s=G by rw [←Hsum.out,←Hxe.out,hG])
      have hi9:(Tryz.prog.info? 111).map (·.size)=some (row G).size:=by rw [row_size,hl9];kernel_rfl
      have hz9:(row F).size=(row G).size:=by rw [row_size,row_size,Hl8.out,hl9]
      have ho9:(row G).all (·.oneCell')=true:=by simp [row,Value.oneCell']
      clear hb3 hrow hG hl9
      go_wp2_with (refine wpList_store_row rfl 111 _ _ rfl w1.heap.size (row G) rfl rfl 111 (row F) hr3 hi9 hz9 ho9 ?_)
      simp only [Act.put]
      go_roundw
      case rel=>exact .inr ⟨rfl,rfl,by rw [HG.out];exact Hm3.out.set⟩
      case measure=>simp [intOf,bOf]
  ·have Hm:=Qh hm
   clear hm
   have hlG:(sumWords s).length=8:=Xaz ..
   obtain ⟨G,hG⟩:∃G,sumWords s=G:=⟨_,rfl⟩
   have HG:=Qh hG
   rw [hG] at hlG Hm
   clear hG
   go_wp2_with fail
   have hBs:=Hm.out.lt
   have hown0:OwnS tB 5 (fun _=>none) wr wr.heap.size (.slice none 0 0) ((outTo G 8).take 0):=OwnS.nil _ _ _ _ _
   have Hown0:=Qh hown0
   have hB0:w.heap.size≤wr.heap.size:=Hm.out.below.size
   clear hown0 hb1s
   generalize hB0e:wr.heap.size=B0 at hBs Hown0 hB0
   have HB0e:=Qh (Nat.le_of_eq hB0e.symm)
   clear hB0e
   have hol:=Xrm G hlG
   generalize w1.heap.size=B at hBs Hm ⊢
   go_loopw [8,9] (fun s8 s9 X=> ∃k:Nat,k≤32∧s9= .int .i64 k∧OwnS tB 5 (fun _=>none) X B0 s8 ((outTo G 8).take k)∧X.heap[B]? =some (.cells (row G) 111 (0,0))∧Below w.heap.size w X∧B0≤X.heap.size) (fun _ k _=>32-(intOf k).toNat)
   case atStart=>exact ⟨0,Nat.zero_le _,rfl,Hown0.out,Hm.out.row_,Hm.out.below,HB0e.out⟩
   case round=>
    clear Hown0 Hm HB0e
    obtain ⟨k,hk,rfl,hown,hrow,hb,hsz⟩:=hrel
    have Hown:=Qh hown
    by_cases hlt:k<32
    ·obtain ⟨q,r,hq,hr,hkq⟩:∃q r,q<8∧r<4∧k=4*q+r:=⟨k / 4,k%4,by omega,by omega,by omega⟩
     have hdiv:(k:Int) / 4=(q:Int):=by omega
     have hqi:(q:Int)<8:=by omega
     have Hst:=Qh (show (outTo G 8).take (k+1)=(outTo G 8).take k++ [(wordBytes (G.getD q 0)).getD r 0] by rw [hkq];exact Xt6 G hlG q r hq hr)
     have c0:=(cell_of_row wr _ q _ _ _ hrow).trans (Xau (l:=G) (by omega))
     have hlk:((outTo G 8).take k).length≤32:=by rw [List.length_take];omega
     have Hkq:=Qh hkq
     have Hrow:=Qh hrow
     clear hkq hown hrow hol
     generalize G.getD q 0=x0 at c0 Hst
     rcases (show r=0∨r=1∨r=2∨r=3 by omega) with rfl|rfl|rfl|rfl
     ·have hmod:(k:Int)%4=0:=by have:=Hkq.out;omega
      go_wp2_with (at_builtin;refine Xad (w0:=wr) Xhe rfl _ _ rfl _ _ _ rfl Hown.out (x0%256) [.int .u8 (x0%256)] _ rfl rfl (by omega) (by omega) hsz ?_)
      intro v5 w5 hown5 hg5
      have hb5:=Below.own hb hg5 Hown.out hB0 hsz
      have hr5:=(hg5.block B (by omega) (fun e=>Hown.out.ne_lt hBs e.symm)).trans Hrow.out
      have hs5:=hg5.size
      have Hown5:=Qh hown5
      have Hr5:=Qh hr5
      clear hown5 hr5 hg5 Hown Hrow
      go_wp2
      go_roundw
      case rel=>exact ⟨k+1,by omega,by go_num,by rw [Hst.out];exact Hown5.out,Hr5.out,hb5,by omega⟩
      case measure=>simp [intOf];omega
     ·have hmod:(k:Int)%4=1:=by have:=Hkq.out;omega
      go_wp2_with (at_builtin;refine Xad (w0:=wr) Xhe rfl _ _ rfl _ _ _ rfl Hown.out (x0 / 256%256) [.int .u8 (x0 / 256%256)] _ rfl rfl (by omega) (by omega) hsz ?_)
      intro v5 w5 hown5 hg5
      have hb5:=Below.own hb hg5 Hown.out hB0 hsz
      have hr5:=(hg5.block B (by omega) (fun e=>Hown.out.ne_lt hBs e.symm)).trans Hrow.out
      have hs5:=hg5.size
      have Hown5:=Qh hown5
      have Hr5:=Qh hr5
      clear hown5 hr5 hg5 Hown Hrow
      go_wp2
      go_roundw
      case rel=>exact ⟨k+1,by omega,by go_num,by rw [Hst.out];exact Hown5.out,Hr5.out,hb5,by omega⟩
      case measure=>simp [intOf];omega
     ·have hmod:(k:Int)%4=2:=by have:=Hkq.out;omega
      go_wp2_with (at_builtin;refine Xad (w0:=wr) Xhe rfl _ _ rfl _ _ _ rfl Hown.out (x0 / 65536%256) [.int .u8 (x0 / 65536%256)] _ rfl rfl (by omega) (by omega) hsz ?_)
      intro v5 w5 hown5 hg5
      have hb5:=Below.own hb hg5 Hown.out hB0 hsz
      have hr5:=(hg5.block B (by omega) (fun e=>Hown.out.ne_lt hBs e.symm)).trans Hrow.out
      have hs5:=hg5.size
      have Hown5:=Qh hown5
      have Hr5:=Qh hr5
      clear hown5 hr5 hg5 Hown Hrow
      go_wp2
      go_roundw
      case rel=>exact ⟨k+1,by omega,by go_num,by rw [Hst.out];exact Hown5.out,Hr5.out,hb5,by omega⟩
      case measure=>simp [intOf];omega
     ·have hmod:(k:Int)%4=3:=by have:=Hkq.out;omega
      go_wp2_with (at_builtin;refine Xad (w0:=wr) Xhe rfl _ _ rfl _ _ _ rfl Hown.out (x0 / 16777216%256) [.int .u8 (x0 / 16777216%256)] _ rfl rfl (by omega) (by omega) hsz ?_)
      intro v5 w5 hown5 hg5
      have hb5:=Below.own hb hg5 Hown.out hB0 hsz
      have hr5:=(hg5.block B (by omega) (fun e=>Hown.out.ne_lt hBs e.symm)).trans Hrow.out
      have hs5:=hg5.size
      have Hown5:=Qh hown5
      have Hr5:=Qh hr5
      clear hown5 hr5 hg5 Hown Hrow
      go_wp2
      go_roundw
      case rel=>exact ⟨k+1,by omega,by go_num,by rw [Hst.out];exact Hown5.out,Hr5.out,hb5,by omega⟩
      case measure=>simp [intOf];omega
    ·have hke:k=32:=by omega
     have hfull:(outTo G 8).take k=outTo G 8:=List.take_of_length_le (by omega)
     have hret:(outTo G 8).map (fun x=>UInt8.ofNat x.toNat)=sumP s:=by rw [sumP,HG.out]
     rw [hfull] at hown
     have hpos:0<(outTo G 8).length:=by omega
     have hcv:=Xkd (P:=Tryz.prog) Tryz.underlying75 Tryz.underlying5 Tryz.underlying9 wr hown hpos
     rw [hret] at hcv
     clear hown hpos hke hfull hret hrow Hown hol hlG
     go_wp2
     go_ret
     exact ⟨rfl,hb⟩
def sumPart (s:Bytes) (k:Nat):Bytes:=if k=0 then [] else s
set_option maxRecDepth 100000 in
set_option maxHeartbeats 400000 in
theorem Xpz (b off cap:Nat) (s:Bytes) (hs:s.length≤140737488355328) (w:World) (hc:w.cell? ⟨b,off,none⟩=some (S s)):
 Calls Tryz.prog 38 #[.slice (some ⟨b,off,none⟩) 1 cap] w fun e w'=>e= .returned (S (sumP s))∧Below w.heap.size w w':=by
 go_enter Tryz.func38,Tryz.ntmps38
 go_wp2_with fail
 go_loop [3,4] (fun s3 s4=> ∃k:Nat,k≤1∧s4= .int .i64 k∧s3=S (sumPart s k)) (fun _ k=>1-(intOf k).toNat)
 case atStart=>exact ⟨0,by omega,rfl,rfl⟩
 case round=>
  obtain ⟨k,hk,rfl,rfl⟩:=hrel
  by_cases hlt:k<1
  ·have hk0:k=0:=by omega
   subst hk0
   rw [show sumPart s 0= [] from rfl]
   go_wp2
   go_round
   case rel=>exact ⟨1,by omega,by go_num,rfl⟩
   case measure=>simp [intOf]
  ·have hk1:k=1:=by omega
   subst hk1
   rw [show sumPart s 1=s from rfl]
   go_wp2_with fail
   refine (Xdz s hs _).mono ?_
   rintro e w1 ⟨rfl,hb1⟩
   go_wp2
   go_ret
   exact ⟨rfl,hb1⟩
end Go.Proofs.YtdodihnehppnmaaGreatDoor
namespace Go.Proofs.YtdodihnehppnmaaGreatDoor
theorem Xxy (s:Bytes):(sumP s).length=32:=by
 unfold sumP
 rw [List.length_map]
 exact Xrm _ (Xaz ..)
def txtA:Bytes:= [116,101,120,116]
def digA:Bytes:=sumP txtA
def yA:Ent:=⟨1,[97],[],[],4,digA,[⟨1,0,4⟩]⟩
def yR:Ent:=⟨4,[97],[],[],0,[],[]⟩
def sA:Ses:=⟨1,5,[],[yA],txtA,[]⟩
def sB:Ses:=⟨2,6,(dirDig sA).1,[yR],[],[]⟩
end Go.Proofs.YtdodihnehppnmaaGreatDoor
