/-
  Walks and laws that the claim's theorem uses: texts BmC AtA AtB, joined; comments out. Conditions: as each theorem says.
-/
import Derived.Test.YtdodihnehppnmaaGreatDoorTO01
import Derived.Deep.DeepCutAuto
import Derived.StillTailTactics
set_option linter.all false
namespace Go.Proofs.YtdodihnehppnmaaGreatDoor
open Go.RowKit
theorem Xng {α:Type}:∀ {l:List α},l.length=8→ ∃a b c d e f g h,l= [a,b,c,d,e,f,g,h]
 | [a,b,c,d,e,f,g,h],_=>⟨a,b,c,d,e,f,g,h,rfl⟩
def byteI (s:Bytes) (i:Nat):Int:=((s[i]?.getD 0).toNat:Int)%4294967296
def wordAt (s:Bytes) (k:Nat):Int:=bits .or .u32 (bits .or .u32 (bits .or .u32 (byteI s (4*k)) (byteI s (4*k+1)*256%4294967296)) (byteI s (4*k+2)*65536%4294967296)) (byteI s (4*k+3)*16777216%4294967296)
def wordsTo (s:Bytes) (k:Nat):List Int:=(List.range 16).map fun j=>if j<k then wordAt s j else 0
def words (s:Bytes):List Int:=(List.range 16).map (wordAt s)
theorem Xip (s:Bytes) (k:Nat):(wordsTo s k).length=16:=by simp [wordsTo]
theorem Xkk (s:Bytes) (k:Nat) (_hk:k<16):(wordsTo s k).set k (wordAt s k)=wordsTo s (k+1):=by
 apply List.ext_getElem
 ·simp [wordsTo]
 ·intro j h1 h2
  simp only [wordsTo,List.getElem_set,List.getElem_map,List.getElem_range]
  by_cases h:k=j
  ·subst h;simp
  ·rw [if_neg h]
   by_cases hj:j<k
   ·rw [if_pos hj,if_pos (by omega)]
   ·rw [if_neg hj,if_neg (by omega)]
theorem Xmo (s:Bytes):wordsTo s 16=words s:=by
 apply List.map_congr_left
 intro j hj
 rw [if_pos (List.mem_range.1 hj)]
structure Cm (w:World) (hs m v:List Int) (wr:World):Prop where
 below:Below w.heap.size w wr
 size:w.heap.size+1+1+1<wr.heap.size
 b0:wr.heap[w.heap.size]? =some (.cells (row hs) 111 (0,0))
 b1:wr.heap[w.heap.size+1]? =some (.cells (row (List.replicate 8 0)) 111 (0,0))
 b2:wr.heap[w.heap.size+1+1]? =some (.cells (row m) 160 (0,0))
 b3:wr.heap[w.heap.size+1+1+1]? =some (.cells (row v) 160 (0,0))
section
variable {w wr w':World} {hs m v:List Int}
theorem Xf2 {X:World} {k:Nat} (hk:X.heap.size=k) (o:Obj):(X.alloc o).heap[k]? =some o:=by subst hk;exact heap_alloc_new _ _
theorem Cm.start (w:World) (hs:List Int):Cm w hs (List.replicate 16 0) (List.replicate 16 0) ((((w.alloc (.cells (row hs) 111)).alloc (.cells (row (List.replicate 8 0)) 111)).alloc (.cells (row (List.replicate 16 0)) 160)).alloc (.cells (row (List.replicate 16 0)) 160)):=by
 refine ⟨((((Qb _ _).alloc (Qn _) _).alloc (by simp) _).alloc (by simp;omega) _).alloc (by simp;omega) _,by simp,?_,?_,?_,?_⟩
 ·exact (Below.heap_alloc _ _ _ (by simp;omega)).trans ((Below.heap_alloc _ _ _ (by simp;omega)).trans ((Below.heap_alloc _ _ _ (by simp)).trans (heap_alloc_new _ _)))
 ·exact (Below.heap_alloc _ _ _ (by simp)).trans ((Below.heap_alloc _ _ _ (by simp)).trans (Xf2 (by simp) _))
 ·exact (Below.heap_alloc _ _ _ (by simp)).trans (Xf2 (by simp) _)
 ·exact Xf2 (by simp) _
theorem Cm.pass (h:Cm w hs m v wr) (hb:Below wr.heap.size wr w'):Cm w hs m v w':=by
 have:=h.size
 exact ⟨h.below.trans (hb.mono h.below.size),by have:=hb.size;omega,(hb.block _ (by omega)).trans h.b0,(hb.block _ (by omega)).trans h.b1,(hb.block _ (by omega)).trans h.b2,(hb.block _ (by omega)).trans h.b3⟩
theorem Cm.drew (h:Cm w hs m v wr):Cm w hs m v wr.drew:=h.pass (Qb _ _).drew
theorem Cm.alloc (h:Cm w hs m v wr) (o:Obj):Cm w hs m v (wr.alloc o):=h.pass ((Qb _ _).alloc (Qn _) o)
theorem Cm.set0 (h:Cm w hs m v wr) (i:Nat) (x:Int):Cm w (hs.set i x) m v (wr.setCell ⟨w.heap.size,i,none⟩ (.int .u32 x)):=by
 have o:∀k,k≠w.heap.size→(wr.setCell ⟨w.heap.size,i,none⟩ (.int .u32 x)).heap[k]? =wr.heap[k]? :=fun k hk=>Below.heap_setCell _ _ _ _ hk
 exact ⟨h.below.setCell (Qn _) _,by simpa [World.setCell] using h.size,heap_setCell _ h.b0,(o _ (by omega)).trans h.b1,(o _ (by omega)).trans h.b2,(o _ (by omega)).trans h.b3⟩
theorem Cm.set2 (h:Cm w hs m v wr) (i:Nat) (x:Int):Cm w hs (m.set i x) v (wr.setCell ⟨w.heap.size+1+1,i,none⟩ (.int .u32 x)):=by
 have o:∀k,k≠w.heap.size+1+1→(wr.setCell ⟨w.heap.size+1+1,i,none⟩ (.int .u32 x)).heap[k]? =wr.heap[k]? :=fun k hk=>Below.heap_setCell _ _ _ _ hk
 exact ⟨h.below.setCell (by show w.heap.size≤w.heap.size+1+1;omega) _,by simpa [World.setCell] using h.size,(o _ (by omega)).trans h.b0,(o _ (by omega)).trans h.b1,heap_setCell _ h.b2,(o _ (by omega)).trans h.b3⟩
theorem Cm.set3 (h:Cm w hs m v wr) (i:Nat) (x:Int):Cm w hs m (v.set i x) (wr.setCell ⟨w.heap.size+1+1+1,i,none⟩ (.int .u32 x)):=by
 have o:∀k,k≠w.heap.size+1+1+1→(wr.setCell ⟨w.heap.size+1+1+1,i,none⟩ (.int .u32 x)).heap[k]? =wr.heap[k]? :=fun k hk=>Below.heap_setCell _ _ _ _ hk
 exact ⟨h.below.setCell (by show w.heap.size≤w.heap.size+1+1+1;omega) _,by simpa [World.setCell] using h.size,(o _ (by omega)).trans h.b0,(o _ (by omega)).trans h.b1,(o _ (by omega)).trans h.b2,heap_setCell _ h.b3⟩
theorem Cm.grown3 {v':List Int} (h:Cm w hs m v wr) (hg:wr.grownBy w' (some (w.heap.size+1+1+1))) (hv:w'.heap[w.heap.size+1+1+1]? =some (.cells (row v') 160 (0,0))):Cm w hs m v' w':=by
 have:=h.size
 have o:∀k,k<w.heap.size+1+1+1→w'.heap[k]? =wr.heap[k]? :=fun k hk=>hg.block k (by omega) (fun e=>by injection e;omega)
 exact ⟨h.below.grown hg (by omega) (fun k hk=>by injection hk;omega),by have:=hg.size;omega,(o _ (by omega)).trans h.b0,(o _ (by omega)).trans h.b1,(o _ (by omega)).trans h.b2,hv⟩
theorem Cm.row3 {v':List Int} (h:Cm w hs m v wr):Cm w hs m v' (wr.setRow (w.heap.size+1+1+1) (row v')):=by
 have o:∀k,k≠w.heap.size+1+1+1→(wr.setRow (w.heap.size+1+1+1) (row v')).heap[k]? =wr.heap[k]? :=fun k hk=>setRow_other _ _ _ _ hk
 exact ⟨below_setRow h.below (by omega) _,by simpa using h.size,(o _ (by omega)).trans h.b0,(o _ (by omega)).trans h.b1,(o _ (by omega)).trans h.b2,setRow_heap _ _ _ _ _ _ h.b3⟩
end
def blkIV:List Int:= [1779033703,3144134277,1013904242,2773480762,1359893119,2600822924,528734635,1541459225]
set_option maxRecDepth 100000 in
theorem Xij (w:World):Calls Tryz.prog 73 #[] w fun e w'=>e= .returned (.agg (row blkIV))∧Below w.heap.size w w':=by
 go_enter Tryz.func73,Tryz.ntmps73
 go_wp2
 refine bodyPost_ret (results_cell_row rfl _ _ w.heap.size _ (row blkIV) (0,0) _ rfl (heap_alloc_new w (.cells (row blkIV) 111)) Tryz.underlying111 rfl (by kernel_rfl)) rfl ⟨rfl,?_⟩
 exact (Qb _ _).alloc (Qn _) _
def vInit (hs:List Int) (count:Int) (last:Bool):List Int:=
 let v:=((hs++blkIV).set 12 (bits .xor .u32 1359893119 (count%4294967296))).set 13 (bits .xor .u32 2600822924 (count / 4294967296%4294967296))
 if last then v.set 14 (bits .xor .u32 IntKind.u32.max 528734635) else v
def finTo (hs v:List Int) (k:Nat):List Int:=(List.range 8).map fun j=>if j<k then bits .xor .u32 (hs.getD j 0) (bits .xor .u32 (v.getD j 0) (v.getD (j+8) 0)) else hs.getD j 0
theorem Xa1 (hs v:List Int) (k:Nat):(finTo hs v k).length=8:=by simp [finTo]
theorem Xg1 (hs v:List Int) (k:Nat) (hk:k<8):(finTo hs v k).getD k 0=hs.getD k 0:=by
 simp [finTo,List.getD,hk]
theorem Xeh (hs v:List Int) (k:Nat):(finTo hs v k).set k (bits .xor .u32 (hs.getD k 0) (bits .xor .u32 (v.getD k 0) (v.getD (k+8) 0)))=finTo hs v (k+1):=by
 apply List.ext_getElem
 ·simp [finTo]
 ·intro j h1 h2
  simp only [finTo,List.getElem_set,List.getElem_map,List.getElem_range]
  by_cases h:k=j
  ·subst h;simp
  ·rw [if_neg h]
   by_cases hj:j<k
   ·rw [if_pos hj,if_pos (by omega)]
   ·rw [if_neg hj,if_neg (by omega)]
def compressP (hs:List Int) (s:Bytes) (count:Int) (last:Bool):List Int:=finTo hs (roundsP (words s) 10 (vInit hs count last)) 8
theorem Xaz (hs:List Int) (s:Bytes) (count:Int) (last:Bool):(compressP hs s count last).length=8:=Xa1 ..
theorem Xcu (hs:List Int) (h:hs.length=8) (count:Int) (last:Bool):(vInit hs count last).length=16:=by
 unfold vInit
 cases last<;>simp [h,blkIV]
set_option maxRecDepth 100000 in
set_option maxHeartbeats 6000000 in
theorem Xgr (hs:List Int) (hh:hs.length=8) (s:Bytes) (hsl:s.length=64) (count:Int) (last:Bool) (w:World):
 Calls Tryz.prog 74 #[.agg (row hs),S s,.int .u64 count,.bool last] w fun e w'=>e= .returned (.tuple #[.agg (row (compressP hs s count last)),.int .i64 0])∧Below w.heap.size w w':=by
 obtain ⟨h0,h1,h2,h3,h4,h5,h6,h7,rfl⟩:=Xng hh
 rw [show row [h0,h1,h2,h3,h4,h5,h6,h7]= #[.int .u32 h0,.int .u32 h1,.int .u32 h2,.int .u32 h3,.int .u32 h4,.int .u32 h5,.int .u32 h6,.int .u32 h7] from rfl]
 have hsz:(s.length:Int)=64:=by omega
 clear hh
 have Hst:=Qh (Cm.start w [h0,h1,h2,h3,h4,h5,h6,h7])
 go_enter Tryz.func74,Tryz.ntmps74
 go_wp2_with fail
 go_loopw [25] (fun s25 wr=> ∃(k:Nat),k≤16∧s25= .int .i64 k∧Cm w [h0,h1,h2,h3,h4,h5,h6,h7] (wordsTo s k) (List.replicate 16 0) wr) (fun i _=>16-(intOf i).toNat)
 case atStart=>exact ⟨0,Nat.zero_le _,rfl,Hst.out⟩
 case round=>
  clear Hst
  obtain ⟨k,hk,rfl,hm⟩:=hrel
  by_cases hlt:k<16
  ·have hcell:=cell_of_row wr _ k _ _ _ hm.b2
   rw [Xau (by rw [Xip];omega)] at hcell
   have hfr:=frozen_of_row wr _ k _ _ hm.b2
   have Hm:=Qh hm;clear hm
   have hx0:=run_at Tryz.underlying9 s (4*(k:Int)) (4*k) (by omega) (by omega)
   have hx1:=run_at Tryz.underlying9 s (4*(k:Int)+1) (4*k+1) (by omega) (by omega)
   have hx2:=run_at Tryz.underlying9 s (4*(k:Int)+2) (4*k+2) (by omega) (by omega)
   have hx3:=run_at Tryz.underlying9 s (4*(k:Int)+3) (4*k+3) (by omega) (by omega)
   go_wp2_with fail
   go_big_region
   go_wp2
   go_roundw
   case rel=>exact ⟨k+1,by omega,by go_num,by rw [←Xkk s k hlt];exact (Hm.out.set2 k (wordAt s k)).drew⟩
   case measure=>simp [intOf];omega
  ·have hke:k=16:=by omega
   subst hke
   rw [Xmo] at hm
   go_wp2_with fail
   refine (Xij _).mono ?_
   rintro e w1 ⟨rfl,hb1⟩
   have hm1:=hm.pass hb1
   rw [show row blkIV= #[.int .u32 1779033703,.int .u32 3144134277,.int .u32 1013904242,.int .u32 2773480762,.int .u32 1359893119,.int .u32 2600822924,.int .u32 528734635,.int .u32 1541459225] from rfl]
   have Hm1:=Qh (hm1.alloc (.cells (row blkIV) 111))
   have hn1:=hm1.size
   have Hi1:=Qh (heap_alloc_new w1 (.cells (row blkIV) 111))
   clear hm1 hm hb1
   go_wp2_with fail
   have e0:(w1.alloc (.cells #[.int .u32 1779033703,.int .u32 3144134277,.int .u32 1013904242,.int .u32 2773480762,.int .u32 1359893119,.int .u32 2600822924,.int .u32 528734635,.int .u32 1541459225] 111))=w1.alloc (.cells (row blkIV) 111):=rfl
   rw [e0]
   obtain ⟨X,hX⟩:∃X,w1.alloc (.cells (row blkIV) 111)=X:=⟨_,rfl⟩
   rw [hX]
   have HmX:Hid (Cm w [h0,h1,h2,h3,h4,h5,h6,h7] (words s) (List.replicate 16 0) X):=Qh (by rw [←hX];exact Hm1.out)
   have HiX:Hid (X.heap[w1.heap.size]? =some (.cells (row blkIV) 111 (0,0))):=Qh (by rw [←hX];exact Hi1.out)
   have hnX:w1.heap.size<X.heap.size:=by rw [←hX];simp
   clear hX e0 Hm1 Hi1
   have hcp:∀ty,(Builtin.copy_ #[161,161] ty #[.slice (some ⟨w.heap.size+1+1+1,0,none⟩) 8 16,.slice (some ⟨w.heap.size,0,none⟩) 8 8]).run Tryz.prog X.drew= .ok (.int .i64 8) (X.drew.setRow (w.heap.size+1+1+1) (row ([h0,h1,h2,h3,h4,h5,h6,h7]++List.replicate 8 0))):=by
    intro ty
    have hcs:∀j v,([.int .u32 h0,.int .u32 h1,.int .u32 h2,.int .u32 h3,.int .u32 h4,.int .u32 h5,.int .u32 h6,.int .u32 h7]:List Value)[j]? =some v→X.drew.cell? ((⟨w.heap.size,0,none⟩:Addr).add j)=some v:=by
     intro j v hj
     rw [Addr.add_lit,cell_of_row _ _ _ _ _ _ HmX.out.drew.b0,Nat.zero_add]
     simpa [row] using hj
    exact Xa6 X.drew 161 161 ty 110 1 (w.heap.size+1+1+1) 0 8 16 ⟨w.heap.size,0,none⟩ 8 8 (row (List.replicate 16 0)) _ _ Tryz.underlying161 (by kernel_rfl) HmX.out.drew.b3 rfl hcs (by simp) (by simp [Value.oneCell'])
   go_region_law (refine step_copy_runI rfl _ _ 161 161 rfl _ _ (by simp [Act.eval,Act.put]) (by simp [Act.eval,Act.put]) (hcp _) ?_)
   go_wp2_with fail
   rw [show [h0,h1,h2,h3,h4,h5,h6,h7,0,0,0,0,0,0,0,0]= [h0,h1,h2,h3,h4,h5,h6,h7]++List.replicate 8 0 from rfl]
   obtain ⟨Y,hY⟩:∃Y,X.drew.setRow (w.heap.size+1+1+1) (row ([h0,h1,h2,h3,h4,h5,h6,h7]++List.replicate 8 0))=Y:=⟨_,rfl⟩
   rw [hY]
   have HmY:Hid (Cm w [h0,h1,h2,h3,h4,h5,h6,h7] (words s) ([h0,h1,h2,h3,h4,h5,h6,h7]++List.replicate 8 0) Y):=Qh (by rw [←hY];exact HmX.out.drew.row3)
   have HiY:Hid (Y.heap[w1.heap.size]? =some (.cells (row blkIV) 111 (0,0))):=Qh (by rw [←hY,setRow_other _ _ _ _ (by omega)];exact HiX.out)
   clear hY hcp HmX HiX hnX
   have hcp:∀ty,(Builtin.copy_ #[161,161] ty #[.slice (some ⟨w.heap.size+1+1+1,8,none⟩) 8 8,.slice (some ⟨w1.heap.size,0,none⟩) 8 8]).run Tryz.prog Y.drew= .ok (.int .i64 8) (Y.drew.setRow (w.heap.size+1+1+1) (row ([h0,h1,h2,h3,h4,h5,h6,h7]++blkIV))):=by
    intro ty
    have hcs:∀j v,((row blkIV).toList)[j]? =some v→Y.drew.cell? ((⟨w1.heap.size,0,none⟩:Addr).add j)=some v:=by
     intro j v hj
     rw [Addr.add_lit,cell_of_row Y.drew w1.heap.size _ (row blkIV) _ _ HiY.out,Nat.zero_add]
     simpa using hj
    exact Xa6 Y.drew 161 161 ty 110 1 (w.heap.size+1+1+1) 8 8 8 ⟨w1.heap.size,0,none⟩ 8 8 (row ([h0,h1,h2,h3,h4,h5,h6,h7]++List.replicate 8 0)) _ _ Tryz.underlying161 (by kernel_rfl) HmY.out.drew.b3 rfl hcs (by simp [blkIV]) (by simp [row,Value.oneCell'])
   go_region_law (refine step_copy_runI rfl _ _ 161 161 rfl _ _ (by simp [Act.eval,Act.put]) (by simp [Act.eval,Act.put]) (hcp _) ?_)
   go_upto_region 12 with fail
   rw [show (h0::h1::h2::h3::h4::h5::h6::h7::blkIV)= [h0,h1,h2,h3,h4,h5,h6,h7]++blkIV from rfl]
   obtain ⟨Z,hZ⟩:∃Z,Y.drew.setRow (w.heap.size+1+1+1) (row ([h0,h1,h2,h3,h4,h5,h6,h7]++blkIV))=Z:=⟨_,rfl⟩
   rw [hZ]
   have hmZ:Cm w [h0,h1,h2,h3,h4,h5,h6,h7] (words s) ([h0,h1,h2,h3,h4,h5,h6,h7]++blkIV) Z:=by rw [←hZ];exact HmY.out.drew.row3
   clear hZ hcp HmY HiY
   have c12:Z.cell? ⟨w.heap.size+1+1+1,12,none⟩=some (.int .u32 1359893119):=(cell_of_row Z _ 12 _ _ _ hmZ.b3).trans rfl
   have c13:Z.cell? ⟨w.heap.size+1+1+1,13,none⟩=some (.int .u32 2600822924):=(cell_of_row Z _ 13 _ _ _ hmZ.b3).trans rfl
   have c14:Z.cell? ⟨w.heap.size+1+1+1,14,none⟩=some (.int .u32 528734635):=(cell_of_row Z _ 14 _ _ _ hmZ.b3).trans rfl
   have f12:=frozen_of_row Z _ 12 _ _ hmZ.b3
   have f13:=frozen_of_row Z _ 13 _ _ hmZ.b3
   have f14:=frozen_of_row Z _ 14 _ _ hmZ.b3
   have HmZ:=Qh hmZ;clear hmZ
   cases last with
   |true=>
    go_wp2_with fail
    refine (Xdw _).mono ?_
    rintro e w3 ⟨rfl,hb3⟩
    have hm3:Cm w [h0,h1,h2,h3,h4,h5,h6,h7] (words s) (vInit [h0,h1,h2,h3,h4,h5,h6,h7] count true) w3:=Cm.pass (((HmZ.out.set3 12 _).set3 13 _).set3 14 _) hb3
    have Hm3:=Qh hm3
    obtain ⟨v0,hv0⟩:∃v0,vInit [h0,h1,h2,h3,h4,h5,h6,h7] count true=v0:=⟨_,rfl⟩
    have Hv0:=Qh hv0
    rw [hv0] at hm3
    clear hv0 Hm3
    have hlv:v0.length=16:=by rw [←Hv0.out];exact Xcu _ rfl _ _
    clear c12 c13 c14 f12 f13 f14 HmZ hb3
    go_wp2_with fail
    go_loopw [86] (fun s86 wr=> ∃r:Nat,r≤10∧s86= .int .i64 r∧Cm w [h0,h1,h2,h3,h4,h5,h6,h7] (words s) (roundsP (words s) r v0) wr) (fun i _=>10-(intOf i).toNat)
    case atStart=>exact ⟨0,Nat.zero_le _,rfl,hm3⟩
    case round=>
     clear hm3
     obtain ⟨r,hr,rfl,hmr⟩:=hrel
     by_cases hltr:r<10
     ·have hpx:=Xdh (P:=Tryz.prog) Tryz.underlying162 Tryz.underlying46 rfl (by kernel_rfl) r hltr (Xi6 r hltr)
      obtain ⟨vr,hvr⟩:∃vr,roundsP (words s) r v0=vr:=⟨_,rfl⟩
      have Hvr:=Qh hvr
      rw [hvr] at hmr
      clear hvr
      have hlr:vr.length=16:=by rw [←Hvr.out,Xas,hlv]
      go_wp2_with fail
      refine (Xmd _).mono ?_
      rintro e w4 ⟨rfl,hb4⟩
      have hm4:=hmr.pass hb4
      clear hmr hb4
      go_wp2_with fail
      go_loopw [90] (fun s90 wr=> ∃k:Nat,k≤8∧s90= .int .i64 k∧Cm w [h0,h1,h2,h3,h4,h5,h6,h7] (words s) (stepsP (words s) r k vr) wr) (fun i _=>8-(intOf i).toNat)
      case atStart=>exact ⟨0,Nat.zero_le _,rfl,hm4⟩
      case round=>
       clear hm4
       obtain ⟨k,hk,rfl,hmk⟩:=hrel
       by_cases hltk:k<8
       ·have hqx:∀W,(Instr.index 165 (.agg quadRow) (.int .i64 (k:Int))).run Tryz.prog W= .ok (.agg #[.int .i64 (quad k).1,.int .i64 (quad k).2.1,.int .i64 (quad k).2.2.1,.int .i64 (quad k).2.2.2]) W:=fun W=>by
         rw [Xe3 (P:=Tryz.prog) (m:=4) Tryz.underlying165 Tryz.underlying164 rfl (by kernel_rfl) k hltk,Xi4 k hltk];rfl
        have Hmk:=Qh hmk;clear hmk
        go_wp2_with fail
        obtain ⟨qa,qb,qc,qd,hq⟩:∃qa qb qc qd,quad k=(qa,qb,qc,qd):=⟨_,_,_,_,rfl⟩
        have hqo:=Xjz k hltk
        have Hst:=Qh (show stepP (words s) r k (stepsP (words s) r k vr)=mixP (stepsP (words s) r k vr) qa qb qc qd ((words s).getD (sigma r (2*k)) 0) ((words s).getD (sigma r (2*k+1)) 0) by rw [stepP,hq])
        rw [hq] at hqo ⊢
        have Hqo:=Qh hqo
        clear hq hqo hpx hqx
        obtain ⟨hn1',hn2'⟩:=Xlb r k hltr hltk
        have hs1:=Xcv r (2*k) hltr (by omega)
        have hs2:=Xcv r (2*k+1) hltr (by omega)
        generalize sigma r (2*k)=sx at hn1' hs1 Hst
        generalize sigma r (2*k+1)=sy at hn2' hs2 Hst
        refine wp_region_quiet_below (by kernel_rfl) (by kernel_rfl) ?_
        repeat (go_big_quiet_step ((fail)))
        refine wpQuiet_nil ?_
        intro w5 hwq
        have hb5:Below (wr.alloc (.cells #[.int .i64 qa,.int .i64 qb,.int .i64 qc,.int .i64 qd] 164)).heap.size (wr.alloc (.cells #[.int .i64 qa,.int .i64 qb,.int .i64 qc,.int .i64 qd] 164)) w5:=by
         obtain ⟨pq,rfl⟩:=hwq
         exact below_regrown _ _ _
        clear hwq
        have hm5:=(Hmk.out.alloc _).pass hb5
        have k0:w5.cell? ⟨wr.heap.size,0,none⟩=some (.int .i64 qa):=by rw [hb5.cell (by simp)];simp
        have k1:w5.cell? ⟨wr.heap.size,1,none⟩=some (.int .i64 qb):=by rw [hb5.cell (by simp)];simp
        have k2:w5.cell? ⟨wr.heap.size,2,none⟩=some (.int .i64 qc):=by rw [hb5.cell (by simp)];simp
        have k3:w5.cell? ⟨wr.heap.size,3,none⟩=some (.int .i64 qd):=by rw [hb5.cell (by simp)];simp
        have m0:w5.cell? ⟨w.heap.size+1+1,sx,none⟩=some (.int .u32 ((words s).getD sx 0)):=(cell_of_row w5 _ sx _ _ _ hm5.b2).trans (Xau (by simpa [words] using hs1))
        have m1:w5.cell? ⟨w.heap.size+1+1,sy,none⟩=some (.int .u32 ((words s).getD sy 0)):=(cell_of_row w5 _ sy _ _ _ hm5.b2).trans (Xau (by simpa [words] using hs2))
        generalize (words s).getD sx 0=mx at m0 Hst
        generalize (words s).getD sy 0=my at m1 Hst
        have Hm5:=Qh hm5
        clear hm5 hb5 hn1' hn2' Hmk
        go_wp2_with fail
        have k0d:({ heap:=w5.heap,tape:=w5.tape,drawn:=w5.drawn+1,os:=w5.os,output:=w5.output }:World).cell? ⟨wr.heap.size,0,none⟩=some (.int .i64 qa):=k0
        have k1d:({ heap:=w5.heap,tape:=w5.tape,drawn:=w5.drawn+1,os:=w5.os,output:=w5.output }:World).cell? ⟨wr.heap.size,1,none⟩=some (.int .i64 qb):=k1
        have k2d:({ heap:=w5.heap,tape:=w5.tape,drawn:=w5.drawn+1,os:=w5.os,output:=w5.output }:World).cell? ⟨wr.heap.size,2,none⟩=some (.int .i64 qc):=k2
        have k3d:({ heap:=w5.heap,tape:=w5.tape,drawn:=w5.drawn+1,os:=w5.os,output:=w5.output }:World).cell? ⟨wr.heap.size,3,none⟩=some (.int .i64 qd):=k3
        have m0d:({ heap:=w5.heap,tape:=w5.tape,drawn:=w5.drawn+1,os:=w5.os,output:=w5.output }:World).cell? ⟨w.heap.size+1+1,sx,none⟩=some (.int .u32 mx):=m0
        have m1d:({ heap:=w5.heap,tape:=w5.tape,drawn:=w5.drawn+1,os:=w5.os,output:=w5.output }:World).cell? ⟨w.heap.size+1+1,sy,none⟩=some (.int .u32 my):=m1
        have hi1:(sx:Int)<16:=by omega
        have hi2:(sy:Int)<16:=by omega
        have hi3:(0:Int)≤sx:=by omega
        have hi4:(0:Int)≤sy:=by omega
        go_still_tail 7,(by kernel_rfl)
        change wpList _ _ _ _ _ w5.drew
        have Hm6:Hid (Cm w [h0,h1,h2,h3,h4,h5,h6,h7] (words s) (stepsP (words s) r k vr) w5.drew):=Qh Hm5.out.drew
        generalize w5.drew=w6 at Hm6
        go_wp2_with fail
        have hq1:=Hqo.out
        refine (Xs8 (w.heap.size+1+1+1) (stepsP (words s) r k vr) 160 qa qb qc qd mx my w6 Hm6.out.b3 (by rw [Xbc,hlr]) hq1.1 hq1.2.1 hq1.2.2.1 hq1.2.2.2.1 hq1.2.2.2.2.1 hq1.2.2.2.2.2.1 hq1.2.2.2.2.2.2.1 hq1.2.2.2.2.2.2.2.1 hq1.2.2.2.2.2.2.2.2.1 hq1.2.2.2.2.2.2.2.2.2).mono ?_
        rintro e w7 ⟨rfl,hg7,hv7⟩
        have hm7:=Hm6.out.grown3 hg7 hv7
        go_wp2
        go_roundw
        case rel=>exact ⟨k+1,by omega,by go_num,by rw [stepsP,Hst.out];exact hm7⟩
        case measure=>simp [intOf];omega
       ·have hke:k=8:=by omega
        subst hke
        go_wp2_with fail
        go_roundw
        case rel=>exact ⟨r+1,by omega,by go_num,by rw [roundsP,Hvr.out];exact hmk⟩
        case measure=>simp [intOf];omega
     ·have hre:r=10:=by omega
      obtain ⟨v,hv⟩:∃v,roundsP (words s) r v0=v:=⟨_,rfl⟩
      have Hv:=Qh hv
      have hlv2:v.length=16:=by rw [←hv,Xas,hlv]
      rw [hv] at hmr
      clear hv
      go_wp2_with fail
      go_loopw [116] (fun s116 wr=> ∃k:Nat,k≤8∧s116= .int .i64 k∧Cm w (finTo [h0,h1,h2,h3,h4,h5,h6,h7] v k) (words s) v wr) (fun i _=>8-(intOf i).toNat)
      case atStart=>exact ⟨0,Nat.zero_le _,rfl,hmr⟩
      case round=>
       clear hmr
       obtain ⟨k,hk,rfl,hmk⟩:=hrel
       by_cases hltk:k<8
       ·have hfl:=Xa1 [h0,h1,h2,h3,h4,h5,h6,h7] v k
        have a0:=(cell_of_row wr _ k _ _ _ hmk.b0).trans (Xau (by rw [hfl];exact hltk))
        have a1:=(cell_of_row wr _ k _ _ _ hmk.b3).trans (Xau (l:=v) (by omega))
        have a2:=(cell_of_row wr _ (k+8) _ _ _ hmk.b3).trans (Xau (l:=v) (by omega))
        have a3:=frozen_of_row wr _ k _ _ hmk.b0
        rw [Xg1 _ _ _ hltk] at a0
        have hsc:=Xeh [h0,h1,h2,h3,h4,h5,h6,h7] v k
        generalize List.getD [h0,h1,h2,h3,h4,h5,h6,h7] k 0=x0 at a0 hsc
        generalize v.getD k 0=x1 at a1 hsc
        generalize v.getD (k+8) 0=x2 at a2 hsc
        have Hsc:=Qh hsc
        have Hmk:=Qh hmk;clear hmk hfl hsc
        go_wp2_with fail
        go_big_region
        go_wp2
        go_roundw
        case rel=>exact ⟨k+1,by omega,by go_num,by rw [←Hsc.out];exact (Hmk.out.set0 k _).drew⟩
        case measure=>simp [intOf];omega
       ·have hfl:=Xa1 [h0,h1,h2,h3,h4,h5,h6,h7] v k
        have hfin:finTo [h0,h1,h2,h3,h4,h5,h6,h7] v k=compressP [h0,h1,h2,h3,h4,h5,h6,h7] s count true:=by
         rw [compressP,Hv0.out,←hre,Hv.out,show k=8 by omega]
        generalize finTo [h0,h1,h2,h3,h4,h5,h6,h7] v k=F at hmk hfl hfin
        have Hfin:=Qh hfin
        have hi8:(Tryz.prog.info? 111).map (·.size)=some (row F).size:=by rw [row_size,hfl];kernel_rfl
        have hz8:(row (List.replicate 8 0)).size=(row F).size:=by rw [row_size,row_size,hfl];rfl
        have ho8:(row F).all (·.oneCell')=true:=by simp [row,Value.oneCell']
        have b0:=hmk.b0
        have b1:=hmk.b1
        have Hmk:=Qh hmk
        clear hmk hfin
        go_wp2_with (first
         |(refine wpList_load_row rfl 111 _ rfl w.heap.size rfl 111 (row F) (0,0) _ b0 Tryz.underlying111 rfl hi8 ?_)
         |(refine wpList_store_row rfl 111 _ _ rfl (w.heap.size+1) (row F) rfl rfl 111 (row (List.replicate 8 0)) b1 hi8 hz8 ho8 ?_))
        try simp only [Exit.inBlock,Exit.then]
        refine bodyPost_ret (v:= .tuple #[.agg (row F),.int .i64 0]) ?_ rfl ⟨?_,?_⟩
        ·rw [results_cell_tmp rfl]
         simp [asAddr,run_loadVar_row _ (w.heap.size+1) 111 111 (row F) (0,0) _ (setRow_heap _ _ _ _ _ _ b1) Tryz.underlying111 rfl hi8]
        ·rw [Hfin.out]
        ·exact below_setRow Hmk.out.below (by omega) _
   |false=>
    go_wp2_with fail
    refine (Xdw _).mono ?_
    rintro e w3 ⟨rfl,hb3⟩
    have hm3:Cm w [h0,h1,h2,h3,h4,h5,h6,h7] (words s) (vInit [h0,h1,h2,h3,h4,h5,h6,h7] count false) w3:=Cm.pass ((HmZ.out.set3 12 _).set3 13 _) hb3
    have Hm3:=Qh hm3
    obtain ⟨v0,hv0⟩:∃v0,vInit [h0,h1,h2,h3,h4,h5,h6,h7] count false=v0:=⟨_,rfl⟩
    have Hv0:=Qh hv0
    rw [hv0] at hm3
    clear hv0 Hm3
    have hlv:v0.length=16:=by rw [←Hv0.out];exact Xcu _ rfl _ _
    clear c12 c13 c14 f12 f13 f14 HmZ hb3
    go_wp2_with fail
    go_loopw [86] (fun s86 wr=> ∃r:Nat,r≤10∧s86= .int .i64 r∧Cm w [h0,h1,h2,h3,h4,h5,h6,h7] (words s) (roundsP (words s) r v0) wr) (fun i _=>10-(intOf i).toNat)
    case atStart=>exact ⟨0,Nat.zero_le _,rfl,hm3⟩
    case round=>
     clear hm3
     obtain ⟨r,hr,rfl,hmr⟩:=hrel
     by_cases hltr:r<10
     ·have hpx:=Xdh (P:=Tryz.prog) Tryz.underlying162 Tryz.underlying46 rfl (by kernel_rfl) r hltr (Xi6 r hltr)
      obtain ⟨vr,hvr⟩:∃vr,roundsP (words s) r v0=vr:=⟨_,rfl⟩
      have Hvr:=Qh hvr
      rw [hvr] at hmr
      clear hvr
      have hlr:vr.length=16:=by rw [←Hvr.out,Xas,hlv]
      go_wp2_with fail
      refine (Xmd _).mono ?_
      rintro e w4 ⟨rfl,hb4⟩
      have hm4:=hmr.pass hb4
      clear hmr hb4
      go_wp2_with fail
      go_loopw [90] (fun s90 wr=> ∃k:Nat,k≤8∧s90= .int .i64 k∧Cm w [h0,h1,h2,h3,h4,h5,h6,h7] (words s) (stepsP (words s) r k vr) wr) (fun i _=>8-(intOf i).toNat)
      case atStart=>exact ⟨0,Nat.zero_le _,rfl,hm4⟩
      case round=>
       clear hm4
       obtain ⟨k,hk,rfl,hmk⟩:=hrel
       by_cases hltk:k<8
       ·have hqx:∀W,(Instr.index 165 (.agg quadRow) (.int .i64 (k:Int))).run Tryz.prog W= .ok (.agg #[.int .i64 (quad k).1,.int .i64 (quad k).2.1,.int .i64 (quad k).2.2.1,.int .i64 (quad k).2.2.2]) W:=fun W=>by
         rw [Xe3 (P:=Tryz.prog) (m:=4) Tryz.underlying165 Tryz.underlying164 rfl (by kernel_rfl) k hltk,Xi4 k hltk];rfl
        have Hmk:=Qh hmk;clear hmk
        go_wp2_with fail
        obtain ⟨qa,qb,qc,qd,hq⟩:∃qa qb qc qd,quad k=(qa,qb,qc,qd):=⟨_,_,_,_,rfl⟩
        have hqo:=Xjz k hltk
        have Hst:=Qh (show stepP (words s) r k (stepsP (words s) r k vr)=mixP (stepsP (words s) r k vr) qa qb qc qd ((words s).getD (sigma r (2*k)) 0) ((words s).getD (sigma r (2*k+1)) 0) by rw [stepP,hq])
        rw [hq] at hqo ⊢
        have Hqo:=Qh hqo
        clear hq hqo hpx hqx
        obtain ⟨hn1',hn2'⟩:=Xlb r k hltr hltk
        have hs1:=Xcv r (2*k) hltr (by omega)
        have hs2:=Xcv r (2*k+1) hltr (by omega)
        generalize sigma r (2*k)=sx at hn1' hs1 Hst
        generalize sigma r (2*k+1)=sy at hn2' hs2 Hst
        refine wp_region_quiet_below (by kernel_rfl) (by kernel_rfl) ?_
        repeat (go_big_quiet_step ((fail)))
        refine wpQuiet_nil ?_
        intro w5 hwq
        have hb5:Below (wr.alloc (.cells #[.int .i64 qa,.int .i64 qb,.int .i64 qc,.int .i64 qd] 164)).heap.size (wr.alloc (.cells #[.int .i64 qa,.int .i64 qb,.int .i64 qc,.int .i64 qd] 164)) w5:=by
         obtain ⟨pq,rfl⟩:=hwq
         exact below_regrown _ _ _
        clear hwq
        have hm5:=(Hmk.out.alloc _).pass hb5
        have k0:w5.cell? ⟨wr.heap.size,0,none⟩=some (.int .i64 qa):=by rw [hb5.cell (by simp)];simp
        have k1:w5.cell? ⟨wr.heap.size,1,none⟩=some (.int .i64 qb):=by rw [hb5.cell (by simp)];simp
        have k2:w5.cell? ⟨wr.heap.size,2,none⟩=some (.int .i64 qc):=by rw [hb5.cell (by simp)];simp
        have k3:w5.cell? ⟨wr.heap.size,3,none⟩=some (.int .i64 qd):=by rw [hb5.cell (by simp)];simp
        have m0:w5.cell? ⟨w.heap.size+1+1,sx,none⟩=some (.int .u32 ((words s).getD sx 0)):=(cell_of_row w5 _ sx _ _ _ hm5.b2).trans (Xau (by simpa [words] using hs1))
        have m1:w5.cell? ⟨w.heap.size+1+1,sy,none⟩=some (.int .u32 ((words s).getD sy 0)):=(cell_of_row w5 _ sy _ _ _ hm5.b2).trans (Xau (by simpa [words] using hs2))
        generalize (words s).getD sx 0=mx at m0 Hst
        generalize (words s).getD sy 0=my at m1 Hst
        have Hm5:=Qh hm5
        clear hm5 hb5 hn1' hn2' Hmk
        go_wp2_with fail
        have k0d:({ heap:=w5.heap,tape:=w5.tape,drawn:=w5.drawn+1,os:=w5.os,output:=w5.output }:World).cell? ⟨wr.heap.size,0,none⟩=some (.int .i64 qa):=k0
        have k1d:({ heap:=w5.heap,tape:=w5.tape,drawn:=w5.drawn+1,os:=w5.os,output:=w5.output }:World).cell? ⟨wr.heap.size,1,none⟩=some (.int .i64 qb):=k1
        have k2d:({ heap:=w5.heap,tape:=w5.tape,drawn:=w5.drawn+1,os:=w5.os,output:=w5.output }:World).cell? ⟨wr.heap.size,2,none⟩=some (.int .i64 qc):=k2
        have k3d:({ heap:=w5.heap,tape:=w5.tape,drawn:=w5.drawn+1,os:=w5.os,output:=w5.output }:World).cell? ⟨wr.heap.size,3,none⟩=some (.int .i64 qd):=k3
        have m0d:({ heap:=w5.heap,tape:=w5.tape,drawn:=w5.drawn+1,os:=w5.os,output:=w5.output }:World).cell? ⟨w.heap.size+1+1,sx,none⟩=some (.int .u32 mx):=m0
        have m1d:({ heap:=w5.heap,tape:=w5.tape,drawn:=w5.drawn+1,os:=w5.os,output:=w5.output }:World).cell? ⟨w.heap.size+1+1,sy,none⟩=some (.int .u32 my):=m1
        have hi1:(sx:Int)<16:=by omega
        have hi2:(sy:Int)<16:=by omega
        have hi3:(0:Int)≤sx:=by omega
        have hi4:(0:Int)≤sy:=by omega
        go_still_tail 7,(by kernel_rfl)
        change wpList _ _ _ _ _ w5.drew
        have Hm6:Hid (Cm w [h0,h1,h2,h3,h4,h5,h6,h7] (words s) (stepsP (words s) r k vr) w5.drew):=Qh Hm5.out.drew
        generalize w5.drew=w6 at Hm6
        go_wp2_with fail
        have hq1:=Hqo.out
        refine (Xs8 (w.heap.size+1+1+1) (stepsP (words s) r k vr) 160 qa qb qc qd mx my w6 Hm6.out.b3 (by rw [Xbc,hlr]) hq1.1 hq1.2.1 hq1.2.2.1 hq1.2.2.2.1 hq1.2.2.2.2.1 hq1.2.2.2.2.2.1 hq1.2.2.2.2.2.2.1 hq1.2.2.2.2.2.2.2.1 hq1.2.2.2.2.2.2.2.2.1 hq1.2.2.2.2.2.2.2.2.2).mono ?_
        rintro e w7 ⟨rfl,hg7,hv7⟩
        have hm7:=Hm6.out.grown3 hg7 hv7
        go_wp2
        go_roundw
        case rel=>exact ⟨k+1,by omega,by go_num,by rw [stepsP,Hst.out];exact hm7⟩
        case measure=>simp [intOf];omega
       ·have hke:k=8:=by omega
        subst hke
        go_wp2_with fail
        go_roundw
        case rel=>exact ⟨r+1,by omega,by go_num,by rw [roundsP,Hvr.out];exact hmk⟩
        case measure=>simp [intOf];omega
     ·have hre:r=10:=by omega
      obtain ⟨v,hv⟩:∃v,roundsP (words s) r v0=v:=⟨_,rfl⟩
      have Hv:=Qh hv
      have hlv2:v.length=16:=by rw [←hv,Xas,hlv]
      rw [hv] at hmr
      clear hv
      go_wp2_with fail
      go_loopw [116] (fun s116 wr=> ∃k:Nat,k≤8∧s116= .int .i64 k∧Cm w (finTo [h0,h1,h2,h3,h4,h5,h6,h7] v k) (words s) v wr) (fun i _=>8-(intOf i).toNat)
      case atStart=>exact ⟨0,Nat.zero_le _,rfl,hmr⟩
      case round=>
       clear hmr
       obtain ⟨k,hk,rfl,hmk⟩:=hrel
       by_cases hltk:k<8
       ·have hfl:=Xa1 [h0,h1,h2,h3,h4,h5,h6,h7] v k
        have a0:=(cell_of_row wr _ k _ _ _ hmk.b0).trans (Xau (by rw [hfl];exact hltk))
        have a1:=(cell_of_row wr _ k _ _ _ hmk.b3).trans (Xau (l:=v) (by omega))
        have a2:=(cell_of_row wr _ (k+8) _ _ _ hmk.b3).trans (Xau (l:=v) (by omega))
        have a3:=frozen_of_row wr _ k _ _ hmk.b0
        rw [Xg1 _ _ _ hltk] at a0
        have hsc:=Xeh [h0,h1,h2,h3,h4,h5,h6,h7] v k
        generalize List.getD [h0,h1,h2,h3,h4,h5,h6,h7] k 0=x0 at a0 hsc
        generalize v.getD k 0=x1 at a1 hsc
        generalize v.getD (k+8) 0=x2 at a2 hsc
        have Hsc:=Qh hsc
        have Hmk:=Qh hmk;clear hmk hfl hsc
        go_wp2_with fail
        go_big_region
        go_wp2
        go_roundw
        case rel=>exact ⟨k+1,by omega,by go_num,by rw [←Hsc.out];exact (Hmk.out.set0 k _).drew⟩
        case measure=>simp [intOf];omega
       ·have hfl:=Xa1 [h0,h1,h2,h3,h4,h5,h6,h7] v k
        have hfin:finTo [h0,h1,h2,h3,h4,h5,h6,h7] v k=compressP [h0,h1,h2,h3,h4,h5,h6,h7] s count false:=by
         rw [compressP,Hv0.out,←hre,Hv.out,show k=8 by omega]
        generalize finTo [h0,h1,h2,h3,h4,h5,h6,h7] v k=F at hmk hfl hfin
        have Hfin:=Qh hfin
        have hi8:(Tryz.prog.info? 111).map (·.size)=some (row F).size:=by rw [row_size,hfl];kernel_rfl
        have hz8:(row (List.replicate 8 0)).size=(row F).size:=by rw [row_size,row_size,hfl];rfl
        have ho8:(row F).all (·.oneCell')=true:=by simp [row,Value.oneCell']
        have b0:=hmk.b0
        have b1:=hmk.b1
        have Hmk:=Qh hmk
        clear hmk hfin
        go_wp2_with (first
         |(refine wpList_load_row rfl 111 _ rfl w.heap.size rfl 111 (row F) (0,0) _ b0 Tryz.underlying111 rfl hi8 ?_)
         |(refine wpList_store_row rfl 111 _ _ rfl (w.heap.size+1) (row F) rfl rfl 111 (row (List.replicate 8 0)) b1 hi8 hz8 ho8 ?_))
        try simp only [Exit.inBlock,Exit.then]
        refine bodyPost_ret (v:= .tuple #[.agg (row F),.int .i64 0]) ?_ rfl ⟨?_,?_⟩
        ·rw [results_cell_tmp rfl]
         simp [asAddr,run_loadVar_row _ (w.heap.size+1) 111 111 (row F) (0,0) _ (setRow_heap _ _ _ _ _ _ b1) Tryz.underlying111 rfl hi8]
        ·rw [Hfin.out]
        ·exact below_setRow Hmk.out.below (by omega) _
def bigA (x:At):Bool:=decide (100<x.k.length) || decide (100<x.v.length)
def greatA (l:List At):Int:=if 30<l.length then 1 else if l.any bigA then 1 else 0
theorem Xnj (c:UInt8):keyChar c=(decide (97≤c.toNat)&&decide (c.toNat≤122) || decide (48≤c.toNat)&&decide (c.toNat≤57) || decide (c.toNat=46) || decide (c.toNat=95) || decide (c.toNat=45)):=by
 have e:∀n:Nat,n<256→(c==UInt8.ofNat n)=decide (c.toNat=n):=fun n hn=>by
  rw [Bool.eq_iff_iff,beq_iff_eq,decide_eq_true_iff]
  constructor
  ·intro h;rw [h];simp;omega
  ·intro h
   have:c=UInt8.ofNat c.toNat:=by simp
   rw [this,h]
 unfold keyChar
 rw [show (46:UInt8)=UInt8.ofNat 46 from rfl,show (95:UInt8)=UInt8.ofNat 95 from rfl,show (45:UInt8)=UInt8.ofNat 45 from rfl,e 46 (by omega),e 95 (by omega),e 45 (by omega)]
 simp [UInt8.le_iff_toNat_le]
set_option maxRecDepth 100000 in
set_option maxHeartbeats 1000000 in
theorem Xq9 (s:Bytes) (hs:s.length≤9223372036854775807) (w:World):
 Calls Tryz.prog 217 #[S s] w fun e w'=>e= .returned (.bool (keyOk s))∧Below w.heap.size w w':=by
 by_cases h1:1≤s.length
 ·have hd1:decide (s.length<1)=false:=Qf (by omega)
  by_cases h32:s.length≤32
  ·have hd2:decide (32<s.length)=false:=by simp;omega
   have Hok:=Qh (show keyOk s=s.all keyChar by simp [keyOk,h1,h32])
   go_enter Tryz.func217,Tryz.ntmps217
   go_wp2_with fail
   go_loop [3] (fun s3=> ∃k:Nat,k≤s.length∧s3= .int .i64 k∧(s.take k).all keyChar=true) (fun i=>s.length-(intOf i).toNat)
   case atStart=>exact ⟨0,Nat.zero_le _,rfl,rfl⟩
   case round=>
    obtain ⟨k,hk,rfl,hr⟩:=hrel
    have Hr:=Qh hr;clear hr
    by_cases hlt:k<s.length
    ·have hx:=run_at Tryz.underlying9 s (k:Int) k rfl hlt
     have hkc:=Xnj (s.getD k 0)
     have Htk:=Qh (show s.take (k+1)=s.take k++ [s.getD k 0] by rw [List.take_succ_eq_append_getElem hlt];simp [List.getD,hlt])
     have Hmem:=Qh (show s.getD k 0∈s by simp [List.getD,hlt])
     have hc256:(s.getD k 0).toNat<256:=(s.getD k 0).toNat_lt
     generalize s.getD k 0=ch at hkc Htk Hmem hx hc256
     generalize ch.toNat=c at hkc hx hc256
     rcases (show (97≤c∧c≤122)∨122<c∨(48≤c∧c≤57)∨c=46∨c=95∨c=45∨(c<48∧c≠46∧c≠45)∨(57<c∧c<97∧c≠95) by omega) with hc|hc|hc|hc|hc|hc|hc|hc
     ·have d97:decide ((c:Int)<97)=false:=by simp;omega
      have d122:decide (122<(c:Int))=false:=by simp;omega
      have d48:decide ((c:Int)<48)=false:=by simp;omega
      have d57:decide (57<(c:Int))=true:=by simp;omega
      have n46:((c:Int) != 46)=true:=by simp;omega
      have n95:((c:Int) != 95)=true:=by simp;omega
      have n45:((c:Int) != 45)=true:=by simp;omega
      have Hkc:=Qh (show keyChar ch=true by rw [hkc];simp;omega)
      clear hkc hc
      go_wp2
      go_round
      case rel=>exact ⟨k+1,by omega,by go_num,by rw [Htk.out,List.all_append,Hr.out];simp [Hkc.out]⟩
      case measure=>simp [intOf];omega
     ·have d97:decide ((c:Int)<97)=false:=by simp;omega
      have d122:decide (122<(c:Int))=true:=by simp;omega
      have d48:decide ((c:Int)<48)=false:=by simp;omega
      have d57:decide (57<(c:Int))=true:=by simp;omega
      have n46:((c:Int) != 46)=true:=by simp;omega
      have n95:((c:Int) != 95)=true:=by simp;omega
      have n45:((c:Int) != 45)=true:=by simp;omega
      have Hkc:=Qh (show keyChar ch=false by rw [hkc];simp;omega)
      have Hall:=Qh (show s.all keyChar=false by
       cases h:s.all keyChar with
       |false=>rfl
       |true=>rw [List.all_eq_true.1 h ch Hmem.out] at Hkc;exact absurd Hkc.out (by simp))
      clear hkc hc
      go_wp2
      go_ret
      exact ⟨Xan (by rw [Hok.out,Hall.out]),Qb _ _⟩
     ·have d97:decide ((c:Int)<97)=true:=by simp;omega
      have d122:decide (122<(c:Int))=false:=by simp;omega
      have d48:decide ((c:Int)<48)=false:=by simp;omega
      have d57:decide (57<(c:Int))=false:=by simp;omega
      have n46:((c:Int) != 46)=true:=by simp;omega
      have n95:((c:Int) != 95)=true:=by simp;omega
      have n45:((c:Int) != 45)=true:=by simp;omega
      have Hkc:=Qh (show keyChar ch=true by rw [hkc];simp;omega)
      clear hkc hc
      go_wp2
      go_round
      case rel=>exact ⟨k+1,by omega,by go_num,by rw [Htk.out,List.all_append,Hr.out];simp [Hkc.out]⟩
      case measure=>simp [intOf];omega
     ·have d97:decide ((c:Int)<97)=true:=by simp;omega
      have d122:decide (122<(c:Int))=false:=by simp;omega
      have d48:decide ((c:Int)<48)=true:=by simp;omega
      have d57:decide (57<(c:Int))=false:=by simp;omega
      have n46:((c:Int) != 46)=false:=by simp;omega
      have n95:((c:Int) != 95)=true:=by simp;omega
      have n45:((c:Int) != 45)=true:=by simp;omega
      have Hkc:=Qh (show keyChar ch=true by rw [hkc];simp;omega)
      clear hkc hc
      go_wp2
      go_round
      case rel=>exact ⟨k+1,by omega,by go_num,by rw [Htk.out,List.all_append,Hr.out];simp [Hkc.out]⟩
      case measure=>simp [intOf];omega
     ·have d97:decide ((c:Int)<97)=true:=by simp;omega
      have d122:decide (122<(c:Int))=false:=by simp;omega
      have d48:decide ((c:Int)<48)=false:=by simp;omega
      have d57:decide (57<(c:Int))=true:=by simp;omega
      have n46:((c:Int) != 46)=true:=by simp;omega
      have n95:((c:Int) != 95)=false:=by simp;omega
      have n45:((c:Int) != 45)=true:=by simp;omega
      have Hkc:=Qh (show keyChar ch=true by rw [hkc];simp;omega)
      clear hkc hc
      go_wp2
      go_round
      case rel=>exact ⟨k+1,by omega,by go_num,by rw [Htk.out,List.all_append,Hr.out];simp [Hkc.out]⟩
      case measure=>simp [intOf];omega
     ·have d97:decide ((c:Int)<97)=true:=by simp;omega
      have d122:decide (122<(c:Int))=false:=by simp;omega
      have d48:decide ((c:Int)<48)=true:=by simp;omega
      have d57:decide (57<(c:Int))=false:=by simp;omega
      have n46:((c:Int) != 46)=true:=by simp;omega
      have n95:((c:Int) != 95)=true:=by simp;omega
      have n45:((c:Int) != 45)=false:=by simp;omega
      have Hkc:=Qh (show keyChar ch=true by rw [hkc];simp;omega)
      clear hkc hc
      go_wp2
      go_round
      case rel=>exact ⟨k+1,by omega,by go_num,by rw [Htk.out,List.all_append,Hr.out];simp [Hkc.out]⟩
      case measure=>simp [intOf];omega
     ·have d97:decide ((c:Int)<97)=true:=by simp;omega
      have d122:decide (122<(c:Int))=false:=by simp;omega
      have d48:decide ((c:Int)<48)=true:=by simp;omega
      have d57:decide (57<(c:Int))=false:=by simp;omega
      have n46:((c:Int) != 46)=true:=by simp;omega
      have n95:((c:Int) != 95)=true:=by simp;omega
      have n45:((c:Int) != 45)=true:=by simp;omega
      have Hkc:=Qh (show keyChar ch=false by rw [hkc];simp;omega)
      have Hall:=Qh (show s.all keyChar=false by
       cases h:s.all keyChar with
       |false=>rfl
       |true=>rw [List.all_eq_true.1 h ch Hmem.out] at Hkc;exact absurd Hkc.out (by simp))
      clear hkc hc
      go_wp2
      go_ret
      exact ⟨Xan (by rw [Hok.out,Hall.out]),Qb _ _⟩
     ·have d97:decide ((c:Int)<97)=true:=by simp;omega
      have d122:decide (122<(c:Int))=false:=by simp;omega
      have d48:decide ((c:Int)<48)=false:=by simp;omega
      have d57:decide (57<(c:Int))=true:=by simp;omega
      have n46:((c:Int) != 46)=true:=by simp;omega
      have n95:((c:Int) != 95)=true:=by simp;omega
      have n45:((c:Int) != 45)=true:=by simp;omega
      have Hkc:=Qh (show keyChar ch=false by rw [hkc];simp;omega)
      have Hall:=Qh (show s.all keyChar=false by
       cases h:s.all keyChar with
       |false=>rfl
       |true=>rw [List.all_eq_true.1 h ch Hmem.out] at Hkc;exact absurd Hkc.out (by simp))
      clear hkc hc
      go_wp2
      go_ret
      exact ⟨Xan (by rw [Hok.out,Hall.out]),Qb _ _⟩
    ·have hall:s.take k=s:=List.take_of_length_le (by omega)
     rw [hall] at Hr
     clear hall
     go_wp2
     go_ret
     exact ⟨Xan (by rw [Hok.out,Hr.out]),Qb _ _⟩
  ·have hd2:decide (32<s.length)=true:=by simp;omega
   have Hok:=Qh (show keyOk s=false by simp [keyOk,h32])
   go_enter Tryz.func217,Tryz.ntmps217
   go_wp2
   go_ret
   exact ⟨Xan Hok.out.symm,Qb _ _⟩
 ·have hd1:decide (s.length<1)=true:=Qt (by omega)
  have Hok:=Qh (show keyOk s=false by simp [keyOk,h1])
  go_enter Tryz.func217,Tryz.ntmps217
  go_wp2
  go_ret
  exact ⟨Xan Hok.out.symm,Qb _ _⟩
end Go.Proofs.YtdodihnehppnmaaGreatDoor
