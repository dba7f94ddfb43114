/- Lemmas for the claim's theorem;conditions: as each says. -/
import Derived.Test.YtdodihnehppnmaaGreatDoorG01
import Derived.Deep.DeepCutAuto
import Derived.StillTailTactics
set_option maxHeartbeats 0
set_option maxRecDepth 100000
set_option linter.all false
namespace Go.Proofs.YtdodihnehppnmaaGreatDoor
open Go.RowKit
variable{v':List Int}
theorem Kb{α:Type}:∀{l:List α},l.length=8→ ∃a b c d e f g h,l=[a,b,c,d,e,f,g,h]
 | [a,b,c,d,e,f,g,h],_=>⟨a,b,c,d,e,f,g,h,rfl⟩
def kX(s:ae)(i:Nat):Int:=((s[i]?.getD 0).toNat:Int)%4294967296
def q9(s:ae)(k:Nat):Int:=bits .or .u32 (bits .or .u32 (bits .or .u32 (kX s (4*k)) (kX s (4*k+1)*256%4294967296)) (kX s (4*k+2)*65536%4294967296)) (kX s (4*k+3)*16777216%4294967296)
def lN(s:ae)(k:Nat):List Int:=(List.range 16).map fun j=>if j<k then q9 s j else 0
def words(s:ae):List Int:=(List.range 16).map (q9 s)
theorem Xjj(s:ae)(k:Nat):(lN s k).length=16:=by simp[lN]
theorem Xls(s:ae)(k:Nat)(_hk:k<16):(lN s k).set k (q9 s k)=lN s (k+1):=by
 apply List.ext_getElem
 ·simp[lN]
 ·intro j h1 h2;simp only[lN,List.getElem_set,List.getElem_map,List.getElem_range];by_cases h:k=j
  ·subst h;simp
  ·rw[if_neg h];by_cases hj:j<k
   ·rw[if_pos hj,if_pos (by omega)]
   ·rw[if_neg hj,if_neg (by omega)]
theorem Xn0(s:ae):lN s 16=words s:=by
 apply List.map_congr_left;intro j hj;rw[if_pos (List.mem_range.1 hj)]
structure Cm (w:World) (hs m v:List Int) (wr:World):Prop where
 below:Below w.heap.size w wr
 size:w.heap.size+1+1+1<wr.heap.size
 b0:wr.heap[w.heap.size]?=some (.cells (row hs) 111 (0,0))
 b1:wr.heap[w.heap.size+1]?=some (.cells (row (List.replicate 8 0)) 111 (0,0))
 b2:wr.heap[w.heap.size+1+1]?=some (.cells (row m) 160 (0,0))
 b3:wr.heap[w.heap.size+1+1+1]?=some (.cells (row v) 160 (0,0))
section
variable {w wr w':World} {hs m v:List Int}
theorem Nc{X:World}{k:Nat}(hk:X.heap.size=k)(o:Obj):(X.alloc o).heap[k]?=some o:=by subst hk;exact heap_alloc_new _ _
theorem Cm.start(w:World)(hs:List Int):Cm w hs (List.replicate 16 0) (List.replicate 16 0) ((((w.alloc (.cells (row hs) 111)).alloc (.cells (row (List.replicate 8 0)) 111)).alloc (.cells (row (List.replicate 16 0)) 160)).alloc (.cells (row (List.replicate 16 0)) 160)):=by
 refine⟨((((Qb _ _).alloc (Qn _) _).alloc (by simp) _).alloc (by simp;omega) _).alloc (by simp;omega) _,by simp,?_,?_,?_,?_⟩
 ·exact(Below.heap_alloc _ _ _ (by simp;omega)).trans ((Below.heap_alloc _ _ _ (by simp;omega)).trans ((Below.heap_alloc _ _ _ (by simp)).trans (heap_alloc_new _ _)))
 ·exact(Below.heap_alloc _ _ _ (by simp)).trans ((Below.heap_alloc _ _ _ (by simp)).trans (Nc (by simp) _))
 ·exact(Below.heap_alloc _ _ _ (by simp)).trans (Nc (by simp) _)
 ·exact Nc (by simp) _
theorem Cm.pass(h:Cm w hs m v wr)(hb:Below wr.heap.size wr w'):Cm w hs m v w':=by
 have:=h.size;exact⟨h.below.trans (hb.mono h.below.size),by have:=hb.size;omega,(hb.block _ (by omega)).trans h.b0,(hb.block _ (by omega)).trans h.b1,(hb.block _ (by omega)).trans h.b2,(hb.block _ (by omega)).trans h.b3⟩
theorem Cm.drew(h:Cm w hs m v wr):Cm w hs m v wr.drew:=h.pass (Qb _ _).drew
theorem Cm.alloc(h:Cm w hs m v wr)(o:Obj):Cm w hs m v (wr.alloc o):=h.pass ((Qb _ _).alloc (Qn _) o)
theorem Cm.set0(h:Cm w hs m v wr)(i:Nat)(x:Int):Cm w (hs.set i x) m v (wr.setCell ⟨w.heap.size,i,none⟩ (.int .u32 x)):=by
 have o:∀k,k≠w.heap.size→(wr.setCell ⟨w.heap.size,i,none⟩ (.int .u32 x)).heap[k]?=wr.heap[k]? :=fun k hk=>Below.heap_setCell _ _ _ _ hk;exact⟨h.below.setCell (Qn _) _,by simpa[World.setCell]using h.size,heap_setCell _ h.b0,(o _ (by omega)).trans h.b1,(o _ (by omega)).trans h.b2,(o _ (by omega)).trans h.b3⟩
theorem Cm.set2(h:Cm w hs m v wr)(i:Nat)(x:Int):Cm w hs (m.set i x) v (wr.setCell ⟨w.heap.size+1+1,i,none⟩ (.int .u32 x)):=by
 have o:∀k,k≠w.heap.size+1+1→(wr.setCell ⟨w.heap.size+1+1,i,none⟩ (.int .u32 x)).heap[k]?=wr.heap[k]? :=fun k hk=>Below.heap_setCell _ _ _ _ hk;exact⟨h.below.setCell (by show w.heap.size≤w.heap.size+1+1;omega) _,by simpa[World.setCell]using h.size,(o _ (by omega)).trans h.b0,(o _ (by omega)).trans h.b1,heap_setCell _ h.b2,(o _ (by omega)).trans h.b3⟩
theorem Cm.Dl(h:Cm w hs m v wr)(i:Nat)(x:Int):Cm w hs m (v.set i x) (wr.setCell ⟨w.heap.size+1+1+1,i,none⟩ (.int .u32 x)):=by
 have o:∀k,k≠w.heap.size+1+1+1→(wr.setCell ⟨w.heap.size+1+1+1,i,none⟩ (.int .u32 x)).heap[k]?=wr.heap[k]? :=fun k hk=>Below.heap_setCell _ _ _ _ hk;exact⟨h.below.setCell (by show w.heap.size≤w.heap.size+1+1+1;omega) _,by simpa[World.setCell]using h.size,(o _ (by omega)).trans h.b0,(o _ (by omega)).trans h.b1,(o _ (by omega)).trans h.b2,heap_setCell _ h.b3⟩
theorem Cm.Dm(h:Cm w hs m v wr)(hg:wr.grownBy w' (some (w.heap.size+1+1+1)))(hv:w'.heap[w.heap.size+1+1+1]?=some (.cells (row v') 160 (0,0))):Cm w hs m v' w':=by
 have:=h.size;have o:∀k,k<w.heap.size+1+1+1→w'.heap[k]?=wr.heap[k]? :=fun k hk=>hg.block k (by omega) (fun e=>by injection e;omega);exact⟨h.below.grown hg (by omega) (fun k hk=>by injection hk;omega),by have:=hg.size;omega,(o _ (by omega)).trans h.b0,(o _ (by omega)).trans h.b1,(o _ (by omega)).trans h.b2,hv⟩
theorem Cm.oJ(h:Cm w hs m v wr):Cm w hs m v' (wr.setRow (w.heap.size+1+1+1) (row v')):=by
 have o:∀k,k≠w.heap.size+1+1+1→(wr.setRow (w.heap.size+1+1+1) (row v')).heap[k]?=wr.heap[k]? :=fun k hk=>setRow_other _ _ _ _ hk;exact⟨below_setRow h.below (by omega) _,by simpa using h.size,(o _ (by omega)).trans h.b0,(o _ (by omega)).trans h.b1,(o _ (by omega)).trans h.b2,setRow_heap _ _ _ _ _ _ h.b3⟩
end
def eP:List Int:=[1779033703,3144134277,1013904242,2773480762,1359893119,2600822924,528734635,1541459225]
theorem Xja(w:World):Calls Tryz.prog 73 #[] w fun e w'=>e= .returned (.agg (row eP))∧Below w.heap.size w w':=by
 go_enter Tryz.func73,Tryz.ntmps73
 go_wp2;refine bodyPost_ret (results_cell_row rfl _ _ w.heap.size _ (row eP) (0,0) _ rfl (heap_alloc_new w (.cells (row eP) 111)) Tryz.underlying111 rfl (by kernel_rfl)) rfl ⟨rfl,?_⟩;exact(Qb _ _).alloc (Qn _) _
def qg(hs:List Int)(count:Int)(last:Bool):List Int:=
 let v:=((hs++eP).set 12 (bits .xor .u32 1359893119 (count%4294967296))).set 13 (bits .xor .u32 2600822924 (count / 4294967296%4294967296))
 if last then v.set 14 (bits .xor .u32 IntKind.u32.max 528734635)else v
def je(hs v:List Int)(k:Nat):List Int:=(List.range 8).map fun j=>if j<k then bits .xor .u32 (hs.getD j 0) (bits .xor .u32 (v.getD j 0) (v.getD (j+8) 0))else hs.getD j 0
theorem F4(hs v:List Int)(k:Nat):(je hs v k).length=8:=by simp[je]
theorem SL(hs v:List Int)(k:Nat)(hk:k<8):(je hs v k).getD k 0=hs.getD k 0:=by
 simp[je,List.getD,hk]
theorem SN(hs v:List Int)(k:Nat):(je hs v k).set k (bits .xor .u32 (hs.getD k 0) (bits .xor .u32 (v.getD k 0) (v.getD (k+8) 0)))=je hs v (k+1):=by
 apply List.ext_getElem
 ·simp[je]
 ·intro j h1 h2;simp only[je,List.getElem_set,List.getElem_map,List.getElem_range];by_cases h:k=j
  ·subst h;simp
  ·rw[if_neg h];by_cases hj:j<k
   ·rw[if_pos hj,if_pos (by omega)]
   ·rw[if_neg hj,if_neg (by omega)]
def dN(hs:List Int)(s:ae)(count:Int)(last:Bool):List Int:=je hs (eu (words s) 10 (qg hs count last)) 8
theorem Nf(hs:List Int)(s:ae)(count:Int)(last:Bool):(dN hs s count last).length=8:=F4 ..
theorem SQ(hs:List Int)(h:hs.length=8)(count:Int)(last:Bool):(qg hs count last).length=16:=by
 unfold qg;cases last<;>simp[h,eP]
theorem Xhb(hs:List Int)(hh:hs.length=8)(s:ae)(vY:s.length=64)(count:Int)(last:Bool)(w:World):
 Calls Tryz.prog 74 #[.agg (row hs),S s,.int .u64 count,.bool last] w fun e w'=>e= .returned (.tuple #[.agg (row (dN hs s count last)),.int .i64 0])∧Below w.heap.size w w':=by
 obtain⟨h0,h1,h2,h3,h4,h5,h6,h7,rfl⟩:=Kb hh;rw[show row [h0,h1,h2,h3,h4,h5,h6,h7]=#[.int .u32 h0,.int .u32 h1,.int .u32 h2,.int .u32 h3,.int .u32 h4,.int .u32 h5,.int .u32 h6,.int .u32 h7]from rfl];have eU:(s.length:Int)=64:=by omega
 clear hh;have bB:=Qh (Cm.start w [h0,h1,h2,h3,h4,h5,h6,h7]);go_enter Tryz.func74,Tryz.ntmps74
 go_wp2_with fail
 go_loopw [25] (fun s25 wr=> ∃(k:Nat),k≤16∧s25= .int .i64 k∧Cm w [h0,h1,h2,h3,h4,h5,h6,h7] (lN s k) (List.replicate 16 0) wr) (fun i _=>16-(intOf i).toNat)
 case atStart=>exact⟨0,Nat.zero_le _,rfl,bB.O⟩
 case round=>
  clear bB;obtain⟨k,hk,rfl,hm⟩:=hrel;by_cases hlt:k<16
  ·have lC:=cell_of_row wr _ k _ _ _ hm.b2;rw[oI (by rw[Xjj];omega)]at lC;have eG:=frozen_of_row wr _ k _ _ hm.b2;have Hm:=Qh hm;clear hm;have hx0:=gG Tryz.underlying9 s (4*(k:Int)) (4*k) (by omega) (by omega);have fP:=gG Tryz.underlying9 s (4*(k:Int)+1) (4*k+1) (by omega) (by omega);have eZ:=gG Tryz.underlying9 s (4*(k:Int)+2) (4*k+2) (by omega) (by omega);have qW:=gG Tryz.underlying9 s (4*(k:Int)+3) (4*k+3) (by omega) (by omega);go_wp2_with fail
   go_big_region
   go_wp2;go_roundw;case rel=>exact⟨k+1,by omega,by go_num,by rw[←Xls s k hlt];exact(Hm.O.set2 k (q9 s k)).drew⟩
   case measure=>simp[intOf];omega
  ·have nu:k=16:=by omega
   subst nu;rw[Xn0]at hm;go_wp2_with fail
   refine(Xja _).mono ?_;rintro e w1 ⟨rfl,au⟩;have LX:=hm.pass au;rw[show row eP=#[.int .u32 1779033703,.int .u32 3144134277,.int .u32 1013904242,.int .u32 2773480762,.int .u32 1359893119,.int .u32 2600822924,.int .u32 528734635,.int .u32 1541459225]from rfl];have IA:=Qh (LX.alloc (.cells (row eP) 111));have vZ:=LX.size;have Fh:=Qh (heap_alloc_new w1 (.cells (row eP) 111));clear LX hm au;go_wp2_with fail
   have e0:(w1.alloc (.cells #[.int .u32 1779033703,.int .u32 3144134277,.int .u32 1013904242,.int .u32 2773480762,.int .u32 1359893119,.int .u32 2600822924,.int .u32 528734635,.int .u32 1541459225] 111))=w1.alloc (.cells (row eP) 111):=rfl;rw[e0];obtain⟨X,hX⟩:∃X,w1.alloc (.cells (row eP) 111)=X:=⟨_,rfl⟩;rw[hX];have F5:Hid (Cm w [h0,h1,h2,h3,h4,h5,h6,h7] (words s) (List.replicate 16 0) X):=Qh (by rw[←hX];exact IA.O);have HiX:Hid (X.heap[w1.heap.size]?=some (.cells (row eP) 111 (0,0))):=Qh (by rw[←hX];exact Fh.O);have hnX:w1.heap.size<X.heap.size:=by rw[←hX];simp
   clear hX e0 IA Fh;have Cv:∀ty,(Builtin.copy_ #[161,161] ty #[.slice (some ⟨w.heap.size+1+1+1,0,none⟩) 8 16,.slice (some ⟨w.heap.size,0,none⟩) 8 8]).run Tryz.prog X.drew= .ok (.int .i64 8) (X.drew.setRow (w.heap.size+1+1+1) (row ([h0,h1,h2,h3,h4,h5,h6,h7]++List.replicate 8 0))):=by
    intro ty;have iY:∀j v,([.int .u32 h0,.int .u32 h1,.int .u32 h2,.int .u32 h3,.int .u32 h4,.int .u32 h5,.int .u32 h6,.int .u32 h7]:List Value)[j]?=some v→X.drew.cell? ((⟨w.heap.size,0,none⟩:Addr).add j)=some v:=by
     intro j v hj;rw[Addr.add_lit,cell_of_row _ _ _ _ _ _ F5.O.drew.b0,Nat.zero_add];simpa[row]using hj
    exact Fg X.drew 161 161 ty 110 1 (w.heap.size+1+1+1) 0 8 16 ⟨w.heap.size,0,none⟩ 8 8 (row (List.replicate 16 0)) _ _ Tryz.underlying161 (by kernel_rfl) F5.O.drew.b3 rfl iY (by simp) (by simp[Value.oneCell'])
   go_region_law (refine step_copy_runI rfl _ _ 161 161 rfl _ _ (by simp[Act.eval,Act.put]) (by simp[Act.eval,Act.put]) (Cv _) ?_)
   go_wp2_with fail
   rw[show [h0,h1,h2,h3,h4,h5,h6,h7,0,0,0,0,0,0,0,0]=[h0,h1,h2,h3,h4,h5,h6,h7]++List.replicate 8 0 from rfl];obtain⟨Y,hY⟩:∃Y,X.drew.setRow (w.heap.size+1+1+1) (row ([h0,h1,h2,h3,h4,h5,h6,h7]++List.replicate 8 0))=Y:=⟨_,rfl⟩;rw[hY];have VH:Hid (Cm w [h0,h1,h2,h3,h4,h5,h6,h7] (words s) ([h0,h1,h2,h3,h4,h5,h6,h7]++List.replicate 8 0) Y):=Qh (by rw[←hY];exact F5.O.drew.oJ);have HiY:Hid (Y.heap[w1.heap.size]?=some (.cells (row eP) 111 (0,0))):=Qh (by rw[←hY,setRow_other _ _ _ _ (by omega)];exact HiX.O);clear hY Cv F5 HiX hnX;have Cv:∀ty,(Builtin.copy_ #[161,161] ty #[.slice (some ⟨w.heap.size+1+1+1,8,none⟩) 8 8,.slice (some ⟨w1.heap.size,0,none⟩) 8 8]).run Tryz.prog Y.drew= .ok (.int .i64 8) (Y.drew.setRow (w.heap.size+1+1+1) (row ([h0,h1,h2,h3,h4,h5,h6,h7]++eP))):=by
    intro ty;have iY:∀j v,((row eP).toList)[j]?=some v→Y.drew.cell? ((⟨w1.heap.size,0,none⟩:Addr).add j)=some v:=by
     intro j v hj;rw[Addr.add_lit,cell_of_row Y.drew w1.heap.size _ (row eP) _ _ HiY.O,Nat.zero_add];simpa using hj
    exact Fg Y.drew 161 161 ty 110 1 (w.heap.size+1+1+1) 8 8 8 ⟨w1.heap.size,0,none⟩ 8 8 (row ([h0,h1,h2,h3,h4,h5,h6,h7]++List.replicate 8 0)) _ _ Tryz.underlying161 (by kernel_rfl) VH.O.drew.b3 rfl iY (by simp[eP]) (by simp[row,Value.oneCell'])
   go_region_law (refine step_copy_runI rfl _ _ 161 161 rfl _ _ (by simp[Act.eval,Act.put]) (by simp[Act.eval,Act.put]) (Cv _) ?_)
   go_upto_region 12 with fail
   rw[show(h0::h1::h2::h3::h4::h5::h6::h7::eP)=[h0,h1,h2,h3,h4,h5,h6,h7]++eP from rfl];obtain⟨Z,hZ⟩:∃Z,Y.drew.setRow (w.heap.size+1+1+1) (row ([h0,h1,h2,h3,h4,h5,h6,h7]++eP))=Z:=⟨_,rfl⟩;rw[hZ];have IB:Cm w [h0,h1,h2,h3,h4,h5,h6,h7] (words s) ([h0,h1,h2,h3,h4,h5,h6,h7]++eP) Z:=by rw[←hZ];exact VH.O.drew.oJ
   clear hZ Cv VH HiY;have c12:Z.cell? ⟨w.heap.size+1+1+1,12,none⟩=some (.int .u32 1359893119):=(cell_of_row Z _ 12 _ _ _ IB.b3).trans rfl;have c13:Z.cell? ⟨w.heap.size+1+1+1,13,none⟩=some (.int .u32 2600822924):=(cell_of_row Z _ 13 _ _ _ IB.b3).trans rfl;have c14:Z.cell? ⟨w.heap.size+1+1+1,14,none⟩=some (.int .u32 528734635):=(cell_of_row Z _ 14 _ _ _ IB.b3).trans rfl;have f12:=frozen_of_row Z _ 12 _ _ IB.b3;have f13:=frozen_of_row Z _ 13 _ _ IB.b3;have f14:=frozen_of_row Z _ 14 _ _ IB.b3;have SS:=Qh IB;clear IB;cases last with
   |true=>
    go_wp2_with fail
    refine(Xd8 _).mono ?_;rintro e w3 ⟨rfl,bU⟩;have Bq:Cm w [h0,h1,h2,h3,h4,h5,h6,h7] (words s) (qg [h0,h1,h2,h3,h4,h5,h6,h7] count true) w3:=Cm.pass (((SS.O.Dl 12 _).Dl 13 _).Dl 14 _) bU;have Kc:=Qh Bq;obtain⟨v0,yU⟩:∃v0,qg [h0,h1,h2,h3,h4,h5,h6,h7] count true=v0:=⟨_,rfl⟩;have Br:=Qh yU;rw[yU]at Bq;clear yU Kc;have EJ:v0.length=16:=by rw[←Br.O];exact SQ _ rfl _ _
    clear c12 c13 c14 f12 f13 f14 SS bU;go_wp2_with fail
    go_loopw [86] (fun VI wr=> ∃r:Nat,r≤10∧VI= .int .i64 r∧Cm w [h0,h1,h2,h3,h4,h5,h6,h7] (words s) (eu (words s) r v0) wr) (fun i _=>10-(intOf i).toNat)
    case atStart=>exact⟨0,Nat.zero_le _,rfl,Bq⟩
    case round=>
     clear Bq;obtain⟨r,hr,rfl,rM⟩:=hrel;by_cases jZ:r<10
     ·have hpx:=VF (P:=Tryz.prog) Tryz.underlying162 Tryz.underlying46 rfl (by kernel_rfl) r jZ (Xj3 r jZ);obtain⟨vr,zA⟩:∃vr,eu (words s) r v0=vr:=⟨_,rfl⟩;have Dn:=Qh zA;rw[zA]at rM;clear zA;have LY:vr.length=16:=by rw[←Dn.O,F3,EJ]
      go_wp2_with fail
      refine(Xns _).mono ?_;rintro e w4 ⟨rfl,aL⟩;have Ke:=rM.pass aL;clear rM aL;go_wp2_with fail
      go_loopw [90] (fun VJ wr=> ∃k:Nat,k≤8∧VJ= .int .i64 k∧Cm w [h0,h1,h2,h3,h4,h5,h6,h7] (words s) (dZ (words s) r k vr) wr) (fun i _=>8-(intOf i).toNat)
      case atStart=>exact⟨0,Nat.zero_le _,rfl,Ke⟩
      case round=>
       clear Ke;obtain⟨k,hk,rfl,iL⟩:=hrel;by_cases iP:k<8
       ·have VK:∀W,(Instr.index 165 (.agg oC) (.int .i64 (k:Int))).run Tryz.prog W= .ok (.agg #[.int .i64 (iC k).1,.int .i64 (iC k).2.1,.int .i64 (iC k).2.2.1,.int .i64 (iC k).2.2.2]) W:=fun W=>by
         rw[Xfo (P:=Tryz.prog) (m:=4) Tryz.underlying165 Tryz.underlying164 rfl (by kernel_rfl) k iP,Xj0 k iP];rfl
        have pz:=Qh iL;clear iL;go_wp2_with fail
        obtain⟨qa,qb,qc,qd,hq⟩:∃qa qb qc qd,iC k=(qa,qb,qc,qd):=⟨_,_,_,_,rfl⟩;have oU:=SK k iP;have bB:=Qh (show oZ (words s) r k (dZ (words s) r k vr)=nH (dZ (words s) r k vr) qa qb qc qd ((words s).getD (iN r (2*k)) 0) ((words s).getD (iN r (2*k+1)) 0) by rw[oZ,hq]);rw[hq]at oU ⊢;have VL:=Qh oU;clear hq oU hpx VK;obtain⟨EK,Dp⟩:=Xmn r k jZ iP;have oD:=Iz r (2*k) jZ (by omega);have oV:=Iz r (2*k+1) jZ (by omega);generalize iN r (2*k)=sx at EK oD bB;generalize iN r (2*k+1)=sy at Dp oV bB;refine wp_region_quiet_below (by kernel_rfl) (by kernel_rfl) ?_;repeat(go_big_quiet_step ((fail)))
        refine wpQuiet_nil ?_;intro w5 bg;have aY:Below (wr.alloc (.cells #[.int .i64 qa,.int .i64 qb,.int .i64 qc,.int .i64 qd] 164)).heap.size (wr.alloc (.cells #[.int .i64 qa,.int .i64 qb,.int .i64 qc,.int .i64 qd] 164)) w5:=by
         obtain⟨pq,rfl⟩:=bg;exact below_regrown _ _ _
        clear bg;have CJ:=(pz.O.alloc _).pass aY;have k0:w5.cell? ⟨wr.heap.size,0,none⟩=some (.int .i64 qa):=by rw[aY.cell (by simp)];simp
        have k1:w5.cell? ⟨wr.heap.size,1,none⟩=some (.int .i64 qb):=by rw[aY.cell (by simp)];simp
        have k2:w5.cell? ⟨wr.heap.size,2,none⟩=some (.int .i64 qc):=by rw[aY.cell (by simp)];simp
        have k3:w5.cell? ⟨wr.heap.size,3,none⟩=some (.int .i64 qd):=by rw[aY.cell (by simp)];simp
        have m0:w5.cell? ⟨w.heap.size+1+1,sx,none⟩=some (.int .u32 ((words s).getD sx 0)):=(cell_of_row w5 _ sx _ _ _ CJ.b2).trans (oI (by simpa[words]using oD));have m1:w5.cell? ⟨w.heap.size+1+1,sy,none⟩=some (.int .u32 ((words s).getD sy 0)):=(cell_of_row w5 _ sy _ _ _ CJ.b2).trans (oI (by simpa[words]using oV));generalize(words s).getD sx 0=mx at m0 bB;generalize(words s).getD sy 0=my at m1 bB;have Bt:=Qh CJ;clear CJ aY EK Dp pz;go_wp2_with fail
        have k0d:({heap:=w5.heap,tape:=w5.tape,drawn:=w5.drawn+1,os:=w5.os,output:=w5.output}:World).cell? ⟨wr.heap.size,0,none⟩=some (.int .i64 qa):=k0;have k1d:({heap:=w5.heap,tape:=w5.tape,drawn:=w5.drawn+1,os:=w5.os,output:=w5.output}:World).cell? ⟨wr.heap.size,1,none⟩=some (.int .i64 qb):=k1;have k2d:({heap:=w5.heap,tape:=w5.tape,drawn:=w5.drawn+1,os:=w5.os,output:=w5.output}:World).cell? ⟨wr.heap.size,2,none⟩=some (.int .i64 qc):=k2;have k3d:({heap:=w5.heap,tape:=w5.tape,drawn:=w5.drawn+1,os:=w5.os,output:=w5.output}:World).cell? ⟨wr.heap.size,3,none⟩=some (.int .i64 qd):=k3;have m0d:({heap:=w5.heap,tape:=w5.tape,drawn:=w5.drawn+1,os:=w5.os,output:=w5.output}:World).cell? ⟨w.heap.size+1+1,sx,none⟩=some (.int .u32 mx):=m0;have m1d:({heap:=w5.heap,tape:=w5.tape,drawn:=w5.drawn+1,os:=w5.os,output:=w5.output}:World).cell? ⟨w.heap.size+1+1,sy,none⟩=some (.int .u32 my):=m1;have JF:(sx:Int)<16:=by omega
        have yV:(sy:Int)<16:=by omega
        have EL:(0:Int)≤sx:=by omega
        have LZ:(0:Int)≤sy:=by omega
        go_still_tail 7,(by kernel_rfl)
        change wpList _ _ _ _ _ w5.drew;have zB:Hid (Cm w [h0,h1,h2,h3,h4,h5,h6,h7] (words s) (dZ (words s) r k vr) w5.drew):=Qh Bt.O.drew;generalize w5.drew=w6 at zB;go_wp2_with fail
        have tK:=VL.O;refine(Xve (w.heap.size+1+1+1) (dZ (words s) r k vr) 160 qa qb qc qd mx my w6 zB.O.b3 (by rw[Na,LY]) tK.1 tK.2.1 tK.2.2.1 tK.2.2.2.1 tK.2.2.2.2.1 tK.2.2.2.2.2.1 tK.2.2.2.2.2.2.1 tK.2.2.2.2.2.2.2.1 tK.2.2.2.2.2.2.2.2.1 tK.2.2.2.2.2.2.2.2.2).mono ?_;rintro e w7 ⟨rfl,kI,ZW⟩;have VM:=zB.O.Dm kI ZW;go_wp2;go_roundw;case rel=>exact⟨k+1,by omega,by go_num,by rw[dZ,bB.O];exact VM⟩
        case measure=>simp[intOf];omega
       ·have nu:k=8:=by omega
        subst nu;go_wp2_with fail
        go_roundw;case rel=>exact⟨r+1,by omega,by go_num,by rw[eu,Dn.O];exact iL⟩
        case measure=>simp[intOf];omega
     ·have Ia:r=10:=by omega
      obtain⟨v,hv⟩:∃v,eu (words s) r v0=v:=⟨_,rfl⟩;have Hv:=Qh hv;have L6:v.length=16:=by rw[←hv,F3,EJ]
      rw[hv]at rM;clear hv;go_wp2_with fail
      go_loopw [116] (fun Kg wr=> ∃k:Nat,k≤8∧Kg= .int .i64 k∧Cm w (je [h0,h1,h2,h3,h4,h5,h6,h7] v k) (words s) v wr) (fun i _=>8-(intOf i).toNat)
      case atStart=>exact⟨0,Nat.zero_le _,rfl,rM⟩
      case round=>
       clear rM;obtain⟨k,hk,rfl,iL⟩:=hrel;by_cases iP:k<8
       ·have mO:=F4 [h0,h1,h2,h3,h4,h5,h6,h7] v k;have a0:=(cell_of_row wr _ k _ _ _ iL.b0).trans (oI (by rw[mO];exact iP));have a1:=(cell_of_row wr _ k _ _ _ iL.b3).trans (oI (l:=v) (by omega));have a2:=(cell_of_row wr _ (k+8) _ _ _ iL.b3).trans (oI (l:=v) (by omega));have a3:=frozen_of_row wr _ k _ _ iL.b0;rw[SL _ _ _ iP]at a0;have uH:=SN [h0,h1,h2,h3,h4,h5,h6,h7] v k;generalize List.getD [h0,h1,h2,h3,h4,h5,h6,h7] k 0=x0 at a0 uH;generalize v.getD k 0=x1 at a1 uH;generalize v.getD (k+8) 0=x2 at a2 uH;have Fj:=Qh uH;have pz:=Qh iL;clear iL mO uH;go_wp2_with fail
        go_big_region
        go_wp2;go_roundw;case rel=>exact⟨k+1,by omega,by go_num,by rw[←Fj.O];exact(pz.O.set0 k _).drew⟩
        case measure=>simp[intOf];omega
       ·have mO:=F4 [h0,h1,h2,h3,h4,h5,h6,h7] v k;have iX:je [h0,h1,h2,h3,h4,h5,h6,h7] v k=dN [h0,h1,h2,h3,h4,h5,h6,h7] s count true:=by
         rw[dN,Br.O,←Ia,Hv.O,show k=8 by omega]
        generalize je [h0,h1,h2,h3,h4,h5,h6,h7] v k=F at iL mO iX;have nM:=Qh iX;have uX:(Tryz.prog.info? 111).map (·.size)=some (row F).size:=by rw[bI,mO];kernel_rfl
        have F6:(row (List.replicate 8 0)).size=(row F).size:=by rw[bI,bI,mO];rfl
        have F7:(row F).all (·.oneCell')=true:=by simp[row,Value.oneCell']
        have b0:=iL.b0;have b1:=iL.b1;have pz:=Qh iL;clear iL iX
        go_wp2_with (first
         |(refine wpList_load_row rfl 111 _ rfl w.heap.size rfl 111 (row F) (0,0) _ b0 Tryz.underlying111 rfl uX ?_)
         |(refine wpList_store_row rfl 111 _ _ rfl (w.heap.size+1) (row F) rfl rfl 111 (row (List.replicate 8 0)) b1 uX F6 F7 ?_))
        try simp only[Exit.inBlock,Exit.then]
        refine bodyPost_ret (v:= .tuple #[.agg (row F),.int .i64 0]) ?_ rfl ⟨?_,?_⟩
        ·rw[results_cell_tmp rfl];simp[asAddr,run_loadVar_row _ (w.heap.size+1) 111 111 (row F) (0,0) _ (setRow_heap _ _ _ _ _ _ b1) Tryz.underlying111 rfl uX]
        ·rw[nM.O]
        ·exact below_setRow pz.O.below (by omega) _
   |false=>
    go_wp2_with fail
    refine(Xd8 _).mono ?_;rintro e w3 ⟨rfl,bU⟩;have Bq:Cm w [h0,h1,h2,h3,h4,h5,h6,h7] (words s) (qg [h0,h1,h2,h3,h4,h5,h6,h7] count false) w3:=Cm.pass ((SS.O.Dl 12 _).Dl 13 _) bU;have Kc:=Qh Bq;obtain⟨v0,yU⟩:∃v0,qg [h0,h1,h2,h3,h4,h5,h6,h7] count false=v0:=⟨_,rfl⟩;have Br:=Qh yU;rw[yU]at Bq;clear yU Kc;have EJ:v0.length=16:=by rw[←Br.O];exact SQ _ rfl _ _
    clear c12 c13 c14 f12 f13 f14 SS bU;go_wp2_with fail
    go_loopw [86] (fun VI wr=> ∃r:Nat,r≤10∧VI= .int .i64 r∧Cm w [h0,h1,h2,h3,h4,h5,h6,h7] (words s) (eu (words s) r v0) wr) (fun i _=>10-(intOf i).toNat)
    case atStart=>exact⟨0,Nat.zero_le _,rfl,Bq⟩
    case round=>
     clear Bq;obtain⟨r,hr,rfl,rM⟩:=hrel;by_cases jZ:r<10
     ·have hpx:=VF (P:=Tryz.prog) Tryz.underlying162 Tryz.underlying46 rfl (by kernel_rfl) r jZ (Xj3 r jZ);obtain⟨vr,zA⟩:∃vr,eu (words s) r v0=vr:=⟨_,rfl⟩;have Dn:=Qh zA;rw[zA]at rM;clear zA;have LY:vr.length=16:=by rw[←Dn.O,F3,EJ]
      go_wp2_with fail
      refine(Xns _).mono ?_;rintro e w4 ⟨rfl,aL⟩;have Ke:=rM.pass aL;clear rM aL;go_wp2_with fail
      go_loopw [90] (fun VJ wr=> ∃k:Nat,k≤8∧VJ= .int .i64 k∧Cm w [h0,h1,h2,h3,h4,h5,h6,h7] (words s) (dZ (words s) r k vr) wr) (fun i _=>8-(intOf i).toNat)
      case atStart=>exact⟨0,Nat.zero_le _,rfl,Ke⟩
      case round=>
       clear Ke;obtain⟨k,hk,rfl,iL⟩:=hrel;by_cases iP:k<8
       ·have VK:∀W,(Instr.index 165 (.agg oC) (.int .i64 (k:Int))).run Tryz.prog W= .ok (.agg #[.int .i64 (iC k).1,.int .i64 (iC k).2.1,.int .i64 (iC k).2.2.1,.int .i64 (iC k).2.2.2]) W:=fun W=>by
         rw[Xfo (P:=Tryz.prog) (m:=4) Tryz.underlying165 Tryz.underlying164 rfl (by kernel_rfl) k iP,Xj0 k iP];rfl
        have pz:=Qh iL;clear iL;go_wp2_with fail
        obtain⟨qa,qb,qc,qd,hq⟩:∃qa qb qc qd,iC k=(qa,qb,qc,qd):=⟨_,_,_,_,rfl⟩;have oU:=SK k iP;have bB:=Qh (show oZ (words s) r k (dZ (words s) r k vr)=nH (dZ (words s) r k vr) qa qb qc qd ((words s).getD (iN r (2*k)) 0) ((words s).getD (iN r (2*k+1)) 0) by rw[oZ,hq]);rw[hq]at oU ⊢;have VL:=Qh oU;clear hq oU hpx VK;obtain⟨EK,Dp⟩:=Xmn r k jZ iP;have oD:=Iz r (2*k) jZ (by omega);have oV:=Iz r (2*k+1) jZ (by omega);generalize iN r (2*k)=sx at EK oD bB;generalize iN r (2*k+1)=sy at Dp oV bB;refine wp_region_quiet_below (by kernel_rfl) (by kernel_rfl) ?_;repeat(go_big_quiet_step ((fail)))
        refine wpQuiet_nil ?_;intro w5 bg;have aY:Below (wr.alloc (.cells #[.int .i64 qa,.int .i64 qb,.int .i64 qc,.int .i64 qd] 164)).heap.size (wr.alloc (.cells #[.int .i64 qa,.int .i64 qb,.int .i64 qc,.int .i64 qd] 164)) w5:=by
         obtain⟨pq,rfl⟩:=bg;exact below_regrown _ _ _
        clear bg;have CJ:=(pz.O.alloc _).pass aY;have k0:w5.cell? ⟨wr.heap.size,0,none⟩=some (.int .i64 qa):=by rw[aY.cell (by simp)];simp
        have k1:w5.cell? ⟨wr.heap.size,1,none⟩=some (.int .i64 qb):=by rw[aY.cell (by simp)];simp
        have k2:w5.cell? ⟨wr.heap.size,2,none⟩=some (.int .i64 qc):=by rw[aY.cell (by simp)];simp
        have k3:w5.cell? ⟨wr.heap.size,3,none⟩=some (.int .i64 qd):=by rw[aY.cell (by simp)];simp
        have m0:w5.cell? ⟨w.heap.size+1+1,sx,none⟩=some (.int .u32 ((words s).getD sx 0)):=(cell_of_row w5 _ sx _ _ _ CJ.b2).trans (oI (by simpa[words]using oD));have m1:w5.cell? ⟨w.heap.size+1+1,sy,none⟩=some (.int .u32 ((words s).getD sy 0)):=(cell_of_row w5 _ sy _ _ _ CJ.b2).trans (oI (by simpa[words]using oV));generalize(words s).getD sx 0=mx at m0 bB;generalize(words s).getD sy 0=my at m1 bB;have Bt:=Qh CJ;clear CJ aY EK Dp pz;go_wp2_with fail
        have k0d:({heap:=w5.heap,tape:=w5.tape,drawn:=w5.drawn+1,os:=w5.os,output:=w5.output}:World).cell? ⟨wr.heap.size,0,none⟩=some (.int .i64 qa):=k0;have k1d:({heap:=w5.heap,tape:=w5.tape,drawn:=w5.drawn+1,os:=w5.os,output:=w5.output}:World).cell? ⟨wr.heap.size,1,none⟩=some (.int .i64 qb):=k1;have k2d:({heap:=w5.heap,tape:=w5.tape,drawn:=w5.drawn+1,os:=w5.os,output:=w5.output}:World).cell? ⟨wr.heap.size,2,none⟩=some (.int .i64 qc):=k2;have k3d:({heap:=w5.heap,tape:=w5.tape,drawn:=w5.drawn+1,os:=w5.os,output:=w5.output}:World).cell? ⟨wr.heap.size,3,none⟩=some (.int .i64 qd):=k3;have m0d:({heap:=w5.heap,tape:=w5.tape,drawn:=w5.drawn+1,os:=w5.os,output:=w5.output}:World).cell? ⟨w.heap.size+1+1,sx,none⟩=some (.int .u32 mx):=m0;have m1d:({heap:=w5.heap,tape:=w5.tape,drawn:=w5.drawn+1,os:=w5.os,output:=w5.output}:World).cell? ⟨w.heap.size+1+1,sy,none⟩=some (.int .u32 my):=m1;have JF:(sx:Int)<16:=by omega
        have yV:(sy:Int)<16:=by omega
        have EL:(0:Int)≤sx:=by omega
        have LZ:(0:Int)≤sy:=by omega
        go_still_tail 7,(by kernel_rfl)
        change wpList _ _ _ _ _ w5.drew;have zB:Hid (Cm w [h0,h1,h2,h3,h4,h5,h6,h7] (words s) (dZ (words s) r k vr) w5.drew):=Qh Bt.O.drew;generalize w5.drew=w6 at zB;go_wp2_with fail
        have tK:=VL.O;refine(Xve (w.heap.size+1+1+1) (dZ (words s) r k vr) 160 qa qb qc qd mx my w6 zB.O.b3 (by rw[Na,LY]) tK.1 tK.2.1 tK.2.2.1 tK.2.2.2.1 tK.2.2.2.2.1 tK.2.2.2.2.2.1 tK.2.2.2.2.2.2.1 tK.2.2.2.2.2.2.2.1 tK.2.2.2.2.2.2.2.2.1 tK.2.2.2.2.2.2.2.2.2).mono ?_;rintro e w7 ⟨rfl,kI,ZW⟩;have VM:=zB.O.Dm kI ZW;go_wp2;go_roundw;case rel=>exact⟨k+1,by omega,by go_num,by rw[dZ,bB.O];exact VM⟩
        case measure=>simp[intOf];omega
       ·have nu:k=8:=by omega
        subst nu;go_wp2_with fail
        go_roundw;case rel=>exact⟨r+1,by omega,by go_num,by rw[eu,Dn.O];exact iL⟩
        case measure=>simp[intOf];omega
     ·have Ia:r=10:=by omega
      obtain⟨v,hv⟩:∃v,eu (words s) r v0=v:=⟨_,rfl⟩;have Hv:=Qh hv;have L6:v.length=16:=by rw[←hv,F3,EJ]
      rw[hv]at rM;clear hv;go_wp2_with fail
      go_loopw [116] (fun Kg wr=> ∃k:Nat,k≤8∧Kg= .int .i64 k∧Cm w (je [h0,h1,h2,h3,h4,h5,h6,h7] v k) (words s) v wr) (fun i _=>8-(intOf i).toNat)
      case atStart=>exact⟨0,Nat.zero_le _,rfl,rM⟩
      case round=>
       clear rM;obtain⟨k,hk,rfl,iL⟩:=hrel;by_cases iP:k<8
       ·have mO:=F4 [h0,h1,h2,h3,h4,h5,h6,h7] v k;have a0:=(cell_of_row wr _ k _ _ _ iL.b0).trans (oI (by rw[mO];exact iP));have a1:=(cell_of_row wr _ k _ _ _ iL.b3).trans (oI (l:=v) (by omega));have a2:=(cell_of_row wr _ (k+8) _ _ _ iL.b3).trans (oI (l:=v) (by omega));have a3:=frozen_of_row wr _ k _ _ iL.b0;rw[SL _ _ _ iP]at a0;have uH:=SN [h0,h1,h2,h3,h4,h5,h6,h7] v k;generalize List.getD [h0,h1,h2,h3,h4,h5,h6,h7] k 0=x0 at a0 uH;generalize v.getD k 0=x1 at a1 uH;generalize v.getD (k+8) 0=x2 at a2 uH;have Fj:=Qh uH;have pz:=Qh iL;clear iL mO uH;go_wp2_with fail
        go_big_region
        go_wp2;go_roundw;case rel=>exact⟨k+1,by omega,by go_num,by rw[←Fj.O];exact(pz.O.set0 k _).drew⟩
        case measure=>simp[intOf];omega
       ·have mO:=F4 [h0,h1,h2,h3,h4,h5,h6,h7] v k;have iX:je [h0,h1,h2,h3,h4,h5,h6,h7] v k=dN [h0,h1,h2,h3,h4,h5,h6,h7] s count false:=by
         rw[dN,Br.O,←Ia,Hv.O,show k=8 by omega]
        generalize je [h0,h1,h2,h3,h4,h5,h6,h7] v k=F at iL mO iX;have nM:=Qh iX;have uX:(Tryz.prog.info? 111).map (·.size)=some (row F).size:=by rw[bI,mO];kernel_rfl
        have F6:(row (List.replicate 8 0)).size=(row F).size:=by rw[bI,bI,mO];rfl
        have F7:(row F).all (·.oneCell')=true:=by simp[row,Value.oneCell']
        have b0:=iL.b0;have b1:=iL.b1;have pz:=Qh iL;clear iL iX
        go_wp2_with (first
         |(refine wpList_load_row rfl 111 _ rfl w.heap.size rfl 111 (row F) (0,0) _ b0 Tryz.underlying111 rfl uX ?_)
         |(refine wpList_store_row rfl 111 _ _ rfl (w.heap.size+1) (row F) rfl rfl 111 (row (List.replicate 8 0)) b1 uX F6 F7 ?_))
        try simp only[Exit.inBlock,Exit.then]
        refine bodyPost_ret (v:= .tuple #[.agg (row F),.int .i64 0]) ?_ rfl ⟨?_,?_⟩
        ·rw[results_cell_tmp rfl];simp[asAddr,run_loadVar_row _ (w.heap.size+1) 111 111 (row F) (0,0) _ (setRow_heap _ _ _ _ _ _ b1) Tryz.underlying111 rfl uX]
        ·rw[nM.O]
        ·exact below_setRow pz.O.below (by omega) _
def Dq(x:At):Bool:=decide (100<x.k.length) || decide (100<x.v.length)
def l7(l:List At):Int:=if 30<l.length then 1 else if l.any Dq then 1 else 0
theorem Xq5(a b:At)(W:World):(binOp .neq 94 (.agg #[S a.k,S a.v]) (.agg #[S b.k,S b.v])).run Tryz.prog W= .ok (.bool (!decide (a=b))) W:=by
 rw[Xq4 _ _ [(9,0,false),(9,1,false)] W (by kernel_rfl) (by kernel_rfl) (by kernel_rfl)];obtain⟨a1,a2⟩:=a;obtain⟨b1,b2⟩:=b;simp[go_sem];by_cases h1:a1=b1<;>by_cases h2:a2=b2<;>simp[h1,h2]
theorem Xos(c:UInt8):bK c=(decide (97≤c.toNat)&&decide (c.toNat≤122) || decide (48≤c.toNat)&&decide (c.toNat≤57) || decide (c.toNat=46) || decide (c.toNat=95) || decide (c.toNat=45)):=by
 have e:∀n:Nat,n<256→(c==UInt8.ofNat n)=decide (c.toNat=n):=fun n hn=>by
  rw[Bool.eq_iff_iff,beq_iff_eq,decide_eq_true_iff];constructor
  ·intro h;rw[h];simp;omega
  ·intro h;have:c=UInt8.ofNat c.toNat:=by simp
   rw[this,h]
 unfold bK;rw[show(46:UInt8)=UInt8.ofNat 46 from rfl,show(95:UInt8)=UInt8.ofNat 95 from rfl,show(45:UInt8)=UInt8.ofNat 45 from rfl,e 46 (by omega),e 95 (by omega),e 45 (by omega)];simp[UInt8.le_iff_toNat_le]
theorem Xsw(s:ae)(hs:s.length≤9223372036854775807)(w:World):
 Calls Tryz.prog 217 #[S s] w fun e w'=>e= .returned (.bool (kW s))∧Below w.heap.size w w':=by
 by_cases h1:1≤s.length
 ·have lM:decide (s.length<1)=false:=Qf (by omega);by_cases vW:s.length≤32
  ·have oP:decide (32<s.length)=false:=by simp;omega
   have kw:=Qh (show kW s=s.all bK by simp[kW,h1,vW]);go_enter Tryz.func217,Tryz.ntmps217
   go_wp2_with fail
   go_loop [3] (fun s3=> ∃k:Nat,k≤s.length∧s3= .int .i64 k∧(s.take k).all bK=true) (fun i=>s.length-(intOf i).toNat)
   case atStart=>exact⟨0,Nat.zero_le _,rfl,rfl⟩
   case round=>
    obtain⟨k,hk,rfl,hr⟩:=hrel;have Hr:=Qh hr;clear hr;by_cases hlt:k<s.length
    ·have hx:=gG Tryz.underlying9 s (k:Int) k rfl hlt;have ni:=Xos (s.getD k 0);have nG:=Qh (show s.take (k+1)=s.take k++[s.getD k 0] by rw[List.take_succ_eq_append_getElem hlt];simp[List.getD,hlt]);have zx:=Qh (show s.getD k 0∈s by simp[List.getD,hlt]);have su:(s.getD k 0).toNat<256:=(s.getD k 0).toNat_lt;generalize s.getD k 0=ch at ni nG zx hx su;generalize ch.toNat=c at ni hx su;rcases(show(97≤c∧c≤122)∨122<c∨(48≤c∧c≤57)∨c=46∨c=95∨c=45∨(c<48∧c≠46∧c≠45)∨(57<c∧c<97∧c≠95) by omega)with hc|hc|hc|hc|hc|hc|hc|hc
     ·have d97:decide ((c:Int)<97)=false:=by simp;omega
      have d122:decide (122<(c:Int))=false:=by simp;omega
      have d48:decide ((c:Int)<48)=false:=by simp;omega
      have d57:decide (57<(c:Int))=true:=by simp;omega
      have n46:((c:Int) !=46)=true:=by simp;omega
      have n95:((c:Int) !=95)=true:=by simp;omega
      have n45:((c:Int) !=45)=true:=by simp;omega
      have ow:=Qh (show bK ch=true by rw[ni];simp;omega);clear ni hc;go_wp2;go_round;case rel=>exact⟨k+1,by omega,by go_num,by rw[nG.O,List.all_append,Hr.O];simp[ow.O]⟩
      case measure=>simp[intOf];omega
     ·have d97:decide ((c:Int)<97)=false:=by simp;omega
      have d122:decide (122<(c:Int))=true:=by simp;omega
      have d48:decide ((c:Int)<48)=false:=by simp;omega
      have d57:decide (57<(c:Int))=true:=by simp;omega
      have n46:((c:Int) !=46)=true:=by simp;omega
      have n95:((c:Int) !=95)=true:=by simp;omega
      have n45:((c:Int) !=45)=true:=by simp;omega
      have ow:=Qh (show bK ch=false by rw[ni];simp;omega);have kK:=Qh (show s.all bK=false by
       cases h:s.all bK with
       |false=>rfl
       |true=>rw[List.all_eq_true.1 h ch zx.O]at ow;exact absurd ow.O (by simp))
      clear ni hc;go_wp2;go_ret;exact⟨gZ (by rw[kw.O,kK.O]),Qb _ _⟩
     ·have d97:decide ((c:Int)<97)=true:=by simp;omega
      have d122:decide (122<(c:Int))=false:=by simp;omega
      have d48:decide ((c:Int)<48)=false:=by simp;omega
      have d57:decide (57<(c:Int))=false:=by simp;omega
      have n46:((c:Int) !=46)=true:=by simp;omega
      have n95:((c:Int) !=95)=true:=by simp;omega
      have n45:((c:Int) !=45)=true:=by simp;omega
      have ow:=Qh (show bK ch=true by rw[ni];simp;omega);clear ni hc;go_wp2;go_round;case rel=>exact⟨k+1,by omega,by go_num,by rw[nG.O,List.all_append,Hr.O];simp[ow.O]⟩
      case measure=>simp[intOf];omega
     ·have d97:decide ((c:Int)<97)=true:=by simp;omega
      have d122:decide (122<(c:Int))=false:=by simp;omega
      have d48:decide ((c:Int)<48)=true:=by simp;omega
      have d57:decide (57<(c:Int))=false:=by simp;omega
      have n46:((c:Int) !=46)=false:=by simp;omega
      have n95:((c:Int) !=95)=true:=by simp;omega
      have n45:((c:Int) !=45)=true:=by simp;omega
      have ow:=Qh (show bK ch=true by rw[ni];simp;omega);clear ni hc;go_wp2;go_round;case rel=>exact⟨k+1,by omega,by go_num,by rw[nG.O,List.all_append,Hr.O];simp[ow.O]⟩
      case measure=>simp[intOf];omega
     ·have d97:decide ((c:Int)<97)=true:=by simp;omega
      have d122:decide (122<(c:Int))=false:=by simp;omega
      have d48:decide ((c:Int)<48)=false:=by simp;omega
      have d57:decide (57<(c:Int))=true:=by simp;omega
      have n46:((c:Int) !=46)=true:=by simp;omega
      have n95:((c:Int) !=95)=false:=by simp;omega
      have n45:((c:Int) !=45)=true:=by simp;omega
      have ow:=Qh (show bK ch=true by rw[ni];simp;omega);clear ni hc;go_wp2;go_round;case rel=>exact⟨k+1,by omega,by go_num,by rw[nG.O,List.all_append,Hr.O];simp[ow.O]⟩
      case measure=>simp[intOf];omega
     ·have d97:decide ((c:Int)<97)=true:=by simp;omega
      have d122:decide (122<(c:Int))=false:=by simp;omega
      have d48:decide ((c:Int)<48)=true:=by simp;omega
      have d57:decide (57<(c:Int))=false:=by simp;omega
      have n46:((c:Int) !=46)=true:=by simp;omega
      have n95:((c:Int) !=95)=true:=by simp;omega
      have n45:((c:Int) !=45)=false:=by simp;omega
      have ow:=Qh (show bK ch=true by rw[ni];simp;omega);clear ni hc;go_wp2;go_round;case rel=>exact⟨k+1,by omega,by go_num,by rw[nG.O,List.all_append,Hr.O];simp[ow.O]⟩
      case measure=>simp[intOf];omega
     ·have d97:decide ((c:Int)<97)=true:=by simp;omega
      have d122:decide (122<(c:Int))=false:=by simp;omega
      have d48:decide ((c:Int)<48)=true:=by simp;omega
      have d57:decide (57<(c:Int))=false:=by simp;omega
      have n46:((c:Int) !=46)=true:=by simp;omega
      have n95:((c:Int) !=95)=true:=by simp;omega
      have n45:((c:Int) !=45)=true:=by simp;omega
      have ow:=Qh (show bK ch=false by rw[ni];simp;omega);have kK:=Qh (show s.all bK=false by
       cases h:s.all bK with
       |false=>rfl
       |true=>rw[List.all_eq_true.1 h ch zx.O]at ow;exact absurd ow.O (by simp))
      clear ni hc;go_wp2;go_ret;exact⟨gZ (by rw[kw.O,kK.O]),Qb _ _⟩
     ·have d97:decide ((c:Int)<97)=true:=by simp;omega
      have d122:decide (122<(c:Int))=false:=by simp;omega
      have d48:decide ((c:Int)<48)=false:=by simp;omega
      have d57:decide (57<(c:Int))=true:=by simp;omega
      have n46:((c:Int) !=46)=true:=by simp;omega
      have n95:((c:Int) !=95)=true:=by simp;omega
      have n45:((c:Int) !=45)=true:=by simp;omega
      have ow:=Qh (show bK ch=false by rw[ni];simp;omega);have kK:=Qh (show s.all bK=false by
       cases h:s.all bK with
       |false=>rfl
       |true=>rw[List.all_eq_true.1 h ch zx.O]at ow;exact absurd ow.O (by simp))
      clear ni hc;go_wp2;go_ret;exact⟨gZ (by rw[kw.O,kK.O]),Qb _ _⟩
    ·have aG:s.take k=s:=List.take_of_length_le (by omega);rw[aG]at Hr;clear aG;go_wp2;go_ret;exact⟨gZ (by rw[kw.O,Hr.O]),Qb _ _⟩
  ·have oP:decide (32<s.length)=true:=by simp;omega
   have kw:=Qh (show kW s=false by simp[kW,vW]);go_enter Tryz.func217,Tryz.ntmps217
   go_wp2;go_ret;exact⟨gZ kw.O.symm,Qb _ _⟩
 ·have lM:decide (s.length<1)=true:=Qt (by omega);have kw:=Qh (show kW s=false by simp[kW,h1]);go_enter Tryz.func217,Tryz.ntmps217
  go_wp2;go_ret;exact⟨gZ kw.O.symm,Qb _ _⟩
