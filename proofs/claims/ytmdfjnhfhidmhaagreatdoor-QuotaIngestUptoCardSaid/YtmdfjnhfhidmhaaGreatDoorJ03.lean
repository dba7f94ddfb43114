/- Lemmas for the claim's theorem;conditions: as each says. -/
import Derived.Test.YtmdfjnhfhidmhaaGreatDoorJ02
import Derived.Deep.DeepCutAuto
import Derived.StillTailTactics
set_option maxHeartbeats 0
set_option maxRecDepth 100000
set_option linter.all false
namespace Go.Proofs.YtmdfjnhfhidmhaaGreatDoor
open Go.RowKit
variable{v':List Int}
theorem LF{α:Type}:∀{l:List α},l.length=8→ ∃a b c d e f g h,l=[a,b,c,d,e,f,g,h]
 | [a,b,c,d,e,f,g,h],_=>⟨a,b,c,d,e,f,g,h,rfl⟩
def lH(s:af)(i:Nat):Int:=((s[i]?.getD 0).toNat:Int)%4294967296
def sj(s:af)(k:Nat):Int:=bits .or .u32 (bits .or .u32 (bits .or .u32 (lH s (4*k)) (lH s (4*k+1)*256%4294967296)) (lH s (4*k+2)*65536%4294967296)) (lH s (4*k+3)*16777216%4294967296)
def l9(s:af)(k:Nat):List Int:=(List.range 16).map fun j=>if j<k then sj s j else 0
def words(s:af):List Int:=(List.range 16).map (sj s)
theorem Xij(s:af)(k:Nat):(l9 s k).length=16:=by simp[l9]
theorem Xkh(s:af)(k:Nat)(_hk:k<16):(l9 s k).set k (sj s k)=l9 s (k+1):=by
 apply List.ext_getElem
 ·simp[l9]
 ·intro j h1 h2;simp only[l9,List.getElem_set,List.getElem_map,List.getElem_range];by_cases h:k=j
  ·subst h;simp
  ·rw[if_neg h];by_cases hj:j<k
   ·rw[if_pos hj,if_pos (by omega)]
   ·rw[if_neg hj,if_neg (by omega)]
theorem Xmh(s:af):l9 s 16=words s:=by
 apply List.map_congr_left;intro j hj;rw[if_pos (List.mem_range.1 hj)]
structure Cm (w:World) (hs m v:List Int) (wr:World):Prop where
 below:Below w.heap.size w wr
 size:w.heap.size+1+1+1<wr.heap.size
 b0:wr.heap[w.heap.size]?=some (.cells (row hs) 206 (0,0))
 b1:wr.heap[w.heap.size+1]?=some (.cells (row (List.replicate 8 0)) 206 (0,0))
 b2:wr.heap[w.heap.size+1+1]?=some (.cells (row m) 235 (0,0))
 b3:wr.heap[w.heap.size+1+1+1]?=some (.cells (row v) 235 (0,0))
section
variable {w wr w':World} {hs m v:List Int}
theorem OX{X:World}{k:Nat}(hk:X.heap.size=k)(o:Obj):(X.alloc o).heap[k]?=some o:=by subst hk;exact heap_alloc_new _ _
theorem Cm.start(w:World)(hs:List Int):Cm w hs (List.replicate 16 0) (List.replicate 16 0) ((((w.alloc (.cells (row hs) 206)).alloc (.cells (row (List.replicate 8 0)) 206)).alloc (.cells (row (List.replicate 16 0)) 235)).alloc (.cells (row (List.replicate 16 0)) 235)):=by
 refine⟨((((Qb _ _).alloc (Qn _) _).alloc (by simp) _).alloc (by simp;omega) _).alloc (by simp;omega) _,by simp,?_,?_,?_,?_⟩
 ·exact(Below.heap_alloc _ _ _ (by simp;omega)).trans ((Below.heap_alloc _ _ _ (by simp;omega)).trans ((Below.heap_alloc _ _ _ (by simp)).trans (heap_alloc_new _ _)))
 ·exact(Below.heap_alloc _ _ _ (by simp)).trans ((Below.heap_alloc _ _ _ (by simp)).trans (OX (by simp) _))
 ·exact(Below.heap_alloc _ _ _ (by simp)).trans (OX (by simp) _)
 ·exact OX (by simp) _
theorem Cm.pass(h:Cm w hs m v wr)(hb:Below wr.heap.size wr w'):Cm w hs m v w':=by
 have:=h.size;exact⟨h.below.trans (hb.mono h.below.size),by have:=hb.size;omega,(hb.block _ (by omega)).trans h.b0,(hb.block _ (by omega)).trans h.b1,(hb.block _ (by omega)).trans h.b2,(hb.block _ (by omega)).trans h.b3⟩
theorem Cm.drew(h:Cm w hs m v wr):Cm w hs m v wr.drew:=h.pass (Qb _ _).drew
theorem Cm.alloc(h:Cm w hs m v wr)(o:Obj):Cm w hs m v (wr.alloc o):=h.pass ((Qb _ _).alloc (Qn _) o)
theorem Cm.set0(h:Cm w hs m v wr)(i:Nat)(x:Int):Cm w (hs.set i x) m v (wr.setCell ⟨w.heap.size,i,none⟩ (.int .u32 x)):=by
 have o:∀k,k≠w.heap.size→(wr.setCell ⟨w.heap.size,i,none⟩ (.int .u32 x)).heap[k]?=wr.heap[k]? :=fun k hk=>Below.heap_setCell _ _ _ _ hk;exact⟨h.below.setCell (Qn _) _,by simpa[World.setCell]using h.size,heap_setCell _ h.b0,(o _ (by omega)).trans h.b1,(o _ (by omega)).trans h.b2,(o _ (by omega)).trans h.b3⟩
theorem Cm.set2(h:Cm w hs m v wr)(i:Nat)(x:Int):Cm w hs (m.set i x) v (wr.setCell ⟨w.heap.size+1+1,i,none⟩ (.int .u32 x)):=by
 have o:∀k,k≠w.heap.size+1+1→(wr.setCell ⟨w.heap.size+1+1,i,none⟩ (.int .u32 x)).heap[k]?=wr.heap[k]? :=fun k hk=>Below.heap_setCell _ _ _ _ hk;exact⟨h.below.setCell (by show w.heap.size≤w.heap.size+1+1;omega) _,by simpa[World.setCell]using h.size,(o _ (by omega)).trans h.b0,(o _ (by omega)).trans h.b1,heap_setCell _ h.b2,(o _ (by omega)).trans h.b3⟩
theorem Cm.EF(h:Cm w hs m v wr)(i:Nat)(x:Int):Cm w hs m (v.set i x) (wr.setCell ⟨w.heap.size+1+1+1,i,none⟩ (.int .u32 x)):=by
 have o:∀k,k≠w.heap.size+1+1+1→(wr.setCell ⟨w.heap.size+1+1+1,i,none⟩ (.int .u32 x)).heap[k]?=wr.heap[k]? :=fun k hk=>Below.heap_setCell _ _ _ _ hk;exact⟨h.below.setCell (by show w.heap.size≤w.heap.size+1+1+1;omega) _,by simpa[World.setCell]using h.size,(o _ (by omega)).trans h.b0,(o _ (by omega)).trans h.b1,(o _ (by omega)).trans h.b2,heap_setCell _ h.b3⟩
theorem Cm.EG(h:Cm w hs m v wr)(hg:wr.grownBy w' (some (w.heap.size+1+1+1)))(hv:w'.heap[w.heap.size+1+1+1]?=some (.cells (row v') 235 (0,0))):Cm w hs m v' w':=by
 have:=h.size;have o:∀k,k<w.heap.size+1+1+1→w'.heap[k]?=wr.heap[k]? :=fun k hk=>hg.block k (by omega) (fun e=>by injection e;omega);exact⟨h.below.grown hg (by omega) (fun k hk=>by injection hk;omega),by have:=hg.size;omega,(o _ (by omega)).trans h.b0,(o _ (by omega)).trans h.b1,(o _ (by omega)).trans h.b2,hv⟩
theorem Cm.pI(h:Cm w hs m v wr):Cm w hs m v' (wr.setRow (w.heap.size+1+1+1) (row v')):=by
 have o:∀k,k≠w.heap.size+1+1+1→(wr.setRow (w.heap.size+1+1+1) (row v')).heap[k]?=wr.heap[k]? :=fun k hk=>setRow_other _ _ _ _ hk;exact⟨below_setRow h.below (by omega) _,by simpa using h.size,(o _ (by omega)).trans h.b0,(o _ (by omega)).trans h.b1,(o _ (by omega)).trans h.b2,setRow_heap _ _ _ _ _ _ h.b3⟩
end
def eX:List Int:=[1779033703,3144134277,1013904242,2773480762,1359893119,2600822924,528734635,1541459225]
theorem Xh9(w:World):Calls Tryz.prog 160 #[] w fun e w'=>e= .returned (.agg (row eX))∧Below w.heap.size w w':=by
 go_enter Tryz.func160,Tryz.ntmps160
 go_wp2;refine bodyPost_ret (results_cell_row rfl _ _ w.heap.size _ (row eX) (0,0) _ rfl (heap_alloc_new w (.cells (row eX) 206)) Tryz.underlying206 rfl (by kernel_rfl)) rfl ⟨rfl,?_⟩;exact(Qb _ _).alloc (Qn _) _
def qV(hs:List Int)(count:Int)(last:Bool):List Int:=
 let v:=((hs++eX).set 12 (bits .xor .u32 1359893119 (count%4294967296))).set 13 (bits .xor .u32 2600822924 (count / 4294967296%4294967296))
 if last then v.set 14 (bits .xor .u32 IntKind.u32.max 528734635)else v
def jq(hs v:List Int)(k:Nat):List Int:=(List.range 8).map fun j=>if j<k then bits .xor .u32 (hs.getD j 0) (bits .xor .u32 (v.getD j 0) (v.getD (j+8) 0))else hs.getD j 0
theorem Ie(hs v:List Int)(k:Nat):(jq hs v k).length=8:=by simp[jq]
theorem UJ(hs v:List Int)(k:Nat)(hk:k<8):(jq hs v k).getD k 0=hs.getD k 0:=by
 simp[jq,List.getD,hk]
theorem UK(hs v:List Int)(k:Nat):(jq hs v k).set k (bits .xor .u32 (hs.getD k 0) (bits .xor .u32 (v.getD k 0) (v.getD (k+8) 0)))=jq hs v (k+1):=by
 apply List.ext_getElem
 ·simp[jq]
 ·intro j h1 h2;simp only[jq,List.getElem_set,List.getElem_map,List.getElem_range];by_cases h:k=j
  ·subst h;simp
  ·rw[if_neg h];by_cases hj:j<k
   ·rw[if_pos hj,if_pos (by omega)]
   ·rw[if_neg hj,if_neg (by omega)]
def dQ(hs:List Int)(s:af)(count:Int)(last:Bool):List Int:=jq hs (eD (words s) 10 (qV hs count last)) 8
theorem Qv(hs:List Int)(s:af)(count:Int)(last:Bool):(dQ hs s count last).length=8:=Ie ..
theorem UL(hs:List Int)(h:hs.length=8)(count:Int)(last:Bool):(qV hs count last).length=16:=by
 unfold qV;cases last<;>simp[h,eX]
theorem Xgg(hs:List Int)(hh:hs.length=8)(s:af)(GQ:s.length=64)(count:Int)(last:Bool)(w:World):
 Calls Tryz.prog 161 #[.agg (row hs),S s,.int .u64 count,.bool last] w fun e w'=>e= .returned (.tuple #[.agg (row (dQ hs s count last)),.int .i64 0])∧Below w.heap.size w w':=by
 obtain⟨h0,h1,h2,h3,h4,h5,h6,h7,rfl⟩:=LF hh;rw[show row [h0,h1,h2,h3,h4,h5,h6,h7]=#[.int .u32 h0,.int .u32 h1,.int .u32 h2,.int .u32 h3,.int .u32 h4,.int .u32 h5,.int .u32 h6,.int .u32 h7]from rfl];have dM:(s.length:Int)=64:=by omega
 clear hh;have bu:=Qh (Cm.start w [h0,h1,h2,h3,h4,h5,h6,h7]);go_enter Tryz.func161,Tryz.ntmps161
 go_wp2_with fail
 go_loopw [25] (fun s25 wr=> ∃(k:Nat),k≤16∧s25= .int .i64 k∧Cm w [h0,h1,h2,h3,h4,h5,h6,h7] (l9 s k) (List.replicate 16 0) wr) (fun i _=>16-(intOf i).toNat)
 case atStart=>exact⟨0,Nat.zero_le _,rfl,bu.O⟩
 case round=>
  clear bu;obtain⟨k,hk,rfl,hm⟩:=hrel;by_cases hlt:k<16
  ·have lV:=cell_of_row wr _ k _ _ _ hm.b2;rw[pG (by rw[Xij];omega)]at lV;have iR:=frozen_of_row wr _ k _ _ hm.b2;have Hm:=Qh hm;clear hm;have oG:=gm Tryz.underlying9 s (4*(k:Int)) (4*k) (by omega) (by omega);have gu:=gm Tryz.underlying9 s (4*(k:Int)+1) (4*k+1) (by omega) (by omega);have oQ:=gm Tryz.underlying9 s (4*(k:Int)+2) (4*k+2) (by omega) (by omega);have yh:=gm Tryz.underlying9 s (4*(k:Int)+3) (4*k+3) (by omega) (by omega);go_wp2_with fail
   go_big_region
   go_wp2;go_roundw;case rel=>exact⟨k+1,by omega,by go_num,by rw[←Xkh s k hlt];exact(Hm.O.set2 k (sj s k)).drew⟩
   case measure=>simp[intOf];omega
  ·have nY:k=16:=by omega
   subst nY;rw[Xmh]at hm;go_wp2_with fail
   refine(Xh9 _).mono ?_;rintro e w1 ⟨rfl,aD⟩;have K8:=hm.pass aD;rw[show row eX=#[.int .u32 1779033703,.int .u32 3144134277,.int .u32 1013904242,.int .u32 2773480762,.int .u32 1359893119,.int .u32 2600822924,.int .u32 528734635,.int .u32 1541459225]from rfl];have Kb:=Qh (K8.alloc (.cells (row eX) 206));have CP:=K8.size;have Kc:=Qh (heap_alloc_new w1 (.cells (row eX) 206));clear K8 hm aD;go_wp2_with fail
   have e0:(w1.alloc (.cells #[.int .u32 1779033703,.int .u32 3144134277,.int .u32 1013904242,.int .u32 2773480762,.int .u32 1359893119,.int .u32 2600822924,.int .u32 528734635,.int .u32 1541459225] 206))=w1.alloc (.cells (row eX) 206):=rfl;rw[e0];obtain⟨X,hX⟩:∃X,w1.alloc (.cells (row eX) 206)=X:=⟨_,rfl⟩;rw[hX];have Ig:Hid (Cm w [h0,h1,h2,h3,h4,h5,h6,h7] (words s) (List.replicate 16 0) X):=Qh (by rw[←hX];exact Kb.O);have HiX:Hid (X.heap[w1.heap.size]?=some (.cells (row eX) 206 (0,0))):=Qh (by rw[←hX];exact Kc.O);have hnX:w1.heap.size<X.heap.size:=by rw[←hX];simp
   clear hX e0 Kb Kc;have NW:∀ty,(Builtin.copy_ #[236,236] ty #[.slice (some ⟨w.heap.size+1+1+1,0,none⟩) 8 16,.slice (some ⟨w.heap.size,0,none⟩) 8 8]).run Tryz.prog X.drew= .ok (.int .i64 8) (X.drew.setRow (w.heap.size+1+1+1) (row ([h0,h1,h2,h3,h4,h5,h6,h7]++List.replicate 8 0))):=by
    intro ty;have fE:∀j v,([.int .u32 h0,.int .u32 h1,.int .u32 h2,.int .u32 h3,.int .u32 h4,.int .u32 h5,.int .u32 h6,.int .u32 h7]:List Value)[j]?=some v→X.drew.cell? ((⟨w.heap.size,0,none⟩:Addr).add j)=some v:=by
     intro j v hj;rw[Addr.add_lit,cell_of_row _ _ _ _ _ _ Ig.O.drew.b0,Nat.zero_add];simpa[row]using hj
    exact Gn X.drew 236 236 ty 58 1 (w.heap.size+1+1+1) 0 8 16 ⟨w.heap.size,0,none⟩ 8 8 (row (List.replicate 16 0)) _ _ Tryz.underlying236 (by kernel_rfl) Ig.O.drew.b3 rfl fE (by simp) (by simp[Value.oneCell'])
   go_region_law (refine step_copy_runI rfl _ _ 236 236 rfl _ _ (by simp[Act.eval,Act.put]) (by simp[Act.eval,Act.put]) (NW _) ?_)
   go_wp2_with fail
   rw[show [h0,h1,h2,h3,h4,h5,h6,h7,0,0,0,0,0,0,0,0]=[h0,h1,h2,h3,h4,h5,h6,h7]++List.replicate 8 0 from rfl];obtain⟨Y,hY⟩:∃Y,X.drew.setRow (w.heap.size+1+1+1) (row ([h0,h1,h2,h3,h4,h5,h6,h7]++List.replicate 8 0))=Y:=⟨_,rfl⟩;rw[hY];have Xr:Hid (Cm w [h0,h1,h2,h3,h4,h5,h6,h7] (words s) ([h0,h1,h2,h3,h4,h5,h6,h7]++List.replicate 8 0) Y):=Qh (by rw[←hY];exact Ig.O.drew.pI);have HiY:Hid (Y.heap[w1.heap.size]?=some (.cells (row eX) 206 (0,0))):=Qh (by rw[←hY,setRow_other _ _ _ _ (by omega)];exact HiX.O);clear hY NW Ig HiX hnX;have NW:∀ty,(Builtin.copy_ #[236,236] ty #[.slice (some ⟨w.heap.size+1+1+1,8,none⟩) 8 8,.slice (some ⟨w1.heap.size,0,none⟩) 8 8]).run Tryz.prog Y.drew= .ok (.int .i64 8) (Y.drew.setRow (w.heap.size+1+1+1) (row ([h0,h1,h2,h3,h4,h5,h6,h7]++eX))):=by
    intro ty;have fE:∀j v,((row eX).toList)[j]?=some v→Y.drew.cell? ((⟨w1.heap.size,0,none⟩:Addr).add j)=some v:=by
     intro j v hj;rw[Addr.add_lit,cell_of_row Y.drew w1.heap.size _ (row eX) _ _ HiY.O,Nat.zero_add];simpa using hj
    exact Gn Y.drew 236 236 ty 58 1 (w.heap.size+1+1+1) 8 8 8 ⟨w1.heap.size,0,none⟩ 8 8 (row ([h0,h1,h2,h3,h4,h5,h6,h7]++List.replicate 8 0)) _ _ Tryz.underlying236 (by kernel_rfl) Xr.O.drew.b3 rfl fE (by simp[eX]) (by simp[row,Value.oneCell'])
   go_region_law (refine step_copy_runI rfl _ _ 236 236 rfl _ _ (by simp[Act.eval,Act.put]) (by simp[Act.eval,Act.put]) (NW _) ?_)
   go_upto_region 12 with fail
   rw[show(h0::h1::h2::h3::h4::h5::h6::h7::eX)=[h0,h1,h2,h3,h4,h5,h6,h7]++eX from rfl];obtain⟨Z,hZ⟩:∃Z,Y.drew.setRow (w.heap.size+1+1+1) (row ([h0,h1,h2,h3,h4,h5,h6,h7]++eX))=Z:=⟨_,rfl⟩;rw[hZ];have Ke:Cm w [h0,h1,h2,h3,h4,h5,h6,h7] (words s) ([h0,h1,h2,h3,h4,h5,h6,h7]++eX) Z:=by rw[←hZ];exact Xr.O.drew.pI
   clear hZ NW Xr HiY;have c12:Z.cell? ⟨w.heap.size+1+1+1,12,none⟩=some (.int .u32 1359893119):=(cell_of_row Z _ 12 _ _ _ Ke.b3).trans rfl;have c13:Z.cell? ⟨w.heap.size+1+1+1,13,none⟩=some (.int .u32 2600822924):=(cell_of_row Z _ 13 _ _ _ Ke.b3).trans rfl;have c14:Z.cell? ⟨w.heap.size+1+1+1,14,none⟩=some (.int .u32 528734635):=(cell_of_row Z _ 14 _ _ _ Ke.b3).trans rfl;have f12:=frozen_of_row Z _ 12 _ _ Ke.b3;have f13:=frozen_of_row Z _ 13 _ _ Ke.b3;have f14:=frozen_of_row Z _ 14 _ _ Ke.b3;have UM:=Qh Ke;clear Ke;cases last with
   |true=>
    go_wp2_with fail
    refine(Xdk _).mono ?_;rintro e w3 ⟨rfl,dX⟩;have CU:Cm w [h0,h1,h2,h3,h4,h5,h6,h7] (words s) (qV [h0,h1,h2,h3,h4,h5,h6,h7] count true) w3:=Cm.pass (((UM.O.EF 12 _).EF 13 _).EF 14 _) dX;have LG:=Qh CU;obtain⟨v0,zK⟩:∃v0,qV [h0,h1,h2,h3,h4,h5,h6,h7] count true=v0:=⟨_,rfl⟩;have CV:=Qh zK;rw[zK]at CU;clear zK LG;have DN:v0.length=16:=by rw[←CV.O];exact UL _ rfl _ _
    clear c12 c13 c14 f12 f13 f14 UM dX;go_wp2_with fail
    go_loopw [86] (fun Xu wr=> ∃r:Nat,r≤10∧Xu= .int .i64 r∧Cm w [h0,h1,h2,h3,h4,h5,h6,h7] (words s) (eD (words s) r v0) wr) (fun i _=>10-(intOf i).toNat)
    case atStart=>exact⟨0,Nat.zero_le _,rfl,CU⟩
    case round=>
     clear CU;obtain⟨r,hr,rfl,sP⟩:=hrel;by_cases lI:r<10
     ·have hpx:=Xp (P:=Tryz.prog) Tryz.underlying237 Tryz.underlying210 rfl (by kernel_rfl) r lI (Xiw r lI);obtain⟨vr,wP⟩:∃vr,eD (words s) r v0=vr:=⟨_,rfl⟩;have BS:=Qh wP;rw[wP]at sP;clear wP;have uy:vr.length=16:=by rw[←BS.O,Ic,DN]
      go_wp2_with fail
      refine(Xl8 _).mono ?_;rintro e w4 ⟨rfl,aR⟩;have LH:=sP.pass aR;clear sP aR;go_wp2_with fail
      go_loopw [90] (fun Xv wr=> ∃k:Nat,k≤8∧Xv= .int .i64 k∧Cm w [h0,h1,h2,h3,h4,h5,h6,h7] (words s) (eu (words s) r k vr) wr) (fun i _=>8-(intOf i).toNat)
      case atStart=>exact⟨0,Nat.zero_le _,rfl,LH⟩
      case round=>
       clear LH;obtain⟨k,hk,rfl,jA⟩:=hrel;by_cases je:k<8
       ·have Xw:∀W,(Instr.index 240 (.agg pg) (.int .i64 (k:Int))).run Tryz.prog W= .ok (.agg #[.int .i64 (iF k).1,.int .i64 (iF k).2.1,.int .i64 (iF k).2.2.1,.int .i64 (iF k).2.2.2]) W:=fun W=>by
         rw[Xe1 (P:=Tryz.prog) (m:=4) Tryz.underlying240 Tryz.underlying239 rfl (by kernel_rfl) k je,Xit k je];rfl
        have qw:=Qh jA;clear jA;go_wp2_with fail
        obtain⟨qa,qb,qc,qd,hq⟩:∃qa qb qc qd,iF k=(qa,qb,qc,qd):=⟨_,_,_,_,rfl⟩;have pX:=UI k je;have bu:=Qh (show p9 (words s) r k (eu (words s) r k vr)=oh (eu (words s) r k vr) qa qb qc qd ((words s).getD (jb r (2*k)) 0) ((words s).getD (jb r (2*k+1)) 0) by rw[p9,hq]);rw[hq]at pX ⊢;have Xx:=Qh pX;clear hq pX hpx Xw;obtain⟨F6,EH⟩:=Xla r k lI je;have qj:=Ka r (2*k) lI (by omega);have rU:=Ka r (2*k+1) lI (by omega);generalize jb r (2*k)=sx at F6 qj bu;generalize jb r (2*k+1)=sy at EH rU bu;refine wp_region_quiet_below (by kernel_rfl) (by kernel_rfl) ?_;repeat(go_big_quiet_step ((fail)))
        refine wpQuiet_nil ?_;intro w5 bq;have bM:Below (wr.alloc (.cells #[.int .i64 qa,.int .i64 qb,.int .i64 qc,.int .i64 qd] 239)).heap.size (wr.alloc (.cells #[.int .i64 qa,.int .i64 qb,.int .i64 qc,.int .i64 qd] 239)) w5:=by
         obtain⟨pq,rfl⟩:=bq;exact below_regrown _ _ _
        clear bq;have CW:=(qw.O.alloc _).pass bM;have k0:w5.cell? ⟨wr.heap.size,0,none⟩=some (.int .i64 qa):=by rw[bM.cell (by simp)];simp
        have k1:w5.cell? ⟨wr.heap.size,1,none⟩=some (.int .i64 qb):=by rw[bM.cell (by simp)];simp
        have k2:w5.cell? ⟨wr.heap.size,2,none⟩=some (.int .i64 qc):=by rw[bM.cell (by simp)];simp
        have k3:w5.cell? ⟨wr.heap.size,3,none⟩=some (.int .i64 qd):=by rw[bM.cell (by simp)];simp
        have m0:w5.cell? ⟨w.heap.size+1+1,sx,none⟩=some (.int .u32 ((words s).getD sx 0)):=(cell_of_row w5 _ sx _ _ _ CW.b2).trans (pG (by simpa[words]using qj));have m1:w5.cell? ⟨w.heap.size+1+1,sy,none⟩=some (.int .u32 ((words s).getD sy 0)):=(cell_of_row w5 _ sy _ _ _ CW.b2).trans (pG (by simpa[words]using rU));generalize(words s).getD sx 0=mx at m0 bu;generalize(words s).getD sy 0=my at m1 bu;have CX:=Qh CW;clear CW bM F6 EH qw;go_wp2_with fail
        have k0d:({heap:=w5.heap,tape:=w5.tape,drawn:=w5.drawn+1,os:=w5.os,output:=w5.output}:World).cell? ⟨wr.heap.size,0,none⟩=some (.int .i64 qa):=k0;have UN:({heap:=w5.heap,tape:=w5.tape,drawn:=w5.drawn+1,os:=w5.os,output:=w5.output}:World).cell? ⟨wr.heap.size,1,none⟩=some (.int .i64 qb):=k1;have UO:({heap:=w5.heap,tape:=w5.tape,drawn:=w5.drawn+1,os:=w5.os,output:=w5.output}:World).cell? ⟨wr.heap.size,2,none⟩=some (.int .i64 qc):=k2;have k3d:({heap:=w5.heap,tape:=w5.tape,drawn:=w5.drawn+1,os:=w5.os,output:=w5.output}:World).cell? ⟨wr.heap.size,3,none⟩=some (.int .i64 qd):=k3;have m0d:({heap:=w5.heap,tape:=w5.tape,drawn:=w5.drawn+1,os:=w5.os,output:=w5.output}:World).cell? ⟨w.heap.size+1+1,sx,none⟩=some (.int .u32 mx):=m0;have m1d:({heap:=w5.heap,tape:=w5.tape,drawn:=w5.drawn+1,os:=w5.os,output:=w5.output}:World).cell? ⟨w.heap.size+1+1,sy,none⟩=some (.int .u32 my):=m1;have En:(sx:Int)<16:=by omega
        have DR:(sy:Int)<16:=by omega
        have hi3:(0:Int)≤sx:=by omega
        have NY:(0:Int)≤sy:=by omega
        go_still_tail 7,(by kernel_rfl)
        change wpList _ _ _ _ _ w5.drew;have Am:Hid (Cm w [h0,h1,h2,h3,h4,h5,h6,h7] (words s) (eu (words s) r k vr) w5.drew):=Qh CX.O.drew;generalize w5.drew=w6 at Am;go_wp2_with fail
        have rV:=Xx.O;refine(Xsz (w.heap.size+1+1+1) (eu (words s) r k vr) 235 qa qb qc qd mx my w6 Am.O.b3 (by rw[OV,uy]) rV.1 rV.2.1 rV.2.2.1 rV.2.2.2.1 rV.2.2.2.2.1 rV.2.2.2.2.2.1 rV.2.2.2.2.2.2.1 rV.2.2.2.2.2.2.2.1 rV.2.2.2.2.2.2.2.2.1 rV.2.2.2.2.2.2.2.2.2).mono ?_;rintro e w7 ⟨rfl,gL,hv7⟩;have Xy:=Am.O.EG gL hv7;go_wp2;go_roundw;case rel=>exact⟨k+1,by omega,by go_num,by rw[eu,bu.O];exact Xy⟩
        case measure=>simp[intOf];omega
       ·have nY:k=8:=by omega
        subst nY;go_wp2_with fail
        go_roundw;case rel=>exact⟨r+1,by omega,by go_num,by rw[eD,BS.O];exact jA⟩
        case measure=>simp[intOf];omega
     ·have zL:r=10:=by omega
      obtain⟨v,hv⟩:∃v,eD (words s) r v0=v:=⟨_,rfl⟩;have Hv:=Qh hv;have NZ:v.length=16:=by rw[←hv,Ic,DN]
      rw[hv]at sP;clear hv;go_wp2_with fail
      go_loopw [116] (fun LJ wr=> ∃k:Nat,k≤8∧LJ= .int .i64 k∧Cm w (jq [h0,h1,h2,h3,h4,h5,h6,h7] v k) (words s) v wr) (fun i _=>8-(intOf i).toNat)
      case atStart=>exact⟨0,Nat.zero_le _,rfl,sP⟩
      case round=>
       clear sP;obtain⟨k,hk,rfl,jA⟩:=hrel;by_cases je:k<8
       ·have ni:=Ie [h0,h1,h2,h3,h4,h5,h6,h7] v k;have a0:=(cell_of_row wr _ k _ _ _ jA.b0).trans (pG (by rw[ni];exact je));have a1:=(cell_of_row wr _ k _ _ _ jA.b3).trans (pG (l:=v) (by omega));have a2:=(cell_of_row wr _ (k+8) _ _ _ jA.b3).trans (pG (l:=v) (by omega));have a3:=frozen_of_row wr _ k _ _ jA.b0;rw[UJ _ _ _ je]at a0;have sQ:=UK [h0,h1,h2,h3,h4,h5,h6,h7] v k;generalize List.getD [h0,h1,h2,h3,h4,h5,h6,h7] k 0=x0 at a0 sQ;generalize v.getD k 0=x1 at a1 sQ;generalize v.getD (k+8) 0=x2 at a2 sQ;have Gp:=Qh sQ;have qw:=Qh jA;clear jA ni sQ;go_wp2_with fail
        go_big_region
        go_wp2;go_roundw;case rel=>exact⟨k+1,by omega,by go_num,by rw[←Gp.O];exact(qw.O.set0 k _).drew⟩
        case measure=>simp[intOf];omega
       ·have ni:=Ie [h0,h1,h2,h3,h4,h5,h6,h7] v k;have jH:jq [h0,h1,h2,h3,h4,h5,h6,h7] v k=dQ [h0,h1,h2,h3,h4,h5,h6,h7] s count true:=by
         rw[dQ,CV.O,←zL,Hv.O,show k=8 by omega]
        generalize jq [h0,h1,h2,h3,h4,h5,h6,h7] v k=F at jA ni jH;have lJ:=Qh jH;have wm:(Tryz.prog.info? 206).map (·.size)=some (row F).size:=by rw[bG,ni];kernel_rfl
        have D5:(row (List.replicate 8 0)).size=(row F).size:=by rw[bG,bG,ni];rfl
        have uM:(row F).all (·.oneCell')=true:=by simp[row,Value.oneCell']
        have b0:=jA.b0;have b1:=jA.b1;have qw:=Qh jA;clear jA jH
        go_wp2_with (first
         |(refine wpList_load_row rfl 206 _ rfl w.heap.size rfl 206 (row F) (0,0) _ b0 Tryz.underlying206 rfl wm ?_)
         |(refine wpList_store_row rfl 206 _ _ rfl (w.heap.size+1) (row F) rfl rfl 206 (row (List.replicate 8 0)) b1 wm D5 uM ?_))
        try simp only[Exit.inBlock,Exit.then]
        refine bodyPost_ret (v:= .tuple #[.agg (row F),.int .i64 0]) ?_ rfl ⟨?_,?_⟩
        ·rw[results_cell_tmp rfl];simp[asAddr,run_loadVar_row _ (w.heap.size+1) 206 206 (row F) (0,0) _ (setRow_heap _ _ _ _ _ _ b1) Tryz.underlying206 rfl wm]
        ·rw[lJ.O]
        ·exact below_setRow qw.O.below (by omega) _
   |false=>
    go_wp2_with fail
    refine(Xdk _).mono ?_;rintro e w3 ⟨rfl,dX⟩;have CU:Cm w [h0,h1,h2,h3,h4,h5,h6,h7] (words s) (qV [h0,h1,h2,h3,h4,h5,h6,h7] count false) w3:=Cm.pass ((UM.O.EF 12 _).EF 13 _) dX;have LG:=Qh CU;obtain⟨v0,zK⟩:∃v0,qV [h0,h1,h2,h3,h4,h5,h6,h7] count false=v0:=⟨_,rfl⟩;have CV:=Qh zK;rw[zK]at CU;clear zK LG;have DN:v0.length=16:=by rw[←CV.O];exact UL _ rfl _ _
    clear c12 c13 c14 f12 f13 f14 UM dX;go_wp2_with fail
    go_loopw [86] (fun Xu wr=> ∃r:Nat,r≤10∧Xu= .int .i64 r∧Cm w [h0,h1,h2,h3,h4,h5,h6,h7] (words s) (eD (words s) r v0) wr) (fun i _=>10-(intOf i).toNat)
    case atStart=>exact⟨0,Nat.zero_le _,rfl,CU⟩
    case round=>
     clear CU;obtain⟨r,hr,rfl,sP⟩:=hrel;by_cases lI:r<10
     ·have hpx:=Xp (P:=Tryz.prog) Tryz.underlying237 Tryz.underlying210 rfl (by kernel_rfl) r lI (Xiw r lI);obtain⟨vr,wP⟩:∃vr,eD (words s) r v0=vr:=⟨_,rfl⟩;have BS:=Qh wP;rw[wP]at sP;clear wP;have uy:vr.length=16:=by rw[←BS.O,Ic,DN]
      go_wp2_with fail
      refine(Xl8 _).mono ?_;rintro e w4 ⟨rfl,aR⟩;have LH:=sP.pass aR;clear sP aR;go_wp2_with fail
      go_loopw [90] (fun Xv wr=> ∃k:Nat,k≤8∧Xv= .int .i64 k∧Cm w [h0,h1,h2,h3,h4,h5,h6,h7] (words s) (eu (words s) r k vr) wr) (fun i _=>8-(intOf i).toNat)
      case atStart=>exact⟨0,Nat.zero_le _,rfl,LH⟩
      case round=>
       clear LH;obtain⟨k,hk,rfl,jA⟩:=hrel;by_cases je:k<8
       ·have Xw:∀W,(Instr.index 240 (.agg pg) (.int .i64 (k:Int))).run Tryz.prog W= .ok (.agg #[.int .i64 (iF k).1,.int .i64 (iF k).2.1,.int .i64 (iF k).2.2.1,.int .i64 (iF k).2.2.2]) W:=fun W=>by
         rw[Xe1 (P:=Tryz.prog) (m:=4) Tryz.underlying240 Tryz.underlying239 rfl (by kernel_rfl) k je,Xit k je];rfl
        have qw:=Qh jA;clear jA;go_wp2_with fail
        obtain⟨qa,qb,qc,qd,hq⟩:∃qa qb qc qd,iF k=(qa,qb,qc,qd):=⟨_,_,_,_,rfl⟩;have pX:=UI k je;have bu:=Qh (show p9 (words s) r k (eu (words s) r k vr)=oh (eu (words s) r k vr) qa qb qc qd ((words s).getD (jb r (2*k)) 0) ((words s).getD (jb r (2*k+1)) 0) by rw[p9,hq]);rw[hq]at pX ⊢;have Xx:=Qh pX;clear hq pX hpx Xw;obtain⟨F6,EH⟩:=Xla r k lI je;have qj:=Ka r (2*k) lI (by omega);have rU:=Ka r (2*k+1) lI (by omega);generalize jb r (2*k)=sx at F6 qj bu;generalize jb r (2*k+1)=sy at EH rU bu;refine wp_region_quiet_below (by kernel_rfl) (by kernel_rfl) ?_;repeat(go_big_quiet_step ((fail)))
        refine wpQuiet_nil ?_;intro w5 bq;have bM:Below (wr.alloc (.cells #[.int .i64 qa,.int .i64 qb,.int .i64 qc,.int .i64 qd] 239)).heap.size (wr.alloc (.cells #[.int .i64 qa,.int .i64 qb,.int .i64 qc,.int .i64 qd] 239)) w5:=by
         obtain⟨pq,rfl⟩:=bq;exact below_regrown _ _ _
        clear bq;have CW:=(qw.O.alloc _).pass bM;have k0:w5.cell? ⟨wr.heap.size,0,none⟩=some (.int .i64 qa):=by rw[bM.cell (by simp)];simp
        have k1:w5.cell? ⟨wr.heap.size,1,none⟩=some (.int .i64 qb):=by rw[bM.cell (by simp)];simp
        have k2:w5.cell? ⟨wr.heap.size,2,none⟩=some (.int .i64 qc):=by rw[bM.cell (by simp)];simp
        have k3:w5.cell? ⟨wr.heap.size,3,none⟩=some (.int .i64 qd):=by rw[bM.cell (by simp)];simp
        have m0:w5.cell? ⟨w.heap.size+1+1,sx,none⟩=some (.int .u32 ((words s).getD sx 0)):=(cell_of_row w5 _ sx _ _ _ CW.b2).trans (pG (by simpa[words]using qj));have m1:w5.cell? ⟨w.heap.size+1+1,sy,none⟩=some (.int .u32 ((words s).getD sy 0)):=(cell_of_row w5 _ sy _ _ _ CW.b2).trans (pG (by simpa[words]using rU));generalize(words s).getD sx 0=mx at m0 bu;generalize(words s).getD sy 0=my at m1 bu;have CX:=Qh CW;clear CW bM F6 EH qw;go_wp2_with fail
        have k0d:({heap:=w5.heap,tape:=w5.tape,drawn:=w5.drawn+1,os:=w5.os,output:=w5.output}:World).cell? ⟨wr.heap.size,0,none⟩=some (.int .i64 qa):=k0;have UN:({heap:=w5.heap,tape:=w5.tape,drawn:=w5.drawn+1,os:=w5.os,output:=w5.output}:World).cell? ⟨wr.heap.size,1,none⟩=some (.int .i64 qb):=k1;have UO:({heap:=w5.heap,tape:=w5.tape,drawn:=w5.drawn+1,os:=w5.os,output:=w5.output}:World).cell? ⟨wr.heap.size,2,none⟩=some (.int .i64 qc):=k2;have k3d:({heap:=w5.heap,tape:=w5.tape,drawn:=w5.drawn+1,os:=w5.os,output:=w5.output}:World).cell? ⟨wr.heap.size,3,none⟩=some (.int .i64 qd):=k3;have m0d:({heap:=w5.heap,tape:=w5.tape,drawn:=w5.drawn+1,os:=w5.os,output:=w5.output}:World).cell? ⟨w.heap.size+1+1,sx,none⟩=some (.int .u32 mx):=m0;have m1d:({heap:=w5.heap,tape:=w5.tape,drawn:=w5.drawn+1,os:=w5.os,output:=w5.output}:World).cell? ⟨w.heap.size+1+1,sy,none⟩=some (.int .u32 my):=m1;have En:(sx:Int)<16:=by omega
        have DR:(sy:Int)<16:=by omega
        have hi3:(0:Int)≤sx:=by omega
        have NY:(0:Int)≤sy:=by omega
        go_still_tail 7,(by kernel_rfl)
        change wpList _ _ _ _ _ w5.drew;have Am:Hid (Cm w [h0,h1,h2,h3,h4,h5,h6,h7] (words s) (eu (words s) r k vr) w5.drew):=Qh CX.O.drew;generalize w5.drew=w6 at Am;go_wp2_with fail
        have rV:=Xx.O;refine(Xsz (w.heap.size+1+1+1) (eu (words s) r k vr) 235 qa qb qc qd mx my w6 Am.O.b3 (by rw[OV,uy]) rV.1 rV.2.1 rV.2.2.1 rV.2.2.2.1 rV.2.2.2.2.1 rV.2.2.2.2.2.1 rV.2.2.2.2.2.2.1 rV.2.2.2.2.2.2.2.1 rV.2.2.2.2.2.2.2.2.1 rV.2.2.2.2.2.2.2.2.2).mono ?_;rintro e w7 ⟨rfl,gL,hv7⟩;have Xy:=Am.O.EG gL hv7;go_wp2;go_roundw;case rel=>exact⟨k+1,by omega,by go_num,by rw[eu,bu.O];exact Xy⟩
        case measure=>simp[intOf];omega
       ·have nY:k=8:=by omega
        subst nY;go_wp2_with fail
        go_roundw;case rel=>exact⟨r+1,by omega,by go_num,by rw[eD,BS.O];exact jA⟩
        case measure=>simp[intOf];omega
     ·have zL:r=10:=by omega
      obtain⟨v,hv⟩:∃v,eD (words s) r v0=v:=⟨_,rfl⟩;have Hv:=Qh hv;have NZ:v.length=16:=by rw[←hv,Ic,DN]
      rw[hv]at sP;clear hv;go_wp2_with fail
      go_loopw [116] (fun LJ wr=> ∃k:Nat,k≤8∧LJ= .int .i64 k∧Cm w (jq [h0,h1,h2,h3,h4,h5,h6,h7] v k) (words s) v wr) (fun i _=>8-(intOf i).toNat)
      case atStart=>exact⟨0,Nat.zero_le _,rfl,sP⟩
      case round=>
       clear sP;obtain⟨k,hk,rfl,jA⟩:=hrel;by_cases je:k<8
       ·have ni:=Ie [h0,h1,h2,h3,h4,h5,h6,h7] v k;have a0:=(cell_of_row wr _ k _ _ _ jA.b0).trans (pG (by rw[ni];exact je));have a1:=(cell_of_row wr _ k _ _ _ jA.b3).trans (pG (l:=v) (by omega));have a2:=(cell_of_row wr _ (k+8) _ _ _ jA.b3).trans (pG (l:=v) (by omega));have a3:=frozen_of_row wr _ k _ _ jA.b0;rw[UJ _ _ _ je]at a0;have sQ:=UK [h0,h1,h2,h3,h4,h5,h6,h7] v k;generalize List.getD [h0,h1,h2,h3,h4,h5,h6,h7] k 0=x0 at a0 sQ;generalize v.getD k 0=x1 at a1 sQ;generalize v.getD (k+8) 0=x2 at a2 sQ;have Gp:=Qh sQ;have qw:=Qh jA;clear jA ni sQ;go_wp2_with fail
        go_big_region
        go_wp2;go_roundw;case rel=>exact⟨k+1,by omega,by go_num,by rw[←Gp.O];exact(qw.O.set0 k _).drew⟩
        case measure=>simp[intOf];omega
       ·have ni:=Ie [h0,h1,h2,h3,h4,h5,h6,h7] v k;have jH:jq [h0,h1,h2,h3,h4,h5,h6,h7] v k=dQ [h0,h1,h2,h3,h4,h5,h6,h7] s count false:=by
         rw[dQ,CV.O,←zL,Hv.O,show k=8 by omega]
        generalize jq [h0,h1,h2,h3,h4,h5,h6,h7] v k=F at jA ni jH;have lJ:=Qh jH;have wm:(Tryz.prog.info? 206).map (·.size)=some (row F).size:=by rw[bG,ni];kernel_rfl
        have D5:(row (List.replicate 8 0)).size=(row F).size:=by rw[bG,bG,ni];rfl
        have uM:(row F).all (·.oneCell')=true:=by simp[row,Value.oneCell']
        have b0:=jA.b0;have b1:=jA.b1;have qw:=Qh jA;clear jA jH
        go_wp2_with (first
         |(refine wpList_load_row rfl 206 _ rfl w.heap.size rfl 206 (row F) (0,0) _ b0 Tryz.underlying206 rfl wm ?_)
         |(refine wpList_store_row rfl 206 _ _ rfl (w.heap.size+1) (row F) rfl rfl 206 (row (List.replicate 8 0)) b1 wm D5 uM ?_))
        try simp only[Exit.inBlock,Exit.then]
        refine bodyPost_ret (v:= .tuple #[.agg (row F),.int .i64 0]) ?_ rfl ⟨?_,?_⟩
        ·rw[results_cell_tmp rfl];simp[asAddr,run_loadVar_row _ (w.heap.size+1) 206 206 (row F) (0,0) _ (setRow_heap _ _ _ _ _ _ b1) Tryz.underlying206 rfl wm]
        ·rw[lJ.O]
        ·exact below_setRow qw.O.below (by omega) _
