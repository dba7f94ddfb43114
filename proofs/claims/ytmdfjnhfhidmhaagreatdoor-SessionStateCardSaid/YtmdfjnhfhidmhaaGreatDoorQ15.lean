/- Lemmas for the claim's theorem;conditions: as each says. -/
import Derived.Test.YtmdfjnhfhidmhaaGreatDoorQ14
import Derived.StillTailTactics
set_option maxHeartbeats 0
set_option maxRecDepth 100000
set_option linter.all false
namespace Go.Proofs.YtmdfjnhfhidmhaaGreatDoor
open Go.RowKit
variable{v':List Int}
theorem NH{α:Type}:∀{l:List α},l.length=8→ ∃a b c d e f g h,l=[a,b,c,d,e,f,g,h]
 | [a,b,c,d,e,f,g,h],_=>⟨a,b,c,d,e,f,g,h,rfl⟩
def lS(s:af)(i:Nat):Int:=((s[i]?.getD 0).toNat:Int)%4294967296
def pK(s:af)(k:Nat):Int:=bits .or .u32 (bits .or .u32 (bits .or .u32 (lS s (4*k)) (lS s (4*k+1)*256%4294967296)) (lS s (4*k+2)*65536%4294967296)) (lS s (4*k+3)*16777216%4294967296)
def jv(s:af)(k:Nat):List Int:=(List.range 16).map fun j=>if j<k then pK s j else 0
def words(s:af):List Int:=(List.range 16).map (pK s)
theorem Xgc(s:af)(k:Nat):(jv s k).length=16:=by simp[jv]
theorem Xh3(s:af)(k:Nat)(_hk:k<16):(jv s k).set k (pK s k)=jv s (k+1):=by
 apply List.ext_getElem
 ·simp[jv]
 ·intro j h1 h2;simp only[jv,List.getElem_set,List.getElem_map,List.getElem_range];by_cases h:k=j
  ·subst h;simp
  ·rw[if_neg h];by_cases hj:j<k
   ·rw[if_pos hj,if_pos (by omega)]
   ·rw[if_neg hj,if_neg (by omega)]
theorem Xjr(s:af):jv s 16=words s:=by
 apply List.map_congr_left;intro j hj;rw[if_pos (List.mem_range.1 hj)]
structure Cm (w:World) (hs m v:List Int) (wr:World):Prop where
 below:Below w.heap.size w wr
 size:w.heap.size+1+1+1<wr.heap.size
 b0:wr.heap[w.heap.size]?=some (.cells (row hs) 206 (0,0))
 b1:wr.heap[w.heap.size+1]?=some (.cells (row (List.replicate 8 0)) 206 (0,0))
 b2:wr.heap[w.heap.size+1+1]?=some (.cells (row m) 235 (0,0))
 b3:wr.heap[w.heap.size+1+1+1]?=some (.cells (row v) 235 (0,0))
section
variable {w wr w':World} {hs m v:List Int}
theorem QV{X:World}{k:Nat}(hk:X.heap.size=k)(o:Obj):(X.alloc o).heap[k]?=some o:=by subst hk;exact heap_alloc_new _ _
theorem Cm.start(w:World)(hs:List Int):Cm w hs (List.replicate 16 0) (List.replicate 16 0) ((((w.alloc (.cells (row hs) 206)).alloc (.cells (row (List.replicate 8 0)) 206)).alloc (.cells (row (List.replicate 16 0)) 235)).alloc (.cells (row (List.replicate 16 0)) 235)):=by
 refine⟨((((Qb _ _).alloc (Qn _) _).alloc (by simp) _).alloc (by simp;omega) _).alloc (by simp;omega) _,by simp,?_,?_,?_,?_⟩
 ·exact(Below.heap_alloc _ _ _ (by simp;omega)).trans ((Below.heap_alloc _ _ _ (by simp;omega)).trans ((Below.heap_alloc _ _ _ (by simp)).trans (heap_alloc_new _ _)))
 ·exact(Below.heap_alloc _ _ _ (by simp)).trans ((Below.heap_alloc _ _ _ (by simp)).trans (QV (by simp) _))
 ·exact(Below.heap_alloc _ _ _ (by simp)).trans (QV (by simp) _)
 ·exact QV (by simp) _
theorem Cm.pass(h:Cm w hs m v wr)(hb:Below wr.heap.size wr w'):Cm w hs m v w':=by
 have:=h.size;exact⟨h.below.trans (hb.mono h.below.size),by have:=hb.size;omega,(hb.block _ (by omega)).trans h.b0,(hb.block _ (by omega)).trans h.b1,(hb.block _ (by omega)).trans h.b2,(hb.block _ (by omega)).trans h.b3⟩
theorem Cm.drew(h:Cm w hs m v wr):Cm w hs m v wr.drew:=h.pass (Qb _ _).drew
theorem Cm.alloc(h:Cm w hs m v wr)(o:Obj):Cm w hs m v (wr.alloc o):=h.pass ((Qb _ _).alloc (Qn _) o)
theorem Cm.set0(h:Cm w hs m v wr)(i:Nat)(x:Int):Cm w (hs.set i x) m v (wr.setCell ⟨w.heap.size,i,none⟩ (.int .u32 x)):=by
 have o:∀k,k≠w.heap.size→(wr.setCell ⟨w.heap.size,i,none⟩ (.int .u32 x)).heap[k]?=wr.heap[k]? :=fun k hk=>Below.heap_setCell _ _ _ _ hk;exact⟨h.below.setCell (Qn _) _,by simpa[World.setCell]using h.size,heap_setCell _ h.b0,(o _ (by omega)).trans h.b1,(o _ (by omega)).trans h.b2,(o _ (by omega)).trans h.b3⟩
theorem Cm.set2(h:Cm w hs m v wr)(i:Nat)(x:Int):Cm w hs (m.set i x) v (wr.setCell ⟨w.heap.size+1+1,i,none⟩ (.int .u32 x)):=by
 have o:∀k,k≠w.heap.size+1+1→(wr.setCell ⟨w.heap.size+1+1,i,none⟩ (.int .u32 x)).heap[k]?=wr.heap[k]? :=fun k hk=>Below.heap_setCell _ _ _ _ hk;exact⟨h.below.setCell (by show w.heap.size≤w.heap.size+1+1;omega) _,by simpa[World.setCell]using h.size,(o _ (by omega)).trans h.b0,(o _ (by omega)).trans h.b1,heap_setCell _ h.b2,(o _ (by omega)).trans h.b3⟩
theorem Cm.zA(h:Cm w hs m v wr)(i:Nat)(x:Int):Cm w hs m (v.set i x) (wr.setCell ⟨w.heap.size+1+1+1,i,none⟩ (.int .u32 x)):=by
 have o:∀k,k≠w.heap.size+1+1+1→(wr.setCell ⟨w.heap.size+1+1+1,i,none⟩ (.int .u32 x)).heap[k]?=wr.heap[k]? :=fun k hk=>Below.heap_setCell _ _ _ _ hk;exact⟨h.below.setCell (by show w.heap.size≤w.heap.size+1+1+1;omega) _,by simpa[World.setCell]using h.size,(o _ (by omega)).trans h.b0,(o _ (by omega)).trans h.b1,(o _ (by omega)).trans h.b2,heap_setCell _ h.b3⟩
theorem Cm.zB(h:Cm w hs m v wr)(hg:wr.grownBy w' (some (w.heap.size+1+1+1)))(hv:w'.heap[w.heap.size+1+1+1]?=some (.cells (row v') 235 (0,0))):Cm w hs m v' w':=by
 have:=h.size;have o:∀k,k<w.heap.size+1+1+1→w'.heap[k]?=wr.heap[k]? :=fun k hk=>hg.block k (by omega) (fun e=>by injection e;omega);exact⟨h.below.grown hg (by omega) (fun k hk=>by injection hk;omega),by have:=hg.size;omega,(o _ (by omega)).trans h.b0,(o _ (by omega)).trans h.b1,(o _ (by omega)).trans h.b2,hv⟩
theorem Cm.lD(h:Cm w hs m v wr):Cm w hs m v' (wr.setRow (w.heap.size+1+1+1) (row v')):=by
 have o:∀k,k≠w.heap.size+1+1+1→(wr.setRow (w.heap.size+1+1+1) (row v')).heap[k]?=wr.heap[k]? :=fun k hk=>setRow_other _ _ _ _ hk;exact⟨below_setRow h.below (by omega) _,by simpa using h.size,(o _ (by omega)).trans h.b0,(o _ (by omega)).trans h.b1,(o _ (by omega)).trans h.b2,setRow_heap _ _ _ _ _ _ h.b3⟩
end
def fA:List Int:=[1779033703,3144134277,1013904242,2773480762,1359893119,2600822924,528734635,1541459225]
theorem XF(w:World):Calls Tryz.prog 160 #[] w fun e w'=>e= .returned (.agg (row fA))∧Below w.heap.size w w':=by
 go_enter Tryz.func160,Tryz.ntmps160
 go_wp2;refine bodyPost_ret (results_cell_row rfl _ _ w.heap.size _ (row fA) (0,0) _ rfl (heap_alloc_new w (.cells (row fA) 206)) Tryz.underlying206 rfl (by kernel_rfl)) rfl ⟨rfl,?_⟩;exact(Qb _ _).alloc (Qn _) _
def pM(hs:List Int)(count:Int)(last:Bool):List Int:=
 let v:=((hs++fA).set 12 (bits .xor .u32 1359893119 (count%4294967296))).set 13 (bits .xor .u32 2600822924 (count / 4294967296%4294967296))
 if last then v.set 14 (bits .xor .u32 IntKind.u32.max 528734635)else v
def iY(hs v:List Int)(k:Nat):List Int:=(List.range 8).map fun j=>if j<k then bits .xor .u32 (hs.getD j 0) (bits .xor .u32 (v.getD j 0) (v.getD (j+8) 0))else hs.getD j 0
theorem Ka(hs v:List Int)(k:Nat):(iY hs v k).length=8:=by simp[iY]
theorem XG(hs v:List Int)(k:Nat)(hk:k<8):(iY hs v k).getD k 0=hs.getD k 0:=by
 simp[iY,List.getD,hk]
theorem XH(hs v:List Int)(k:Nat):(iY hs v k).set k (bits .xor .u32 (hs.getD k 0) (bits .xor .u32 (v.getD k 0) (v.getD (k+8) 0)))=iY hs v (k+1):=by
 apply List.ext_getElem
 ·simp[iY]
 ·intro j h1 h2;simp only[iY,List.getElem_set,List.getElem_map,List.getElem_range];by_cases h:k=j
  ·subst h;simp
  ·rw[if_neg h];by_cases hj:j<k
   ·rw[if_pos hj,if_pos (by omega)]
   ·rw[if_neg hj,if_neg (by omega)]
def fH(hs:List Int)(s:af)(count:Int)(last:Bool):List Int:=iY hs (gu (words s) 10 (pM hs count last)) 8
theorem NI(hs:List Int)(s:af)(count:Int)(last:Bool):(fH hs s count last).length=8:=Ka ..
theorem XI(hs:List Int)(h:hs.length=8)(count:Int)(last:Bool):(pM hs count last).length=16:=by
 unfold pM;cases last<;>simp[h,fA]
theorem XJ(hs:List Int)(hh:hs.length=8)(s:af)(Gr:s.length=64)(count:Int)(last:Bool)(w:World):
 Calls Tryz.prog 161 #[.agg (row hs),S s,.int .u64 count,.bool last] w fun e w'=>e= .returned (.tuple #[.agg (row (fH hs s count last)),.int .i64 0])∧Below w.heap.size w w':=by
 obtain⟨h0,h1,h2,h3,h4,h5,h6,h7,rfl⟩:=NH hh;rw[show row [h0,h1,h2,h3,h4,h5,h6,h7]=#[.int .u32 h0,.int .u32 h1,.int .u32 h2,.int .u32 h3,.int .u32 h4,.int .u32 h5,.int .u32 h6,.int .u32 h7]from rfl];have cu:(s.length:Int)=64:=by omega
 clear hh;have bT:=Qh (Cm.start w [h0,h1,h2,h3,h4,h5,h6,h7]);go_enter Tryz.func161,Tryz.ntmps161
 go_wp2_with fail
 go_loopw [25] (fun s25 wr=> ∃(k:Nat),k≤16∧s25= .int .i64 k∧Cm w [h0,h1,h2,h3,h4,h5,h6,h7] (jv s k) (List.replicate 16 0) wr) (fun i _=>16-(intOf i).toNat)
 case atStart=>exact⟨0,Nat.zero_le _,rfl,bT.q⟩
 case round=>
  clear bT;obtain⟨k,hk,rfl,hm⟩:=hrel;by_cases hlt:k<16
  ·have xz:=cell_of_row wr _ k _ _ _ hm.b2;rw[uY (by rw[Xgc];omega)]at xz;have jg:=frozen_of_row wr _ k _ _ hm.b2;have Hm:=Qh hm;clear hm;have uP:=l6 Tryz.underlying9 s (4*(k:Int)) (4*k) (by omega) (by omega);have kM:=l6 Tryz.underlying9 s (4*(k:Int)+1) (4*k+1) (by omega) (by omega);have rO:=l6 Tryz.underlying9 s (4*(k:Int)+2) (4*k+2) (by omega) (by omega);have xB:=l6 Tryz.underlying9 s (4*(k:Int)+3) (4*k+3) (by omega) (by omega);go_wp2_with fail
   go_big_region
   go_wp2;go_roundw;case rel=>exact⟨k+1,by omega,by go_num,by rw[←Xh3 s k hlt];exact(Hm.q.set2 k (pK s k)).drew⟩
   case measure=>simp[intOf];omega
  ·have oP:k=16:=by omega
   subst oP;rw[Xjr]at hm;go_wp2_with fail
   refine(XF _).mono ?_;rintro e w1 ⟨rfl,aG⟩;have CP:=hm.pass aG;rw[show row fA=#[.int .u32 1779033703,.int .u32 3144134277,.int .u32 1013904242,.int .u32 2773480762,.int .u32 1359893119,.int .u32 2600822924,.int .u32 528734635,.int .u32 1541459225]from rfl];have JS:=Qh (CP.alloc (.cells (row fA) 206));have yQ:=CP.size;have JM:=Qh (heap_alloc_new w1 (.cells (row fA) 206));clear CP hm aG;go_wp2_with fail
   have e0:(w1.alloc (.cells #[.int .u32 1779033703,.int .u32 3144134277,.int .u32 1013904242,.int .u32 2773480762,.int .u32 1359893119,.int .u32 2600822924,.int .u32 528734635,.int .u32 1541459225] 206))=w1.alloc (.cells (row fA) 206):=rfl;rw[e0];obtain⟨X,hX⟩:∃X,w1.alloc (.cells (row fA) 206)=X:=⟨_,rfl⟩;rw[hX];have NJ:Hid (Cm w [h0,h1,h2,h3,h4,h5,h6,h7] (words s) (List.replicate 16 0) X):=Qh (by rw[←hX];exact JS.q);have XK:Hid (X.heap[w1.heap.size]?=some (.cells (row fA) 206 (0,0))):=Qh (by rw[←hX];exact JM.q);have hnX:w1.heap.size<X.heap.size:=by rw[←hX];simp
   clear hX e0 JS JM;have I5:∀ty,(Builtin.copy_ #[236,236] ty #[.slice (some ⟨w.heap.size+1+1+1,0,none⟩) 8 16,.slice (some ⟨w.heap.size,0,none⟩) 8 8]).run Tryz.prog X.drew= .ok (.int .i64 8) (X.drew.setRow (w.heap.size+1+1+1) (row ([h0,h1,h2,h3,h4,h5,h6,h7]++List.replicate 8 0))):=by
    intro ty;have fK:∀j v,([.int .u32 h0,.int .u32 h1,.int .u32 h2,.int .u32 h3,.int .u32 h4,.int .u32 h5,.int .u32 h6,.int .u32 h7]:List Value)[j]?=some v→X.drew.cell? ((⟨w.heap.size,0,none⟩:Addr).add j)=some v:=by
     intro j v hj;rw[Addr.add_lit,cell_of_row _ _ _ _ _ _ NJ.q.drew.b0,Nat.zero_add];simpa[row]using hj
    exact AC X.drew 236 236 ty 58 1 (w.heap.size+1+1+1) 0 8 16 ⟨w.heap.size,0,none⟩ 8 8 (row (List.replicate 16 0)) _ _ Tryz.underlying236 (by kernel_rfl) NJ.q.drew.b3 rfl fK (by simp) (by simp[Value.oneCell'])
   go_region_law (refine step_copy_runI rfl _ _ 236 236 rfl _ _ (by simp[Act.eval,Act.put]) (by simp[Act.eval,Act.put]) (I5 _) ?_)
   go_wp2_with fail
   rw[show [h0,h1,h2,h3,h4,h5,h6,h7,0,0,0,0,0,0,0,0]=[h0,h1,h2,h3,h4,h5,h6,h7]++List.replicate 8 0 from rfl];obtain⟨Y,hY⟩:∃Y,X.drew.setRow (w.heap.size+1+1+1) (row ([h0,h1,h2,h3,h4,h5,h6,h7]++List.replicate 8 0))=Y:=⟨_,rfl⟩;rw[hY];have QW:Hid (Cm w [h0,h1,h2,h3,h4,h5,h6,h7] (words s) ([h0,h1,h2,h3,h4,h5,h6,h7]++List.replicate 8 0) Y):=Qh (by rw[←hY];exact NJ.q.drew.lD);have XL:Hid (Y.heap[w1.heap.size]?=some (.cells (row fA) 206 (0,0))):=Qh (by rw[←hY,setRow_other _ _ _ _ (by omega)];exact XK.q);clear hY I5 NJ XK hnX;have I5:∀ty,(Builtin.copy_ #[236,236] ty #[.slice (some ⟨w.heap.size+1+1+1,8,none⟩) 8 8,.slice (some ⟨w1.heap.size,0,none⟩) 8 8]).run Tryz.prog Y.drew= .ok (.int .i64 8) (Y.drew.setRow (w.heap.size+1+1+1) (row ([h0,h1,h2,h3,h4,h5,h6,h7]++fA))):=by
    intro ty;have fK:∀j v,((row fA).toList)[j]?=some v→Y.drew.cell? ((⟨w1.heap.size,0,none⟩:Addr).add j)=some v:=by
     intro j v hj;rw[Addr.add_lit,cell_of_row Y.drew w1.heap.size _ (row fA) _ _ XL.q,Nat.zero_add];simpa using hj
    exact AC Y.drew 236 236 ty 58 1 (w.heap.size+1+1+1) 8 8 8 ⟨w1.heap.size,0,none⟩ 8 8 (row ([h0,h1,h2,h3,h4,h5,h6,h7]++List.replicate 8 0)) _ _ Tryz.underlying236 (by kernel_rfl) QW.q.drew.b3 rfl fK (by simp[fA]) (by simp[row,Value.oneCell'])
   go_region_law (refine step_copy_runI rfl _ _ 236 236 rfl _ _ (by simp[Act.eval,Act.put]) (by simp[Act.eval,Act.put]) (I5 _) ?_)
   go_upto_region 12 with fail
   rw[show(h0::h1::h2::h3::h4::h5::h6::h7::fA)=[h0,h1,h2,h3,h4,h5,h6,h7]++fA from rfl];obtain⟨Z,hZ⟩:∃Z,Y.drew.setRow (w.heap.size+1+1+1) (row ([h0,h1,h2,h3,h4,h5,h6,h7]++fA))=Z:=⟨_,rfl⟩;rw[hZ];have Dv:Cm w [h0,h1,h2,h3,h4,h5,h6,h7] (words s) ([h0,h1,h2,h3,h4,h5,h6,h7]++fA) Z:=by rw[←hZ];exact QW.q.drew.lD
   clear hZ I5 QW XL;have c12:Z.cell? ⟨w.heap.size+1+1+1,12,none⟩=some (.int .u32 1359893119):=(cell_of_row Z _ 12 _ _ _ Dv.b3).trans rfl;have c13:Z.cell? ⟨w.heap.size+1+1+1,13,none⟩=some (.int .u32 2600822924):=(cell_of_row Z _ 13 _ _ _ Dv.b3).trans rfl;have c14:Z.cell? ⟨w.heap.size+1+1+1,14,none⟩=some (.int .u32 528734635):=(cell_of_row Z _ 14 _ _ _ Dv.b3).trans rfl;have f12:=frozen_of_row Z _ 12 _ _ Dv.b3;have f13:=frozen_of_row Z _ 13 _ _ Dv.b3;have f14:=frozen_of_row Z _ 14 _ _ Dv.b3;have NK:=Qh Dv;clear Dv;cases last with
   |true=>
    go_wp2_with fail
    refine(XD _).mono ?_;rintro e w3 ⟨rfl,fu⟩;have xN:Cm w [h0,h1,h2,h3,h4,h5,h6,h7] (words s) (pM [h0,h1,h2,h3,h4,h5,h6,h7] count true) w3:=Cm.pass (((NK.q.zA 12 _).zA 13 _).zA 14 _) fu;have QX:=Qh xN;obtain⟨v0,Ar⟩:∃v0,pM [h0,h1,h2,h3,h4,h5,h6,h7] count true=v0:=⟨_,rfl⟩;have Kb:=Qh Ar;rw[Ar]at xN;clear Ar QX;have Mx:v0.length=16:=by rw[←Kb.q];exact XI _ rfl _ _
    clear c12 c13 c14 f12 f13 f14 NK fu;go_wp2_with fail
    go_loopw [86] (fun QY wr=> ∃r:Nat,r≤10∧QY= .int .i64 r∧Cm w [h0,h1,h2,h3,h4,h5,h6,h7] (words s) (gu (words s) r v0) wr) (fun i _=>10-(intOf i).toNat)
    case atStart=>exact⟨0,Nat.zero_le _,rfl,xN⟩
    case round=>
     clear xN;obtain⟨r,hr,rfl,yo⟩:=hrel;by_cases pO:r<10
     ·have hpx:=QU (P:=Tryz.prog) Tryz.underlying237 Tryz.underlying210 rfl (by kernel_rfl) r pO (XA r pO);obtain⟨vr,EQ⟩:∃vr,gu (words s) r v0=vr:=⟨_,rfl⟩;have Kc:=Qh EQ;rw[EQ]at yo;clear EQ;have U2:vr.length=16:=by rw[←Kc.q,JZ,Mx]
      go_wp2_with fail
      refine(XE _).mono ?_;rintro e w4 ⟨rfl,bA⟩;have ER:=yo.pass bA;clear yo bA;go_wp2_with fail
      go_loopw [90] (fun QZ wr=> ∃k:Nat,k≤8∧QZ= .int .i64 k∧Cm w [h0,h1,h2,h3,h4,h5,h6,h7] (words s) (fM (words s) r k vr) wr) (fun i _=>8-(intOf i).toNat)
      case atStart=>exact⟨0,Nat.zero_le _,rfl,ER⟩
      case round=>
       clear ER;obtain⟨k,hk,rfl,lQ⟩:=hrel;by_cases kW:k<8
       ·have Q0:∀W,(Instr.index 240 (.agg lh) (.int .i64 (k:Int))).run Tryz.prog W= .ok (.agg #[.int .i64 (gF k).1,.int .i64 (gF k).2.1,.int .i64 (gF k).2.2.1,.int .i64 (gF k).2.2.2]) W:=fun W=>by
         rw[XC (P:=Tryz.prog) (m:=4) Tryz.underlying240 Tryz.underlying239 rfl (by kernel_rfl) k kW,Xz k kW];rfl
        have xO:=Qh lQ;clear lQ;go_wp2_with fail
        obtain⟨qa,qb,qc,qd,hq⟩:∃qa qb qc qd,gF k=(qa,qb,qc,qd):=⟨_,_,_,_,rfl⟩;have Gw:=Xx k kW;have bT:=Qh (show rF (words s) r k (fM (words s) r k vr)=uA (fM (words s) r k vr) qa qb qc qd ((words s).getD (jL r (2*k)) 0) ((words s).getD (jL r (2*k+1)) 0) by rw[rF,hq]);rw[hq]at Gw ⊢;have Q3:=Qh Gw;clear hq Gw hpx Q0;obtain⟨Au,zC⟩:=Xy r k pO kW;have xu:=NG r (2*k) pO (by omega);have sQ:=NG r (2*k+1) pO (by omega);generalize jL r (2*k)=sx at Au xu bT;generalize jL r (2*k+1)=sy at zC sQ bT;refine wp_region_quiet_below (by kernel_rfl) (by kernel_rfl) ?_;repeat(go_big_quiet_step ((fail)))
        refine wpQuiet_nil ?_;intro w5 dD;have dm:Below (wr.alloc (.cells #[.int .i64 qa,.int .i64 qb,.int .i64 qc,.int .i64 qd] 239)).heap.size (wr.alloc (.cells #[.int .i64 qa,.int .i64 qb,.int .i64 qc,.int .i64 qd] 239)) w5:=by
         obtain⟨pq,rfl⟩:=dD;exact below_regrown _ _ _
        clear dD;have yD:=(xO.q.alloc _).pass dm;have k0:w5.cell? ⟨wr.heap.size,0,none⟩=some (.int .i64 qa):=by rw[dm.cell (by simp)];simp
        have k1:w5.cell? ⟨wr.heap.size,1,none⟩=some (.int .i64 qb):=by rw[dm.cell (by simp)];simp
        have k2:w5.cell? ⟨wr.heap.size,2,none⟩=some (.int .i64 qc):=by rw[dm.cell (by simp)];simp
        have k3:w5.cell? ⟨wr.heap.size,3,none⟩=some (.int .i64 qd):=by rw[dm.cell (by simp)];simp
        have m0:w5.cell? ⟨w.heap.size+1+1,sx,none⟩=some (.int .u32 ((words s).getD sx 0)):=(cell_of_row w5 _ sx _ _ _ yD.b2).trans (uY (by simpa[words]using xu));have m1:w5.cell? ⟨w.heap.size+1+1,sy,none⟩=some (.int .u32 ((words s).getD sy 0)):=(cell_of_row w5 _ sy _ _ _ yD.b2).trans (uY (by simpa[words]using sQ));generalize(words s).getD sx 0=mx at m0 bT;generalize(words s).getD sy 0=my at m1 bT;have Q4:=Qh yD;clear yD dm Au zC xO;go_wp2_with fail
        have k0d:({heap:=w5.heap,tape:=w5.tape,drawn:=w5.drawn+1,os:=w5.os,output:=w5.output}:World).cell? ⟨wr.heap.size,0,none⟩=some (.int .i64 qa):=k0;have NL:({heap:=w5.heap,tape:=w5.tape,drawn:=w5.drawn+1,os:=w5.os,output:=w5.output}:World).cell? ⟨wr.heap.size,1,none⟩=some (.int .i64 qb):=k1;have NM:({heap:=w5.heap,tape:=w5.tape,drawn:=w5.drawn+1,os:=w5.os,output:=w5.output}:World).cell? ⟨wr.heap.size,2,none⟩=some (.int .i64 qc):=k2;have k3d:({heap:=w5.heap,tape:=w5.tape,drawn:=w5.drawn+1,os:=w5.os,output:=w5.output}:World).cell? ⟨wr.heap.size,3,none⟩=some (.int .i64 qd):=k3;have m0d:({heap:=w5.heap,tape:=w5.tape,drawn:=w5.drawn+1,os:=w5.os,output:=w5.output}:World).cell? ⟨w.heap.size+1+1,sx,none⟩=some (.int .u32 mx):=m0;have m1d:({heap:=w5.heap,tape:=w5.tape,drawn:=w5.drawn+1,os:=w5.os,output:=w5.output}:World).cell? ⟨w.heap.size+1+1,sy,none⟩=some (.int .u32 my):=m1;have Pb:(sx:Int)<16:=by omega
        have Em:(sy:Int)<16:=by omega
        have U3:(0:Int)≤sx:=by omega
        have hi4:(0:Int)≤sy:=by omega
        go_still_tail 7,(by kernel_rfl)
        change wpList _ _ _ _ _ w5.drew;have ES:Hid (Cm w [h0,h1,h2,h3,h4,h5,h6,h7] (words s) (fM (words s) r k vr) w5.drew):=Qh Q4.q.drew;generalize w5.drew=w6 at ES;go_wp2_with fail
        have nI:=Q3.q;refine(Xu (w.heap.size+1+1+1) (fM (words s) r k vr) 235 qa qb qc qd mx my w6 ES.q.b3 (by rw[NF,U2]) nI.1 nI.2.1 nI.2.2.1 nI.2.2.2.1 nI.2.2.2.2.1 nI.2.2.2.2.2.1 nI.2.2.2.2.2.2.1 nI.2.2.2.2.2.2.2.1 nI.2.2.2.2.2.2.2.2.1 nI.2.2.2.2.2.2.2.2.2).mono ?_;rintro e w7 ⟨rfl,kI,U4⟩;have Q5:=ES.q.zB kI U4;go_wp2;go_roundw;case rel=>exact⟨k+1,by omega,by go_num,by rw[fM,bT.q];exact Q5⟩
        case measure=>simp[intOf];omega
       ·have oP:k=8:=by omega
        subst oP;go_wp2_with fail
        go_roundw;case rel=>exact⟨r+1,by omega,by go_num,by rw[gu,Kc.q];exact lQ⟩
        case measure=>simp[intOf];omega
     ·have I6:r=10:=by omega
      obtain⟨v,hv⟩:∃v,gu (words s) r v0=v:=⟨_,rfl⟩;have Hv:=Qh hv;have U5:v.length=16:=by rw[←hv,JZ,Mx]
      rw[hv]at yo;clear hv;go_wp2_with fail
      go_loopw [116] (fun ET wr=> ∃k:Nat,k≤8∧ET= .int .i64 k∧Cm w (iY [h0,h1,h2,h3,h4,h5,h6,h7] v k) (words s) v wr) (fun i _=>8-(intOf i).toNat)
      case atStart=>exact⟨0,Nat.zero_le _,rfl,yo⟩
      case round=>
       clear yo;obtain⟨k,hk,rfl,lQ⟩:=hrel;by_cases kW:k<8
       ·have ru:=Ka [h0,h1,h2,h3,h4,h5,h6,h7] v k;have a0:=(cell_of_row wr _ k _ _ _ lQ.b0).trans (uY (by rw[ru];exact kW));have a1:=(cell_of_row wr _ k _ _ _ lQ.b3).trans (uY (l:=v) (by omega));have a2:=(cell_of_row wr _ (k+8) _ _ _ lQ.b3).trans (uY (l:=v) (by omega));have a3:=frozen_of_row wr _ k _ _ lQ.b0;rw[XG _ _ _ kW]at a0;have wC:=XH [h0,h1,h2,h3,h4,h5,h6,h7] v k;generalize List.getD [h0,h1,h2,h3,h4,h5,h6,h7] k 0=x0 at a0 wC;generalize v.getD k 0=x1 at a1 wC;generalize v.getD (k+8) 0=x2 at a2 wC;have G7:=Qh wC;have xO:=Qh lQ;clear lQ ru wC;go_wp2_with fail
        go_big_region
        go_wp2;go_roundw;case rel=>exact⟨k+1,by omega,by go_num,by rw[←G7.q];exact(xO.q.set0 k _).drew⟩
        case measure=>simp[intOf];omega
       ·have ru:=Ka [h0,h1,h2,h3,h4,h5,h6,h7] v k;have jG:iY [h0,h1,h2,h3,h4,h5,h6,h7] v k=fH [h0,h1,h2,h3,h4,h5,h6,h7] s count true:=by
         rw[fH,Kb.q,←I6,Hv.q,show k=8 by omega]
        generalize iY [h0,h1,h2,h3,h4,h5,h6,h7] v k=F at lQ ru jG;have pz:=Qh jG;have BH:(Tryz.prog.info? 206).map (·.size)=some (row F).size:=by rw[fZ,ru];kernel_rfl
        have Ke:(row (List.replicate 8 0)).size=(row F).size:=by rw[fZ,fZ,ru];rfl
        have si:(row F).all (·.oneCell')=true:=by simp[row,Value.oneCell']
        have b0:=lQ.b0;have b1:=lQ.b1;have xO:=Qh lQ;clear lQ jG
        go_wp2_with (first
         |(refine wpList_load_row rfl 206 _ rfl w.heap.size rfl 206 (row F) (0,0) _ b0 Tryz.underlying206 rfl BH ?_)
         |(refine wpList_store_row rfl 206 _ _ rfl (w.heap.size+1) (row F) rfl rfl 206 (row (List.replicate 8 0)) b1 BH Ke si ?_))
        try simp only[Exit.inBlock,Exit.then]
        refine bodyPost_ret (v:= .tuple #[.agg (row F),.int .i64 0]) ?_ rfl ⟨?_,?_⟩
        ·rw[results_cell_tmp rfl];simp[asAddr,run_loadVar_row _ (w.heap.size+1) 206 206 (row F) (0,0) _ (setRow_heap _ _ _ _ _ _ b1) Tryz.underlying206 rfl BH]
        ·rw[pz.q]
        ·exact below_setRow xO.q.below (by omega) _
   |false=>
    go_wp2_with fail
    refine(XD _).mono ?_;rintro e w3 ⟨rfl,fu⟩;have xN:Cm w [h0,h1,h2,h3,h4,h5,h6,h7] (words s) (pM [h0,h1,h2,h3,h4,h5,h6,h7] count false) w3:=Cm.pass ((NK.q.zA 12 _).zA 13 _) fu;have QX:=Qh xN;obtain⟨v0,Ar⟩:∃v0,pM [h0,h1,h2,h3,h4,h5,h6,h7] count false=v0:=⟨_,rfl⟩;have Kb:=Qh Ar;rw[Ar]at xN;clear Ar QX;have Mx:v0.length=16:=by rw[←Kb.q];exact XI _ rfl _ _
    clear c12 c13 c14 f12 f13 f14 NK fu;go_wp2_with fail
    go_loopw [86] (fun QY wr=> ∃r:Nat,r≤10∧QY= .int .i64 r∧Cm w [h0,h1,h2,h3,h4,h5,h6,h7] (words s) (gu (words s) r v0) wr) (fun i _=>10-(intOf i).toNat)
    case atStart=>exact⟨0,Nat.zero_le _,rfl,xN⟩
    case round=>
     clear xN;obtain⟨r,hr,rfl,yo⟩:=hrel;by_cases pO:r<10
     ·have hpx:=QU (P:=Tryz.prog) Tryz.underlying237 Tryz.underlying210 rfl (by kernel_rfl) r pO (XA r pO);obtain⟨vr,EQ⟩:∃vr,gu (words s) r v0=vr:=⟨_,rfl⟩;have Kc:=Qh EQ;rw[EQ]at yo;clear EQ;have U2:vr.length=16:=by rw[←Kc.q,JZ,Mx]
      go_wp2_with fail
      refine(XE _).mono ?_;rintro e w4 ⟨rfl,bA⟩;have ER:=yo.pass bA;clear yo bA;go_wp2_with fail
      go_loopw [90] (fun QZ wr=> ∃k:Nat,k≤8∧QZ= .int .i64 k∧Cm w [h0,h1,h2,h3,h4,h5,h6,h7] (words s) (fM (words s) r k vr) wr) (fun i _=>8-(intOf i).toNat)
      case atStart=>exact⟨0,Nat.zero_le _,rfl,ER⟩
      case round=>
       clear ER;obtain⟨k,hk,rfl,lQ⟩:=hrel;by_cases kW:k<8
       ·have Q0:∀W,(Instr.index 240 (.agg lh) (.int .i64 (k:Int))).run Tryz.prog W= .ok (.agg #[.int .i64 (gF k).1,.int .i64 (gF k).2.1,.int .i64 (gF k).2.2.1,.int .i64 (gF k).2.2.2]) W:=fun W=>by
         rw[XC (P:=Tryz.prog) (m:=4) Tryz.underlying240 Tryz.underlying239 rfl (by kernel_rfl) k kW,Xz k kW];rfl
        have xO:=Qh lQ;clear lQ;go_wp2_with fail
        obtain⟨qa,qb,qc,qd,hq⟩:∃qa qb qc qd,gF k=(qa,qb,qc,qd):=⟨_,_,_,_,rfl⟩;have Gw:=Xx k kW;have bT:=Qh (show rF (words s) r k (fM (words s) r k vr)=uA (fM (words s) r k vr) qa qb qc qd ((words s).getD (jL r (2*k)) 0) ((words s).getD (jL r (2*k+1)) 0) by rw[rF,hq]);rw[hq]at Gw ⊢;have Q3:=Qh Gw;clear hq Gw hpx Q0;obtain⟨Au,zC⟩:=Xy r k pO kW;have xu:=NG r (2*k) pO (by omega);have sQ:=NG r (2*k+1) pO (by omega);generalize jL r (2*k)=sx at Au xu bT;generalize jL r (2*k+1)=sy at zC sQ bT;refine wp_region_quiet_below (by kernel_rfl) (by kernel_rfl) ?_;repeat(go_big_quiet_step ((fail)))
        refine wpQuiet_nil ?_;intro w5 dD;have dm:Below (wr.alloc (.cells #[.int .i64 qa,.int .i64 qb,.int .i64 qc,.int .i64 qd] 239)).heap.size (wr.alloc (.cells #[.int .i64 qa,.int .i64 qb,.int .i64 qc,.int .i64 qd] 239)) w5:=by
         obtain⟨pq,rfl⟩:=dD;exact below_regrown _ _ _
        clear dD;have yD:=(xO.q.alloc _).pass dm;have k0:w5.cell? ⟨wr.heap.size,0,none⟩=some (.int .i64 qa):=by rw[dm.cell (by simp)];simp
        have k1:w5.cell? ⟨wr.heap.size,1,none⟩=some (.int .i64 qb):=by rw[dm.cell (by simp)];simp
        have k2:w5.cell? ⟨wr.heap.size,2,none⟩=some (.int .i64 qc):=by rw[dm.cell (by simp)];simp
        have k3:w5.cell? ⟨wr.heap.size,3,none⟩=some (.int .i64 qd):=by rw[dm.cell (by simp)];simp
        have m0:w5.cell? ⟨w.heap.size+1+1,sx,none⟩=some (.int .u32 ((words s).getD sx 0)):=(cell_of_row w5 _ sx _ _ _ yD.b2).trans (uY (by simpa[words]using xu));have m1:w5.cell? ⟨w.heap.size+1+1,sy,none⟩=some (.int .u32 ((words s).getD sy 0)):=(cell_of_row w5 _ sy _ _ _ yD.b2).trans (uY (by simpa[words]using sQ));generalize(words s).getD sx 0=mx at m0 bT;generalize(words s).getD sy 0=my at m1 bT;have Q4:=Qh yD;clear yD dm Au zC xO;go_wp2_with fail
        have k0d:({heap:=w5.heap,tape:=w5.tape,drawn:=w5.drawn+1,os:=w5.os,output:=w5.output}:World).cell? ⟨wr.heap.size,0,none⟩=some (.int .i64 qa):=k0;have NL:({heap:=w5.heap,tape:=w5.tape,drawn:=w5.drawn+1,os:=w5.os,output:=w5.output}:World).cell? ⟨wr.heap.size,1,none⟩=some (.int .i64 qb):=k1;have NM:({heap:=w5.heap,tape:=w5.tape,drawn:=w5.drawn+1,os:=w5.os,output:=w5.output}:World).cell? ⟨wr.heap.size,2,none⟩=some (.int .i64 qc):=k2;have k3d:({heap:=w5.heap,tape:=w5.tape,drawn:=w5.drawn+1,os:=w5.os,output:=w5.output}:World).cell? ⟨wr.heap.size,3,none⟩=some (.int .i64 qd):=k3;have m0d:({heap:=w5.heap,tape:=w5.tape,drawn:=w5.drawn+1,os:=w5.os,output:=w5.output}:World).cell? ⟨w.heap.size+1+1,sx,none⟩=some (.int .u32 mx):=m0;have m1d:({heap:=w5.heap,tape:=w5.tape,drawn:=w5.drawn+1,os:=w5.os,output:=w5.output}:World).cell? ⟨w.heap.size+1+1,sy,none⟩=some (.int .u32 my):=m1;have Pb:(sx:Int)<16:=by omega
        have Em:(sy:Int)<16:=by omega
        have U3:(0:Int)≤sx:=by omega
        have hi4:(0:Int)≤sy:=by omega
        go_still_tail 7,(by kernel_rfl)
        change wpList _ _ _ _ _ w5.drew;have ES:Hid (Cm w [h0,h1,h2,h3,h4,h5,h6,h7] (words s) (fM (words s) r k vr) w5.drew):=Qh Q4.q.drew;generalize w5.drew=w6 at ES;go_wp2_with fail
        have nI:=Q3.q;refine(Xu (w.heap.size+1+1+1) (fM (words s) r k vr) 235 qa qb qc qd mx my w6 ES.q.b3 (by rw[NF,U2]) nI.1 nI.2.1 nI.2.2.1 nI.2.2.2.1 nI.2.2.2.2.1 nI.2.2.2.2.2.1 nI.2.2.2.2.2.2.1 nI.2.2.2.2.2.2.2.1 nI.2.2.2.2.2.2.2.2.1 nI.2.2.2.2.2.2.2.2.2).mono ?_;rintro e w7 ⟨rfl,kI,U4⟩;have Q5:=ES.q.zB kI U4;go_wp2;go_roundw;case rel=>exact⟨k+1,by omega,by go_num,by rw[fM,bT.q];exact Q5⟩
        case measure=>simp[intOf];omega
       ·have oP:k=8:=by omega
        subst oP;go_wp2_with fail
        go_roundw;case rel=>exact⟨r+1,by omega,by go_num,by rw[gu,Kc.q];exact lQ⟩
        case measure=>simp[intOf];omega
     ·have I6:r=10:=by omega
      obtain⟨v,hv⟩:∃v,gu (words s) r v0=v:=⟨_,rfl⟩;have Hv:=Qh hv;have U5:v.length=16:=by rw[←hv,JZ,Mx]
      rw[hv]at yo;clear hv;go_wp2_with fail
      go_loopw [116] (fun ET wr=> ∃k:Nat,k≤8∧ET= .int .i64 k∧Cm w (iY [h0,h1,h2,h3,h4,h5,h6,h7] v k) (words s) v wr) (fun i _=>8-(intOf i).toNat)
      case atStart=>exact⟨0,Nat.zero_le _,rfl,yo⟩
      case round=>
       clear yo;obtain⟨k,hk,rfl,lQ⟩:=hrel;by_cases kW:k<8
       ·have ru:=Ka [h0,h1,h2,h3,h4,h5,h6,h7] v k;have a0:=(cell_of_row wr _ k _ _ _ lQ.b0).trans (uY (by rw[ru];exact kW));have a1:=(cell_of_row wr _ k _ _ _ lQ.b3).trans (uY (l:=v) (by omega));have a2:=(cell_of_row wr _ (k+8) _ _ _ lQ.b3).trans (uY (l:=v) (by omega));have a3:=frozen_of_row wr _ k _ _ lQ.b0;rw[XG _ _ _ kW]at a0;have wC:=XH [h0,h1,h2,h3,h4,h5,h6,h7] v k;generalize List.getD [h0,h1,h2,h3,h4,h5,h6,h7] k 0=x0 at a0 wC;generalize v.getD k 0=x1 at a1 wC;generalize v.getD (k+8) 0=x2 at a2 wC;have G7:=Qh wC;have xO:=Qh lQ;clear lQ ru wC;go_wp2_with fail
        go_big_region
        go_wp2;go_roundw;case rel=>exact⟨k+1,by omega,by go_num,by rw[←G7.q];exact(xO.q.set0 k _).drew⟩
        case measure=>simp[intOf];omega
       ·have ru:=Ka [h0,h1,h2,h3,h4,h5,h6,h7] v k;have jG:iY [h0,h1,h2,h3,h4,h5,h6,h7] v k=fH [h0,h1,h2,h3,h4,h5,h6,h7] s count false:=by
         rw[fH,Kb.q,←I6,Hv.q,show k=8 by omega]
        generalize iY [h0,h1,h2,h3,h4,h5,h6,h7] v k=F at lQ ru jG;have pz:=Qh jG;have BH:(Tryz.prog.info? 206).map (·.size)=some (row F).size:=by rw[fZ,ru];kernel_rfl
        have Ke:(row (List.replicate 8 0)).size=(row F).size:=by rw[fZ,fZ,ru];rfl
        have si:(row F).all (·.oneCell')=true:=by simp[row,Value.oneCell']
        have b0:=lQ.b0;have b1:=lQ.b1;have xO:=Qh lQ;clear lQ jG
        go_wp2_with (first
         |(refine wpList_load_row rfl 206 _ rfl w.heap.size rfl 206 (row F) (0,0) _ b0 Tryz.underlying206 rfl BH ?_)
         |(refine wpList_store_row rfl 206 _ _ rfl (w.heap.size+1) (row F) rfl rfl 206 (row (List.replicate 8 0)) b1 BH Ke si ?_))
        try simp only[Exit.inBlock,Exit.then]
        refine bodyPost_ret (v:= .tuple #[.agg (row F),.int .i64 0]) ?_ rfl ⟨?_,?_⟩
        ·rw[results_cell_tmp rfl];simp[asAddr,run_loadVar_row _ (w.heap.size+1) 206 206 (row F) (0,0) _ (setRow_heap _ _ _ _ _ _ b1) Tryz.underlying206 rfl BH]
        ·rw[pz.q]
        ·exact below_setRow xO.q.below (by omega) _
