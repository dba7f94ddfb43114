/- Lemmas for the claim's theorem;conditions: as each says. -/
import Derived.Test.YtdodihnehppnmaaGreatDoorG20
set_option maxHeartbeats 0
set_option maxRecDepth 100000
set_option linter.all false
namespace Go.Proofs.YtdodihnehppnmaaGreatDoor
open Go.RowKit
variable{w X:World}{B:Nat}{l:List Int}
structure Rm0 (w:World) (hs m:List Int) (X:World):Prop where
 below:Below w.heap.size w X
 size:w.heap.size+1+1<X.heap.size
 b0:X.heap[w.heap.size]?=some (.cells (row hs) 111 (0,0))
 b1:X.heap[w.heap.size+1]?=some (.cells (row (List.replicate 8 0)) 111 (0,0))
 b2:X.heap[w.heap.size+1+1]?=some (.cells (row m) 160 (0,0))
structure Rm (w:World) (BI BV:Nat) (hs m v:List Int) (X:World):Prop extends Rm0 w hs m X where
 lo:w.heap.size+1+1<BI
 mid:BI<BV
 hi:BV<X.heap.size
 bi:X.heap[BI]?=some (.cells (row eP) 111 (0,0))
 bv:X.heap[BV]?=some (.cells (row v) 160 (0,0))
section
variable {w X X':World} {BI BV:Nat} {hs m v:List Int}
theorem Rm0.start(w:World)(hs:List Int):Rm0 w hs (List.replicate 16 0) (((w.alloc (.cells (row hs) 111)).alloc (.cells (row (List.replicate 8 0)) 111)).alloc (.cells (row (List.replicate 16 0)) 160)):=by
 refine⟨(((Qb _ _).alloc (Qn _) _).alloc (by simp) _).alloc (by simp;omega) _,by simp,?_,?_,?_⟩
 ·exact(Below.heap_alloc _ _ _ (by simp;omega)).trans ((Below.heap_alloc _ _ _ (by simp)).trans (heap_alloc_new _ _))
 ·exact(Below.heap_alloc _ _ _ (by simp)).trans (Nc (by simp) _)
 ·exact Nc (by simp) _
theorem Rm0.pass(h:Rm0 w hs m X)(hb:Below X.heap.size X X'):Rm0 w hs m X':=by
 have:=h.size;exact⟨h.below.trans (hb.mono h.below.size),by have:=hb.size;omega,(hb.block _ (by omega)).trans h.b0,(hb.block _ (by omega)).trans h.b1,(hb.block _ (by omega)).trans h.b2⟩
theorem Rm0.set2(h:Rm0 w hs m X)(i:Nat)(x:Int):Rm0 w hs (m.set i x) (X.setCell ⟨w.heap.size+1+1,i,none⟩ (.int .u32 x)):=by
 have o:∀k,k≠w.heap.size+1+1→(X.setCell ⟨w.heap.size+1+1,i,none⟩ (.int .u32 x)).heap[k]?=X.heap[k]? :=fun k hk=>Below.heap_setCell _ _ _ _ hk;exact⟨h.below.setCell (by show w.heap.size≤w.heap.size+1+1;omega) _,by simpa[World.setCell]using h.size,(o _ (by omega)).trans h.b0,(o _ (by omega)).trans h.b1,heap_setCell _ h.b2⟩
theorem Rm.pass(h:Rm w BI BV hs m v X)(hb:Below X.heap.size X X'):Rm w BI BV hs m v X':=by
 have:=h.hi;have:=h.mid;exact⟨h.toRm0.pass hb,h.lo,h.mid,by have:=hb.size;omega,(hb.block _ (by omega)).trans h.bi,(hb.block _ (by omega)).trans h.bv⟩
theorem Rm.alloc(h:Rm w BI BV hs m v X)(o:Obj):Rm w BI BV hs m v (X.alloc o):=h.pass ((Qb _ _).alloc (Qn _) o)
theorem Rm.set0(h:Rm w BI BV hs m v X)(i:Nat)(x:Int):Rm w BI BV (hs.set i x) m v (X.setCell ⟨w.heap.size,i,none⟩ (.int .u32 x)):=by
 have h1:=h.lo;have h2:=h.mid;have o:∀k,k≠w.heap.size→(X.setCell ⟨w.heap.size,i,none⟩ (.int .u32 x)).heap[k]?=X.heap[k]? :=fun k hk=>Below.heap_setCell _ _ _ _ hk;exact⟨⟨h.below.setCell (Qn _) _,by simpa[World.setCell]using h.size,heap_setCell _ h.b0,(o _ (by omega)).trans h.b1,(o _ (by omega)).trans h.b2⟩,h.lo,h.mid,by simpa[World.setCell]using h.hi,(o _ (by omega)).trans h.bi,(o _ (by omega)).trans h.bv⟩
theorem Rm.zR(h:Rm w BI BV hs m v X)(i:Nat)(x:Int):Rm w BI BV hs m (v.set i x) (X.setCell ⟨BV,i,none⟩ (.int .u32 x)):=by
 have h1:=h.lo;have h2:=h.mid;have o:∀k,k≠BV→(X.setCell ⟨BV,i,none⟩ (.int .u32 x)).heap[k]?=X.heap[k]? :=fun k hk=>Below.heap_setCell _ _ _ _ hk;exact⟨⟨h.below.setCell (by show w.heap.size≤BV;omega) _,by simpa[World.setCell]using h.size,(o _ (by omega)).trans h.b0,(o _ (by omega)).trans h.b1,(o _ (by omega)).trans h.b2⟩,h.lo,h.mid,by simpa[World.setCell]using h.hi,(o _ (by omega)).trans h.bi,heap_setCell _ h.bv⟩
theorem Rm.Qk{v':List Int}(h:Rm w BI BV hs m v X):Rm w BI BV hs m v' (X.setRow BV (row v')):=by
 have h1:=h.lo;have h2:=h.mid;have o:∀k,k≠BV→(X.setRow BV (row v')).heap[k]?=X.heap[k]? :=fun k hk=>setRow_other _ _ _ _ hk;exact⟨⟨below_setRow h.below (by omega) _,by simpa using h.size,(o _ (by omega)).trans h.b0,(o _ (by omega)).trans h.b1,(o _ (by omega)).trans h.b2⟩,h.lo,h.mid,by simpa using h.hi,(o _ (by omega)).trans h.bi,setRow_heap _ _ _ _ _ _ h.bv⟩
theorem Rm.start(h:Rm0 w hs m X):Rm w X.heap.size (X.heap.size+1) hs m (List.replicate 16 0) ((X.alloc (.cells (row eP) 111)).alloc (.cells (row (List.replicate 16 0)) 160)):=by
 refine⟨h.pass (((Qb _ _).alloc (Qn _) _).alloc (by simp) _),h.size,by omega,by simp,?_,?_⟩
 ·exact(Below.heap_alloc _ _ _ (by simp)).trans (heap_alloc_new _ _)
 ·exact Nc (by simp) _
end
theorem Xe7(hs:List Int)(hh:hs.length=8)(s:ae)(vY:s.length=64)(count:Int)(last:Bool)(w:World):
 Calls Tryz.prog 140 #[.agg (row hs),S s,.int .u64 count,.bool last] w fun e w'=>e= .returned (.tuple #[.agg (row (dN hs s count last)),.int .i64 0])∧Below w.heap.size w w':=by
 obtain⟨h0,h1,h2,h3,h4,h5,h6,h7,rfl⟩:=Kb hh;rw[show row [h0,h1,h2,h3,h4,h5,h6,h7]=#[.int .u32 h0,.int .u32 h1,.int .u32 h2,.int .u32 h3,.int .u32 h4,.int .u32 h5,.int .u32 h6,.int .u32 h7]from rfl];have eU:(s.length:Int)=64:=by omega
 clear hh;have bB:=Qh (show Rm0 w [h0,h1,h2,h3,h4,h5,h6,h7] (oL s 0) _ by rw[Xss];exact Rm0.start w [h0,h1,h2,h3,h4,h5,h6,h7]);go_enter Tryz.func140,Tryz.ntmps140
 go_wp2_with fail
 go_loopw [11] (fun s11 wr=> ∃(k:Nat),k≤64∧s11= .int .i64 k∧Rm0 w [h0,h1,h2,h3,h4,h5,h6,h7] (oL s k) wr) (fun i _=>64-(intOf i).toNat)
 case atStart=>exact⟨0,Nat.zero_le _,rfl,bB.O⟩
 case round=>
  clear bB;obtain⟨k,hk,rfl,hm⟩:=hrel;by_cases hlt:k<64
  ·obtain⟨q,r,hq,hr,JL⟩:∃q r,q<16∧r<4∧k=4*q+r:=⟨k / 4,k%4,by omega,by omega,by omega⟩;have aax:(k:Int) / 4=(q:Int):=by omega
   have hqi:(q:Int)<16:=by omega
   have Hw:=Qh (show(oL s k).set q (pW s q (r+1))=oL s (k+1) by rw[JL];exact Xst s q r hq hr);have lC:=cell_of_row wr _ q _ _ _ hm.b2;rw[oI (by rw[Xn7];exact hq),show(oL s k).getD q 0=pW s q r by rw[JL];exact Xym s q r hq hr]at lC;have BU:=Qh JL;clear JL;obtain⟨a,ha⟩:∃a,pW s q r=a:=⟨_,rfl⟩;rw[ha]at lC;have Ha:=Qh ha;clear ha;have Hm:=Qh hm;clear hm;have hx0:=gG Tryz.underlying9 s (k:Int) k rfl (by omega);rcases(show r=0∨r=1∨r=2∨r=3 by omega)with rfl|rfl|rfl|rfl
   ·have Az:(k:Int)%4=0:=by have:=BU.O;omega
    go_wp2_with fail
    have g:=cell_regrown lC;refine xQ 17 (by kernel_rfl) (by kernel_rfl) ?_;simp only[List.take_succ_cons,List.take_zero,List.drop_succ_cons,List.drop_zero];repeat(go_big_quiet_step ((fail)))
    refine wpQuiet_nil ?_;intro X1 bg;have nz:Below (wr).heap.size (wr) X1:=by
     obtain⟨pq,rfl⟩:=bg;exact below_regrown _ _ _
    clear bg;have fT:=Hm.O.pass nz;have g1:=nz.cell (p:=⟨w.heap.size+1+1,q,none⟩) (show w.heap.size+1+1<_ from Hm.O.size);rw[lC]at g1;have g2:=frozen_of_row X1 _ q _ _ fT.b2;have KW:=Qh fT;clear fT nz g;go_wp2;go_roundw;case rel=>exact⟨k+1,by omega,by go_num,by rw[←Hw.O,←XT s q k BU.O (by omega),Ha.O];exact KW.O.set2 q _⟩
    case measure=>simp[intOf];omega
   ·have Az:(k:Int)%4=1:=by have:=BU.O;omega
    go_wp2_with fail
    have g:=cell_regrown lC;refine xQ 17 (by kernel_rfl) (by kernel_rfl) ?_;simp only[List.take_succ_cons,List.take_zero,List.drop_succ_cons,List.drop_zero];repeat(go_big_quiet_step ((fail)))
    refine wpQuiet_nil ?_;intro X1 bg;have nz:Below (wr).heap.size (wr) X1:=by
     obtain⟨pq,rfl⟩:=bg;exact below_regrown _ _ _
    clear bg;have fT:=Hm.O.pass nz;have g1:=nz.cell (p:=⟨w.heap.size+1+1,q,none⟩) (show w.heap.size+1+1<_ from Hm.O.size);rw[lC]at g1;have g2:=frozen_of_row X1 _ q _ _ fT.b2;have KW:=Qh fT;clear fT nz g;go_wp2;go_roundw;case rel=>exact⟨k+1,by omega,by go_num,by rw[←Hw.O,←XU s q k BU.O (by omega),Ha.O];exact KW.O.set2 q _⟩
    case measure=>simp[intOf];omega
   ·have Az:(k:Int)%4=2:=by have:=BU.O;omega
    go_wp2_with fail
    have g:=cell_regrown lC;refine xQ 17 (by kernel_rfl) (by kernel_rfl) ?_;simp only[List.take_succ_cons,List.take_zero,List.drop_succ_cons,List.drop_zero];repeat(go_big_quiet_step ((fail)))
    refine wpQuiet_nil ?_;intro X1 bg;have nz:Below (wr).heap.size (wr) X1:=by
     obtain⟨pq,rfl⟩:=bg;exact below_regrown _ _ _
    clear bg;have fT:=Hm.O.pass nz;have g1:=nz.cell (p:=⟨w.heap.size+1+1,q,none⟩) (show w.heap.size+1+1<_ from Hm.O.size);rw[lC]at g1;have g2:=frozen_of_row X1 _ q _ _ fT.b2;have KW:=Qh fT;clear fT nz g;go_wp2;go_roundw;case rel=>exact⟨k+1,by omega,by go_num,by rw[←Hw.O,←XV s q k BU.O (by omega),Ha.O];exact KW.O.set2 q _⟩
    case measure=>simp[intOf];omega
   ·have Az:(k:Int)%4=3:=by have:=BU.O;omega
    go_wp2_with fail
    have g:=cell_regrown lC;refine xQ 17 (by kernel_rfl) (by kernel_rfl) ?_;simp only[List.take_succ_cons,List.take_zero,List.drop_succ_cons,List.drop_zero];repeat(go_big_quiet_step ((fail)))
    refine wpQuiet_nil ?_;intro X1 bg;have nz:Below (wr).heap.size (wr) X1:=by
     obtain⟨pq,rfl⟩:=bg;exact below_regrown _ _ _
    clear bg;have fT:=Hm.O.pass nz;have g1:=nz.cell (p:=⟨w.heap.size+1+1,q,none⟩) (show w.heap.size+1+1<_ from Hm.O.size);rw[lC]at g1;have g2:=frozen_of_row X1 _ q _ _ fT.b2;have KW:=Qh fT;clear fT nz g;go_wp2;go_roundw;case rel=>exact⟨k+1,by omega,by go_num,by rw[←Hw.O,←XW s q k BU.O (by omega),Ha.O];exact KW.O.set2 q _⟩
    case measure=>simp[intOf];omega
  ·have nu:k=64:=by omega
   subst nu;rw[Xwa]at hm;have Hm:=Qh hm;clear hm;go_wp2_with fail
   refine(Xft _).mono ?_;rintro e w1 ⟨rfl,au⟩;have vZ:=au.size;have IA:=Qh (Hm.O.pass au);clear au Hm;rw[show row eP=#[.int .u32 1779033703,.int .u32 3144134277,.int .u32 1013904242,.int .u32 2773480762,.int .u32 1359893119,.int .u32 2600822924,.int .u32 528734635,.int .u32 1541459225]from rfl];go_wp2_with fail
   have hmX:Rm w w1.heap.size (w1.heap.size+1) [h0,h1,h2,h3,h4,h5,h6,h7] (words s) (mG [h0,h1,h2,h3,h4,h5,h6,h7] 0) ((w1.alloc (.cells (row eP) 111)).alloc (.cells (row (List.replicate 16 0)) 160)):=by
    rw[Xqy];exact Rm.start IA.O
   have F5:=Qh hmX;clear hmX IA;obtain⟨BI,hBI⟩:∃BI,w1.heap.size=BI:=⟨_,rfl⟩;rw[hBI]at F5 ⊢;have WY:=Qh F5.O.lo;clear hBI vZ;go_loopw [14] (fun XY wr=> ∃k:Nat,k≤8∧XY= .int .i64 k∧Rm w BI (BI+1) [h0,h1,h2,h3,h4,h5,h6,h7] (words s) (mG [h0,h1,h2,h3,h4,h5,h6,h7] k) wr) (fun i _=>8-(intOf i).toNat)
   case atStart=>exact⟨0,Nat.zero_le _,rfl,F5.O⟩
   case round=>
    clear F5;obtain⟨k,hk,rfl,hm⟩:=hrel;by_cases iP:k<8
    ·have c1:=(cell_of_row wr _ k _ _ _ hm.b0).trans (oI (l:=[h0,h1,h2,h3,h4,h5,h6,h7]) iP);have c2:=(cell_of_row wr _ k _ _ _ hm.bi).trans (oI (l:=eP) iP);have c3:=(cell_of_row wr _ k _ _ _ hm.bv).trans (oI (by rw[Xgr];omega));have c4:=(cell_of_row wr _ (k+8) _ _ _ hm.bv).trans (oI (by rw[Xgr];omega));have f3:=frozen_of_row wr _ k _ _ hm.bv;have f4:=frozen_of_row wr _ (k+8) _ _ hm.bv;have DF:=Qh (Xqz [h0,h1,h2,h3,h4,h5,h6,h7] k iP);have Hm:=Qh hm;clear hm;generalize List.getD [h0,h1,h2,h3,h4,h5,h6,h7] k 0=x0 at c1 DF;generalize eP.getD k 0=x1 at c2 DF;generalize List.getD (mG [h0,h1,h2,h3,h4,h5,h6,h7] k) k 0=x2 at c3;generalize List.getD (mG [h0,h1,h2,h3,h4,h5,h6,h7] k) (k+8) 0=x3 at c4;go_wp2;go_roundw;case rel=>exact⟨k+1,by omega,by go_num,by rw[←DF.O];exact(Hm.O.zR k _).zR (k+8) _⟩
     case measure=>simp[intOf];omega
    ·have nu:k=8:=by omega
     subst nu;rw[Xr9 _ rfl]at hm;have c12:wr.cell? ⟨BI+1,12,none⟩=some (.int .u32 1359893119):=(cell_of_row wr _ 12 _ _ _ hm.bv).trans rfl;have c13:wr.cell? ⟨BI+1,13,none⟩=some (.int .u32 2600822924):=(cell_of_row wr _ 13 _ _ _ hm.bv).trans rfl;have c14:wr.cell? ⟨BI+1,14,none⟩=some (.int .u32 528734635):=(cell_of_row wr _ 14 _ _ _ hm.bv).trans rfl;have f12:=frozen_of_row wr _ 12 _ _ hm.bv;have f13:=frozen_of_row wr _ 13 _ _ hm.bv;have f14:=frozen_of_row wr _ 14 _ _ hm.bv;have Hm:=Qh hm;clear hm;cases last with
     |true=>
      go_wp2_with fail
      obtain⟨v0,yU⟩:∃v0,qg [h0,h1,h2,h3,h4,h5,h6,h7] count true=v0:=⟨_,rfl⟩;have Br:=Qh yU;clear yU;have EJ:v0.length=16:=by rw[←Br.O];exact SQ _ rfl _ _
      clear c12 c13 c14 f12 f13 f14;go_loopw [15] (fun s15 wr=> ∃r:Nat,r≤10∧s15= .int .i64 r∧Rm w BI (BI+1) [h0,h1,h2,h3,h4,h5,h6,h7] (words s) (eu (words s) r v0) wr) (fun i _=>10-(intOf i).toNat)
      case atStart=>exact⟨0,Nat.zero_le _,rfl,by show Rm w BI (BI+1) _ (words s) v0 _;rw[←Br.O];exact((Hm.O.zR 12 _).zR 13 _).zR 14 _⟩
      case round=>
       clear Hm;obtain⟨r,hr,rfl,rM⟩:=hrel;by_cases jZ:r<10
       ·obtain⟨vr,zA⟩:∃vr,eu (words s) r v0=vr:=⟨_,rfl⟩;have Dn:=Qh zA;rw[zA]at rM;clear zA;have LY:vr.length=16:=by rw[←Dn.O,F3,EJ]
        have Eb:=Qh rM;clear rM;go_wp2_with fail
        refine(Xde r jZ _).mono ?_;rintro e w4 ⟨rfl,aL⟩;have Fw:=Qh (Eb.O.pass aL);clear Eb aL;have Gj:=Xe6 r jZ;have zS:=Qh (fun i hi=>Xnj r i jZ hi);generalize mZ r=P at Gj zS ⊢;go_wp2_with fail
        go_loopw [17] (fun XZ wr=> ∃k:Nat,k≤8∧XZ= .int .i64 k∧Rm w BI (BI+1) [h0,h1,h2,h3,h4,h5,h6,h7] (words s) (dZ (words s) r k vr) wr) (fun i _=>8-(intOf i).toNat)
        case atStart=>exact⟨0,Nat.zero_le _,rfl,Fw.O⟩
        case round=>
         clear Fw;obtain⟨k,hk,rfl,iL⟩:=hrel;by_cases iP:k<8
         ·have pz:=Qh iL;clear iL;go_wp2_with fail
          refine(Xfs k iP _).mono ?_;rintro e w5 ⟨rfl,aY⟩;have Bt:=Qh (pz.O.pass aY);clear pz aY;obtain⟨qa,qb,qc,qd,hq⟩:∃qa qb qc qd,iC k=(qa,qb,qc,qd):=⟨_,_,_,_,rfl⟩;have oU:=SK k iP;have fO:oZ (words s) r k (dZ (words s) r k vr)=nH (dZ (words s) r k vr) qa qb qc qd ((words s).getD (iN r (2*k)) 0) ((words s).getD (iN r (2*k+1)) 0):=by rw[oZ,hq]
          rw[hq]at oU ⊢;rw[show AJ (qa,qb,qc,qd)= .agg #[.int .i64 qa,.int .i64 qb,.int .i64 qc,.int .i64 qd]from rfl];have ik:=Qh (show Apart 16 qa qb qc qd from⟨oU.1,oU.2.1,oU.2.2.1,oU.2.2.2.1,oU.2.2.2.2.1,oU.2.2.2.2.2.1,oU.2.2.2.2.2.2.1,oU.2.2.2.2.2.2.2.1,oU.2.2.2.2.2.2.2.2.1,oU.2.2.2.2.2.2.2.2.2⟩);clear hq oU;have oD:=Iz r (2*k) jZ (by omega);have oV:=Iz r (2*k+1) jZ (by omega);obtain⟨lM,zT,zU⟩:=zS.O (2*k) (by omega);obtain⟨oP,zV,zW⟩:=zS.O (2*k+1) (by omega);have fP:=gG Tryz.underlying9 P (2*(k:Int)) (2*k) (by omega) (by omega);have eZ:=gG Tryz.underlying9 P (2*(k:Int)+1) (2*k+1) (by omega) (by omega);generalize(P.getD (2*k) 0).toNat=e1 at lM zT zU fP;generalize(P.getD (2*k+1) 0).toNat=e2 at oP zV zW eZ;generalize iN r (2*k)=sx at oD fO lM;generalize iN r (2*k+1)=sy at oV fO oP;have zJ:=Qh (show ∀W,Calls Tryz.prog 205 #[.int .u8 (e1:Int)] W fun e w'=>e= .returned (.int .i64 (sx:Int))∧Below W.heap.size W w' from fun W=>by rw[←lM];exact TW e1 zT zU W);have BX:=Qh (show ∀W,Calls Tryz.prog 205 #[.int .u8 (e2:Int)] W fun e w'=>e= .returned (.int .i64 (sy:Int))∧Below W.heap.size W w' from fun W=>by rw[←oP];exact TW e2 zV zW W);clear lM zT zU oP zV zW;have zu:(dZ (words s) r k vr).length=16:=by rw[Na,LY]
          generalize RX:dZ (words s) r k vr=vk at fO zu Bt;have X0:=Qh RX;clear RX;have m0:=(cell_of_row w5 _ sx _ _ _ Bt.O.b2).trans (oI (l:=words s) (by simpa[words]using oD));have m1:=(cell_of_row w5 _ sy _ _ _ Bt.O.b2).trans (oI (l:=words s) (by simpa[words]using oV));generalize(words s).getD sx 0=mx at m0 fO;generalize(words s).getD sy 0=my at m1 fO;have bB:=Qh fO;clear fO;go_wp2_with fail
          have zB:=Qh (Bt.O.alloc (.cells #[.int .i64 qa,.int .i64 qb,.int .i64 qc,.int .i64 qd] 164));have m0:=cell_regrown (gD (.cells #[.int .i64 qa,.int .i64 qb,.int .i64 qc,.int .i64 qd] 164) m0);have m1:=cell_regrown (gD (.cells #[.int .i64 qa,.int .i64 qb,.int .i64 qc,.int .i64 qd] 164) m1);have k0:=cell_regrown (show(w5.alloc (.cells #[.int .i64 qa,.int .i64 qb,.int .i64 qc,.int .i64 qd] 164)).cell? ⟨w5.heap.size,0,none⟩=some (.int .i64 qa) by simp);have k1:=cell_regrown (show(w5.alloc (.cells #[.int .i64 qa,.int .i64 qb,.int .i64 qc,.int .i64 qd] 164)).cell? ⟨w5.heap.size,1,none⟩=some (.int .i64 qb) by simp);have k2:=cell_regrown (show(w5.alloc (.cells #[.int .i64 qa,.int .i64 qb,.int .i64 qc,.int .i64 qd] 164)).cell? ⟨w5.heap.size,2,none⟩=some (.int .i64 qc) by simp);have k3:=cell_regrown (show(w5.alloc (.cells #[.int .i64 qa,.int .i64 qb,.int .i64 qc,.int .i64 qd] 164)).cell? ⟨w5.heap.size,3,none⟩=some (.int .i64 qd) by simp);have zQ:(Tryz.prog.info? 160).map (·.size)=some (row vk).size:=by rw[bI,zu];kernel_rfl
          have n1:(sx:Int)<16:=by omega
          have n2:(sy:Int)<16:=by omega
          refine xQ 24 (by kernel_rfl) (by kernel_rfl) ?_;simp only[List.take_succ_cons,List.take_zero,List.drop_succ_cons,List.drop_zero];refine wpQuiet_load_row rfl 160 _ rfl (BI+1) rfl 160 (row vk) (0,0) _ (Xfq zB.O.bv) Tryz.underlying160 rfl zQ ?_;simp only[Act.put,List.setIfInBounds_toArray,List.set_cons_succ,List.set_cons_zero];repeat(go_big_quiet_step (with_reducible first|exact Calls.regrown_of (zJ.O _)|exact Calls.regrown_of (BX.O _)))
          refine wpQuiet_nil ?_;intro w6 bg;have fF:Below (w5.alloc (.cells #[.int .i64 qa,.int .i64 qb,.int .i64 qc,.int .i64 qd] 164)).heap.size (w5.alloc (.cells #[.int .i64 qa,.int .i64 qb,.int .i64 qc,.int .i64 qd] 164)) w6:=by
           obtain⟨pq,rfl⟩:=bg;exact below_regrown _ _ _
          clear bg;have Ql:=Qh (zB.O.pass fF);clear zB fF m0 m1 k0 k1 k2 k3 fP eZ;go_wp2_with fail
          refine(Xmc vk zu qa qb qc qd mx my _ ik.O).mono ?_;rintro e w8 ⟨rfl,qB⟩;have Qm:=Qh (Ql.O.pass qB);clear Ql qB;have pU:(nH vk qa qb qc qd mx my).length=16:=by rw[Vy,zu]
          generalize hF:nH vk qa qb qc qd mx my=F at pU ⊢;have HF:=Qh hF;have hbv:=Qm.O.bv;have X4:(Tryz.prog.info? 160).map (·.size)=some (row F).size:=by rw[bI,pU];kernel_rfl
          have X5:(row vk).size=(row F).size:=by rw[bI,bI,zu,pU]
          have X6:(row F).all (·.oneCell')=true:=by simp[row,Value.oneCell']
          clear hF pU;go_wp2_with (refine wpList_store_row rfl 160 _ _ rfl (BI+1) (row F) rfl rfl 160 (row vk) hbv X4 X5 X6 ?_)
          go_roundw;case rel=>exact⟨k+1,by omega,by go_num,by rw[dZ,X0.O,bB.O,HF.O];exact Qm.O.Qk⟩
          case measure=>simp[intOf];omega
         ·have nu:k=8:=by omega
          subst nu;have pz:=Qh iL;clear iL;go_wp2_with fail
          go_roundw;case rel=>
           have yZ:∃r':Nat,r'≤10∧Value.int .i64 ((r:Int)+1)= .int .i64 r'∧Rm w BI (BI+1) [h0,h1,h2,h3,h4,h5,h6,h7] (words s) (eu (words s) r' v0) wr:=⟨r+1,by omega,by go_num,by rw[eu,Dn.O];exact pz.O⟩;first|exact yZ|((repeat apply Exists.intro);exact⟨yZ,rfl⟩)
          case measure=>simp[intOf];omega
       ·have Ia:r=10:=by omega
        obtain⟨v,hv⟩:∃v,eu (words s) r v0=v:=⟨_,rfl⟩;have Hv:=Qh hv;have L6:v.length=16:=by rw[←hv,F3,EJ]
        rw[hv]at rM;clear hv;have Eb:=Qh rM;clear rM;go_wp2_with fail
        go_loopw [19] (fun X7 wr=> ∃k:Nat,k≤8∧X7= .int .i64 k∧Rm w BI (BI+1) (je [h0,h1,h2,h3,h4,h5,h6,h7] v k) (words s) v wr) (fun i _=>8-(intOf i).toNat)
        case atStart=>exact⟨0,Nat.zero_le _,rfl,Eb.O⟩
        case round=>
         clear Eb;obtain⟨k,hk,rfl,iL⟩:=hrel;by_cases iP:k<8
         ·have mO:=F4 [h0,h1,h2,h3,h4,h5,h6,h7] v k;have a0:=(cell_of_row wr _ k _ _ _ iL.b0).trans (oI (by rw[mO];exact iP));have a1:=(cell_of_row wr _ k _ _ _ iL.bv).trans (oI (l:=v) (by omega));have a2:=(cell_of_row wr _ (k+8) _ _ _ iL.bv).trans (oI (l:=v) (by omega));rw[SL _ _ _ iP]at a0;have uH:=SN [h0,h1,h2,h3,h4,h5,h6,h7] v k;generalize List.getD [h0,h1,h2,h3,h4,h5,h6,h7] k 0=x0 at a0 uH;generalize v.getD k 0=x1 at a1 uH;generalize v.getD (k+8) 0=x2 at a2 uH;have Fj:=Qh uH;have pz:=Qh iL;clear iL mO uH;go_wp2_with fail
          have g0:=cell_regrown a0;have g1:=cell_regrown a1;have g2:=cell_regrown a2;refine xQ 14 (by kernel_rfl) (by kernel_rfl) ?_;simp only[List.take_succ_cons,List.take_zero,List.drop_succ_cons,List.drop_zero];repeat(go_big_quiet_step ((fail)))
          refine wpQuiet_nil ?_;intro w9 bg;have iq:Below (wr).heap.size (wr) w9:=by
           obtain⟨pq,rfl⟩:=bg;exact below_regrown _ _ _
          clear bg;have KX:=pz.O.pass iq;have a9:=iq.cell (p:=⟨w.heap.size,k,none⟩) (block_lt_of_cell a0);rw[a0]at a9;have f9:=frozen_of_row w9 _ k _ _ KX.b0;have X8:=Qh KX;clear KX iq g0 g1 g2 a0 a1 a2;go_wp2;go_roundw;case rel=>exact⟨k+1,by omega,by go_num,by rw[←Fj.O,←Xhs];exact X8.O.set0 k _⟩
          case measure=>simp[intOf];omega
         ·have mO:=F4 [h0,h1,h2,h3,h4,h5,h6,h7] v k;have iX:je [h0,h1,h2,h3,h4,h5,h6,h7] v k=dN [h0,h1,h2,h3,h4,h5,h6,h7] s count true:=by
           rw[dN,Br.O,←Ia,Hv.O,show k=8 by omega]
          generalize je [h0,h1,h2,h3,h4,h5,h6,h7] v k=F at iL mO iX;have nM:=Qh iX;have uX:(Tryz.prog.info? 111).map (·.size)=some (row F).size:=by rw[bI,mO];kernel_rfl
          have F6:(row (List.replicate 8 0)).size=(row F).size:=by rw[bI,bI,mO];rfl
          have F7:(row F).all (·.oneCell')=true:=by simp[row,Value.oneCell']
          have b0:=iL.b0;have b1:=iL.b1;have pz:=Qh iL;clear iL iX Ia
          go_wp2_with (first
           |(refine wpList_load_row rfl 111 _ rfl w.heap.size rfl 111 (row F) (0,0) _ b0 Tryz.underlying111 rfl uX ?_)
           |(refine wpList_store_row rfl 111 _ _ rfl (w.heap.size+1) (row F) rfl rfl 111 (row (List.replicate 8 0)) b1 uX F6 F7 ?_))
          try simp only[Exit.inBlock,Exit.then]
          refine bodyPost_ret (v:= .tuple #[.agg (row F),.int .i64 0]) ?_ rfl ⟨?_,?_⟩
          ·rw[results_cell_tmp rfl];simp[asAddr,run_loadVar_row _ (w.heap.size+1) 111 111 (row F) (0,0) _ (setRow_heap _ _ _ _ _ _ b1) Tryz.underlying111 rfl uX]
          ·rw[nM.O]
          ·exact below_setRow pz.O.below (by omega) _
     |false=>
      go_wp2_with fail
      obtain⟨v0,yU⟩:∃v0,qg [h0,h1,h2,h3,h4,h5,h6,h7] count false=v0:=⟨_,rfl⟩;have Br:=Qh yU;clear yU;have EJ:v0.length=16:=by rw[←Br.O];exact SQ _ rfl _ _
      clear c12 c13 c14 f12 f13 f14;go_loopw [15] (fun s15 wr=> ∃r:Nat,r≤10∧s15= .int .i64 r∧Rm w BI (BI+1) [h0,h1,h2,h3,h4,h5,h6,h7] (words s) (eu (words s) r v0) wr) (fun i _=>10-(intOf i).toNat)
      case atStart=>exact⟨0,Nat.zero_le _,rfl,by show Rm w BI (BI+1) _ (words s) v0 _;rw[←Br.O];exact(Hm.O.zR 12 _).zR 13 _⟩
      case round=>
       clear Hm;obtain⟨r,hr,rfl,rM⟩:=hrel;by_cases jZ:r<10
       ·obtain⟨vr,zA⟩:∃vr,eu (words s) r v0=vr:=⟨_,rfl⟩;have Dn:=Qh zA;rw[zA]at rM;clear zA;have LY:vr.length=16:=by rw[←Dn.O,F3,EJ]
        have Eb:=Qh rM;clear rM;go_wp2_with fail
        refine(Xde r jZ _).mono ?_;rintro e w4 ⟨rfl,aL⟩;have Fw:=Qh (Eb.O.pass aL);clear Eb aL;have Gj:=Xe6 r jZ;have zS:=Qh (fun i hi=>Xnj r i jZ hi);generalize mZ r=P at Gj zS ⊢;go_wp2_with fail
        go_loopw [17] (fun XZ wr=> ∃k:Nat,k≤8∧XZ= .int .i64 k∧Rm w BI (BI+1) [h0,h1,h2,h3,h4,h5,h6,h7] (words s) (dZ (words s) r k vr) wr) (fun i _=>8-(intOf i).toNat)
        case atStart=>exact⟨0,Nat.zero_le _,rfl,Fw.O⟩
        case round=>
         clear Fw;obtain⟨k,hk,rfl,iL⟩:=hrel;by_cases iP:k<8
         ·have pz:=Qh iL;clear iL;go_wp2_with fail
          refine(Xfs k iP _).mono ?_;rintro e w5 ⟨rfl,aY⟩;have Bt:=Qh (pz.O.pass aY);clear pz aY;obtain⟨qa,qb,qc,qd,hq⟩:∃qa qb qc qd,iC k=(qa,qb,qc,qd):=⟨_,_,_,_,rfl⟩;have oU:=SK k iP;have fO:oZ (words s) r k (dZ (words s) r k vr)=nH (dZ (words s) r k vr) qa qb qc qd ((words s).getD (iN r (2*k)) 0) ((words s).getD (iN r (2*k+1)) 0):=by rw[oZ,hq]
          rw[hq]at oU ⊢;rw[show AJ (qa,qb,qc,qd)= .agg #[.int .i64 qa,.int .i64 qb,.int .i64 qc,.int .i64 qd]from rfl];have ik:=Qh (show Apart 16 qa qb qc qd from⟨oU.1,oU.2.1,oU.2.2.1,oU.2.2.2.1,oU.2.2.2.2.1,oU.2.2.2.2.2.1,oU.2.2.2.2.2.2.1,oU.2.2.2.2.2.2.2.1,oU.2.2.2.2.2.2.2.2.1,oU.2.2.2.2.2.2.2.2.2⟩);clear hq oU;have oD:=Iz r (2*k) jZ (by omega);have oV:=Iz r (2*k+1) jZ (by omega);obtain⟨lM,zT,zU⟩:=zS.O (2*k) (by omega);obtain⟨oP,zV,zW⟩:=zS.O (2*k+1) (by omega);have fP:=gG Tryz.underlying9 P (2*(k:Int)) (2*k) (by omega) (by omega);have eZ:=gG Tryz.underlying9 P (2*(k:Int)+1) (2*k+1) (by omega) (by omega);generalize(P.getD (2*k) 0).toNat=e1 at lM zT zU fP;generalize(P.getD (2*k+1) 0).toNat=e2 at oP zV zW eZ;generalize iN r (2*k)=sx at oD fO lM;generalize iN r (2*k+1)=sy at oV fO oP;have zJ:=Qh (show ∀W,Calls Tryz.prog 205 #[.int .u8 (e1:Int)] W fun e w'=>e= .returned (.int .i64 (sx:Int))∧Below W.heap.size W w' from fun W=>by rw[←lM];exact TW e1 zT zU W);have BX:=Qh (show ∀W,Calls Tryz.prog 205 #[.int .u8 (e2:Int)] W fun e w'=>e= .returned (.int .i64 (sy:Int))∧Below W.heap.size W w' from fun W=>by rw[←oP];exact TW e2 zV zW W);clear lM zT zU oP zV zW;have zu:(dZ (words s) r k vr).length=16:=by rw[Na,LY]
          generalize RX:dZ (words s) r k vr=vk at fO zu Bt;have X0:=Qh RX;clear RX;have m0:=(cell_of_row w5 _ sx _ _ _ Bt.O.b2).trans (oI (l:=words s) (by simpa[words]using oD));have m1:=(cell_of_row w5 _ sy _ _ _ Bt.O.b2).trans (oI (l:=words s) (by simpa[words]using oV));generalize(words s).getD sx 0=mx at m0 fO;generalize(words s).getD sy 0=my at m1 fO;have bB:=Qh fO;clear fO;go_wp2_with fail
          have zB:=Qh (Bt.O.alloc (.cells #[.int .i64 qa,.int .i64 qb,.int .i64 qc,.int .i64 qd] 164));have m0:=cell_regrown (gD (.cells #[.int .i64 qa,.int .i64 qb,.int .i64 qc,.int .i64 qd] 164) m0);have m1:=cell_regrown (gD (.cells #[.int .i64 qa,.int .i64 qb,.int .i64 qc,.int .i64 qd] 164) m1);have k0:=cell_regrown (show(w5.alloc (.cells #[.int .i64 qa,.int .i64 qb,.int .i64 qc,.int .i64 qd] 164)).cell? ⟨w5.heap.size,0,none⟩=some (.int .i64 qa) by simp);have k1:=cell_regrown (show(w5.alloc (.cells #[.int .i64 qa,.int .i64 qb,.int .i64 qc,.int .i64 qd] 164)).cell? ⟨w5.heap.size,1,none⟩=some (.int .i64 qb) by simp);have k2:=cell_regrown (show(w5.alloc (.cells #[.int .i64 qa,.int .i64 qb,.int .i64 qc,.int .i64 qd] 164)).cell? ⟨w5.heap.size,2,none⟩=some (.int .i64 qc) by simp);have k3:=cell_regrown (show(w5.alloc (.cells #[.int .i64 qa,.int .i64 qb,.int .i64 qc,.int .i64 qd] 164)).cell? ⟨w5.heap.size,3,none⟩=some (.int .i64 qd) by simp);have zQ:(Tryz.prog.info? 160).map (·.size)=some (row vk).size:=by rw[bI,zu];kernel_rfl
          have n1:(sx:Int)<16:=by omega
          have n2:(sy:Int)<16:=by omega
          refine xQ 24 (by kernel_rfl) (by kernel_rfl) ?_;simp only[List.take_succ_cons,List.take_zero,List.drop_succ_cons,List.drop_zero];refine wpQuiet_load_row rfl 160 _ rfl (BI+1) rfl 160 (row vk) (0,0) _ (Xfq zB.O.bv) Tryz.underlying160 rfl zQ ?_;simp only[Act.put,List.setIfInBounds_toArray,List.set_cons_succ,List.set_cons_zero];repeat(go_big_quiet_step (with_reducible first|exact Calls.regrown_of (zJ.O _)|exact Calls.regrown_of (BX.O _)))
          refine wpQuiet_nil ?_;intro w6 bg;have fF:Below (w5.alloc (.cells #[.int .i64 qa,.int .i64 qb,.int .i64 qc,.int .i64 qd] 164)).heap.size (w5.alloc (.cells #[.int .i64 qa,.int .i64 qb,.int .i64 qc,.int .i64 qd] 164)) w6:=by
           obtain⟨pq,rfl⟩:=bg;exact below_regrown _ _ _
          clear bg;have Ql:=Qh (zB.O.pass fF);clear zB fF m0 m1 k0 k1 k2 k3 fP eZ;go_wp2_with fail
          refine(Xmc vk zu qa qb qc qd mx my _ ik.O).mono ?_;rintro e w8 ⟨rfl,qB⟩;have Qm:=Qh (Ql.O.pass qB);clear Ql qB;have pU:(nH vk qa qb qc qd mx my).length=16:=by rw[Vy,zu]
          generalize hF:nH vk qa qb qc qd mx my=F at pU ⊢;have HF:=Qh hF;have hbv:=Qm.O.bv;have X4:(Tryz.prog.info? 160).map (·.size)=some (row F).size:=by rw[bI,pU];kernel_rfl
          have X5:(row vk).size=(row F).size:=by rw[bI,bI,zu,pU]
          have X6:(row F).all (·.oneCell')=true:=by simp[row,Value.oneCell']
          clear hF pU;go_wp2_with (refine wpList_store_row rfl 160 _ _ rfl (BI+1) (row F) rfl rfl 160 (row vk) hbv X4 X5 X6 ?_)
          go_roundw;case rel=>exact⟨k+1,by omega,by go_num,by rw[dZ,X0.O,bB.O,HF.O];exact Qm.O.Qk⟩
          case measure=>simp[intOf];omega
         ·have nu:k=8:=by omega
          subst nu;have pz:=Qh iL;clear iL;go_wp2_with fail
          go_roundw;case rel=>
           have yZ:∃r':Nat,r'≤10∧Value.int .i64 ((r:Int)+1)= .int .i64 r'∧Rm w BI (BI+1) [h0,h1,h2,h3,h4,h5,h6,h7] (words s) (eu (words s) r' v0) wr:=⟨r+1,by omega,by go_num,by rw[eu,Dn.O];exact pz.O⟩;first|exact yZ|((repeat apply Exists.intro);exact⟨yZ,rfl⟩)
          case measure=>simp[intOf];omega
       ·have Ia:r=10:=by omega
        obtain⟨v,hv⟩:∃v,eu (words s) r v0=v:=⟨_,rfl⟩;have Hv:=Qh hv;have L6:v.length=16:=by rw[←hv,F3,EJ]
        rw[hv]at rM;clear hv;have Eb:=Qh rM;clear rM;go_wp2_with fail
        go_loopw [19] (fun X7 wr=> ∃k:Nat,k≤8∧X7= .int .i64 k∧Rm w BI (BI+1) (je [h0,h1,h2,h3,h4,h5,h6,h7] v k) (words s) v wr) (fun i _=>8-(intOf i).toNat)
        case atStart=>exact⟨0,Nat.zero_le _,rfl,Eb.O⟩
        case round=>
         clear Eb;obtain⟨k,hk,rfl,iL⟩:=hrel;by_cases iP:k<8
         ·have mO:=F4 [h0,h1,h2,h3,h4,h5,h6,h7] v k;have a0:=(cell_of_row wr _ k _ _ _ iL.b0).trans (oI (by rw[mO];exact iP));have a1:=(cell_of_row wr _ k _ _ _ iL.bv).trans (oI (l:=v) (by omega));have a2:=(cell_of_row wr _ (k+8) _ _ _ iL.bv).trans (oI (l:=v) (by omega));rw[SL _ _ _ iP]at a0;have uH:=SN [h0,h1,h2,h3,h4,h5,h6,h7] v k;generalize List.getD [h0,h1,h2,h3,h4,h5,h6,h7] k 0=x0 at a0 uH;generalize v.getD k 0=x1 at a1 uH;generalize v.getD (k+8) 0=x2 at a2 uH;have Fj:=Qh uH;have pz:=Qh iL;clear iL mO uH;go_wp2_with fail
          have g0:=cell_regrown a0;have g1:=cell_regrown a1;have g2:=cell_regrown a2;refine xQ 14 (by kernel_rfl) (by kernel_rfl) ?_;simp only[List.take_succ_cons,List.take_zero,List.drop_succ_cons,List.drop_zero];repeat(go_big_quiet_step ((fail)))
          refine wpQuiet_nil ?_;intro w9 bg;have iq:Below (wr).heap.size (wr) w9:=by
           obtain⟨pq,rfl⟩:=bg;exact below_regrown _ _ _
          clear bg;have KX:=pz.O.pass iq;have a9:=iq.cell (p:=⟨w.heap.size,k,none⟩) (block_lt_of_cell a0);rw[a0]at a9;have f9:=frozen_of_row w9 _ k _ _ KX.b0;have X8:=Qh KX;clear KX iq g0 g1 g2 a0 a1 a2;go_wp2;go_roundw;case rel=>exact⟨k+1,by omega,by go_num,by rw[←Fj.O,←Xhs];exact X8.O.set0 k _⟩
          case measure=>simp[intOf];omega
         ·have mO:=F4 [h0,h1,h2,h3,h4,h5,h6,h7] v k;have iX:je [h0,h1,h2,h3,h4,h5,h6,h7] v k=dN [h0,h1,h2,h3,h4,h5,h6,h7] s count false:=by
           rw[dN,Br.O,←Ia,Hv.O,show k=8 by omega]
          generalize je [h0,h1,h2,h3,h4,h5,h6,h7] v k=F at iL mO iX;have nM:=Qh iX;have uX:(Tryz.prog.info? 111).map (·.size)=some (row F).size:=by rw[bI,mO];kernel_rfl
          have F6:(row (List.replicate 8 0)).size=(row F).size:=by rw[bI,bI,mO];rfl
          have F7:(row F).all (·.oneCell')=true:=by simp[row,Value.oneCell']
          have b0:=iL.b0;have b1:=iL.b1;have pz:=Qh iL;clear iL iX Ia
          go_wp2_with (first
           |(refine wpList_load_row rfl 111 _ rfl w.heap.size rfl 111 (row F) (0,0) _ b0 Tryz.underlying111 rfl uX ?_)
           |(refine wpList_store_row rfl 111 _ _ rfl (w.heap.size+1) (row F) rfl rfl 111 (row (List.replicate 8 0)) b1 uX F6 F7 ?_))
          try simp only[Exit.inBlock,Exit.then]
          refine bodyPost_ret (v:= .tuple #[.agg (row F),.int .i64 0]) ?_ rfl ⟨?_,?_⟩
          ·rw[results_cell_tmp rfl];simp[asAddr,run_loadVar_row _ (w.heap.size+1) 111 111 (row F) (0,0) _ (setRow_heap _ _ _ _ _ _ b1) Tryz.underlying111 rfl uX]
          ·rw[nM.O]
          ·exact below_setRow pz.O.below (by omega) _
structure DM (w:World) (B:Nat) (l:List Int) (X:World):Prop where
 below:Below w.heap.size w X
 le:w.heap.size≤B
 lt:B<X.heap.size
 mW:X.heap[B]?=some (.cells (row l) 111 (0,0))
theorem DM.pass{X':World}(h:DM w B l X)(hb:Below X.heap.size X X'):DM w B l X':=
 ⟨h.below.trans (hb.mono h.below.size),h.le,Nat.lt_of_lt_of_le h.lt hb.size,(hb.block _ h.lt).trans h.mW⟩
theorem DM.set{l':List Int}(h:DM w B l X):DM w B l' (X.setRow B (row l')):=
 ⟨below_setRow h.below h.le _,h.le,by simpa using h.lt,setRow_heap _ _ _ _ _ _ h.mW⟩
def DgR(w:World)(B:Nat)(s:ae)(v4 v5:Value)(X:World):Prop:=
 (∃i:Nat,i≤kY s∧64*i≤s.length∧v4= .int .i64 (64*(i:Int))∧v5= .bool false∧DM w B (hAt s i) X)∨(v4= .int .i64 (s.length:Int)∧v5= .bool true∧DM w B (iF s) X)
def X9:Value→Nat
 | .bool true=>0
 |_=>1
theorem Xwh(G:List Int)(hG:G.length=8)(q r:Nat)(hq:q<8)(hr:r<4):(iG G 8).take (4*q+r+1)=(iG G 8).take (4*q+r)++[(ib (G.getD q 0)).getD r 0]:=by
 obtain⟨a,b,c,d,e,f,g,h,rfl⟩:=Kb hG
 rcases(show q=0∨q=1∨q=2∨q=3∨q=4∨q=5∨q=6∨q=7 by omega)with rfl|rfl|rfl|rfl|rfl|rfl|rfl|rfl<;>
  rcases(show r=0∨r=1∨r=2∨r=3 by omega)with rfl|rfl|rfl|rfl<;>rfl
theorem Xs7(G:List Int)(hG:G.length=8):(iG G 8).length=32:=by
 obtain⟨a,b,c,d,e,f,g,h,rfl⟩:=Kb hG;rfl
theorem Xgx(s:ae)(hs:s.length≤140737488355328)(w:World):
 Calls Tryz.prog 92 #[S s] w fun e w'=>e= .returned (S (bE s))∧Below w.heap.size w w':=by
 go_enter Tryz.func92,Tryz.ntmps92
 go_wp2_with fail
 refine(Xft _).mono ?_;rintro e w1 ⟨rfl,au⟩;rw[show row eP=#[.int .u32 1779033703,.int .u32 3144134277,.int .u32 1013904242,.int .u32 2773480762,.int .u32 1359893119,.int .u32 2600822924,.int .u32 528734635,.int .u32 1541459225]from rfl];go_wp2_with fail
 go_loopw [4,5] (fun s4 s5 wr=>DgR w w1.heap.size s s4 s5 wr) (fun c d _=>(s.length-(intOf c).toNat)+X9 d)
 case atStart=>exact .inl ⟨0,Nat.zero_le _,Nat.zero_le _,rfl,rfl,au.alloc au.size _,au.size,by simp,heap_alloc_new w1 (.cells (row qw) 111)⟩
 case round=>
  have Ya:=au.size;clear au;rcases hrel with⟨i,hi,RO,rfl,rfl,hm⟩|⟨rfl,rfl,hm⟩
  ·have Hm:=Qh hm;clear hm;by_cases hlt:i<kY s
   ·have xu:64*i+64<s.length:=by unfold kY at hlt;omega
    have JF:i+1≤kY s:=hlt;clear hlt hi;have uF:IntKind.i64.wrap ((s.length:Int)-64*(i:Int))=(s.length:Int)-64*(i:Int):=IntWalk.i64_in _ (by omega);have yY:IntKind.i64.wrap (64*(i:Int)+64)=64*(i:Int)+64:=IntWalk.i64_in _ (by omega);have oF:(0:Int)≤64*(i:Int):=by omega
    have Bg:(64*(i:Int)+64).toNat=64*i+64:=by omega
    have II:(64*(i:Int)).toNat=64*i:=by omega
    have hw6:64*i+64-64*i=64:=by omega
    have lM:decide (64<(s.length:Int)-64*(i:Int))=true:=by simp;omega
    have rq:=Qh (show dN (hAt s i) ((s.drop (64*i)).take 64) (64*(i:Int)+64) false=hAt s (i+1) by rw[hAt,show((64*i+64:Nat):Int)=64*(i:Int)+64 by omega]);have rO:((s.drop (64*i)).take 64).length=64:=by simp;omega
    have hc:((64*(i:Int)+64)==(s.length:Int))=false:=by rw[beq_eq_false_iff_ne];omega
    have hwu:IntKind.u64.wrap (64*(i:Int)+64)=64*(i:Int)+64:=IntWalk.u64_in _ (by omega);go_wp2_with fail
    generalize(s.drop (64*i)).take 64=blk at rq rO ⊢;have CK:=Qh rO;have Yb:64≤blk.length:=by omega
    clear rO;go_loop [7] (fun s7=>s7=S blk) (fun _=>0)
    case atStart=>rfl
    case round=>
     obtain rfl:=hrel;have aZ:=Hm.O.mW;have xB:=OY s i;generalize hAt s i=F at aZ xB rq;have uX:(Tryz.prog.info? 111).map (·.size)=some (row F).size:=by rw[bI,xB];kernel_rfl
     have Qo:=Qh xB;clear xB;go_wp2_with (refine wpList_load_row rfl 111 _ rfl w1.heap.size rfl 111 (row F) (0,0) _ aZ Tryz.underlying111 rfl uX ?_)
     refine(Xe7 F Qo.O blk CK.O (64*(i:Int)+64) false _).mono ?_;rintro e w3 ⟨rfl,bU⟩;have Kc:=Qh (Hm.O.pass bU);have gB:w3.heap[w1.heap.size]?=some (.cells (row F) 111 (0,0)):=(bU.block _ Hm.O.lt).trans aZ;rw[rq.O];have GM:=OY s (i+1);generalize hG:hAt s (i+1)=G at GM ⊢;have HG:=Qh hG;have UW:(Tryz.prog.info? 111).map (·.size)=some (row G).size:=by rw[bI,GM];kernel_rfl
     have Yc:(row F).size=(row G).size:=by rw[bI,bI,Qo.O,GM]
     have Ec:(row G).all (·.oneCell')=true:=by simp[row,Value.oneCell']
     clear bU aZ hG GM;go_wp2_with (refine wpList_store_row rfl 111 _ _ rfl w1.heap.size (row G) rfl rfl 111 (row F) gB UW Yc Ec ?_)
     simp only[Act.put];go_roundw;case rel=>exact .inl ⟨i+1,by omega,by omega,by go_num,rfl,by rw[HG.O];exact Kc.O.set⟩
     case measure=>simp[intOf,X9];omega
   ·have Og:i=kY s:=by omega
    have H8:s.length≤64*i+64:=by unfold kY at Og;omega
    obtain⟨m,hm⟩:∃m,s.length-64*i=m:=⟨_,rfl⟩;have hmi:(s.length:Int)-64*(i:Int)=(m:Int):=by omega
    have al4:m≤64:=by omega
    have wM:=Qh (show dN (hAt s i) (s.drop (64*i)++List.replicate (64-m) 0) (s.length:Int) true=iF s by rw[iF,←Og,hm]);have Ov:(s.drop (64*i)).length=m:=by simp;omega
    have qJ:(s.drop (64*i)).take m=s.drop (64*i):=List.take_of_length_le (by omega);have uF:IntKind.i64.wrap ((s.length:Int)-64*(i:Int))=(m:Int):=by rw[hmi];exact IntWalk.i64_in _ (by omega)
    have yY:IntKind.i64.wrap (64*(i:Int)+(m:Int))=(s.length:Int):=by rw[IntWalk.i64_in _ (by omega)];omega
    have oF:(0:Int)≤64*(i:Int):=by omega
    have II:(64*(i:Int)).toNat=64*i:=by omega
    have hw7:s.length-64*i=m:=hm;have hw8:64*(i:Int)≤(s.length:Int):=by omega
    have hwu:IntKind.u64.wrap (s.length:Int)=(s.length:Int):=IntWalk.u64_in _ (by omega);clear hm Og hlt hmi Ov;go_wp2_with fail
    generalize hblk:s.drop (64*i)=blk at wM ⊢;have rO:blk.length=m:=by rw[←hblk];simp;omega
    clear hblk uF yY oF II hw7 hw8;have CK:=Qh rO;have Yb:blk.length≤64:=by omega
    have hwc:((s.length:Int)==(s.length:Int))=true:=beq_self_eq_true _;clear rO;go_loop [7] (fun s7=> ∃j:Nat,j+m≤64∧s7=S (blk++List.replicate j 0)) (fun v=>match v with| .string b=>64-b.size|_=>0)
    case atStart=>exact⟨0,by omega,by simp⟩
    case round=>
     obtain⟨j,hj,rfl⟩:=hrel;have vX:(blk++List.replicate j (0:UInt8)).length=m+j:=by rw[List.length_append,List.length_replicate,CK.O]
     have Hjs:=Qh (show blk++List.replicate j (0:UInt8)++[0]=blk++List.replicate (j+1) 0 by rw[List.replicate_succ',List.append_assoc]);have Hjl:=Qh vX;generalize hx:blk++List.replicate j (0:UInt8)=x at vX Hjs Hjl ⊢;have Hx:=Qh hx;clear hx;by_cases aeF:j+m<64
     ·have Yd:x.length<64:=by omega
      clear vX;go_wp2;go_round;case rel=>exact⟨j+1,by omega,by rw[Hjs.O]⟩
      case measure=>simp[ByteArray.size];omega
     ·have Yd:64≤x.length:=by omega
      have Ye:=Qh (show x.length=64 by omega);have Yf:=Qh (show x=blk++List.replicate (64-m) 0 by rw[←Hx.O,show 64-m=j by omega]);clear vX;have aZ:=Hm.O.mW;have xB:=OY s i;generalize hAt s i=F at aZ xB wM;have uX:(Tryz.prog.info? 111).map (·.size)=some (row F).size:=by rw[bI,xB];kernel_rfl
      have Qo:=Qh xB;clear xB;go_wp2_with (refine wpList_load_row rfl 111 _ rfl w1.heap.size rfl 111 (row F) (0,0) _ aZ Tryz.underlying111 rfl uX ?_)
      refine(Xe7 F Qo.O x Ye.O (s.length:Int) true _).mono ?_;rintro e w3 ⟨rfl,bU⟩;have Kc:=Qh (Hm.O.pass bU);have gB:w3.heap[w1.heap.size]?=some (.cells (row F) 111 (0,0)):=(bU.block _ Hm.O.lt).trans aZ;have GM:(dN F x (s.length:Int) true).length=8:=Nf ..;generalize hG:dN F x (s.length:Int) true=G at GM ⊢;have HG:=Qh (show iF s=G by rw[←wM.O,←Yf.O,hG]);have UW:(Tryz.prog.info? 111).map (·.size)=some (row G).size:=by rw[bI,GM];kernel_rfl
      have Yc:(row F).size=(row G).size:=by rw[bI,bI,Qo.O,GM]
      have Ec:(row G).all (·.oneCell')=true:=by simp[row,Value.oneCell']
      clear bU aZ hG GM;go_wp2_with (refine wpList_store_row rfl 111 _ _ rfl w1.heap.size (row G) rfl rfl 111 (row F) gB UW Yc Ec ?_)
      simp only[Act.put];go_roundw;case rel=>exact .inr ⟨rfl,rfl,by rw[HG.O];exact Kc.O.set⟩
      case measure=>simp[intOf,X9]
  ·have Hm:=Qh hm;clear hm;have TY:(iF s).length=8:=Nf ..;obtain⟨G,hG⟩:∃G,iF s=G:=⟨_,rfl⟩;have HG:=Qh hG;rw[hG]at TY Hm;clear hG;go_wp2_with fail
   have qP:=Hm.O.lt;have JM:aM tB 5 (fun _=>none) wr wr.heap.size (.slice none 0 0) ((iG G 8).take 0):=aM.nil _ _ _ _ _;have Ed:=Qh JM;have Da:w.heap.size≤wr.heap.size:=Hm.O.below.size;clear JM Ya;generalize Gm:wr.heap.size=B0 at qP Ed Da;have Qp:=Qh (Nat.le_of_eq Gm.symm);clear Gm;have EG:=Xs7 G TY;generalize w1.heap.size=B at qP Hm ⊢;go_loopw [8,9] (fun s8 s9 X=> ∃k:Nat,k≤32∧s9= .int .i64 k∧aM tB 5 (fun _=>none) X B0 s8 ((iG G 8).take k)∧X.heap[B]?=some (.cells (row G) 111 (0,0))∧Below w.heap.size w X∧B0≤X.heap.size) (fun _ k _=>32-(intOf k).toNat)
   case atStart=>exact⟨0,Nat.zero_le _,rfl,Ed.O,Hm.O.mW,Hm.O.below,Qp.O⟩
   case round=>
    clear Ed Hm Qp;obtain⟨k,hk,rfl,bJ,aZ,hb,eU⟩:=hrel;have bD:=Qh bJ;by_cases hlt:k<32
    ·obtain⟨q,r,hq,hr,JL⟩:∃q r,q<8∧r<4∧k=4*q+r:=⟨k / 4,k%4,by omega,by omega,by omega⟩;have aax:(k:Int) / 4=(q:Int):=by omega
     have hqi:(q:Int)<8:=by omega
     have bB:=Qh (show(iG G 8).take (k+1)=(iG G 8).take k++[(ib (G.getD q 0)).getD r 0] by rw[JL];exact Xwh G TY q r hq hr);have c0:=(cell_of_row wr _ q _ _ _ aZ).trans (oI (l:=G) (by omega));have zu:((iG G 8).take k).length≤32:=by rw[List.length_take];omega
     have BU:=Qh JL;have mh:=Qh aZ;clear JL bJ aZ EG;generalize G.getD q 0=x0 at c0 bB;rcases(show r=0∨r=1∨r=2∨r=3 by omega)with rfl|rfl|rfl|rfl
     ·have Az:(k:Int)%4=0:=by have:=BU.O;omega
      go_wp2_with (at_builtin;refine oq (w0:=wr) OZ rfl _ _ rfl _ _ _ rfl bD.O (x0%256) [.int .u8 (x0%256)] _ rfl rfl (by omega) (by omega) eU ?_)
      intro v5 w5 gM hg5;have aY:=Below.own hb hg5 bD.O Da eU;have uP:=(hg5.block B (by omega) (fun e=>bD.O.dw qP e.symm)).trans mh.O;have hs5:=hg5.size;have fB:=Qh gM;have KY:=Qh uP;clear gM uP hg5 bD mh;go_wp2;go_roundw;case rel=>exact⟨k+1,by omega,by go_num,by rw[bB.O];exact fB.O,KY.O,aY,by omega⟩
      case measure=>simp[intOf];omega
     ·have Az:(k:Int)%4=1:=by have:=BU.O;omega
      go_wp2_with (at_builtin;refine oq (w0:=wr) OZ rfl _ _ rfl _ _ _ rfl bD.O (x0 / 256%256) [.int .u8 (x0 / 256%256)] _ rfl rfl (by omega) (by omega) eU ?_)
      intro v5 w5 gM hg5;have aY:=Below.own hb hg5 bD.O Da eU;have uP:=(hg5.block B (by omega) (fun e=>bD.O.dw qP e.symm)).trans mh.O;have hs5:=hg5.size;have fB:=Qh gM;have KY:=Qh uP;clear gM uP hg5 bD mh;go_wp2;go_roundw;case rel=>exact⟨k+1,by omega,by go_num,by rw[bB.O];exact fB.O,KY.O,aY,by omega⟩
      case measure=>simp[intOf];omega
     ·have Az:(k:Int)%4=2:=by have:=BU.O;omega
      go_wp2_with (at_builtin;refine oq (w0:=wr) OZ rfl _ _ rfl _ _ _ rfl bD.O (x0 / 65536%256) [.int .u8 (x0 / 65536%256)] _ rfl rfl (by omega) (by omega) eU ?_)
      intro v5 w5 gM hg5;have aY:=Below.own hb hg5 bD.O Da eU;have uP:=(hg5.block B (by omega) (fun e=>bD.O.dw qP e.symm)).trans mh.O;have hs5:=hg5.size;have fB:=Qh gM;have KY:=Qh uP;clear gM uP hg5 bD mh;go_wp2;go_roundw;case rel=>exact⟨k+1,by omega,by go_num,by rw[bB.O];exact fB.O,KY.O,aY,by omega⟩
      case measure=>simp[intOf];omega
     ·have Az:(k:Int)%4=3:=by have:=BU.O;omega
      go_wp2_with (at_builtin;refine oq (w0:=wr) OZ rfl _ _ rfl _ _ _ rfl bD.O (x0 / 16777216%256) [.int .u8 (x0 / 16777216%256)] _ rfl rfl (by omega) (by omega) eU ?_)
      intro v5 w5 gM hg5;have aY:=Below.own hb hg5 bD.O Da eU;have uP:=(hg5.block B (by omega) (fun e=>bD.O.dw qP e.symm)).trans mh.O;have hs5:=hg5.size;have fB:=Qh gM;have KY:=Qh uP;clear gM uP hg5 bD mh;go_wp2;go_roundw;case rel=>exact⟨k+1,by omega,by go_num,by rw[bB.O];exact fB.O,KY.O,aY,by omega⟩
      case measure=>simp[intOf];omega
    ·have nu:k=32:=by omega
     have JN:(iG G 8).take k=iG G 8:=List.take_of_length_le (by omega);have RY:(iG G 8).map (fun x=>UInt8.ofNat x.toNat)=bE s:=by rw[bE,HG.O]
     rw[JN]at bJ;have xm:0<(iG G 8).length:=by omega
     have UN:=V9 (P:=Tryz.prog) Tryz.underlying75 Tryz.underlying5 Tryz.underlying9 wr bJ xm;rw[RY]at UN;clear bJ xm nu JN RY aZ bD EG TY;go_wp2;go_ret;exact⟨rfl,hb⟩
def TZ(s:ae)(k:Nat):ae:=if k=0 then []else s
theorem X0y(s:ae):(bE s).length=32:=by
 unfold bE;rw[List.length_map];exact Xs7 _ (Nf ..)
def Qq:ae:=[116,101,120,116]
def Yg:ae:=bE Qq
def yA:ay:=⟨1,[97],[],[],4,Yg,[⟨1,0,4⟩]⟩
def yR:ay:=⟨4,[97],[],[],0,[],[]⟩
def sA:dm:=⟨1,5,[],[yA],Qq,[]⟩
def sB:dm:=⟨2,6,(eO sA).1,[yR],[],[]⟩
