/- Lemmas for the claim's theorem;conditions: as each says. -/
import Derived.Test.YtegieeommgiknaaGreatDoorU18
set_option maxHeartbeats 0
set_option maxRecDepth 100000
set_option linter.all false
namespace Go.Proofs.YtegieeommgiknaaGreatDoor
open Go.RowKit
variable{w X:World}{B:Nat}{l:List Int}
structure Rm0 (w:World) (hs m:List Int) (X:World):Prop where
 below:Below w.heap.size w X
 size:w.heap.size+1+1<X.heap.size
 b0:X.heap[w.heap.size]?=some (.cells (row hs) 162 (0,0))
 b1:X.heap[w.heap.size+1]?=some (.cells (row (List.replicate 8 0)) 162 (0,0))
 b2:X.heap[w.heap.size+1+1]?=some (.cells (row m) 190 (0,0))
structure Rm (w:World) (BI BV:Nat) (hs m v:List Int) (X:World):Prop extends Rm0 w hs m X where
 lo:w.heap.size+1+1<BI
 mid:BI<BV
 hi:BV<X.heap.size
 bi:X.heap[BI]?=some (.cells (row gL) 162 (0,0))
 bv:X.heap[BV]?=some (.cells (row v) 190 (0,0))
section
variable {w X X':World} {BI BV:Nat} {hs m v:List Int}
theorem Rm0.start(w:World)(hs:List Int):Rm0 w hs (List.replicate 16 0) (((w.alloc (.cells (row hs) 162)).alloc (.cells (row (List.replicate 8 0)) 162)).alloc (.cells (row (List.replicate 16 0)) 190)):=by
 refine⟨(((Qb _ _).alloc (Qn _) _).alloc (by simp) _).alloc (by simp;omega) _,by simp,?_,?_,?_⟩
 ·exact(Below.heap_alloc _ _ _ (by simp;omega)).trans ((Below.heap_alloc _ _ _ (by simp)).trans (heap_alloc_new _ _))
 ·exact(Below.heap_alloc _ _ _ (by simp)).trans (R5 (by simp) _)
 ·exact R5 (by simp) _
theorem Rm0.pass(h:Rm0 w hs m X)(hb:Below X.heap.size X X'):Rm0 w hs m X':=by
 have:=h.size;exact⟨h.below.trans (hb.mono h.below.size),by have:=hb.size;omega,(hb.block _ (by omega)).trans h.b0,(hb.block _ (by omega)).trans h.b1,(hb.block _ (by omega)).trans h.b2⟩
theorem Rm0.set2(h:Rm0 w hs m X)(i:Nat)(x:Int):Rm0 w hs (m.set i x) (X.setCell ⟨w.heap.size+1+1,i,none⟩ (.int .u32 x)):=by
 have o:∀k,k≠w.heap.size+1+1→(X.setCell ⟨w.heap.size+1+1,i,none⟩ (.int .u32 x)).heap[k]?=X.heap[k]? :=fun k hk=>Below.heap_setCell _ _ _ _ hk;exact⟨h.below.setCell (by show w.heap.size≤w.heap.size+1+1;omega) _,by simpa[World.setCell]using h.size,(o _ (by omega)).trans h.b0,(o _ (by omega)).trans h.b1,heap_setCell _ h.b2⟩
theorem Rm.pass(h:Rm w BI BV hs m v X)(hb:Below X.heap.size X X'):Rm w BI BV hs m v X':=by
 have:=h.hi;have:=h.mid;exact⟨h.toRm0.pass hb,h.lo,h.mid,by have:=hb.size;omega,(hb.block _ (by omega)).trans h.bi,(hb.block _ (by omega)).trans h.bv⟩
theorem Rm.alloc(h:Rm w BI BV hs m v X)(o:Obj):Rm w BI BV hs m v (X.alloc o):=h.pass ((Qb _ _).alloc (Qn _) o)
theorem Rm.set0(h:Rm w BI BV hs m v X)(i:Nat)(x:Int):Rm w BI BV (hs.set i x) m v (X.setCell ⟨w.heap.size,i,none⟩ (.int .u32 x)):=by
 have h1:=h.lo;have h2:=h.mid;have o:∀k,k≠w.heap.size→(X.setCell ⟨w.heap.size,i,none⟩ (.int .u32 x)).heap[k]?=X.heap[k]? :=fun k hk=>Below.heap_setCell _ _ _ _ hk;exact⟨⟨h.below.setCell (Qn _) _,by simpa[World.setCell]using h.size,heap_setCell _ h.b0,(o _ (by omega)).trans h.b1,(o _ (by omega)).trans h.b2⟩,h.lo,h.mid,by simpa[World.setCell]using h.hi,(o _ (by omega)).trans h.bi,(o _ (by omega)).trans h.bv⟩
theorem Rm.DD(h:Rm w BI BV hs m v X)(i:Nat)(x:Int):Rm w BI BV hs m (v.set i x) (X.setCell ⟨BV,i,none⟩ (.int .u32 x)):=by
 have h1:=h.lo;have h2:=h.mid;have o:∀k,k≠BV→(X.setCell ⟨BV,i,none⟩ (.int .u32 x)).heap[k]?=X.heap[k]? :=fun k hk=>Below.heap_setCell _ _ _ _ hk;exact⟨⟨h.below.setCell (by show w.heap.size≤BV;omega) _,by simpa[World.setCell]using h.size,(o _ (by omega)).trans h.b0,(o _ (by omega)).trans h.b1,(o _ (by omega)).trans h.b2⟩,h.lo,h.mid,by simpa[World.setCell]using h.hi,(o _ (by omega)).trans h.bi,heap_setCell _ h.bv⟩
theorem Rm.Vv{v':List Int}(h:Rm w BI BV hs m v X):Rm w BI BV hs m v' (X.setRow BV (row v')):=by
 have h1:=h.lo;have h2:=h.mid;have o:∀k,k≠BV→(X.setRow BV (row v')).heap[k]?=X.heap[k]? :=fun k hk=>setRow_other _ _ _ _ hk;exact⟨⟨below_setRow h.below (by omega) _,by simpa using h.size,(o _ (by omega)).trans h.b0,(o _ (by omega)).trans h.b1,(o _ (by omega)).trans h.b2⟩,h.lo,h.mid,by simpa using h.hi,(o _ (by omega)).trans h.bi,setRow_heap _ _ _ _ _ _ h.bv⟩
theorem Rm.start(h:Rm0 w hs m X):Rm w X.heap.size (X.heap.size+1) hs m (List.replicate 16 0) ((X.alloc (.cells (row gL) 162)).alloc (.cells (row (List.replicate 16 0)) 190)):=by
 refine⟨h.pass (((Qb _ _).alloc (Qn _) _).alloc (by simp) _),h.size,by omega,by simp,?_,?_⟩
 ·exact(Below.heap_alloc _ _ _ (by simp)).trans (heap_alloc_new _ _)
 ·exact R5 (by simp) _
end
theorem Xe8(hs:List Int)(hh:hs.length=8)(s:af)(Kv:s.length=64)(count:Int)(last:Bool)(w:World):
 Calls Tryz.prog 135 #[.agg (row hs),S s,.int .u64 count,.bool last] w fun e w'=>e= .returned (.tuple #[.agg (row (fq hs s count last)),.int .i64 0])∧Below w.heap.size w w':=by
 obtain⟨h0,h1,h2,h3,h4,h5,h6,h7,rfl⟩:=Pv hh;rw[show row [h0,h1,h2,h3,h4,h5,h6,h7]=#[.int .u32 h0,.int .u32 h1,.int .u32 h2,.int .u32 h3,.int .u32 h4,.int .u32 h5,.int .u32 h6,.int .u32 h7]from rfl];have bS:(s.length:Int)=64:=by omega
 clear hh;have bI:=Qh (show Rm0 w [h0,h1,h2,h3,h4,h5,h6,h7] (sH s 0) _ by rw[Xr0];exact Rm0.start w [h0,h1,h2,h3,h4,h5,h6,h7]);go_enter Tryz.func135,Tryz.ntmps135
 go_wp2_with fail
 go_loopw [11] (fun s11 wr=> ∃(k:Nat),k≤64∧s11= .int .i64 k∧Rm0 w [h0,h1,h2,h3,h4,h5,h6,h7] (sH s k) wr) (fun i _=>64-(intOf i).toNat)
 case atStart=>exact⟨0,Nat.zero_le _,rfl,bI.O⟩
 case round=>
  clear bI;obtain⟨k,hk,rfl,hm⟩:=hrel;by_cases hlt:k<64
  ·obtain⟨q,r,hq,hr,Oi⟩:∃q r,q<16∧r<4∧k=4*q+r:=⟨k / 4,k%4,by omega,by omega,by omega⟩;have afv:(k:Int) / 4=(q:Int):=by omega
   have hqi:(q:Int)<16:=by omega
   have Hw:=Qh (show(sH s k).set q (pW s q (r+1))=sH s (k+1) by rw[Oi];exact Xr1 s q r hq hr);have nU:=cell_of_row wr _ q _ _ _ hm.b2;rw[sF (by rw[Xnp];exact hq),show(sH s k).getD q 0=pW s q r by rw[Oi];exact Xwt s q r hq hr]at nU;have FO:=Qh Oi;clear Oi;obtain⟨a,ha⟩:∃a,pW s q r=a:=⟨_,rfl⟩;rw[ha]at nU;have Ha:=Qh ha;clear ha;have Hm:=Qh hm;clear hm;have ni:=iG Tryz.underlying9 s (k:Int) k rfl (by omega);rcases(show r=0∨r=1∨r=2∨r=3 by omega)with rfl|rfl|rfl|rfl
   ·have Ej:(k:Int)%4=0:=by have:=FO.O;omega
    go_wp2_with fail
    have g:=cell_regrown nU;refine zI 17 (by kernel_rfl) (by kernel_rfl) ?_;simp only[List.take_succ_cons,List.take_zero,List.drop_succ_cons,List.drop_zero];repeat(go_big_quiet_step ((fail)))
    refine wpQuiet_nil ?_;intro X1 bJ;have qf:Below (wr).heap.size (wr) X1:=by
     obtain⟨pq,rfl⟩:=bJ;exact below_regrown _ _ _
    clear bJ;have iD:=Hm.O.pass qf;have g1:=qf.cell (p:=⟨w.heap.size+1+1,q,none⟩) (show w.heap.size+1+1<_ from Hm.O.size);rw[nU]at g1;have g2:=frozen_of_row X1 _ q _ _ iD.b2;have PS:=Qh iD;clear iD qf g;go_wp2;go_roundw;case rel=>exact⟨k+1,by omega,by go_num,by rw[←Hw.O,←adr s q k FO.O (by omega),Ha.O];exact PS.O.set2 q _⟩
    case measure=>simp[intOf];omega
   ·have Ej:(k:Int)%4=1:=by have:=FO.O;omega
    go_wp2_with fail
    have g:=cell_regrown nU;refine zI 17 (by kernel_rfl) (by kernel_rfl) ?_;simp only[List.take_succ_cons,List.take_zero,List.drop_succ_cons,List.drop_zero];repeat(go_big_quiet_step ((fail)))
    refine wpQuiet_nil ?_;intro X1 bJ;have qf:Below (wr).heap.size (wr) X1:=by
     obtain⟨pq,rfl⟩:=bJ;exact below_regrown _ _ _
    clear bJ;have iD:=Hm.O.pass qf;have g1:=qf.cell (p:=⟨w.heap.size+1+1,q,none⟩) (show w.heap.size+1+1<_ from Hm.O.size);rw[nU]at g1;have g2:=frozen_of_row X1 _ q _ _ iD.b2;have PS:=Qh iD;clear iD qf g;go_wp2;go_roundw;case rel=>exact⟨k+1,by omega,by go_num,by rw[←Hw.O,←ads s q k FO.O (by omega),Ha.O];exact PS.O.set2 q _⟩
    case measure=>simp[intOf];omega
   ·have Ej:(k:Int)%4=2:=by have:=FO.O;omega
    go_wp2_with fail
    have g:=cell_regrown nU;refine zI 17 (by kernel_rfl) (by kernel_rfl) ?_;simp only[List.take_succ_cons,List.take_zero,List.drop_succ_cons,List.drop_zero];repeat(go_big_quiet_step ((fail)))
    refine wpQuiet_nil ?_;intro X1 bJ;have qf:Below (wr).heap.size (wr) X1:=by
     obtain⟨pq,rfl⟩:=bJ;exact below_regrown _ _ _
    clear bJ;have iD:=Hm.O.pass qf;have g1:=qf.cell (p:=⟨w.heap.size+1+1,q,none⟩) (show w.heap.size+1+1<_ from Hm.O.size);rw[nU]at g1;have g2:=frozen_of_row X1 _ q _ _ iD.b2;have PS:=Qh iD;clear iD qf g;go_wp2;go_roundw;case rel=>exact⟨k+1,by omega,by go_num,by rw[←Hw.O,←adt s q k FO.O (by omega),Ha.O];exact PS.O.set2 q _⟩
    case measure=>simp[intOf];omega
   ·have Ej:(k:Int)%4=3:=by have:=FO.O;omega
    go_wp2_with fail
    have g:=cell_regrown nU;refine zI 17 (by kernel_rfl) (by kernel_rfl) ?_;simp only[List.take_succ_cons,List.take_zero,List.drop_succ_cons,List.drop_zero];repeat(go_big_quiet_step ((fail)))
    refine wpQuiet_nil ?_;intro X1 bJ;have qf:Below (wr).heap.size (wr) X1:=by
     obtain⟨pq,rfl⟩:=bJ;exact below_regrown _ _ _
    clear bJ;have iD:=Hm.O.pass qf;have g1:=qf.cell (p:=⟨w.heap.size+1+1,q,none⟩) (show w.heap.size+1+1<_ from Hm.O.size);rw[nU]at g1;have g2:=frozen_of_row X1 _ q _ _ iD.b2;have PS:=Qh iD;clear iD qf g;go_wp2;go_roundw;case rel=>exact⟨k+1,by omega,by go_num,by rw[←Hw.O,←adu s q k FO.O (by omega),Ha.O];exact PS.O.set2 q _⟩
    case measure=>simp[intOf];omega
  ·have mJ:k=64:=by omega
   subst mJ;rw[Xud]at hm;have Hm:=Qh hm;clear hm;go_wp2_with fail
   refine(Xfw _).mono ?_;rintro e w1 ⟨rfl,aG⟩;have Fa:=aG.size;have Nw:=Qh (Hm.O.pass aG);clear aG Hm;rw[show row gL=#[.int .u32 1779033703,.int .u32 3144134277,.int .u32 1013904242,.int .u32 2773480762,.int .u32 1359893119,.int .u32 2600822924,.int .u32 528734635,.int .u32 1541459225]from rfl];go_wp2_with fail
   have hmX:Rm w w1.heap.size (w1.heap.size+1) [h0,h1,h2,h3,h4,h5,h6,h7] (words s) (o8 [h0,h1,h2,h3,h4,h5,h6,h7] 0) ((w1.alloc (.cells (row gL) 162)).alloc (.cells (row (List.replicate 16 0)) 190)):=by
    rw[Xpz];exact Rm.start Nw.O
   have Lg:=Qh hmX;clear hmX Nw;obtain⟨BI,hBI⟩:∃BI,w1.heap.size=BI:=⟨_,rfl⟩;rw[hBI]at Lg ⊢;have Hlo:=Qh Lg.O.lo;clear hBI Fa;go_loopw [14] (fun s14 wr=> ∃k:Nat,k≤8∧s14= .int .i64 k∧Rm w BI (BI+1) [h0,h1,h2,h3,h4,h5,h6,h7] (words s) (o8 [h0,h1,h2,h3,h4,h5,h6,h7] k) wr) (fun i _=>8-(intOf i).toNat)
   case atStart=>exact⟨0,Nat.zero_le _,rfl,Lg.O⟩
   case round=>
    clear Lg;obtain⟨k,hk,rfl,hm⟩:=hrel;by_cases j5:k<8
    ·have c1:=(cell_of_row wr _ k _ _ _ hm.b0).trans (sF (l:=[h0,h1,h2,h3,h4,h5,h6,h7]) j5);have c2:=(cell_of_row wr _ k _ _ _ hm.bi).trans (sF (l:=gL) j5);have c3:=(cell_of_row wr _ k _ _ _ hm.bv).trans (sF (by rw[Xgt];omega));have c4:=(cell_of_row wr _ (k+8) _ _ _ hm.bv).trans (sF (by rw[Xgt];omega));have f3:=frozen_of_row wr _ k _ _ hm.bv;have f4:=frozen_of_row wr _ (k+8) _ _ hm.bv;have ma:=Qh (Xp0 [h0,h1,h2,h3,h4,h5,h6,h7] k j5);have Hm:=Qh hm;clear hm;generalize List.getD [h0,h1,h2,h3,h4,h5,h6,h7] k 0=x0 at c1 ma;generalize gL.getD k 0=x1 at c2 ma;generalize List.getD (o8 [h0,h1,h2,h3,h4,h5,h6,h7] k) k 0=x2 at c3;generalize List.getD (o8 [h0,h1,h2,h3,h4,h5,h6,h7] k) (k+8) 0=x3 at c4;go_wp2;go_roundw;case rel=>exact⟨k+1,by omega,by go_num,by rw[←ma.O];exact(Hm.O.DD k _).DD (k+8) _⟩
     case measure=>simp[intOf];omega
    ·have mJ:k=8:=by omega
     subst mJ;rw[Xrf _ rfl]at hm;have c12:wr.cell? ⟨BI+1,12,none⟩=some (.int .u32 1359893119):=(cell_of_row wr _ 12 _ _ _ hm.bv).trans rfl;have c13:wr.cell? ⟨BI+1,13,none⟩=some (.int .u32 2600822924):=(cell_of_row wr _ 13 _ _ _ hm.bv).trans rfl;have c14:wr.cell? ⟨BI+1,14,none⟩=some (.int .u32 528734635):=(cell_of_row wr _ 14 _ _ _ hm.bv).trans rfl;have f12:=frozen_of_row wr _ 12 _ _ hm.bv;have f13:=frozen_of_row wr _ 13 _ _ hm.bv;have f14:=frozen_of_row wr _ 14 _ _ hm.bv;have Hm:=Qh hm;clear hm;cases last with
     |true=>
      go_wp2_with fail
      obtain⟨v0,Aj⟩:∃v0,uN [h0,h1,h2,h3,h4,h5,h6,h7] count true=v0:=⟨_,rfl⟩;have FJ:=Qh Aj;clear Aj;have F4:v0.length=16:=by rw[←FJ.O];exact Yz _ rfl _ _
      clear c12 c13 c14 f12 f13 f14;go_loopw [15] (fun s15 wr=> ∃r:Nat,r≤10∧s15= .int .i64 r∧Rm w BI (BI+1) [h0,h1,h2,h3,h4,h5,h6,h7] (words s) (gz (words s) r v0) wr) (fun i _=>10-(intOf i).toNat)
      case atStart=>exact⟨0,Nat.zero_le _,rfl,by show Rm w BI (BI+1) _ (words s) v0 _;rw[←FJ.O];exact((Hm.O.DD 12 _).DD 13 _).DD 14 _⟩
      case round=>
       clear Hm;obtain⟨r,hr,rfl,vP⟩:=hrel;by_cases nL:r<10
       ·obtain⟨vr,Dp⟩:∃vr,gz (words s) r v0=vr:=⟨_,rfl⟩;have IW:=Qh Dp;rw[Dp]at vP;clear Dp;have Q8:vr.length=16:=by rw[←IW.O,Le,F4]
        have Jh:=Qh vP;clear vP;go_wp2_with fail
        refine(Xdk r nL _).mono ?_;rintro e w4 ⟨rfl,aS⟩;have EH:=Qh (Jh.O.pass aS);clear Jh aS;have U3:=Xe7 r nL;have DF:=Qh (fun i hi=>Xmu r i nL hi);generalize pU r=P at U3 DF ⊢;go_wp2_with fail
        go_loopw [17] (fun s17 wr=> ∃k:Nat,k≤8∧s17= .int .i64 k∧Rm w BI (BI+1) [h0,h1,h2,h3,h4,h5,h6,h7] (words s) (gy (words s) r k vr) wr) (fun i _=>8-(intOf i).toNat)
        case atStart=>exact⟨0,Nat.zero_le _,rfl,EH.O⟩
        case round=>
         clear EH;obtain⟨k,hk,rfl,kr⟩:=hrel;by_cases j5:k<8
         ·have tO:=Qh kr;clear kr;go_wp2_with fail
          refine(Xfv k j5 _).mono ?_;rintro e w5 ⟨rfl,df⟩;have FK:=Qh (tO.O.pass df);clear tO df;obtain⟨qa,qb,qc,qd,hq⟩:∃qa qb qc qd,jE k=(qa,qb,qc,qd):=⟨_,_,_,_,rfl⟩;have sK:=Yw k j5;have jO:sQ (words s) r k (gy (words s) r k vr)=qE (gy (words s) r k vr) qa qb qc qd ((words s).getD (jV r (2*k)) 0) ((words s).getD (jV r (2*k+1)) 0):=by rw[sQ,hq]
          rw[hq]at sK ⊢;rw[show EK (qa,qb,qc,qd)= .agg #[.int .i64 qa,.int .i64 qb,.int .i64 qc,.int .i64 qd]from rfl];have iA:=Qh (show Apart 16 qa qb qc qd from⟨sK.1,sK.2.1,sK.2.2.1,sK.2.2.2.1,sK.2.2.2.2.1,sK.2.2.2.2.2.1,sK.2.2.2.2.2.2.1,sK.2.2.2.2.2.2.2.1,sK.2.2.2.2.2.2.2.2.1,sK.2.2.2.2.2.2.2.2.2⟩);clear hq sK;have uX:=Nz r (2*k) nL (by omega);have pV:=Nz r (2*k+1) nL (by omega);obtain⟨pF,DI,DJ⟩:=DF.O (2*k) (by omega);obtain⟨uS,DK,DL⟩:=DF.O (2*k+1) (by omega);have iY:=iG Tryz.underlying9 P (2*(k:Int)) (2*k) (by omega) (by omega);have mK:=iG Tryz.underlying9 P (2*(k:Int)+1) (2*k+1) (by omega) (by omega);generalize(P.getD (2*k) 0).toNat=e1 at pF DI DJ iY;generalize(P.getD (2*k+1) 0).toNat=e2 at uS DK DL mK;generalize jV r (2*k)=sx at uX jO pF;generalize jV r (2*k+1)=sy at pV jO uS;have xB:=Qh (show ∀W,Calls Tryz.prog 184 #[.int .u8 (e1:Int)] W fun e w'=>e= .returned (.int .i64 (sx:Int))∧Below W.heap.size W w' from fun W=>by rw[←pF];exact YZ e1 DI DJ W);have xR:=Qh (show ∀W,Calls Tryz.prog 184 #[.int .u8 (e2:Int)] W fun e w'=>e= .returned (.int .i64 (sy:Int))∧Below W.heap.size W w' from fun W=>by rw[←uS];exact YZ e2 DK DL W);clear pF DI DJ uS DK DL;have AO:(gy (words s) r k vr).length=16:=by rw[R4,Q8]
          generalize Gy:gy (words s) r k vr=vk at jO AO FK;have Vw:=Qh Gy;clear Gy;have m0:=(cell_of_row w5 _ sx _ _ _ FK.O.b2).trans (sF (l:=words s) (by simpa[words]using uX));have m1:=(cell_of_row w5 _ sy _ _ _ FK.O.b2).trans (sF (l:=words s) (by simpa[words]using pV));generalize(words s).getD sx 0=mx at m0 jO;generalize(words s).getD sy 0=my at m1 jO;have bI:=Qh jO;clear jO;go_wp2_with fail
          have Dr:=Qh (FK.O.alloc (.cells #[.int .i64 qa,.int .i64 qb,.int .i64 qc,.int .i64 qd] 194));have m0:=cell_regrown (kM (.cells #[.int .i64 qa,.int .i64 qb,.int .i64 qc,.int .i64 qd] 194) m0);have m1:=cell_regrown (kM (.cells #[.int .i64 qa,.int .i64 qb,.int .i64 qc,.int .i64 qd] 194) m1);have k0:=cell_regrown (show(w5.alloc (.cells #[.int .i64 qa,.int .i64 qb,.int .i64 qc,.int .i64 qd] 194)).cell? ⟨w5.heap.size,0,none⟩=some (.int .i64 qa) by simp);have k1:=cell_regrown (show(w5.alloc (.cells #[.int .i64 qa,.int .i64 qb,.int .i64 qc,.int .i64 qd] 194)).cell? ⟨w5.heap.size,1,none⟩=some (.int .i64 qb) by simp);have k2:=cell_regrown (show(w5.alloc (.cells #[.int .i64 qa,.int .i64 qb,.int .i64 qc,.int .i64 qd] 194)).cell? ⟨w5.heap.size,2,none⟩=some (.int .i64 qc) by simp);have k3:=cell_regrown (show(w5.alloc (.cells #[.int .i64 qa,.int .i64 qb,.int .i64 qc,.int .i64 qd] 194)).cell? ⟨w5.heap.size,3,none⟩=some (.int .i64 qd) by simp);have DC:(Tryz.prog.info? 190).map (·.size)=some (row vk).size:=by rw[bZ,AO];kernel_rfl
          have n1:(sx:Int)<16:=by omega
          have n2:(sy:Int)<16:=by omega
          refine zI 24 (by kernel_rfl) (by kernel_rfl) ?_;simp only[List.take_succ_cons,List.take_zero,List.drop_succ_cons,List.drop_zero];refine wpQuiet_load_row rfl 190 _ rfl (BI+1) rfl 190 (row vk) (0,0) _ (Xft Dr.O.bv) Tryz.underlying190 rfl DC ?_;simp only[Act.put,List.setIfInBounds_toArray,List.set_cons_succ,List.set_cons_zero];repeat(go_big_quiet_step (with_reducible first|exact Calls.regrown_of (xB.O _)|exact Calls.regrown_of (xR.O _)))
          refine wpQuiet_nil ?_;intro w6 bJ;have gF:Below (w5.alloc (.cells #[.int .i64 qa,.int .i64 qb,.int .i64 qc,.int .i64 qd] 194)).heap.size (w5.alloc (.cells #[.int .i64 qa,.int .i64 qb,.int .i64 qc,.int .i64 qd] 194)) w6:=by
           obtain⟨pq,rfl⟩:=bJ;exact below_regrown _ _ _
          clear bJ;have Vx:=Qh (Dr.O.pass gF);clear Dr gF m0 m1 k0 k1 k2 k3 iY mK;go_wp2_with fail
          refine(Xlu vk AO qa qb qc qd mx my _ iA.O).mono ?_;rintro e w8 ⟨rfl,mH⟩;have Gi:=Qh (Vx.O.pass mH);clear Vx mH;have ol:(qE vk qa qb qc qd mx my).length=16:=by rw[Xfc,AO]
          generalize hF:qE vk qa qb qc qd mx my=F at ol ⊢;have HF:=Qh hF;have hbv:=Gi.O.bv;have hiF:(Tryz.prog.info? 190).map (·.size)=some (row F).size:=by rw[bZ,ol];kernel_rfl
          have hzF:(row vk).size=(row F).size:=by rw[bZ,bZ,AO,ol]
          have hoF:(row F).all (·.oneCell')=true:=by simp[row,Value.oneCell']
          clear hF ol;go_wp2_with (refine wpList_store_row rfl 190 _ _ rfl (BI+1) (row F) rfl rfl 190 (row vk) hbv hiF hzF hoF ?_)
          go_roundw;case rel=>exact⟨k+1,by omega,by go_num,by rw[gy,Vw.O,bI.O,HF.O];exact Gi.O.Vv⟩
          case measure=>simp[intOf];omega
         ·have mJ:k=8:=by omega
          subst mJ;have tO:=Qh kr;clear kr;go_wp2_with fail
          go_roundw;case rel=>
           have Cj:∃r':Nat,r'≤10∧Value.int .i64 ((r:Int)+1)= .int .i64 r'∧Rm w BI (BI+1) [h0,h1,h2,h3,h4,h5,h6,h7] (words s) (gz (words s) r' v0) wr:=⟨r+1,by omega,by go_num,by rw[gz,IW.O];exact tO.O⟩;first|exact Cj|((repeat apply Exists.intro);exact⟨Cj,rfl⟩)
          case measure=>simp[intOf];omega
       ·have Fb:r=10:=by omega
        obtain⟨v,hv⟩:∃v,gz (words s) r v0=v:=⟨_,rfl⟩;have Hv:=Qh hv;have Ra:v.length=16:=by rw[←hv,Le,F4]
        rw[hv]at vP;clear hv;have Jh:=Qh vP;clear vP;go_wp2_with fail
        go_loopw [19] (fun Ou wr=> ∃k:Nat,k≤8∧Ou= .int .i64 k∧Rm w BI (BI+1) (kG [h0,h1,h2,h3,h4,h5,h6,h7] v k) (words s) v wr) (fun i _=>8-(intOf i).toNat)
        case atStart=>exact⟨0,Nat.zero_le _,rfl,Jh.O⟩
        case round=>
         clear Jh;obtain⟨k,hk,rfl,kr⟩:=hrel;by_cases j5:k<8
         ·have pI:=Lf [h0,h1,h2,h3,h4,h5,h6,h7] v k;have a0:=(cell_of_row wr _ k _ _ _ kr.b0).trans (sF (by rw[pI];exact j5));have a1:=(cell_of_row wr _ k _ _ _ kr.bv).trans (sF (l:=v) (by omega));have a2:=(cell_of_row wr _ (k+8) _ _ _ kr.bv).trans (sF (l:=v) (by omega));rw[Yx _ _ _ j5]at a0;have vQ:=Yy [h0,h1,h2,h3,h4,h5,h6,h7] v k;generalize List.getD [h0,h1,h2,h3,h4,h5,h6,h7] k 0=x0 at a0 vQ;generalize v.getD k 0=x1 at a1 vQ;generalize v.getD (k+8) 0=x2 at a2 vQ;have JY:=Qh vQ;have tO:=Qh kr;clear kr pI vQ;go_wp2_with fail
          have g0:=cell_regrown a0;have g1:=cell_regrown a1;have g2:=cell_regrown a2;refine zI 14 (by kernel_rfl) (by kernel_rfl) ?_;simp only[List.take_succ_cons,List.take_zero,List.drop_succ_cons,List.drop_zero];repeat(go_big_quiet_step ((fail)))
          refine wpQuiet_nil ?_;intro w9 bJ;have iO:Below (wr).heap.size (wr) w9:=by
           obtain⟨pq,rfl⟩:=bJ;exact below_regrown _ _ _
          clear bJ;have J8:=tO.O.pass iO;have a9:=iO.cell (p:=⟨w.heap.size,k,none⟩) (block_lt_of_cell a0);rw[a0]at a9;have f9:=frozen_of_row w9 _ k _ _ J8.b0;have PT:=Qh J8;clear J8 iO g0 g1 g2 a0 a1 a2;go_wp2;go_roundw;case rel=>exact⟨k+1,by omega,by go_num,by rw[←JY.O,←Xhj];exact PT.O.set0 k _⟩
          case measure=>simp[intOf];omega
         ·have pI:=Lf [h0,h1,h2,h3,h4,h5,h6,h7] v k;have jM:kG [h0,h1,h2,h3,h4,h5,h6,h7] v k=fq [h0,h1,h2,h3,h4,h5,h6,h7] s count true:=by
           rw[fq,FJ.O,←Fb,Hv.O,show k=8 by omega]
          generalize kG [h0,h1,h2,h3,h4,h5,h6,h7] v k=F at kr pI jM;have rA:=Qh jM;have yI:(Tryz.prog.info? 162).map (·.size)=some (row F).size:=by rw[bZ,pI];kernel_rfl
          have Gg:(row (List.replicate 8 0)).size=(row F).size:=by rw[bZ,bZ,pI];rfl
          have xL:(row F).all (·.oneCell')=true:=by simp[row,Value.oneCell']
          have b0:=kr.b0;have b1:=kr.b1;have tO:=Qh kr;clear kr jM Fb
          go_wp2_with (first
           |(refine wpList_load_row rfl 162 _ rfl w.heap.size rfl 162 (row F) (0,0) _ b0 Tryz.underlying162 rfl yI ?_)
           |(refine wpList_store_row rfl 162 _ _ rfl (w.heap.size+1) (row F) rfl rfl 162 (row (List.replicate 8 0)) b1 yI Gg xL ?_))
          try simp only[Exit.inBlock,Exit.then]
          refine bodyPost_ret (v:= .tuple #[.agg (row F),.int .i64 0]) ?_ rfl ⟨?_,?_⟩
          ·rw[results_cell_tmp rfl];simp[asAddr,run_loadVar_row _ (w.heap.size+1) 162 162 (row F) (0,0) _ (setRow_heap _ _ _ _ _ _ b1) Tryz.underlying162 rfl yI]
          ·rw[rA.O]
          ·exact below_setRow tO.O.below (by omega) _
     |false=>
      go_wp2_with fail
      obtain⟨v0,Aj⟩:∃v0,uN [h0,h1,h2,h3,h4,h5,h6,h7] count false=v0:=⟨_,rfl⟩;have FJ:=Qh Aj;clear Aj;have F4:v0.length=16:=by rw[←FJ.O];exact Yz _ rfl _ _
      clear c12 c13 c14 f12 f13 f14;go_loopw [15] (fun s15 wr=> ∃r:Nat,r≤10∧s15= .int .i64 r∧Rm w BI (BI+1) [h0,h1,h2,h3,h4,h5,h6,h7] (words s) (gz (words s) r v0) wr) (fun i _=>10-(intOf i).toNat)
      case atStart=>exact⟨0,Nat.zero_le _,rfl,by show Rm w BI (BI+1) _ (words s) v0 _;rw[←FJ.O];exact(Hm.O.DD 12 _).DD 13 _⟩
      case round=>
       clear Hm;obtain⟨r,hr,rfl,vP⟩:=hrel;by_cases nL:r<10
       ·obtain⟨vr,Dp⟩:∃vr,gz (words s) r v0=vr:=⟨_,rfl⟩;have IW:=Qh Dp;rw[Dp]at vP;clear Dp;have Q8:vr.length=16:=by rw[←IW.O,Le,F4]
        have Jh:=Qh vP;clear vP;go_wp2_with fail
        refine(Xdk r nL _).mono ?_;rintro e w4 ⟨rfl,aS⟩;have EH:=Qh (Jh.O.pass aS);clear Jh aS;have U3:=Xe7 r nL;have DF:=Qh (fun i hi=>Xmu r i nL hi);generalize pU r=P at U3 DF ⊢;go_wp2_with fail
        go_loopw [17] (fun s17 wr=> ∃k:Nat,k≤8∧s17= .int .i64 k∧Rm w BI (BI+1) [h0,h1,h2,h3,h4,h5,h6,h7] (words s) (gy (words s) r k vr) wr) (fun i _=>8-(intOf i).toNat)
        case atStart=>exact⟨0,Nat.zero_le _,rfl,EH.O⟩
        case round=>
         clear EH;obtain⟨k,hk,rfl,kr⟩:=hrel;by_cases j5:k<8
         ·have tO:=Qh kr;clear kr;go_wp2_with fail
          refine(Xfv k j5 _).mono ?_;rintro e w5 ⟨rfl,df⟩;have FK:=Qh (tO.O.pass df);clear tO df;obtain⟨qa,qb,qc,qd,hq⟩:∃qa qb qc qd,jE k=(qa,qb,qc,qd):=⟨_,_,_,_,rfl⟩;have sK:=Yw k j5;have jO:sQ (words s) r k (gy (words s) r k vr)=qE (gy (words s) r k vr) qa qb qc qd ((words s).getD (jV r (2*k)) 0) ((words s).getD (jV r (2*k+1)) 0):=by rw[sQ,hq]
          rw[hq]at sK ⊢;rw[show EK (qa,qb,qc,qd)= .agg #[.int .i64 qa,.int .i64 qb,.int .i64 qc,.int .i64 qd]from rfl];have iA:=Qh (show Apart 16 qa qb qc qd from⟨sK.1,sK.2.1,sK.2.2.1,sK.2.2.2.1,sK.2.2.2.2.1,sK.2.2.2.2.2.1,sK.2.2.2.2.2.2.1,sK.2.2.2.2.2.2.2.1,sK.2.2.2.2.2.2.2.2.1,sK.2.2.2.2.2.2.2.2.2⟩);clear hq sK;have uX:=Nz r (2*k) nL (by omega);have pV:=Nz r (2*k+1) nL (by omega);obtain⟨pF,DI,DJ⟩:=DF.O (2*k) (by omega);obtain⟨uS,DK,DL⟩:=DF.O (2*k+1) (by omega);have iY:=iG Tryz.underlying9 P (2*(k:Int)) (2*k) (by omega) (by omega);have mK:=iG Tryz.underlying9 P (2*(k:Int)+1) (2*k+1) (by omega) (by omega);generalize(P.getD (2*k) 0).toNat=e1 at pF DI DJ iY;generalize(P.getD (2*k+1) 0).toNat=e2 at uS DK DL mK;generalize jV r (2*k)=sx at uX jO pF;generalize jV r (2*k+1)=sy at pV jO uS;have xB:=Qh (show ∀W,Calls Tryz.prog 184 #[.int .u8 (e1:Int)] W fun e w'=>e= .returned (.int .i64 (sx:Int))∧Below W.heap.size W w' from fun W=>by rw[←pF];exact YZ e1 DI DJ W);have xR:=Qh (show ∀W,Calls Tryz.prog 184 #[.int .u8 (e2:Int)] W fun e w'=>e= .returned (.int .i64 (sy:Int))∧Below W.heap.size W w' from fun W=>by rw[←uS];exact YZ e2 DK DL W);clear pF DI DJ uS DK DL;have AO:(gy (words s) r k vr).length=16:=by rw[R4,Q8]
          generalize Gy:gy (words s) r k vr=vk at jO AO FK;have Vw:=Qh Gy;clear Gy;have m0:=(cell_of_row w5 _ sx _ _ _ FK.O.b2).trans (sF (l:=words s) (by simpa[words]using uX));have m1:=(cell_of_row w5 _ sy _ _ _ FK.O.b2).trans (sF (l:=words s) (by simpa[words]using pV));generalize(words s).getD sx 0=mx at m0 jO;generalize(words s).getD sy 0=my at m1 jO;have bI:=Qh jO;clear jO;go_wp2_with fail
          have Dr:=Qh (FK.O.alloc (.cells #[.int .i64 qa,.int .i64 qb,.int .i64 qc,.int .i64 qd] 194));have m0:=cell_regrown (kM (.cells #[.int .i64 qa,.int .i64 qb,.int .i64 qc,.int .i64 qd] 194) m0);have m1:=cell_regrown (kM (.cells #[.int .i64 qa,.int .i64 qb,.int .i64 qc,.int .i64 qd] 194) m1);have k0:=cell_regrown (show(w5.alloc (.cells #[.int .i64 qa,.int .i64 qb,.int .i64 qc,.int .i64 qd] 194)).cell? ⟨w5.heap.size,0,none⟩=some (.int .i64 qa) by simp);have k1:=cell_regrown (show(w5.alloc (.cells #[.int .i64 qa,.int .i64 qb,.int .i64 qc,.int .i64 qd] 194)).cell? ⟨w5.heap.size,1,none⟩=some (.int .i64 qb) by simp);have k2:=cell_regrown (show(w5.alloc (.cells #[.int .i64 qa,.int .i64 qb,.int .i64 qc,.int .i64 qd] 194)).cell? ⟨w5.heap.size,2,none⟩=some (.int .i64 qc) by simp);have k3:=cell_regrown (show(w5.alloc (.cells #[.int .i64 qa,.int .i64 qb,.int .i64 qc,.int .i64 qd] 194)).cell? ⟨w5.heap.size,3,none⟩=some (.int .i64 qd) by simp);have DC:(Tryz.prog.info? 190).map (·.size)=some (row vk).size:=by rw[bZ,AO];kernel_rfl
          have n1:(sx:Int)<16:=by omega
          have n2:(sy:Int)<16:=by omega
          refine zI 24 (by kernel_rfl) (by kernel_rfl) ?_;simp only[List.take_succ_cons,List.take_zero,List.drop_succ_cons,List.drop_zero];refine wpQuiet_load_row rfl 190 _ rfl (BI+1) rfl 190 (row vk) (0,0) _ (Xft Dr.O.bv) Tryz.underlying190 rfl DC ?_;simp only[Act.put,List.setIfInBounds_toArray,List.set_cons_succ,List.set_cons_zero];repeat(go_big_quiet_step (with_reducible first|exact Calls.regrown_of (xB.O _)|exact Calls.regrown_of (xR.O _)))
          refine wpQuiet_nil ?_;intro w6 bJ;have gF:Below (w5.alloc (.cells #[.int .i64 qa,.int .i64 qb,.int .i64 qc,.int .i64 qd] 194)).heap.size (w5.alloc (.cells #[.int .i64 qa,.int .i64 qb,.int .i64 qc,.int .i64 qd] 194)) w6:=by
           obtain⟨pq,rfl⟩:=bJ;exact below_regrown _ _ _
          clear bJ;have Vx:=Qh (Dr.O.pass gF);clear Dr gF m0 m1 k0 k1 k2 k3 iY mK;go_wp2_with fail
          refine(Xlu vk AO qa qb qc qd mx my _ iA.O).mono ?_;rintro e w8 ⟨rfl,mH⟩;have Gi:=Qh (Vx.O.pass mH);clear Vx mH;have ol:(qE vk qa qb qc qd mx my).length=16:=by rw[Xfc,AO]
          generalize hF:qE vk qa qb qc qd mx my=F at ol ⊢;have HF:=Qh hF;have hbv:=Gi.O.bv;have hiF:(Tryz.prog.info? 190).map (·.size)=some (row F).size:=by rw[bZ,ol];kernel_rfl
          have hzF:(row vk).size=(row F).size:=by rw[bZ,bZ,AO,ol]
          have hoF:(row F).all (·.oneCell')=true:=by simp[row,Value.oneCell']
          clear hF ol;go_wp2_with (refine wpList_store_row rfl 190 _ _ rfl (BI+1) (row F) rfl rfl 190 (row vk) hbv hiF hzF hoF ?_)
          go_roundw;case rel=>exact⟨k+1,by omega,by go_num,by rw[gy,Vw.O,bI.O,HF.O];exact Gi.O.Vv⟩
          case measure=>simp[intOf];omega
         ·have mJ:k=8:=by omega
          subst mJ;have tO:=Qh kr;clear kr;go_wp2_with fail
          go_roundw;case rel=>
           have Cj:∃r':Nat,r'≤10∧Value.int .i64 ((r:Int)+1)= .int .i64 r'∧Rm w BI (BI+1) [h0,h1,h2,h3,h4,h5,h6,h7] (words s) (gz (words s) r' v0) wr:=⟨r+1,by omega,by go_num,by rw[gz,IW.O];exact tO.O⟩;first|exact Cj|((repeat apply Exists.intro);exact⟨Cj,rfl⟩)
          case measure=>simp[intOf];omega
       ·have Fb:r=10:=by omega
        obtain⟨v,hv⟩:∃v,gz (words s) r v0=v:=⟨_,rfl⟩;have Hv:=Qh hv;have Ra:v.length=16:=by rw[←hv,Le,F4]
        rw[hv]at vP;clear hv;have Jh:=Qh vP;clear vP;go_wp2_with fail
        go_loopw [19] (fun Ou wr=> ∃k:Nat,k≤8∧Ou= .int .i64 k∧Rm w BI (BI+1) (kG [h0,h1,h2,h3,h4,h5,h6,h7] v k) (words s) v wr) (fun i _=>8-(intOf i).toNat)
        case atStart=>exact⟨0,Nat.zero_le _,rfl,Jh.O⟩
        case round=>
         clear Jh;obtain⟨k,hk,rfl,kr⟩:=hrel;by_cases j5:k<8
         ·have pI:=Lf [h0,h1,h2,h3,h4,h5,h6,h7] v k;have a0:=(cell_of_row wr _ k _ _ _ kr.b0).trans (sF (by rw[pI];exact j5));have a1:=(cell_of_row wr _ k _ _ _ kr.bv).trans (sF (l:=v) (by omega));have a2:=(cell_of_row wr _ (k+8) _ _ _ kr.bv).trans (sF (l:=v) (by omega));rw[Yx _ _ _ j5]at a0;have vQ:=Yy [h0,h1,h2,h3,h4,h5,h6,h7] v k;generalize List.getD [h0,h1,h2,h3,h4,h5,h6,h7] k 0=x0 at a0 vQ;generalize v.getD k 0=x1 at a1 vQ;generalize v.getD (k+8) 0=x2 at a2 vQ;have JY:=Qh vQ;have tO:=Qh kr;clear kr pI vQ;go_wp2_with fail
          have g0:=cell_regrown a0;have g1:=cell_regrown a1;have g2:=cell_regrown a2;refine zI 14 (by kernel_rfl) (by kernel_rfl) ?_;simp only[List.take_succ_cons,List.take_zero,List.drop_succ_cons,List.drop_zero];repeat(go_big_quiet_step ((fail)))
          refine wpQuiet_nil ?_;intro w9 bJ;have iO:Below (wr).heap.size (wr) w9:=by
           obtain⟨pq,rfl⟩:=bJ;exact below_regrown _ _ _
          clear bJ;have J8:=tO.O.pass iO;have a9:=iO.cell (p:=⟨w.heap.size,k,none⟩) (block_lt_of_cell a0);rw[a0]at a9;have f9:=frozen_of_row w9 _ k _ _ J8.b0;have PT:=Qh J8;clear J8 iO g0 g1 g2 a0 a1 a2;go_wp2;go_roundw;case rel=>exact⟨k+1,by omega,by go_num,by rw[←JY.O,←Xhj];exact PT.O.set0 k _⟩
          case measure=>simp[intOf];omega
         ·have pI:=Lf [h0,h1,h2,h3,h4,h5,h6,h7] v k;have jM:kG [h0,h1,h2,h3,h4,h5,h6,h7] v k=fq [h0,h1,h2,h3,h4,h5,h6,h7] s count false:=by
           rw[fq,FJ.O,←Fb,Hv.O,show k=8 by omega]
          generalize kG [h0,h1,h2,h3,h4,h5,h6,h7] v k=F at kr pI jM;have rA:=Qh jM;have yI:(Tryz.prog.info? 162).map (·.size)=some (row F).size:=by rw[bZ,pI];kernel_rfl
          have Gg:(row (List.replicate 8 0)).size=(row F).size:=by rw[bZ,bZ,pI];rfl
          have xL:(row F).all (·.oneCell')=true:=by simp[row,Value.oneCell']
          have b0:=kr.b0;have b1:=kr.b1;have tO:=Qh kr;clear kr jM Fb
          go_wp2_with (first
           |(refine wpList_load_row rfl 162 _ rfl w.heap.size rfl 162 (row F) (0,0) _ b0 Tryz.underlying162 rfl yI ?_)
           |(refine wpList_store_row rfl 162 _ _ rfl (w.heap.size+1) (row F) rfl rfl 162 (row (List.replicate 8 0)) b1 yI Gg xL ?_))
          try simp only[Exit.inBlock,Exit.then]
          refine bodyPost_ret (v:= .tuple #[.agg (row F),.int .i64 0]) ?_ rfl ⟨?_,?_⟩
          ·rw[results_cell_tmp rfl];simp[asAddr,run_loadVar_row _ (w.heap.size+1) 162 162 (row F) (0,0) _ (setRow_heap _ _ _ _ _ _ b1) Tryz.underlying162 rfl yI]
          ·rw[rA.O]
          ·exact below_setRow tO.O.below (by omega) _
structure DM (w:World) (B:Nat) (l:List Int) (X:World):Prop where
 below:Below w.heap.size w X
 le:w.heap.size≤B
 lt:B<X.heap.size
 pQ:X.heap[B]?=some (.cells (row l) 162 (0,0))
theorem DM.pass{X':World}(h:DM w B l X)(hb:Below X.heap.size X X'):DM w B l X':=
 ⟨h.below.trans (hb.mono h.below.size),h.le,Nat.lt_of_lt_of_le h.lt hb.size,(hb.block _ h.lt).trans h.pQ⟩
theorem DM.set{l':List Int}(h:DM w B l X):DM w B l' (X.setRow B (row l')):=
 ⟨below_setRow h.below h.le _,h.le,by simpa using h.lt,setRow_heap _ _ _ _ _ _ h.pQ⟩
def DgR(w:World)(B:Nat)(s:af)(v4 v5:Value)(X:World):Prop:=
 (∃i:Nat,i≤nM s∧64*i≤s.length∧v4= .int .i64 (64*(i:Int))∧v5= .bool false∧DM w B (hAt s i) X)∨(v4= .int .i64 (s.length:Int)∧v5= .bool true∧DM w B (jH s) X)
def bOf:Value→Nat
 | .bool true=>0
 |_=>1
theorem Xuj(G:List Int)(hG:G.length=8)(q r:Nat)(hq:q<8)(hr:r<4):(jI G 8).take (4*q+r+1)=(jI G 8).take (4*q+r)++[(jk (G.getD q 0)).getD r 0]:=by
 obtain⟨a,b,c,d,e,f,g,h,rfl⟩:=Pv hG
 rcases(show q=0∨q=1∨q=2∨q=3∨q=4∨q=5∨q=6∨q=7 by omega)with rfl|rfl|rfl|rfl|rfl|rfl|rfl|rfl<;>
  rcases(show r=0∨r=1∨r=2∨r=3 by omega)with rfl|rfl|rfl|rfl<;>rfl
theorem Xsf(G:List Int)(hG:G.length=8):(jI G 8).length=32:=by
 obtain⟨a,b,c,d,e,f,g,h,rfl⟩:=Pv hG;rfl
theorem Xlv(s:af)(hs:s.length≤140737488355328)(w:World):
 Calls Tryz.prog 80 #[S s] w fun e w'=>e= .returned (S (dW s))∧Below w.heap.size w w':=by
 go_enter Tryz.func80,Tryz.ntmps80
 go_wp2_with fail
 refine(Xfw _).mono ?_;rintro e w1 ⟨rfl,aG⟩;rw[show row gL=#[.int .u32 1779033703,.int .u32 3144134277,.int .u32 1013904242,.int .u32 2773480762,.int .u32 1359893119,.int .u32 2600822924,.int .u32 528734635,.int .u32 1541459225]from rfl];go_wp2_with fail
 go_loopw [4,5] (fun s4 s5 wr=>DgR w w1.heap.size s s4 s5 wr) (fun c d _=>(s.length-(intOf c).toNat)+bOf d)
 case atStart=>exact .inl ⟨0,Nat.zero_le _,Nat.zero_le _,rfl,rfl,aG.alloc aG.size _,aG.size,by simp,heap_alloc_new w1 (.cells (row uO) 162)⟩
 case round=>
  have adA:=aG.size;clear aG;rcases hrel with⟨i,hi,Od,rfl,rfl,hm⟩|⟨rfl,rfl,hm⟩
  ·have Hm:=Qh hm;clear hm;by_cases hlt:i<nM s
   ·have Gx:64*i+64<s.length:=by unfold nM at hlt;omega
    have WU:i+1≤nM s:=hlt;clear hlt hi;have AJ:IntKind.i64.wrap ((s.length:Int)-64*(i:Int))=(s.length:Int)-64*(i:Int):=IntWalk.i64_in _ (by omega);have Kj:IntKind.i64.wrap (64*(i:Int)+64)=64*(i:Int)+64:=IntWalk.i64_in _ (by omega);have uW:(0:Int)≤64*(i:Int):=by omega
    have Ob:(64*(i:Int)+64).toNat=64*i+64:=by omega
    have JO:(64*(i:Int)).toNat=64*i:=by omega
    have hw6:64*i+64-64*i=64:=by omega
    have pF:decide (64<(s.length:Int)-64*(i:Int))=true:=by simp;omega
    have Dk:=Qh (show fq (hAt s i) ((s.drop (64*i)).take 64) (64*(i:Int)+64) false=hAt s (i+1) by rw[hAt,show((64*i+64:Nat):Int)=64*(i:Int)+64 by omega]);have qW:((s.drop (64*i)).take 64).length=64:=by simp;omega
    have hc:((64*(i:Int)+64)==(s.length:Int))=false:=by rw[beq_eq_false_iff_ne];omega
    have hwu:IntKind.u64.wrap (64*(i:Int)+64)=64*(i:Int)+64:=IntWalk.u64_in _ (by omega);go_wp2_with fail
    generalize(s.drop (64*i)).take 64=blk at Dk qW ⊢;have Li:=Qh qW;have adB:64≤blk.length:=by omega
    clear qW;go_loop [7] (fun s7=>s7=S blk) (fun _=>0)
    case atStart=>rfl
    case round=>
     obtain rfl:=hrel;have aK:=Hm.O.pQ;have Dt:=UZ s i;generalize hAt s i=F at aK Dt Dk;have yI:(Tryz.prog.info? 162).map (·.size)=some (row F).size:=by rw[bZ,Dt];kernel_rfl
     have Vy:=Qh Dt;clear Dt;go_wp2_with (refine wpList_load_row rfl 162 _ rfl w1.heap.size rfl 162 (row F) (0,0) _ aK Tryz.underlying162 rfl yI ?_)
     refine(Xe8 F Vy.O blk Li.O (64*(i:Int)+64) false _).mono ?_;rintro e w3 ⟨rfl,dO⟩;have Pw:=Qh (Hm.O.pass dO);have jK:w3.heap[w1.heap.size]?=some (.cells (row F) 162 (0,0)):=(dO.block _ Hm.O.lt).trans aK;rw[Dk.O];have l7:=UZ s (i+1);generalize hG:hAt s (i+1)=G at l7 ⊢;have HG:=Qh hG;have hi9:(Tryz.prog.info? 162).map (·.size)=some (row G).size:=by rw[bZ,l7];kernel_rfl
     have hz9:(row F).size=(row G).size:=by rw[bZ,bZ,Vy.O,l7]
     have kV:(row G).all (·.oneCell')=true:=by simp[row,Value.oneCell']
     clear dO aK hG l7;go_wp2_with (refine wpList_store_row rfl 162 _ _ rfl w1.heap.size (row G) rfl rfl 162 (row F) jK hi9 hz9 kV ?_)
     simp only[Act.put];go_roundw;case rel=>exact .inl ⟨i+1,by omega,by omega,by go_num,rfl,by rw[HG.O];exact Pw.O.set⟩
     case measure=>simp[intOf,bOf];omega
   ·have Oe:i=nM s:=by omega
    have ul:s.length≤64*i+64:=by unfold nM at Oe;omega
    obtain⟨m,hm⟩:∃m,s.length-64*i=m:=⟨_,rfl⟩;have hmi:(s.length:Int)-64*(i:Int)=(m:Int):=by omega
    have aqo:m≤64:=by omega
    have tQ:=Qh (show fq (hAt s i) (s.drop (64*i)++List.replicate (64-m) 0) (s.length:Int) true=jH s by rw[jH,←Oe,hm]);have hdr:(s.drop (64*i)).length=m:=by simp;omega
    have pE:(s.drop (64*i)).take m=s.drop (64*i):=List.take_of_length_le (by omega);have AJ:IntKind.i64.wrap ((s.length:Int)-64*(i:Int))=(m:Int):=by rw[hmi];exact IntWalk.i64_in _ (by omega)
    have Kj:IntKind.i64.wrap (64*(i:Int)+(m:Int))=(s.length:Int):=by rw[IntWalk.i64_in _ (by omega)];omega
    have uW:(0:Int)≤64*(i:Int):=by omega
    have JO:(64*(i:Int)).toNat=64*i:=by omega
    have hw7:s.length-64*i=m:=hm;have hw8:64*(i:Int)≤(s.length:Int):=by omega
    have hwu:IntKind.u64.wrap (s.length:Int)=(s.length:Int):=IntWalk.u64_in _ (by omega);clear hm Oe hlt hmi hdr;go_wp2_with fail
    generalize Xb:s.drop (64*i)=blk at tQ ⊢;have qW:blk.length=m:=by rw[←Xb];simp;omega
    clear Xb AJ Kj uW JO hw7 hw8;have Li:=Qh qW;have adB:blk.length≤64:=by omega
    have hwc:((s.length:Int)==(s.length:Int))=true:=beq_self_eq_true _;clear qW;go_loop [7] (fun s7=> ∃j:Nat,j+m≤64∧s7=S (blk++List.replicate j 0)) (fun v=>match v with| .string b=>64-b.size|_=>0)
    case atStart=>exact⟨0,by omega,by simp⟩
    case round=>
     obtain⟨j,hj,rfl⟩:=hrel;have zw:(blk++List.replicate j (0:UInt8)).length=m+j:=by rw[List.length_append,List.length_replicate,Li.O]
     have Hjs:=Qh (show blk++List.replicate j (0:UInt8)++[0]=blk++List.replicate (j+1) 0 by rw[List.replicate_succ',List.append_assoc]);have Hjl:=Qh zw;generalize hx:blk++List.replicate j (0:UInt8)=x at zw Hjs Hjl ⊢;have Hx:=Qh hx;clear hx;by_cases ajp:j+m<64
     ·have adD:x.length<64:=by omega
      clear zw;go_wp2;go_round;case rel=>exact⟨j+1,by omega,by rw[Hjs.O]⟩
      case measure=>simp[ByteArray.size];omega
     ·have adD:64≤x.length:=by omega
      have adE:=Qh (show x.length=64 by omega);have Hxe:=Qh (show x=blk++List.replicate (64-m) 0 by rw[←Hx.O,show 64-m=j by omega]);clear zw;have aK:=Hm.O.pQ;have Dt:=UZ s i;generalize hAt s i=F at aK Dt tQ;have yI:(Tryz.prog.info? 162).map (·.size)=some (row F).size:=by rw[bZ,Dt];kernel_rfl
      have Vy:=Qh Dt;clear Dt;go_wp2_with (refine wpList_load_row rfl 162 _ rfl w1.heap.size rfl 162 (row F) (0,0) _ aK Tryz.underlying162 rfl yI ?_)
      refine(Xe8 F Vy.O x adE.O (s.length:Int) true _).mono ?_;rintro e w3 ⟨rfl,dO⟩;have Pw:=Qh (Hm.O.pass dO);have jK:w3.heap[w1.heap.size]?=some (.cells (row F) 162 (0,0)):=(dO.block _ Hm.O.lt).trans aK;have l7:(fq F x (s.length:Int) true).length=8:=Oz ..;generalize hG:fq F x (s.length:Int) true=G at l7 ⊢;have HG:=Qh (show jH s=G by rw[←tQ.O,←Hxe.O,hG]);have hi9:(Tryz.prog.info? 162).map (·.size)=some (row G).size:=by rw[bZ,l7];kernel_rfl
      have hz9:(row F).size=(row G).size:=by rw[bZ,bZ,Vy.O,l7]
      have kV:(row G).all (·.oneCell')=true:=by simp[row,Value.oneCell']
      clear dO aK hG l7;go_wp2_with (refine wpList_store_row rfl 162 _ _ rfl w1.heap.size (row G) rfl rfl 162 (row F) jK hi9 hz9 kV ?_)
      simp only[Act.put];go_roundw;case rel=>exact .inr ⟨rfl,rfl,by rw[HG.O];exact Pw.O.set⟩
      case measure=>simp[intOf,bOf]
  ·have Hm:=Qh hm;clear hm;have Y0:(jH s).length=8:=Oz ..;obtain⟨G,hG⟩:∃G,jH s=G:=⟨_,rfl⟩;have HG:=Qh hG;rw[hG]at Y0 Hm;clear hG;go_wp2_with fail
   have wP:=Hm.O.lt;have Oj:aQ tB 5 (fun _=>none) wr wr.heap.size (.slice none 0 0) ((jI G 8).take 0):=aQ.nil _ _ _ _ _;have Ji:=Qh Oj;have Eg:w.heap.size≤wr.heap.size:=Hm.O.below.size;clear Oj adA;generalize Lm:wr.heap.size=B0 at wP Ji Eg;have Vz:=Qh (Nat.le_of_eq Lm.symm);clear Lm;have Gt:=Xsf G Y0;generalize w1.heap.size=B at wP Hm ⊢;go_loopw [8,9] (fun s8 s9 X=> ∃k:Nat,k≤32∧s9= .int .i64 k∧aQ tB 5 (fun _=>none) X B0 s8 ((jI G 8).take k)∧X.heap[B]?=some (.cells (row G) 162 (0,0))∧Below w.heap.size w X∧B0≤X.heap.size) (fun _ k _=>32-(intOf k).toNat)
   case atStart=>exact⟨0,Nat.zero_le _,rfl,Ji.O,Hm.O.pQ,Hm.O.below,Vz.O⟩
   case round=>
    clear Ji Hm Vz;obtain⟨k,hk,rfl,bU,aK,hb,bS⟩:=hrel;have di:=Qh bU;by_cases hlt:k<32
    ·obtain⟨q,r,hq,hr,Oi⟩:∃q r,q<8∧r<4∧k=4*q+r:=⟨k / 4,k%4,by omega,by omega,by omega⟩;have afv:(k:Int) / 4=(q:Int):=by omega
     have hqi:(q:Int)<8:=by omega
     have bI:=Qh (show(jI G 8).take (k+1)=(jI G 8).take k++[(jk (G.getD q 0)).getD r 0] by rw[Oi];exact Xuj G Y0 q r hq hr);have c0:=(cell_of_row wr _ q _ _ _ aK).trans (sF (l:=G) (by omega));have AO:((jI G 8).take k).length≤32:=by rw[List.length_take];omega
     have FO:=Qh Oi;have jl:=Qh aK;clear Oi bU aK Gt;generalize G.getD q 0=x0 at c0 bI;rcases(show r=0∨r=1∨r=2∨r=3 by omega)with rfl|rfl|rfl|rfl
     ·have Ej:(k:Int)%4=0:=by have:=FO.O;omega
      go_wp2_with (at_builtin;refine qX (w0:=wr) U1 rfl _ _ rfl _ _ _ rfl di.O (x0%256) [.int .u8 (x0%256)] _ rfl rfl (by omega) (by omega) bS ?_)
      intro v5 w5 iV hg5;have df:=Below.own hb hg5 di.O Eg bS;have oN:=(hg5.block B (by omega) (fun e=>di.O.dm wP e.symm)).trans jl.O;have Gq:=hg5.size;have gW:=Qh iV;have PU:=Qh oN;clear iV oN hg5 di jl;go_wp2;go_roundw;case rel=>exact⟨k+1,by omega,by go_num,by rw[bI.O];exact gW.O,PU.O,df,by omega⟩
      case measure=>simp[intOf];omega
     ·have Ej:(k:Int)%4=1:=by have:=FO.O;omega
      go_wp2_with (at_builtin;refine qX (w0:=wr) U1 rfl _ _ rfl _ _ _ rfl di.O (x0 / 256%256) [.int .u8 (x0 / 256%256)] _ rfl rfl (by omega) (by omega) bS ?_)
      intro v5 w5 iV hg5;have df:=Below.own hb hg5 di.O Eg bS;have oN:=(hg5.block B (by omega) (fun e=>di.O.dm wP e.symm)).trans jl.O;have Gq:=hg5.size;have gW:=Qh iV;have PU:=Qh oN;clear iV oN hg5 di jl;go_wp2;go_roundw;case rel=>exact⟨k+1,by omega,by go_num,by rw[bI.O];exact gW.O,PU.O,df,by omega⟩
      case measure=>simp[intOf];omega
     ·have Ej:(k:Int)%4=2:=by have:=FO.O;omega
      go_wp2_with (at_builtin;refine qX (w0:=wr) U1 rfl _ _ rfl _ _ _ rfl di.O (x0 / 65536%256) [.int .u8 (x0 / 65536%256)] _ rfl rfl (by omega) (by omega) bS ?_)
      intro v5 w5 iV hg5;have df:=Below.own hb hg5 di.O Eg bS;have oN:=(hg5.block B (by omega) (fun e=>di.O.dm wP e.symm)).trans jl.O;have Gq:=hg5.size;have gW:=Qh iV;have PU:=Qh oN;clear iV oN hg5 di jl;go_wp2;go_roundw;case rel=>exact⟨k+1,by omega,by go_num,by rw[bI.O];exact gW.O,PU.O,df,by omega⟩
      case measure=>simp[intOf];omega
     ·have Ej:(k:Int)%4=3:=by have:=FO.O;omega
      go_wp2_with (at_builtin;refine qX (w0:=wr) U1 rfl _ _ rfl _ _ _ rfl di.O (x0 / 16777216%256) [.int .u8 (x0 / 16777216%256)] _ rfl rfl (by omega) (by omega) bS ?_)
      intro v5 w5 iV hg5;have df:=Below.own hb hg5 di.O Eg bS;have oN:=(hg5.block B (by omega) (fun e=>di.O.dm wP e.symm)).trans jl.O;have Gq:=hg5.size;have gW:=Qh iV;have PU:=Qh oN;clear iV oN hg5 di jl;go_wp2;go_roundw;case rel=>exact⟨k+1,by omega,by go_num,by rw[bI.O];exact gW.O,PU.O,df,by omega⟩
      case measure=>simp[intOf];omega
    ·have mJ:k=32:=by omega
     have Ol:(jI G 8).take k=jI G 8:=List.take_of_length_le (by omega);have Xc:(jI G 8).map (fun x=>UInt8.ofNat x.toNat)=dW s:=by rw[dW,HG.O]
     rw[Ol]at bU;have xX:0<(jI G 8).length:=by omega
     have Td:=Xky (P:=Tryz.prog) Tryz.underlying144 Tryz.underlying5 Tryz.underlying9 wr bU xX;rw[Xc]at Td;clear bU xX mJ Ol Xc aK di Gt Y0;go_wp2;go_ret;exact⟨rfl,hb⟩
def zY(s:af)(k:Nat):af:=if k=0 then []else s
theorem Y1(b off cap:Nat)(s:af)(hs:s.length≤140737488355328)(w:World)(hc:w.cell? ⟨b,off,none⟩=some (S s)):
 Calls Tryz.prog 39 #[.slice (some ⟨b,off,none⟩) 1 cap] w fun e w'=>e= .returned (S (dW s))∧Below w.heap.size w w':=by
 go_enter Tryz.func39,Tryz.ntmps39
 go_wp2_with fail
 go_loop [3,4] (fun s3 s4=> ∃k:Nat,k≤1∧s4= .int .i64 k∧s3=S (zY s k)) (fun _ k=>1-(intOf k).toNat)
 case atStart=>exact⟨0,by omega,rfl,rfl⟩
 case round=>
  obtain⟨k,hk,rfl,rfl⟩:=hrel;by_cases hlt:k<1
  ·have D6:k=0:=by omega
   subst D6;rw[show zY s 0=[]from rfl];go_wp2;go_round;case rel=>exact⟨1,by omega,by go_num,rfl⟩
   case measure=>simp[intOf]
  ·have ql:k=1:=by omega
   subst ql;rw[show zY s 1=s from rfl];go_wp2_with fail
   refine(Xlv s hs _).mono ?_;rintro e w1 ⟨rfl,aG⟩;go_wp2;go_ret;exact⟨rfl,aG⟩
