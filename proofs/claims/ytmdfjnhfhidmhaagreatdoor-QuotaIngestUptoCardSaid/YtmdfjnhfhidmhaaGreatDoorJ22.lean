/- Lemmas for the claim's theorem;conditions: as each says. -/
import Derived.Test.YtmdfjnhfhidmhaaGreatDoorJ21
set_option maxHeartbeats 0
set_option maxRecDepth 100000
set_option linter.all false
namespace Go.Proofs.YtmdfjnhfhidmhaaGreatDoor
open Go.RowKit
structure Dn (w:World) (hs m:List Int) (X:World):Prop where
 below:Below w.heap.size w X
 size:w.heap.size+1+1<X.heap.size
 b0:X.heap[w.heap.size]?=some (.cells (row hs) 206 (0,0))
 b1:X.heap[w.heap.size+1]?=some (.cells (row (List.replicate 8 0)) 206 (0,0))
 b2:X.heap[w.heap.size+1+1]?=some (.cells (row m) 235 (0,0))
structure Rm (w:World) (BI BV:Nat) (hs m v:List Int) (X:World):Prop extends Dn w hs m X where
 lo:w.heap.size+1+1<BI
 mid:BI<BV
 hi:BV<X.heap.size
 bi:X.heap[BI]?=some (.cells (row eX) 206 (0,0))
 bv:X.heap[BV]?=some (.cells (row v) 235 (0,0))
section
variable {w X X':World} {BI BV:Nat} {hs m v:List Int}
theorem Dn.start(w:World)(hs:List Int):Dn w hs (List.replicate 16 0) (((w.alloc (.cells (row hs) 206)).alloc (.cells (row (List.replicate 8 0)) 206)).alloc (.cells (row (List.replicate 16 0)) 235)):=by
 refine⟨(((Qb _ _).alloc (Qn _) _).alloc (by simp) _).alloc (by simp;omega) _,by simp,?_,?_,?_⟩
 ·exact(Below.heap_alloc _ _ _ (by simp;omega)).trans ((Below.heap_alloc _ _ _ (by simp)).trans (heap_alloc_new _ _))
 ·exact(Below.heap_alloc _ _ _ (by simp)).trans (OX (by simp) _)
 ·exact OX (by simp) _
theorem Dn.pass(h:Dn w hs m X)(hb:Below X.heap.size X X'):Dn w hs m X':=by
 have:=h.size;exact⟨h.below.trans (hb.mono h.below.size),by have:=hb.size;omega,(hb.block _ (by omega)).trans h.b0,(hb.block _ (by omega)).trans h.b1,(hb.block _ (by omega)).trans h.b2⟩
theorem Dn.set2(h:Dn w hs m X)(i:Nat)(x:Int):Dn w hs (m.set i x) (X.setCell ⟨w.heap.size+1+1,i,none⟩ (.int .u32 x)):=by
 have o:∀k,k≠w.heap.size+1+1→(X.setCell ⟨w.heap.size+1+1,i,none⟩ (.int .u32 x)).heap[k]?=X.heap[k]? :=fun k hk=>Below.heap_setCell _ _ _ _ hk;exact⟨h.below.setCell (by show w.heap.size≤w.heap.size+1+1;omega) _,by simpa[World.setCell]using h.size,(o _ (by omega)).trans h.b0,(o _ (by omega)).trans h.b1,heap_setCell _ h.b2⟩
theorem Rm.pass(h:Rm w BI BV hs m v X)(hb:Below X.heap.size X X'):Rm w BI BV hs m v X':=by
 have:=h.hi;have:=h.mid;exact⟨h.toDn.pass hb,h.lo,h.mid,by have:=hb.size;omega,(hb.block _ (by omega)).trans h.bi,(hb.block _ (by omega)).trans h.bv⟩
theorem Rm.alloc(h:Rm w BI BV hs m v X)(o:Obj):Rm w BI BV hs m v (X.alloc o):=h.pass ((Qb _ _).alloc (Qn _) o)
theorem Rm.set0(h:Rm w BI BV hs m v X)(i:Nat)(x:Int):Rm w BI BV (hs.set i x) m v (X.setCell ⟨w.heap.size,i,none⟩ (.int .u32 x)):=by
 have h1:=h.lo;have h2:=h.mid;have o:∀k,k≠w.heap.size→(X.setCell ⟨w.heap.size,i,none⟩ (.int .u32 x)).heap[k]?=X.heap[k]? :=fun k hk=>Below.heap_setCell _ _ _ _ hk;exact⟨⟨h.below.setCell (Qn _) _,by simpa[World.setCell]using h.size,heap_setCell _ h.b0,(o _ (by omega)).trans h.b1,(o _ (by omega)).trans h.b2⟩,h.lo,h.mid,by simpa[World.setCell]using h.hi,(o _ (by omega)).trans h.bi,(o _ (by omega)).trans h.bv⟩
theorem Rm.AU(h:Rm w BI BV hs m v X)(i:Nat)(x:Int):Rm w BI BV hs m (v.set i x) (X.setCell ⟨BV,i,none⟩ (.int .u32 x)):=by
 have h1:=h.lo;have h2:=h.mid;have o:∀k,k≠BV→(X.setCell ⟨BV,i,none⟩ (.int .u32 x)).heap[k]?=X.heap[k]? :=fun k hk=>Below.heap_setCell _ _ _ _ hk;exact⟨⟨h.below.setCell (by show w.heap.size≤BV;omega) _,by simpa[World.setCell]using h.size,(o _ (by omega)).trans h.b0,(o _ (by omega)).trans h.b1,(o _ (by omega)).trans h.b2⟩,h.lo,h.mid,by simpa[World.setCell]using h.hi,(o _ (by omega)).trans h.bi,heap_setCell _ h.bv⟩
theorem Rm.RD{v':List Int}(h:Rm w BI BV hs m v X):Rm w BI BV hs m v' (X.setRow BV (row v')):=by
 have h1:=h.lo;have h2:=h.mid;have o:∀k,k≠BV→(X.setRow BV (row v')).heap[k]?=X.heap[k]? :=fun k hk=>setRow_other _ _ _ _ hk;exact⟨⟨below_setRow h.below (by omega) _,by simpa using h.size,(o _ (by omega)).trans h.b0,(o _ (by omega)).trans h.b1,(o _ (by omega)).trans h.b2⟩,h.lo,h.mid,by simpa using h.hi,(o _ (by omega)).trans h.bi,setRow_heap _ _ _ _ _ _ h.bv⟩
theorem Rm.start(h:Dn w hs m X):Rm w X.heap.size (X.heap.size+1) hs m (List.replicate 16 0) ((X.alloc (.cells (row eX) 206)).alloc (.cells (row (List.replicate 16 0)) 235)):=by
 refine⟨h.pass (((Qb _ _).alloc (Qn _) _).alloc (by simp) _),h.size,by omega,by simp,?_,?_⟩
 ·exact(Below.heap_alloc _ _ _ (by simp)).trans (heap_alloc_new _ _)
 ·exact OX (by simp) _
end
theorem Xeg(hs:List Int)(hh:hs.length=8)(s:af)(GQ:s.length=64)(count:Int)(last:Bool)(w:World):
 Calls Tryz.prog 167 #[.agg (row hs),S s,.int .u64 count,.bool last] w fun e w'=>e= .returned (.tuple #[.agg (row (dQ hs s count last)),.int .i64 0])∧Below w.heap.size w w':=by
 obtain⟨h0,h1,h2,h3,h4,h5,h6,h7,rfl⟩:=LF hh;rw[show row [h0,h1,h2,h3,h4,h5,h6,h7]=#[.int .u32 h0,.int .u32 h1,.int .u32 h2,.int .u32 h3,.int .u32 h4,.int .u32 h5,.int .u32 h6,.int .u32 h7]from rfl];have dM:(s.length:Int)=64:=by omega
 clear hh;have bu:=Qh (show Dn w [h0,h1,h2,h3,h4,h5,h6,h7] (pU s 0) _ by rw[Xq4];exact Dn.start w [h0,h1,h2,h3,h4,h5,h6,h7]);go_enter Tryz.func167,Tryz.ntmps167
 go_wp2_with fail
 go_loopw [11] (fun s11 wr=> ∃(k:Nat),k≤64∧s11= .int .i64 k∧Dn w [h0,h1,h2,h3,h4,h5,h6,h7] (pU s k) wr) (fun i _=>64-(intOf i).toNat)
 case atStart=>exact⟨0,Nat.zero_le _,rfl,bu.O⟩
 case round=>
  clear bu;obtain⟨k,hk,rfl,hm⟩:=hrel;by_cases hlt:k<64
  ·obtain⟨q,r,hq,hr,Lf⟩:∃q r,q<16∧r<4∧k=4*q+r:=⟨k / 4,k%4,by omega,by omega,by omega⟩;have abR:(k:Int) / 4=(q:Int):=by omega
   have hqi:(q:Int)<16:=by omega
   have Hw:=Qh (show(pU s k).set q (pW s q (r+1))=pU s (k+1) by rw[Lf];exact Xq5 s q r hq hr);have lV:=cell_of_row wr _ q _ _ _ hm.b2;rw[pG (by rw[Xmq];exact hq),show(pU s k).getD q 0=pW s q r by rw[Lf];exact Xvz s q r hq hr]at lV;have Dp:=Qh Lf;clear Lf;obtain⟨a,ha⟩:∃a,pW s q r=a:=⟨_,rfl⟩;rw[ha]at lV;have Ha:=Qh ha;clear ha;have Hm:=Qh hm;clear hm;have oG:=gm Tryz.underlying9 s (k:Int) k rfl (by omega);rcases(show r=0∨r=1∨r=2∨r=3 by omega)with rfl|rfl|rfl|rfl
   ·have BH:(k:Int)%4=0:=by have:=Dp.O;omega
    go_wp2_with fail
    have g:=cell_regrown lV;refine xy 17 (by kernel_rfl) (by kernel_rfl) ?_;simp only[List.take_succ_cons,List.take_zero,List.drop_succ_cons,List.drop_zero];repeat(go_big_quiet_step ((fail)))
    refine wpQuiet_nil ?_;intro X1 bq;have nO:Below (wr).heap.size (wr) X1:=by
     obtain⟨pq,rfl⟩:=bq;exact below_regrown _ _ _
    clear bq;have fV:=Hm.O.pass nO;have g1:=nO.cell (p:=⟨w.heap.size+1+1,q,none⟩) (show w.heap.size+1+1<_ from Hm.O.size);rw[lV]at g1;have g2:=frozen_of_row X1 _ q _ _ fV.b2;have MI:=Qh fV;clear fV nO g;go_wp2;go_roundw;case rel=>exact⟨k+1,by omega,by go_num,by rw[←Hw.O,←Zi s q k Dp.O (by omega),Ha.O];exact MI.O.set2 q _⟩
    case measure=>simp[intOf];omega
   ·have BH:(k:Int)%4=1:=by have:=Dp.O;omega
    go_wp2_with fail
    have g:=cell_regrown lV;refine xy 17 (by kernel_rfl) (by kernel_rfl) ?_;simp only[List.take_succ_cons,List.take_zero,List.drop_succ_cons,List.drop_zero];repeat(go_big_quiet_step ((fail)))
    refine wpQuiet_nil ?_;intro X1 bq;have nO:Below (wr).heap.size (wr) X1:=by
     obtain⟨pq,rfl⟩:=bq;exact below_regrown _ _ _
    clear bq;have fV:=Hm.O.pass nO;have g1:=nO.cell (p:=⟨w.heap.size+1+1,q,none⟩) (show w.heap.size+1+1<_ from Hm.O.size);rw[lV]at g1;have g2:=frozen_of_row X1 _ q _ _ fV.b2;have MI:=Qh fV;clear fV nO g;go_wp2;go_roundw;case rel=>exact⟨k+1,by omega,by go_num,by rw[←Hw.O,←Zj s q k Dp.O (by omega),Ha.O];exact MI.O.set2 q _⟩
    case measure=>simp[intOf];omega
   ·have BH:(k:Int)%4=2:=by have:=Dp.O;omega
    go_wp2_with fail
    have g:=cell_regrown lV;refine xy 17 (by kernel_rfl) (by kernel_rfl) ?_;simp only[List.take_succ_cons,List.take_zero,List.drop_succ_cons,List.drop_zero];repeat(go_big_quiet_step ((fail)))
    refine wpQuiet_nil ?_;intro X1 bq;have nO:Below (wr).heap.size (wr) X1:=by
     obtain⟨pq,rfl⟩:=bq;exact below_regrown _ _ _
    clear bq;have fV:=Hm.O.pass nO;have g1:=nO.cell (p:=⟨w.heap.size+1+1,q,none⟩) (show w.heap.size+1+1<_ from Hm.O.size);rw[lV]at g1;have g2:=frozen_of_row X1 _ q _ _ fV.b2;have MI:=Qh fV;clear fV nO g;go_wp2;go_roundw;case rel=>exact⟨k+1,by omega,by go_num,by rw[←Hw.O,←Zk s q k Dp.O (by omega),Ha.O];exact MI.O.set2 q _⟩
    case measure=>simp[intOf];omega
   ·have BH:(k:Int)%4=3:=by have:=Dp.O;omega
    go_wp2_with fail
    have g:=cell_regrown lV;refine xy 17 (by kernel_rfl) (by kernel_rfl) ?_;simp only[List.take_succ_cons,List.take_zero,List.drop_succ_cons,List.drop_zero];repeat(go_big_quiet_step ((fail)))
    refine wpQuiet_nil ?_;intro X1 bq;have nO:Below (wr).heap.size (wr) X1:=by
     obtain⟨pq,rfl⟩:=bq;exact below_regrown _ _ _
    clear bq;have fV:=Hm.O.pass nO;have g1:=nO.cell (p:=⟨w.heap.size+1+1,q,none⟩) (show w.heap.size+1+1<_ from Hm.O.size);rw[lV]at g1;have g2:=frozen_of_row X1 _ q _ _ fV.b2;have MI:=Qh fV;clear fV nO g;go_wp2;go_roundw;case rel=>exact⟨k+1,by omega,by go_num,by rw[←Hw.O,←Zl s q k Dp.O (by omega),Ha.O];exact MI.O.set2 q _⟩
    case measure=>simp[intOf];omega
  ·have nY:k=64:=by omega
   subst nY;rw[Xtx]at hm;have Hm:=Qh hm;clear hm;go_wp2_with fail
   refine(Xe7 _).mono ?_;rintro e w1 ⟨rfl,aD⟩;have CP:=aD.size;have Kb:=Qh (Hm.O.pass aD);clear aD Hm;rw[show row eX=#[.int .u32 1779033703,.int .u32 3144134277,.int .u32 1013904242,.int .u32 2773480762,.int .u32 1359893119,.int .u32 2600822924,.int .u32 528734635,.int .u32 1541459225]from rfl];go_wp2_with fail
   have hmX:Rm w w1.heap.size (w1.heap.size+1) [h0,h1,h2,h3,h4,h5,h6,h7] (words s) (mX [h0,h1,h2,h3,h4,h5,h6,h7] 0) ((w1.alloc (.cells (row eX) 206)).alloc (.cells (row (List.replicate 16 0)) 235)):=by
    rw[Xo1];exact Rm.start Kb.O
   have Ig:=Qh hmX;clear hmX Kb;obtain⟨BI,hBI⟩:∃BI,w1.heap.size=BI:=⟨_,rfl⟩;rw[hBI]at Ig ⊢;have Yz:=Qh Ig.O.lo;clear hBI CP;go_loopw [14] (fun s14 wr=> ∃k:Nat,k≤8∧s14= .int .i64 k∧Rm w BI (BI+1) [h0,h1,h2,h3,h4,h5,h6,h7] (words s) (mX [h0,h1,h2,h3,h4,h5,h6,h7] k) wr) (fun i _=>8-(intOf i).toNat)
   case atStart=>exact⟨0,Nat.zero_le _,rfl,Ig.O⟩
   case round=>
    clear Ig;obtain⟨k,hk,rfl,hm⟩:=hrel;by_cases je:k<8
    ·have c1:=(cell_of_row wr _ k _ _ _ hm.b0).trans (pG (l:=[h0,h1,h2,h3,h4,h5,h6,h7]) je);have c2:=(cell_of_row wr _ k _ _ _ hm.bi).trans (pG (l:=eX) je);have c3:=(cell_of_row wr _ k _ _ _ hm.bv).trans (pG (by rw[Xf2];omega));have c4:=(cell_of_row wr _ (k+8) _ _ _ hm.bv).trans (pG (by rw[Xf2];omega));have f3:=frozen_of_row wr _ k _ _ hm.bv;have f4:=frozen_of_row wr _ (k+8) _ _ hm.bv;have Cf:=Qh (Xo2 [h0,h1,h2,h3,h4,h5,h6,h7] k je);have Hm:=Qh hm;clear hm;generalize List.getD [h0,h1,h2,h3,h4,h5,h6,h7] k 0=x0 at c1 Cf;generalize eX.getD k 0=x1 at c2 Cf;generalize List.getD (mX [h0,h1,h2,h3,h4,h5,h6,h7] k) k 0=x2 at c3;generalize List.getD (mX [h0,h1,h2,h3,h4,h5,h6,h7] k) (k+8) 0=x3 at c4;go_wp2;go_roundw;case rel=>exact⟨k+1,by omega,by go_num,by rw[←Cf.O];exact(Hm.O.AU k _).AU (k+8) _⟩
     case measure=>simp[intOf];omega
    ·have nY:k=8:=by omega
     subst nY;rw[Xqh _ rfl]at hm;have c12:wr.cell? ⟨BI+1,12,none⟩=some (.int .u32 1359893119):=(cell_of_row wr _ 12 _ _ _ hm.bv).trans rfl;have c13:wr.cell? ⟨BI+1,13,none⟩=some (.int .u32 2600822924):=(cell_of_row wr _ 13 _ _ _ hm.bv).trans rfl;have c14:wr.cell? ⟨BI+1,14,none⟩=some (.int .u32 528734635):=(cell_of_row wr _ 14 _ _ _ hm.bv).trans rfl;have f12:=frozen_of_row wr _ 12 _ _ hm.bv;have f13:=frozen_of_row wr _ 13 _ _ hm.bv;have f14:=frozen_of_row wr _ 14 _ _ hm.bv;have Hm:=Qh hm;clear hm;cases last with
     |true=>
      go_wp2_with fail
      obtain⟨v0,zK⟩:∃v0,qV [h0,h1,h2,h3,h4,h5,h6,h7] count true=v0:=⟨_,rfl⟩;have CV:=Qh zK;clear zK;have DN:v0.length=16:=by rw[←CV.O];exact UL _ rfl _ _
      clear c12 c13 c14 f12 f13 f14;go_loopw [15] (fun s15 wr=> ∃r:Nat,r≤10∧s15= .int .i64 r∧Rm w BI (BI+1) [h0,h1,h2,h3,h4,h5,h6,h7] (words s) (eD (words s) r v0) wr) (fun i _=>10-(intOf i).toNat)
      case atStart=>exact⟨0,Nat.zero_le _,rfl,by show Rm w BI (BI+1) _ (words s) v0 _;rw[←CV.O];exact((Hm.O.AU 12 _).AU 13 _).AU 14 _⟩
      case round=>
       clear Hm;obtain⟨r,hr,rfl,sP⟩:=hrel;by_cases lI:r<10
       ·obtain⟨vr,wP⟩:∃vr,eD (words s) r v0=vr:=⟨_,rfl⟩;have BS:=Qh wP;rw[wP]at sP;clear wP;have uy:vr.length=16:=by rw[←BS.O,Ic,DN]
        have Fw:=Qh sP;clear sP;go_wp2_with fail
        refine(Xc2 r lI _).mono ?_;rintro e w4 ⟨rfl,aR⟩;have Ch:=Qh (Fw.O.pass aR);clear Fw aR;have QF:=Xef r lI;have AV:=Qh (fun i hi=>Xly r i lI hi);generalize nK r=P at QF AV ⊢;go_wp2_with fail
        go_loopw [17] (fun Zm wr=> ∃k:Nat,k≤8∧Zm= .int .i64 k∧Rm w BI (BI+1) [h0,h1,h2,h3,h4,h5,h6,h7] (words s) (eu (words s) r k vr) wr) (fun i _=>8-(intOf i).toNat)
        case atStart=>exact⟨0,Nat.zero_le _,rfl,Ch.O⟩
        case round=>
         clear Ch;obtain⟨k,hk,rfl,jA⟩:=hrel;by_cases je:k<8
         ·have qw:=Qh jA;clear jA;go_wp2_with fail
          refine(Xe6 k je _).mono ?_;rintro e w5 ⟨rfl,bM⟩;have CX:=Qh (qw.O.pass bM);clear qw bM;obtain⟨qa,qb,qc,qd,hq⟩:∃qa qb qc qd,iF k=(qa,qb,qc,qd):=⟨_,_,_,_,rfl⟩;have pX:=UI k je;have jk:p9 (words s) r k (eu (words s) r k vr)=oh (eu (words s) r k vr) qa qb qc qd ((words s).getD (jb r (2*k)) 0) ((words s).getD (jb r (2*k+1)) 0):=by rw[p9,hq]
          rw[hq]at pX ⊢;rw[show BR (qa,qb,qc,qd)= .agg #[.int .i64 qa,.int .i64 qb,.int .i64 qc,.int .i64 qd]from rfl];have kK:=Qh (show Apart 16 qa qb qc qd from⟨pX.1,pX.2.1,pX.2.2.1,pX.2.2.2.1,pX.2.2.2.2.1,pX.2.2.2.2.2.1,pX.2.2.2.2.2.2.1,pX.2.2.2.2.2.2.2.1,pX.2.2.2.2.2.2.2.2.1,pX.2.2.2.2.2.2.2.2.2⟩);clear hq pX;have qj:=Ka r (2*k) lI (by omega);have rU:=Ka r (2*k+1) lI (by omega);obtain⟨ng,AX,AY⟩:=AV.O (2*k) (by omega);obtain⟨rR,AZ,Ba⟩:=AV.O (2*k+1) (by omega);have gu:=gm Tryz.underlying9 P (2*(k:Int)) (2*k) (by omega) (by omega);have oQ:=gm Tryz.underlying9 P (2*(k:Int)+1) (2*k+1) (by omega) (by omega);generalize(P.getD (2*k) 0).toNat=e1 at ng AX AY gu;generalize(P.getD (2*k+1) 0).toNat=e2 at rR AZ Ba oQ;generalize jb r (2*k)=sx at qj jk ng;generalize jb r (2*k+1)=sy at rU jk rR;have Ay:=Qh (show ∀W,Calls Tryz.prog 215 #[.int .u8 (e1:Int)] W fun e w'=>e= .returned (.int .i64 (sx:Int))∧Below W.heap.size W w' from fun W=>by rw[←ng];exact Vv e1 AX AY W);have Dq:=Qh (show ∀W,Calls Tryz.prog 215 #[.int .u8 (e2:Int)] W fun e w'=>e= .returned (.int .i64 (sy:Int))∧Below W.heap.size W w' from fun W=>by rw[←rR];exact Vv e2 AZ Ba W);clear ng AX AY rR AZ Ba;have yG:(eu (words s) r k vr).length=16:=by rw[OV,uy]
          generalize Ev:eu (words s) r k vr=vk at jk yG CX;have RF:=Qh Ev;clear Ev;have m0:=(cell_of_row w5 _ sx _ _ _ CX.O.b2).trans (pG (l:=words s) (by simpa[words]using qj));have m1:=(cell_of_row w5 _ sy _ _ _ CX.O.b2).trans (pG (l:=words s) (by simpa[words]using rU));generalize(words s).getD sx 0=mx at m0 jk;generalize(words s).getD sy 0=my at m1 jk;have bu:=Qh jk;clear jk;go_wp2_with fail
          have Am:=Qh (CX.O.alloc (.cells #[.int .i64 qa,.int .i64 qb,.int .i64 qc,.int .i64 qd] 239));have m0:=cell_regrown (kP (.cells #[.int .i64 qa,.int .i64 qb,.int .i64 qc,.int .i64 qd] 239) m0);have m1:=cell_regrown (kP (.cells #[.int .i64 qa,.int .i64 qb,.int .i64 qc,.int .i64 qd] 239) m1);have k0:=cell_regrown (show(w5.alloc (.cells #[.int .i64 qa,.int .i64 qb,.int .i64 qc,.int .i64 qd] 239)).cell? ⟨w5.heap.size,0,none⟩=some (.int .i64 qa) by simp);have k1:=cell_regrown (show(w5.alloc (.cells #[.int .i64 qa,.int .i64 qb,.int .i64 qc,.int .i64 qd] 239)).cell? ⟨w5.heap.size,1,none⟩=some (.int .i64 qb) by simp);have k2:=cell_regrown (show(w5.alloc (.cells #[.int .i64 qa,.int .i64 qb,.int .i64 qc,.int .i64 qd] 239)).cell? ⟨w5.heap.size,2,none⟩=some (.int .i64 qc) by simp);have k3:=cell_regrown (show(w5.alloc (.cells #[.int .i64 qa,.int .i64 qb,.int .i64 qc,.int .i64 qd] 239)).cell? ⟨w5.heap.size,3,none⟩=some (.int .i64 qd) by simp);have AR:(Tryz.prog.info? 235).map (·.size)=some (row vk).size:=by rw[bG,yG];kernel_rfl
          have n1:(sx:Int)<16:=by omega
          have n2:(sy:Int)<16:=by omega
          refine xy 24 (by kernel_rfl) (by kernel_rfl) ?_;simp only[List.take_succ_cons,List.take_zero,List.drop_succ_cons,List.drop_zero];refine wpQuiet_load_row rfl 235 _ rfl (BI+1) rfl 235 (row vk) (0,0) _ (Xe4 Am.O.bv) Tryz.underlying235 rfl AR ?_;simp only[Act.put,List.setIfInBounds_toArray,List.set_cons_succ,List.set_cons_zero];repeat(go_big_quiet_step (with_reducible first|exact Calls.regrown_of (Ay.O _)|exact Calls.regrown_of (Dq.O _)))
          refine wpQuiet_nil ?_;intro w6 bq;have fF:Below (w5.alloc (.cells #[.int .i64 qa,.int .i64 qb,.int .i64 qc,.int .i64 qd] 239)).heap.size (w5.alloc (.cells #[.int .i64 qa,.int .i64 qb,.int .i64 qc,.int .i64 qd] 239)) w6:=by
           obtain⟨pq,rfl⟩:=bq;exact below_regrown _ _ _
          clear bq;have RG:=Qh (Am.O.pass fF);clear Am fF m0 m1 k0 k1 k2 k3 gu oQ;go_wp2_with fail
          refine(Xk1 vk yG qa qb qc qd mx my _ kK.O).mono ?_;rintro e w8 ⟨rfl,mR⟩;have Ed:=Qh (RG.O.pass mR);clear RG mR;have nA:(oh vk qa qb qc qd mx my).length=16:=by rw[Xk,yG]
          generalize hF:oh vk qa qb qc qd mx my=F at nA ⊢;have HF:=Qh hF;have hbv:=Ed.O.bv;have Zn:(Tryz.prog.info? 235).map (·.size)=some (row F).size:=by rw[bG,nA];kernel_rfl
          have Zo:(row vk).size=(row F).size:=by rw[bG,bG,yG,nA]
          have Zp:(row F).all (·.oneCell')=true:=by simp[row,Value.oneCell']
          clear hF nA;go_wp2_with (refine wpList_store_row rfl 235 _ _ rfl (BI+1) (row F) rfl rfl 235 (row vk) hbv Zn Zo Zp ?_)
          go_roundw;case rel=>exact⟨k+1,by omega,by go_num,by rw[eu,RF.O,bu.O,HF.O];exact Ed.O.RD⟩
          case measure=>simp[intOf];omega
         ·have nY:k=8:=by omega
          subst nY;have qw:=Qh jA;clear jA;go_wp2_with fail
          go_roundw;case rel=>
           have zR:∃r':Nat,r'≤10∧Value.int .i64 ((r:Int)+1)= .int .i64 r'∧Rm w BI (BI+1) [h0,h1,h2,h3,h4,h5,h6,h7] (words s) (eD (words s) r' v0) wr:=⟨r+1,by omega,by go_num,by rw[eD,BS.O];exact qw.O⟩;first|exact zR|((repeat apply Exists.intro);exact⟨zR,rfl⟩)
          case measure=>simp[intOf];omega
       ·have zL:r=10:=by omega
        obtain⟨v,hv⟩:∃v,eD (words s) r v0=v:=⟨_,rfl⟩;have Hv:=Qh hv;have NZ:v.length=16:=by rw[←hv,Ic,DN]
        rw[hv]at sP;clear hv;have Fw:=Qh sP;clear sP;go_wp2_with fail
        go_loopw [19] (fun Zq wr=> ∃k:Nat,k≤8∧Zq= .int .i64 k∧Rm w BI (BI+1) (jq [h0,h1,h2,h3,h4,h5,h6,h7] v k) (words s) v wr) (fun i _=>8-(intOf i).toNat)
        case atStart=>exact⟨0,Nat.zero_le _,rfl,Fw.O⟩
        case round=>
         clear Fw;obtain⟨k,hk,rfl,jA⟩:=hrel;by_cases je:k<8
         ·have ni:=Ie [h0,h1,h2,h3,h4,h5,h6,h7] v k;have a0:=(cell_of_row wr _ k _ _ _ jA.b0).trans (pG (by rw[ni];exact je));have a1:=(cell_of_row wr _ k _ _ _ jA.bv).trans (pG (l:=v) (by omega));have a2:=(cell_of_row wr _ (k+8) _ _ _ jA.bv).trans (pG (l:=v) (by omega));rw[UJ _ _ _ je]at a0;have sQ:=UK [h0,h1,h2,h3,h4,h5,h6,h7] v k;generalize List.getD [h0,h1,h2,h3,h4,h5,h6,h7] k 0=x0 at a0 sQ;generalize v.getD k 0=x1 at a1 sQ;generalize v.getD (k+8) 0=x2 at a2 sQ;have Gp:=Qh sQ;have qw:=Qh jA;clear jA ni sQ;go_wp2_with fail
          have g0:=cell_regrown a0;have g1:=cell_regrown a1;have g2:=cell_regrown a2;refine xy 14 (by kernel_rfl) (by kernel_rfl) ?_;simp only[List.take_succ_cons,List.take_zero,List.drop_succ_cons,List.drop_zero];repeat(go_big_quiet_step ((fail)))
          refine wpQuiet_nil ?_;intro w9 bq;have gP:Below (wr).heap.size (wr) w9:=by
           obtain⟨pq,rfl⟩:=bq;exact below_regrown _ _ _
          clear bq;have Gu:=qw.O.pass gP;have a9:=gP.cell (p:=⟨w.heap.size,k,none⟩) (block_lt_of_cell a0);rw[a0]at a9;have f9:=frozen_of_row w9 _ k _ _ Gu.b0;have MJ:=Qh Gu;clear Gu gP g0 g1 g2 a0 a1 a2;go_wp2;go_roundw;case rel=>exact⟨k+1,by omega,by go_num,by rw[←Gp.O,←Xgw];exact MJ.O.set0 k _⟩
          case measure=>simp[intOf];omega
         ·have ni:=Ie [h0,h1,h2,h3,h4,h5,h6,h7] v k;have jH:jq [h0,h1,h2,h3,h4,h5,h6,h7] v k=dQ [h0,h1,h2,h3,h4,h5,h6,h7] s count true:=by
           rw[dQ,CV.O,←zL,Hv.O,show k=8 by omega]
          generalize jq [h0,h1,h2,h3,h4,h5,h6,h7] v k=F at jA ni jH;have lJ:=Qh jH;have wm:(Tryz.prog.info? 206).map (·.size)=some (row F).size:=by rw[bG,ni];kernel_rfl
          have D5:(row (List.replicate 8 0)).size=(row F).size:=by rw[bG,bG,ni];rfl
          have uM:(row F).all (·.oneCell')=true:=by simp[row,Value.oneCell']
          have b0:=jA.b0;have b1:=jA.b1;have qw:=Qh jA;clear jA jH zL
          go_wp2_with (first
           |(refine wpList_load_row rfl 206 _ rfl w.heap.size rfl 206 (row F) (0,0) _ b0 Tryz.underlying206 rfl wm ?_)
           |(refine wpList_store_row rfl 206 _ _ rfl (w.heap.size+1) (row F) rfl rfl 206 (row (List.replicate 8 0)) b1 wm D5 uM ?_))
          try simp only[Exit.inBlock,Exit.then]
          refine bodyPost_ret (v:= .tuple #[.agg (row F),.int .i64 0]) ?_ rfl ⟨?_,?_⟩
          ·rw[results_cell_tmp rfl];simp[asAddr,run_loadVar_row _ (w.heap.size+1) 206 206 (row F) (0,0) _ (setRow_heap _ _ _ _ _ _ b1) Tryz.underlying206 rfl wm]
          ·rw[lJ.O]
          ·exact below_setRow qw.O.below (by omega) _
     |false=>
      go_wp2_with fail
      obtain⟨v0,zK⟩:∃v0,qV [h0,h1,h2,h3,h4,h5,h6,h7] count false=v0:=⟨_,rfl⟩;have CV:=Qh zK;clear zK;have DN:v0.length=16:=by rw[←CV.O];exact UL _ rfl _ _
      clear c12 c13 c14 f12 f13 f14;go_loopw [15] (fun s15 wr=> ∃r:Nat,r≤10∧s15= .int .i64 r∧Rm w BI (BI+1) [h0,h1,h2,h3,h4,h5,h6,h7] (words s) (eD (words s) r v0) wr) (fun i _=>10-(intOf i).toNat)
      case atStart=>exact⟨0,Nat.zero_le _,rfl,by show Rm w BI (BI+1) _ (words s) v0 _;rw[←CV.O];exact(Hm.O.AU 12 _).AU 13 _⟩
      case round=>
       clear Hm;obtain⟨r,hr,rfl,sP⟩:=hrel;by_cases lI:r<10
       ·obtain⟨vr,wP⟩:∃vr,eD (words s) r v0=vr:=⟨_,rfl⟩;have BS:=Qh wP;rw[wP]at sP;clear wP;have uy:vr.length=16:=by rw[←BS.O,Ic,DN]
        have Fw:=Qh sP;clear sP;go_wp2_with fail
        refine(Xc2 r lI _).mono ?_;rintro e w4 ⟨rfl,aR⟩;have Ch:=Qh (Fw.O.pass aR);clear Fw aR;have QF:=Xef r lI;have AV:=Qh (fun i hi=>Xly r i lI hi);generalize nK r=P at QF AV ⊢;go_wp2_with fail
        go_loopw [17] (fun Zm wr=> ∃k:Nat,k≤8∧Zm= .int .i64 k∧Rm w BI (BI+1) [h0,h1,h2,h3,h4,h5,h6,h7] (words s) (eu (words s) r k vr) wr) (fun i _=>8-(intOf i).toNat)
        case atStart=>exact⟨0,Nat.zero_le _,rfl,Ch.O⟩
        case round=>
         clear Ch;obtain⟨k,hk,rfl,jA⟩:=hrel;by_cases je:k<8
         ·have qw:=Qh jA;clear jA;go_wp2_with fail
          refine(Xe6 k je _).mono ?_;rintro e w5 ⟨rfl,bM⟩;have CX:=Qh (qw.O.pass bM);clear qw bM;obtain⟨qa,qb,qc,qd,hq⟩:∃qa qb qc qd,iF k=(qa,qb,qc,qd):=⟨_,_,_,_,rfl⟩;have pX:=UI k je;have jk:p9 (words s) r k (eu (words s) r k vr)=oh (eu (words s) r k vr) qa qb qc qd ((words s).getD (jb r (2*k)) 0) ((words s).getD (jb r (2*k+1)) 0):=by rw[p9,hq]
          rw[hq]at pX ⊢;rw[show BR (qa,qb,qc,qd)= .agg #[.int .i64 qa,.int .i64 qb,.int .i64 qc,.int .i64 qd]from rfl];have kK:=Qh (show Apart 16 qa qb qc qd from⟨pX.1,pX.2.1,pX.2.2.1,pX.2.2.2.1,pX.2.2.2.2.1,pX.2.2.2.2.2.1,pX.2.2.2.2.2.2.1,pX.2.2.2.2.2.2.2.1,pX.2.2.2.2.2.2.2.2.1,pX.2.2.2.2.2.2.2.2.2⟩);clear hq pX;have qj:=Ka r (2*k) lI (by omega);have rU:=Ka r (2*k+1) lI (by omega);obtain⟨ng,AX,AY⟩:=AV.O (2*k) (by omega);obtain⟨rR,AZ,Ba⟩:=AV.O (2*k+1) (by omega);have gu:=gm Tryz.underlying9 P (2*(k:Int)) (2*k) (by omega) (by omega);have oQ:=gm Tryz.underlying9 P (2*(k:Int)+1) (2*k+1) (by omega) (by omega);generalize(P.getD (2*k) 0).toNat=e1 at ng AX AY gu;generalize(P.getD (2*k+1) 0).toNat=e2 at rR AZ Ba oQ;generalize jb r (2*k)=sx at qj jk ng;generalize jb r (2*k+1)=sy at rU jk rR;have Ay:=Qh (show ∀W,Calls Tryz.prog 215 #[.int .u8 (e1:Int)] W fun e w'=>e= .returned (.int .i64 (sx:Int))∧Below W.heap.size W w' from fun W=>by rw[←ng];exact Vv e1 AX AY W);have Dq:=Qh (show ∀W,Calls Tryz.prog 215 #[.int .u8 (e2:Int)] W fun e w'=>e= .returned (.int .i64 (sy:Int))∧Below W.heap.size W w' from fun W=>by rw[←rR];exact Vv e2 AZ Ba W);clear ng AX AY rR AZ Ba;have yG:(eu (words s) r k vr).length=16:=by rw[OV,uy]
          generalize Ev:eu (words s) r k vr=vk at jk yG CX;have RF:=Qh Ev;clear Ev;have m0:=(cell_of_row w5 _ sx _ _ _ CX.O.b2).trans (pG (l:=words s) (by simpa[words]using qj));have m1:=(cell_of_row w5 _ sy _ _ _ CX.O.b2).trans (pG (l:=words s) (by simpa[words]using rU));generalize(words s).getD sx 0=mx at m0 jk;generalize(words s).getD sy 0=my at m1 jk;have bu:=Qh jk;clear jk;go_wp2_with fail
          have Am:=Qh (CX.O.alloc (.cells #[.int .i64 qa,.int .i64 qb,.int .i64 qc,.int .i64 qd] 239));have m0:=cell_regrown (kP (.cells #[.int .i64 qa,.int .i64 qb,.int .i64 qc,.int .i64 qd] 239) m0);have m1:=cell_regrown (kP (.cells #[.int .i64 qa,.int .i64 qb,.int .i64 qc,.int .i64 qd] 239) m1);have k0:=cell_regrown (show(w5.alloc (.cells #[.int .i64 qa,.int .i64 qb,.int .i64 qc,.int .i64 qd] 239)).cell? ⟨w5.heap.size,0,none⟩=some (.int .i64 qa) by simp);have k1:=cell_regrown (show(w5.alloc (.cells #[.int .i64 qa,.int .i64 qb,.int .i64 qc,.int .i64 qd] 239)).cell? ⟨w5.heap.size,1,none⟩=some (.int .i64 qb) by simp);have k2:=cell_regrown (show(w5.alloc (.cells #[.int .i64 qa,.int .i64 qb,.int .i64 qc,.int .i64 qd] 239)).cell? ⟨w5.heap.size,2,none⟩=some (.int .i64 qc) by simp);have k3:=cell_regrown (show(w5.alloc (.cells #[.int .i64 qa,.int .i64 qb,.int .i64 qc,.int .i64 qd] 239)).cell? ⟨w5.heap.size,3,none⟩=some (.int .i64 qd) by simp);have AR:(Tryz.prog.info? 235).map (·.size)=some (row vk).size:=by rw[bG,yG];kernel_rfl
          have n1:(sx:Int)<16:=by omega
          have n2:(sy:Int)<16:=by omega
          refine xy 24 (by kernel_rfl) (by kernel_rfl) ?_;simp only[List.take_succ_cons,List.take_zero,List.drop_succ_cons,List.drop_zero];refine wpQuiet_load_row rfl 235 _ rfl (BI+1) rfl 235 (row vk) (0,0) _ (Xe4 Am.O.bv) Tryz.underlying235 rfl AR ?_;simp only[Act.put,List.setIfInBounds_toArray,List.set_cons_succ,List.set_cons_zero];repeat(go_big_quiet_step (with_reducible first|exact Calls.regrown_of (Ay.O _)|exact Calls.regrown_of (Dq.O _)))
          refine wpQuiet_nil ?_;intro w6 bq;have fF:Below (w5.alloc (.cells #[.int .i64 qa,.int .i64 qb,.int .i64 qc,.int .i64 qd] 239)).heap.size (w5.alloc (.cells #[.int .i64 qa,.int .i64 qb,.int .i64 qc,.int .i64 qd] 239)) w6:=by
           obtain⟨pq,rfl⟩:=bq;exact below_regrown _ _ _
          clear bq;have RG:=Qh (Am.O.pass fF);clear Am fF m0 m1 k0 k1 k2 k3 gu oQ;go_wp2_with fail
          refine(Xk1 vk yG qa qb qc qd mx my _ kK.O).mono ?_;rintro e w8 ⟨rfl,mR⟩;have Ed:=Qh (RG.O.pass mR);clear RG mR;have nA:(oh vk qa qb qc qd mx my).length=16:=by rw[Xk,yG]
          generalize hF:oh vk qa qb qc qd mx my=F at nA ⊢;have HF:=Qh hF;have hbv:=Ed.O.bv;have Zn:(Tryz.prog.info? 235).map (·.size)=some (row F).size:=by rw[bG,nA];kernel_rfl
          have Zo:(row vk).size=(row F).size:=by rw[bG,bG,yG,nA]
          have Zp:(row F).all (·.oneCell')=true:=by simp[row,Value.oneCell']
          clear hF nA;go_wp2_with (refine wpList_store_row rfl 235 _ _ rfl (BI+1) (row F) rfl rfl 235 (row vk) hbv Zn Zo Zp ?_)
          go_roundw;case rel=>exact⟨k+1,by omega,by go_num,by rw[eu,RF.O,bu.O,HF.O];exact Ed.O.RD⟩
          case measure=>simp[intOf];omega
         ·have nY:k=8:=by omega
          subst nY;have qw:=Qh jA;clear jA;go_wp2_with fail
          go_roundw;case rel=>
           have zR:∃r':Nat,r'≤10∧Value.int .i64 ((r:Int)+1)= .int .i64 r'∧Rm w BI (BI+1) [h0,h1,h2,h3,h4,h5,h6,h7] (words s) (eD (words s) r' v0) wr:=⟨r+1,by omega,by go_num,by rw[eD,BS.O];exact qw.O⟩;first|exact zR|((repeat apply Exists.intro);exact⟨zR,rfl⟩)
          case measure=>simp[intOf];omega
       ·have zL:r=10:=by omega
        obtain⟨v,hv⟩:∃v,eD (words s) r v0=v:=⟨_,rfl⟩;have Hv:=Qh hv;have NZ:v.length=16:=by rw[←hv,Ic,DN]
        rw[hv]at sP;clear hv;have Fw:=Qh sP;clear sP;go_wp2_with fail
        go_loopw [19] (fun Zq wr=> ∃k:Nat,k≤8∧Zq= .int .i64 k∧Rm w BI (BI+1) (jq [h0,h1,h2,h3,h4,h5,h6,h7] v k) (words s) v wr) (fun i _=>8-(intOf i).toNat)
        case atStart=>exact⟨0,Nat.zero_le _,rfl,Fw.O⟩
        case round=>
         clear Fw;obtain⟨k,hk,rfl,jA⟩:=hrel;by_cases je:k<8
         ·have ni:=Ie [h0,h1,h2,h3,h4,h5,h6,h7] v k;have a0:=(cell_of_row wr _ k _ _ _ jA.b0).trans (pG (by rw[ni];exact je));have a1:=(cell_of_row wr _ k _ _ _ jA.bv).trans (pG (l:=v) (by omega));have a2:=(cell_of_row wr _ (k+8) _ _ _ jA.bv).trans (pG (l:=v) (by omega));rw[UJ _ _ _ je]at a0;have sQ:=UK [h0,h1,h2,h3,h4,h5,h6,h7] v k;generalize List.getD [h0,h1,h2,h3,h4,h5,h6,h7] k 0=x0 at a0 sQ;generalize v.getD k 0=x1 at a1 sQ;generalize v.getD (k+8) 0=x2 at a2 sQ;have Gp:=Qh sQ;have qw:=Qh jA;clear jA ni sQ;go_wp2_with fail
          have g0:=cell_regrown a0;have g1:=cell_regrown a1;have g2:=cell_regrown a2;refine xy 14 (by kernel_rfl) (by kernel_rfl) ?_;simp only[List.take_succ_cons,List.take_zero,List.drop_succ_cons,List.drop_zero];repeat(go_big_quiet_step ((fail)))
          refine wpQuiet_nil ?_;intro w9 bq;have gP:Below (wr).heap.size (wr) w9:=by
           obtain⟨pq,rfl⟩:=bq;exact below_regrown _ _ _
          clear bq;have Gu:=qw.O.pass gP;have a9:=gP.cell (p:=⟨w.heap.size,k,none⟩) (block_lt_of_cell a0);rw[a0]at a9;have f9:=frozen_of_row w9 _ k _ _ Gu.b0;have MJ:=Qh Gu;clear Gu gP g0 g1 g2 a0 a1 a2;go_wp2;go_roundw;case rel=>exact⟨k+1,by omega,by go_num,by rw[←Gp.O,←Xgw];exact MJ.O.set0 k _⟩
          case measure=>simp[intOf];omega
         ·have ni:=Ie [h0,h1,h2,h3,h4,h5,h6,h7] v k;have jH:jq [h0,h1,h2,h3,h4,h5,h6,h7] v k=dQ [h0,h1,h2,h3,h4,h5,h6,h7] s count false:=by
           rw[dQ,CV.O,←zL,Hv.O,show k=8 by omega]
          generalize jq [h0,h1,h2,h3,h4,h5,h6,h7] v k=F at jA ni jH;have lJ:=Qh jH;have wm:(Tryz.prog.info? 206).map (·.size)=some (row F).size:=by rw[bG,ni];kernel_rfl
          have D5:(row (List.replicate 8 0)).size=(row F).size:=by rw[bG,bG,ni];rfl
          have uM:(row F).all (·.oneCell')=true:=by simp[row,Value.oneCell']
          have b0:=jA.b0;have b1:=jA.b1;have qw:=Qh jA;clear jA jH zL
          go_wp2_with (first
           |(refine wpList_load_row rfl 206 _ rfl w.heap.size rfl 206 (row F) (0,0) _ b0 Tryz.underlying206 rfl wm ?_)
           |(refine wpList_store_row rfl 206 _ _ rfl (w.heap.size+1) (row F) rfl rfl 206 (row (List.replicate 8 0)) b1 wm D5 uM ?_))
          try simp only[Exit.inBlock,Exit.then]
          refine bodyPost_ret (v:= .tuple #[.agg (row F),.int .i64 0]) ?_ rfl ⟨?_,?_⟩
          ·rw[results_cell_tmp rfl];simp[asAddr,run_loadVar_row _ (w.heap.size+1) 206 206 (row F) (0,0) _ (setRow_heap _ _ _ _ _ _ b1) Tryz.underlying206 rfl wm]
          ·rw[lJ.O]
          ·exact below_setRow qw.O.below (by omega) _
