/- Lemmas for the claim's theorem;conditions: as each says. -/
import Derived.Test.YtdodihnehppnmaaGreatDoorG06
set_option maxHeartbeats 0
set_option maxRecDepth 100000
set_option linter.all false
namespace Go.Proofs.YtdodihnehppnmaaGreatDoor
open Go.RowKit
def fD(e:ay):Int:=
 if e.size<0∨65536<e.size∨(e.ag≠1∧e.size≠0)then 2
 else if(e.ag=1∧e.aj.length≠32)∨(e.ag≠1∧e.aj≠[])then 1
 else if bM (e.ag==1) e.ak≠0 then bM (e.ag==1) e.ak
 else if fV e.ak≠e.size then 1 else 0
theorem Xnz(l:List Xt)(k:Nat):fV l=fV (l.take k)+fV (l.drop k):=by
 conv=>lhs;rw[←List.take_append_drop k l]
 simp only[fV,List.map_append,List.sum_append]
theorem Xvl{l:List Xt}(h:∀x∈l,cB x=false):0≤fV l:=(Xpi l.length l rfl h).1
theorem Xrw(I:IH)(x:ay)(va vx:Value)(dV:bf kT I va x.ai)(dX:bf mE I vx x.ak)(iZ:x.Wf)(w:World)(hw:Ok I w):
 Calls Tryz.prog 132 #[eT x va vx] w fun e w'=>e= .returned (.int .i64 (fD x))∧Below w.heap.size w w':=by
 have bN:=dX.dh;obtain⟨ao,cap,rfl,dD,il,_⟩:=id dX;obtain⟨uV,cap2,rfl,_,_,_⟩:=id dV;have uY:=Qh dX;have p8:=iZ.s0;have oD:=iZ.s1;have lM:=iZ.aj;clear dX dV iZ;have Da:aW (w.alloc (.cells #[.int .i64 x.ag,S x.af,.slice uV x.ai.length cap2,S x.target,.int .i64 x.size,S x.aj,.slice ao x.ak.length cap] 26)) w.heap.size x (.slice uV x.ai.length cap2) (.slice ao x.ak.length cap):=bS rfl (Qb _ _);have lH:=Qh Da;clear Da;by_cases Ao:x.size<0;case pos=>
  have Hn:=Qh (show fD x=2 by rw[fD,if_pos (.inl Ao)]);by_cases hf:x.ag=1
  ·have f1:((x.ag:Int)==1)=true:=by simpa using hf
   clear hf;go_enter Tryz.func132,Tryz.ntmps132
   go_wp2;go_ret;exact⟨bT Hn.O.symm,(Qb _ _).alloc (Qn _) _⟩
  ·have f1:((x.ag:Int)==1)=false:=by simpa using hf
   clear hf;go_enter Tryz.func132,Tryz.ntmps132
   go_wp2;go_ret;exact⟨bT Hn.O.symm,(Qb _ _).alloc (Qn _) _⟩
 by_cases hf:x.ag=1
 ·have f1:((x.ag:Int)==1)=true:=by simpa using hf
  have f2:((x.ag:Int) !=1)=false:=by simpa using hf
  by_cases hn6:65536<x.size;case pos=>
   have Hn:=Qh (show fD x=2 by rw[fD,if_pos (.inr (.inl hn6))]);clear hf;go_enter Tryz.func132,Tryz.ntmps132
   go_wp2;go_ret;exact⟨bT Hn.O.symm,(Qb _ _).alloc (Qn _) _⟩
  by_cases xL:x.aj.length=32;case neg=>
   have Hn:=Qh (show fD x=1 by rw[fD,if_neg (by omega),if_pos (.inl ⟨hf,xL⟩)]);have z1:((x.aj.length:Int) !=32)=true:=by rw[bne_iff_ne];omega
   clear hf xL;go_enter Tryz.func132,Tryz.ntmps132
   go_wp2;go_ret;exact⟨bT Hn.O.symm,(Qb _ _).alloc (Qn _) _⟩
  have z1:((x.aj.length:Int) !=32)=false:=by rw[xL];rfl
  have Hc:=Qh (show fD x=if bM true x.ak≠0 then bM true x.ak else if fV x.ak≠x.size then 1 else 0 by
   rw[fD,if_neg (by omega),if_neg (by
    rintro(⟨_,h⟩|⟨h,_⟩)
    ·exact h xL
    ·exact h hf),f1])
  have Hfk:=Qh hf;clear hf xL;go_enter Tryz.func132,Tryz.ntmps132
  go_wp2_with fail
  go_loopw [32] (fun Kv wr=> ∃k:Nat,k≤x.ak.length∧Kv= .int .i64 k∧bM true (x.ak.drop k)=bM true x.ak∧aW wr w.heap.size x (.slice uV x.ai.length cap2) (.slice ao x.ak.length cap)∧Below w.heap.size w wr∧w.heap.size<wr.heap.size) (fun i _=>x.ak.length-(intOf i).toNat)
  case atStart=>exact⟨0,Nat.zero_le _,rfl,rfl,lH.O,(Qb _ _).alloc (Qn _) _,by simp⟩
  case round=>
   clear lH;obtain⟨k,hk,rfl,hr,zq,hb,eU⟩:=hrel;have Hr:=Qh hr;clear hr;have HBw:=Qh zq;obtain⟨c0,c1,c2,c3,c4,c5,c6⟩:=zq;have dz:Ok I wr:=hw.below (Qn _) hb;by_cases hlt:k<x.ak.length
   ·obtain⟨y,b,off,cap',iB,di,e0,e1,e2⟩:=wo uY.O dz k hlt;cases di;have F8:=Qh (show x.ak.drop k=y::x.ak.drop (k+1) by rw[List.drop_eq_getElem_cons hlt,iB]);have bB:=Qh (show fD x=if(if cB y then 2 else bM true (x.ak.drop (k+1)))≠0 then(if cB y then 2 else bM true (x.ak.drop (k+1)))else if fV x.ak≠x.size then 1 else 0 by
     rw[Hc.O,←Hr.O,F8.O,Ng])
    clear iB;by_cases h1:y.s<0
    ·have jU:=Qh (show fD x=2 by rw[bB.O,if_pos (show cB y=true by unfold cB;simp;omega)];rfl);go_wp2;go_ret;exact⟨bT jU.O.symm,hb.alloc hb.size _⟩
    by_cases h2:255<y.s
    ·have jU:=Qh (show fD x=2 by rw[bB.O,if_pos (show cB y=true by unfold cB;simp;omega)];rfl);go_wp2;go_ret;exact⟨bT jU.O.symm,hb.alloc hb.size _⟩
    by_cases h5:y.n<1
    ·have jU:=Qh (show fD x=2 by rw[bB.O,if_pos (show cB y=true by unfold cB;simp;omega)];rfl);go_wp2;go_ret;exact⟨bT jU.O.symm,hb.alloc hb.size _⟩
    by_cases h6:65536<y.n
    ·have jU:=Qh (show fD x=2 by rw[bB.O,if_pos (show cB y=true by unfold cB;simp;omega)];rfl);go_wp2;go_ret;exact⟨bT jU.O.symm,hb.alloc hb.size _⟩
    by_cases h3:y.o<0
    ·have jU:=Qh (show fD x=2 by rw[bB.O,if_pos (show cB y=true by unfold cB;simp;omega)];rfl);go_wp2;go_ret;exact⟨bT jU.O.symm,hb.alloc hb.size _⟩
    by_cases h4:2147483647<y.o
    ·have jU:=Qh (show fD x=2 by rw[bB.O,if_pos (show cB y=true by unfold cB;simp;omega)];rfl);go_wp2;go_ret;exact⟨bT jU.O.symm,hb.alloc hb.size _⟩
    by_cases h7:y.s=0
    ·have g7:(y.s==0)=true:=by simpa using h7
     by_cases h8:y.o=0
     ·have g8:(y.o !=0)=false:=by simpa using h8
      have gN:=Qh (show bM true (x.ak.drop (k+1))=bM true x.ak by
       rw[←Hr.O,F8.O,Ng,if_neg (show ¬cB y=true by unfold cB;simp;omega)])
      go_wp2;go_roundw;case rel=>exact⟨k+1,by omega,by go_num,gN.O,HBw.O.past _,hb.alloc hb.size _,by simp;omega⟩
      case measure=>simp[intOf];omega
     ·have g8:(y.o !=0)=true:=by simpa using h8
      have jU:=Qh (show fD x=2 by rw[bB.O,if_pos (show cB y=true by unfold cB;simp;omega)];rfl);go_wp2;go_ret;exact⟨bT jU.O.symm,hb.alloc hb.size _⟩
    ·have g7:(y.s==0)=false:=by simpa using h7
     have gN:=Qh (show bM true (x.ak.drop (k+1))=bM true x.ak by
      rw[←Hr.O,F8.O,Ng,if_neg (show ¬cB y=true by unfold cB;simp;omega)])
     go_wp2;go_roundw;case rel=>exact⟨k+1,by omega,by go_num,gN.O,HBw.O.past _,hb.alloc hb.size _,by simp;omega⟩
     case measure=>simp[intOf];omega
   ·have Nj:=Qh (show bM true x.ak=0 by rw[←Hr.O,List.drop_of_length_le (by omega)];rfl);have IU:=Qh (VN _ Nj.O);have Fv:=Qh (show fD x=if fV x.ak≠x.size then 1 else 0 by rw[Hc.O,Nj.O];rfl);go_wp2_with fail
    go_loopw [5,81] (fun s5 WJ wq=> ∃(j:Nat) (r:Int),j≤x.ak.length∧WJ= .int .i64 j∧s5= .int .i64 r∧0≤r∧r≤65536∧r=x.size-fV (x.ak.take j)∧Below w.heap.size w wq) (fun _ i _=>x.ak.length-(intOf i).toNat)
    case atStart=>exact⟨0,x.size,Nat.zero_le _,rfl,rfl,by omega,by omega,by simp[fV],hb⟩
    case round=>
     clear c0 c1 c2 c3 c4 c5 c6 dz hb;obtain⟨j,r,hj,rfl,rfl,hr0,Ky,hrr,hb⟩:=hrel;have Pv:=Qh hrr;clear hrr;have dz:Ok I wr:=hw.below (Qn _) hb;by_cases jm:j<x.ak.length
     ·obtain⟨y,b,off,cap',iB,di,e0,e1,e2⟩:=wo uY.O dz j jm;cases di;have Oj:cB y=false:=IU.O y (by rw[←iB];exact List.getElem_mem jm);have UO:=VO Oj;have nG:=Qh (show fV (x.ak.take (j+1))=fV (x.ak.take j)+y.n by rw[List.take_succ_eq_append_getElem jm,iB,VP]);clear iB Oj;by_cases xu:r<y.n
      ·have Hn:=Qh (show fD x=1 by
        rw[Fv.O,if_pos];have h1:=Xnz x.ak (j+1);have h2:=Xvl (l:=x.ak.drop (j+1)) fun z hz=>IU.O z (List.mem_of_mem_drop hz);have h3:=nG.O;have h4:=Pv.O;omega)
       go_wp2;go_ret;exact⟨bT Hn.O.symm,hb.alloc hb.size _⟩
      ·have uF:IntKind.i64.wrap (r-y.n)=r-y.n:=IntWalk.i64_in _ (by omega);go_wp2;go_roundw;case rel=>exact⟨j+1,r-y.n,by omega,by go_num,by go_num,by omega,by omega,(by have h3:=nG.O;have h4:=Pv.O;omega),hb.alloc hb.size _⟩
       case measure=>simp[intOf];omega
     ·have aG:x.ak.take j=x.ak:=List.take_of_length_le (by omega);rw[aG]at Pv;clear aG;by_cases hz:r=0
      ·have z0:(r !=0)=false:=by simpa using hz
       have Hn:=Qh (show fD x=0 by rw[Fv.O,if_neg];have:=Pv.O;omega);clear hz;go_wp2;go_ret;exact⟨bT Hn.O.symm,hb⟩
      ·have z0:(r !=0)=true:=by simpa using hz
       have Hn:=Qh (show fD x=1 by rw[Fv.O,if_pos];have:=Pv.O;omega);clear hz;go_wp2;go_ret;exact⟨bT Hn.O.symm,hb⟩
 ·have f1:((x.ag:Int)==1)=false:=by simpa using hf
  have f2:((x.ag:Int) !=1)=true:=by simpa using hf
  by_cases hz:x.size=0;case neg=>
   have Hn:=Qh (show fD x=2 by rw[fD,if_pos (.inr (.inr ⟨hf,hz⟩))]);have xu:0<x.size:=by omega
   clear hf hz;go_enter Tryz.func132,Tryz.ntmps132
   go_wp2;go_ret;exact⟨bT Hn.O.symm,(Qb _ _).alloc (Qn _) _⟩
  have cO:x.size≤0:=by omega
  by_cases xL:x.aj.length=0;case neg=>
   have Hn:=Qh (show fD x=1 by rw[fD,if_neg (by omega),if_pos (.inr ⟨hf,fun e=>xL (by rw[e];rfl)⟩)]);have z1:((x.aj.length:Int) !=0)=true:=by rw[bne_iff_ne];omega
   clear hf xL;go_enter Tryz.func132,Tryz.ntmps132
   go_wp2;go_ret;exact⟨bT Hn.O.symm,(Qb _ _).alloc (Qn _) _⟩
  have z1:((x.aj.length:Int) !=0)=false:=by rw[xL];rfl
  have Hc:=Qh (show fD x=if bM false x.ak≠0 then bM false x.ak else if fV x.ak≠x.size then 1 else 0 by
   rw[fD,if_neg (by omega),if_neg (by
    rintro(⟨h,_⟩|⟨_,h⟩)
    ·exact hf h
    ·exact h (List.eq_nil_of_length_eq_zero xL)),f1])
  have Hz:=Qh hz;clear hf xL hz;by_cases pR:0<x.ak.length
  ·obtain⟨y,b,off,cap',iB,di,e0,e1,e2⟩:=wo uY.O (hw.alloc (.cells #[.int .i64 x.ag,S x.af,.slice uV x.ai.length cap2,S x.target,.int .i64 x.size,S x.aj,.slice ao x.ak.length cap] 26)) 0 pR;cases di;have sQ:x.ak=y::x.ak.drop 1:=by rw[←iB,←List.drop_eq_getElem_cons pR];rfl
   have Hn:=Qh (show fD x=1 by rw[Hc.O,sQ];rfl);rw[Nat.zero_mul,Nat.add_zero]at e0 e1 e2;clear iB sQ;go_enter Tryz.func132,Tryz.ntmps132
   go_wp2_with fail
   go_loopw [32] (fun Kv wr=>Kv= .int .i64 0∧w.alloc (.cells #[.int .i64 x.ag,S x.af,.slice uV x.ai.length cap2,S x.target,.int .i64 x.size,S x.aj,.slice (some ⟨b,off,none⟩) x.ak.length cap] 26)=wr) (fun _ _=>0)
   case atStart=>exact⟨rfl,rfl⟩
   case round=>
    obtain⟨rfl,dz⟩:=hrel;subst dz;go_wp2;go_ret;exact⟨bT Hn.O.symm,((Qb _ _).alloc (Qn _) _).alloc (by simp) _⟩
  ·have Nj:=Qh (show x.ak=[]from List.eq_nil_of_length_eq_zero (by omega));have Hn:=Qh (show fD x=0 by rw[Hc.O,Nj.O,Hz.O];rfl);have z0:(x.size !=0)=false:=by rw[Hz.O];rfl
   go_enter Tryz.func132,Tryz.ntmps132
   go_wp2_with fail
   go_loopw [32] (fun Kv wr=>Kv= .int .i64 0∧w.alloc (.cells #[.int .i64 x.ag,S x.af,.slice uV x.ai.length cap2,S x.target,.int .i64 x.size,S x.aj,.slice ao x.ak.length cap] 26)=wr) (fun _ _=>0)
   case atStart=>exact⟨rfl,rfl⟩
   case round=>
    obtain⟨rfl,dz⟩:=hrel;subst dz;go_wp2_with fail
    go_loopw [5,81] (fun s5 WJ wr=>s5= .int .i64 x.size∧WJ= .int .i64 0∧w.alloc (.cells #[.int .i64 x.ag,S x.af,.slice uV x.ai.length cap2,S x.target,.int .i64 x.size,S x.aj,.slice ao x.ak.length cap] 26)=wr) (fun _ _ _=>0)
    case atStart=>exact⟨rfl,rfl,rfl⟩
    case round=>
     obtain⟨rfl,rfl,dz⟩:=hrel;subst dz;go_wp2;go_ret;exact⟨bT Hn.O.symm,(Qb _ _).alloc (Qn _) _⟩
theorem Tz(e:ay):az e=
 if e.ag<1∨6<e.ag then 10
 else if aF e.af≠0 then aF e.af
 else if e.af=[]∧e.ag<5 then 1
 else if mq e.ai≠0 then mq e.ai
 else if(e.ai≠[]∧3<e.ag)∨bG e=false then 1 else fD e:=rfl
theorem TA(I:IH)(hI:dG I)(x:ay)(va vx:Value)(dV:bf kT I va x.ai)(dX:bf mE I vx x.ak)(iZ:x.Wf)(mK:x.af.length≤4294967280)(o9:x.target.length≤4294967280)(w:World)(hw:Ok I w):
 Calls Tryz.prog 76 #[eT x va vx] w fun e w'=>e= .returned (.int .i64 (az x))∧Below w.heap.size w w':=by
 have bN:=dX.dh;have hla:=dV.dh;have Hct:=Qh (fun w hw=>Xrw I x va vx dV dX iZ w hw);have Ki:=Qh (fun w hw=>Xul I hI x o9 va vx w hw);obtain⟨ao,cap,rfl,dD,il,_⟩:=id dX;obtain⟨uV,cap2,rfl,qK,rJ,_⟩:=id dV;have za:=Qh dV;clear dX dV;have wF:=Qh (fun w hw=>Xpy I hI x.af mK w hw);have OP:=Qh (fun w hw=>Xxv I _ x.ai za.O iZ.ai w hw);have p8:=iZ.s0;have oD:=iZ.s1;have qV:=iZ.k0;have pg:=iZ.k1;have lM:=iZ.aj;clear iZ;by_cases Ie:x.ag<1;case pos=>
  have Hn:=Qh (show az x=10 by rw[Tz,if_pos (.inl Ie)]);go_enter Tryz.func76,Tryz.ntmps76
  go_wp2;go_ret;exact⟨bT Hn.O.symm,(Qb _ _).alloc (Qn _) _⟩
 by_cases hkg:6<x.ag;case pos=>
  have Hn:=Qh (show az x=10 by rw[Tz,if_pos (.inr hkg)]);go_enter Tryz.func76,Tryz.ntmps76
  go_wp2;go_ret;exact⟨bT Hn.O.symm,(Qb _ _).alloc (Qn _) _⟩
 have He:=Qh (show az x=_ by rw[Tz,if_neg (show ¬(x.ag<1∨6<x.ag) by omega)]);by_cases Cs:aF x.af=0;case neg=>
  obtain⟨q,hq⟩:∃q,aF x.af=q:=⟨_,rfl⟩;have hn:(q !=0)=true:=by rw[←hq];simpa using Cs
  have Hn:=Qh (show az x=q by rw[He.O,if_pos Cs,hq]);rw[hq]at wF;clear hq Cs;go_enter Tryz.func76,Tryz.ntmps76
  go_wp2_with fail
  refine(wF.O _ (hw.alloc _)).mono ?_;rintro e w1 ⟨rfl,au⟩;have av:Below w.heap.size w w1:=((Qb _ _).alloc (Qn _) _).trans (au.mono (by simp));have cO:w.heap.size<w1.heap.size:=by have:=au.size;simp at this;omega
  have aB:Ok I w1:=(hw.alloc _).below (Qn _) au;obtain⟨c0,c1,c2,c3,c4,c5,c6⟩:=bS rfl au;clear au;go_wp2;go_ret;exact⟨bT Hn.O.symm,av⟩
 replace He:=Qh (show az x=_ by rw[He.O,if_neg (show ¬aF x.af≠0 by omega)]);rw[Cs]at wF;clear Cs;by_cases xY:x.af=[]∧x.ag<5;case pos=>
  have Hn:=Qh (show az x=1 by rw[He.O,if_pos xY]);obtain⟨p1,p2,p3,p4⟩:=Bu xY.1;have k5:((x.ag:Int) !=5)=true:=by rw[bne_iff_ne];omega
  have k6:((x.ag:Int) !=6)=true:=by rw[bne_iff_ne];omega
  have hk5:=xY.2;clear xY;go_enter Tryz.func76,Tryz.ntmps76
  go_wp2_with fail
  refine(wF.O _ (hw.alloc _)).mono ?_;rintro e w1 ⟨rfl,au⟩;have av:Below w.heap.size w w1:=((Qb _ _).alloc (Qn _) _).trans (au.mono (by simp));have cO:w.heap.size<w1.heap.size:=by have:=au.size;simp at this;omega
  have aB:Ok I w1:=(hw.alloc _).below (Qn _) au;obtain⟨c0,c1,c2,c3,c4,c5,c6⟩:=bS rfl au;clear au;go_wp2;go_ret;exact⟨bT Hn.O.symm,av⟩
 replace He:=Qh (show az x=_ by rw[He.O,if_neg xY]);have Nh:(((x.af==[])=true∧x.af.isEmpty=true∧(!x.af.isEmpty)=false∧(x.af !=[])=false)∧(x.ag=5∨x.ag=6))∨((x.af==[])=false∧x.af.isEmpty=false∧(!x.af.isEmpty)=true∧(x.af !=[])=true):=by
  by_cases h:x.af=[]
  ·left;exact⟨Bu h,by have:=Int.not_lt.1 fun h2=>xY ⟨h,h2⟩;omega⟩
  ·right;exact zC h
 clear xY;go_enter Tryz.func76,Tryz.ntmps76
 go_wp2_with fail
 refine(wF.O _ (hw.alloc _)).mono ?_;rintro e w1 ⟨rfl,au⟩;have av:Below w.heap.size w w1:=((Qb _ _).alloc (Qn _) _).trans (au.mono (by simp));have cO:w.heap.size<w1.heap.size:=by have:=au.size;simp at this;omega
 have aB:Ok I w1:=(hw.alloc _).below (Qn _) au;obtain⟨c0,c1,c2,c3,c4,c5,c6⟩:=bS rfl au;clear au;clear wF;go_upto_region 6 with fail
 go_cut [31] (fun WK wx=>WK= .bool false∧w1=wx)
 case first=>
  rcases Nh with⟨⟨p1,p2,p3,p4⟩,p5|p5⟩|⟨p1,p2,p3,p4⟩
  ·have k5:((x.ag:Int) !=5)=false:=by rw[p5];rfl
   clear p5;go_wp2_with fail
   go_meet;exact⟨rfl,rfl⟩
  ·have k5:((x.ag:Int) !=5)=true:=by rw[p5];rfl
   have k6:((x.ag:Int) !=6)=false:=by rw[p5];rfl
   clear p5;go_wp2_with fail
   go_meet;exact⟨rfl,rfl⟩
  ·go_wp2_with fail
   go_meet;exact⟨rfl,rfl⟩
 case rest=>
  obtain⟨rfl,hcut⟩:=hcut;subst hcut;clear Nh;go_wp2_with fail
  refine(OP.O _ aB).mono ?_;rintro e w2 ⟨rfl,aD⟩;have aK:=av.trans (aD.mono (Nat.le_of_lt cO));have fe:w.heap.size<w2.heap.size:=by have:=aD.size;omega
  have aP:Ok I w2:=aB.below (Qn _) aD;obtain⟨c0,c1,c2,c3,c4,c5,c6⟩:=aW.aA (⟨c0,c1,c2,c3,c4,c5,c6⟩:aW w1 w.heap.size x _ _) aD;clear aD av cO aB;by_cases Dr:mq x.ai=0;case neg=>
   obtain⟨q,hq⟩:∃q,mq x.ai=q:=⟨_,rfl⟩;have hn:(q !=0)=true:=by rw[←hq];simpa using Dr
   have Hn:=Qh (show az x=q by rw[He.O,if_pos Dr,hq]);rw[hq];clear hq Dr;go_wp2;go_ret;exact⟨bT Hn.O.symm,aK⟩
  replace He:=Qh (show az x=_ by rw[He.O,if_neg (show ¬mq x.ai≠0 by omega)]);rw[Dr];clear Dr OP;go_upto_region 11 with fail
  go_cut [51] (fun TB wx=> ∃w3,w3=wx∧(TB= .bool true∧az x=1∨TB= .bool false∧ ¬((x.ai≠[]∧3<x.ag)∨bG x=false))∧Below w2.heap.size w2 w3)
  case first=>
   have nE:x.ai.length<1∨(0<x.ai.length∧3<x.ag)∨(0<x.ai.length∧x.ag≤3):=by omega
   rcases nE with ha|⟨ha,tL⟩|⟨ha,tL⟩
   ·have d0:decide (0<x.ai.length)=false:=Qf (by omega);have AL:=Qh (show x.ai=[]from List.eq_nil_of_length_eq_zero (by omega));go_wp2_with fail
    refine(Ki.O _ aP).mono ?_;rintro e w3 ⟨rfl,bU⟩;cases zD:bG x
    ·have Hn:=Qh (show az x=1 by rw[He.O,if_pos (.inr zD)]);clear zD;go_wp2_with fail
     go_meet;exact⟨_,rfl,.inl ⟨rfl,Hn.O⟩,bU⟩
    ·go_wp2_with fail
     go_meet;refine⟨_,rfl,.inr ⟨(by first|rfl|(congr 1;exact Qf (by omega))),?_⟩,bU⟩;rintro(⟨h1,h2⟩|h1)
     ·first
       |exact h1 AL.O
       |omega
     ·rw[zD]at h1;exact absurd h1 (by simp)
   ·have d0:decide (0<x.ai.length)=true:=Qt ha;have Hn:=Qh (show az x=1 by rw[He.O,if_pos (.inl ⟨by intro e;rw[e]at ha;simp at ha,tL⟩)]);go_wp2_with fail
    go_meet;exact⟨_,rfl,.inl ⟨(by first|rfl|(congr 1;exact Qt (by omega))),Hn.O⟩,Qb _ _⟩
   ·have d0:decide (0<x.ai.length)=true:=Qt ha;go_wp2_with fail
    refine(Ki.O _ aP).mono ?_;rintro e w3 ⟨rfl,bU⟩;cases zD:bG x
    ·have Hn:=Qh (show az x=1 by rw[He.O,if_pos (.inr zD)]);clear zD;go_wp2_with fail
     go_meet;exact⟨_,rfl,.inl ⟨rfl,Hn.O⟩,bU⟩
    ·go_wp2_with fail
     go_meet;refine⟨_,rfl,.inr ⟨(by first|rfl|(congr 1;exact Qf (by omega))),?_⟩,bU⟩;rintro(⟨h1,h2⟩|h1)
     ·first
       |exact h1 AL.O
       |omega
     ·rw[zD]at h1;exact absurd h1 (by simp)
  case rest=>
   obtain⟨w3,oF,qi,bU⟩:=hcut;subst oF;have df:=aK.trans (bU.mono (Nat.le_of_lt fe));have bQ:Ok I w3:=aP.below (Qn _) bU;obtain⟨c0,c1,c2,c3,c4,c5,c6⟩:=aW.aA (⟨c0,c1,c2,c3,c4,c5,c6⟩:aW w2 w.heap.size x _ _) bU;clear bU aK fe aP Ki;rcases qi with⟨rfl,hn⟩|⟨rfl,qi⟩
   ·have Hn:=Qh hn;clear hn;go_wp2;go_ret;exact⟨bT Hn.O.symm,df⟩
   have Hn:=Qh (show az x=fD x by rw[He.O,if_neg qi]);clear qi;go_wp2_with fail
   refine(Hct.O _ bQ).mono ?_;rintro e w4 ⟨rfl,aL⟩;go_wp2;go_ret;exact⟨bT Hn.O.symm,df.trans (aL.mono df.size)⟩
