/- Lemmas for the claim's theorem;conditions: as each says. -/
import Derived.Test.YtmdfjnhfhidmhaaGreatDoorQ06
set_option maxHeartbeats 0
set_option maxRecDepth 100000
set_option linter.all false
namespace Go.Proofs.YtmdfjnhfhidmhaaGreatDoor
open Go.RowKit
def dH(e:aQ):Int:=
 if e.size<0∨65536<e.size∨(e.aj≠1∧e.size≠0)then 2
 else if(e.aj=1∧e.aI.length≠32)∨(e.aj≠1∧e.aI≠[])then 1
 else if cz (e.aj==1) e.aD≠0 then cz (e.aj==1) e.aD
 else if gH e.aD≠e.size then 1 else 0
theorem Xjq(l:List Xt)(k:Nat):gH l=gH (l.take k)+gH (l.drop k):=by
 conv=>lhs;rw[←List.take_append_drop k l]
 simp only[gH,List.map_append,List.sum_append]
theorem Xo7{l:List Xt}(h:∀x∈l,dE x=false):0≤gH l:=(Xo8 l.length l rfl h).1
theorem Xmj(I:IH)(x:aQ)(va vx:Value)(gW:aY lv I va x.au)(j6:aY kQ I vx x.aD)(lu:x.Wf)(w:World)(hw:Ok I w):
 Calls Tryz.prog 133 #[fG x va vx] w fun e w'=>e= .returned (.int .i64 (dH x))∧Below w.heap.size w w':=by
 have dz:=j6.bK;obtain⟨ao,cap,rfl,dM,gV,_⟩:=id j6;obtain⟨vC,cap2,rfl,_,_,_⟩:=id gW;have Js:=Qh j6;have lN:=lu.s0;have xu:=lu.s1;have xq:=lu.aI;clear j6 gW lu;have CO:eY (w.alloc (.cells #[.int .i64 x.aj,S x.ag,.slice vC x.au.length cap2,S x.av,.int .i64 x.size,S x.aI,.slice ao x.aD.length cap] 81)) w.heap.size x (.slice vC x.au.length cap2) (.slice ao x.aD.length cap):=eO rfl (Qb _ _);have HB0:=Qh CO;clear CO;by_cases Gi:x.size<0;case pos=>
  have Hn:=Qh (show dH x=2 by rw[dH,if_pos (.inl Gi)]);by_cases hf:x.aj=1
  ·have f1:((x.aj:Int)==1)=true:=by simpa using hf
   clear hf;go_enter Tryz.func133,Tryz.ntmps133
   go_wp2;go_ret;exact⟨dK Hn.q.symm,(Qb _ _).alloc (Qn _) _⟩
  ·have f1:((x.aj:Int)==1)=false:=by simpa using hf
   clear hf;go_enter Tryz.func133,Tryz.ntmps133
   go_wp2;go_ret;exact⟨dK Hn.q.symm,(Qb _ _).alloc (Qn _) _⟩
 by_cases hf:x.aj=1
 ·have f1:((x.aj:Int)==1)=true:=by simpa using hf
  have f2:((x.aj:Int) !=1)=false:=by simpa using hf
  by_cases yz:65536<x.size;case pos=>
   have Hn:=Qh (show dH x=2 by rw[dH,if_pos (.inr (.inl yz))]);clear hf;go_enter Tryz.func133,Tryz.ntmps133
   go_wp2;go_ret;exact⟨dK Hn.q.symm,(Qb _ _).alloc (Qn _) _⟩
  by_cases u7:x.aI.length=32;case neg=>
   have Hn:=Qh (show dH x=1 by rw[dH,if_neg (by omega),if_pos (.inl ⟨hf,u7⟩)]);have z1:((x.aI.length:Int) !=32)=true:=by rw[bne_iff_ne];omega
   clear hf u7;go_enter Tryz.func133,Tryz.ntmps133
   go_wp2;go_ret;exact⟨dK Hn.q.symm,(Qb _ _).alloc (Qn _) _⟩
  have z1:((x.aI.length:Int) !=32)=false:=by rw[u7];rfl
  have Hc:=Qh (show dH x=if cz true x.aD≠0 then cz true x.aD else if gH x.aD≠x.size then 1 else 0 by
   rw[dH,if_neg (by omega),if_neg (by
    rintro(⟨_,h⟩|⟨h,_⟩)
    ·exact h u7
    ·exact h hf),f1])
  have Hfk:=Qh hf;clear hf u7;go_enter Tryz.func133,Tryz.ntmps133
  go_wp2_with fail
  go_loopw [32] (fun EF wr=> ∃k:Nat,k≤x.aD.length∧EF= .int .i64 k∧cz true (x.aD.drop k)=cz true x.aD∧eY wr w.heap.size x (.slice vC x.au.length cap2) (.slice ao x.aD.length cap)∧Below w.heap.size w wr∧w.heap.size<wr.heap.size) (fun i _=>x.aD.length-(intOf i).toNat)
  case atStart=>exact⟨0,Nat.zero_le _,rfl,rfl,HB0.q,(Qb _ _).alloc (Qn _) _,by simp⟩
  case round=>
   clear HB0;obtain⟨k,hk,rfl,hr,vz,hb,cu⟩:=hrel;have Hr:=Qh hr;clear hr;have WQ:=Qh vz;obtain⟨c0,c1,c2,c3,c4,c5,c6⟩:=vz;have gZ:Ok I wr:=hw.below (Qn _) hb;by_cases hlt:k<x.aD.length
   ·obtain⟨y,b,off,cap',jJ,dC,e0,e1,e2⟩:=tZ Js.q gZ k hlt;cases dC;have Qu:=Qh (show x.aD.drop k=y::x.aD.drop (k+1) by rw[List.drop_eq_getElem_cons hlt,jJ]);have bT:=Qh (show dH x=if(if dE y then 2 else cz true (x.aD.drop (k+1)))≠0 then(if dE y then 2 else cz true (x.aD.drop (k+1)))else if gH x.aD≠x.size then 1 else 0 by
     rw[Hc.q,←Hr.q,Qu.q,PN])
    clear jJ;by_cases h1:y.s<0
    ·have nT:=Qh (show dH x=2 by rw[bT.q,if_pos (show dE y=true by unfold dE;simp;omega)];rfl);go_wp2;go_ret;exact⟨dK nT.q.symm,hb.alloc hb.size _⟩
    by_cases h2:255<y.s
    ·have nT:=Qh (show dH x=2 by rw[bT.q,if_pos (show dE y=true by unfold dE;simp;omega)];rfl);go_wp2;go_ret;exact⟨dK nT.q.symm,hb.alloc hb.size _⟩
    by_cases h5:y.n<1
    ·have nT:=Qh (show dH x=2 by rw[bT.q,if_pos (show dE y=true by unfold dE;simp;omega)];rfl);go_wp2;go_ret;exact⟨dK nT.q.symm,hb.alloc hb.size _⟩
    by_cases h6:65536<y.n
    ·have nT:=Qh (show dH x=2 by rw[bT.q,if_pos (show dE y=true by unfold dE;simp;omega)];rfl);go_wp2;go_ret;exact⟨dK nT.q.symm,hb.alloc hb.size _⟩
    by_cases h3:y.o<0
    ·have nT:=Qh (show dH x=2 by rw[bT.q,if_pos (show dE y=true by unfold dE;simp;omega)];rfl);go_wp2;go_ret;exact⟨dK nT.q.symm,hb.alloc hb.size _⟩
    by_cases h4:2147483647<y.o
    ·have nT:=Qh (show dH x=2 by rw[bT.q,if_pos (show dE y=true by unfold dE;simp;omega)];rfl);go_wp2;go_ret;exact⟨dK nT.q.symm,hb.alloc hb.size _⟩
    by_cases h7:y.s=0
    ·have g7:(y.s==0)=true:=by simpa using h7
     by_cases h8:y.o=0
     ·have g8:(y.o !=0)=false:=by simpa using h8
      have qM:=Qh (show cz true (x.aD.drop (k+1))=cz true x.aD by
       rw[←Hr.q,Qu.q,PN,if_neg (show ¬dE y=true by unfold dE;simp;omega)])
      go_wp2;go_roundw;case rel=>exact⟨k+1,by omega,by go_num,qM.q,WQ.q.past _,hb.alloc hb.size _,by simp;omega⟩
      case measure=>simp[intOf];omega
     ·have g8:(y.o !=0)=true:=by simpa using h8
      have nT:=Qh (show dH x=2 by rw[bT.q,if_pos (show dE y=true by unfold dE;simp;omega)];rfl);go_wp2;go_ret;exact⟨dK nT.q.symm,hb.alloc hb.size _⟩
    ·have g7:(y.s==0)=false:=by simpa using h7
     have qM:=Qh (show cz true (x.aD.drop (k+1))=cz true x.aD by
      rw[←Hr.q,Qu.q,PN,if_neg (show ¬dE y=true by unfold dE;simp;omega)])
     go_wp2;go_roundw;case rel=>exact⟨k+1,by omega,by go_num,qM.q,WQ.q.past _,hb.alloc hb.size _,by simp;omega⟩
     case measure=>simp[intOf];omega
   ·have EG:=Qh (show cz true x.aD=0 by rw[←Hr.q,List.drop_of_length_le (by omega)];rfl);have Dr:=Qh (VK _ EG.q);have Qv:=Qh (show dH x=if gH x.aD≠x.size then 1 else 0 by rw[Hc.q,EG.q];rfl);go_wp2_with fail
    go_loopw [5,81] (fun s5 Qw wq=> ∃(j:Nat) (r:Int),j≤x.aD.length∧Qw= .int .i64 j∧s5= .int .i64 r∧0≤r∧r≤65536∧r=x.size-gH (x.aD.take j)∧Below w.heap.size w wq) (fun _ i _=>x.aD.length-(intOf i).toNat)
    case atStart=>exact⟨0,x.size,Nat.zero_le _,rfl,rfl,by omega,by omega,by simp[gH],hb⟩
    case round=>
     clear c0 c1 c2 c3 c4 c5 c6 gZ hb;obtain⟨j,r,hj,rfl,rfl,Gs,yB,hrr,hb⟩:=hrel;have JO:=Qh hrr;clear hrr;have gZ:Ok I wr:=hw.below (Qn _) hb;by_cases kK:j<x.aD.length
     ·obtain⟨y,b,off,cap',jJ,dC,e0,e1,e2⟩:=tZ Js.q gZ j kK;cases dC;have hym:dE y=false:=Dr.q y (by rw[←jJ];exact List.getElem_mem kK);have UW:=VL hym;have tC:=Qh (show gH (x.aD.take (j+1))=gH (x.aD.take j)+y.n by rw[List.take_succ_eq_append_getElem kK,jJ,VM]);clear jJ hym;by_cases hgt:r<y.n
      ·have Hn:=Qh (show dH x=1 by
        rw[Qv.q,if_pos];have h1:=Xjq x.aD (j+1);have h2:=Xo7 (l:=x.aD.drop (j+1)) fun z hz=>Dr.q z (List.mem_of_mem_drop hz);have h3:=tC.q;have h4:=JO.q;omega)
       go_wp2;go_ret;exact⟨dK Hn.q.symm,hb.alloc hb.size _⟩
      ·have Ei:IntKind.i64.wrap (r-y.n)=r-y.n:=IntWalk.i64_in _ (by omega);go_wp2;go_roundw;case rel=>exact⟨j+1,r-y.n,by omega,by go_num,by go_num,by omega,by omega,(by have h3:=tC.q;have h4:=JO.q;omega),hb.alloc hb.size _⟩
       case measure=>simp[intOf];omega
     ·have aA:x.aD.take j=x.aD:=List.take_of_length_le (by omega);rw[aA]at JO;clear aA;by_cases hz:r=0
      ·have z0:(r !=0)=false:=by simpa using hz
       have Hn:=Qh (show dH x=0 by rw[Qv.q,if_neg];have:=JO.q;omega);clear hz;go_wp2;go_ret;exact⟨dK Hn.q.symm,hb⟩
      ·have z0:(r !=0)=true:=by simpa using hz
       have Hn:=Qh (show dH x=1 by rw[Qv.q,if_pos];have:=JO.q;omega);clear hz;go_wp2;go_ret;exact⟨dK Hn.q.symm,hb⟩
 ·have f1:((x.aj:Int)==1)=false:=by simpa using hf
  have f2:((x.aj:Int) !=1)=true:=by simpa using hf
  by_cases hz:x.size=0;case neg=>
   have Hn:=Qh (show dH x=2 by rw[dH,if_pos (.inr (.inr ⟨hf,hz⟩))]);have hgt:0<x.size:=by omega
   clear hf hz;go_enter Tryz.func133,Tryz.ntmps133
   go_wp2;go_ret;exact⟨dK Hn.q.symm,(Qb _ _).alloc (Qn _) _⟩
  have bW:x.size≤0:=by omega
  by_cases u7:x.aI.length=0;case neg=>
   have Hn:=Qh (show dH x=1 by rw[dH,if_neg (by omega),if_pos (.inr ⟨hf,fun e=>u7 (by rw[e];rfl)⟩)]);have z1:((x.aI.length:Int) !=0)=true:=by rw[bne_iff_ne];omega
   clear hf u7;go_enter Tryz.func133,Tryz.ntmps133
   go_wp2;go_ret;exact⟨dK Hn.q.symm,(Qb _ _).alloc (Qn _) _⟩
  have z1:((x.aI.length:Int) !=0)=false:=by rw[u7];rfl
  have Hc:=Qh (show dH x=if cz false x.aD≠0 then cz false x.aD else if gH x.aD≠x.size then 1 else 0 by
   rw[dH,if_neg (by omega),if_neg (by
    rintro(⟨h,_⟩|⟨_,h⟩)
    ·exact hf h
    ·exact h (List.eq_nil_of_length_eq_zero u7)),f1])
  have Hz:=Qh hz;clear hf u7 hz;by_cases vv:0<x.aD.length
  ·obtain⟨y,b,off,cap',jJ,dC,e0,e1,e2⟩:=tZ Js.q (hw.alloc (.cells #[.int .i64 x.aj,S x.ag,.slice vC x.au.length cap2,S x.av,.int .i64 x.size,S x.aI,.slice ao x.aD.length cap] 81)) 0 vv;cases dC;have UX:x.aD=y::x.aD.drop 1:=by rw[←jJ,←List.drop_eq_getElem_cons vv];rfl
   have Hn:=Qh (show dH x=1 by rw[Hc.q,UX];rfl);rw[Nat.zero_mul,Nat.add_zero]at e0 e1 e2;clear jJ UX;go_enter Tryz.func133,Tryz.ntmps133
   go_wp2_with fail
   go_loopw [32] (fun EF wr=>EF= .int .i64 0∧w.alloc (.cells #[.int .i64 x.aj,S x.ag,.slice vC x.au.length cap2,S x.av,.int .i64 x.size,S x.aI,.slice (some ⟨b,off,none⟩) x.aD.length cap] 81)=wr) (fun _ _=>0)
   case atStart=>exact⟨rfl,rfl⟩
   case round=>
    obtain⟨rfl,gZ⟩:=hrel;subst gZ;go_wp2;go_ret;exact⟨dK Hn.q.symm,((Qb _ _).alloc (Qn _) _).alloc (by simp) _⟩
  ·have EG:=Qh (show x.aD=[]from List.eq_nil_of_length_eq_zero (by omega));have Hn:=Qh (show dH x=0 by rw[Hc.q,EG.q,Hz.q];rfl);have z0:(x.size !=0)=false:=by rw[Hz.q];rfl
   go_enter Tryz.func133,Tryz.ntmps133
   go_wp2_with fail
   go_loopw [32] (fun EF wr=>EF= .int .i64 0∧w.alloc (.cells #[.int .i64 x.aj,S x.ag,.slice vC x.au.length cap2,S x.av,.int .i64 x.size,S x.aI,.slice ao x.aD.length cap] 81)=wr) (fun _ _=>0)
   case atStart=>exact⟨rfl,rfl⟩
   case round=>
    obtain⟨rfl,gZ⟩:=hrel;subst gZ;go_wp2_with fail
    go_loopw [5,81] (fun s5 Qw wr=>s5= .int .i64 x.size∧Qw= .int .i64 0∧w.alloc (.cells #[.int .i64 x.aj,S x.ag,.slice vC x.au.length cap2,S x.av,.int .i64 x.size,S x.aI,.slice ao x.aD.length cap] 81)=wr) (fun _ _ _=>0)
    case atStart=>exact⟨rfl,rfl,rfl⟩
    case round=>
     obtain⟨rfl,rfl,gZ⟩:=hrel;subst gZ;go_wp2;go_ret;exact⟨dK Hn.q.symm,(Qb _ _).alloc (Qn _) _⟩
