/- Lemmas for the claim's theorem;conditions: as each says. -/
import Derived.Test.YtdodihnehppnmaaGreatDoorG03
set_option maxHeartbeats 0
set_option maxRecDepth 100000
set_option linter.all false
namespace Go.Proofs.YtdodihnehppnmaaGreatDoor
open Go.RowKit
theorem zC{l:ae}(h:l≠[]):(l==[])=false∧l.isEmpty=false∧(!l.isEmpty)=true∧(l !=[])=true:=by
 cases l with
 |nil=>exact absurd rfl h
 |cons a l=>exact⟨rfl,rfl,rfl,rfl⟩
theorem Bu{l:ae}(h:l=[]):(l==[])=true∧l.isEmpty=true∧(!l.isEmpty)=false∧(l !=[])=false:=by
 subst h;exact⟨rfl,rfl,rfl,rfl⟩
theorem Ng(x:Xt)(l:List Xt):bM true (x::l)=if cB x then 2 else bM true l:=rfl
theorem OO(I:IH)(x:ay)(va vx:Value)(dV:bf kT I va x.ai)(dX:bf mE I vx x.ak)(iZ:x.Wf)(w:World)(hw:Ok I w):
 Calls Tryz.prog 100 #[eT x va vx] w fun e w'=>e= .returned (.int .i64 (aX x))∧Below w.heap.size w w':=by
 have bN:=dX.dh;have hla:=dV.dh;obtain⟨ao,cap,rfl,dD,il,_⟩:=id dX;obtain⟨uV,cap2,rfl,qK,rJ,_⟩:=id dV;have uY:=Qh dX;have za:=Qh dV;clear dX dV;have Kh:=Qh (fun w=>Xjy x.ag w);have wF:=Qh (fun w hw=>Sy I x.af w hw);have OP:=Qh (fun w hw=>Xof I _ x.ai za.O iZ.ai w hw);have Ki:=Qh (fun w=>Xl8 x iZ.target (.slice uV x.ai.length cap2) (.slice ao x.ak.length cap) w);have p8:=iZ.s0;have oD:=iZ.s1;have hp1:=iZ.af;have lM:=iZ.aj;have uO:=Qh iZ.ak;clear iZ;have JG:=vJ (k:=x.ag);by_cases hk:x.ag<1∨6<x.ag;case pos=>
  have Hn:=Qh (show aX x=10 by rw[aX,if_pos hk]);rw[JG.2 hk]at Kh;clear JG hk;go_enter Tryz.func100,Tryz.ntmps100
  go_wp2_with fail
  refine(Kh.O _).mono ?_;rintro e w1 ⟨rfl,rfl⟩;go_wp2;go_ret;exact⟨bT Hn.O.symm,(Qb _ _).alloc (Qn _) _⟩
 have He:=Qh (show aX x=_ by rw[aX,if_neg hk]);obtain⟨nm,RJ⟩:∃s,bH x.ag=s:=⟨_,rfl⟩;have RL:nm≠[]:=fun e=>hk (JG.1 (by rw[RJ,e]));rw[RJ]at Kh;have n1:(nm==[])=false:=by simpa using RL
 have n2:nm.isEmpty=false:=by cases nm<;>simp_all
 have n3:(!nm.isEmpty)=true:=by rw[n2];rfl
 clear JG RJ RL;by_cases Cs:aF x.af=0;case neg=>
  obtain⟨q,hq⟩:∃q,aF x.af=q:=⟨_,rfl⟩;have hn:(q !=0)=true:=by rw[←hq];simpa using Cs
  have Hn:=Qh (show aX x=q by rw[He.O,if_pos Cs,hq]);rw[hq]at wF;clear hq Cs;go_enter Tryz.func100,Tryz.ntmps100
  go_wp2_with fail
  refine(Kh.O _).mono ?_;rintro e w0 ⟨rfl,rfl⟩;go_wp2_with fail
  refine(wF.O _ (hw.alloc _)).mono ?_;rintro e w1 ⟨rfl,au⟩;have av:Below w.heap.size w w1:=((Qb _ _).alloc (Qn _) _).trans (au.mono (by simp));have cO:w.heap.size<w1.heap.size:=by have:=au.size;simp at this;omega
  have aB:Ok I w1:=(hw.alloc _).below (Qn _) au;obtain⟨c0,c1,c2,c3,c4,c5,c6⟩:=bS rfl au;clear au;go_wp2;go_ret;exact⟨bT Hn.O.symm,av⟩
 replace He:=Qh (show aX x=_ by rw[He.O,if_neg (show ¬aF x.af≠0 by omega)]);rw[Cs]at wF;clear Cs;by_cases xY:x.af=[]∧x.ag<5;case pos=>
  have Hn:=Qh (show aX x=1 by rw[He.O,if_pos xY]);have p1:(x.af==[])=true:=by rw[xY.1];rfl
  have p2:x.af.isEmpty=true:=by rw[xY.1];rfl
  have p3:(!x.af.isEmpty)=false:=by rw[xY.1];rfl
  have hk5:=xY.2;clear xY;go_enter Tryz.func100,Tryz.ntmps100
  go_wp2_with fail
  refine(Kh.O _).mono ?_;rintro e w0 ⟨rfl,rfl⟩;go_wp2_with fail
  refine(wF.O _ (hw.alloc _)).mono ?_;rintro e w1 ⟨rfl,au⟩;have av:Below w.heap.size w w1:=((Qb _ _).alloc (Qn _) _).trans (au.mono (by simp));have cO:w.heap.size<w1.heap.size:=by have:=au.size;simp at this;omega
  have aB:Ok I w1:=(hw.alloc _).below (Qn _) au;obtain⟨c0,c1,c2,c3,c4,c5,c6⟩:=bS rfl au;clear au;go_wp2;go_ret;exact⟨bT Hn.O.symm,av⟩
 replace He:=Qh (show aX x=_ by rw[He.O,if_neg xY]);have Nh:((x.af==[])=true∧x.af.isEmpty=true∧(!x.af.isEmpty)=false∧5≤x.ag)∨((x.af==[])=false∧x.af.isEmpty=false∧(!x.af.isEmpty)=true):=by
  by_cases h:x.af=[]
  ·left;exact⟨by rw[h];rfl,by rw[h];rfl,by rw[h];rfl,Int.not_lt.1 fun h2=>xY ⟨h,h2⟩⟩
  ·right;have h2:x.af.isEmpty=false:=by cases hp:x.af<;>simp_all
   exact⟨by simpa using h,h2,by rw[h2];rfl⟩
 clear xY;go_enter Tryz.func100,Tryz.ntmps100
 go_wp2_with fail
 refine(Kh.O _).mono ?_;rintro e w0 ⟨rfl,rfl⟩;go_wp2_with fail
 refine(wF.O _ (hw.alloc _)).mono ?_;rintro e w1 ⟨rfl,au⟩;have av:Below w.heap.size w w1:=((Qb _ _).alloc (Qn _) _).trans (au.mono (by simp));have cO:w.heap.size<w1.heap.size:=by have:=au.size;simp at this;omega
 have aB:Ok I w1:=(hw.alloc _).below (Qn _) au;obtain⟨c0,c1,c2,c3,c4,c5,c6⟩:=bS rfl au;clear au;clear Kh wF n1 n2 n3;go_upto_region 6 with fail
 go_cut [26] (fun s26 wx=>s26= .bool false∧w1=wx)
 case first=>
  rcases Nh with⟨p1,p2,p3,p4⟩|⟨p1,p2,p3⟩
  all_goals
   go_wp2_with fail
   go_meet;exact⟨(by first|rfl|(congr 1;exact Qf (by omega))),rfl⟩
 case rest=>
  obtain⟨rfl,hcut⟩:=hcut;subst hcut;clear Nh;go_wp2_with fail
  refine(OP.O _ aB).mono ?_;rintro e w2 ⟨rfl,aD⟩;have aK:=av.trans (aD.mono (Nat.le_of_lt cO));have fe:w.heap.size<w2.heap.size:=by have:=aD.size;omega
  have aP:Ok I w2:=aB.below (Qn _) aD;obtain⟨c0,c1,c2,c3,c4,c5,c6⟩:=aW.aA (⟨c0,c1,c2,c3,c4,c5,c6⟩:aW w1 w.heap.size x _ _) aD;clear aD av cO aB;by_cases Dr:mq x.ai=0;case neg=>
   obtain⟨q,hq⟩:∃q,mq x.ai=q:=⟨_,rfl⟩;have hn:(q !=0)=true:=by rw[←hq];simpa using Dr
   have Hn:=Qh (show aX x=q by rw[He.O,if_pos Dr,hq]);rw[hq];clear hq Dr;go_wp2;go_ret;exact⟨bT Hn.O.symm,aK⟩
  replace He:=Qh (show aX x=_ by rw[He.O,if_neg (show ¬mq x.ai≠0 by omega)]);rw[Dr];clear Dr OP;go_upto_region 11 with fail
  go_cut [46] (fun Ni wx=> ∃w3,w3=wx∧(Ni= .bool true∧aX x=1∨Ni= .bool false∧ ¬((x.ai≠[]∧3<x.ag)∨bG x=false))∧Below w2.heap.size w2 w3)
  case first=>
   have nE:x.ai.length<1∨(0<x.ai.length∧3<x.ag)∨(0<x.ai.length∧x.ag≤3):=by omega
   rcases nE with ha|⟨ha,tL⟩|⟨ha,tL⟩
   ·have d0:decide (0<x.ai.length)=false:=Qf (by omega);have AL:=Qh (show x.ai=[]from List.eq_nil_of_length_eq_zero (by omega));go_wp2_with fail
    refine(Ki.O _).mono ?_;rintro e w3 ⟨rfl,bU⟩;cases zD:bG x
    ·have Hn:=Qh (show aX x=1 by rw[He.O,if_pos (.inr zD)]);clear zD;go_wp2_with fail
     go_meet;exact⟨_,rfl,.inl ⟨rfl,Hn.O⟩,bU⟩
    ·go_wp2_with fail
     go_meet;refine⟨_,rfl,.inr ⟨(by first|rfl|(congr 1;exact Qf (by omega))),?_⟩,bU⟩;rintro(⟨h1,h2⟩|h1)
     ·first
       |exact h1 AL.O
       |omega
     ·rw[zD]at h1;exact absurd h1 (by simp)
   ·have d0:decide (0<x.ai.length)=true:=Qt ha;have Hn:=Qh (show aX x=1 by rw[He.O,if_pos (.inl ⟨by intro e;rw[e]at ha;simp at ha,tL⟩)]);go_wp2_with fail
    go_meet;exact⟨_,rfl,.inl ⟨(by first|rfl|(congr 1;exact Qt (by omega))),Hn.O⟩,Qb _ _⟩
   ·have d0:decide (0<x.ai.length)=true:=Qt ha;go_wp2_with fail
    refine(Ki.O _).mono ?_;rintro e w3 ⟨rfl,bU⟩;cases zD:bG x
    ·have Hn:=Qh (show aX x=1 by rw[He.O,if_pos (.inr zD)]);clear zD;go_wp2_with fail
     go_meet;exact⟨_,rfl,.inl ⟨rfl,Hn.O⟩,bU⟩
    ·go_wp2_with fail
     go_meet;refine⟨_,rfl,.inr ⟨(by first|rfl|(congr 1;exact Qf (by omega))),?_⟩,bU⟩;rintro(⟨h1,h2⟩|h1)
     ·first
       |exact h1 AL.O
       |omega
     ·rw[zD]at h1;exact absurd h1 (by simp)
  case rest=>
   obtain⟨w3,oF,qi,bU⟩:=hcut;subst oF;have df:=aK.trans (bU.mono (Nat.le_of_lt fe));have wG:w.heap.size<w3.heap.size:=by have:=bU.size;omega
   have bQ:Ok I w3:=aP.below (Qn _) bU;obtain⟨c0,c1,c2,c3,c4,c5,c6⟩:=aW.aA (⟨c0,c1,c2,c3,c4,c5,c6⟩:aW w2 w.heap.size x _ _) bU;clear bU aK fe aP Ki;rcases qi with⟨rfl,hn⟩|⟨rfl,qi⟩
   ·have Hn:=Qh hn;clear hn;go_wp2;go_ret;exact⟨bT Hn.O.symm,df⟩
   replace He:=Qh (show aX x=_ by rw[He.O,if_neg qi]);clear qi;by_cases hf:x.ag=1
   ·have f1:((x.ag:Int)==1)=true:=by simpa using hf
    go_upto_region 14 with fail
    go_cut [66] (fun OQ wx=>w3=wx∧(OQ= .bool true∧aX x=2∨OQ= .bool false∧ ¬(x.size<0∨65536<x.size∨(x.ag≠1∧x.size≠0))))
    case first=>
     have nE:x.size<0∨65536<x.size∨(0≤x.size∧x.size≤65536∧x.ag≠1∧x.size≠0)∨(0≤x.size∧x.size≤65536∧(x.ag=1∨x.size=0)):=by omega
     rcases nE with h|h|⟨h,h',h2,h3⟩|⟨h,h',h2⟩
     ·have Hn:=Qh (show aX x=2 by rw[He.O,if_pos (by omega)]);clear hf;go_wp2_with fail
      go_meet;exact⟨rfl,.inl ⟨(by first|rfl|(congr 1;simp;omega)),Hn.O⟩⟩
     ·have Hn:=Qh (show aX x=2 by rw[He.O,if_pos (by omega)]);clear hf;go_wp2_with fail
      go_meet;exact⟨rfl,.inl ⟨(by first|rfl|(congr 1;simp;omega)),Hn.O⟩⟩
     ·first
      |exact absurd hf h2
      |(have Hn:=Qh (show aX x=2 by rw[He.O,if_pos (by omega)])
        have g1:(x.size !=0)=true:=by simpa using h3
        clear hf h2 h3;go_wp2_with fail
        go_meet;exact⟨rfl,.inl ⟨(by first|rfl|(congr 1;simp;omega)),Hn.O⟩⟩)
     ·have Hn:=Qh (show ¬(x.size<0∨65536<x.size∨(x.ag≠1∧x.size≠0)) by omega);have g2:x.ag=1∨(x.size !=0)=false:=h2.imp id (fun e=>by simp[e]);rcases g2 with g2|g2
      all_goals
       first
       |exact absurd g2 hf
       |(clear hf h2
         go_wp2_with fail
         go_meet;exact⟨rfl,.inr ⟨(by first|rfl|(congr 1;simp;omega)),Hn.O⟩⟩)
    case rest=>
     obtain⟨oF,qi⟩:=hcut;subst oF;rcases qi with⟨rfl,hn⟩|⟨rfl,qi⟩
     ·have Hn:=Qh hn;clear hn;go_wp2;go_ret;exact⟨bT Hn.O.symm,df⟩
     replace He:=Qh (show aX x=_ by rw[He.O,if_neg qi]);have zF:=Qh (show 0≤x.size∧x.size≤65536∧(x.ag=1∨x.size=0) by omega);clear qi;go_upto_region 16 with fail
     go_cut [82] (fun s82 wx=>w3=wx∧(s82= .bool true∧aX x=1∨s82= .bool false∧ ¬((x.ag=1∧x.aj.length≠32)∨(x.ag≠1∧x.aj≠[]))))
     case first=>
      by_cases jM:(x.ag=1∧x.aj.length≠32)∨(x.ag≠1∧x.aj≠[])
      ·have Hn:=Qh (show aX x=1 by rw[He.O,if_pos jM]);have hz:(((x.aj.length:Int) !=32)=true∧x.ag=1)∨(((x.aj==[])=false∧x.aj.isEmpty=false∧(!x.aj.isEmpty)=true∧(x.aj !=[])=true)∧x.ag≠1):=by
        rcases jM with⟨h1,h2⟩|⟨h1,h2⟩
        ·left;exact⟨by rw[bne_iff_ne];omega,h1⟩
        ·right;exact⟨zC h2,h1⟩
       clear jM;rcases hz with⟨z1,z2⟩|⟨⟨z1,z3,z4,z5⟩,z2⟩
       all_goals
        first
        |exact absurd z2 hf
        |exact absurd hf z2
        |(clear hf z2
          go_wp2_with fail
          go_meet;exact⟨rfl,.inl ⟨(by first|rfl|(congr 1;simp;omega)),Hn.O⟩⟩)
      ·have hz:(((x.aj.length:Int) !=32)=false∧x.ag=1)∨(((x.aj==[])=true∧x.aj.isEmpty=true∧(!x.aj.isEmpty)=false∧(x.aj !=[])=false)∧x.ag≠1):=by
        by_cases h1:x.ag=1
        ·left;have h2:x.aj.length=32:=Classical.byContradiction fun h=>jM (.inl ⟨h1,h⟩);exact⟨by rw[h2];rfl,h1⟩
        ·right;exact⟨Bu (Classical.byContradiction fun h=>jM (.inr ⟨h1,h⟩)),h1⟩
       have Hn:=Qh jM;clear jM;rcases hz with⟨z1,z2⟩|⟨⟨z1,z3,z4,z5⟩,z2⟩
       all_goals
        first
        |exact absurd z2 hf
        |exact absurd hf z2
        |(clear hf z2
          go_wp2_with fail
          go_meet;exact⟨rfl,.inr ⟨(by first|rfl|(congr 1;simp;omega)),Hn.O⟩⟩)
     case rest=>
      obtain⟨oF,qi⟩:=hcut;subst oF;rcases qi with⟨rfl,hn⟩|⟨rfl,qi⟩
      ·have Hn:=Qh hn;clear hn;go_wp2;go_ret;exact⟨bT Hn.O.symm,df⟩
      replace He:=Qh (show aX x=if bM true x.ak≠0 then bM true x.ak else if qh x.ak≠x.size then 1 else 0 by rw[He.O,if_neg qi,f1]);clear qi;have hBx:=Qh (⟨c0,c1,c2,c3,c4,c5,c6⟩:aW w3 w.heap.size x _ _);clear c0 c1 c2 c3 c4 c5 c6;have HB:=Qh df;clear df;go_wp2_with fail
      go_loopw [6,7] (fun s6 s7 wr=> ∃k:Nat,k≤x.ak.length∧s7= .int .i64 k∧s6= .int .i64 (qh (x.ak.take k))∧bM true (x.ak.drop k)=bM true x.ak∧Below w3.heap.size w3 wr) (fun _ i _=>x.ak.length-(intOf i).toNat)
      case atStart=>exact⟨0,Nat.zero_le _,rfl,rfl,rfl,Qb _ _⟩
      case round=>
       obtain⟨k,hk,rfl,rfl,hr,hb⟩:=hrel;have Hr:=Qh hr;clear hr;have dz:Ok I wr:=bQ.below (Qn _) hb;obtain⟨c0,c1,c2,c3,c4,c5,c6⟩:=hBx.O.aA hb;obtain⟨sm,Ib⟩:∃s,qh (x.ak.take k)=s:=⟨_,rfl⟩;by_cases hlt:k<x.ak.length
       ·obtain⟨y,b,off,cap',iB,di,e0,e1,e2⟩:=wo uY.O dz k hlt;cases di;have F8:=Qh (show x.ak.drop k=y::x.ak.drop (k+1) by rw[List.drop_eq_getElem_cons hlt,iB]);have bB:=Qh (show aX x=if(if cB y then 2 else bM true (x.ak.drop (k+1)))≠0 then(if cB y then 2 else bM true (x.ak.drop (k+1)))else if qh x.ak≠x.size then 1 else 0 by
         rw[He.O,←Hr.O,F8.O,Ng])
        have yX:=Qh (show qh (x.ak.take (k+1))=wrap64 (sm+y.n) by rw[List.take_succ_eq_append_getElem hlt,iB,Xlw,Ib]);rw[Ib];clear iB Ib;by_cases h1:y.s<0
        ·have jU:=Qh (show aX x=2 by rw[bB.O,if_pos (show cB y=true by unfold cB;simp;omega)];rfl);go_wp2;go_ret;exact⟨bT jU.O.symm,HB.O.trans ((hb.alloc hb.size _).mono HB.O.size)⟩
        by_cases h2:255<y.s
        ·have jU:=Qh (show aX x=2 by rw[bB.O,if_pos (show cB y=true by unfold cB;simp;omega)];rfl);go_wp2;go_ret;exact⟨bT jU.O.symm,HB.O.trans ((hb.alloc hb.size _).mono HB.O.size)⟩
        by_cases h3:y.o<0
        ·have jU:=Qh (show aX x=2 by rw[bB.O,if_pos (show cB y=true by unfold cB;simp;omega)];rfl);go_wp2;go_ret;exact⟨bT jU.O.symm,HB.O.trans ((hb.alloc hb.size _).mono HB.O.size)⟩
        by_cases h4:2147483647<y.o
        ·have jU:=Qh (show aX x=2 by rw[bB.O,if_pos (show cB y=true by unfold cB;simp;omega)];rfl);go_wp2;go_ret;exact⟨bT jU.O.symm,HB.O.trans ((hb.alloc hb.size _).mono HB.O.size)⟩
        by_cases h5:y.n<1
        ·have jU:=Qh (show aX x=2 by rw[bB.O,if_pos (show cB y=true by unfold cB;simp;omega)];rfl);go_wp2;go_ret;exact⟨bT jU.O.symm,HB.O.trans ((hb.alloc hb.size _).mono HB.O.size)⟩
        by_cases h6:65536<y.n
        ·have jU:=Qh (show aX x=2 by rw[bB.O,if_pos (show cB y=true by unfold cB;simp;omega)];rfl);go_wp2;go_ret;exact⟨bT jU.O.symm,HB.O.trans ((hb.alloc hb.size _).mono HB.O.size)⟩
        by_cases h7:y.s=0
        ·have g7:(y.s==0)=true:=by simpa using h7
         by_cases h8:y.o=0
         ·have g8:(y.o !=0)=false:=by simpa using h8
          have gN:=Qh (show bM true (x.ak.drop (k+1))=bM true x.ak by
           rw[←Hr.O,F8.O,Ng,if_neg (show ¬cB y=true by unfold cB;simp;omega)])
          go_wp2;go_roundw;case rel=>exact⟨k+1,by omega,by go_num,by rw[yX.O],gN.O,hb.alloc hb.size _⟩
          case measure=>simp[intOf];omega
         ·have g8:(y.o !=0)=true:=by simpa using h8
          have jU:=Qh (show aX x=2 by rw[bB.O,if_pos (show cB y=true by unfold cB;simp;omega)];rfl);go_wp2;go_ret;exact⟨bT jU.O.symm,HB.O.trans ((hb.alloc hb.size _).mono HB.O.size)⟩
        ·have g7:(y.s==0)=false:=by simpa using h7
         have gN:=Qh (show bM true (x.ak.drop (k+1))=bM true x.ak by
          rw[←Hr.O,F8.O,Ng,if_neg (show ¬cB y=true by unfold cB;simp;omega)])
         go_wp2;go_roundw;case rel=>exact⟨k+1,by omega,by go_num,by rw[yX.O],gN.O,hb.alloc hb.size _⟩
         case measure=>simp[intOf];omega
       ·have aG:x.ak.take k=x.ak:=List.take_of_length_le (by omega);have hdn:x.ak.drop k=[]:=List.drop_of_length_le (by omega);rw[aG]at Ib;have Hn:=Qh (show aX x=if sm≠x.size then 1 else 0 by rw[He.O,←Hr.O,hdn,if_neg (by simp[bM]),Ib]);rw[aG,Ib];clear aG hdn Ib;by_cases hq:sm=x.size
        ·have q1:(sm !=x.size)=false:=by simpa using hq
         have iQ:=Qh (show aX x=0 by rw[Hn.O,if_neg (by simpa using hq)]);clear hq;go_wp2;go_ret;exact⟨bT iQ.O.symm,HB.O.trans (hb.mono HB.O.size)⟩
        ·have q1:(sm !=x.size)=true:=by simpa using hq
         have iQ:=Qh (show aX x=1 by rw[Hn.O,if_pos hq]);clear hq;go_wp2;go_ret;exact⟨bT iQ.O.symm,HB.O.trans (hb.mono HB.O.size)⟩
   ·have f1:((x.ag:Int)==1)=false:=by simpa using hf
    go_upto_region 14 with fail
    go_cut [66] (fun OQ wx=>w3=wx∧(OQ= .bool true∧aX x=2∨OQ= .bool false∧ ¬(x.size<0∨65536<x.size∨(x.ag≠1∧x.size≠0))))
    case first=>
     have nE:x.size<0∨65536<x.size∨(0≤x.size∧x.size≤65536∧x.ag≠1∧x.size≠0)∨(0≤x.size∧x.size≤65536∧(x.ag=1∨x.size=0)):=by omega
     rcases nE with h|h|⟨h,h',h2,h3⟩|⟨h,h',h2⟩
     ·have Hn:=Qh (show aX x=2 by rw[He.O,if_pos (by omega)]);clear hf;go_wp2_with fail
      go_meet;exact⟨rfl,.inl ⟨(by first|rfl|(congr 1;simp;omega)),Hn.O⟩⟩
     ·have Hn:=Qh (show aX x=2 by rw[He.O,if_pos (by omega)]);clear hf;go_wp2_with fail
      go_meet;exact⟨rfl,.inl ⟨(by first|rfl|(congr 1;simp;omega)),Hn.O⟩⟩
     ·first
      |exact absurd hf h2
      |(have Hn:=Qh (show aX x=2 by rw[He.O,if_pos (by omega)])
        have g1:(x.size !=0)=true:=by simpa using h3
        clear hf h2 h3;go_wp2_with fail
        go_meet;exact⟨rfl,.inl ⟨(by first|rfl|(congr 1;simp;omega)),Hn.O⟩⟩)
     ·have Hn:=Qh (show ¬(x.size<0∨65536<x.size∨(x.ag≠1∧x.size≠0)) by omega);have g2:x.ag=1∨(x.size !=0)=false:=h2.imp id (fun e=>by simp[e]);rcases g2 with g2|g2
      all_goals
       first
       |exact absurd g2 hf
       |(clear hf h2
         go_wp2_with fail
         go_meet;exact⟨rfl,.inr ⟨(by first|rfl|(congr 1;simp;omega)),Hn.O⟩⟩)
    case rest=>
     obtain⟨oF,qi⟩:=hcut;subst oF;rcases qi with⟨rfl,hn⟩|⟨rfl,qi⟩
     ·have Hn:=Qh hn;clear hn;go_wp2;go_ret;exact⟨bT Hn.O.symm,df⟩
     replace He:=Qh (show aX x=_ by rw[He.O,if_neg qi]);have zF:=Qh (show 0≤x.size∧x.size≤65536∧(x.ag=1∨x.size=0) by omega);clear qi;go_upto_region 16 with fail
     go_cut [82] (fun s82 wx=>w3=wx∧(s82= .bool true∧aX x=1∨s82= .bool false∧ ¬((x.ag=1∧x.aj.length≠32)∨(x.ag≠1∧x.aj≠[]))))
     case first=>
      by_cases jM:(x.ag=1∧x.aj.length≠32)∨(x.ag≠1∧x.aj≠[])
      ·have Hn:=Qh (show aX x=1 by rw[He.O,if_pos jM]);have hz:(((x.aj.length:Int) !=32)=true∧x.ag=1)∨(((x.aj==[])=false∧x.aj.isEmpty=false∧(!x.aj.isEmpty)=true∧(x.aj !=[])=true)∧x.ag≠1):=by
        rcases jM with⟨h1,h2⟩|⟨h1,h2⟩
        ·left;exact⟨by rw[bne_iff_ne];omega,h1⟩
        ·right;exact⟨zC h2,h1⟩
       clear jM;rcases hz with⟨z1,z2⟩|⟨⟨z1,z3,z4,z5⟩,z2⟩
       all_goals
        first
        |exact absurd z2 hf
        |exact absurd hf z2
        |(clear hf z2
          go_wp2_with fail
          go_meet;exact⟨rfl,.inl ⟨(by first|rfl|(congr 1;simp;omega)),Hn.O⟩⟩)
      ·have hz:(((x.aj.length:Int) !=32)=false∧x.ag=1)∨(((x.aj==[])=true∧x.aj.isEmpty=true∧(!x.aj.isEmpty)=false∧(x.aj !=[])=false)∧x.ag≠1):=by
        by_cases h1:x.ag=1
        ·left;have h2:x.aj.length=32:=Classical.byContradiction fun h=>jM (.inl ⟨h1,h⟩);exact⟨by rw[h2];rfl,h1⟩
        ·right;exact⟨Bu (Classical.byContradiction fun h=>jM (.inr ⟨h1,h⟩)),h1⟩
       have Hn:=Qh jM;clear jM;rcases hz with⟨z1,z2⟩|⟨⟨z1,z3,z4,z5⟩,z2⟩
       all_goals
        first
        |exact absurd z2 hf
        |exact absurd hf z2
        |(clear hf z2
          go_wp2_with fail
          go_meet;exact⟨rfl,.inr ⟨(by first|rfl|(congr 1;simp;omega)),Hn.O⟩⟩)
     case rest=>
      obtain⟨oF,qi⟩:=hcut;subst oF;rcases qi with⟨rfl,hn⟩|⟨rfl,qi⟩
      ·have Hn:=Qh hn;clear hn;go_wp2;go_ret;exact⟨bT Hn.O.symm,df⟩
      replace He:=Qh (show aX x=if bM false x.ak≠0 then bM false x.ak else if qh x.ak≠x.size then 1 else 0 by rw[He.O,if_neg qi,f1]);clear qi;go_wp2_with fail
      go_loopw [6,7] (fun s6 s7 wr=>s6= .int .i64 0∧s7= .int .i64 0∧w3=wr) (fun _ _ _=>0)
      case atStart=>exact⟨rfl,rfl,rfl⟩
      case round=>
       obtain⟨rfl,rfl,dz⟩:=hrel;subst dz;by_cases pR:0<x.ak.length
       ·obtain⟨y,b,off,cap',iB,di,e0,e1,e2⟩:=wo uY.O bQ 0 pR;cases di;have sQ:x.ak=y::x.ak.drop 1:=by rw[←iB,←List.drop_eq_getElem_cons pR];rfl
        have Hn:=Qh (show aX x=1 by rw[He.O,sQ];rfl);rw[Nat.zero_mul,Nat.add_zero]at e0 e1 e2;clear iB sQ;go_wp2;go_ret;exact⟨bT Hn.O.symm,df.alloc (Nat.le_of_lt wG) _⟩
       ·have Nj:=Qh (show x.ak=[]from List.eq_nil_of_length_eq_zero (by omega));have Hn:=Qh (show aX x=0 by
         rw[He.O,Nj.O,if_neg (by simp[bM]),if_neg];have:=zF.O;simp[qh];omega)
        have lD:x.size=0:=by have:=zF.O;omega
        have oQ:((0:Int) !=x.size)=false:=by rw[lD];rfl
        clear lD;go_wp2;go_ret;exact⟨bT Hn.O.symm,df⟩
