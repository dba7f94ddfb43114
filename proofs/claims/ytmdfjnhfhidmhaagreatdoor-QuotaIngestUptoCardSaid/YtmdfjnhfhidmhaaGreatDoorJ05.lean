/- Lemmas for the claim's theorem;conditions: as each says. -/
import Derived.Test.YtmdfjnhfhidmhaaGreatDoorJ04
import Derived.Deep.DeepCutAuto
set_option maxHeartbeats 0
set_option maxRecDepth 100000
set_option linter.all false
namespace Go.Proofs.YtmdfjnhfhidmhaaGreatDoor
open Go.RowKit
theorem Ao{l:af}(h:l≠[]):(l==[])=false∧l.isEmpty=false∧(!l.isEmpty)=true∧(l !=[])=true:=by
 cases l with
 |nil=>exact absurd rfl h
 |cons a l=>exact⟨rfl,rfl,rfl,rfl⟩
theorem BU{l:af}(h:l=[]):(l==[])=true∧l.isEmpty=true∧(!l.isEmpty)=false∧(l !=[])=false:=by
 subst h;exact⟨rfl,rfl,rfl,rfl⟩
theorem OY(x:Xt)(l:List Xt):bW true (x::l)=if dh x then 2 else bW true l:=rfl
theorem Xg9(I:IH)(x:aT)(va vx:Value)(fq:aZ lD I va x.aj)(kJ:aZ lY I vx x.aA)(l7:x.Wf)(w:World)(hw:Ok I w):
 Calls Tryz.prog 72 #[gN x va vx] w fun e w'=>e= .returned (.int .i64 (bf x))∧Below w.heap.size w w':=by
 have dA:=kJ.bF;have PK:=fq.bF;obtain⟨ao,cap,rfl,dO,fJ,_⟩:=id kJ;obtain⟨pF,cap2,rfl,oU,qJ,_⟩:=id fq;have Kg:=Qh kJ;have Qx:=Qh fq;clear kJ fq;have LM:=Qh (fun w=>Xpd x.au w);have CY:=Qh (fun w hw=>Uy I x.ag w hw);have Ij:=Qh (fun w hw=>Xmy I _ x.aj Qx.O l7.aj w hw);have LP:=Qh (fun w=>Xky x l7.target (.slice pF x.aj.length cap2) (.slice ao x.aA.length cap) w);have lC:=l7.s0;have qj:=l7.s1;have Wi:=l7.ag;have ng:=l7.av;have Ik:=Qh l7.aA;clear l7;have GU:=wO (k:=x.au);by_cases hk:x.au<1∨6<x.au;case pos=>
  have Hn:=Qh (show bf x=10 by rw[bf,if_pos hk]);rw[GU.2 hk]at LM;clear GU hk;go_enter Tryz.func72,Tryz.ntmps72
  go_wp2_with fail
  refine(LM.O _).mono ?_;rintro e w1 ⟨rfl,rfl⟩;go_wp2;go_ret;exact⟨di Hn.O.symm,(Qb _ _).alloc (Qn _) _⟩
 have He:=Qh (show bf x=_ by rw[bf,if_neg hk]);obtain⟨nm,N8⟩:∃s,fu x.au=s:=⟨_,rfl⟩;have hnz:nm≠[]:=fun e=>hk (GU.1 (by rw[N8,e]));rw[N8]at LM;have n1:(nm==[])=false:=by simpa using hnz
 have n2:nm.isEmpty=false:=by cases nm<;>simp_all
 have n3:(!nm.isEmpty)=true:=by rw[n2];rfl
 clear GU N8 hnz;by_cases DJ:aO x.ag=0;case neg=>
  obtain⟨q,hq⟩:∃q,aO x.ag=q:=⟨_,rfl⟩;have hn:(q !=0)=true:=by rw[←hq];simpa using DJ
  have Hn:=Qh (show bf x=q by rw[He.O,if_pos DJ,hq]);rw[hq]at CY;clear hq DJ;go_enter Tryz.func72,Tryz.ntmps72
  go_wp2_with fail
  refine(LM.O _).mono ?_;rintro e w0 ⟨rfl,rfl⟩;go_wp2_with fail
  refine(CY.O _ (hw.alloc _)).mono ?_;rintro e w1 ⟨rfl,aD⟩;have aH:Below w.heap.size w w1:=((Qb _ _).alloc (Qn _) _).trans (aD.mono (by simp));have bZ:w.heap.size<w1.heap.size:=by have:=aD.size;simp at this;omega
  have aM:Ok I w1:=(hw.alloc _).below (Qn _) aD;obtain⟨c0,c1,c2,c3,c4,c5,c6⟩:=dx rfl aD;clear aD;go_wp2;go_ret;exact⟨di Hn.O.symm,aH⟩
 replace He:=Qh (show bf x=_ by rw[He.O,if_neg (show ¬aO x.ag≠0 by omega)]);rw[DJ]at CY;clear DJ;by_cases yM:x.ag=[]∧x.au<5;case pos=>
  have Hn:=Qh (show bf x=1 by rw[He.O,if_pos yM]);have p1:(x.ag==[])=true:=by rw[yM.1];rfl
  have p2:x.ag.isEmpty=true:=by rw[yM.1];rfl
  have p3:(!x.ag.isEmpty)=false:=by rw[yM.1];rfl
  have hk5:=yM.2;clear yM;go_enter Tryz.func72,Tryz.ntmps72
  go_wp2_with fail
  refine(LM.O _).mono ?_;rintro e w0 ⟨rfl,rfl⟩;go_wp2_with fail
  refine(CY.O _ (hw.alloc _)).mono ?_;rintro e w1 ⟨rfl,aD⟩;have aH:Below w.heap.size w w1:=((Qb _ _).alloc (Qn _) _).trans (aD.mono (by simp));have bZ:w.heap.size<w1.heap.size:=by have:=aD.size;simp at this;omega
  have aM:Ok I w1:=(hw.alloc _).below (Qn _) aD;obtain⟨c0,c1,c2,c3,c4,c5,c6⟩:=dx rfl aD;clear aD;go_wp2;go_ret;exact⟨di Hn.O.symm,aH⟩
 replace He:=Qh (show bf x=_ by rw[He.O,if_neg yM]);have zV:((x.ag==[])=true∧x.ag.isEmpty=true∧(!x.ag.isEmpty)=false∧5≤x.au)∨((x.ag==[])=false∧x.ag.isEmpty=false∧(!x.ag.isEmpty)=true):=by
  by_cases h:x.ag=[]
  ·left;exact⟨by rw[h];rfl,by rw[h];rfl,by rw[h];rfl,Int.not_lt.1 fun h2=>yM ⟨h,h2⟩⟩
  ·right;have h2:x.ag.isEmpty=false:=by cases hp:x.ag<;>simp_all
   exact⟨by simpa using h,h2,by rw[h2];rfl⟩
 clear yM;go_enter Tryz.func72,Tryz.ntmps72
 go_wp2_with fail
 refine(LM.O _).mono ?_;rintro e w0 ⟨rfl,rfl⟩;go_wp2_with fail
 refine(CY.O _ (hw.alloc _)).mono ?_;rintro e w1 ⟨rfl,aD⟩;have aH:Below w.heap.size w w1:=((Qb _ _).alloc (Qn _) _).trans (aD.mono (by simp));have bZ:w.heap.size<w1.heap.size:=by have:=aD.size;simp at this;omega
 have aM:Ok I w1:=(hw.alloc _).below (Qn _) aD;obtain⟨c0,c1,c2,c3,c4,c5,c6⟩:=dx rfl aD;clear aD;clear LM CY n1 n2 n3;go_upto_region 6 with fail
 go_cut [26] (fun XE wx=>XE= .bool false∧w1=wx)
 case first=>
  rcases zV with⟨p1,p2,p3,p4⟩|⟨p1,p2,p3⟩
  all_goals
   go_wp2_with fail
   go_meet;exact⟨(by first|rfl|(congr 1;exact Qf (by omega))),rfl⟩
 case rest=>
  obtain⟨rfl,hcut⟩:=hcut;subst hcut;clear zV;go_wp2_with fail
  refine(Ij.O _ aM).mono ?_;rintro e w2 ⟨rfl,aL⟩;have aY:=aH.trans (aL.mono (Nat.le_of_lt bZ));have eZ:w.heap.size<w2.heap.size:=by have:=aL.size;omega
  have aX:Ok I w2:=aM.below (Qn _) aL;obtain⟨c0,c1,c2,c3,c4,c5,c6⟩:=bB.aQ (⟨c0,c1,c2,c3,c4,c5,c6⟩:bB w1 w.heap.size x _ _) aL;clear aL aH bZ aM;by_cases Ap:mK x.aj=0;case neg=>
   obtain⟨q,hq⟩:∃q,mK x.aj=q:=⟨_,rfl⟩;have hn:(q !=0)=true:=by rw[←hq];simpa using Ap
   have Hn:=Qh (show bf x=q by rw[He.O,if_pos Ap,hq]);rw[hq];clear hq Ap;go_wp2;go_ret;exact⟨di Hn.O.symm,aY⟩
  replace He:=Qh (show bf x=_ by rw[He.O,if_neg (show ¬mK x.aj≠0 by omega)]);rw[Ap];clear Ap Ij;go_upto_region 11 with fail
  go_cut [46] (fun OZ wx=> ∃w3,w3=wx∧(OZ= .bool true∧bf x=1∨OZ= .bool false∧ ¬((x.aj≠[]∧3<x.au)∨bO x=false))∧Below w2.heap.size w2 w3)
  case first=>
   have nW:x.aj.length<1∨(0<x.aj.length∧3<x.au)∨(0<x.aj.length∧x.au≤3):=by omega
   rcases nW with ha|⟨ha,uH⟩|⟨ha,uH⟩
   ·have d0:decide (0<x.aj.length)=false:=Qf (by omega);have BX:=Qh (show x.aj=[]from List.eq_nil_of_length_eq_zero (by omega));go_wp2_with fail
    refine(LP.O _).mono ?_;rintro e w3 ⟨rfl,dX⟩;cases Aq:bO x
    ·have Hn:=Qh (show bf x=1 by rw[He.O,if_pos (.inr Aq)]);clear Aq;go_wp2_with fail
     go_meet;exact⟨_,rfl,.inl ⟨rfl,Hn.O⟩,dX⟩
    ·go_wp2_with fail
     go_meet;refine⟨_,rfl,.inr ⟨(by first|rfl|(congr 1;exact Qf (by omega))),?_⟩,dX⟩;rintro(⟨h1,h2⟩|h1)
     ·first
       |exact h1 BX.O
       |omega
     ·rw[Aq]at h1;exact absurd h1 (by simp)
   ·have d0:decide (0<x.aj.length)=true:=Qt ha;have Hn:=Qh (show bf x=1 by rw[He.O,if_pos (.inl ⟨by intro e;rw[e]at ha;simp at ha,uH⟩)]);go_wp2_with fail
    go_meet;exact⟨_,rfl,.inl ⟨(by first|rfl|(congr 1;exact Qt (by omega))),Hn.O⟩,Qb _ _⟩
   ·have d0:decide (0<x.aj.length)=true:=Qt ha;go_wp2_with fail
    refine(LP.O _).mono ?_;rintro e w3 ⟨rfl,dX⟩;cases Aq:bO x
    ·have Hn:=Qh (show bf x=1 by rw[He.O,if_pos (.inr Aq)]);clear Aq;go_wp2_with fail
     go_meet;exact⟨_,rfl,.inl ⟨rfl,Hn.O⟩,dX⟩
    ·go_wp2_with fail
     go_meet;refine⟨_,rfl,.inr ⟨(by first|rfl|(congr 1;exact Qf (by omega))),?_⟩,dX⟩;rintro(⟨h1,h2⟩|h1)
     ·first
       |exact h1 BX.O
       |omega
     ·rw[Aq]at h1;exact absurd h1 (by simp)
  case rest=>
   obtain⟨w3,qP,qY,dX⟩:=hcut;subst qP;have gp:=aY.trans (dX.mono (Nat.le_of_lt eZ));have pJ:w.heap.size<w3.heap.size:=by have:=dX.size;omega
   have eT:Ok I w3:=aX.below (Qn _) dX;obtain⟨c0,c1,c2,c3,c4,c5,c6⟩:=bB.aQ (⟨c0,c1,c2,c3,c4,c5,c6⟩:bB w2 w.heap.size x _ _) dX;clear dX aY eZ aX LP;rcases qY with⟨rfl,hn⟩|⟨rfl,qY⟩
   ·have Hn:=Qh hn;clear hn;go_wp2;go_ret;exact⟨di Hn.O.symm,gp⟩
   replace He:=Qh (show bf x=_ by rw[He.O,if_neg qY]);clear qY;by_cases hf:x.au=1
   ·have f1:((x.au:Int)==1)=true:=by simpa using hf
    go_upto_region 14 with fail
    go_cut [66] (fun Qy wx=>w3=wx∧(Qy= .bool true∧bf x=2∨Qy= .bool false∧ ¬(x.size<0∨65536<x.size∨(x.au≠1∧x.size≠0))))
    case first=>
     have nW:x.size<0∨65536<x.size∨(0≤x.size∧x.size≤65536∧x.au≠1∧x.size≠0)∨(0≤x.size∧x.size≤65536∧(x.au=1∨x.size=0)):=by omega
     rcases nW with h|h|⟨h,h',h2,h3⟩|⟨h,h',h2⟩
     ·have Hn:=Qh (show bf x=2 by rw[He.O,if_pos (by omega)]);clear hf;go_wp2_with fail
      go_meet;exact⟨rfl,.inl ⟨(by first|rfl|(congr 1;simp;omega)),Hn.O⟩⟩
     ·have Hn:=Qh (show bf x=2 by rw[He.O,if_pos (by omega)]);clear hf;go_wp2_with fail
      go_meet;exact⟨rfl,.inl ⟨(by first|rfl|(congr 1;simp;omega)),Hn.O⟩⟩
     ·first
      |exact absurd hf h2
      |(have Hn:=Qh (show bf x=2 by rw[He.O,if_pos (by omega)])
        have g1:(x.size !=0)=true:=by simpa using h3
        clear hf h2 h3;go_wp2_with fail
        go_meet;exact⟨rfl,.inl ⟨(by first|rfl|(congr 1;simp;omega)),Hn.O⟩⟩)
     ·have Hn:=Qh (show ¬(x.size<0∨65536<x.size∨(x.au≠1∧x.size≠0)) by omega);have g2:x.au=1∨(x.size !=0)=false:=h2.imp id (fun e=>by simp[e]);rcases g2 with g2|g2
      all_goals
       first
       |exact absurd g2 hf
       |(clear hf h2
         go_wp2_with fail
         go_meet;exact⟨rfl,.inr ⟨(by first|rfl|(congr 1;simp;omega)),Hn.O⟩⟩)
    case rest=>
     obtain⟨qP,qY⟩:=hcut;subst qP;rcases qY with⟨rfl,hn⟩|⟨rfl,qY⟩
     ·have Hn:=Qh hn;clear hn;go_wp2;go_ret;exact⟨di Hn.O.symm,gp⟩
     replace He:=Qh (show bf x=_ by rw[He.O,if_neg qY]);have Ar:=Qh (show 0≤x.size∧x.size≤65536∧(x.au=1∨x.size=0) by omega);clear qY;go_upto_region 16 with fail
     go_cut [82] (fun s82 wx=>w3=wx∧(s82= .bool true∧bf x=1∨s82= .bool false∧ ¬((x.au=1∧x.av.length≠32)∨(x.au≠1∧x.av≠[]))))
     case first=>
      by_cases nk:(x.au=1∧x.av.length≠32)∨(x.au≠1∧x.av≠[])
      ·have Hn:=Qh (show bf x=1 by rw[He.O,if_pos nk]);have hz:(((x.av.length:Int) !=32)=true∧x.au=1)∨(((x.av==[])=false∧x.av.isEmpty=false∧(!x.av.isEmpty)=true∧(x.av !=[])=true)∧x.au≠1):=by
        rcases nk with⟨h1,h2⟩|⟨h1,h2⟩
        ·left;exact⟨by rw[bne_iff_ne];omega,h1⟩
        ·right;exact⟨Ao h2,h1⟩
       clear nk;rcases hz with⟨z1,z2⟩|⟨⟨z1,z3,z4,z5⟩,z2⟩
       all_goals
        first
        |exact absurd z2 hf
        |exact absurd hf z2
        |(clear hf z2
          go_wp2_with fail
          go_meet;exact⟨rfl,.inl ⟨(by first|rfl|(congr 1;simp;omega)),Hn.O⟩⟩)
      ·have hz:(((x.av.length:Int) !=32)=false∧x.au=1)∨(((x.av==[])=true∧x.av.isEmpty=true∧(!x.av.isEmpty)=false∧(x.av !=[])=false)∧x.au≠1):=by
        by_cases h1:x.au=1
        ·left;have h2:x.av.length=32:=Classical.byContradiction fun h=>nk (.inl ⟨h1,h⟩);exact⟨by rw[h2];rfl,h1⟩
        ·right;exact⟨BU (Classical.byContradiction fun h=>nk (.inr ⟨h1,h⟩)),h1⟩
       have Hn:=Qh nk;clear nk;rcases hz with⟨z1,z2⟩|⟨⟨z1,z3,z4,z5⟩,z2⟩
       all_goals
        first
        |exact absurd z2 hf
        |exact absurd hf z2
        |(clear hf z2
          go_wp2_with fail
          go_meet;exact⟨rfl,.inr ⟨(by first|rfl|(congr 1;simp;omega)),Hn.O⟩⟩)
     case rest=>
      obtain⟨qP,qY⟩:=hcut;subst qP;rcases qY with⟨rfl,hn⟩|⟨rfl,qY⟩
      ·have Hn:=Qh hn;clear hn;go_wp2;go_ret;exact⟨di Hn.O.symm,gp⟩
      replace He:=Qh (show bf x=if bW true x.aA≠0 then bW true x.aA else if qX x.aA≠x.size then 1 else 0 by rw[He.O,if_neg qY,f1]);clear qY;have hBx:=Qh (⟨c0,c1,c2,c3,c4,c5,c6⟩:bB w3 w.heap.size x _ _);clear c0 c1 c2 c3 c4 c5 c6;have HB:=Qh gp;clear gp;go_wp2_with fail
      go_loopw [6,7] (fun s6 s7 wr=> ∃k:Nat,k≤x.aA.length∧s7= .int .i64 k∧s6= .int .i64 (qX (x.aA.take k))∧bW true (x.aA.drop k)=bW true x.aA∧Below w3.heap.size w3 wr) (fun _ i _=>x.aA.length-(intOf i).toNat)
      case atStart=>exact⟨0,Nat.zero_le _,rfl,rfl,rfl,Qb _ _⟩
      case round=>
       obtain⟨k,hk,rfl,rfl,hr,hb⟩:=hrel;have Hr:=Qh hr;clear hr;have dG:Ok I wr:=eT.below (Qn _) hb;obtain⟨c0,c1,c2,c3,c4,c5,c6⟩:=hBx.O.aQ hb;obtain⟨sm,zM⟩:∃s,qX (x.aA.take k)=s:=⟨_,rfl⟩;by_cases hlt:k<x.aA.length
       ·obtain⟨y,b,off,cap',ky,cZ,e0,e1,e2⟩:=xA Kg.O dG k hlt;cases cZ;have wo:=Qh (show x.aA.drop k=y::x.aA.drop (k+1) by rw[List.drop_eq_getElem_cons hlt,ky]);have bu:=Qh (show bf x=if(if dh y then 2 else bW true (x.aA.drop (k+1)))≠0 then(if dh y then 2 else bW true (x.aA.drop (k+1)))else if qX x.aA≠x.size then 1 else 0 by
         rw[He.O,←Hr.O,wo.O,OY])
        have zN:=Qh (show qX (x.aA.take (k+1))=wrap64 (sm+y.n) by rw[List.take_succ_eq_append_getElem hlt,ky,Xkq,zM]);rw[zM];clear ky zM;by_cases h1:y.s<0
        ·have kF:=Qh (show bf x=2 by rw[bu.O,if_pos (show dh y=true by unfold dh;simp;omega)];rfl);go_wp2;go_ret;exact⟨di kF.O.symm,HB.O.trans ((hb.alloc hb.size _).mono HB.O.size)⟩
        by_cases h2:255<y.s
        ·have kF:=Qh (show bf x=2 by rw[bu.O,if_pos (show dh y=true by unfold dh;simp;omega)];rfl);go_wp2;go_ret;exact⟨di kF.O.symm,HB.O.trans ((hb.alloc hb.size _).mono HB.O.size)⟩
        by_cases h3:y.o<0
        ·have kF:=Qh (show bf x=2 by rw[bu.O,if_pos (show dh y=true by unfold dh;simp;omega)];rfl);go_wp2;go_ret;exact⟨di kF.O.symm,HB.O.trans ((hb.alloc hb.size _).mono HB.O.size)⟩
        by_cases h4:2147483647<y.o
        ·have kF:=Qh (show bf x=2 by rw[bu.O,if_pos (show dh y=true by unfold dh;simp;omega)];rfl);go_wp2;go_ret;exact⟨di kF.O.symm,HB.O.trans ((hb.alloc hb.size _).mono HB.O.size)⟩
        by_cases h5:y.n<1
        ·have kF:=Qh (show bf x=2 by rw[bu.O,if_pos (show dh y=true by unfold dh;simp;omega)];rfl);go_wp2;go_ret;exact⟨di kF.O.symm,HB.O.trans ((hb.alloc hb.size _).mono HB.O.size)⟩
        by_cases h6:65536<y.n
        ·have kF:=Qh (show bf x=2 by rw[bu.O,if_pos (show dh y=true by unfold dh;simp;omega)];rfl);go_wp2;go_ret;exact⟨di kF.O.symm,HB.O.trans ((hb.alloc hb.size _).mono HB.O.size)⟩
        by_cases h7:y.s=0
        ·have g7:(y.s==0)=true:=by simpa using h7
         by_cases h8:y.o=0
         ·have g8:(y.o !=0)=false:=by simpa using h8
          have iL:=Qh (show bW true (x.aA.drop (k+1))=bW true x.aA by
           rw[←Hr.O,wo.O,OY,if_neg (show ¬dh y=true by unfold dh;simp;omega)])
          go_wp2;go_roundw;case rel=>exact⟨k+1,by omega,by go_num,by rw[zN.O],iL.O,hb.alloc hb.size _⟩
          case measure=>simp[intOf];omega
         ·have g8:(y.o !=0)=true:=by simpa using h8
          have kF:=Qh (show bf x=2 by rw[bu.O,if_pos (show dh y=true by unfold dh;simp;omega)];rfl);go_wp2;go_ret;exact⟨di kF.O.symm,HB.O.trans ((hb.alloc hb.size _).mono HB.O.size)⟩
        ·have g7:(y.s==0)=false:=by simpa using h7
         have iL:=Qh (show bW true (x.aA.drop (k+1))=bW true x.aA by
          rw[←Hr.O,wo.O,OY,if_neg (show ¬dh y=true by unfold dh;simp;omega)])
         go_wp2;go_roundw;case rel=>exact⟨k+1,by omega,by go_num,by rw[zN.O],iL.O,hb.alloc hb.size _⟩
         case measure=>simp[intOf];omega
       ·have aC:x.aA.take k=x.aA:=List.take_of_length_le (by omega);have DT:x.aA.drop k=[]:=List.drop_of_length_le (by omega);rw[aC]at zM;have Hn:=Qh (show bf x=if sm≠x.size then 1 else 0 by rw[He.O,←Hr.O,DT,if_neg (by simp[bW]),zM]);rw[aC,zM];clear aC DT zM;by_cases hq:sm=x.size
        ·have q1:(sm !=x.size)=false:=by simpa using hq
         have jI:=Qh (show bf x=0 by rw[Hn.O,if_neg (by simpa using hq)]);clear hq;go_wp2;go_ret;exact⟨di jI.O.symm,HB.O.trans (hb.mono HB.O.size)⟩
        ·have q1:(sm !=x.size)=true:=by simpa using hq
         have jI:=Qh (show bf x=1 by rw[Hn.O,if_pos hq]);clear hq;go_wp2;go_ret;exact⟨di jI.O.symm,HB.O.trans (hb.mono HB.O.size)⟩
   ·have f1:((x.au:Int)==1)=false:=by simpa using hf
    go_upto_region 14 with fail
    go_cut [66] (fun Qy wx=>w3=wx∧(Qy= .bool true∧bf x=2∨Qy= .bool false∧ ¬(x.size<0∨65536<x.size∨(x.au≠1∧x.size≠0))))
    case first=>
     have nW:x.size<0∨65536<x.size∨(0≤x.size∧x.size≤65536∧x.au≠1∧x.size≠0)∨(0≤x.size∧x.size≤65536∧(x.au=1∨x.size=0)):=by omega
     rcases nW with h|h|⟨h,h',h2,h3⟩|⟨h,h',h2⟩
     ·have Hn:=Qh (show bf x=2 by rw[He.O,if_pos (by omega)]);clear hf;go_wp2_with fail
      go_meet;exact⟨rfl,.inl ⟨(by first|rfl|(congr 1;simp;omega)),Hn.O⟩⟩
     ·have Hn:=Qh (show bf x=2 by rw[He.O,if_pos (by omega)]);clear hf;go_wp2_with fail
      go_meet;exact⟨rfl,.inl ⟨(by first|rfl|(congr 1;simp;omega)),Hn.O⟩⟩
     ·first
      |exact absurd hf h2
      |(have Hn:=Qh (show bf x=2 by rw[He.O,if_pos (by omega)])
        have g1:(x.size !=0)=true:=by simpa using h3
        clear hf h2 h3;go_wp2_with fail
        go_meet;exact⟨rfl,.inl ⟨(by first|rfl|(congr 1;simp;omega)),Hn.O⟩⟩)
     ·have Hn:=Qh (show ¬(x.size<0∨65536<x.size∨(x.au≠1∧x.size≠0)) by omega);have g2:x.au=1∨(x.size !=0)=false:=h2.imp id (fun e=>by simp[e]);rcases g2 with g2|g2
      all_goals
       first
       |exact absurd g2 hf
       |(clear hf h2
         go_wp2_with fail
         go_meet;exact⟨rfl,.inr ⟨(by first|rfl|(congr 1;simp;omega)),Hn.O⟩⟩)
    case rest=>
     obtain⟨qP,qY⟩:=hcut;subst qP;rcases qY with⟨rfl,hn⟩|⟨rfl,qY⟩
     ·have Hn:=Qh hn;clear hn;go_wp2;go_ret;exact⟨di Hn.O.symm,gp⟩
     replace He:=Qh (show bf x=_ by rw[He.O,if_neg qY]);have Ar:=Qh (show 0≤x.size∧x.size≤65536∧(x.au=1∨x.size=0) by omega);clear qY;go_upto_region 16 with fail
     go_cut [82] (fun s82 wx=>w3=wx∧(s82= .bool true∧bf x=1∨s82= .bool false∧ ¬((x.au=1∧x.av.length≠32)∨(x.au≠1∧x.av≠[]))))
     case first=>
      by_cases nk:(x.au=1∧x.av.length≠32)∨(x.au≠1∧x.av≠[])
      ·have Hn:=Qh (show bf x=1 by rw[He.O,if_pos nk]);have hz:(((x.av.length:Int) !=32)=true∧x.au=1)∨(((x.av==[])=false∧x.av.isEmpty=false∧(!x.av.isEmpty)=true∧(x.av !=[])=true)∧x.au≠1):=by
        rcases nk with⟨h1,h2⟩|⟨h1,h2⟩
        ·left;exact⟨by rw[bne_iff_ne];omega,h1⟩
        ·right;exact⟨Ao h2,h1⟩
       clear nk;rcases hz with⟨z1,z2⟩|⟨⟨z1,z3,z4,z5⟩,z2⟩
       all_goals
        first
        |exact absurd z2 hf
        |exact absurd hf z2
        |(clear hf z2
          go_wp2_with fail
          go_meet;exact⟨rfl,.inl ⟨(by first|rfl|(congr 1;simp;omega)),Hn.O⟩⟩)
      ·have hz:(((x.av.length:Int) !=32)=false∧x.au=1)∨(((x.av==[])=true∧x.av.isEmpty=true∧(!x.av.isEmpty)=false∧(x.av !=[])=false)∧x.au≠1):=by
        by_cases h1:x.au=1
        ·left;have h2:x.av.length=32:=Classical.byContradiction fun h=>nk (.inl ⟨h1,h⟩);exact⟨by rw[h2];rfl,h1⟩
        ·right;exact⟨BU (Classical.byContradiction fun h=>nk (.inr ⟨h1,h⟩)),h1⟩
       have Hn:=Qh nk;clear nk;rcases hz with⟨z1,z2⟩|⟨⟨z1,z3,z4,z5⟩,z2⟩
       all_goals
        first
        |exact absurd z2 hf
        |exact absurd hf z2
        |(clear hf z2
          go_wp2_with fail
          go_meet;exact⟨rfl,.inr ⟨(by first|rfl|(congr 1;simp;omega)),Hn.O⟩⟩)
     case rest=>
      obtain⟨qP,qY⟩:=hcut;subst qP;rcases qY with⟨rfl,hn⟩|⟨rfl,qY⟩
      ·have Hn:=Qh hn;clear hn;go_wp2;go_ret;exact⟨di Hn.O.symm,gp⟩
      replace He:=Qh (show bf x=if bW false x.aA≠0 then bW false x.aA else if qX x.aA≠x.size then 1 else 0 by rw[He.O,if_neg qY,f1]);clear qY;go_wp2_with fail
      go_loopw [6,7] (fun s6 s7 wr=>s6= .int .i64 0∧s7= .int .i64 0∧w3=wr) (fun _ _ _=>0)
      case atStart=>exact⟨rfl,rfl,rfl⟩
      case round=>
       obtain⟨rfl,rfl,dG⟩:=hrel;subst dG;by_cases tT:0<x.aA.length
       ·obtain⟨y,b,off,cap',ky,cZ,e0,e1,e2⟩:=xA Kg.O eT 0 tT;cases cZ;have PL:x.aA=y::x.aA.drop 1:=by rw[←ky,←List.drop_eq_getElem_cons tT];rfl
        have Hn:=Qh (show bf x=1 by rw[He.O,PL];rfl);rw[Nat.zero_mul,Nat.add_zero]at e0 e1 e2;clear ky PL;go_wp2;go_ret;exact⟨di Hn.O.symm,gp.alloc (Nat.le_of_lt pJ) _⟩
       ·have D7:=Qh (show x.aA=[]from List.eq_nil_of_length_eq_zero (by omega));have Hn:=Qh (show bf x=0 by
         rw[He.O,D7.O,if_neg (by simp[bW]),if_neg];have:=Ar.O;simp[qX];omega)
        have oV:x.size=0:=by have:=Ar.O;omega
        have ow:((0:Int) !=x.size)=false:=by rw[oV];rfl
        clear oV;go_wp2;go_ret;exact⟨di Hn.O.symm,gp⟩
