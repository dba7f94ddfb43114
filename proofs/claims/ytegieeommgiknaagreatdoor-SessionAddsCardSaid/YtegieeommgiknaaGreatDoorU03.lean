/- Lemmas for the claim's theorem;conditions: as each says. -/
import Derived.Test.YtegieeommgiknaaGreatDoorU02
import Derived.Deep.DeepCutAuto
import Derived.Shelf.Strings.OnBuilder
import Derived.Shelf.Small.Strs
import Derived.Shelf.GgClosure.StringsIndexFuncTop
import Derived.Shelf.Strings.Split
import Derived.Shelf.Slices.Equal
import Derived.Shelf.Slices.Empties2
import Derived.Test.YtegieeommgiknaaGreatDoorProg
set_option maxHeartbeats 0
set_option maxRecDepth 100000
set_option linter.all false
namespace Go.Proofs.YtegieeommgiknaaGreatDoor
open Go.RowKit
variable{l p d:af}
theorem Dh(h:l≠[]):(l==[])=false∧l.isEmpty=false∧(!l.isEmpty)=true∧(l !=[])=true:=by
 cases l with
 |nil=>exact absurd rfl h
 |cons a l=>exact⟨rfl,rfl,rfl,rfl⟩
theorem EA(h:l=[]):(l==[])=true∧l.isEmpty=true∧(!l.isEmpty)=false∧(l !=[])=false:=by
 subst h;exact⟨rfl,rfl,rfl,rfl⟩
theorem RH(x:Xt)(l:List Xt):dL true (x::l)=if dQ x then 2 else dL true l:=rfl
theorem Yd(I:IH)(x:bD)(va vx:Value)(gK:aZ nk I va x.ag)(kw:aZ mU I vx x.aC)(lQ:x.Wf)(w:World)(hw:Ok I w):
 Calls Tryz.prog 41 #[iF x va vx] w fun e w'=>e= .returned (.int .i64 (bN x))∧Below w.heap.size w w':=by
 have cB:=kw.bL;have Zp:=gK.bL;obtain⟨ao,cap,rfl,fu,iv,_⟩:=id kw;obtain⟨qN,cap2,rfl,rG,tZ,_⟩:=id gK;have Nk:=Qh kw;have Uu:=Qh gK;clear kw gK;have O1:=Qh (fun w=>Xjh x.av w);have FC:=Qh (fun w hw=>X0 I x.aj w hw);have CS:=Qh (fun w hw=>Xnv I _ x.ag Uu.O lQ.ag w hw);have O3:=Qh (fun w=>Xlp x lQ.target (.slice qN x.ag.length cap2) (.slice ao x.aC.length cap) w);have ky:=lQ.s0;have uX:=lQ.s1;have Zu:=lQ.aj;have pF:=lQ.aD;have KT:=Qh lQ.aC;clear lQ;have Gw:=za (k:=x.av);by_cases hk:x.av<1∨6<x.av;case pos=>
  have Hn:=Qh (show bN x=10 by rw[bN,if_pos hk]);rw[Gw.2 hk]at O1;clear Gw hk;go_enter Tryz.func41,Tryz.ntmps41
  go_wp2_with fail
  refine(O1.O _).mono ?_;rintro e w1 ⟨rfl,rfl⟩;go_wp2;go_ret;exact⟨dZ Hn.O.symm,(Qb _ _).alloc (Qn _) _⟩
 have He:=Qh (show bN x=_ by rw[bN,if_neg hk]);obtain⟨nm,Mi⟩:∃s,gp x.av=s:=⟨_,rfl⟩;have hnz:nm≠[]:=fun e=>hk (Gw.1 (by rw[Mi,e]));rw[Mi]at O1;have n1:(nm==[])=false:=by simpa using hnz
 have n2:nm.isEmpty=false:=by cases nm<;>simp_all
 have n3:(!nm.isEmpty)=true:=by rw[n2];rfl
 clear Gw Mi hnz;by_cases FY:aW x.aj=0;case neg=>
  obtain⟨q,hq⟩:∃q,aW x.aj=q:=⟨_,rfl⟩;have hn:(q !=0)=true:=by rw[←hq];simpa using FY
  have Hn:=Qh (show bN x=q by rw[He.O,if_pos FY,hq]);rw[hq]at FC;clear hq FY;go_enter Tryz.func41,Tryz.ntmps41
  go_wp2_with fail
  refine(O1.O _).mono ?_;rintro e w0 ⟨rfl,rfl⟩;go_wp2_with fail
  refine(FC.O _ (hw.alloc _)).mono ?_;rintro e w1 ⟨rfl,aG⟩;have aM:Below w.heap.size w w1:=((Qb _ _).alloc (Qn _) _).trans (aG.mono (by simp));have dJ:w.heap.size<w1.heap.size:=by have:=aG.size;simp at this;omega
  have aO:Ok I w1:=(hw.alloc _).below (Qn _) aG;obtain⟨c0,c1,c2,c3,c4,c5,c6⟩:=dP rfl aG;clear aG;go_wp2;go_ret;exact⟨dZ Hn.O.symm,aM⟩
 replace He:=Qh (show bN x=_ by rw[He.O,if_neg (show ¬aW x.aj≠0 by omega)]);rw[FY]at FC;clear FY;by_cases Bt:x.aj=[]∧x.av<5;case pos=>
  have Hn:=Qh (show bN x=1 by rw[He.O,if_pos Bt]);have p1:(x.aj==[])=true:=by rw[Bt.1];rfl
  have p2:x.aj.isEmpty=true:=by rw[Bt.1];rfl
  have p3:(!x.aj.isEmpty)=false:=by rw[Bt.1];rfl
  have hk5:=Bt.2;clear Bt;go_enter Tryz.func41,Tryz.ntmps41
  go_wp2_with fail
  refine(O1.O _).mono ?_;rintro e w0 ⟨rfl,rfl⟩;go_wp2_with fail
  refine(FC.O _ (hw.alloc _)).mono ?_;rintro e w1 ⟨rfl,aG⟩;have aM:Below w.heap.size w w1:=((Qb _ _).alloc (Qn _) _).trans (aG.mono (by simp));have dJ:w.heap.size<w1.heap.size:=by have:=aG.size;simp at this;omega
  have aO:Ok I w1:=(hw.alloc _).below (Qn _) aG;obtain⟨c0,c1,c2,c3,c4,c5,c6⟩:=dP rfl aG;clear aG;go_wp2;go_ret;exact⟨dZ Hn.O.symm,aM⟩
 replace He:=Qh (show bN x=_ by rw[He.O,if_neg Bt]);have Cq:((x.aj==[])=true∧x.aj.isEmpty=true∧(!x.aj.isEmpty)=false∧5≤x.av)∨((x.aj==[])=false∧x.aj.isEmpty=false∧(!x.aj.isEmpty)=true):=by
  by_cases h:x.aj=[]
  ·left;exact⟨by rw[h];rfl,by rw[h];rfl,by rw[h];rfl,Int.not_lt.1 fun h2=>Bt ⟨h,h2⟩⟩
  ·right;have h2:x.aj.isEmpty=false:=by cases hp:x.aj<;>simp_all
   exact⟨by simpa using h,h2,by rw[h2];rfl⟩
 clear Bt;go_enter Tryz.func41,Tryz.ntmps41
 go_wp2_with fail
 refine(O1.O _).mono ?_;rintro e w0 ⟨rfl,rfl⟩;go_wp2_with fail
 refine(FC.O _ (hw.alloc _)).mono ?_;rintro e w1 ⟨rfl,aG⟩;have aM:Below w.heap.size w w1:=((Qb _ _).alloc (Qn _) _).trans (aG.mono (by simp));have dJ:w.heap.size<w1.heap.size:=by have:=aG.size;simp at this;omega
 have aO:Ok I w1:=(hw.alloc _).below (Qn _) aG;obtain⟨c0,c1,c2,c3,c4,c5,c6⟩:=dP rfl aG;clear aG;clear O1 FC n1 n2 n3;go_upto_region 6 with fail
 go_cut [26] (fun s26 wx=>s26= .bool false∧w1=wx)
 case first=>
  rcases Cq with⟨p1,p2,p3,p4⟩|⟨p1,p2,p3⟩
  all_goals
   go_wp2_with fail
   go_meet;exact⟨(by first|rfl|(congr 1;exact Qf (by omega))),rfl⟩
 case rest=>
  obtain⟨rfl,hcut⟩:=hcut;subst hcut;clear Cq;go_wp2_with fail
  refine(CS.O _ aO).mono ?_;rintro e w2 ⟨rfl,aL⟩;have bH:=aM.trans (aL.mono (Nat.le_of_lt dJ));have gJ:w.heap.size<w2.heap.size:=by have:=aL.size;omega
  have bn:Ok I w2:=aO.below (Qn _) aL;obtain⟨c0,c1,c2,c3,c4,c5,c6⟩:=bP.aR (⟨c0,c1,c2,c3,c4,c5,c6⟩:bP w1 w.heap.size x _ _) aL;clear aL aM dJ aO;by_cases yz:oP x.ag=0;case neg=>
   obtain⟨q,hq⟩:∃q,oP x.ag=q:=⟨_,rfl⟩;have hn:(q !=0)=true:=by rw[←hq];simpa using yz
   have Hn:=Qh (show bN x=q by rw[He.O,if_pos yz,hq]);rw[hq];clear hq yz;go_wp2;go_ret;exact⟨dZ Hn.O.symm,bH⟩
  replace He:=Qh (show bN x=_ by rw[He.O,if_neg (show ¬oP x.ag≠0 by omega)]);rw[yz];clear yz CS;go_upto_region 11 with fail
  go_cut [46] (fun RI wx=> ∃w3,w3=wx∧(RI= .bool true∧bN x=1∨RI= .bool false∧ ¬((x.ag≠[]∧3<x.av)∨dx x=false))∧Below w2.heap.size w2 w3)
  case first=>
   have qw:x.ag.length<1∨(0<x.ag.length∧3<x.av)∨(0<x.ag.length∧x.av≤3):=by omega
   rcases qw with ha|⟨ha,sJ⟩|⟨ha,sJ⟩
   ·have d0:decide (0<x.ag.length)=false:=Qf (by omega);have EC:=Qh (show x.ag=[]from List.eq_nil_of_length_eq_zero (by omega));go_wp2_with fail
    refine(O3.O _).mono ?_;rintro e w3 ⟨rfl,dO⟩;cases Di:dx x
    ·have Hn:=Qh (show bN x=1 by rw[He.O,if_pos (.inr Di)]);clear Di;go_wp2_with fail
     go_meet;exact⟨_,rfl,.inl ⟨rfl,Hn.O⟩,dO⟩
    ·go_wp2_with fail
     go_meet;refine⟨_,rfl,.inr ⟨(by first|rfl|(congr 1;exact Qf (by omega))),?_⟩,dO⟩;rintro(⟨h1,h2⟩|h1)
     ·first
       |exact h1 EC.O
       |omega
     ·rw[Di]at h1;exact absurd h1 (by simp)
   ·have d0:decide (0<x.ag.length)=true:=Qt ha;have Hn:=Qh (show bN x=1 by rw[He.O,if_pos (.inl ⟨by intro e;rw[e]at ha;simp at ha,sJ⟩)]);go_wp2_with fail
    go_meet;exact⟨_,rfl,.inl ⟨(by first|rfl|(congr 1;exact Qt (by omega))),Hn.O⟩,Qb _ _⟩
   ·have d0:decide (0<x.ag.length)=true:=Qt ha;go_wp2_with fail
    refine(O3.O _).mono ?_;rintro e w3 ⟨rfl,dO⟩;cases Di:dx x
    ·have Hn:=Qh (show bN x=1 by rw[He.O,if_pos (.inr Di)]);clear Di;go_wp2_with fail
     go_meet;exact⟨_,rfl,.inl ⟨rfl,Hn.O⟩,dO⟩
    ·go_wp2_with fail
     go_meet;refine⟨_,rfl,.inr ⟨(by first|rfl|(congr 1;exact Qf (by omega))),?_⟩,dO⟩;rintro(⟨h1,h2⟩|h1)
     ·first
       |exact h1 EC.O
       |omega
     ·rw[Di]at h1;exact absurd h1 (by simp)
  case rest=>
   obtain⟨w3,uW,uB,dO⟩:=hcut;subst uW;have jg:=bH.trans (dO.mono (Nat.le_of_lt gJ));have oD:w.heap.size<w3.heap.size:=by have:=dO.size;omega
   have fo:Ok I w3:=bn.below (Qn _) dO;obtain⟨c0,c1,c2,c3,c4,c5,c6⟩:=bP.aR (⟨c0,c1,c2,c3,c4,c5,c6⟩:bP w2 w.heap.size x _ _) dO;clear dO bH gJ bn O3;rcases uB with⟨rfl,hn⟩|⟨rfl,uB⟩
   ·have Hn:=Qh hn;clear hn;go_wp2;go_ret;exact⟨dZ Hn.O.symm,jg⟩
   replace He:=Qh (show bN x=_ by rw[He.O,if_neg uB]);clear uB;by_cases hf:x.av=1
   ·have f1:((x.av:Int)==1)=true:=by simpa using hf
    go_upto_region 14 with fail
    go_cut [66] (fun Uv wx=>w3=wx∧(Uv= .bool true∧bN x=2∨Uv= .bool false∧ ¬(x.size<0∨65536<x.size∨(x.av≠1∧x.size≠0))))
    case first=>
     have qw:x.size<0∨65536<x.size∨(0≤x.size∧x.size≤65536∧x.av≠1∧x.size≠0)∨(0≤x.size∧x.size≤65536∧(x.av=1∨x.size=0)):=by omega
     rcases qw with h|h|⟨h,h',h2,h3⟩|⟨h,h',h2⟩
     ·have Hn:=Qh (show bN x=2 by rw[He.O,if_pos (by omega)]);clear hf;go_wp2_with fail
      go_meet;exact⟨rfl,.inl ⟨(by first|rfl|(congr 1;simp;omega)),Hn.O⟩⟩
     ·have Hn:=Qh (show bN x=2 by rw[He.O,if_pos (by omega)]);clear hf;go_wp2_with fail
      go_meet;exact⟨rfl,.inl ⟨(by first|rfl|(congr 1;simp;omega)),Hn.O⟩⟩
     ·first
      |exact absurd hf h2
      |(have Hn:=Qh (show bN x=2 by rw[He.O,if_pos (by omega)])
        have g1:(x.size !=0)=true:=by simpa using h3
        clear hf h2 h3;go_wp2_with fail
        go_meet;exact⟨rfl,.inl ⟨(by first|rfl|(congr 1;simp;omega)),Hn.O⟩⟩)
     ·have Hn:=Qh (show ¬(x.size<0∨65536<x.size∨(x.av≠1∧x.size≠0)) by omega);have g2:x.av=1∨(x.size !=0)=false:=h2.imp id (fun e=>by simp[e]);rcases g2 with g2|g2
      all_goals
       first
       |exact absurd g2 hf
       |(clear hf h2
         go_wp2_with fail
         go_meet;exact⟨rfl,.inr ⟨(by first|rfl|(congr 1;simp;omega)),Hn.O⟩⟩)
    case rest=>
     obtain⟨uW,uB⟩:=hcut;subst uW;rcases uB with⟨rfl,hn⟩|⟨rfl,uB⟩
     ·have Hn:=Qh hn;clear hn;go_wp2;go_ret;exact⟨dZ Hn.O.symm,jg⟩
     replace He:=Qh (show bN x=_ by rw[He.O,if_neg uB]);have Dj:=Qh (show 0≤x.size∧x.size≤65536∧(x.av=1∨x.size=0) by omega);clear uB;go_upto_region 16 with fail
     go_cut [82] (fun s82 wx=>w3=wx∧(s82= .bool true∧bN x=1∨s82= .bool false∧ ¬((x.av=1∧x.aD.length≠32)∨(x.av≠1∧x.aD≠[]))))
     case first=>
      by_cases pG:(x.av=1∧x.aD.length≠32)∨(x.av≠1∧x.aD≠[])
      ·have Hn:=Qh (show bN x=1 by rw[He.O,if_pos pG]);have hz:(((x.aD.length:Int) !=32)=true∧x.av=1)∨(((x.aD==[])=false∧x.aD.isEmpty=false∧(!x.aD.isEmpty)=true∧(x.aD !=[])=true)∧x.av≠1):=by
        rcases pG with⟨h1,h2⟩|⟨h1,h2⟩
        ·left;exact⟨by rw[bne_iff_ne];omega,h1⟩
        ·right;exact⟨Dh h2,h1⟩
       clear pG;rcases hz with⟨z1,z2⟩|⟨⟨z1,z3,z4,z5⟩,z2⟩
       all_goals
        first
        |exact absurd z2 hf
        |exact absurd hf z2
        |(clear hf z2
          go_wp2_with fail
          go_meet;exact⟨rfl,.inl ⟨(by first|rfl|(congr 1;simp;omega)),Hn.O⟩⟩)
      ·have hz:(((x.aD.length:Int) !=32)=false∧x.av=1)∨(((x.aD==[])=true∧x.aD.isEmpty=true∧(!x.aD.isEmpty)=false∧(x.aD !=[])=false)∧x.av≠1):=by
        by_cases h1:x.av=1
        ·left;have h2:x.aD.length=32:=Classical.byContradiction fun h=>pG (.inl ⟨h1,h⟩);exact⟨by rw[h2];rfl,h1⟩
        ·right;exact⟨EA (Classical.byContradiction fun h=>pG (.inr ⟨h1,h⟩)),h1⟩
       have Hn:=Qh pG;clear pG;rcases hz with⟨z1,z2⟩|⟨⟨z1,z3,z4,z5⟩,z2⟩
       all_goals
        first
        |exact absurd z2 hf
        |exact absurd hf z2
        |(clear hf z2
          go_wp2_with fail
          go_meet;exact⟨rfl,.inr ⟨(by first|rfl|(congr 1;simp;omega)),Hn.O⟩⟩)
     case rest=>
      obtain⟨uW,uB⟩:=hcut;subst uW;rcases uB with⟨rfl,hn⟩|⟨rfl,uB⟩
      ·have Hn:=Qh hn;clear hn;go_wp2;go_ret;exact⟨dZ Hn.O.symm,jg⟩
      replace He:=Qh (show bN x=if dL true x.aC≠0 then dL true x.aC else if uA x.aC≠x.size then 1 else 0 by rw[He.O,if_neg uB,f1]);clear uB;have hBx:=Qh (⟨c0,c1,c2,c3,c4,c5,c6⟩:bP w3 w.heap.size x _ _);clear c0 c1 c2 c3 c4 c5 c6;have HB:=Qh jg;clear jg;go_wp2_with fail
      go_loopw [6,7] (fun s6 s7 wr=> ∃k:Nat,k≤x.aC.length∧s7= .int .i64 k∧s6= .int .i64 (uA (x.aC.take k))∧dL true (x.aC.drop k)=dL true x.aC∧Below w3.heap.size w3 wr) (fun _ i _=>x.aC.length-(intOf i).toNat)
      case atStart=>exact⟨0,Nat.zero_le _,rfl,rfl,rfl,Qb _ _⟩
      case round=>
       obtain⟨k,hk,rfl,rfl,hr,hb⟩:=hrel;have Hr:=Qh hr;clear hr;have eX:Ok I wr:=fo.below (Qn _) hb;obtain⟨c0,c1,c2,c3,c4,c5,c6⟩:=hBx.O.aR hb;obtain⟨sm,vL⟩:∃s,uA (x.aC.take k)=s:=⟨_,rfl⟩;by_cases hlt:k<x.aC.length
       ·obtain⟨y,b,off,cap',kK,dC,e0,e1,e2⟩:=vg Nk.O eX k hlt;cases dC;have O4:=Qh (show x.aC.drop k=y::x.aC.drop (k+1) by rw[List.drop_eq_getElem_cons hlt,kK]);have bI:=Qh (show bN x=if(if dQ y then 2 else dL true (x.aC.drop (k+1)))≠0 then(if dQ y then 2 else dL true (x.aC.drop (k+1)))else if uA x.aC≠x.size then 1 else 0 by
         rw[He.O,←Hr.O,O4.O,RH])
        have yt:=Qh (show uA (x.aC.take (k+1))=wrap64 (sm+y.n) by rw[List.take_succ_eq_append_getElem hlt,kK,Xle,vL]);rw[vL];clear kK vL;by_cases h1:y.s<0
        ·have lW:=Qh (show bN x=2 by rw[bI.O,if_pos (show dQ y=true by unfold dQ;simp;omega)];rfl);go_wp2;go_ret;exact⟨dZ lW.O.symm,HB.O.trans ((hb.alloc hb.size _).mono HB.O.size)⟩
        by_cases h2:255<y.s
        ·have lW:=Qh (show bN x=2 by rw[bI.O,if_pos (show dQ y=true by unfold dQ;simp;omega)];rfl);go_wp2;go_ret;exact⟨dZ lW.O.symm,HB.O.trans ((hb.alloc hb.size _).mono HB.O.size)⟩
        by_cases h3:y.o<0
        ·have lW:=Qh (show bN x=2 by rw[bI.O,if_pos (show dQ y=true by unfold dQ;simp;omega)];rfl);go_wp2;go_ret;exact⟨dZ lW.O.symm,HB.O.trans ((hb.alloc hb.size _).mono HB.O.size)⟩
        by_cases h4:2147483647<y.o
        ·have lW:=Qh (show bN x=2 by rw[bI.O,if_pos (show dQ y=true by unfold dQ;simp;omega)];rfl);go_wp2;go_ret;exact⟨dZ lW.O.symm,HB.O.trans ((hb.alloc hb.size _).mono HB.O.size)⟩
        by_cases h5:y.n<1
        ·have lW:=Qh (show bN x=2 by rw[bI.O,if_pos (show dQ y=true by unfold dQ;simp;omega)];rfl);go_wp2;go_ret;exact⟨dZ lW.O.symm,HB.O.trans ((hb.alloc hb.size _).mono HB.O.size)⟩
        by_cases h6:65536<y.n
        ·have lW:=Qh (show bN x=2 by rw[bI.O,if_pos (show dQ y=true by unfold dQ;simp;omega)];rfl);go_wp2;go_ret;exact⟨dZ lW.O.symm,HB.O.trans ((hb.alloc hb.size _).mono HB.O.size)⟩
        by_cases h7:y.s=0
        ·have g7:(y.s==0)=true:=by simpa using h7
         by_cases h8:y.o=0
         ·have g8:(y.o !=0)=false:=by simpa using h8
          have jq:=Qh (show dL true (x.aC.drop (k+1))=dL true x.aC by
           rw[←Hr.O,O4.O,RH,if_neg (show ¬dQ y=true by unfold dQ;simp;omega)])
          go_wp2;go_roundw;case rel=>exact⟨k+1,by omega,by go_num,by rw[yt.O],jq.O,hb.alloc hb.size _⟩
          case measure=>simp[intOf];omega
         ·have g8:(y.o !=0)=true:=by simpa using h8
          have lW:=Qh (show bN x=2 by rw[bI.O,if_pos (show dQ y=true by unfold dQ;simp;omega)];rfl);go_wp2;go_ret;exact⟨dZ lW.O.symm,HB.O.trans ((hb.alloc hb.size _).mono HB.O.size)⟩
        ·have g7:(y.s==0)=false:=by simpa using h7
         have jq:=Qh (show dL true (x.aC.drop (k+1))=dL true x.aC by
          rw[←Hr.O,O4.O,RH,if_neg (show ¬dQ y=true by unfold dQ;simp;omega)])
         go_wp2;go_roundw;case rel=>exact⟨k+1,by omega,by go_num,by rw[yt.O],jq.O,hb.alloc hb.size _⟩
         case measure=>simp[intOf];omega
       ·have au:x.aC.take k=x.aC:=List.take_of_length_le (by omega);have zq:x.aC.drop k=[]:=List.drop_of_length_le (by omega);rw[au]at vL;have Hn:=Qh (show bN x=if sm≠x.size then 1 else 0 by rw[He.O,←Hr.O,zq,if_neg (by simp[dL]),vL]);rw[au,vL];clear au zq vL;by_cases hq:sm=x.size
        ·have q1:(sm !=x.size)=false:=by simpa using hq
         have kR:=Qh (show bN x=0 by rw[Hn.O,if_neg (by simpa using hq)]);clear hq;go_wp2;go_ret;exact⟨dZ kR.O.symm,HB.O.trans (hb.mono HB.O.size)⟩
        ·have q1:(sm !=x.size)=true:=by simpa using hq
         have kR:=Qh (show bN x=1 by rw[Hn.O,if_pos hq]);clear hq;go_wp2;go_ret;exact⟨dZ kR.O.symm,HB.O.trans (hb.mono HB.O.size)⟩
   ·have f1:((x.av:Int)==1)=false:=by simpa using hf
    go_upto_region 14 with fail
    go_cut [66] (fun Uv wx=>w3=wx∧(Uv= .bool true∧bN x=2∨Uv= .bool false∧ ¬(x.size<0∨65536<x.size∨(x.av≠1∧x.size≠0))))
    case first=>
     have qw:x.size<0∨65536<x.size∨(0≤x.size∧x.size≤65536∧x.av≠1∧x.size≠0)∨(0≤x.size∧x.size≤65536∧(x.av=1∨x.size=0)):=by omega
     rcases qw with h|h|⟨h,h',h2,h3⟩|⟨h,h',h2⟩
     ·have Hn:=Qh (show bN x=2 by rw[He.O,if_pos (by omega)]);clear hf;go_wp2_with fail
      go_meet;exact⟨rfl,.inl ⟨(by first|rfl|(congr 1;simp;omega)),Hn.O⟩⟩
     ·have Hn:=Qh (show bN x=2 by rw[He.O,if_pos (by omega)]);clear hf;go_wp2_with fail
      go_meet;exact⟨rfl,.inl ⟨(by first|rfl|(congr 1;simp;omega)),Hn.O⟩⟩
     ·first
      |exact absurd hf h2
      |(have Hn:=Qh (show bN x=2 by rw[He.O,if_pos (by omega)])
        have g1:(x.size !=0)=true:=by simpa using h3
        clear hf h2 h3;go_wp2_with fail
        go_meet;exact⟨rfl,.inl ⟨(by first|rfl|(congr 1;simp;omega)),Hn.O⟩⟩)
     ·have Hn:=Qh (show ¬(x.size<0∨65536<x.size∨(x.av≠1∧x.size≠0)) by omega);have g2:x.av=1∨(x.size !=0)=false:=h2.imp id (fun e=>by simp[e]);rcases g2 with g2|g2
      all_goals
       first
       |exact absurd g2 hf
       |(clear hf h2
         go_wp2_with fail
         go_meet;exact⟨rfl,.inr ⟨(by first|rfl|(congr 1;simp;omega)),Hn.O⟩⟩)
    case rest=>
     obtain⟨uW,uB⟩:=hcut;subst uW;rcases uB with⟨rfl,hn⟩|⟨rfl,uB⟩
     ·have Hn:=Qh hn;clear hn;go_wp2;go_ret;exact⟨dZ Hn.O.symm,jg⟩
     replace He:=Qh (show bN x=_ by rw[He.O,if_neg uB]);have Dj:=Qh (show 0≤x.size∧x.size≤65536∧(x.av=1∨x.size=0) by omega);clear uB;go_upto_region 16 with fail
     go_cut [82] (fun s82 wx=>w3=wx∧(s82= .bool true∧bN x=1∨s82= .bool false∧ ¬((x.av=1∧x.aD.length≠32)∨(x.av≠1∧x.aD≠[]))))
     case first=>
      by_cases pG:(x.av=1∧x.aD.length≠32)∨(x.av≠1∧x.aD≠[])
      ·have Hn:=Qh (show bN x=1 by rw[He.O,if_pos pG]);have hz:(((x.aD.length:Int) !=32)=true∧x.av=1)∨(((x.aD==[])=false∧x.aD.isEmpty=false∧(!x.aD.isEmpty)=true∧(x.aD !=[])=true)∧x.av≠1):=by
        rcases pG with⟨h1,h2⟩|⟨h1,h2⟩
        ·left;exact⟨by rw[bne_iff_ne];omega,h1⟩
        ·right;exact⟨Dh h2,h1⟩
       clear pG;rcases hz with⟨z1,z2⟩|⟨⟨z1,z3,z4,z5⟩,z2⟩
       all_goals
        first
        |exact absurd z2 hf
        |exact absurd hf z2
        |(clear hf z2
          go_wp2_with fail
          go_meet;exact⟨rfl,.inl ⟨(by first|rfl|(congr 1;simp;omega)),Hn.O⟩⟩)
      ·have hz:(((x.aD.length:Int) !=32)=false∧x.av=1)∨(((x.aD==[])=true∧x.aD.isEmpty=true∧(!x.aD.isEmpty)=false∧(x.aD !=[])=false)∧x.av≠1):=by
        by_cases h1:x.av=1
        ·left;have h2:x.aD.length=32:=Classical.byContradiction fun h=>pG (.inl ⟨h1,h⟩);exact⟨by rw[h2];rfl,h1⟩
        ·right;exact⟨EA (Classical.byContradiction fun h=>pG (.inr ⟨h1,h⟩)),h1⟩
       have Hn:=Qh pG;clear pG;rcases hz with⟨z1,z2⟩|⟨⟨z1,z3,z4,z5⟩,z2⟩
       all_goals
        first
        |exact absurd z2 hf
        |exact absurd hf z2
        |(clear hf z2
          go_wp2_with fail
          go_meet;exact⟨rfl,.inr ⟨(by first|rfl|(congr 1;simp;omega)),Hn.O⟩⟩)
     case rest=>
      obtain⟨uW,uB⟩:=hcut;subst uW;rcases uB with⟨rfl,hn⟩|⟨rfl,uB⟩
      ·have Hn:=Qh hn;clear hn;go_wp2;go_ret;exact⟨dZ Hn.O.symm,jg⟩
      replace He:=Qh (show bN x=if dL false x.aC≠0 then dL false x.aC else if uA x.aC≠x.size then 1 else 0 by rw[He.O,if_neg uB,f1]);clear uB;go_wp2_with fail
      go_loopw [6,7] (fun s6 s7 wr=>s6= .int .i64 0∧s7= .int .i64 0∧w3=wr) (fun _ _ _=>0)
      case atStart=>exact⟨rfl,rfl,rfl⟩
      case round=>
       obtain⟨rfl,rfl,eX⟩:=hrel;subst eX;by_cases vN:0<x.aC.length
       ·obtain⟨y,b,off,cap',kK,dC,e0,e1,e2⟩:=vg Nk.O fo 0 vN;cases dC;have QM:x.aC=y::x.aC.drop 1:=by rw[←kK,←List.drop_eq_getElem_cons vN];rfl
        have Hn:=Qh (show bN x=1 by rw[He.O,QM];rfl);rw[Nat.zero_mul,Nat.add_zero]at e0 e1 e2;clear kK QM;go_wp2;go_ret;exact⟨dZ Hn.O.symm,jg.alloc (Nat.le_of_lt oD) _⟩
       ·have Gb:=Qh (show x.aC=[]from List.eq_nil_of_length_eq_zero (by omega));have Hn:=Qh (show bN x=0 by
         rw[He.O,Gb.O,if_neg (by simp[dL]),if_neg];have:=Dj.O;simp[uA];omega)
        have pg:x.size=0:=by have:=Dj.O;omega
        have qL:((0:Int) !=x.size)=false:=by rw[pg];rfl
        clear pg;go_wp2;go_ret;exact⟨dZ Hn.O.symm,jg⟩
theorem below_setRow{B:Nat}{w w':World}{g:Nat}(h:Below B w w')(hg:B≤g)(cs:Array Value):Below B w (w'.setRow g cs):=
 ⟨h.os,h.tape,h.output,by simpa using h.size,fun k hk=>by rw[setRow_other _ _ _ _ (by omega)];exact h.block k hk⟩
def zeroE:bD:=⟨0,[],[],[],0,[],[]⟩
def mV(t:List bD)(p:af):bD×Bool:=match gu t p with|some x=>(x,true)|none=>(zeroE,false)
def O5(I:IH)(w:World)(x:bD×Bool)(e:Ending)(w':World):Prop:=
 ∃va vx,e= .returned (.tuple #[iF x.1 va vx,.bool x.2])∧aZ nk I va x.1.ag∧aZ mU I vx x.1.aC∧Below w.heap.size w w'
abbrev lg(x:bD)(va vx:Value):Array Value:=#[.int .i64 x.av,S x.aj,va,S x.target,.int .i64 x.size,S x.aD,vx]
abbrev cu:Array Value:=#[.int .i64 0,.string ⟨#[]⟩,.slice none 0 0,.string ⟨#[]⟩,.int .i64 0,.string ⟨#[]⟩,.slice none 0 0]
theorem Xjt{x:bD}{va vx:Value}{I:IH}(h1:aZ nk I va x.ag)(h2:aZ mU I vx x.aC):(lg x va vx).all (·.oneCell')=true:=by
 have e1:=h1.one;have e2:=h2.one;simp[lg,e1,e2];exact⟨rfl,rfl,rfl,rfl,rfl⟩
theorem Xhz(I:IH)(v:Value)(t:List bD)(hv:aZ bM I v t)(p:af)(w:World)(hw:Ok I w):
 Calls Tryz.prog 43 #[v,S p] w (O5 I w (mV t p)):=by
 have hlen:=hv.bL;obtain⟨ao,cap,rfl,fu,iv,_⟩:=id hv;have Hv:=Qh hv;clear hv;have Au:(Tryz.prog.info? 63).map (·.size)=some 7:=by kernel_rfl
 have Hz:=Qh (heap_alloc_new w (.cells cu 63));go_enter Tryz.func43,Tryz.ntmps43
 go_wp2_with fail
 go_loopw [10] (fun s10 wr=> ∃k:Nat,k≤t.length∧s10= .int .i64 k∧gu t p=gu (t.drop k) p∧Below w.heap.size w wr∧w.heap.size<wr.heap.size∧wr.heap[w.heap.size]?=some (.cells cu 63 (0,0))) (fun i _=>t.length-(intOf i).toNat)
 case atStart=>exact⟨0,Nat.zero_le _,rfl,rfl,(Qb _ _).alloc (Qn _) _,by simp,Hz.O⟩
 case round=>
  clear Hz;obtain⟨k,hk,rfl,hr,hb,bS,hz⟩:=hrel;have Hr:=Qh hr;have Hz:=Qh hz;clear hr hz;have eX:Ok I wr:=hw.below (Qn _) hb;by_cases hlt:k<t.length
  ·obtain⟨x,va,vx,b,off,cap',cB,dC,⟨c0,c1,c2,c3,c4,c5,c6⟩,h1,h2⟩:=wD Hv.O eX k hlt;cases dC;have bI:=Qh (show gu t p=if(x.aj==p)then some x else gu (t.drop (k+1)) p by
    rw[Hr.O,List.drop_eq_getElem_cons hlt,cB,gu,List.find?_cons];cases (x.aj==p)<;>rfl)
   obtain⟨aa,ca,rfl,_,_,_⟩:=id h1;obtain⟨ax,cx,rfl,_,_,_⟩:=id h2;have H1:=Qh h1;have H2:=Qh h2;clear cB h1 h2;cases he:(x.aj==p)
   ·have Hn:=Qh (show gu t p=gu (t.drop (k+1)) p by rw[bI.O,he];rfl);go_wp2;go_roundw;case rel=>exact⟨k+1,by omega,by go_num,Hn.O,hb.alloc hb.size _,by simp;omega,(Below.heap_alloc wr _ _ bS).trans Hz.O⟩
    case measure=>simp[intOf];omega
   ·have Hn:=Qh (show mV t p=(x,true) by rw[mV,bI.O,he];rfl);have qL:(wr.alloc (.cells (lg x (.slice aa x.ag.length ca) (.slice ax x.aC.length cx)) 63)).heap[w.heap.size]?=some (.cells cu 63 (0,0)):=(Below.heap_alloc wr _ _ bS).trans Hz.O;have Hz1:=Qh qL;have QN:=Xjt H1.O H2.O;clear qL;go_wp2_with (refine wpList_store_row rfl 63 _ _ rfl w.heap.size (lg x (.slice aa x.ag.length ca) (.slice ax x.aC.length cx)) rfl rfl 63 cu Hz1.O Au rfl QN ?_)
    try simp only[Exit.inBlock,Exit.then]
    refine bodyPost_ret (v:= .tuple #[iF x (.slice aa x.ag.length ca) (.slice ax x.aC.length cx),.bool true]) ?_ rfl ?_
    ·rw[results_cell_tmp rfl];simp[asAddr,run_loadVar_row _ w.heap.size 63 63 (lg x (.slice aa x.ag.length ca) (.slice ax x.aC.length cx)) (0,0) _ (setRow_heap _ _ _ _ _ _ Hz1.O) Tryz.underlying63 rfl Au]
    ·rw[Hn.O];exact⟨_,_,rfl,H1.O,H2.O,below_setRow (hb.alloc hb.size _) (Qn _) _⟩
  ·have Hn:=Qh (show mV t p=(zeroE,false) by rw[mV,Hr.O,List.drop_of_length_le (by omega)];rfl);have hzo:cu.all (·.oneCell')=true:=by simp[Value.oneCell']
   go_wp2_with (refine wpList_store_row rfl 63 _ _ rfl w.heap.size cu rfl rfl 63 cu Hz.O Au rfl hzo ?_)
   try simp only[Exit.inBlock,Exit.then]
   refine bodyPost_ret (v:= .tuple #[.agg cu,.bool false]) ?_ rfl ?_
   ·rw[results_cell_tmp rfl];simp[asAddr,run_loadVar_row _ w.heap.size 63 63 cu (0,0) _ (setRow_heap _ _ _ _ _ _ Hz.O) Tryz.underlying63 rfl Au]
   ·rw[Hn.O];exact⟨.slice none 0 0,.slice none 0 0,rfl,aZ.nil _ _,aZ.nil _ _,below_setRow hb (Qn _) _⟩
theorem Xju(t:List bD)(p:af)(hp:p≠[]):dX t p=if(mV t p).2=false then 9 else if(mV t p).1.av≠2 then 10 else 0:=by
 unfold dX mV;rw[if_neg hp];cases gu t p<;>simp
theorem Xr2(I:IH)(v:Value)(t:List bD)(hv:aZ bM I v t)(p:af)(w:World)(hw:Ok I w):
 Calls Tryz.prog 91 #[v,S p] w fun e w'=>e= .returned (.int .i64 (dX t p))∧Below w.heap.size w w':=by
 obtain⟨ao,cap,rfl,fu,iv,_⟩:=id hv;have Hv:=Qh hv;clear hv;by_cases hp:p=[]
 ·obtain⟨p1,p2,p3,p4⟩:=EA hp;have Hn:=Qh (show dX t p=0 by rw[dX,if_pos hp]);clear hp;go_enter Tryz.func91,Tryz.ntmps91
  go_wp2;go_ret;exact⟨dZ Hn.O.symm,Qb _ _⟩
 ·obtain⟨p1,p2,p3,p4⟩:=Dh hp;have Hn:=Qh (Xju t p hp);have Hg:=Qh (Xhz I _ t Hv.O p w hw);clear hp;generalize mV t p=g at Hn Hg;obtain⟨x,b⟩:=g;go_enter Tryz.func91,Tryz.ntmps91
  go_wp2_with fail
  refine Hg.O.mono ?_;rintro e w1 ⟨va,vx,rfl,h1,h2,aG⟩;obtain⟨aa,ca,rfl,_,_,_⟩:=id h1;obtain⟨ax,cx,rfl,_,_,_⟩:=id h2;clear h1 h2;cases b
  ·have kR:=Qh (show dX t p=9 by rw[Hn.O];rfl);go_wp2;go_ret;exact⟨dZ kR.O.symm,aG.alloc aG.size _⟩
  ·by_cases hk:x.av=2
   ·have k1:((x.av:Int) !=2)=false:=by simpa using hk
    have kR:=Qh (show dX t p=0 by rw[Hn.O];simp[hk]);clear hk;go_wp2;go_ret;exact⟨dZ kR.O.symm,aG.alloc aG.size _⟩
   ·have k1:((x.av:Int) !=2)=true:=by simpa using hk
    have kR:=Qh (show dX t p=10 by rw[Hn.O];simp[hk]);clear hk;go_wp2;go_ret;exact⟨dZ kR.O.symm,aG.alloc aG.size _⟩
theorem Xp4(a b:Xt)(W:World):(binOp .neq 65 (.agg #[.int .i64 a.s,.int .i64 a.o,.int .i64 a.n]) (.agg #[.int .i64 b.s,.int .i64 b.o,.int .i64 b.n])).run Tryz.prog W= .ok (.bool (!decide (a=b))) W:=by
 rw[Tv _ _ [(3,0,false),(3,1,false),(3,2,false)] W (by kernel_rfl) (by kernel_rfl) (by kernel_rfl)];obtain⟨a1,a2,a3⟩:=a;obtain⟨b1,b2,b3⟩:=b;simp[go_sem];by_cases h1:a1=b1<;>by_cases h2:a2=b2<;>by_cases h3:a3=b3<;>simp[h1,h2,h3]
theorem Xnq(I:IH)(a b:bD)(va vx vb vy:Value)(gK:aZ nk I va a.ag)(kw:aZ mU I vx a.aC)(pu:aZ nk I vb b.ag)(Ye:aZ mU I vy b.aC)(w:World)(hw:Ok I w):
 Calls Tryz.prog 58 #[iF a va vx,iF b vb vy] w fun e w'=>e= .returned (.bool (decide (a=b)))∧Below w.heap.size w w':=by
 have yT:=kw.bL;have DZ:=Ye.bL;obtain⟨aa,ca,rfl,_,_,_⟩:=id gK;obtain⟨ax,cx,rfl,AA,amk,_⟩:=id kw;obtain⟨MP,MQ,rfl,_,_,_⟩:=id pu;obtain⟨MR,MS,rfl,hcy,aml,_⟩:=id Ye;have yt:=Qh (fun w hw=>Xqi I _ _ a.ag b.ag gK pu w hw);have Nk:=Qh kw;have Hvy:=Qh Ye;clear gK kw pu Ye;by_cases h1:a.av=b.av;case neg=>
  have k1:((a.av:Int) !=b.av)=true:=by simpa using h1
  have Hn:=Qh (show decide (a=b)=false from Qf fun e=>h1 (by rw[e]));clear h1;go_enter Tryz.func58,Tryz.ntmps58
  go_wp2;go_ret;exact⟨jr Hn.O.symm,((Qb _ _).alloc (Qn _) _).alloc (by simp) _⟩
 have k1:((a.av:Int) !=b.av)=false:=by simpa using h1
 by_cases h2:a.aj=b.aj;case neg=>
  have k2:(a.aj !=b.aj)=true:=by simpa using h2
  have k2':(a.aj==b.aj)=false:=by simpa using h2
  have Hn:=Qh (show decide (a=b)=false from Qf fun e=>h2 (by rw[e]));clear h2 h1;go_enter Tryz.func58,Tryz.ntmps58
  go_wp2;go_ret;exact⟨jr Hn.O.symm,((Qb _ _).alloc (Qn _) _).alloc (by simp) _⟩
 have k2:(a.aj !=b.aj)=false:=by simpa using h2
 have k2':(a.aj==b.aj)=true:=by simpa using h2
 by_cases h3:a.ag=b.ag;case neg=>
  have Hn:=Qh (show decide (a=b)=false from Qf fun e=>h3 (by rw[e]));rw[Qf h3]at yt;clear h3 h2 h1;go_enter Tryz.func58,Tryz.ntmps58
  go_wp2_with fail
  refine(yt.O _ ((hw.alloc _).alloc _)).mono ?_;rintro e w1 ⟨rfl,aG⟩;have aM:Below w.heap.size w w1:=(((Qb _ _).alloc (Qn _) _).alloc (by simp) _).trans (aG.mono (by simp;omega));have hB:=dP (n:=w.heap.size+1) (e:=b) (by simp) aG;have hA:=(bP.past (dP (e:=a) (t:=63) rfl (Qb _ _)) (.cells #[.int .i64 b.av,S b.aj,.slice MP b.ag.length MQ,S b.target,.int .i64 b.size,S b.aD,.slice MR b.aC.length MS] 63)).aR aG;obtain⟨c0,c1,c2,c3,c4,c5,c6⟩:=hA;obtain⟨d0,d1,d2,d3,d4,d5,d6⟩:=hB;clear aG;go_wp2;go_ret;exact⟨jr Hn.O.symm,aM⟩
 rw[Qt h3]at yt;by_cases h4:a.target=b.target;case neg=>
  have k4:(a.target !=b.target)=true:=by simpa using h4
  have k4':(a.target==b.target)=false:=by simpa using h4
  have Hn:=Qh (show decide (a=b)=false from Qf fun e=>h4 (by rw[e]));clear h4 h3 h2 h1;go_enter Tryz.func58,Tryz.ntmps58
  go_wp2_with fail
  refine(yt.O _ ((hw.alloc _).alloc _)).mono ?_;rintro e w1 ⟨rfl,aG⟩;have aM:Below w.heap.size w w1:=(((Qb _ _).alloc (Qn _) _).alloc (by simp) _).trans (aG.mono (by simp;omega));have hB:=dP (n:=w.heap.size+1) (e:=b) (by simp) aG;have hA:=(bP.past (dP (e:=a) (t:=63) rfl (Qb _ _)) (.cells #[.int .i64 b.av,S b.aj,.slice MP b.ag.length MQ,S b.target,.int .i64 b.size,S b.aD,.slice MR b.aC.length MS] 63)).aR aG;obtain⟨c0,c1,c2,c3,c4,c5,c6⟩:=hA;obtain⟨d0,d1,d2,d3,d4,d5,d6⟩:=hB;clear aG;go_wp2;go_ret;exact⟨jr Hn.O.symm,aM⟩
 have k4:(a.target !=b.target)=false:=by simpa using h4
 have k4':(a.target==b.target)=true:=by simpa using h4
 by_cases h5:a.size=b.size;case neg=>
  have k5:((a.size:Int) !=b.size)=true:=by simpa using h5
  have Hn:=Qh (show decide (a=b)=false from Qf fun e=>h5 (by rw[e]));clear h5 h4 h3 h2 h1;go_enter Tryz.func58,Tryz.ntmps58
  go_wp2_with fail
  refine(yt.O _ ((hw.alloc _).alloc _)).mono ?_;rintro e w1 ⟨rfl,aG⟩;have aM:Below w.heap.size w w1:=(((Qb _ _).alloc (Qn _) _).alloc (by simp) _).trans (aG.mono (by simp;omega));have hB:=dP (n:=w.heap.size+1) (e:=b) (by simp) aG;have hA:=(bP.past (dP (e:=a) (t:=63) rfl (Qb _ _)) (.cells #[.int .i64 b.av,S b.aj,.slice MP b.ag.length MQ,S b.target,.int .i64 b.size,S b.aD,.slice MR b.aC.length MS] 63)).aR aG;obtain⟨c0,c1,c2,c3,c4,c5,c6⟩:=hA;obtain⟨d0,d1,d2,d3,d4,d5,d6⟩:=hB;clear aG;go_wp2;go_ret;exact⟨jr Hn.O.symm,aM⟩
 have k5:((a.size:Int) !=b.size)=false:=by simpa using h5
 by_cases h6:a.aD=b.aD;case neg=>
  have k6:(a.aD !=b.aD)=true:=by simpa using h6
  have k6':(a.aD==b.aD)=false:=by simpa using h6
  have Hn:=Qh (show decide (a=b)=false from Qf fun e=>h6 (by rw[e]));clear h6 h5 h4 h3 h2 h1;go_enter Tryz.func58,Tryz.ntmps58
  go_wp2_with fail
  refine(yt.O _ ((hw.alloc _).alloc _)).mono ?_;rintro e w1 ⟨rfl,aG⟩;have aM:Below w.heap.size w w1:=(((Qb _ _).alloc (Qn _) _).alloc (by simp) _).trans (aG.mono (by simp;omega));have hB:=dP (n:=w.heap.size+1) (e:=b) (by simp) aG;have hA:=(bP.past (dP (e:=a) (t:=63) rfl (Qb _ _)) (.cells #[.int .i64 b.av,S b.aj,.slice MP b.ag.length MQ,S b.target,.int .i64 b.size,S b.aD,.slice MR b.aC.length MS] 63)).aR aG;obtain⟨c0,c1,c2,c3,c4,c5,c6⟩:=hA;obtain⟨d0,d1,d2,d3,d4,d5,d6⟩:=hB;clear aG;go_wp2;go_ret;exact⟨jr Hn.O.symm,aM⟩
 have k6:(a.aD !=b.aD)=false:=by simpa using h6
 have k6':(a.aD==b.aD)=true:=by simpa using h6
 have Hab:=Qh (show decide (a=b)=decide (a.aC=b.aC) by
  rw[decide_eq_decide];constructor
  ·intro e;rw[e]
  ·intro e;cases a;cases b;simp_all)
 clear h6 h5 h4 h3 h2 h1;by_cases Cg:a.aC.length=b.aC.length;case neg=>
  have k7:((a.aC.length:Int) !=(b.aC.length:Int))=true:=by rw[bne_iff_ne];omega
  have Hn:=Qh (show decide (a=b)=false by rw[Hab.O,Qf];intro e;exact Cg (by rw[e]));clear Cg;go_enter Tryz.func58,Tryz.ntmps58
  go_wp2_with fail
  refine(yt.O _ ((hw.alloc _).alloc _)).mono ?_;rintro e w1 ⟨rfl,aG⟩;have aM:Below w.heap.size w w1:=(((Qb _ _).alloc (Qn _) _).alloc (by simp) _).trans (aG.mono (by simp;omega));have hB:=dP (n:=w.heap.size+1) (e:=b) (by simp) aG;have hA:=(bP.past (dP (e:=a) (t:=63) rfl (Qb _ _)) (.cells #[.int .i64 b.av,S b.aj,.slice MP b.ag.length MQ,S b.target,.int .i64 b.size,S b.aD,.slice MR b.aC.length MS] 63)).aR aG;obtain⟨c0,c1,c2,c3,c4,c5,c6⟩:=hA;obtain⟨d0,d1,d2,d3,d4,d5,d6⟩:=hB;clear aG;go_wp2;go_ret;exact⟨jr Hn.O.symm,aM⟩
 have k7:((a.aC.length:Int) !=(b.aC.length:Int))=false:=by rw[Cg];simp
 have JU:=Qh Cg;clear Cg;go_enter Tryz.func58,Tryz.ntmps58
 go_wp2_with fail
 refine(yt.O _ ((hw.alloc _).alloc _)).mono ?_;rintro e w1 ⟨rfl,aG⟩;have aM:Below w.heap.size w w1:=(((Qb _ _).alloc (Qn _) _).alloc (by simp) _).trans (aG.mono (by simp;omega));have hB:=dP (n:=w.heap.size+1) (e:=b) (by simp) aG;have hA:=(bP.past (dP (e:=a) (t:=63) rfl (Qb _ _)) (.cells #[.int .i64 b.av,S b.aj,.slice MP b.ag.length MQ,S b.target,.int .i64 b.size,S b.aD,.slice MR b.aC.length MS] 63)).aR aG;obtain⟨c0,c1,c2,c3,c4,c5,c6⟩:=hA;obtain⟨d0,d1,d2,d3,d4,d5,d6⟩:=hB;clear aG;have HA:=Qh (⟨c0,c1,c2,c3,c4,c5,c6⟩:bP w1 w.heap.size a _ _);have HB:=Qh (⟨d0,d1,d2,d3,d4,d5,d6⟩:bP w1 _ b _ _);have aO:Ok I w1:=hw.below (Qn _) aM;go_wp2_with fail
 clear c0 c1 c2 c3 c4 c5 c6 d0 d1 d2 d3 d4 d5 d6;go_loopw [5] (fun s5 wr=> ∃k:Nat,k≤a.aC.length∧s5= .int .i64 k∧a.aC.take k=b.aC.take k∧Below w1.heap.size w1 wr) (fun i _=>a.aC.length-(intOf i).toNat)
 case atStart=>exact⟨0,Nat.zero_le _,rfl,rfl,Qb _ _⟩
 case round=>
  obtain⟨k,hk,rfl,hr,hb⟩:=hrel;have Hr:=Qh hr;clear hr;have eX:Ok I wr:=aO.below (Qn _) hb;have c6:=(HA.O.aR hb).c6;have d6:=(HB.O.aR hb).c6;by_cases hlt:k<a.aC.length
  ·have kg:k<b.aC.length:=by rw[←JU.O];exact hlt
   obtain⟨p,bb,off,cap',hp,dC,p0,p1,p2⟩:=vg Nk.O eX k hlt;cases dC;obtain⟨q,b',off',sN,hq,dC,q0,q1,q2⟩:=vg Hvy.O eX k kg;cases dC;have Hp:=Qh hp;have Hq:=Qh hq;have x0:=cell_regrown p0;have x1:=cell_regrown p1;have x2:=cell_regrown p2;have y0:=cell_regrown q0;have y1:=cell_regrown q1;have y2:=cell_regrown q2;have e6:=cell_regrown c6;have f6:=cell_regrown d6;clear hp hq;have yS:=Xp4 p q;by_cases sZ:p=q
   ·rw[Qt sZ]at yS;have Hn:=Qh (show a.aC.take (k+1)=b.aC.take (k+1) by rw[List.take_succ_eq_append_getElem hlt,List.take_succ_eq_append_getElem kg,Hr.O,Hp.O,Hq.O,sZ]);clear sZ;go_wp2_with fail
    refine wp_region_quiet_below (by kernel_rfl) (by kernel_rfl) ?_;repeat(go_big_quiet_step ((fail)))
    refine wpQuiet_nil ?_;intro w2 bJ;have aL:Below (wr).heap.size (wr) w2:=by
     obtain⟨pq,rfl⟩:=bJ;exact below_regrown _ _ _
    clear bJ;go_wp2;go_roundw;case rel=>exact⟨k+1,by omega,by go_num,Hn.O,hb.trans (aL.mono hb.size)⟩
    case measure=>simp[intOf];omega
   ·rw[Qf sZ]at yS;have Hn:=Qh (show decide (a=b)=false by
     rw[Hab.O,Qf];intro h;apply sZ;rw[←Hp.O,←Hq.O];simp[h])
    clear sZ;go_wp2_with fail
    refine wp_region_quiet_below (by kernel_rfl) (by kernel_rfl) ?_;repeat(go_big_quiet_step ((fail)))
    refine wpQuiet_nil ?_;intro w2 bJ;have aL:Below (wr).heap.size (wr) w2:=by
     obtain⟨pq,rfl⟩:=bJ;exact below_regrown _ _ _
    clear bJ;go_wp2;go_ret;exact⟨jr Hn.O.symm,aM.trans ((hb.trans (aL.mono hb.size)).mono aM.size)⟩
  ·have Hn:=Qh (show decide (a=b)=true by
    have:=Hr.O;rw[List.take_of_length_le (by omega),List.take_of_length_le (by rw[←JU.O];omega)]at this;rw[Hab.O,Qt this])
   go_wp2;go_ret;exact⟨jr Hn.O.symm,aM.trans (hb.mono aM.size)⟩
abbrev amq(t:List bD):Prop:=∀x∈t,x.Wf
def ze(t:List bD):Option bD→List bD→Int
 |_,[]=>0
 |q,x::l=>if bN x≠0 then bN x else if x.av≠1∧x.av≠2∧x.av≠3 then 10 else if(q.any fun y=> !(kZ (els y.aj) (els x.aj)))then 14 else if dX t (qA x.aj)≠0 then dX t (qA x.aj)else ze t (some x) l
def agC(t:List bD):Int:=ze t none t
theorem Xu6(h:kZ (els p) (els d)=true):jQ p d= -1:=by rw[jQ,h];rfl
theorem Xu7(h:kZ (els p) (els d)=false):jQ p d=0∨jQ p d=1:=by
 rw[jQ,h];cases kZ (els d) (els p)<;>simp
theorem Xsd{s:af}(h:aW s=0)(hs:s≠[]):qB s=(qA s,0):=by rw[qB,if_neg (by omega),if_neg hs]
end Go.Proofs.YtegieeommgiknaaGreatDoor
namespace Go.Proofs
open Go.Shelf
def Tryz.vY:Go.Shelf.Ren:=⟨fun|156=>110|165=>154|166=>101|169=>105|240=>149|241=>195|276=>190|277=>220|n=>n,fun|31=>90|9=>9|3=>3|4=>4|0=>0|20=>20|72=>153|76=>156|70=>151|37=>144|75=>155|127=>187|164=>218|5=>5|80=>159|n=>n,fun|n=>n⟩
theorem Tryz.ED:Go.Proofs.Lays.n156 Tryz.prog Tryz.vY:={
 mixed:=by kernel_rfl
 f156:=Tryz.func110.trans (congrArg some (by kernel_rfl))
 f165:=Tryz.func154.trans (congrArg some (by kernel_rfl))
 f166:=Tryz.func101.trans (congrArg some (by kernel_rfl))
 f169:=Tryz.func105.trans (congrArg some (by kernel_rfl))
 f240:=Tryz.func149.trans (congrArg some (by kernel_rfl))
 f241:=Tryz.func195.trans (congrArg some (by kernel_rfl))
 f276:=Tryz.func190.trans (congrArg some (by kernel_rfl))
 f277:=Tryz.func220.trans (congrArg some (by kernel_rfl))
 t0:=Tryz.underlying0
 a0:=Tryz.isAgg0
 z0:=Tryz.sizeOf0
 v0:=Tryz.zeroValue0
 t3:=Tryz.underlying3
 a3:=Tryz.isAgg3
 z3:=Tryz.sizeOf3
 v3:=Tryz.zeroValue3
 t4:=Tryz.underlying4
 a4:=Tryz.isAgg4
 z4:=Tryz.sizeOf4
 v4:=Tryz.zeroValue4
 t9:=Tryz.underlying9
 a9:=Tryz.isAgg9
 z9:=Tryz.sizeOf9
 v9:=Tryz.zeroValue9
 t20:=Tryz.underlying20
 a20:=Tryz.isAgg20
 z20:=Tryz.sizeOf20
 v20:=Tryz.zeroValue20
 t31:=Tryz.underlying90
 a31:=Tryz.isAgg90
 z31:=Tryz.sizeOf90
 v31:=Tryz.zeroValue90
 t37:=Tryz.underlying144
 a37:=Tryz.isAgg144
 z37:=Tryz.sizeOf144
 v37:=Tryz.zeroValue144
 t70:=Tryz.underlying151
 a70:=Tryz.isAgg151
 z70:=Tryz.sizeOf151
 v70:=Tryz.zeroValue151
 t72:=Tryz.underlying153
 a72:=Tryz.isAgg153
 z72:=Tryz.sizeOf153
 v72:=Tryz.zeroValue153
 t75:=Tryz.underlying155
 a75:=Tryz.isAgg155
 z75:=Tryz.sizeOf155
 v75:=Tryz.zeroValue155
 t76:=Tryz.underlying156
 a76:=Tryz.isAgg156
 z76:=Tryz.sizeOf156
 v76:=Tryz.zeroValue156
 t127:=Tryz.underlying187
 a127:=Tryz.isAgg187
 z127:=Tryz.sizeOf187
 v127:=Tryz.zeroValue187
 t164:=Tryz.underlying218
 a164:=Tryz.isAgg218
 z164:=Tryz.sizeOf218
 v164:=Tryz.zeroValue218}
theorem Tryz.oq:Builder.Extra Tryz.prog Tryz.vY:={
 sizeBuilder:=by kernel_rfl
 liesBuilder:=by kernel_rfl
 t5:=Tryz.underlying5
 a5:=Tryz.isAgg5
 z5:=Tryz.sizeOf5
 v5:=Tryz.zeroValue5
 infoByte:=by kernel_rfl
 cellsByte:=by kernel_rfl
 sizeByte:=by kernel_rfl
 neB5:=by decide}
open Go.RowKit in
theorem Tryz.strings_Join_none(a:Option Addr)(c:Nat)(sep:ByteArray)(w:World):
 Calls Tryz.prog 110 #[.slice a 0 c,.string sep] w fun e w'=>e= .returned (.string ⟨#[]⟩)∧w'=w:=Any.strings_Join_none Tryz.ED Tryz.oq a c sep w
open Go.RowKit in
theorem Tryz.strings_Join(bk o c:Nat)(xs:List ByteArray)(sep:ByteArray)(w:World)(D9:∀(j:Nat) x,xs[j]?=some x→w.cell? ⟨bk,o+j,none⟩=some (.string x))(Zv:bk<w.heap.size)(hN:xs.length≤140737488355328)(fu:xs.length≤c)(hlen:(Lib.join (xs.map (·.data.toList)) sep.data.toList).length≤140737488355328):
 Calls Tryz.prog 110 #[.slice (some ⟨bk,o,none⟩) xs.length c,.string sep] w fun e w'=>e= .returned (.string ⟨(Lib.join (xs.map (·.data.toList)) sep.data.toList).toArray⟩)∧Below w.heap.size w w':=Any.strings_Join Tryz.ED Tryz.oq bk o c xs sep w D9 Zv hN fu hlen
def Tryz.Bu:Go.Shelf.Ren:=⟨fun|106=>165|213=>205|265=>222|n=>n,fun|9=>9|3=>3|n=>n,fun|n=>n⟩
theorem Tryz.KU:Go.Proofs.Lays.n106 Tryz.prog Tryz.Bu:={
 mixed:=by kernel_rfl
 f106:=Tryz.func165.trans (congrArg some (by kernel_rfl))
 f213:=Tryz.func205.trans (congrArg some (by kernel_rfl))
 f265:=Tryz.func222.trans (congrArg some (by kernel_rfl))
 t3:=Tryz.underlying3
 a3:=Tryz.isAgg3
 z3:=Tryz.sizeOf3
 v3:=Tryz.zeroValue3
 t9:=Tryz.underlying9
 a9:=Tryz.isAgg9
 z9:=Tryz.sizeOf9
 v9:=Tryz.zeroValue9}
open Go.RowKit in
theorem Tryz.strings_Compare(a b:ByteArray)(w:World):
 Calls Tryz.prog 165 #[.string a,.string b] w fun e w'=>e= .returned (.int .i64 (Lib.compareBytes a.data.toList b.data.toList))∧w'=w:=Any.strings_Compare Tryz.KU a b w
def Tryz.zK:Go.Shelf.Ren:=⟨fun|17=>201|15=>221|20=>236|n=>n,fun|9=>9|23=>229|4=>4|3=>3|0=>0|21=>21|n=>n,fun|n=>n⟩
theorem Tryz.Iz:Go.Proofs.LaysGw.n17 Tryz.prog Tryz.zK:={
 mixed:=by kernel_rfl
 f15:=Tryz.func221.trans (congrArg some (by kernel_rfl))
 f17:=Tryz.func201.trans (congrArg some (by kernel_rfl))
 f20:=Tryz.func236.trans (congrArg some (by kernel_rfl))
 t0:=Tryz.underlying0
 a0:=Tryz.isAgg0
 z0:=Tryz.sizeOf0
 v0:=Tryz.zeroValue0
 i0:=by kernel_rfl
 t3:=Tryz.underlying3
 a3:=Tryz.isAgg3
 z3:=Tryz.sizeOf3
 v3:=Tryz.zeroValue3
 i3:=by kernel_rfl
 t4:=Tryz.underlying4
 a4:=Tryz.isAgg4
 z4:=Tryz.sizeOf4
 v4:=Tryz.zeroValue4
 i4:=by kernel_rfl
 t9:=Tryz.underlying9
 a9:=Tryz.isAgg9
 z9:=Tryz.sizeOf9
 v9:=Tryz.zeroValue9
 i9:=by kernel_rfl
 t21:=Tryz.underlying21
 a21:=Tryz.isAgg21
 z21:=Tryz.sizeOf21
 v21:=Tryz.zeroValue21
 i21:=by kernel_rfl
 t23:=Tryz.underlying229
 a23:=Tryz.isAgg229
 z23:=Tryz.sizeOf229
 v23:=Tryz.zeroValue229
 i23:=by kernel_rfl}
open Go.RowKit Go.Lib in
theorem Tryz.strings_ContainsFunc(g:Nat)(lb:Array Value)(eg:∀args w,(callFunc g args).run Tryz.prog w= .ok (.enter g args) w)(p:Nat→Bool)(s:ByteArray)(w:World)(hp:PredAt Tryz.prog g lb encR p w):
 Calls Tryz.prog 201 #[.string s,.func (.func g) #[] lb] w fun e w'=>e= .returned (.bool (decide (0≤Lib.idxFunc p true s)))∧Below w.heap.size w w':=Any.strings_ContainsFunc Tryz.Iz g lb eg p s w hp
def Tryz.Bv:Go.Shelf.Ren:=⟨fun|146=>167|221=>206|268=>223|138=>224|143=>225|195=>237|197=>209|218=>238|219=>239|260=>226|217=>251|225=>243|224=>242|267=>252|266=>255|314=>256|n=>n,fun|9=>9|31=>90|3=>3|4=>4|0=>0|105=>233|21=>21|5=>5|46=>168|119=>261|139=>264|138=>263|146=>223|51=>25|n=>n,fun|1=>0|3=>3|4=>4|n=>n⟩
theorem Tryz.KV:Go.Proofs.Lays.n146 Tryz.prog Tryz.Bv:={
 mixed:=by kernel_rfl
 f138:=Tryz.func224.trans (congrArg some (by kernel_rfl))
 f143:=Tryz.func225.trans (congrArg some (by kernel_rfl))
 f146:=Tryz.func167.trans (congrArg some (by kernel_rfl))
 f195:=Tryz.func237.trans (congrArg some (by kernel_rfl))
 f197:=Tryz.func209.trans (congrArg some (by kernel_rfl))
 f217:=Tryz.func251.trans (congrArg some (by kernel_rfl))
 f218:=Tryz.func238.trans (congrArg some (by kernel_rfl))
 f219:=Tryz.func239.trans (congrArg some (by kernel_rfl))
 f221:=Tryz.func206.trans (congrArg some (by kernel_rfl))
 f224:=Tryz.func242.trans (congrArg some (by kernel_rfl))
 f225:=Tryz.func243.trans (congrArg some (by kernel_rfl))
 f260:=Tryz.func226.trans (congrArg some (by kernel_rfl))
 f266:=Tryz.func255.trans (congrArg some (by kernel_rfl))
 f267:=Tryz.func252.trans (congrArg some (by kernel_rfl))
 f268:=Tryz.func223.trans (congrArg some (by kernel_rfl))
 f314:=Tryz.func256.trans (congrArg some (by kernel_rfl))
 t0:=Tryz.underlying0
 a0:=Tryz.isAgg0
 z0:=Tryz.sizeOf0
 v0:=Tryz.zeroValue0
 t3:=Tryz.underlying3
 a3:=Tryz.isAgg3
 z3:=Tryz.sizeOf3
 v3:=Tryz.zeroValue3
 t4:=Tryz.underlying4
 a4:=Tryz.isAgg4
 z4:=Tryz.sizeOf4
 v4:=Tryz.zeroValue4
 t5:=Tryz.underlying5
 a5:=Tryz.isAgg5
 z5:=Tryz.sizeOf5
 v5:=Tryz.zeroValue5
 t9:=Tryz.underlying9
 a9:=Tryz.isAgg9
 z9:=Tryz.sizeOf9
 v9:=Tryz.zeroValue9
 t21:=Tryz.underlying21
 a21:=Tryz.isAgg21
 z21:=Tryz.sizeOf21
 v21:=Tryz.zeroValue21
 t31:=Tryz.underlying90
 a31:=Tryz.isAgg90
 z31:=Tryz.sizeOf90
 v31:=Tryz.zeroValue90
 t46:=Tryz.underlying168
 a46:=Tryz.isAgg168
 z46:=Tryz.sizeOf168
 v46:=Tryz.zeroValue168
 t51:=Tryz.underlying25
 a51:=Tryz.isAgg25
 z51:=Tryz.sizeOf25
 v51:=Tryz.zeroValue25
 t105:=Tryz.underlying233
 a105:=Tryz.isAgg233
 z105:=Tryz.sizeOf233
 v105:=Tryz.zeroValue233
 t119:=Tryz.underlying261
 a119:=Tryz.isAgg261
 z119:=Tryz.sizeOf261
 t138:=Tryz.underlying263
 a138:=Tryz.isAgg263
 z138:=Tryz.sizeOf263
 v138:=Tryz.zeroValue263
 t139:=Tryz.underlying264
 a139:=Tryz.isAgg264
 z139:=Tryz.sizeOf264
 v139:=Tryz.zeroValue264
 t146:=Tryz.underlying223
 a146:=Tryz.isAgg223
 z146:=Tryz.sizeOf223
 v146:=Tryz.zeroValue223
 g1:=by kernel_rfl
 g3:=by kernel_rfl
 g4:=by kernel_rfl}
open Go.RowKit Go.Lib in
theorem Tryz.strings_Split(s sep:ByteArray)(m:Int)(w:World)(hs:s.size<4294967281)(hm:w.cell? ⟨0,0,none⟩=some (.int .i64 m))(h1:1≤sep.size):
 Calls Tryz.prog 167 #[.string s,.string sep] w fun e w'=>
  e= .returned (.slice (some ⟨w.heap.size,0,none⟩) (Lib.countB s sep+1) (Lib.countB s sep+1))∧w'=w.alloc (.cells ((Lib.splitB sep 0 (Lib.countB s sep) s).map Value.string).toArray 9):=Any.strings_Split Tryz.KV (by kernel_rfl) s sep m w hs hm h1
def Tryz.Bw:Go.Shelf.Ren:=⟨fun|193=>121|n=>n,fun|31=>90|9=>9|4=>4|3=>3|0=>0|n=>n,fun|n=>n⟩
theorem Tryz.zL:Go.Proofs.Lays.n193 Tryz.prog Tryz.Bw:={
 mixed:=by kernel_rfl
 f193:=Tryz.func121.trans (congrArg some (by kernel_rfl))
 t0:=Tryz.underlying0
 a0:=Tryz.isAgg0
 z0:=Tryz.sizeOf0
 v0:=Tryz.zeroValue0
 t3:=Tryz.underlying3
 a3:=Tryz.isAgg3
 z3:=Tryz.sizeOf3
 v3:=Tryz.zeroValue3
 t4:=Tryz.underlying4
 a4:=Tryz.isAgg4
 z4:=Tryz.sizeOf4
 v4:=Tryz.zeroValue4
 t9:=Tryz.underlying9
 a9:=Tryz.isAgg9
 z9:=Tryz.sizeOf9
 v9:=Tryz.zeroValue9
 t31:=Tryz.underlying90
 a31:=Tryz.isAgg90
 z31:=Tryz.sizeOf90
 v31:=Tryz.zeroValue90}
open Go.RowKit Go.Lib in
theorem Tryz.slices_Equal_string(b1 o1 n c b2 o2 m d:Nat)(xs ys:List ByteArray)(w:World)(hx:n≤xs.length)(hy:m≤ys.length)(iw:n≤9223372036854775807)(JD:m≤9223372036854775807)(rJ:∀j,j<xs.length→w.cell? ⟨b1,o1+j,none⟩=some (.string (xs.getD j ByteArray.empty)))(rH:∀j,j<ys.length→w.cell? ⟨b2,o2+j,none⟩=some (.string (ys.getD j ByteArray.empty))):
 Calls Tryz.prog 121 #[.slice (some ⟨b1,o1,none⟩) n c,.slice (some ⟨b2,o2,none⟩) m d] w fun e w'=>e= .returned (.bool (decide (xs.take n=ys.take m)))∧ ∃q,w'=w.drewN q:=Any.slices_Equal_string Tryz.zL b1 o1 n c b2 o2 m d xs ys w hx hy iw JD rJ rH
open Go.RowKit Go.Lib in
theorem Tryz.slices_Equal_string_empty(a1 a2:Option Addr)(c m d:Nat)(w:World)(JD:m≤9223372036854775807):
 Calls Tryz.prog 121 #[.slice a1 0 c,.slice a2 m d] w fun e w'=>e= .returned (.bool (decide (m=0)))∧w'=w:=Any.slices_Equal_string_empty Tryz.zL a1 a2 c m d w JD
open Go.RowKit Go.Lib in
theorem Tryz.slices_Equal_string_lens(a1 a2:Option Addr)(n c m d:Nat)(w:World)(Mi:n≠m):
 Calls Tryz.prog 121 #[.slice a1 n c,.slice a2 m d] w fun e w'=>e= .returned (.bool false)∧w'=w:=Any.slices_Equal_string_lens Tryz.zL a1 a2 n c m d w Mi
end Go.Proofs
