/- Lemmas for the claim's theorem;conditions: as each says. -/
import Derived.Test.YtmdfjnhfhidmhaaGreatDoorJ11
set_option maxHeartbeats 0
set_option maxRecDepth 100000
set_option linter.all false
namespace Go.Proofs.YtmdfjnhfhidmhaaGreatDoor
open Go.RowKit
variable{α:Type}{t:List aT}{p:af}{I:IH}{v:Value}{l:List Ho}{w:World}{T U:List α}{c:Bool}{s:af}
theorem Yj(e:aT):aP e=
 if e.au<1∨6<e.au then 10
 else if aO e.ag≠0 then aO e.ag
 else if e.ag=[]∧e.au<5 then 1
 else if mK e.aj≠0 then mK e.aj
 else if(e.aj≠[]∧3<e.au)∨bO e=false then 1 else fC e:=rfl
theorem U4(I:IH)(hI:eG I)(x:aT)(va vx:Value)(fq:aZ lD I va x.aj)(kJ:aZ lY I vx x.aA)(l7:x.Wf)(nV:x.ag.length≤4294967280)(xh:x.target.length≤4294967280)(w:World)(hw:Ok I w):
 Calls Tryz.prog 77 #[gN x va vx] w fun e w'=>e= .returned (.int .i64 (aP x))∧Below w.heap.size w w':=by
 have dA:=kJ.bF;have PK:=fq.bF;have Hct:=Qh (fun w hw=>Xp2 I x va vx fq kJ l7 w hw);have LP:=Qh (fun w hw=>Xsg I hI x xh va vx w hw);obtain⟨ao,cap,rfl,dO,fJ,_⟩:=id kJ;obtain⟨pF,cap2,rfl,oU,qJ,_⟩:=id fq;have Qx:=Qh fq;clear kJ fq;have CY:=Qh (fun w hw=>Xn3 I hI x.ag nV w hw);have Ij:=Qh (fun w hw=>Xu4 I _ x.aj Qx.O l7.aj w hw);have lC:=l7.s0;have qj:=l7.s1;have vG:=l7.k0;have vZ:=l7.k1;have ng:=l7.av;clear l7;by_cases CR:x.au<1;case pos=>
  have Hn:=Qh (show aP x=10 by rw[Yj,if_pos (.inl CR)]);go_enter Tryz.func77,Tryz.ntmps77
  go_wp2;go_ret;exact⟨di Hn.O.symm,(Qb _ _).alloc (Qn _) _⟩
 by_cases hkg:6<x.au;case pos=>
  have Hn:=Qh (show aP x=10 by rw[Yj,if_pos (.inr hkg)]);go_enter Tryz.func77,Tryz.ntmps77
  go_wp2;go_ret;exact⟨di Hn.O.symm,(Qb _ _).alloc (Qn _) _⟩
 have He:=Qh (show aP x=_ by rw[Yj,if_neg (show ¬(x.au<1∨6<x.au) by omega)]);by_cases DJ:aO x.ag=0;case neg=>
  obtain⟨q,hq⟩:∃q,aO x.ag=q:=⟨_,rfl⟩;have hn:(q !=0)=true:=by rw[←hq];simpa using DJ
  have Hn:=Qh (show aP x=q by rw[He.O,if_pos DJ,hq]);rw[hq]at CY;clear hq DJ;go_enter Tryz.func77,Tryz.ntmps77
  go_wp2_with fail
  refine(CY.O _ (hw.alloc _)).mono ?_;rintro e w1 ⟨rfl,aD⟩;have aH:Below w.heap.size w w1:=((Qb _ _).alloc (Qn _) _).trans (aD.mono (by simp));have bZ:w.heap.size<w1.heap.size:=by have:=aD.size;simp at this;omega
  have aM:Ok I w1:=(hw.alloc _).below (Qn _) aD;obtain⟨c0,c1,c2,c3,c4,c5,c6⟩:=dx rfl aD;clear aD;go_wp2;go_ret;exact⟨di Hn.O.symm,aH⟩
 replace He:=Qh (show aP x=_ by rw[He.O,if_neg (show ¬aO x.ag≠0 by omega)]);rw[DJ]at CY;clear DJ;by_cases yM:x.ag=[]∧x.au<5;case pos=>
  have Hn:=Qh (show aP x=1 by rw[He.O,if_pos yM]);obtain⟨p1,p2,p3,p4⟩:=BU yM.1;have k5:((x.au:Int) !=5)=true:=by rw[bne_iff_ne];omega
  have k6:((x.au:Int) !=6)=true:=by rw[bne_iff_ne];omega
  have hk5:=yM.2;clear yM;go_enter Tryz.func77,Tryz.ntmps77
  go_wp2_with fail
  refine(CY.O _ (hw.alloc _)).mono ?_;rintro e w1 ⟨rfl,aD⟩;have aH:Below w.heap.size w w1:=((Qb _ _).alloc (Qn _) _).trans (aD.mono (by simp));have bZ:w.heap.size<w1.heap.size:=by have:=aD.size;simp at this;omega
  have aM:Ok I w1:=(hw.alloc _).below (Qn _) aD;obtain⟨c0,c1,c2,c3,c4,c5,c6⟩:=dx rfl aD;clear aD;go_wp2;go_ret;exact⟨di Hn.O.symm,aH⟩
 replace He:=Qh (show aP x=_ by rw[He.O,if_neg yM]);have zV:(((x.ag==[])=true∧x.ag.isEmpty=true∧(!x.ag.isEmpty)=false∧(x.ag !=[])=false)∧(x.au=5∨x.au=6))∨((x.ag==[])=false∧x.ag.isEmpty=false∧(!x.ag.isEmpty)=true∧(x.ag !=[])=true):=by
  by_cases h:x.ag=[]
  ·left;exact⟨BU h,by have:=Int.not_lt.1 fun h2=>yM ⟨h,h2⟩;omega⟩
  ·right;exact Ao h
 clear yM;go_enter Tryz.func77,Tryz.ntmps77
 go_wp2_with fail
 refine(CY.O _ (hw.alloc _)).mono ?_;rintro e w1 ⟨rfl,aD⟩;have aH:Below w.heap.size w w1:=((Qb _ _).alloc (Qn _) _).trans (aD.mono (by simp));have bZ:w.heap.size<w1.heap.size:=by have:=aD.size;simp at this;omega
 have aM:Ok I w1:=(hw.alloc _).below (Qn _) aD;obtain⟨c0,c1,c2,c3,c4,c5,c6⟩:=dx rfl aD;clear aD;clear CY;go_upto_region 6 with fail
 go_cut [31] (fun s31 wx=>s31= .bool false∧w1=wx)
 case first=>
  rcases zV with⟨⟨p1,p2,p3,p4⟩,p5|p5⟩|⟨p1,p2,p3,p4⟩
  ·have k5:((x.au:Int) !=5)=false:=by rw[p5];rfl
   clear p5;go_wp2_with fail
   go_meet;exact⟨rfl,rfl⟩
  ·have k5:((x.au:Int) !=5)=true:=by rw[p5];rfl
   have k6:((x.au:Int) !=6)=false:=by rw[p5];rfl
   clear p5;go_wp2_with fail
   go_meet;exact⟨rfl,rfl⟩
  ·go_wp2_with fail
   go_meet;exact⟨rfl,rfl⟩
 case rest=>
  obtain⟨rfl,hcut⟩:=hcut;subst hcut;clear zV;go_wp2_with fail
  refine(Ij.O _ aM).mono ?_;rintro e w2 ⟨rfl,aL⟩;have aY:=aH.trans (aL.mono (Nat.le_of_lt bZ));have eZ:w.heap.size<w2.heap.size:=by have:=aL.size;omega
  have aX:Ok I w2:=aM.below (Qn _) aL;obtain⟨c0,c1,c2,c3,c4,c5,c6⟩:=bB.aQ (⟨c0,c1,c2,c3,c4,c5,c6⟩:bB w1 w.heap.size x _ _) aL;clear aL aH bZ aM;by_cases Ap:mK x.aj=0;case neg=>
   obtain⟨q,hq⟩:∃q,mK x.aj=q:=⟨_,rfl⟩;have hn:(q !=0)=true:=by rw[←hq];simpa using Ap
   have Hn:=Qh (show aP x=q by rw[He.O,if_pos Ap,hq]);rw[hq];clear hq Ap;go_wp2;go_ret;exact⟨di Hn.O.symm,aY⟩
  replace He:=Qh (show aP x=_ by rw[He.O,if_neg (show ¬mK x.aj≠0 by omega)]);rw[Ap];clear Ap Ij;go_upto_region 11 with fail
  go_cut [51] (fun s51 wx=> ∃w3,w3=wx∧(s51= .bool true∧aP x=1∨s51= .bool false∧ ¬((x.aj≠[]∧3<x.au)∨bO x=false))∧Below w2.heap.size w2 w3)
  case first=>
   have nW:x.aj.length<1∨(0<x.aj.length∧3<x.au)∨(0<x.aj.length∧x.au≤3):=by omega
   rcases nW with ha|⟨ha,uH⟩|⟨ha,uH⟩
   ·have d0:decide (0<x.aj.length)=false:=Qf (by omega);have BX:=Qh (show x.aj=[]from List.eq_nil_of_length_eq_zero (by omega));go_wp2_with fail
    refine(LP.O _ aX).mono ?_;rintro e w3 ⟨rfl,dX⟩;cases Aq:bO x
    ·have Hn:=Qh (show aP x=1 by rw[He.O,if_pos (.inr Aq)]);clear Aq;go_wp2_with fail
     go_meet;exact⟨_,rfl,.inl ⟨rfl,Hn.O⟩,dX⟩
    ·go_wp2_with fail
     go_meet;refine⟨_,rfl,.inr ⟨(by first|rfl|(congr 1;exact Qf (by omega))),?_⟩,dX⟩;rintro(⟨h1,h2⟩|h1)
     ·first
       |exact h1 BX.O
       |omega
     ·rw[Aq]at h1;exact absurd h1 (by simp)
   ·have d0:decide (0<x.aj.length)=true:=Qt ha;have Hn:=Qh (show aP x=1 by rw[He.O,if_pos (.inl ⟨by intro e;rw[e]at ha;simp at ha,uH⟩)]);go_wp2_with fail
    go_meet;exact⟨_,rfl,.inl ⟨(by first|rfl|(congr 1;exact Qt (by omega))),Hn.O⟩,Qb _ _⟩
   ·have d0:decide (0<x.aj.length)=true:=Qt ha;go_wp2_with fail
    refine(LP.O _ aX).mono ?_;rintro e w3 ⟨rfl,dX⟩;cases Aq:bO x
    ·have Hn:=Qh (show aP x=1 by rw[He.O,if_pos (.inr Aq)]);clear Aq;go_wp2_with fail
     go_meet;exact⟨_,rfl,.inl ⟨rfl,Hn.O⟩,dX⟩
    ·go_wp2_with fail
     go_meet;refine⟨_,rfl,.inr ⟨(by first|rfl|(congr 1;exact Qf (by omega))),?_⟩,dX⟩;rintro(⟨h1,h2⟩|h1)
     ·first
       |exact h1 BX.O
       |omega
     ·rw[Aq]at h1;exact absurd h1 (by simp)
  case rest=>
   obtain⟨w3,qP,qY,dX⟩:=hcut;subst qP;have gp:=aY.trans (dX.mono (Nat.le_of_lt eZ));have eT:Ok I w3:=aX.below (Qn _) dX;obtain⟨c0,c1,c2,c3,c4,c5,c6⟩:=bB.aQ (⟨c0,c1,c2,c3,c4,c5,c6⟩:bB w2 w.heap.size x _ _) dX;clear dX aY eZ aX LP;rcases qY with⟨rfl,hn⟩|⟨rfl,qY⟩
   ·have Hn:=Qh hn;clear hn;go_wp2;go_ret;exact⟨di Hn.O.symm,gp⟩
   have Hn:=Qh (show aP x=fC x by rw[He.O,if_neg qY]);clear qY;go_wp2_with fail
   refine(Hct.O _ eT).mono ?_;rintro e w4 ⟨rfl,aR⟩;go_wp2;go_ret;exact⟨di Hn.O.symm,gp.trans (aR.mono gp.size)⟩
def yU(g:Nat)(cb:Array Value)(l:List aT)(p:aT→Bool)(C:World→Prop):Prop:=
 ∀x∈l,∀(a1 a2:Option Addr) (c1 c2:Nat) (W:World),C W→Calls Tryz.prog g (#[gN x (.slice a1 x.aj.length c1) (.slice a2 x.aA.length c2)]++cb) W fun e w'=>e= .returned (.bool (p x))∧Below W.heap.size W w'
theorem Xej(I:IH)(v:Value)(l:List aT)(hv:aZ bQ I v l)(g:Nat)(cb:Array Value)(p:aT→Bool)(w:World)(hw:Ok I w)(eg:∀args w,(callFunc g args).run Tryz.prog w= .ok (.enter g args) w)(hp:yU g cb l p (Below w.heap.size w)):
 Calls Tryz.prog 134 #[v,.func (.func g) #[] cb] w fun e w'=>e= .returned (.int .i64 (ol l p))∧Below w.heap.size w w':=by
 have hlen:=hv.bF;obtain⟨ao,cap,rfl,dO,fJ,_⟩:=id hv;have Hv:=Qh hv;clear hv;have Hp:=Qh hp;clear hp;go_enter Tryz.func134,Tryz.ntmps134
 go_wp2_with fail
 go_loopw [8] (fun s8 wr=> ∃k:Nat,k≤l.length∧s8= .int .i64 k∧(l.take k).any p=false∧Below w.heap.size w wr) (fun i _=>l.length-(intOf i).toNat)
 case atStart=>exact⟨0,Nat.zero_le _,rfl,rfl,Qb _ _⟩
 case round=>
  obtain⟨k,hk,rfl,hr,hb⟩:=hrel;have Hr:=Qh hr;clear hr;by_cases hlt:k<l.length
  ·have dG:Ok I wr:=hw.below (Qn _) hb;obtain⟨x,va,vx,b,off,cap',dA,cZ,⟨c0,c1,c2,c3,c4,c5,c6⟩,h1,h2⟩:=yu Hv.O dG k hlt;cases cZ;obtain⟨aa,ca,rfl,_,_,_⟩:=id h1;obtain⟨ax,cx,rfl,_,_,_⟩:=id h2;have qM:=Qh dA;have kX:=Qh (Hp.O x (by rw[←dA];exact List.getElem_mem hlt) aa ax ca cx wr hb);clear dA h1 h2;go_wp2_with fail
   refine kX.O.mono ?_;rintro e w1 ⟨rfl,aD⟩;have aH:=hb.trans (aD.mono hb.size);clear aD kX c0 c1 c2 c3 c4 c5 c6;cases hpx:p x
   ·have Hn:=Qh (show(l.take (k+1)).any p=false by rw[List.take_succ_eq_append_getElem hlt,List.any_append,Hr.O,qM.O];simp[hpx]);clear hpx;go_wp2;go_roundw;case rel=>exact⟨k+1,by omega,by go_num,Hn.O,aH⟩
    case measure=>simp[intOf];omega
   ·have Hn:=Qh (UU (p:=p) hlt (by rw[qM.O];exact hpx) Hr.O);clear hpx;go_wp2;go_ret;exact⟨di Hn.O.symm,aH⟩
  ·have Hn:=Qh (show ol l p= -1 from UT (by have:=Hr.O;rwa[List.take_of_length_le (by omega)]at this));go_wp2;go_ret;exact⟨di Hn.O.symm,hb⟩
theorem Xup(key:af)(b:Nat)(l:List aT)(w:World)(hc:w.cell? ⟨b,0,none⟩=some (S key)):yU 135 #[.pointer (some ⟨b,0,none⟩)] l (fun x=>x.ag==key) (Below w.heap.size w):=by
 intro x _ a1 a2 c1 c2 W hW;have Lc:=bK hW hc;have yj:=kP (.cells #[.int .i64 x.au,S x.ag,.slice a1 x.aj.length c1,S x.target,.int .i64 x.size,S x.av,.slice a2 x.aA.length c2] 81) Lc;clear hc Lc;go_enter Tryz.func135,Tryz.ntmps135
 go_wp2;go_ret;exact⟨rfl,(Qb _ _).alloc (Qn _) _⟩
abbrev rC(p:af):aT→Bool:=fun x=>x.ag==p
theorem Xsn(I:IH)(v:Value)(t:List aT)(hv:aZ bQ I v t)(p:af)(w:World)(hw:Ok I w):
 Calls Tryz.prog 78 #[v,S p] w fun e w'=>e= .returned (.int .i64 (ol t (rC p)))∧Below w.heap.size w w':=by
 have Hp:=Qh (Xup p w.heap.size t (w.alloc (.cells #[S p] 9)) (by simp));have Hi:=Qh (Xej I v t hv _ _ _ _ (hw.alloc _) (fun _ _=>by kernel_rfl) Hp.O);obtain⟨ao,cap,rfl,dO,fJ,_⟩:=id hv;clear hv;obtain⟨q,hq⟩:∃q,ol t (rC p)=q:=⟨_,rfl⟩;have Hq:=Qh hq;have Ko:=Qh (Hi.O);clear Hi hq;rw[show(fun x:aT=>x.ag==p)=rC p from rfl,Hq.O]at Ko;rw[Hq.O];go_enter Tryz.func78,Tryz.ntmps78
 go_wp2_with fail
 refine Ko.O.mono ?_;rintro e w1 ⟨rfl,aD⟩;go_wp2;go_ret;exact⟨rfl,((Qb _ _).alloc (Qn _) _).trans (aD.mono (by simp))⟩
theorem Xlp{i:Nat}(hi:i<t.length)(hp:rC p t[i]=true)(hn:(t.take i).any (rC p)=false):lg t p=(t[i],true):=by
 have:ek t p=some t[i]:=by
  unfold ek;conv=>lhs;rw[←List.take_append_drop i t]
  rw[List.find?_append,List.drop_eq_getElem_cons hi,List.find?_cons];have h2:(t[i].ag==p)=true:=hp;rw[h2];have:(t.take i).find? (fun x=>x.ag==p)=none:=by
   rw[List.find?_eq_none];intro x hx hpx;rw[List.any_eq_true.2 ⟨x,hx,hpx⟩]at hn;exact absurd hn (by simp)
  rw[this];rfl
 rw[lg,this]
theorem Xlq(hn:t.any (rC p)=false):lg t p=(zeroE,false):=by
 have:ek t p=none:=by
  unfold ek;rw[List.find?_eq_none];intro x hx hpx;rw[List.any_eq_true.2 ⟨x,hx,hpx⟩]at hn;exact absurd hn (by simp)
 rw[lg,this]
theorem Xvh(I:IH)(v:Value)(t:List aT)(hv:aZ bQ I v t)(p:af)(w:World)(hw:Ok I w):
 Calls Tryz.prog 111 #[v,S p] w (LQ I w (lg t p)):=by
 have hlen:=hv.bF;have Hf:=Qh (Xsn I v t hv p (w.alloc (.cells bH 81)) (hw.alloc _));obtain⟨ao,cap,rfl,dO,fJ,_⟩:=id hv;have Hv:=Qh hv;clear hv;have yx:(Tryz.prog.info? 81).map (·.size)=some 7:=by kernel_rfl
 have oV:=heap_alloc_new w (.cells bH 81);have Hz0:=Qh oV;clear oV;rcases LZ t (rC p)with⟨i,hi,e1,e2,e3⟩|⟨e1,e2⟩
 ·have Hn:=Qh (Xlp hi e2 e3);rw[e1]at Hf;clear e1 e2 e3;go_enter Tryz.func111,Tryz.ntmps111
  go_wp2_with fail
  refine Hf.O.mono ?_;rintro e w1 ⟨rfl,aD⟩;have aM:Ok I w1:=(hw.alloc _).below (Qn _) aD;have dM:w.heap.size<w1.heap.size:=by have:=aD.size;simp at this;omega
  have Hz:=Qh ((aD.block w.heap.size (by simp)).trans Hz0.O);have aH:=((Qb w.heap.size w).alloc (Qn _) (.cells bH 81)).trans (aD.mono (by simp));clear aD;obtain⟨x,va,vx,b,off,cap',dA,cZ,⟨c0,c1,c2,c3,c4,c5,c6⟩,h1,h2⟩:=yu Hv.O aM i hi;cases cZ;obtain⟨aa,ca,rfl,_,_,_⟩:=id h1;obtain⟨ax,cx,rfl,_,_,_⟩:=id h2;have H1:=Qh h1;have H2:=Qh h2;rw[dA]at Hn;have N9:=Xi6 h1 h2;clear dA h1 h2;go_wp2_with (refine wpList_store_row rfl 81 _ _ rfl w.heap.size (jQ x (.slice aa x.aj.length ca) (.slice ax x.aA.length cx)) rfl rfl 81 bH Hz.O yx rfl N9 ?_)
  try simp only[Exit.inBlock,Exit.then]
  refine bodyPost_ret (v:= .tuple #[gN x (.slice aa x.aj.length ca) (.slice ax x.aA.length cx),.bool true]) ?_ rfl ?_
  ·rw[results_cell_tmp rfl];simp[asAddr,run_loadVar_row _ w.heap.size 81 81 (jQ x (.slice aa x.aj.length ca) (.slice ax x.aA.length cx)) (0,0) _ (setRow_heap _ _ _ _ _ _ Hz.O) Tryz.underlying81 rfl yx]
  ·rw[Hn.O];exact⟨_,_,rfl,H1.O,H2.O,below_setRow aH (Qn _) _⟩
 ·have Hn:=Qh (Xlq e2);rw[e1]at Hf;clear e1 e2;go_enter Tryz.func111,Tryz.ntmps111
  go_wp2_with fail
  refine Hf.O.mono ?_;rintro e w1 ⟨rfl,aD⟩;have Hz:=Qh ((aD.block w.heap.size (by simp)).trans Hz0.O);have aH:=((Qb w.heap.size w).alloc (Qn _) (.cells bH 81)).trans (aD.mono (by simp));clear aD;have XG:bH.all (·.oneCell')=true:=by simp[Value.oneCell']
  go_wp2_with (refine wpList_store_row rfl 81 _ _ rfl w.heap.size bH rfl rfl 81 bH Hz.O yx rfl XG ?_)
  try simp only[Exit.inBlock,Exit.then]
  refine bodyPost_ret (v:= .tuple #[.agg bH,.bool false]) ?_ rfl ?_
  ·rw[results_cell_tmp rfl];simp[asAddr,run_loadVar_row _ w.heap.size 81 81 bH (0,0) _ (setRow_heap _ _ _ _ _ _ Hz.O) Tryz.underlying81 rfl yx]
  ·rw[Hn.O];exact⟨.slice none 0 0,.slice none 0 0,rfl,aZ.nil _ _,aZ.nil _ _,below_setRow aH (Qn _) _⟩
theorem Xlt(I:IH)(v:Value)(t:List aT)(hv:aZ bQ I v t)(p:af)(w:World)(hw:Ok I w):
 Calls Tryz.prog 84 #[v,S p] w fun e w'=>e= .returned (.int .i64 (dm t p))∧Below w.heap.size w w':=by
 have Hg:=Qh (Xvh I v t hv p w hw);obtain⟨ao,cap,rfl,dO,fJ,_⟩:=id hv;clear hv;by_cases hp:p=[]
 ·obtain⟨p1,p2,p3,p4⟩:=BU hp;have Hn:=Qh (show dm t p=0 by rw[dm,if_pos hp]);clear hp;generalize lg t p=g at Hg;obtain⟨x,b⟩:=g;go_enter Tryz.func84,Tryz.ntmps84
  go_wp2_with fail
  refine Hg.O.mono ?_;rintro e w1 ⟨va,vx,rfl,h1,h2,aD⟩;obtain⟨aa,ca,rfl,_,_,_⟩:=id h1;obtain⟨ax,cx,rfl,_,_,_⟩:=id h2;clear h1 h2;go_wp2;go_ret;exact⟨di Hn.O.symm,aD.alloc aD.size _⟩
 ·obtain⟨p1,p2,p3,p4⟩:=Ao hp;have Hn:=Qh (Xi8 t p hp);clear hp;generalize lg t p=g at Hn Hg;obtain⟨x,b⟩:=g;go_enter Tryz.func84,Tryz.ntmps84
  go_wp2_with fail
  refine Hg.O.mono ?_;rintro e w1 ⟨va,vx,rfl,h1,h2,aD⟩;obtain⟨aa,ca,rfl,_,_,_⟩:=id h1;obtain⟨ax,cx,rfl,_,_,_⟩:=id h2;clear h1 h2;cases b
  ·have jI:=Qh (show dm t p=9 by rw[Hn.O];rfl);go_wp2;go_ret;exact⟨di jI.O.symm,aD.alloc aD.size _⟩
  ·by_cases hk:x.au=2
   ·have k1:((x.au:Int) !=2)=false:=by simpa using hk
    have jI:=Qh (show dm t p=0 by rw[Hn.O];simp[hk]);clear hk;go_wp2;go_ret;exact⟨di jI.O.symm,aD.alloc aD.size _⟩
   ·have k1:((x.au:Int) !=2)=true:=by simpa using hk
    have jI:=Qh (show dm t p=10 by rw[Hn.O];simp[hk]);clear hk;go_wp2;go_ret;exact⟨di jI.O.symm,aD.alloc aD.size _⟩
def inT(k:Int):Bool:=decide (k=1) || decide (k=2) || decide (k=3)
theorem pu{k:Int}:inT k=true↔k=1∨k=2∨k=3:=by simp[inT,or_assoc]
theorem Xsm(k:Int)(w:World):Calls Tryz.prog 79 #[.int .i64 k] w fun e w'=>e= .returned (.bool (inT k))∧w=w':=by
 by_cases h1:k=1
 ·have Hn:=Qh (show inT k=true from pu.2 (.inl h1));have f1:((k:Int)==1)=true:=by simpa using h1
  clear h1;go_enter Tryz.func79,Tryz.ntmps79
  go_wp2;go_ret;exact⟨ib Hn.O.symm,rfl⟩
 by_cases h2:k=2
 ·have Hn:=Qh (show inT k=true from pu.2 (.inr (.inl h2)));have f1:((k:Int)==1)=false:=by simpa using h1
  have f2:((k:Int)==2)=true:=by simpa using h2
  clear h1 h2;go_enter Tryz.func79,Tryz.ntmps79
  go_wp2;go_ret;exact⟨ib Hn.O.symm,rfl⟩
 by_cases h3:k=3
 ·have Hn:=Qh (show inT k=true from pu.2 (.inr (.inr h3)));have f1:((k:Int)==1)=false:=by simpa using h1
  have f2:((k:Int)==2)=false:=by simpa using h2
  have f3:((k:Int)==3)=true:=by simpa using h3
  clear h1 h2 h3;go_enter Tryz.func79,Tryz.ntmps79
  go_wp2;go_ret;exact⟨ib Hn.O.symm,rfl⟩
 have Hn:=Qh (show inT k=false by
  cases h:inT k with
  |false=>rfl
  |true=>rcases pu.1 h with h|h|h<;>contradiction)
 have f1:((k:Int)==1)=false:=by simpa using h1
 have f2:((k:Int)==2)=false:=by simpa using h2
 have f3:((k:Int)==3)=false:=by simpa using h3
 clear h1 h2 h3;go_enter Tryz.func79,Tryz.ntmps79
 go_wp2;go_ret;exact⟨ib Hn.O.symm,rfl⟩
def ET(t:List aT):Prop:=∀x∈t,x.ag.length≤4294967280∧x.target.length≤4294967280
def jB:Ty Ho:=Ty.flat 2 (fun x=> [S x.p,.int .i64 x.u]) (fun _=>rfl) (fun _ u h=>by simp at h;rcases h with rfl|rfl<;>rfl)
theorem wy(h:aZ jB I v l)(hw:Ok I w)(i:Nat)(hi:i<l.length):∃x b off cap,l[i]=x∧v= .slice (some ⟨b,off,none⟩) l.length cap∧
 w.cell? ⟨b,off+i*2,none⟩=some (S x.p)∧w.cell? ⟨b,off+i*2+1,none⟩=some (.int .i64 x.u):=by
 obtain⟨b,off,cap,cs,hv,fE,hc⟩:=h.at_ hw hi;have kI:cs=[S l[i].p,.int .i64 l[i].u]:=fE;subst kI;exact⟨_,b,off,cap,rfl,hv,hc 0 _ rfl,hc 1 _ rfl⟩
theorem U5:(Tryz.prog.info? 148).map (fun i=>(i.zero,i.size,i.bytes))=some (some (.agg #[.string ⟨#[]⟩,.int .i64 0]),2,24):=by kernel_rfl
theorem Ce:dS Tryz.prog 41 148 jB 24:=dS.of Tryz.underlying41 U5 rfl (by decide) rfl
abbrev Mh(x:Ho):Value:= .agg #[S x.p,.int .i64 x.u]
def tF(g:Nat)(cb:Array Value)(l:List Ho)(p:Ho→Bool)(C:World→Prop):Prop:=
 ∀x∈l,∀W:World,C W→Calls Tryz.prog g (#[Mh x]++cb) W fun e w'=>e= .returned (.bool (p x))∧Below W.heap.size W w'
theorem Yk(f:Ho→Bool){a:List Ho}{k:Nat}(hk:k<a.length){x:Ho}(hx:a[k]=x):(a.take (k+1)).filter f=(a.take k).filter f++(if f x=true then [x]else []):=by
 rw[List.take_succ_eq_append_getElem hk,hx,List.filter_append];cases h:f x<;>simp[h]
theorem Yl{p:α}(h:T=U++(if c=true then [p]else []))(hc:c=true):T=U++[p]:=by rw[h,if_pos hc]
theorem Ym{p:α}(h:T=U++(if c=true then [p]else []))(hc:c=false):T=U:=by rw[h,hc,if_neg (by simp),List.append_nil]
theorem aK.tH{T:Ty α}{E:TypeId}{B:Nat}{l l':List α}(h:aK T E I w B v l)(e:l=l'):aK T E I w B v l':=e▸h
theorem QP(I:IH)(v:Value)(l:List Ho)(hv:aZ jB I v l)(hn:l.length≤100000)(g:Nat)(cb:Array Value)(p:Ho→Bool)(w:World)(hw:Ok I w)(eg:∀args w,(callFunc g args).run Tryz.prog w= .ok (.enter g args) w)(hp:tF g cb l p (Below w.heap.size w)):
 Calls Tryz.prog 89 #[v,.func (.func g) #[] cb] w fun e w'=> ∃v',e= .returned v'∧aK jB 148 I w' w.heap.size v' (l.filter p)∧Below w.heap.size w w':=by
 obtain⟨ao,cap,rfl,dO,fJ,_⟩:=id hv;have Hv:=Qh hv;clear hv;have Hp:=Qh hp;clear hp;go_enter Tryz.func89,Tryz.ntmps89
 go_wp2_with fail
 go_loopw [5,10] (fun s5 s10 wr=> ∃k:Nat,k≤l.length∧s10= .int .i64 k∧aK jB 148 I wr w.heap.size s5 ((l.take k).filter p)∧Below w.heap.size w wr) (fun _ i _=>l.length-(intOf i).toNat)
 case atStart=>exact⟨0,Nat.zero_le _,rfl,aK.nil _ _ _ _ _,Qb _ _⟩
 case round=>
  obtain⟨k,hk,rfl,bg,hb⟩:=hrel;have bL:=Qh bg;clear bg;have dG:Ok I wr:=hw.below (Qn _) hb;have ni:((l.take k).filter p).length≤k:=Nat.le_trans (List.length_filter_le _ _) (by simp;omega);by_cases hlt:k<l.length
  ·obtain⟨x,b,off,cap',dA,cZ,c0,c1⟩:=wy Hv.O dG k hlt;cases cZ;have bu:=Qh (Yk p hlt dA);have kX:=Qh (Hp.O x (by rw[←dA];exact List.getElem_mem hlt) (wr.alloc (.cells #[S x.p,.int .i64 x.u] 148)) (hb.alloc hb.size _));clear dA;go_wp2_with fail
   refine kX.O.mono ?_;rintro e w1 ⟨rfl,aD⟩;have x0:=bK aD (show(wr.alloc (.cells #[S x.p,.int .i64 x.u] 148)).cell? ⟨wr.heap.size,0,none⟩=some (S x.p) by simp);have x1:=bK aD (show(wr.alloc (.cells #[S x.p,.int .i64 x.u] 148)).cell? ⟨wr.heap.size,1,none⟩=some (.int .i64 x.u) by simp);have aH:=(hb.alloc hb.size (.cells #[S x.p,.int .i64 x.u] 148)).trans (aD.mono (by have:=hb.size;simp;omega));have mQ:=Qh ((bL.O.alloc (.cells #[S x.p,.int .i64 x.u] 148)).below aD);have qj:=aH.size;clear aD kX c0 c1 bL;cases hpx:p x
   ·have Hn:=Qh (Ym bu.O hpx);clear hpx;go_wp2;go_roundw;case rel=>exact⟨k+1,by omega,by go_num,mQ.O.tH Hn.O.symm,aH⟩
    case measure=>simp[intOf];omega
   ·have Hn:=Qh (Yl bu.O hpx);clear hpx;go_wp2_with (at_builtin;refine pE (w0:=w1) Ce rfl _ _ rfl _ _ _ rfl mQ.O x [S x.p,.int .i64 x.u] _ rfl rfl (by omega) (by omega) qj ?_)
    intro v9 w9 bD bP;have gP:=Below.own aH bP mQ.O (Qn _) qj;go_wp2;go_roundw;case rel=>exact⟨k+1,by omega,by go_num,bD.tH Hn.O.symm,gP⟩
    case measure=>simp[intOf];omega
  ·have aC:l.take k=l:=List.take_of_length_le (by omega);rw[aC]at bL;clear aC ni;go_wp2;go_ret;exact⟨_,rfl,bL.O,hb⟩
theorem Xei(I:IH)(v:Value)(l:List Ho)(hv:aZ jB I v l)(g:Nat)(cb:Array Value)(p:Ho→Bool)(w:World)(hw:Ok I w)(eg:∀args w,(callFunc g args).run Tryz.prog w= .ok (.enter g args) w)(hp:tF g cb l p (Below w.heap.size w)):
 Calls Tryz.prog 92 #[v,.func (.func g) #[] cb] w fun e w'=>e= .returned (.int .i64 (ol l p))∧Below w.heap.size w w':=by
 have hlen:=hv.bF;obtain⟨ao,cap,rfl,dO,fJ,_⟩:=id hv;have Hv:=Qh hv;clear hv;have Hp:=Qh hp;clear hp;go_enter Tryz.func92,Tryz.ntmps92
 go_wp2_with fail
 go_loopw [8] (fun s8 wr=> ∃k:Nat,k≤l.length∧s8= .int .i64 k∧(l.take k).any p=false∧Below w.heap.size w wr) (fun i _=>l.length-(intOf i).toNat)
 case atStart=>exact⟨0,Nat.zero_le _,rfl,rfl,Qb _ _⟩
 case round=>
  obtain⟨k,hk,rfl,hr,hb⟩:=hrel;have Hr:=Qh hr;clear hr;by_cases hlt:k<l.length
  ·have dG:Ok I wr:=hw.below (Qn _) hb;obtain⟨x,b,off,cap',dA,cZ,c0,c1⟩:=wy Hv.O dG k hlt;cases cZ;have qM:=Qh dA;have kX:=Qh (Hp.O x (by rw[←dA];exact List.getElem_mem hlt) wr hb);clear dA;go_wp2_with fail
   refine kX.O.mono ?_;rintro e w1 ⟨rfl,aD⟩;have aH:=hb.trans (aD.mono hb.size);clear aD kX c0 c1;cases hpx:p x
   ·have Hn:=Qh (show(l.take (k+1)).any p=false by rw[List.take_succ_eq_append_getElem hlt,List.any_append,Hr.O,qM.O];simp[hpx]);clear hpx;go_wp2;go_roundw;case rel=>exact⟨k+1,by omega,by go_num,Hn.O,aH⟩
    case measure=>simp[intOf];omega
   ·have Hn:=Qh (UU (p:=p) hlt (by rw[qM.O];exact hpx) Hr.O);clear hpx;go_wp2;go_ret;exact⟨di Hn.O.symm,aH⟩
  ·have Hn:=Qh (show ol l p= -1 from UT (by have:=Hr.O;rwa[List.take_of_length_le (by omega)]at this));go_wp2;go_ret;exact⟨di Hn.O.symm,hb⟩
theorem Xc6(I:IH)(v:Value)(l:List Ho)(hv:aZ jB I v l)(g:Nat)(cb:Array Value)(p:Ho→Bool)(w:World)(hw:Ok I w)(eg:∀args w,(callFunc g args).run Tryz.prog w= .ok (.enter g args) w)(hp:tF g cb l p (Below w.heap.size w)):
 Calls Tryz.prog 165 #[v,.func (.func g) #[] cb] w fun e w'=>e= .returned (.bool (l.any p))∧Below w.heap.size w w':=by
 have Hi:=Qh (Xei I v l hv g cb p w hw eg hp);obtain⟨ao,cap,rfl,dO,fJ,_⟩:=id hv;clear hv hp eg;rcases LZ l p with⟨i,hi,e1,e2,_⟩|⟨e1,e2⟩
 ·have Ha:=Qh (show l.any p=true from List.any_eq_true.2 ⟨l[i],List.getElem_mem hi,e2⟩);have hd:decide ((0:Int)≤(i:Int))=true:=Qt (by omega);rw[e1]at Hi;clear e1 e2;go_enter Tryz.func165,Tryz.ntmps165
  go_wp2_with fail
  refine Hi.O.mono ?_;rintro e w1 ⟨rfl,aD⟩;go_wp2;go_ret;exact⟨ib Ha.O.symm,aD⟩
 ·have Ha:=Qh e2;rw[e1]at Hi;clear e1 e2;go_enter Tryz.func165,Tryz.ntmps165
  go_wp2_with fail
  refine Hi.O.mono ?_;rintro e w1 ⟨rfl,aD⟩;go_wp2;go_ret;exact⟨ib Ha.O.symm,aD⟩
theorem Xo9(d:Int)(b:Nat)(l:List Ho)(w:World)(hc:w.cell? ⟨b,0,none⟩=some (.int .i64 d)):tF 95 #[.pointer (some ⟨b,0,none⟩)] l (fun h=>decide (d≤h.u)) (Below w.heap.size w):=by
 intro x _ W hW;have Lc:=kP (.cells #[S x.p,.int .i64 x.u] 148) (bK hW hc);clear hc;show Calls Tryz.prog _ #[Mh x,.pointer (some ⟨b,0,none⟩)] W _;go_enter Tryz.func95,Tryz.ntmps95
 go_wp2;go_ret;exact⟨rfl,(Qb _ _).alloc (Qn _) _⟩
theorem U6(I:IH)(v:Value)(l:List Ho)(hv:aZ jB I v l)(hn:l.length≤100000)(d:Int)(w:World)(hw:Ok I w):
 Calls Tryz.prog 42 #[v,.int .i64 d] w fun e w'=> ∃v',e= .returned v'∧aK jB 148 I w' w.heap.size v' (dP l d)∧Below w.heap.size w w':=by
 have Hp:=Qh (Xo9 d w.heap.size l (w.alloc (.cells #[.int .i64 d] 3)) (by simp));have Hs:=Qh (QP I v l hv hn _ _ _ _ (hw.alloc (.cells #[.int .i64 d] 3)) (fun _ _=>by kernel_rfl) Hp.O);obtain⟨ao,cap,rfl,dO,fJ,_⟩:=id hv;clear hv Hp;go_enter Tryz.func42,Tryz.ntmps42
 go_wp2_with fail
 refine Hs.O.mono ?_;rintro e w1 ⟨v1,rfl,bg,hb⟩;go_wp2;go_ret;exact⟨_,rfl,bg.lower (by simp),((Qb _ _).alloc (Qn _) _).trans (hb.mono (by simp))⟩
theorem Xtv(I:IH)(hI:eG I)(p:af)(hp:p.length≤4294967280)(b:Nat)(l:List Ho)(hl:∀h∈l,h.p.length≤4294967280)(w:World)(hw:Ok I w)(hc:w.cell? ⟨b,0,none⟩=some (S p)):tF 211 #[.pointer (some ⟨b,0,none⟩)] l (fun h=>under p h.p) (Below w.heap.size w):=by
 intro x hx W hW;have Hu:=Qh (XK I hI p x.p hp (hl x hx) (W.alloc (.cells #[S x.p,.int .i64 x.u] 148)) ((hw.below (Qn _) hW).alloc _));have Lc:=kP (.cells #[S x.p,.int .i64 x.u] 148) (bK hW hc);clear hc;show Calls Tryz.prog _ #[Mh x,.pointer (some ⟨b,0,none⟩)] W _;go_enter Tryz.func211,Tryz.ntmps211
 go_wp2_with fail
 refine Hu.O.mono ?_;rintro e w1 ⟨rfl,aD⟩;go_wp2;go_ret;exact⟨rfl,((Qb _ _).alloc (Qn _) _).trans (aD.mono (by simp))⟩
theorem vL.short(h:vL l):∀x∈l,x.p.length≤4294967280:=fun x hx=>by have:=(Ey (h.ag x hx)).1;omega
theorem Xvu(I:IH)(hI:eG I)(v:Value)(l:List Ho)(hv:aZ jB I v l)(hk:vL l)(hn:l.length≤100000)(p:af)(hp:p.length≤4294967280)(d:Int)(w:World)(hw:Ok I w):
 Calls Tryz.prog 163 #[v,S p,.int .i64 d] w fun e w'=>e= .returned (.bool (fT l p d))∧Below w.heap.size w w':=by
 have Ha:=Qh (U6 I v l hv hn d (w.alloc (.cells #[S p] 9)) (hw.alloc _));have Hk:=Qh (hk.act d);have kw:=Qh (fun b (hb:(w.alloc (.cells #[S p] 9)).heap.size≤b)=>(hw.alloc (.cells #[S p] 9)).fresh (b:=b) hb);have HI:=Qh hI;obtain⟨ao,cap,rfl,dO,fJ,_⟩:=id hv;clear hv hk hI;go_enter Tryz.func163,Tryz.ntmps163
 go_wp2_with fail
 refine Ha.O.mono ?_;rintro e w1 ⟨v1,rfl,bg,hb⟩;have aM:Ok I w1:=(hw.alloc _).below (Qn _) hb;obtain⟨I1,jC,ku,lX,_⟩:=bg.freeze aM kw.O;have uG:w1.cell? ⟨w.heap.size,0,none⟩=some (S p):=bK hb (by simp);have Hp:=Qh (Xtv I1 (HI.O.mono (jC.keep (hw.alloc (.cells #[S p] 9)) (Qn _))) p hp w.heap.size (dP l d) Hk.O.short w1 ku uG);have Hc:=Qh (Xc6 I1 _ _ lX _ _ _ w1 ku (fun _ _=>by kernel_rfl) Hp.O);have sS:=((Qb w.heap.size w).alloc (Qn _) (.cells #[S p] 9)).trans (hb.mono (by simp));obtain⟨a1,c1,rfl,_,_,_⟩:=id lX;clear hb bg lX ku jC uG Ha Hp;go_wp2_with fail
 refine Hc.O.mono ?_;rintro e w2 ⟨rfl,aL⟩;go_wp2;go_ret;exact⟨rfl,sS.trans (aL.mono sS.size)⟩
theorem Yn(h:fK s=true):Lib.atoiAll s= .ok (digits s)∧s≠[]∧s.all j6=true∧((s.getD 0 0).toNat=48→s=[48]):=by
 have h':=h;obtain⟨n,h1,h2,h3,h4⟩:=(Xon s).1 h;obtain⟨u,rfl⟩:=Int.eq_ofNat_of_zero_le h2;rw[Lib.itoa,if_neg (by omega),Int.toNat_natCast]at h4;obtain⟨f1,f2,f3,f4,f5⟩:=Xl0 u;rw[h4]at f1 f2 f3 f4 f5;have JE:digits s=u:=by rw[XM f1,f3]
 refine⟨by rw[JE];exact h1,f2,f1,fun hc=> ?_⟩;cases s with
 |nil=>exact absurd rfl f2
 |cons c r=>
  have iw:c=48:=by
   apply UInt8.toNat_inj.1;simpa using hc
  subst iw;have hu:u=0:=by
   by_cases k:1≤u
   ·exact absurd rfl (f5 k)
   ·omega
  subst hu;rw[←h4];first|(rw[Lib.decDigits];rfl)|simp[Lib.decDigits]|decide
def qA:af:=[48,49,50,51,52,53,54,55,56,57]
theorem Xp3:∀c:UInt8,j6 c=true→qA.contains c=true:=by
 intro c h;have hb:=L6 h;have key:∀n:Fin 256,48≤n.1→n.1≤57→qA.contains (UInt8.ofNat n.1)=true:=by decide
 have:=key ⟨c.toNat,c.toNat_lt⟩ hb.1 hb.2;simpa using this
theorem Xmj(h:s.all j6=true):Lib.trimS s qA=[]:=by
 rw[Xko,List.all_eq_true];intro c hc;exact Xp3 c (List.all_eq_true.1 h c hc)
theorem Xrm(s:af)(hs:s.length≤9223372036854775807)(w:World):
 Calls Tryz.prog 144 #[S s,S qA] w fun e w'=>e= .returned (S (Lib.trimS s qA))∧Below w.heap.size w w':=by
 have h:=Tryz.q8 ⟨s.toArray⟩ ⟨qA.toArray⟩ w (by rw[ByteArray.size_mk',List.size_toArray];exact hs) (by decide) (ascii_of_all (by decide));exact h
theorem Xq1(s:af)(hs:s.length≤4294967280)(hd:fK s=true)(w:World):
 Calls Tryz.prog 91 #[S s] w fun e w'=>e= .returned (.tuple #[.int .i64 (digits s),.bool true])∧Below w.heap.size w w':=by
 obtain⟨ha,bn,aC,hz⟩:=Yn hd;have nX:=(Uw hd).2;have hlen:=List.length_pos_iff.2 bn;obtain⟨p1,p2,p3,p4⟩:=Ao bn;have Ht:=Qh (Xrm s (by omega) w);rw[Xmj aC]at Ht;have Ha:=Qh (fun w=>Xhm s hs _ ha w);have oG:=gm (P:=Tryz.prog) Tryz.underlying9 s 0 0 rfl hlen;have q1:decide (digits s≤1000000000)=true:=Qt nX;generalize digits s=n at Ha nX q1 ⊢;have HD:=Qh (show qA=[48,49,50,51,52,53,54,55,56,57]from rfl);rw[HD.O]at Ht;clear hd ha aC bn;by_cases hc:(s.getD 0 0).toNat=48
 ·have lC:=hz hc;have k1:(((s.getD 0 0).toNat:Int)==48)=true:=by rw[hc];rfl
  have k2:(s==[48])=true:=by rw[lC];rfl
  have Hs:=Qh lC;clear lC hc hz;generalize(s.getD 0 0).toNat=c at oG k1;go_enter Tryz.func91,Tryz.ntmps91
  go_wp2_with fail
  refine Ht.O.mono ?_;rintro e w1 ⟨rfl,aD⟩;go_wp2_with fail
  refine(Ha.O _).mono ?_;rintro e w2 ⟨rfl,aL⟩;go_wp2;go_ret2;exact⟨rfl,aD.trans (aL.mono aD.size)⟩
 ·have k1:(((s.getD 0 0).toNat:Int)==48)=false:=by
   have:((s.getD 0 0).toNat:Int)≠48:=by omega
   simpa using this
  clear hc hz;generalize(s.getD 0 0).toNat=c at oG k1;go_enter Tryz.func91,Tryz.ntmps91
  go_wp2_with fail
  refine Ht.O.mono ?_;rintro e w1 ⟨rfl,aD⟩;go_wp2_with fail
  refine(Ha.O _).mono ?_;rintro e w2 ⟨rfl,aL⟩;go_wp2;go_ret2;exact⟨rfl,aD.trans (aL.mono aD.size)⟩
theorem Xmp(I:IH)(hI:eG I)(p:af)(hp:p.length≤4294967280)(b:Nat)(l:List Ho)(hl:∀h∈l,h.p.length≤4294967280)(w:World)(hw:Ok I w)(hc:w.cell? ⟨b,1,none⟩=some (S p)):tF 164 #[.pointer (some ⟨b,0,none⟩)] l (fun h=>under h.p p) (Below w.heap.size w):=by
 intro x hx W hW;have Hu:=Qh (XK I hI x.p p (hl x hx) hp (W.alloc (.cells #[S x.p,.int .i64 x.u] 148)) ((hw.below (Qn _) hW).alloc _));have Lc:=kP (.cells #[S x.p,.int .i64 x.u] 148) (bK hW hc);clear hc;show Calls Tryz.prog _ #[Mh x,.pointer (some ⟨b,0,none⟩)] W _;go_enter Tryz.func164,Tryz.ntmps164
 go_wp2_with fail
 refine Hu.O.mono ?_;rintro e w1 ⟨rfl,aD⟩;go_wp2;go_ret;exact⟨rfl,((Qb _ _).alloc (Qn _) _).trans (aD.mono (by simp))⟩
theorem Xo8(I:IH)(hI:eG I)(v:Value)(l:List Ho)(hv:aZ jB I v l)(hk:vL l)(hn:l.length≤100000)(e:aT)(va vx:Value)(fq:aZ lD I va e.aj)(kJ:aZ lY I vx e.aA)(hp:e.ag.length≤4294967280)(d:Int)(w:World)(hw:Ok I w):
 Calls Tryz.prog 112 #[v,gN e va vx,.int .i64 d] w fun r w'=>r= .returned (.int .i64 (jP l e.au e.ag d))∧Below w.heap.size w w':=by
 have Hh:=Qh (fun w hw=>Xvu I hI v l hv hk hn e.ag hp d w hw);have Ha:=Qh (fun w hw=>U6 I v l hv hn d w hw);have HI:=Qh hI;have Hk:=Qh (hk.act d);obtain⟨ao,cap,rfl,dO,fJ,_⟩:=id hv;obtain⟨aa,ca,rfl,_,_,_⟩:=id fq;obtain⟨ax,cx,rfl,_,_,_⟩:=id kJ;clear hv fq kJ hI hk;by_cases h1:e.au=1
 ·have k1:((e.au:Int)==1)=true:=by simpa using h1
  have Hn:=Qh (show jP l e.au e.ag d=if fT l e.ag d then 15 else 0 by rw[jP,if_pos (.inl h1)]);generalize fT l e.ag d=b at Hh Hn;clear h1;go_enter Tryz.func112,Tryz.ntmps112
  go_wp2_with fail
  refine(Hh.O _ (hw.alloc _)).mono ?_;rintro e1 w1 ⟨rfl,aD⟩;have aH:=((Qb w.heap.size w).alloc (Qn _) (.cells #[.int .i64 e.au,S e.ag,.slice aa e.aj.length ca,S e.target,.int .i64 e.size,S e.av,.slice ax e.aA.length cx] 81)).trans (aD.mono (by simp));cases b
  ·go_wp2;go_ret;exact⟨di Hn.O.symm,aH⟩
  ·go_wp2;go_ret;exact⟨di Hn.O.symm,aH⟩
 have k1:((e.au:Int)==1)=false:=by simpa using h1
 by_cases h2:e.au=2
 ·have k2:((e.au:Int)==2)=true:=by simpa using h2
  have Hn:=Qh (show jP l e.au e.ag d=if fT l e.ag d then 15 else 0 by rw[jP,if_pos (.inr (.inl h2))]);generalize fT l e.ag d=b at Hh Hn;clear h1 h2;go_enter Tryz.func112,Tryz.ntmps112
  go_wp2_with fail
  refine(Hh.O _ (hw.alloc _)).mono ?_;rintro e1 w1 ⟨rfl,aD⟩;have aH:=((Qb w.heap.size w).alloc (Qn _) (.cells #[.int .i64 e.au,S e.ag,.slice aa e.aj.length ca,S e.target,.int .i64 e.size,S e.av,.slice ax e.aA.length cx] 81)).trans (aD.mono (by simp));cases b
  ·go_wp2;go_ret;exact⟨di Hn.O.symm,aH⟩
  ·go_wp2;go_ret;exact⟨di Hn.O.symm,aH⟩
 have k2:((e.au:Int)==2)=false:=by simpa using h2
 by_cases h3:e.au=3
 ·have k3:((e.au:Int)==3)=true:=by simpa using h3
  have Hn:=Qh (show jP l e.au e.ag d=if fT l e.ag d then 15 else 0 by rw[jP,if_pos (.inr (.inr h3))]);generalize fT l e.ag d=b at Hh Hn;clear h1 h2 h3;go_enter Tryz.func112,Tryz.ntmps112
  go_wp2_with fail
  refine(Hh.O _ (hw.alloc _)).mono ?_;rintro e1 w1 ⟨rfl,aD⟩;have aH:=((Qb w.heap.size w).alloc (Qn _) (.cells #[.int .i64 e.au,S e.ag,.slice aa e.aj.length ca,S e.target,.int .i64 e.size,S e.av,.slice ax e.aA.length cx] 81)).trans (aD.mono (by simp));cases b
  ·go_wp2;go_ret;exact⟨di Hn.O.symm,aH⟩
  ·go_wp2;go_ret;exact⟨di Hn.O.symm,aH⟩
 have k3:((e.au:Int)==3)=false:=by simpa using h3
 have wM:¬(e.au=1∨e.au=2∨e.au=3):=fun q=>by omega
 by_cases h4:e.au=4;case neg=>
  have k4:((e.au:Int)==4)=false:=by simpa using h4
  have Hn:=Qh (show jP l e.au e.ag d=0 by rw[jP,if_neg wM,if_neg h4]);clear h1 h2 h3 h4 wM;go_enter Tryz.func112,Tryz.ntmps112
  go_wp2;go_ret;exact⟨di Hn.O.symm,(Qb w.heap.size w).alloc (Qn _) _⟩
 have k4:((e.au:Int)==4)=true:=by simpa using h4
 have Hn:=Qh (show jP l e.au e.ag d=if fT l e.ag d || kE l e.ag d then 15 else 0 by rw[jP,if_neg wM,if_pos h4]);clear h1 h2 h3 h4 wM;have yV:=Qh (show kE l e.ag d=(dP l d).any (fun h=>under h.p e.ag)from rfl);generalize fT l e.ag d=b at Hh Hn;generalize kE l e.ag d=c at Hn yV;go_enter Tryz.func112,Tryz.ntmps112
 go_wp2_with fail
 refine(Hh.O _ (hw.alloc _)).mono ?_;rintro e1 w1 ⟨rfl,aD⟩;have kU:=Qh (dx (e:=e) rfl aD);have aM:Ok I w1:=(hw.alloc _).below (Qn _) aD;have aH:=((Qb w.heap.size w).alloc (Qn _) (.cells #[.int .i64 e.au,S e.ag,.slice aa e.aj.length ca,S e.target,.int .i64 e.size,S e.av,.slice ax e.aA.length cx] 81)).trans (aD.mono (by simp));clear aD;cases b;case true=>
  go_wp2;go_ret;exact⟨di Hn.O.symm,aH⟩
 have kw:=Qh (fun b (hb:w1.heap.size≤b)=>aM.fresh (b:=b) hb);go_wp2_with fail
 refine(Ha.O _ aM).mono ?_;rintro e2 w2 ⟨v2,rfl,bg,aL⟩;have aX:Ok I w2:=aM.below (Qn _) aL;obtain⟨I2,jC,ku,lX,_⟩:=bg.freeze aX kw.O;have Hp:=Qh (Xmp I2 (HI.O.mono (jC.keep aM (Qn _))) e.ag hp w.heap.size (dP l d) Hk.O.short w2 ku (kU.O.aQ aL).c1);have Hc:=Qh (Xc6 I2 _ _ lX _ _ _ w2 ku (fun _ _=>by kernel_rfl) Hp.O);rw[←yV.O]at Hc;have aY:=aH.trans (aL.mono aH.size);obtain⟨a1,c1,rfl,_,_,_⟩:=id lX;clear aL bg lX ku jC Ha Hp aH;go_wp2_with fail
 refine Hc.O.mono ?_;rintro e3 w3 ⟨rfl,dX⟩;have gp:=aY.trans (dX.mono aY.size);cases c
 ·go_wp2;go_ret;exact⟨di Hn.O.symm,gp⟩
 ·go_wp2;go_ret;exact⟨di Hn.O.symm,gp⟩
