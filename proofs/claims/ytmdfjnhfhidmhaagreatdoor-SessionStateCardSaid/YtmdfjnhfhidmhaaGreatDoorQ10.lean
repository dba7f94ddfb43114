/- Lemmas for the claim's theorem;conditions: as each says. -/
import Derived.Test.YtmdfjnhfhidmhaaGreatDoorQ09
set_option maxHeartbeats 0
set_option maxRecDepth 100000
set_option linter.all false
namespace Go.Proofs.YtmdfjnhfhidmhaaGreatDoor
open Go.RowKit
variable{t:List aQ}{p:af}
theorem Nw(e:aQ):aL e=
 if e.aj<1∨6<e.aj then 10
 else if aR e.ag≠0 then aR e.ag
 else if e.ag=[]∧e.aj<5 then 1
 else if nK e.au≠0 then nK e.au
 else if(e.au≠[]∧3<e.aj)∨bR e=false then 1 else dH e:=rfl
theorem JP(I:IH)(hI:cB I)(x:aQ)(va vx:Value)(gW:aY lv I va x.au)(j6:aY kQ I vx x.aD)(lu:x.Wf)(nO:x.ag.length≤4294967280)(sO:x.av.length≤4294967280)(w:World)(hw:Ok I w):
 Calls Tryz.prog 77 #[fG x va vx] w fun e w'=>e= .returned (.int .i64 (aL x))∧Below w.heap.size w w':=by
 have dz:=j6.bK;have hla:=gW.bK;have Hct:=Qh (fun w hw=>Xmj I x va vx gW j6 lu w hw);have Qx:=Qh (fun w hw=>Xof I hI x sO va vx w hw);obtain⟨ao,cap,rfl,dM,gV,_⟩:=id j6;obtain⟨vC,cap2,rfl,xn,uN,_⟩:=id gW;have Hva:=Qh gW;clear j6 gW;have G5:=Qh (fun w hw=>VU I hI x.ag nO w hw);have EH:=Qh (fun w hw=>Xqv I _ x.au Hva.q lu.au w hw);have lN:=lu.s0;have xu:=lu.s1;have Bi:=lu.k0;have sW:=lu.k1;have xq:=lu.aI;clear lu;by_cases xw:x.aj<1;case pos=>
  have Hn:=Qh (show aL x=10 by rw[Nw,if_pos (.inl xw)]);go_enter Tryz.func77,Tryz.ntmps77
  go_wp2;go_ret;exact⟨dK Hn.q.symm,(Qb _ _).alloc (Qn _) _⟩
 by_cases hkg:6<x.aj;case pos=>
  have Hn:=Qh (show aL x=10 by rw[Nw,if_pos (.inr hkg)]);go_enter Tryz.func77,Tryz.ntmps77
  go_wp2;go_ret;exact⟨dK Hn.q.symm,(Qb _ _).alloc (Qn _) _⟩
 have He:=Qh (show aL x=_ by rw[Nw,if_neg (show ¬(x.aj<1∨6<x.aj) by omega)]);by_cases Gd:aR x.ag=0;case neg=>
  obtain⟨q,hq⟩:∃q,aR x.ag=q:=⟨_,rfl⟩;have hn:(q !=0)=true:=by rw[←hq];simpa using Gd
  have Hn:=Qh (show aL x=q by rw[He.q,if_pos Gd,hq]);rw[hq]at G5;clear hq Gd;go_enter Tryz.func77,Tryz.ntmps77
  go_wp2_with fail
  refine(G5.q _ (hw.alloc _)).mono ?_;rintro e w1 ⟨rfl,aG⟩;have aO:Below w.heap.size w w1:=((Qb _ _).alloc (Qn _) _).trans (aG.mono (by simp));have bW:w.heap.size<w1.heap.size:=by have:=aG.size;simp at this;omega
  have aS:Ok I w1:=(hw.alloc _).below (Qn _) aG;obtain⟨c0,c1,c2,c3,c4,c5,c6⟩:=eO rfl aG;clear aG;go_wp2;go_ret;exact⟨dK Hn.q.symm,aO⟩
 replace He:=Qh (show aL x=_ by rw[He.q,if_neg (show ¬aR x.ag≠0 by omega)]);rw[Gd]at G5;clear Gd;by_cases EI:x.ag=[]∧x.aj<5;case pos=>
  have Hn:=Qh (show aL x=1 by rw[He.q,if_pos EI]);obtain⟨p1,p2,p3,p4⟩:=Bp EI.1;have k5:((x.aj:Int) !=5)=true:=by rw[bne_iff_ne];omega
  have k6:((x.aj:Int) !=6)=true:=by rw[bne_iff_ne];omega
  have hk5:=EI.2;clear EI;go_enter Tryz.func77,Tryz.ntmps77
  go_wp2_with fail
  refine(G5.q _ (hw.alloc _)).mono ?_;rintro e w1 ⟨rfl,aG⟩;have aO:Below w.heap.size w w1:=((Qb _ _).alloc (Qn _) _).trans (aG.mono (by simp));have bW:w.heap.size<w1.heap.size:=by have:=aG.size;simp at this;omega
  have aS:Ok I w1:=(hw.alloc _).below (Qn _) aG;obtain⟨c0,c1,c2,c3,c4,c5,c6⟩:=eO rfl aG;clear aG;go_wp2;go_ret;exact⟨dK Hn.q.symm,aO⟩
 replace He:=Qh (show aL x=_ by rw[He.q,if_neg EI]);have Dt:(((x.ag==[])=true∧x.ag.isEmpty=true∧(!x.ag.isEmpty)=false∧(x.ag !=[])=false)∧(x.aj=5∨x.aj=6))∨((x.ag==[])=false∧x.ag.isEmpty=false∧(!x.ag.isEmpty)=true∧(x.ag !=[])=true):=by
  by_cases h:x.ag=[]
  ·left;exact⟨Bp h,by have:=Int.not_lt.1 fun h2=>EI ⟨h,h2⟩;omega⟩
  ·right;exact Bo h
 clear EI;go_enter Tryz.func77,Tryz.ntmps77
 go_wp2_with fail
 refine(G5.q _ (hw.alloc _)).mono ?_;rintro e w1 ⟨rfl,aG⟩;have aO:Below w.heap.size w w1:=((Qb _ _).alloc (Qn _) _).trans (aG.mono (by simp));have bW:w.heap.size<w1.heap.size:=by have:=aG.size;simp at this;omega
 have aS:Ok I w1:=(hw.alloc _).below (Qn _) aG;obtain⟨c0,c1,c2,c3,c4,c5,c6⟩:=eO rfl aG;clear aG;clear G5;go_upto_region 6 with fail
 go_cut [31] (fun s31 wx=>s31= .bool false∧w1=wx)
 case first=>
  rcases Dt with⟨⟨p1,p2,p3,p4⟩,p5|p5⟩|⟨p1,p2,p3,p4⟩
  ·have k5:((x.aj:Int) !=5)=false:=by rw[p5];rfl
   clear p5;go_wp2_with fail
   go_meet;exact⟨rfl,rfl⟩
  ·have k5:((x.aj:Int) !=5)=true:=by rw[p5];rfl
   have k6:((x.aj:Int) !=6)=false:=by rw[p5];rfl
   clear p5;go_wp2_with fail
   go_meet;exact⟨rfl,rfl⟩
  ·go_wp2_with fail
   go_meet;exact⟨rfl,rfl⟩
 case rest=>
  obtain⟨rfl,hcut⟩:=hcut;subst hcut;clear Dt;go_wp2_with fail
  refine(EH.q _ aS).mono ?_;rintro e w2 ⟨rfl,aP⟩;have bS:=aO.trans (aP.mono (Nat.le_of_lt bW));have fw:w.heap.size<w2.heap.size:=by have:=aP.size;omega
  have bC:Ok I w2:=aS.below (Qn _) aP;obtain⟨c0,c1,c2,c3,c4,c5,c6⟩:=eY.aX (⟨c0,c1,c2,c3,c4,c5,c6⟩:eY w1 w.heap.size x _ _) aP;clear aP aO bW aS;by_cases zm:nK x.au=0;case neg=>
   obtain⟨q,hq⟩:∃q,nK x.au=q:=⟨_,rfl⟩;have hn:(q !=0)=true:=by rw[←hq];simpa using zm
   have Hn:=Qh (show aL x=q by rw[He.q,if_pos zm,hq]);rw[hq];clear hq zm;go_wp2;go_ret;exact⟨dK Hn.q.symm,bS⟩
  replace He:=Qh (show aL x=_ by rw[He.q,if_neg (show ¬nK x.au≠0 by omega)]);rw[zm];clear zm EH;go_upto_region 11 with fail
  go_cut [51] (fun WS wx=> ∃w3,w3=wx∧(WS= .bool true∧aL x=1∨WS= .bool false∧ ¬((x.au≠[]∧3<x.aj)∨bR x=false))∧Below w2.heap.size w2 w3)
  case first=>
   have xy:x.au.length<1∨(0<x.au.length∧3<x.aj)∨(0<x.au.length∧x.aj≤3):=by omega
   rcases xy with ha|⟨ha,qx⟩|⟨ha,qx⟩
   ·have d0:decide (0<x.au.length)=false:=Qf (by omega);have WT:=Qh (show x.au=[]from List.eq_nil_of_length_eq_zero (by omega));go_wp2_with fail
    refine(Qx.q _ bC).mono ?_;rintro e w3 ⟨rfl,fu⟩;cases EJ:bR x
    ·have Hn:=Qh (show aL x=1 by rw[He.q,if_pos (.inr EJ)]);clear EJ;go_wp2_with fail
     go_meet;exact⟨_,rfl,.inl ⟨rfl,Hn.q⟩,fu⟩
    ·go_wp2_with fail
     go_meet;refine⟨_,rfl,.inr ⟨(by first|rfl|(congr 1;exact Qf (by omega))),?_⟩,fu⟩;rintro(⟨h1,h2⟩|h1)
     ·first
       |exact h1 WT.q
       |omega
     ·rw[EJ]at h1;exact absurd h1 (by simp)
   ·have d0:decide (0<x.au.length)=true:=Qt ha;have Hn:=Qh (show aL x=1 by rw[He.q,if_pos (.inl ⟨by intro e;rw[e]at ha;simp at ha,qx⟩)]);go_wp2_with fail
    go_meet;exact⟨_,rfl,.inl ⟨(by first|rfl|(congr 1;exact Qt (by omega))),Hn.q⟩,Qb _ _⟩
   ·have d0:decide (0<x.au.length)=true:=Qt ha;go_wp2_with fail
    refine(Qx.q _ bC).mono ?_;rintro e w3 ⟨rfl,fu⟩;cases EJ:bR x
    ·have Hn:=Qh (show aL x=1 by rw[He.q,if_pos (.inr EJ)]);clear EJ;go_wp2_with fail
     go_meet;exact⟨_,rfl,.inl ⟨rfl,Hn.q⟩,fu⟩
    ·go_wp2_with fail
     go_meet;refine⟨_,rfl,.inr ⟨(by first|rfl|(congr 1;exact Qf (by omega))),?_⟩,fu⟩;rintro(⟨h1,h2⟩|h1)
     ·first
       |exact h1 WT.q
       |omega
     ·rw[EJ]at h1;exact absurd h1 (by simp)
  case rest=>
   obtain⟨w3,Ao,Ny,fu⟩:=hcut;subst Ao;have mR:=bS.trans (fu.mono (Nat.le_of_lt fw));have il:Ok I w3:=bC.below (Qn _) fu;obtain⟨c0,c1,c2,c3,c4,c5,c6⟩:=eY.aX (⟨c0,c1,c2,c3,c4,c5,c6⟩:eY w2 w.heap.size x _ _) fu;clear fu bS fw bC Qx;rcases Ny with⟨rfl,hn⟩|⟨rfl,Ny⟩
   ·have Hn:=Qh hn;clear hn;go_wp2;go_ret;exact⟨dK Hn.q.symm,mR⟩
   have Hn:=Qh (show aL x=dH x by rw[He.q,if_neg Ny]);clear Ny;go_wp2_with fail
   refine(Hct.q _ il).mono ?_;rintro e w4 ⟨rfl,bA⟩;go_wp2;go_ret;exact⟨dK Hn.q.symm,mR.trans (bA.mono mR.size)⟩
def uw(g:Nat)(cb:Array Value)(l:List aQ)(p:aQ→Bool)(C:World→Prop):Prop:=
 ∀x∈l,∀(a1 a2:Option Addr) (c1 c2:Nat) (W:World),C W→Calls Tryz.prog g (#[fG x (.slice a1 x.au.length c1) (.slice a2 x.aD.length c2)]++cb) W fun e w'=>e= .returned (.bool (p x))∧Below W.heap.size W w'
theorem WU(I:IH)(v:Value)(l:List aQ)(hv:aY bJ I v l)(g:Nat)(cb:Array Value)(p:aQ→Bool)(w:World)(hw:Ok I w)(eg:∀args w,(callFunc g args).run Tryz.prog w= .ok (.enter g args) w)(hp:uw g cb l p (Below w.heap.size w)):
 Calls Tryz.prog 134 #[v,.func (.func g) #[] cb] w fun e w'=>e= .returned (.int .i64 (lC l p))∧Below w.heap.size w w':=by
 have hlen:=hv.bK;obtain⟨ao,cap,rfl,dM,gV,_⟩:=id hv;have Hv:=Qh hv;clear hv;have Hp:=Qh hp;clear hp;go_enter Tryz.func134,Tryz.ntmps134
 go_wp2_with fail
 go_loopw [8] (fun s8 wr=> ∃k:Nat,k≤l.length∧s8= .int .i64 k∧(l.take k).any p=false∧Below w.heap.size w wr) (fun i _=>l.length-(intOf i).toNat)
 case atStart=>exact⟨0,Nat.zero_le _,rfl,rfl,Qb _ _⟩
 case round=>
  obtain⟨k,hk,rfl,hr,hb⟩:=hrel;have Hr:=Qh hr;clear hr;by_cases hlt:k<l.length
  ·have gZ:Ok I wr:=hw.below (Qn _) hb;obtain⟨x,va,vx,b,off,cap',dz,dC,⟨c0,c1,c2,c3,c4,c5,c6⟩,h1,h2⟩:=uT Hv.q gZ k hlt;cases dC;obtain⟨aa,ca,rfl,_,_,_⟩:=id h1;obtain⟨ax,cx,rfl,_,_,_⟩:=id h2;have nP:=Qh dz;have jI:=Qh (Hp.q x (by rw[←dz];exact List.getElem_mem hlt) aa ax ca cx wr hb);clear dz h1 h2;go_wp2_with fail
   refine jI.q.mono ?_;rintro e w1 ⟨rfl,aG⟩;have aO:=hb.trans (aG.mono hb.size);clear aG jI c0 c1 c2 c3 c4 c5 c6;cases hpx:p x
   ·have Hn:=Qh (show(l.take (k+1)).any p=false by rw[List.take_succ_eq_append_getElem hlt,List.any_append,Hr.q,nP.q];simp[hpx]);clear hpx;go_wp2;go_roundw;case rel=>exact⟨k+1,by omega,by go_num,Hn.q,aO⟩
    case measure=>simp[intOf];omega
   ·have Hn:=Qh (PT (p:=p) hlt (by rw[nP.q];exact hpx) Hr.q);clear hpx;go_wp2;go_ret;exact⟨dK Hn.q.symm,aO⟩
  ·have Hn:=Qh (show lC l p= -1 from PS (by have:=Hr.q;rwa[List.take_of_length_le (by omega)]at this));go_wp2;go_ret;exact⟨dK Hn.q.symm,hb⟩
theorem Xqj(key:af)(b:Nat)(l:List aQ)(w:World)(hc:w.cell? ⟨b,0,none⟩=some (S key)):uw 135 #[.pointer (some ⟨b,0,none⟩)] l (fun x=>x.ag==key) (Below w.heap.size w):=by
 intro x _ a1 a2 c1 c2 W hW;have Gg:=bI hW hc;have wh:=jH (.cells #[.int .i64 x.aj,S x.ag,.slice a1 x.au.length c1,S x.av,.int .i64 x.size,S x.aI,.slice a2 x.aD.length c2] 81) Gg;clear hc Gg;go_enter Tryz.func135,Tryz.ntmps135
 go_wp2;go_ret;exact⟨rfl,(Qb _ _).alloc (Qn _) _⟩
abbrev ng(p:af):aQ→Bool:=fun x=>x.ag==p
theorem WV(I:IH)(v:Value)(t:List aQ)(hv:aY bJ I v t)(p:af)(w:World)(hw:Ok I w):
 Calls Tryz.prog 78 #[v,S p] w fun e w'=>e= .returned (.int .i64 (lC t (ng p)))∧Below w.heap.size w w':=by
 have Hp:=Qh (Xqj p w.heap.size t (w.alloc (.cells #[S p] 9)) (by simp));have Hi:=Qh (WU I v t hv _ _ _ _ (hw.alloc _) (fun _ _=>by kernel_rfl) Hp.q);obtain⟨ao,cap,rfl,dM,gV,_⟩:=id hv;clear hv;obtain⟨q,hq⟩:∃q,lC t (ng p)=q:=⟨_,rfl⟩;have Hq:=Qh hq;have JN:=Qh (Hi.q);clear Hi hq;rw[show(fun x:aQ=>x.ag==p)=ng p from rfl,Hq.q]at JN;rw[Hq.q];go_enter Tryz.func78,Tryz.ntmps78
 go_wp2_with fail
 refine JN.q.mono ?_;rintro e w1 ⟨rfl,aG⟩;go_wp2;go_ret;exact⟨rfl,((Qb _ _).alloc (Qn _) _).trans (aG.mono (by simp))⟩
theorem WW{i:Nat}(hi:i<t.length)(hp:ng p t[i]=true)(hn:(t.take i).any (ng p)=false):l7 t p=(t[i],true):=by
 have:dP t p=some t[i]:=by
  unfold dP;conv=>lhs;rw[←List.take_append_drop i t]
  rw[List.find?_append,List.drop_eq_getElem_cons hi,List.find?_cons];have h2:(t[i].ag==p)=true:=hp;rw[h2];have:(t.take i).find? (fun x=>x.ag==p)=none:=by
   rw[List.find?_eq_none];intro x hx hpx;rw[List.any_eq_true.2 ⟨x,hx,hpx⟩]at hn;exact absurd hn (by simp)
  rw[this];rfl
 rw[l7,this]
theorem WX(hn:t.any (ng p)=false):l7 t p=(zeroE,false):=by
 have:dP t p=none:=by
  unfold dP;rw[List.find?_eq_none];intro x hx hpx;rw[List.any_eq_true.2 ⟨x,hx,hpx⟩]at hn;exact absurd hn (by simp)
 rw[l7,this]
theorem WY(I:IH)(v:Value)(t:List aQ)(hv:aY bJ I v t)(p:af)(w:World)(hw:Ok I w):
 Calls Tryz.prog 111 #[v,S p] w (Jr I w (l7 t p)):=by
 have hlen:=hv.bK;have Hf:=Qh (WV I v t hv p (w.alloc (.cells bF 81)) (hw.alloc _));obtain⟨ao,cap,rfl,dM,gV,_⟩:=id hv;have Hv:=Qh hv;clear hv;have xJ:(Tryz.prog.info? 81).map (·.size)=some 7:=by kernel_rfl
 have nN:=heap_alloc_new w (.cells bF 81);have WZ:=Qh nN;clear nN;rcases GQ t (ng p)with⟨i,hi,e1,e2,e3⟩|⟨e1,e2⟩
 ·have Hn:=Qh (WW hi e2 e3);rw[e1]at Hf;clear e1 e2 e3;go_enter Tryz.func111,Tryz.ntmps111
  go_wp2_with fail
  refine Hf.q.mono ?_;rintro e w1 ⟨rfl,aG⟩;have aS:Ok I w1:=(hw.alloc _).below (Qn _) aG;have cu:w.heap.size<w1.heap.size:=by have:=aG.size;simp at this;omega
  have Hz:=Qh ((aG.block w.heap.size (by simp)).trans WZ.q);have aO:=((Qb w.heap.size w).alloc (Qn _) (.cells bF 81)).trans (aG.mono (by simp));clear aG;obtain⟨x,va,vx,b,off,cap',dz,dC,⟨c0,c1,c2,c3,c4,c5,c6⟩,h1,h2⟩:=uT Hv.q aS i hi;cases dC;obtain⟨aa,ca,rfl,_,_,_⟩:=id h1;obtain⟨ax,cx,rfl,_,_,_⟩:=id h2;have H1:=Qh h1;have H2:=Qh h2;rw[dz]at Hn;have UY:=Xmi h1 h2;clear dz h1 h2;go_wp2_with (refine wpList_store_row rfl 81 _ _ rfl w.heap.size (jB x (.slice aa x.au.length ca) (.slice ax x.aD.length cx)) rfl rfl 81 bF Hz.q xJ rfl UY ?_)
  try simp only[Exit.inBlock,Exit.then]
  refine bodyPost_ret (v:= .tuple #[fG x (.slice aa x.au.length ca) (.slice ax x.aD.length cx),.bool true]) ?_ rfl ?_
  ·rw[results_cell_tmp rfl];simp[asAddr,run_loadVar_row _ w.heap.size 81 81 (jB x (.slice aa x.au.length ca) (.slice ax x.aD.length cx)) (0,0) _ (setRow_heap _ _ _ _ _ _ Hz.q) Tryz.underlying81 rfl xJ]
  ·rw[Hn.q];exact⟨_,_,rfl,H1.q,H2.q,below_setRow aO (Qn _) _⟩
 ·have Hn:=Qh (WX e2);rw[e1]at Hf;clear e1 e2;go_enter Tryz.func111,Tryz.ntmps111
  go_wp2_with fail
  refine Hf.q.mono ?_;rintro e w1 ⟨rfl,aG⟩;have Hz:=Qh ((aG.block w.heap.size (by simp)).trans WZ.q);have aO:=((Qb w.heap.size w).alloc (Qn _) (.cells bF 81)).trans (aG.mono (by simp));clear aG;have hzo:bF.all (·.oneCell')=true:=by simp[Value.oneCell']
  go_wp2_with (refine wpList_store_row rfl 81 _ _ rfl w.heap.size bF rfl rfl 81 bF Hz.q xJ rfl hzo ?_)
  try simp only[Exit.inBlock,Exit.then]
  refine bodyPost_ret (v:= .tuple #[.agg bF,.bool false]) ?_ rfl ?_
  ·rw[results_cell_tmp rfl];simp[asAddr,run_loadVar_row _ w.heap.size 81 81 bF (0,0) _ (setRow_heap _ _ _ _ _ _ Hz.q) Tryz.underlying81 rfl xJ]
  ·rw[Hn.q];exact⟨.slice none 0 0,.slice none 0 0,rfl,aY.nil _ _,aY.nil _ _,below_setRow aO (Qn _) _⟩
theorem W9(I:IH)(v:Value)(t:List aQ)(hv:aY bJ I v t)(p:af)(w:World)(hw:Ok I w):
 Calls Tryz.prog 84 #[v,S p] w fun e w'=>e= .returned (.int .i64 (bn t p))∧Below w.heap.size w w':=by
 have Hg:=Qh (WY I v t hv p w hw);obtain⟨ao,cap,rfl,dM,gV,_⟩:=id hv;clear hv;by_cases hp:p=[]
 ·obtain⟨p1,p2,p3,p4⟩:=Bp hp;have Hn:=Qh (show bn t p=0 by rw[bn,if_pos hp]);clear hp;generalize l7 t p=g at Hg;obtain⟨x,b⟩:=g;go_enter Tryz.func84,Tryz.ntmps84
  go_wp2_with fail
  refine Hg.q.mono ?_;rintro e w1 ⟨va,vx,rfl,h1,h2,aG⟩;obtain⟨aa,ca,rfl,_,_,_⟩:=id h1;obtain⟨ax,cx,rfl,_,_,_⟩:=id h2;clear h1 h2;go_wp2;go_ret;exact⟨dK Hn.q.symm,aG.alloc aG.size _⟩
 ·obtain⟨p1,p2,p3,p4⟩:=Bo hp;have Hn:=Qh (Xmk t p hp);clear hp;generalize l7 t p=g at Hn Hg;obtain⟨x,b⟩:=g;go_enter Tryz.func84,Tryz.ntmps84
  go_wp2_with fail
  refine Hg.q.mono ?_;rintro e w1 ⟨va,vx,rfl,h1,h2,aG⟩;obtain⟨aa,ca,rfl,_,_,_⟩:=id h1;obtain⟨ax,cx,rfl,_,_,_⟩:=id h2;clear h1 h2;cases b
  ·have rW:=Qh (show bn t p=9 by rw[Hn.q];rfl);go_wp2;go_ret;exact⟨dK rW.q.symm,aG.alloc aG.size _⟩
  ·by_cases hk:x.aj=2
   ·have k1:((x.aj:Int) !=2)=false:=by simpa using hk
    have rW:=Qh (show bn t p=0 by rw[Hn.q];simp[hk]);clear hk;go_wp2;go_ret;exact⟨dK rW.q.symm,aG.alloc aG.size _⟩
   ·have k1:((x.aj:Int) !=2)=true:=by simpa using hk
    have rW:=Qh (show bn t p=10 by rw[Hn.q];simp[hk]);clear hk;go_wp2;go_ret;exact⟨dK rW.q.symm,aG.alloc aG.size _⟩
def inT(k:Int):Bool:=decide (k=1) || decide (k=2) || decide (k=3)
theorem jr{k:Int}:inT k=true↔k=1∨k=2∨k=3:=by simp[inT,or_assoc]
theorem Qy(k:Int)(w:World):Calls Tryz.prog 79 #[.int .i64 k] w fun e w'=>e= .returned (.bool (inT k))∧w=w':=by
 by_cases h1:k=1
 ·have Hn:=Qh (show inT k=true from jr.2 (.inl h1));have f1:((k:Int)==1)=true:=by simpa using h1
  clear h1;go_enter Tryz.func79,Tryz.ntmps79
  go_wp2;go_ret;exact⟨iG Hn.q.symm,rfl⟩
 by_cases h2:k=2
 ·have Hn:=Qh (show inT k=true from jr.2 (.inr (.inl h2)));have f1:((k:Int)==1)=false:=by simpa using h1
  have f2:((k:Int)==2)=true:=by simpa using h2
  clear h1 h2;go_enter Tryz.func79,Tryz.ntmps79
  go_wp2;go_ret;exact⟨iG Hn.q.symm,rfl⟩
 by_cases h3:k=3
 ·have Hn:=Qh (show inT k=true from jr.2 (.inr (.inr h3)));have f1:((k:Int)==1)=false:=by simpa using h1
  have f2:((k:Int)==2)=false:=by simpa using h2
  have f3:((k:Int)==3)=true:=by simpa using h3
  clear h1 h2 h3;go_enter Tryz.func79,Tryz.ntmps79
  go_wp2;go_ret;exact⟨iG Hn.q.symm,rfl⟩
 have Hn:=Qh (show inT k=false by
  cases h:inT k with
  |false=>rfl
  |true=>rcases jr.1 h with h|h|h<;>contradiction)
 have f1:((k:Int)==1)=false:=by simpa using h1
 have f2:((k:Int)==2)=false:=by simpa using h2
 have f3:((k:Int)==3)=false:=by simpa using h3
 clear h1 h2 h3;go_enter Tryz.func79,Tryz.ntmps79
 go_wp2;go_ret;exact⟨iG Hn.q.symm,rfl⟩
def xK(t:List aQ):Prop:=∀x∈t,x.ag.length≤4294967280∧x.av.length≤4294967280
theorem Xhw(t:List aQ)(q:Option aQ)(x:aQ)(l:List aQ):dQ t q (x::l)=if aL x≠0 then aL x else if x.aj≠1∧x.aj≠2∧x.aj≠3 then 10 else if(q.any fun y=> !(ic (els y.ag) (els x.ag)))then 14 else if bn t (iT x.ag)≠0 then bn t (iT x.ag)else dQ t (some x) l:=rfl
theorem Xkf{x:aQ}(h:aL x=0):aR x.ag=0∧(x.ag≠[]∨5≤x.aj):=by
 rw[Nw]at h;split at h
 ·omega
 ·split at h
  ·contradiction
  ·rename_i h1 h2;refine⟨Classical.byContradiction h2,?_⟩;split at h
   ·omega
   ·rename_i h3;by_cases hp:x.ag=[]
    ·right;exact Int.not_lt.1 fun h4=>h3 ⟨hp,h4⟩
    ·exact .inl hp
theorem JQ:(Tryz.prog.info? 81).map (fun i=>(i.zero,i.size,i.bytes))=some (some (.agg #[.int .i64 0,.string ⟨#[]⟩,.slice none 0 0,.string ⟨#[]⟩,.int .i64 0,.string ⟨#[]⟩,.slice none 0 0]),7,112):=by kernel_rfl
theorem AJ(I:IH)(v:Value)(l:List _)(hv:aY bJ I v l)(w:World)(hw:Ok I w)(eU:l.length*112≤140737488355328):
 Calls Tryz.prog 69 #[v] w fun e w'=> ∃v',e= .returned v'∧aN bJ 81 I w' w.heap.size v' l∧Below w.heap.size w w':=by
 obtain⟨i0,hi,nN,lM,oW⟩:=info_parts JQ;have q22:∀(w:World) (a:Option Addr) (n c n' c':Nat),(binOp .eql 37 (.slice a n c) (.slice none n' c')).run Tryz.prog w= .ok (.bool a.isNone) w:=fun w a n c n' c'=>Lib.run_eql_slice_nil w _ _ a n c n' c' Tryz.underlying37;obtain⟨ao,cap,xs,rfl,dM,gV,hL,hx⟩:=hv.cells hw (by decide);have HL:=Qh hL;have Hx:=Qh hx;clear hL hx hv;cases ao with
 |none=>
  have h0:l.length=0:=by
   rcases Nat.eq_zero_or_pos l.length with h|h
   ·exact h
   ·obtain⟨b,off,arr,e,_⟩:=Hx.q h;cases e
  have:l=[]:=List.eq_nil_of_length_eq_zero h0;subst this;go_enter Tryz.func69,Tryz.ntmps69
  go_wp2;go_ret;exact⟨_,rfl,aN.nil _ _ _ _ _,Qb _ _⟩
 |some a=>
  go_enter Tryz.func69,Tryz.ntmps69
  go_wp2_with (at_builtin;refine wpList_append_own _ rfl _ _ 37 rfl w.heap.size 81 i0 _ 7 112 Tryz.underlying37 hi nN lM oW rfl (by decide) _ _ _ rfl (World.ownsRow_made w #[] 0 (Qn _) (Nat.zero_le _) (by simp)) a l.length cap xs rfl ?qc1 ?qc2 ?qc3 ?qc4 ?qc5 ?qc6 ?_)
  case qc1=>exact HL.q.1
  case qc2=>
   intro j u hj;have hl:0<l.length:=by
    have:=(List.getElem?_eq_some_iff.1 hj).1;rw[HL.q.1]at this;rcases Nat.eq_zero_or_pos l.length with h|h
    ·rw[h]at this;omega
    ·exact h
   obtain⟨b,off,arr,e,_,hb,hc⟩:=Hx.q hl;cases e;rw[Addr.add_lit];rw[World.cell?_alloc_lt _ _ _ hb];exact hc j u hj
  case qc3=>exact HL.q.oneCell
  case qc4=>rw[Nat.zero_add];omega
  case qc5=>rw[Nat.zero_add];exact eU
  case qc6=>simp
  intro v' w1 bM jf _;go_wp2;go_ret;refine⟨v',rfl,⟨xs,(by have hq:=bM;first|exact hq|(simp at hq;exact hq)),HL.q⟩,?_⟩;exact((Qb _ w).alloc (Qn _) _).grown jf (by simp) (by intro k hk;simp[Value.ownBlock]at hk;omega)
theorem Xgh(I:IH)(B:Nat)(v:Value)(l:List _)(x:_)(vb:Nat)(news:List Value)(w:World)(hv:aN bJ 81 I w B v l)(hx:bJ.rd I news x)
 (je:∀j u,news[j]?=some u→w.cell? ⟨vb,j,none⟩=some u) (eU:(l.length+1)*112≤140737488355328) (hB:B≤w.heap.size):
 Calls Tryz.prog 88 #[v,.int .i64 l.length,.slice (some ⟨vb,0,none⟩) 1 1] w fun e w'=> ∃v',e= .returned v'∧aN bJ 81 I w' B v' (l++[x])∧w.grownBy w' v.ownBlock:=by
 obtain⟨i0,hi,nN,lM,oW⟩:=info_parts JQ;obtain⟨xs,bM,hL⟩:=hv;have HL:=Qh hL;have Hx:=Qh hx;have um:=Qh je;have uV:maxLen=9223372036854775807:=rfl;have hlen:l.length≤4611686018427387904:=by omega
 clear hL hx je;have nJ:v= .slice none 0 0∧l.length=0∨ ∃g cap,v= .slice (some ⟨g,0,none⟩) l.length cap∧l.length≤cap∧cap≤9223372036854775807:=by
  rcases bM.2 with h|⟨g,cap,cur,h1,_,_,h2,h3,_⟩
  ·exact .inl h
  ·exact .inr ⟨g,cap,h1,h2,by rw[uV]at h3;exact h3⟩
 have JF:=Qh uV;clear uV;rcases nJ with⟨rfl,h0⟩|⟨g,cap,rfl,dM,gV⟩
 ·have:l=[]:=List.eq_nil_of_length_eq_zero h0;subst this;go_enter Tryz.func88,Tryz.ntmps88
  go_wp2_with (at_builtin;refine wpList_append_own _ rfl _ _ 37 rfl B 81 i0 _ 7 112 Tryz.underlying37 hi nN lM oW rfl (by decide) _ _ _ rfl bM ⟨vb,0,none⟩ 1 1 news rfl ?qc1 ?qc2 ?qc3 ?qc4 ?qc5 ?qc6 ?_)
  case qc1=>exact bJ.len Hx.q
  case qc2=>intro j u hj;rw[Addr.add_lit,Nat.zero_add];exact um.q j u hj
  case qc3=>exact bJ.one Hx.q
  case qc4=>rw[JF.q];simp
  case qc5=>simp
  case qc6=>exact hB
  intro v' w1 gN jf _;go_wp2;go_ret;exact⟨v',rfl,⟨_,gN,bB.append HL.q (bB.one Hx.q)⟩,jf⟩
 ·go_enter Tryz.func88,Tryz.ntmps88
  go_wp2_with (at_builtin;refine wpList_append_own _ rfl _ _ 37 rfl B 81 i0 _ 7 112 Tryz.underlying37 hi nN lM oW rfl (by decide) _ _ _ rfl bM ⟨vb,0,none⟩ 1 1 news rfl (bJ.len Hx.q) (fun j u hj=>by rw[Addr.add_lit,Nat.zero_add];exact um.q j u hj) (bJ.one Hx.q) (by rw[JF.q];omega) eU hB ?_)
  all_goals
   intro v' w1 gN jf _;go_wp2;go_ret;exact⟨v',rfl,⟨_,by rw[List.length_append];exact gN,bB.append HL.q (bB.one Hx.q)⟩,jf⟩
theorem Xes(I:IH)(B g cap i:Nat)(l:List _)(x:_)(vb:Nat)(tb:TypeId)(news:List Value)(w:World)(hv:aN bJ 81 I w B (.slice (some ⟨g,0,none⟩) l.length cap) l)(hx:bJ.rd I news x)
 (kR:w.heap[vb]?=some (.cells news.toArray tb (0,0))) (aZ:vb≠g) (hi:i<l.length) (lY:l.length+1≤cap) (gV:cap≤9223372036854775807):
 Calls Tryz.prog 88 #[.slice (some ⟨g,0,none⟩) l.length cap,.int .i64 i,.slice (some ⟨vb,0,none⟩) 1 1] w fun e w'=> ∃v',e= .returned v'∧aN bJ 81 I w' B v' (l.take i++x::l.drop i)∧w.grownBy w' (some g):=by
 obtain⟨i0,CJ,nN,lM,oW⟩:=info_parts JQ;obtain⟨xs,⟨mI,bM⟩,hL⟩:=hv;rcases bM with⟨h0,_⟩|⟨g',cap',cur,h1,ym,hg,_,wu,fK,qo⟩
 ·cases h0
 injection h1 with qp UK Gj
 injection qp with qp
 injection qp with qp
 subst qp Gj;have cu:(Tryz.prog.info? 81).map (·.size)=some 7:=by rw[CJ];simp[lM]
 have sU:news.length=7:=bJ.len hx;have yQ:=bJ.one hx;have pu:xs.length=l.length*7:=mI;have iw:cur.size=cap*7:=fK;have jC:cur.toList.take xs.length=xs:=by rw[mI];exact qo
 have UL:∀lb cb,(callFunc 142 #[.slice (some ⟨vb,0,none⟩) 1 1,.slice (some ⟨g,(i+1)*7,none⟩) lb cb]).run Tryz.prog w= .ok (.value (.bool false)) w:=fun lb cb=>by
  rw[run_callFunc_extern Tryz.func142 (by kernel_rfl) (by kernel_rfl) (by kernel_rfl) (e:=Extern.SlicesOverlaps.overlaps #[37,37] #[4]) (by kernel_rfl),
   Lib.run_overlaps_apart w 37 4 81 Tryz.underlying37 7 (fun w=>by simp[go_sem]) ⟨vb,0,none⟩ ⟨g,(i+1)*7,none⟩ 1 1 lb cb aZ tb 81 7 cur.size (by simp[World.shape?,kR,sU]) (by simp[World.shape?,hg]) (by omega) (by simp[World.frozen?,kR]) (by simp[World.frozen?,kR])]
  rfl
 obtain⟨ik,mU⟩:∃c,c=over cur (i*7+7) (xs.drop (i*7)):=⟨_,rfl⟩;have xu:ik.size=cur.size:=by rw[mU];exact yx _ _ _ (by rw[List.length_drop];omega)
 obtain⟨nR,mV⟩:∃c,c=over ik (i*7) news:=⟨_,rfl⟩;have sQ:nR.size=ik.size:=by rw[mV];exact yx _ _ _ (by omega)
 have jG:nR.toList.take ((l.length+1)*7)=xs.take (i*7)++news++xs.drop (i*7):=by
  have:=insert_row cur xs news (i*7) 7 (by omega) jC sU (by omega);rw[←mU,←mV]at this;rw[show(l.length+1)*7=xs.length+7 by omega];exact this
 have ww:∀ty dc sc,(Builtin.copy_ #[37,37] ty #[.slice (some ⟨g,(i+1)*7,none⟩) (l.length-i) dc,.slice (some ⟨g,i*7,none⟩) (l.length+1-i) sc]).run Tryz.prog w.drew= .ok (goInt ((l.length-i:Nat):Int)) (w.drew.setRow g ik):=fun ty dc sc=>by
  have h:=AC (P:=Tryz.prog) w.drew 37 37 ty 81 7 g ((i+1)*7) (l.length-i) dc ⟨g,i*7,none⟩ (l.length+1-i) sc cur 81 (xs.drop (i*7)) Tryz.underlying37 cu hg (by rw[List.length_drop];simp only[Nat.min_def];split<;>omega)
   (fun j u hj=>by
     rw[Addr.add_lit];rw[List.getElem?_drop,←jC,List.getElem?_take]at hj;split at hj
     ·rw[World.cell?_drew,cell_of_row w g _ cur _ _ hg,←Array.getElem?_toList];exact hj
     ·cases hj) (by rw[List.length_drop];omega) (fun u hu=>hL.oneCell u (List.mem_of_mem_drop hu))
  rw[h,show Nat.min (l.length+1-i) (l.length-i)=l.length-i by simp only[Nat.min_def];split<;>omega,mU];rw[show(i+1)*7=i*7+7 by omega];rfl
 have Ah:(w.drew.setRow g ik).heap[g]?=some (.cells ik 81 (0,0)):=setRow_heap w.drew g cur ik _ _ hg;have wy:∀ty dc,(Builtin.copy_ #[37,37] ty #[.slice (some ⟨g,i*7,none⟩) (l.length+1-i) dc,.slice (some ⟨vb,0,none⟩) 1 1]).run Tryz.prog (w.drew.setRow g ik)= .ok (goInt 1) ((w.drew.setRow g ik).setRow g nR):=fun ty dc=>by
  have h:=AC (P:=Tryz.prog) (w.drew.setRow g ik) 37 37 ty 81 7 g (i*7) (l.length+1-i) dc ⟨vb,0,none⟩ 1 1 ik 81 news Tryz.underlying37 cu Ah (by rw[sU];simp only[Nat.min_def];split<;>omega)
   (fun j u hj=>by
     rw[Addr.add_lit,Nat.zero_add];have:(w.drew.setRow g ik).heap[vb]?=some (.cells news.toArray tb (0,0)):=by rw[setRow_other _ _ _ _ aZ];exact kR
     rw[cell_of_row _ vb j _ _ _ this];simpa using hj) (by omega) yQ
  rw[h,show Nat.min 1 (l.length+1-i)=1 by simp only[Nat.min_def];split<;>omega,mV];rfl
 have wz:=Qh (show(xs.take (i*7)++news++xs.drop (i*7)).length=(l.length+1)*7 by simp;omega);have za:=Qh (show nR.size=cap*7 by omega);have pz:=Qh jG;have HL:=Qh hL;have Hx:=Qh hx;have ze:=Qh Ah;have aG:¬(cap=i+1):=by omega
 have aP:¬(cap=i):=by omega
 clear jG hL hx Ah mU mV mI pu fK iw qo jC sU yQ kR wu hg;have Ei:IntKind.i64.wrap ((i:Int)+1)=(i:Int)+1:=IntWalk.i64_in _ (by omega);have Mo:0≤(i:Int)+1:=by omega
 have Ao:((i:Int)+1).toNat=i+1:=by omega
 have Mq:i≤l.length:=by omega
 have GY:(i:Int)≤(l.length:Int)+1:=by omega
 go_enter Tryz.func88,Tryz.ntmps88
 go_wp2_with (simp only[UL])
 go_region_law (refine step_copy_runI rfl _ _ 37 37 rfl _ _ (by simp[Act.eval,Act.put]) (by simp[Act.eval,Act.put]) (ww _ _ _) ?_)
 go_wp2_with (at_builtin;refine wpList_copy_runI _ rfl _ _ 37 37 rfl _ _ rfl rfl (wy _ _) ?_)
 go_ret;have CK:(l.take i++x::l.drop i).length=l.length+1:=by simp;omega
 refine⟨_,rfl,?_,?_⟩
 ·unfold aN;rw[CK];refine⟨xs.take (i*7)++news++xs.drop (i*7),⟨wz.q,.inr ⟨g,cap,nR,rfl,ym,setRow_heap _ g ik nR _ _ ze.q,by omega,by unfold maxLen;omega,za.q,pz.q⟩⟩,?_⟩;have:=((HL.q.take i).append (bB.one Hx.q)).append (HL.q.drop i);rwa[show l.take i++[x]++l.drop i=l.take i++x::l.drop i by simp]at this
 ·have h0:w.grownBy w.drew (some g):=⟨rfl,rfl,rfl,Qn _,fun _ _ _=>rfl⟩;exact GX (GX h0 vE) vE
theorem Xfx(I:IH)(B g cap i:Nat)(l:List _)(x:_)(vb:Nat)(tb:TypeId)(news:List Value)(w:World)(hv:aN bJ 81 I w B (.slice (some ⟨g,0,none⟩) l.length cap) l)(hx:bJ.rd I news x)
 (kR:w.heap[vb]?=some (.cells news.toArray tb (0,0))) (hi:i<l.length) (lY:cap<l.length+1) (eU:(l.length+1)*112≤140737488355328) (hB:B≤w.heap.size):
 Calls Tryz.prog 88 #[.slice (some ⟨g,0,none⟩) l.length cap,.int .i64 i,.slice (some ⟨vb,0,none⟩) 1 1] w fun e w'=> ∃v',e= .returned v'∧aN bJ 81 I w' B v' (l.take i++x::l.drop i)∧w.grownBy w' (some g):=by
 obtain⟨i0,CJ,nN,lM,oW⟩:=info_parts JQ;obtain⟨xs,⟨mI,bM⟩,hL⟩:=hv;rcases bM with⟨h0,_⟩|⟨g',cap',cur,h1,ym,hg,Bg,wu,fK,qo⟩
 ·cases h0
 injection h1 with qp UK Gj
 injection qp with qp
 injection qp with qp
 subst qp Gj;have cu:(Tryz.prog.info? 81).map (·.size)=some 7:=by rw[CJ];simp[lM]
 have sU:news.length=7:=bJ.len hx;have yQ:=bJ.one hx;have pu:xs.length=l.length*7:=mI;have iw:cur.size=cap*7:=fK;have jC:cur.toList.take xs.length=xs:=by rw[mI];exact qo
 have UM:g<w.heap.size:=(Qg hg);have UN:vb<w.heap.size:=(Qg kR);have mg:∀(j:Nat) u,xs[j]?=some u→w.cell? ⟨g,j,none⟩=some u:=fun j u hj=>by
  rw[←jC,List.getElem?_take]at hj;split at hj
  ·rw[cell_of_row w g _ cur _ _ hg,←Array.getElem?_toList];exact hj
  ·cases hj
 have hold:(Builtin.firstCells i0.size i (.slice (some ⟨g,0,none⟩) i cap)).run Tryz.prog w.drew= .ok (xs.take (i*7)).toArray w.drew:=
  run_firstCells_some w.drew i0.size i ⟨g,0,none⟩ i cap (xs.take (i*7)) (by rw[lM,List.length_take];omega) (fun j u hj=>by
   rw[Addr.add_lit,Nat.zero_add];rw[List.getElem?_take]at hj;split at hj
   ·exact mg j u hj
   ·cases hj)
 obtain⟨G,hG⟩:∃G,G=grownCap w (l.length+1) cap 81:=⟨_,rfl⟩;have UO:l.length+1≤G:=by rw[hG];exact grownCap_ge w _ _ _
 have UQ:G≤9223372036854775807:=by
  have:=grownCap_le_maxLen w (l.length+1) cap 81 (by unfold maxLen;omega);rw[←hG]at this;unfold maxLen at this;omega
 obtain⟨z,hz⟩:∃z,i0.zero=some z:=⟨_,nN⟩;have Mr:z.cells.size=7:=by rw[hz]at nN;cases nN;rfl
 obtain⟨ROW,sV⟩:∃ROW:Array Value,ROW=(xs.take (i*7)).toArray++Builtin.zeroCells z.cells (l.length+1-i)++Builtin.zeroCells z.cells (G-(l.length+1)):=⟨_,rfl⟩;have UR:ROW.size=G*7:=by
  rw[sV,Array.size_append,Array.size_append,size_zeroCells,size_zeroCells,Mr];simp;omega
 have JG:ROW.toList.take (i*7)=xs.take (i*7):=by
  rw[sV,Array.toList_append,Array.toList_append,List.append_assoc,List.take_append_of_le_length (by simp;omega),List.take_of_length_le (by simp;omega)]
 have Ms:∀ty,(Builtin.append_ #[37,3] ty #[.slice (some ⟨g,0,none⟩) i cap,.int .i64 ((l.length:Int)+1-(i:Int))]).run Tryz.prog w=
  .ok (.slice (some ⟨w.heap.size,0,none⟩) (l.length+1) G) (w.drew.alloc (.cells ROW 81)):=fun ty=>by
  have h:=Lib.run_append_grow_zeros w 37 3 ty 81 i0 z .i64 .i64 Tryz.underlying37 Tryz.underlying3 CJ hz (some ⟨g,0,none⟩) i cap (xs.take (i*7)) hold (l.length+1-i) (by omega) (by rw[lM];omega) (by omega) (by omega) (by rw[oW];omega) (by rw[oW,show i+(l.length+1-i)=l.length+1 by omega];exact growslice_fits lY eU);rw[show i+(l.length+1-i)=l.length+1 by omega,←hG,←sV]at h;rw[show(l.length:Int)+1-(i:Int)=((l.length+1-i:Nat):Int) by omega];exact h
 obtain⟨gB,kE⟩:∃c,c=over ROW (i*7) news:=⟨_,rfl⟩;have sQ:gB.size=ROW.size:=by rw[kE];exact yx _ _ _ (by omega)
 obtain⟨lD,lg⟩:∃c,c=over gB (i*7+7) (xs.drop (i*7)):=⟨_,rfl⟩;have IW:lD.size=gB.size:=by rw[lg];exact yx _ _ _ (by rw[List.length_drop];omega)
 have jG:lD.toList.take ((l.length+1)*7)=xs.take (i*7)++news++xs.drop (i*7):=by
  have:=Wz ROW xs news (i*7) 7 (by omega) JG sU (by omega);rw[←kE,←lg]at this;rw[show(l.length+1)*7=xs.length+7 by omega];exact this
 obtain⟨W1,lZ⟩:∃W1,W1=w.drew.alloc (.cells ROW 81):=⟨_,rfl⟩;have Gl:W1.heap[w.heap.size]?=some (.cells ROW 81 (0,0)):=by rw[lZ];exact heap_alloc_new w.drew _
 have Gm:∀b,b<w.heap.size→W1.heap[b]?=w.heap[b]? :=fun b hb=>by rw[lZ];exact Below.heap_alloc w.drew _ b hb
 rw[←lZ]at Ms;have Gn:∀ty dc,(Builtin.copy_ #[37,37] ty #[.slice (some ⟨w.heap.size,i*7,none⟩) (l.length+1-i) dc,.slice (some ⟨vb,0,none⟩) 1 1]).run Tryz.prog W1= .ok (goInt 1) (W1.setRow w.heap.size gB):=fun ty dc=>by
  have h:=AC (P:=Tryz.prog) W1 37 37 ty 81 7 w.heap.size (i*7) (l.length+1-i) dc ⟨vb,0,none⟩ 1 1 ROW 81 news Tryz.underlying37 cu Gl (by rw[sU];simp only[Nat.min_def];split<;>omega)
   (fun j u hj=>by
     rw[Addr.add_lit,Nat.zero_add,cell_of_row _ vb j _ _ _ ((Gm vb UN).trans kR)];simpa using hj) (by omega) yQ
  rw[h,show Nat.min 1 (l.length+1-i)=1 by simp only[Nat.min_def];split<;>omega,kE];rfl
 have EC:(W1.setRow w.heap.size gB).heap[w.heap.size]?=some (.cells gB 81 (0,0)):=setRow_heap W1 w.heap.size ROW gB _ _ Gl;have Gp:∀ty dc sc,(Builtin.copy_ #[37,37] ty #[.slice (some ⟨w.heap.size,(i+1)*7,none⟩) (l.length-i) dc,.slice (some ⟨g,i*7,none⟩) (l.length-i) sc]).run Tryz.prog (W1.setRow w.heap.size gB).drew= .ok (goInt ((l.length-i:Nat):Int)) ((W1.setRow w.heap.size gB).drew.setRow w.heap.size lD):=fun ty dc sc=>by
  have h:=AC (P:=Tryz.prog) (W1.setRow w.heap.size gB).drew 37 37 ty 81 7 w.heap.size ((i+1)*7) (l.length-i) dc ⟨g,i*7,none⟩ (l.length-i) sc gB 81 (xs.drop (i*7)) Tryz.underlying37 cu EC (by rw[List.length_drop];simp only[Nat.min_def];split<;>omega)
   (fun j u hj=>by
     rw[Addr.add_lit];rw[List.getElem?_drop]at hj;have UT:(W1.setRow w.heap.size gB).heap[g]?=some (.cells cur 81 (0,0)):=by rw[setRow_other _ _ _ _ (by omega),Gm g UM];exact hg
     rw[World.cell?_drew,cell_of_row _ g _ cur _ _ UT,←cell_of_row w g _ cur _ _ hg];exact mg _ u hj) (by rw[List.length_drop];omega) (fun u hu=>hL.oneCell u (List.mem_of_mem_drop hu))
  rw[h,show Nat.min (l.length-i) (l.length-i)=l.length-i by simp only[Nat.min_def];split<;>omega,lg];rw[show(i+1)*7=i*7+7 by omega];rfl
 have wz:=Qh (show(xs.take (i*7)++news++xs.drop (i*7)).length=(l.length+1)*7 by simp;omega);have za:=Qh (show lD.size=G*7 by omega);have pz:=Qh jG;have HL:=Qh hL;have Hx:=Qh hx;have Ql:=Qh EC;have UU:=Qh lZ;have aG:¬(G=i+1):=by omega
 have aP:¬(G=i):=by omega
 have fu:¬(cap=i):=by omega
 clear jG hL hx EC Gl kE lg sV UR JG mI pu fK iw qo jC sU yQ kR wu hg hold mg Gm lZ hG hz nN Mr sQ IW;have Ei:IntKind.i64.wrap ((i:Int)+1)=(i:Int)+1:=IntWalk.i64_in _ (by omega);have Mo:0≤(i:Int)+1:=by omega
 have Ao:((i:Int)+1).toNat=i+1:=by omega
 have Mq:i≤l.length:=by omega
 have GY:(i:Int)≤(l.length:Int)+1:=by omega
 go_enter Tryz.func88,Tryz.ntmps88
 go_wp2_with (first
  |(at_builtin;refine Lib.wpList_append_run _ rfl _ _ _ _ rfl _ _ rfl rfl _ _ (Ms _) ?_)
  |(at_builtin;refine wpList_copy_runI _ rfl _ _ 37 37 rfl _ _ rfl rfl (Gn _ _) ?_))
 go_region_law (refine step_copy_runI rfl _ _ 37 37 rfl _ _ (by simp[Act.eval,Act.put]) (by simp[Act.eval,Act.put]) (Gp _ _ _) ?_)
 go_wp2;go_ret;have CK:(l.take i++x::l.drop i).length=l.length+1:=by simp;omega
 refine⟨_,rfl,?_,?_⟩
 ·unfold aN;rw[CK];refine⟨xs.take (i*7)++news++xs.drop (i*7),⟨wz.q,.inr ⟨w.heap.size,G,lD,rfl,hB,setRow_heap _ w.heap.size gB lD _ _ Ql.q,UO,by unfold maxLen;omega,za.q,pz.q⟩⟩,?_⟩;have:=((HL.q.take i).append (bB.one Hx.q)).append (HL.q.drop i);rwa[show l.take i++[x]++l.drop i=l.take i++x::l.drop i by simp]at this
 ·rw[UU.q];exact⟨rfl,rfl,rfl,by simp,fun k hk _=>by
   rw[setRow_other _ _ _ _ (by omega)];show((w.drew.alloc (.cells ROW 81)).setRow w.heap.size gB).heap[k]?=_;rw[setRow_other _ _ _ _ (by omega)];exact Below.heap_alloc w.drew _ k hk⟩
theorem Xmh(I:IH)(B:Nat)(v:Value)(l:List _)(x:_)(vb i:Nat)(tb:TypeId)(news:List Value)(w:World)(hv:aN bJ 81 I w B v l)(hx:bJ.rd I news x)
 (kR:w.heap[vb]?=some (.cells news.toArray tb (0,0))) (aZ:v.ownBlock≠some vb) (hi:i≤l.length) (eU:(l.length+1)*112≤140737488355328) (hB:B≤w.heap.size):
 Calls Tryz.prog 88 #[v,.int .i64 i,.slice (some ⟨vb,0,none⟩) 1 1] w fun e w'=> ∃v',e= .returned v'∧aN bJ 81 I w' B v' (l.take i++x::l.drop i)∧w.grownBy w' v.ownBlock:=by
 by_cases he:i=l.length
 ·subst he;rw[List.take_length,List.drop_length];exact Xgh I B v l x vb news w hv hx (fun j u hj=>by rw[cell_of_row w vb j _ _ _ kR];simpa using hj) eU hB
 ·have nJ:∃g cap,v= .slice (some ⟨g,0,none⟩) l.length cap∧cap≤maxLen:=by
   obtain⟨xs,⟨_,bM⟩,_⟩:=hv;rcases bM with⟨_,h⟩|⟨g,cap,cur,h1,_,_,_,h3,_⟩
   ·omega
   ·exact⟨g,cap,h1,h3⟩
  obtain⟨g,cap,rfl,gV⟩:=nJ;by_cases hr:l.length+1≤cap
  ·exact Xes I B g cap i l x vb tb news w hv hx kR (fun e=>aZ (by rw[e];rfl)) (by omega) hr (by unfold maxLen at gV;omega)
  ·exact Xfx I B g cap i l x vb tb news w hv hx kR (by omega) (by omega) eU hB
