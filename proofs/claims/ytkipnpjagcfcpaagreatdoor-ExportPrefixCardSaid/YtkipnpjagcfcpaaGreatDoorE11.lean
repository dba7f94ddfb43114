/- Lemmas for the claim's theorem;conditions: as each says. -/
import Derived.Test.YtkipnpjagcfcpaaGreatDoorE10
set_option maxHeartbeats 0
set_option maxRecDepth 100000
set_option linter.all false
namespace Go.Proofs.YtkipnpjagcfcpaaGreatDoor
open Go.RowKit
variable{n m:Nat}{x:Unit}{nn:ae}{st:List ae}{num:Int}{e:aG}{fs:List Rec}{a d:Nat}{na nd hh:ae}{oe:Option Addr}{ce g o:Nat}{f:Rec}{ct u u1 u2 u3:ae}{F:List Rec}{q:Nat}{l:List aG}
abbrev rhL(m a d:Nat)(na nd ad nn hh:ae)(oe:Option Addr)(n ce:Nat)(x:Unit):List (Option Tmp×Value):=
 [(some 19,.pointer (some ⟨m,0,none⟩)),(some 20,.int .i64 (a:Int)),(some 21,S na),(some 22,.pointer (some ⟨m,1,none⟩)),(some 23,.int .i64 (d:Int)),(some 24,S nd),(some 25,S ad),(some 26,.pointer (some ⟨m,3,none⟩)),(some 27,.slice oe n ce),(some 28,.int .i64 (n:Int)),(some 29,S nn),(some 30,S hh),(some 31,.tuple #[.int .i64 (hh.length:Int),.nilIface])]
theorem LQ{ad:ae}:bL (rhL m a d na nd ad nn hh oe n ce x):=by
 unfold bL;simp
abbrev rfL(g o n c:Nat)(ax:Option Addr)(f:Rec)(fa:Option Addr)(la fk:Nat)(fx:Option Addr)(lx fy:Nat)(x:Unit):List (Option Tmp×Value):=
 [(some 61,.slice (some ⟨g,o,none⟩) n c),(some 62,.pointer (some ⟨g,o,none⟩)),(some 63,Iw f (.slice fa la fk) (.slice fx lx fy)),(some 64,.slice (some ⟨g,o,none⟩) n c),(some 65,.slice ax (n-1) (c-1)),(none,undef),(some 6,.slice ax (n-1) (c-1))]
theorem UU{c:Nat}{ax:Option Addr}{fa:Option Addr}{la fk:Nat}{fx:Option Addr}{lx fy:Nat}:bL (rfL g o n c ax f fa la fk fx lx fy x):=by
 unfold bL;simp
abbrev rcL(m:Nat)(ct nn pn hh:ae)(n:Nat)(x:Unit):List (Option Tmp×Value):=
 [(some 70,.pointer (some ⟨m,8,none⟩)),(some 71,S ct),(some 72,.int .i64 (n:Int)),(some 73,S nn),(some 74,S pn),(some 75,.pointer (some ⟨m,8,none⟩)),(some 76,S ct),(some 77,S hh),(some 78,.tuple #[.int .i64 (hh.length:Int),.nilIface])]
theorem Rw{pn:ae}:bL (rcL m ct nn pn hh n x):=by
 unfold bL;simp
structure sO (w:World) (b:Nat) (vs vf:Value) (l:ae) (W:World):Prop where
 dE:Below w.heap.size w W
 bd:IG b l W
 rb:W.heap[w.heap.size]?=some (.cells #[vs,vf] 28 (0,0))
 ge:w.heap.size<b
section
variable {w W W':World} {b:Nat} {vs vf:Value} {l l':ae}
theorem sO.aA(h:sO w b vs vf l W)(hb:Below W.heap.size W W'):sO w b vs vf l W':=⟨h.dE.trans (hb.mono h.dE.size),h.bd.aA hb,jg h.rb hb,h.ge⟩
theorem sO.past(h:sO w b vs vf l W)(o:Obj):sO w b vs vf l (W.alloc o):=h.aA ((Qb _ _).alloc (Qn _) o)
theorem sO.put(h:sO w b vs vf l W)(hb:IG b l' W')(hk:Wk b W W'):sO w b vs vf l' W':=⟨h.dE.trans (hk.dE.mono (Nat.le_of_lt h.ge)),hb,hk.row h.rb (Nat.ne_of_lt h.ge) (by decide),h.ge⟩
end
theorem Xrz(F:List Rec)(x:bR):kP F x=(aY x.num++aY x.aN++aY x.ay.length)++fu (di F x.num) x.ay:=by unfold kP;rfl
theorem Ze{x:aG}(hx:kT x)(hf:∀f∈fs,f.aU.length≤65560):(nE fs x).length≤70000∧(aS (dD x)).length≤2720:=by
 have h1:=KS hx;have h2:=pY (dD x) (by omega);have h3:=qP 0 (by omega);refine⟨?_,by omega⟩;unfold nE;rw[List.length_append];split
 ·simp at h3 ⊢;omega
 ·unfold yU;split
  ·simp;omega
  ·rename_i f fs';have h4:=hf f (by simp);have h5:=qP f.aU.length (by omega);split
   ·simp;omega
   ·simp;omega
theorem UW(I:IH)(hI:dQ I)(vs vf:Value)(L:List bR)(F:List Rec)(lS:bf lL I vs L)(wu:bf nY I vf F)(hg:∀x∈L,jA x)(hn:L.length≤1000)(hN:∀x∈L,EQ x)(hE:∀x∈L,∀e∈x.ay,az e=0)(hF:F.length≤1000000)(hC:∀f∈F,f.aU.length≤65560)(w:World)(hw:Ok I w):
 Calls Tryz.prog 9 #[EI vs vf] w fun r w'=>r= .returned (S (pQ ⟨L,F⟩))∧Below w.heap.size w w':=by
 have Zf:=Qh (fun n w hw=>Xoq I vs vf L F lS wu hF n w hw);have Hv:=Qh lS;have Hg:=Qh hg;have HN:=Qh hN;have HE:=Qh hE;have HC:=Qh hC;have ES:=Qh (fun(n:Nat) (hn:n≤140737488355200) w hw=>NJ I hI n hn w hw);obtain⟨so,sc,rfl,_,_,_⟩:=id lS;obtain⟨fo,fc,rfl,_,_,_⟩:=id wu;unfold pQ;dsimp only;obtain⟨N,ET⟩:∃N,L.flatMap (kP F)=N:=⟨_,rfl⟩;rw[ET];have lH:=Qh (show N=[]++(L.drop 0).flatMap (kP F)from by rw[←ET];rfl);have bY:(w.alloc (.cells #[.slice so L.length sc,.slice fo F.length fc] 28)).heap.size=w.heap.size+1:=by simp
 have M0:=Qh (show sO w (w.heap.size+1) (.slice so L.length sc) (.slice fo F.length fc) [] ((w.alloc (.cells #[.slice so L.length sc,.slice fo F.length fc] 28)).alloc (.cells #[.pointer none,.slice none 0 0] 71))from
  ⟨((Qb _ _).alloc (Qn _) _).alloc (by simp) _,⟨bY▸Lib.IsBuilderF.of (Xuh _),by simp⟩,
    (Below.heap_alloc _ _ _ (by simp)).trans (heap_alloc_new w _),by omega⟩)
 clear lS wu hg hN hE hC ET bY;obtain⟨b,hb⟩:∃b,w.heap.size+1=b:=⟨_,rfl⟩;go_enter Tryz.func9,Tryz.ntmps9
 go_wp2_with fail
 rw[hb]at M0;clear hb;go_loopw [5,6,15] (fun _ _ s15 wr=> ∃(k:Nat) (u:ae),k≤L.length∧s15= .int .i64 k∧N=u++(L.drop k).flatMap (kP F)∧u.length≤3000000*k∧sO w b (.slice so L.length sc) (.slice fo F.length fc) u wr) (fun _ _ i _=>L.length-(intOf i).toNat)
 case atStart=>exact⟨0,[],Nat.zero_le _,rfl,lH.O,by simp,M0.O⟩
 case round=>
  clear M0 lH;obtain⟨k,u,hk,rfl,hr,GX,hM⟩:=hrel;have Hr:=Qh hr;have M:=Qh hM;clear hr hM;have dA:Ok I wr:=hw.below (Qn _) M.O.dE;by_cases hlt:k<L.length
  ·obtain⟨x,ve,bb,off,cap',bH,dn,⟨c0,c1,c2,c3,c4,c5⟩,h1⟩:=Dl Hv.O dA k hlt;cases dn;obtain⟨oe,ce,rfl,_,_,_⟩:=id h1;have qY:x∈L:=by rw[←bH];exact List.getElem_mem hlt
   have Hx:=Qh (Hg.O x qY);have Zg:=Qh (HE.O x qY);have JN:=Hx.O.mi;obtain⟨a,ha⟩:=Int.eq_ofNat_of_zero_le (HN.O x qY).n0;obtain⟨d,hd⟩:=Int.eq_ofNat_of_zero_le (HN.O x qY).d0;have xL:=(HN.O x qY).n1;have ll:=(HN.O x qY).d1;have bB:=Qh (show N=u++(((aY a++aY d++aY x.ay.length)++fu (di F a) x.ay)++(L.drop (k+1)).flatMap (kP F)) by rw[Hr.O,Xpb hlt bH,Xrz,ha,hd]);have LU:=Qh (ES.O a (by omega));have Nb:=Qh (ES.O d (by omega));have LV:=Qh (ES.O x.ay.length (by omega));have Su:=qP a (by omega);have hld:=qP d (by omega);have BJ:=qP x.ay.length (by omega);have vK:=Qh h1;have Zh:Ok I (wr.alloc (.cells #[.int .i64 x.num,.int .i64 x.aN,S x.aW,.slice oe x.ay.length ce,S x.aH,S x.sl] 62)):=dA.alloc _;have M1:=Qh (M.O.past (.cells #[.int .i64 x.num,.int .i64 x.aN,S x.aW,.slice oe x.ay.length ce,S x.aH,S x.sl] 62));have SR:=Qh (heap_alloc_new wr (.cells #[.int .i64 x.num,.int .i64 x.aN,S x.aW,.slice oe x.ay.length ce,S x.aH,S x.sl] 62));have hmb:b<wr.heap.size:=M.O.bd.lt;obtain⟨m,hm⟩:∃m,wr.heap.size=m:=⟨_,rfl⟩;obtain⟨W5,Bo⟩:∃W5,wr.alloc (.cells #[.int .i64 x.num,.int .i64 x.aN,S x.aW,.slice oe x.ay.length ce,S x.aH,S x.sl] 62)=W5:=⟨_,rfl⟩;have Rx:=Qh Bo;rw[Bo]at M1 SR Zh;rw[hm]at SR hmb;rw[ha,hd]at SR;have HK:=Qh Zh;have HB:=Qh M1.O.bd;have Z0:=Qh (cell_of_row _ _ 0 _ _ _ SR.O |>.trans rfl);have Z1:=Qh (cell_of_row _ _ 1 _ _ _ SR.O |>.trans rfl);have Z3:=Qh (cell_of_row _ _ 3 _ _ _ SR.O |>.trans rfl);clear qY bH h1 M Hr Zh Bo;obtain⟨na,Fy⟩:∃na,aY (a:Int)=na:=⟨_,rfl⟩;obtain⟨nd,Nc⟩:∃nd,aY (d:Int)=nd:=⟨_,rfl⟩;obtain⟨nn,zH⟩:∃nn,aY (x.ay.length:Int)=nn:=⟨_,rfl⟩;rw[Fy]at LU Su;rw[Nc]at Nb hld;rw[zH]at LV BJ;rw[Fy,Nc,zH]at bB;obtain⟨ad,OD⟩:∃ad,na++nd=ad:=⟨_,rfl⟩;obtain⟨hh,Ry⟩:∃hh,ad++nn=hh:=⟨_,rfl⟩;have nM:ad.length=na.length+nd.length:=by rw[←OD,List.length_append]
   have Cx:hh.length=ad.length+nn.length:=by rw[←Ry,List.length_append]
   rw[OD,Ry]at bB;have d1:¬9223372036854775807<na.length+nd.length:=by omega
   have d2:¬9223372036854775807<ad.length+nn.length:=by omega
   clear Fy Nc zH;clear ha hd xL ll;go_wp2_with fail
   rw[show(wr.alloc (.cells #[.int .i64 x.num,.int .i64 x.aN,S x.aW,.slice oe x.ay.length ce,S x.aH,S x.sl] 62))=W5 from Rx.O];replace c0:=Z0.O;replace c1:=Z1.O;replace c3:=Z3.O;clear c2 c4 c5 Z0 Z1 Z3;refine uW (X:=Unit) (rhL m a d na nd ad nn hh oe x.ay.length ce) (pR W5 12 (fun w'=>IG b (u++hh) w'∧Wk b W5 w')) (by kernel_rfl) (by kernel_rfl) ?_ ?_ ?_
   ·exact⟨(),pR.start _ _⟩
   ·rintro x' s' a' w' i eU gI ha hC hi;obtain⟨aV,oi,eX,aB⟩:=mem_ready.1 hi;have ev:=zC LQ ha;rcases i with _|_|_|_|_|_|_|_|_|_|_|_|_|i
    rotate_left 13
    ·simp at eX
    all_goals
     have fZ:=eX;simp at eX;subst eX;simp[Region.binds]at aB;try have hl:=xW 8 12 gI (by decide+kernel) aV
     try have dH:=hC.off hl
     try have c0:=dh dH c0
     try have c1:=dh dH c1
     try have c3:=dh dH c3
     refine wpOp_step fZ (fun K' hK=> ?_);first|rw[if_pos (by rfl)]
    rotate_left 2
    ·unfold Oper.wp;simp[go_sem,ev,fG,aB,Oper.upon];refine(LU.O w' (HK.O.below (Qn _) dH)).mono ?_;rintro r4 w4 ⟨rfl,aM⟩;exact hK _ _ ⟨(),iF LQ ha rfl aV,hC.call (by decide) hl (dH.trans (aM.mono dH.size))⟩
    rotate_left 2
    ·unfold Oper.wp;simp[go_sem,ev,fG,aB,Oper.upon];refine(Nb.O w' (HK.O.below (Qn _) dH)).mono ?_;rintro r4 w4 ⟨rfl,aM⟩;exact hK _ _ ⟨(),iF LQ ha rfl aV,hC.call (by decide) hl (dH.trans (aM.mono dH.size))⟩
    rotate_left 4
    ·unfold Oper.wp;simp[go_sem,ev,fG,aB,Oper.upon];refine(LV.O w' (HK.O.below (Qn _) dH)).mono ?_;rintro r4 w4 ⟨rfl,aM⟩;exact hK _ _ ⟨(),iF LQ ha rfl aV,hC.call (by decide) hl (dH.trans (aM.mono dH.size))⟩
    rotate_left 1
    ·unfold Oper.wp;simp[go_sem,ev,fG,aB,Oper.upon];refine(Oy b u hh w' (HB.O.aA dH) (by omega)).mono ?_;rintro r4 w4 ⟨rfl,hd4,zi⟩;exact hK _ _ ⟨(),iF LQ ha rfl aV,pR.last ⟨hd4,(Wk.of dH (Nat.le_of_lt HB.O.lt)).trans zi⟩ (yI aV)⟩
    all_goals
     unfold Oper.wp;first
     |(simp[go_sem,ev,fG,aB,Oper.upon,c0,c1,c3,d1,OD,d2,Ry];exact hK _ _ ⟨(),iF LQ ha rfl aV,hC.pure (by decide)⟩)
     |(simp[go_sem,ev,fG,Oper.upon,c0,c1,c3,d1,OD,d2,Ry];exact hK _ _ ⟨(),iF LQ ha rfl aV,hC.pure (by decide)⟩)
   ·rintro x' s' a' wE gH ha hC;have hP:=hC.on (gH 12 (by decide));rw[vB _ _ _ _ (fun i hi=>by rw[Nat.zero_add];exact gH i (by simpa using hi))]at ha;subst ha;simp only[dZ,Act.put,List.setIfInBounds_toArray,List.set_cons_succ,List.set_cons_zero];obtain⟨sJ,Sw⟩:=hP;have M5:=Qh (M1.O.put sJ Sw);have Zi:=Sw.row SR.O (by omega) (by decide);have wm:b<wE.heap.size:=sJ.lt;obtain⟨fs,Ka⟩:∃fs,di F (a:Int)=fs:=⟨_,rfl⟩;have Zj:=Qh (show ∀f∈fs,f.aU.length≤65560 from fun f hf=>HC.O f (Xix (Ka▸hf)));have Ho6:=Qh (Zf.O (a:Int));rw[Ka]at bB Ho6;clear c0 c1 c3;have c0:=(cell_of_row _ _ 0 _ _ _ Zi).trans rfl;have C3:=Qh (cell_of_row _ _ 3 _ _ _ Zi |>.trans rfl);have r0:=(cell_of_row _ _ 0 _ _ _ M5.O.rb).trans rfl;have r1:=(cell_of_row _ _ 1 _ _ _ M5.O.rb).trans rfl;have c3:=C3.O;clear gH hC M1 SR Zi HK HB sJ Sw LU Nb LV Ka Rx d1 d2 hmb hm OD Ry;go_wp2_with fail
    refine(Ho6.O _ (hw.below (Qn _) M5.O.dE)).mono ?_;rintro e6 w6 ⟨v0,rfl,bE,gp⟩;obtain⟨a0,k0,rfl⟩:=FU bE;have M6:=Qh (M5.O.aA gp);have O6:=Qh bE;have FV0:=Qh (FV.start (v0:= .slice a0 fs.length k0) (fs:=fs) rfl);have Rz:=Qh (show fu fs x.ay=[]++fu (fs.drop 0) (x.ay.drop 0)from rfl);replace c3:=dh gp C3.O;clear M5 bE gp r0 r1 c0 C3;generalize wE.heap.size=B at wm O6;go_wp2_with fail
    go_loopw [6,8,11,39] (fun s6 _ _ YX wr=> ∃(j q:Nat) (pre:ae),j≤x.ay.length∧YX= .int .i64 j∧FV (.slice a0 fs.length k0) fs q s6∧fu fs x.ay=pre++fu (fs.drop q) (x.ay.drop j)∧pre.length≤70000*j∧sO w b (.slice (some ⟨bb,off,none⟩) L.length sc) (.slice fo F.length fc) (u++hh++pre) wr∧aP nY 38 I wr B (.slice a0 fs.length k0) fs) (fun _ _ _ i _=>x.ay.length-(intOf i).toNat)
    case atStart=>exact⟨0,0,[],Nat.zero_le _,rfl,FV0.O,Rz.O,by simp,(by rw[List.append_nil];exact M6.O),O6.O⟩
    case round=>
     clear M6 O6 FV0 Rz c3;obtain⟨j,q,pre,hj,rfl,Zk,hr,nH,hM,bE⟩:=hrel;have Hr:=Qh hr;have M:=Qh hM;have O:=Qh bE;obtain⟨a6,k6,rfl,hF6⟩:=id Zk;have Zl:=Qh hF6;have RA:=Qh Zk;clear hr hM bE hF6 Zk;have dA:Ok I wr:=hw.below (Qn _) M.O.dE;by_cases tq:j<x.ay.length
     ·obtain⟨y,wa,wx,g,go',gc,iH,Tc,⟨y0,y1,y2,y3,y4,y5,y6⟩,h2,h3⟩:=qi vK.O dA j tq;cases Tc;have RD:=Qh (Zg.O y (by rw[←iH];exact List.getElem_mem tq));have Hy:=Qh (Bn RD.O);have Vg:=Hy.O.af;have hy2:=Hy.O.target;have Cx:=KS Hy.O;have II:=Qh (show ∀f∈fs.drop q,f.aU.length≤65560 from fun f hf=>Zj.O f (List.mem_of_mem_drop hf));have nI:=Ze Hy.O II.O;have iy:=Qh (show fu fs x.ay=pre++(nE (fs.drop q) y++fu (kU (fs.drop q) y) (x.ay.drop (j+1))) by rw[Hr.O,Xj6 tq iH]);have Bp:=Qh (fun w hw=>Xtx I hI y wa wx h2 h3 Hy.O.wf (by omega) (by omega) Hy.O RD.O w hw);have IE:=Qh (fun w hw=>NI I hI (dD y) (by omega) w hw);obtain⟨ya,yc,rfl,_,_,_⟩:=id h2;obtain⟨yx,yd,rfl,_,_,_⟩:=id h3;have M1:=Qh (M.O.past (.cells #[.int .i64 y.ai,S y.af,.slice ya y.ag.length yc,S y.target,.int .i64 y.size,S y.aj,.slice yx y.ak.length yd] 35));have O1:=Qh (O.O.alloc (.cells #[.int .i64 y.ai,S y.af,.slice ya y.ag.length yc,S y.target,.int .i64 y.size,S y.aj,.slice yx y.ak.length yd] 35));have ER:=Qh (heap_alloc_new wr (.cells #[.int .i64 y.ai,S y.af,.slice ya y.ag.length yc,S y.target,.int .i64 y.size,S y.aj,.slice yx y.ak.length yd] 35));have hbm:b<wr.heap.size:=M.O.bd.lt;obtain⟨eb,mY⟩:∃eb,wr.heap.size=eb:=⟨_,rfl⟩;rw[mY]at ER hbm;have EB:=Qh (cB (W:=wr) (e:=y) (va:= .slice ya y.ag.length yc) (vx:= .slice yx y.ak.length yd) (t:=35) rfl (Qb _ _));rw[mY]at EB;have UX:=Qh mY;clear iH h2 h3 M O Hr mY;go_upto_region 10 with fail
      rw[UX.O];clear y0 y1 y2 y3 y4 y5 y6;obtain⟨y0,y1,y2,y3,y4,y5,y6⟩:=EB.O;go_wp2_with fail
      refine(Bp.O _ (hw.below (Qn _) M1.O.dE)).mono ?_;rintro e7 w7 ⟨rfl,jC⟩;have M7:=Qh (M1.O.aA jC);have O7:=Qh (O1.O.below jC);have E7:=Qh (jg ER.O jC);clear M1 O1 ER EB jC y0 y1 y2 y3 y4 y5 y6 Bp;go_wp2_with fail
      refine(IE.O _ (hw.below (Qn _) M7.O.dE)).mono ?_;rintro e8 w8 ⟨rfl,oN⟩;have M8:=Qh (M7.O.aA oN);have O8:=Qh (O7.O.below oN);have E8:=Qh (jg E7.O oN);clear M7 O7 E7 oN IE;obtain⟨hp,JO⟩:∃hp,aS (dD y)=hp:=⟨_,rfl⟩;rw[JO]at nI;have CE:=Qh JO;rw[JO];clear JO;go_wp2_with fail
      refine(Oy _ (u++hh++pre) hp _ M8.O.bd (by simp;omega)).mono ?_;rintro e9 w9 ⟨rfl,y9,JP⟩;have M9:=Qh (M8.O.put y9 JP);have O9:=Qh (JP.own O8.O wm (by decide));have E9:=Qh (JP.row E8.O (by omega) (by decide));have y0:=(cell_of_row _ _ 0 _ _ _ E9.O).trans rfl;clear M8 O8 E8 y9 JP;by_cases mo:y.ai=1
      ·have k1:(y.ai !=1)=false:=by rw[mo];rfl
       by_cases hq:q<fs.length
       ·obtain⟨J,fJ,Uk,vH,JJ,_⟩:=O9.O.xC (hw.below (Qn _) M9.O.dE) (fun g hg=>hw.fresh (by have:=(EJ O9.O hg).1;have:=M9.O.ge;omega));have SV:=Zl.O J JJ;have C9:0<(fs.drop q).length:=by rw[List.length_drop];omega
        obtain⟨f,va,vx,g2,Zm,cp2,hf0,dn,HX,h2,h3⟩:=recAt SV vH 0 C9;cases dn;rw[Nat.zero_mul,Nat.add_zero]at HX;obtain⟨fa,fk,rfl,_,_,_⟩:=id h2;obtain⟨fx,fy,rfl,_,_,_⟩:=id h3;have yl:fs.drop q=f::fs.drop (q+1):=by
         rw[List.drop_eq_getElem_cons hq];congr 1;rw[←hf0];simp
        have Hdc:=Qh yl;rw[yl]at nI iy;have Td:=II.O f (by rw[yl];simp);obtain⟨n6,FX⟩:∃n6,fs.length-q=n6:=⟨_,rfl⟩;have CU:n6≤k6:=by
         obtain⟨_,_,hv,CR,_⟩:=id SV;cases hv;rw[←FX,←List.length_drop];exact CR
        obtain⟨ax,BK⟩:∃ax,(if k6=1 then some (⟨g2,Zm,none⟩:Addr)else some ⟨g2,Zm+10,none⟩)=ax:=⟨_,rfl⟩;have LW:=Qh (RA.O.next hq (by rw[List.length_drop,FX];exact CU) BK);rw[List.length_drop,FX]at C9 LW;rw[FX];have p0:decide (0<(n6:Int))=true:=Qt (by omega);have HR:=Qh (heap_alloc_new w9 (.cells #[.int .i64 0,.int .i64 0,.string ⟨#[]⟩,.slice none 0 0,.string ⟨#[]⟩,.int .i64 0,.string ⟨#[]⟩,.slice none 0 0,.string ⟨#[]⟩,.int .i64 19] 38));have Qy:=HX.past (.cells #[.int .i64 0,.int .i64 0,.string ⟨#[]⟩,.slice none 0 0,.string ⟨#[]⟩,.int .i64 0,.string ⟨#[]⟩,.slice none 0 0,.string ⟨#[]⟩,.int .i64 19] 38);have vW:Below w9.heap.size w9 (w9.alloc (.cells #[.int .i64 0,.int .i64 0,.string ⟨#[]⟩,.slice none 0 0,.string ⟨#[]⟩,.int .i64 0,.string ⟨#[]⟩,.slice none 0 0,.string ⟨#[]⟩,.int .i64 19] 38)):=(Qb _ _).alloc (Qn _) _;obtain⟨W9,Gm⟩:∃W9,w9.alloc (.cells #[.int .i64 0,.int .i64 0,.string ⟨#[]⟩,.slice none 0 0,.string ⟨#[]⟩,.int .i64 0,.string ⟨#[]⟩,.slice none 0 0,.string ⟨#[]⟩,.int .i64 19] 38)=W9:=⟨_,rfl⟩;have RF:=Qh Gm;obtain⟨rb,FJ⟩:∃rb,w9.heap.size=rb:=⟨_,rfl⟩;have RG:=Qh FJ;rw[Gm]at HR Qy vW;rw[FJ]at HR;obtain⟨e0,e1,e2,e3,e4,e5,e6,e7,e8,e9⟩:=Qy;have p1:1≤n6:=C9;have p2:n6≤k6:=CU;have p3:(1:Int)≤(n6:Int):=by omega
        have p4:(n6:Int)≤(k6:Int):=by omega
        clear fJ Uk vH JJ SV hf0 HX h2 h3 Zl RA FX yl II E9 Gm FJ CU;go_wp2_with fail
        rw[show w9.alloc (.cells #[.int .i64 0,.int .i64 0,.string ⟨#[]⟩,.slice none 0 0,.string ⟨#[]⟩,.int .i64 0,.string ⟨#[]⟩,.slice none 0 0,.string ⟨#[]⟩,.int .i64 19] 38)=W9 from RF.O];rw[show w9.heap.size=rb from RG.O];refine uW (X:=Unit) (rfL g2 Zm n6 k6 ax f fa f.dm.ag.length fk fx f.dm.ak.length fy) (pR W9 5 (fun w'=> ∃wb,Below (W9).heap.size (W9) wb∧w'=wb.setRow (rb) (rF f (.slice fa f.dm.ag.length fk) (.slice fx f.dm.ak.length fy)))) (by kernel_rfl) (by kernel_rfl) ?_ ?_ ?_
        ·exact⟨(),pR.start _ _⟩
        ·rintro x' s' a' w' i eU gI ha hC hi;obtain⟨aV,oi,eX,aB⟩:=mem_ready.1 hi;have ev:=zC UU ha;rcases i with _|_|_|_|_|_|_|i
         rotate_left 7
         ·simp at eX
         all_goals
          have fZ:=eX;simp at eX;subst eX;simp[Region.binds]at aB;try have hl:=xW 8 5 gI (by decide+kernel) aV
          try have dH:=hC.off hl
          try have e0:=dh dH e0
          try have e1:=dh dH e1
          try have e2:=dh dH e2
          try have e3:=dh dH e3
          try have e4:=dh dH e4
          try have e5:=dh dH e5
          try have e6:=dh dH e6
          try have e7:=dh dH e7
          try have e8:=dh dH e8
          try have e9:=dh dH e9
          try have hs6:=xW 8 6 gI (by decide+kernel) aV
          try rw[Array.getD_eq_getD_getElem?]at hs6
          refine wpOp_step fZ (fun K' hK=> ?_);first|rw[if_pos (by rfl)]
         rotate_left 5
         ·have bI:w'.heap[rb]?=some (.cells _ 38 (0,0)):=jg HR.O dH;refine GZ 38 _ _ rfl (rb) 0 (uH f (.slice fa f.dm.ag.length fk) (.slice fx f.dm.ak.length fy)) (Iw f (.slice fa f.dm.ag.length fk) (.slice fx f.dm.ak.length fy)) (by simp[Act.eval,ev,fG,aB]) (by simp[Act.eval,ev,fG,aB]) (by rfl) _ _ bI (by simp) (by kernel_rfl) (by simp[Value.oneCell']) ?_;exact hK _ _ ⟨(),j6 (d:=none) (v:=undef) UU ha rfl aV,pR.last ⟨w',dH,rfl⟩ (yI aV)⟩
         all_goals
          unfold Oper.wp;first
          |(simp[go_sem,ev,fG,aB,Oper.upon,e0,e1,e2,e3,e4,e5,e6,e7,e8,e9,p1,p2,p3,p0,C9,p4,BK,hs6];exact hK _ _ ⟨(),iF UU ha rfl aV,hC.pure (by decide)⟩)
          |(simp[go_sem,ev,fG,Oper.upon,e0,e1,e2,e3,e4,e5,e6,e7,e8,e9,p1,p2,p3,p0,C9,p4,BK,hs6];exact hK _ _ ⟨(),iF UU ha rfl aV,hC.pure (by decide)⟩)
        ·rintro x' s' a' wF gH ha hC;have hP:=hC.on (gH 5 (by decide));rw[vB _ _ _ _ (fun i hi=>by rw[Nat.zero_add];exact gH i (by simpa using hi))]at ha;subst ha;simp only[dZ,Act.put,List.setIfInBounds_toArray,List.set_cons_succ,List.set_cons_zero];obtain⟨wb,qh,hwF⟩:=hP;have Zn:Below w9.heap.size w9 wF:=by
          rw[hwF];exact below_setRow (vW.trans (qh.mono vW.size)) (by rw[RG.O];exact Qn _) _
         have RR:=Qh (show wF.heap[rb]?=some (.cells (rF f (.slice fa f.dm.ag.length fk) (.slice fx f.dm.ak.length fy)) 38 (0,0)) by rw[hwF];exact setRow_heap wb rb _ _ _ (0,0) (jg HR.O qh));have MF:=Qh (M9.O.aA Zn);have OF:=Qh (O9.O.below Zn);have g9:=(cell_of_row _ _ 9 _ _ _ RR.O).trans rfl;have C8:=Qh (show wF.cell? ⟨rb,8,none⟩=some (S f.aU)from(cell_of_row _ _ 8 _ _ _ RR.O).trans rfl);clear gH hC M9 O9 Zn hwF qh vW HR RF RR e0 e1 e2 e3 e4 e5 e6 e7 e8 e9 p0 p1 p2 p3 p4 BK C9;by_cases CY:f.err=0
         ·have k2:(f.err !=0)=false:=by rw[CY];rfl
          obtain⟨ea,er⟩:=Xmy (fs:=fs.drop (q+1)) mo CY;have c2:=C8.O;obtain⟨ct,Te⟩:∃ct,f.aU=ct:=⟨_,rfl⟩;rw[Te]at ea Td c2;obtain⟨Oz,RH⟩:∃Oz,aY (ct.length:Int)=Oz:=⟨_,rfl⟩;have Dx:=qP ct.length (by omega);have JF:=Qh (ES.O ct.length (by omega));rw[RH]at ea Dx JF;obtain⟨pn,MQ⟩:∃pn,43::Oz=pn:=⟨_,rfl⟩;obtain⟨h9,RI⟩:∃h9,pn++ct=h9:=⟨_,rfl⟩;have ea:nE (f::fs.drop (q+1)) y=hp++h9:=by rw[ea,CE.O,←RI,←MQ];rfl
          have aod:pn.length=Oz.length+1:=by rw[←MQ];rfl
          have aoe:h9.length=pn.length+ct.length:=by rw[←RI,List.length_append]
          rw[ea,er]at iy;rw[ea]at nI;have d1:¬9223372036854775807<1+Oz.length:=by omega
          have d2:¬9223372036854775807<pn.length+ct.length:=by omega
          obtain⟨KZ,LX⟩:∃KZ,wF=KZ:=⟨_,rfl⟩;rw[LX]at MF OF c2 g9;have HK:=Qh (hw.below (Qn _) MF.O.dE);have HB:=Qh MF.O.bd;have Zo:(u++hh++pre++hp).length≤100000000000:=by simp;omega
          obtain⟨u2,Fz⟩:∃u2,u++hh++pre++hp=u2:=⟨_,rfl⟩;rw[Fz]at MF HB Zo;clear CY ea er C8 Te RH;rw[LX];clear LX;go_wp2_with fail
          refine uW (X:=Unit) (rcL rb ct Oz pn h9 ct.length) (pR KZ 8 (fun w'=>IG b (u2++h9) w'∧Wk b KZ w')) (by kernel_rfl) (by kernel_rfl) ?_ ?_ ?_
          ·exact⟨(),pR.start _ _⟩
          ·rintro x' s' a' w' i eU gI ha hC hi;obtain⟨aV,oi,eX,aB⟩:=mem_ready.1 hi;have ev:=zC Rw ha;rcases i with _|_|_|_|_|_|_|_|_|i
           rotate_left 9
           ·simp at eX
           all_goals
            have fZ:=eX;simp at eX;subst eX;simp[Region.binds]at aB;try have hl:=xW 8 8 gI (by decide+kernel) aV
            try have dH:=hC.off hl
            try have c2:=dh dH c2
            refine wpOp_step fZ (fun K' hK=> ?_);first|rw[if_pos (by rfl)]
           rotate_left 3
           ·unfold Oper.wp;simp[go_sem,ev,fG,aB,Oper.upon];refine(JF.O w' (HK.O.below (Qn _) dH)).mono ?_;rintro r4 w4 ⟨rfl,aM⟩;exact hK _ _ ⟨(),iF Rw ha rfl aV,hC.call (by decide) hl (dH.trans (aM.mono dH.size))⟩
           rotate_left 4
           ·unfold Oper.wp;simp[go_sem,ev,fG,aB,Oper.upon];refine(Oy b u2 h9 w' (HB.O.aA dH) (by omega)).mono ?_;rintro r4 w4 ⟨rfl,hd4,zi⟩;exact hK _ _ ⟨(),iF Rw ha rfl aV,pR.last ⟨hd4,(Wk.of dH (Nat.le_of_lt HB.O.lt)).trans zi⟩ (yI aV)⟩
           all_goals
            unfold Oper.wp;first
            |(simp[go_sem,ev,fG,aB,Oper.upon,c2,d1,MQ,d2,RI];exact hK _ _ ⟨(),iF Rw ha rfl aV,hC.pure (by decide)⟩)
            |(simp[go_sem,ev,fG,Oper.upon,c2,d1,MQ,d2,RI];exact hK _ _ ⟨(),iF Rw ha rfl aV,hC.pure (by decide)⟩)
          ·rintro x' s' a' wG gH ha hC;have hP:=hC.on (gH 8 (by decide));rw[vB _ _ _ _ (fun i hi=>by rw[Nat.zero_add];exact gH i (by simpa using hi))]at ha;subst ha;simp only[dZ,Act.put,List.setIfInBounds_toArray,List.set_cons_succ,List.set_cons_zero];obtain⟨y9,JP⟩:=hP;have Cv:=Qh (MF.O.put y9 JP);have LY:=Qh (JP.own OF.O wm (by decide));clear gH hC MF OF HB HK y9 JP c2 g9 d1 d2 MQ RI;go_wp2;go_roundw;case rel=>exact⟨j+1,q+1,pre++(hp++h9),by omega,by go_num,LW.O,by rw[iy.O];simp,by simp at nI ⊢;omega,by have:=Cv.O;rwa[show u2++h9=u++hh++(pre++(hp++h9)) by rw[←Fz];simp]at this,LY.O⟩
           case measure=>simp[intOf];omega
         ·have k2:(f.err !=0)=true:=by simpa using CY
          obtain⟨ea,er⟩:=Xmx (fs:=fs.drop (q+1)) mo CY;rw[ea,er,CE.O]at iy;rw[ea,CE.O]at nI;clear CY ea er C8;go_wp2_with fail
          refine(Oy _ (u++hh++pre++hp) [45] _ MF.O.bd (by simp;omega)).mono ?_;rintro e11 UD ⟨rfl,si,uJ⟩;have Cv:=Qh (MF.O.put si uJ);have LY:=Qh (uJ.own OF.O wm (by decide));clear MF OF si uJ;go_wp2;go_roundw;case rel=>exact⟨j+1,q+1,pre++(hp++[45]),by omega,by go_num,LW.O,by rw[iy.O];simp,by simp at nI ⊢;omega,by have:=Cv.O;rwa[show u++hh++pre++hp++[45]=u++hh++(pre++(hp++[45])) by simp]at this,LY.O⟩
          case measure=>simp[intOf];omega
       ·have qO:fs.drop q=[]:=List.drop_of_length_le (by omega);obtain⟨ea,er⟩:=Xp7 mo;rw[qO,ea,er,CE.O]at iy;rw[qO,ea,CE.O]at nI;have iy:=Qh (show fu fs x.ay=pre++(hp++[45]++fu (fs.drop q) (x.ay.drop (j+1))) by rw[qO];exact iy.O);have EU:=RA.O;rw[List.length_drop]at EU;have EU:=Qh EU;have FX:fs.length-q=0:=by omega
        rw[FX]at EU;rw[FX];have sK:=Qh (M9.O.past (.cells #[.int .i64 0,.int .i64 0,.string ⟨#[]⟩,.slice none 0 0,.string ⟨#[]⟩,.int .i64 0,.string ⟨#[]⟩,.slice none 0 0,.string ⟨#[]⟩,.int .i64 19] 38));have La:=Qh (O9.O.alloc (.cells #[.int .i64 0,.int .i64 0,.string ⟨#[]⟩,.slice none 0 0,.string ⟨#[]⟩,.int .i64 0,.string ⟨#[]⟩,.slice none 0 0,.string ⟨#[]⟩,.int .i64 19] 38));clear qO ea er Zl RA II E9 M9 O9;go_wp2_with fail
        refine(Oy _ (u++hh++pre++hp) [45] _ sK.O.bd (by simp;omega)).mono ?_;rintro e11 UD ⟨rfl,si,uJ⟩;have Cv:=Qh (sK.O.put si uJ);have LY:=Qh (uJ.own La.O wm (by decide));clear sK La si uJ;go_wp2;go_roundw;case rel=>exact⟨j+1,q,pre++(hp++[45]),by omega,by go_num,EU.O,by rw[iy.O];simp,by simp at nI ⊢;omega,by have:=Cv.O;rwa[show u++hh++pre++hp++[45]=u++hh++(pre++(hp++[45])) by simp]at this,LY.O⟩
        case measure=>simp[intOf];omega
      ·have k1:(y.ai !=1)=true:=by simpa using mo
       obtain⟨e1,e2⟩:=Xtq (fs:=fs.drop q) mo;obtain⟨z0,jY⟩:∃z0,aY ((0:Nat):Int)=z0:=⟨_,rfl⟩;have e1:nE (fs.drop q) y=hp++([43]++z0):=by rw[e1,CE.O,←jY];rfl
       have oO:=qP 0 (by omega);rw[jY]at oO;have qV:=Qh (ES.O 0 (by omega));rw[jY]at qV;rw[e1,e2]at iy;rw[e1]at nI;have d3:¬9223372036854775807<1+z0.length:=by omega
       clear mo e1 e2 jY;go_wp2_with fail
       refine(qV.O _ (hw.below (Qn _) M9.O.dE)).mono ?_;rintro e10 Dj ⟨rfl,rC⟩;have sK:=Qh (M9.O.aA rC);have La:=Qh (O9.O.below rC);clear M9 O9 E9 rC;go_wp2_with fail
       refine(Oy _ (u++hh++pre++hp) (43::z0) _ sK.O.bd (by simp;omega)).mono ?_;rintro e11 UD ⟨rfl,si,uJ⟩;have Cv:=Qh (sK.O.put si uJ);have LY:=Qh (uJ.own La.O wm (by decide));clear sK La si uJ;go_wp2;go_roundw;case rel=>exact⟨j+1,q,pre++(hp++([43]++z0)),by omega,by go_num,(by have:=RA.O;rwa[List.length_drop]at this),by rw[iy.O];simp,by simp at nI ⊢;omega,by have:=Cv.O;rwa[show u++hh++pre++hp++43::z0=u++hh++(pre++(hp++([43]++z0))) by simp]at this,LY.O⟩
       case measure=>simp[intOf];omega
     ·have jf:fu fs x.ay=pre:=by rw[Hr.O,List.drop_of_length_le (show x.ay.length≤j by omega)];simp[fu]
      have xE:=Qh (show N=(u++hh++pre)++(L.drop (k+1)).flatMap (kP F) by rw[bB.O,jf];simp);have hlp:pre.length≤2100000:=by omega
      clear Hr jf;go_wp2;go_roundw;case rel=>exact⟨k+1,u++hh++pre,by omega,by go_num,xE.O,by simp;omega,M.O⟩
      case measure=>simp[intOf];omega
  ·have jf:N=u:=by rw[Hr.O,List.drop_of_length_le (show L.length≤k by omega)];simp
   clear Hr;subst jf;go_wp2_with fail
   refine(Tryz.Builder_String_any_k _ _ _ _ M.O.bd.bd (Nat.le_of_lt M.O.bd.lt)).mono ?_;rintro e1 w9 ⟨rfl,_,ig,_⟩;go_wp2;go_ret;exact⟨rfl,M.O.dE.trans (ig.mono (Nat.le_of_lt M.O.ge))⟩
theorem Xxp{x:aG}(h:az x=0):x.ak.length≤65536:=by
 have hc:=Bn h;have hs:fH x.ak=x.size:=by
  unfold az at h;split at h
  ·omega
  split at h
  ·contradiction
  split at h
  ·omega
  split at h
  ·contradiction
  split at h
  ·omega
  split at h
  ·omega
  split at h
  ·omega
  split at h
  ·contradiction
  split at h
  ·omega
  ·rename_i q;exact Classical.byContradiction q
 have key:∀(l:List Xt),(∀y∈l,1≤y.n)→(l.length:Int)≤fH l:=by
  intro l;induction l with
  |nil=>intro _;simp[fH]
  |cons y l ih=>
   intro hl;have h1:=hl y (by simp);have h2:=ih fun z hz=>hl z (by simp[hz]);unfold fH at*;rw[List.map_cons,List.sum_cons,List.length_cons];omega
 have:=key x.ak fun y hy=>(hc.NS y hy).2.2.2.2.1;have:=hc.s1;omega
theorem Xqt(I:IH)(e:aG)(va vx:Value)(eP:bf lT I va e.ag)(eT:bf mr I vx e.ak)(he:az e=0)(w:World)(hw:Ok I w):
 Calls Tryz.prog 30 #[fB e va vx] w fun r w'=>r= .returned (.tuple #[S (dD e),.int .i64 0])∧Below w.heap.size w w':=by
 have hc:=Bn he;have nL:=Xxp he;have kg:=Qh (fun w hw=>NC I e va vx eP eT hc.wf w hw);rw[NA (by omega),he]at kg;have H0:=Qh (fun w hw=>Xjr I e va vx eP eT hc w hw);obtain⟨aa,ca,rfl,_,_,_⟩:=id eP;obtain⟨ax,cx,rfl,_,_,_⟩:=id eT;have A1:=Qh ((lY.start hw).past (.cells #[.int .i64 e.ai,S e.af,.slice aa e.ag.length ca,S e.target,.int .i64 e.size,S e.aj,.slice ax e.ak.length cx] 35));have EB:=Qh (cB (W:=w) (e:=e) (va:= .slice aa e.ag.length ca) (vx:= .slice ax e.ak.length cx) (t:=35) rfl (Qb _ _));clear eP eT he hc nL;generalize dD e=hd at*;go_enter Tryz.func30,Tryz.ntmps30
 go_wp2_with fail
 refine(kg.O _ A1.O.ok).mono ?_;rintro r1 w1 ⟨rfl,au⟩;have A2:=Qh (A1.O.quiet au);obtain⟨y0,y1,y2,y3,y4,y5,y6⟩:=EB.O.aA au;clear A1 EB au;go_wp2_with fail
 refine(H0.O _ A2.O.ok).mono ?_;rintro r2 w2 ⟨rfl,aF⟩;have A3:=Qh (A2.O.quiet aF);clear A2 aF y0 y1 y2 y3 y4 y5 y6;go_wp2;go_ret2;exact⟨rfl,A3.O.dE⟩
abbrev uhL(m a d:Nat)(u na u1 nd u2 nn u3:ae)(oe:Option Addr)(n ce:Nat)(x:Unit):List (Option Tmp×Value):=
 [(some 24,S u),(some 25,.pointer (some ⟨m,0,none⟩)),(some 26,.int .i64 (a:Int)),(some 27,S na),(some 28,S u1),(some 29,.pointer (some ⟨m,1,none⟩)),(some 30,.int .i64 (d:Int)),(some 31,S nd),(some 32,S u2),(some 33,.pointer (some ⟨m,3,none⟩)),(some 34,.slice oe n ce),(some 35,.int .i64 (n:Int)),(some 36,S nn),(some 37,S u3),(some 3,S u3)]
theorem LZ:bL (uhL m a d u na u1 nd u2 nn u3 oe n ce x):=by
 unfold bL;simp
abbrev ucL(m:Nat)(u u1 ct nn u2 u3:ae)(n:Nat)(x:Unit):List (Option Tmp×Value):=
 [(some 85,S u),(some 86,S u1),(some 87,.pointer (some ⟨m,8,none⟩)),(some 88,S ct),(some 89,.int .i64 (n:Int)),(some 90,S nn),(some 91,S u2),(some 92,.pointer (some ⟨m,8,none⟩)),(some 93,S ct),(some 94,S u3),(some 3,S u3)]
theorem RJ:bL (ucL m u u1 ct nn u2 u3 n x):=by
 unfold bL;simp
theorem Xsq{n:Int}(h:di F n=fs)(hq:q<fs.length)(hf:fs[q]=f):rG F n q=(f,true):=by
 unfold rG;rw[h,List.getElem?_eq_getElem hq,hf]
theorem Xsr{n:Int}(h:di F n=fs)(hq:fs.length≤q):rG F n q=(fD,false):=by
 unfold rG;rw[h,List.getElem?_eq_none hq]
theorem Xij(I:IH)(vs vf:Value)(L:List bR)(F:List Rec)(lS:bf lL I vs L)(wu:bf nY I vf F)(hg:∀x∈L,jA x)(hn:L.length≤1000)(hN:∀x∈L,EQ x)(hE:∀x∈L,∀e∈x.ay,az e=0)(hC:∀f∈F,f.aU.length≤65560)(w:World)(hw:Ok I w):
 Calls Tryz.prog 10 #[EI vs vf] w fun r w'=>r= .returned (S (pQ ⟨L,F⟩))∧Below w.heap.size w w':=by
 have Zf:=Qh (fun n j hj w hw=>Xn7 I vs vf L F lS wu n j hj w hw);have Hv:=Qh lS;have Hg:=Qh hg;have HN:=Qh hN;have HE:=Qh hE;have HC:=Qh hC;have ES:=Qh (fun(n:Nat) (hn:n≤140737488355200) w=>NK n hn w);obtain⟨so,sc,rfl,_,_,_⟩:=id lS;obtain⟨fo,fc,rfl,_,_,_⟩:=id wu;unfold pQ;dsimp only;obtain⟨N,ET⟩:∃N,L.flatMap (kP F)=N:=⟨_,rfl⟩;rw[ET];have lH:=Qh (show N=[]++(L.drop 0).flatMap (kP F)from by rw[←ET];rfl);have RB:=Qh (heap_alloc_new w (.cells #[.slice so L.length sc,.slice fo F.length fc] 28));have M0:=Qh (show lY I w I (w.alloc (.cells #[.slice so L.length sc,.slice fo F.length fc] 28))from(lY.start hw).past _);have r0:=(cell_of_row _ _ 0 _ _ _ RB.O).trans rfl;have r1:=(cell_of_row _ _ 1 _ _ _ RB.O).trans rfl;clear lS wu hg hN hE hC ET;go_enter Tryz.func10,Tryz.ntmps10
 go_wp2_with fail
 go_loopw [3,4,5] (fun s3 s4 _ wr=> ∃(k:Nat) (u:ae),k≤L.length∧s4= .int .i64 k∧s3=S u∧N=u++(L.drop k).flatMap (kP F)∧u.length≤3000000*k∧lY I w I wr∧wr.heap[w.heap.size]?=some (.cells #[.slice so L.length sc,.slice fo F.length fc] 28 (0,0))) (fun _ i _ _=>L.length-(intOf i).toNat)
 case atStart=>exact⟨0,[],Nat.zero_le _,rfl,rfl,lH.O,by simp,M0.O,RB.O⟩
 case round=>
  clear M0 lH RB r0 r1;obtain⟨k,u,hk,rfl,rfl,hr,GX,hM,FJ⟩:=hrel;have Hr:=Qh hr;have M:=Qh hM;have RB:=Qh FJ;have r0:=(cell_of_row _ _ 0 _ _ _ FJ).trans rfl;clear hr hM FJ;by_cases hlt:k<L.length
  ·obtain⟨x,ve,bb,off,cap',bH,dn,⟨c0,c1,c2,c3,c4,c5⟩,h1⟩:=Dl Hv.O M.O.ok k hlt;cases dn;obtain⟨oe,ce,rfl,_,_,_⟩:=id h1;have qY:x∈L:=by rw[←bH];exact List.getElem_mem hlt
   have Hx:=Qh (Hg.O x qY);have Zg:=Qh (HE.O x qY);have JN:=Hx.O.mi;obtain⟨a,ha⟩:=Int.eq_ofNat_of_zero_le (HN.O x qY).n0;obtain⟨d,hd⟩:=Int.eq_ofNat_of_zero_le (HN.O x qY).d0;have xL:=(HN.O x qY).n1;have ll:=(HN.O x qY).d1;have bB:=Qh (show N=u++(((aY a++aY d++aY x.ay.length)++fu (di F a) x.ay)++(L.drop (k+1)).flatMap (kP F)) by rw[Hr.O,Xpb hlt bH,Xrz,ha,hd]);have LU:=Qh (ES.O a (by omega));have Nb:=Qh (ES.O d (by omega));have LV:=Qh (ES.O x.ay.length (by omega));have Su:=qP a (by omega);have hld:=qP d (by omega);have BJ:=qP x.ay.length (by omega);have vK:=Qh h1;have M1:=Qh (M.O.past (.cells #[.int .i64 x.num,.int .i64 x.aN,S x.aW,.slice oe x.ay.length ce,S x.aH,S x.sl] 62));have SR:=Qh (heap_alloc_new wr (.cells #[.int .i64 x.num,.int .i64 x.aN,S x.aW,.slice oe x.ay.length ce,S x.aH,S x.sl] 62));have Zp:=Qh ((Below.heap_alloc wr (.cells #[.int .i64 x.num,.int .i64 x.aN,S x.aW,.slice oe x.ay.length ce,S x.aH,S x.sl] 62) _ (Qg RB.O)).trans RB.O);obtain⟨m,hm⟩:∃m,wr.heap.size=m:=⟨_,rfl⟩;obtain⟨W5,Bo⟩:∃W5,wr.alloc (.cells #[.int .i64 x.num,.int .i64 x.aN,S x.aW,.slice oe x.ay.length ce,S x.aH,S x.sl] 62)=W5:=⟨_,rfl⟩;have Rx:=Qh Bo;have Hm:=Qh hm;rw[Bo]at M1 SR Zp;rw[hm]at SR;rw[ha,hd]at SR;have Z0:=Qh (cell_of_row _ _ 0 _ _ _ SR.O |>.trans rfl);have Z1:=Qh (cell_of_row _ _ 1 _ _ _ SR.O |>.trans rfl);have Z3:=Qh (cell_of_row _ _ 3 _ _ _ SR.O |>.trans rfl);clear qY bH h1 M Hr Bo RB;obtain⟨na,Fy⟩:∃na,aY (a:Int)=na:=⟨_,rfl⟩;obtain⟨nd,Nc⟩:∃nd,aY (d:Int)=nd:=⟨_,rfl⟩;obtain⟨nn,zH⟩:∃nn,aY (x.ay.length:Int)=nn:=⟨_,rfl⟩;rw[Fy]at LU Su;rw[Nc]at Nb hld;rw[zH]at LV BJ;rw[Fy,Nc,zH]at bB;obtain⟨u1,I8⟩:∃u1,u++na=u1:=⟨_,rfl⟩;obtain⟨u2,Fz⟩:∃u2,u1++nd=u2:=⟨_,rfl⟩;obtain⟨u3,OV⟩:∃u3,u2++nn=u3:=⟨_,rfl⟩;have x8:u1.length=u.length+na.length:=by rw[←I8,List.length_append]
   have Dx:u2.length=u1.length+nd.length:=by rw[←Fz,List.length_append]
   have SH:u3.length=u2.length+nn.length:=by rw[←OV,List.length_append]
   have bB:=Qh (show N=u3++(fu (di F a) x.ay++(L.drop (k+1)).flatMap (kP F)) by rw[bB.O,←OV,←Fz,←I8];simp);have d1:¬9223372036854775807<u.length+na.length:=by omega
   have d2:¬9223372036854775807<u1.length+nd.length:=by omega
   have d3:¬9223372036854775807<u2.length+nn.length:=by omega
   clear Fy Nc zH;clear ha hd xL ll;go_wp2_with fail
   rw[show(wr.alloc (.cells #[.int .i64 x.num,.int .i64 x.aN,S x.aW,.slice oe x.ay.length ce,S x.aH,S x.sl] 62))=W5 from Rx.O];replace c0:=Z0.O;replace c1:=Z1.O;replace c3:=Z3.O;clear c2 c4 c5 Z0 Z1 Z3;refine uW (X:=Unit) (uhL m a d u na u1 nd u2 nn u3 oe x.ay.length ce) (pR W5 14 (fun w'=>Below (W5).heap.size (W5) w')) (by kernel_rfl) (by kernel_rfl) ?_ ?_ ?_
   ·exact⟨(),pR.start _ _⟩
   ·rintro x' s' a' w' i eU gI ha hC hi;obtain⟨aV,oi,eX,aB⟩:=mem_ready.1 hi;have ev:=zC LZ ha;rcases i with _|_|_|_|_|_|_|_|_|_|_|_|_|_|_|i
    rotate_left 15
    ·simp at eX
    all_goals
     have fZ:=eX;simp at eX;subst eX;simp[Region.binds]at aB;try have hl:=xW 8 14 gI (by decide+kernel) aV
     try have dH:=hC.off hl
     try have c0:=dh dH c0
     try have c1:=dh dH c1
     try have c3:=dh dH c3
     try have IJ:=xW 8 14 gI (by decide+kernel) aV
     try rw[Array.getD_eq_getD_getElem?]at IJ
     refine wpOp_step fZ (fun K' hK=> ?_);first|rw[if_pos (by rfl)]
    rotate_left 3
    ·unfold Oper.wp;simp[go_sem,ev,fG,aB,Oper.upon];refine(LU.O w').mono ?_;rintro r4 w4 ⟨rfl,aM⟩;exact hK _ _ ⟨(),iF LZ ha rfl aV,hC.call (by decide) hl (dH.trans (aM.mono dH.size))⟩
    rotate_left 3
    ·unfold Oper.wp;simp[go_sem,ev,fG,aB,Oper.upon];refine(Nb.O w').mono ?_;rintro r4 w4 ⟨rfl,aM⟩;exact hK _ _ ⟨(),iF LZ ha rfl aV,hC.call (by decide) hl (dH.trans (aM.mono dH.size))⟩
    rotate_left 4
    ·unfold Oper.wp;simp[go_sem,ev,fG,aB,Oper.upon];refine(LV.O w').mono ?_;rintro r4 w4 ⟨rfl,aM⟩;exact hK _ _ ⟨(),iF LZ ha rfl aV,hC.call (by decide) hl (dH.trans (aM.mono dH.size))⟩
    rotate_left 1
    ·unfold Oper.wp;simp[go_sem,ev,fG,aB,Oper.upon,c0,c1,c3,d1,I8,d2,Fz,d3,OV,IJ];exact hK _ _ ⟨(),iF LZ ha rfl aV,pR.last (hC.off hl) (yI aV)⟩
    all_goals
     unfold Oper.wp;first
     |(simp[go_sem,ev,fG,aB,Oper.upon,c0,c1,c3,d1,I8,d2,Fz,d3,OV,IJ];exact hK _ _ ⟨(),iF LZ ha rfl aV,hC.pure (by decide)⟩)
     |(simp[go_sem,ev,fG,Oper.upon,c0,c1,c3,d1,I8,d2,Fz,d3,OV,IJ];exact hK _ _ ⟨(),iF LZ ha rfl aV,hC.pure (by decide)⟩)
   ·rintro x' s' a' wE gH ha hC;have hP:=hC.on (gH 14 (by decide));rw[vB _ _ _ _ (fun i hi=>by rw[Nat.zero_add];exact gH i (by simpa using hi))]at ha;subst ha;simp only[dZ,Act.put,List.setIfInBounds_toArray,List.set_cons_succ,List.set_cons_zero];have M6:=Qh (M1.O.quiet hP);have S6:=Qh (jg SR.O hP);have R6:=Qh (jg Zp.O hP);have c3:=(cell_of_row _ _ 3 _ _ _ S6.O).trans rfl;obtain⟨fs,Ka⟩:∃fs,di F (a:Int)=fs:=⟨_,rfl⟩;have Zj:=Qh (show ∀f∈fs,f.aU.length≤65560 from fun f hf=>HC.O f (Xix (Ka▸hf)));have Ow:=Qh Ka;rw[Ka]at bB;have Rz:=Qh (show fu fs x.ay=[]++fu (fs.drop 0) (x.ay.drop 0)from rfl);clear gH hC M1 SR Zp LU Nb LV Ka Rx Hm d1 d2 d3 I8 Fz OV hP c0 c1 r0 hm;go_wp2_with fail
    go_loopw [3,6,7,8,9,10,11] (fun s3 s6 s7 _ _ _ _ wr=> ∃(j q:Nat) (pre:ae),j≤x.ay.length∧q≤j∧s7= .int .i64 j∧s6= .int .i64 q∧s3=S (u3++pre)∧fu fs x.ay=pre++fu (fs.drop q) (x.ay.drop j)∧pre.length≤70000*j∧lY I w I wr∧
     wr.heap[m]?=some (.cells #[.int .i64 (a:Int),.int .i64 (d:Int),S x.aW,.slice oe x.ay.length ce,S x.aH,S x.sl] 62 (0,0))∧wr.heap[w.heap.size]?=some (.cells #[.slice (some ⟨bb,off,none⟩) L.length sc,.slice fo F.length fc] 28 (0,0))) (fun _ _ i _ _ _ _ _=>x.ay.length-(intOf i).toNat)
    case atStart=>exact⟨0,0,[],Nat.zero_le _,Nat.zero_le _,rfl,rfl,by rw[List.append_nil],Rz.O,by simp,M6.O,S6.O,R6.O⟩
    case round=>
     clear M6 S6 R6 Rz c3;obtain⟨j,q,pre,hj,hqj,rfl,rfl,rfl,hr,nH,hM,El,SC⟩:=hrel;have Hr:=Qh hr;have M:=Qh hM;have SR:=Qh El;have RR:=Qh SC;have c3:=(cell_of_row _ _ 3 _ _ _ SR.O).trans rfl;have c0:=(cell_of_row _ _ 0 _ _ _ SR.O).trans rfl;have r0:=(cell_of_row _ _ 0 _ _ _ RR.O).trans rfl;have r1:=(cell_of_row _ _ 1 _ _ _ RR.O).trans rfl;clear hr hM El SC;obtain⟨u4,UY⟩:∃u4,u3++pre=u4:=⟨_,rfl⟩;have I7:u4.length=u3.length+pre.length:=by rw[←UY,List.length_append]
     have RL:=Qh UY;rw[UY];clear UY;by_cases tq:j<x.ay.length
     ·obtain⟨y,wa,wx,g,go',gc,iH,Tc,HY,h2,h3⟩:=qi vK.O M.O.ok j tq;cases Tc;have EY:=Qh HY;obtain⟨y0,y1,y2,y3,y4,y5,y6⟩:=HY;have RD:=Qh (Zg.O y (by rw[←iH];exact List.getElem_mem tq));have Hy:=Qh (Bn RD.O);have Cx:=KS Hy.O;have II:=Qh (show ∀f∈fs.drop q,f.aU.length≤65560 from fun f hf=>Zj.O f (List.mem_of_mem_drop hf));have nI:=Ze Hy.O II.O;have iy:=Qh (show fu fs x.ay=pre++(nE (fs.drop q) y++fu (kU (fs.drop q) y) (x.ay.drop (j+1))) by rw[Hr.O,Xj6 tq iH]);have Bp:=Qh (fun w hw=>Xqt I y wa wx h2 h3 RD.O w hw);have IE:=Qh (fun w=>Ed (dD y) (by omega) w);obtain⟨ya,yc,rfl,_,_,_⟩:=id h2;obtain⟨yx,yd,rfl,_,_,_⟩:=id h3;obtain⟨hp,JO⟩:∃hp,aS (dD y)=hp:=⟨_,rfl⟩;rw[JO]at nI IE;have CE:=Qh JO;obtain⟨v0,tJ⟩:∃v0,u4++hp=v0:=⟨_,rfl⟩;have Dv:v0.length=u4.length+hp.length:=by rw[←tJ,List.length_append]
      have d1:¬9223372036854775807<u4.length+hp.length:=by omega
      clear iH h2 h3 Hr JO;go_wp2_with fail
      refine(Bp.O _ M.O.ok).mono ?_;rintro e7 w7 ⟨rfl,jC⟩;have M7:=Qh (M.O.quiet jC);have S7:=Qh (jg SR.O jC);have R7:=Qh (jg RR.O jC);have E7:=Qh (EY.O.aA jC);clear M SR RR EY jC y0 y1 y2 y3 y4 y5 y6 c0 c3 r0 r1 Bp;go_wp2_with fail
      refine(IE.O _).mono ?_;rintro e8 w8 ⟨rfl,oN⟩;have M8:=Qh (M7.O.quiet oN);have S8:=Qh (jg S7.O oN);have R8:=Qh (jg R7.O oN);obtain⟨y0,_,_,_,_,_,_⟩:=E7.O.aA oN;have c0:=(cell_of_row _ _ 0 _ _ _ S8.O).trans rfl;have c3:=(cell_of_row _ _ 3 _ _ _ S8.O).trans rfl;have r0:=(cell_of_row _ _ 0 _ _ _ R8.O).trans rfl;have r1:=(cell_of_row _ _ 1 _ _ _ R8.O).trans rfl;clear M7 S7 R7 E7 oN IE;by_cases mo:y.ai=1
      ·have k1:(y.ai !=1)=false:=by rw[mo];rfl
       have OA:=Qh (Zf.O (a:Int) q (by omega));by_cases hq:q<fs.length
       ·obtain⟨f,hf⟩:∃f,fs[q]=f:=⟨_,rfl⟩;rw[Xsq Ow.O hq hf]at OA;have yl:fs.drop q=f::fs.drop (q+1):=by rw[List.drop_eq_getElem_cons hq,hf]
        rw[yl]at nI iy;have Td:=II.O f (by rw[yl];simp);clear hf yl II;go_wp2_with fail
        refine(OA.O _ M8.O.ok).mono ?_;rintro e9 w9 ⟨va,vx,rfl,h2,h3,ig⟩;obtain⟨fa,fk,rfl,_,_,_⟩:=id h2;obtain⟨fx,fy,rfl,_,_,_⟩:=id h3;have M9:=Qh ((M8.O.quiet ig).past (.cells #[.int .i64 f.mh,.int .i64 f.dm.ai,S f.dm.af,.slice fa f.dm.ag.length fk,S f.dm.target,.int .i64 f.dm.size,S f.dm.aj,.slice fx f.dm.ak.length fy,S f.aU,.int .i64 f.err] 38));have S9:=Qh ((Below.heap_alloc w9 (.cells #[.int .i64 f.mh,.int .i64 f.dm.ai,S f.dm.af,.slice fa f.dm.ag.length fk,S f.dm.target,.int .i64 f.dm.size,S f.dm.aj,.slice fx f.dm.ak.length fy,S f.aU,.int .i64 f.err] 38) _ (Qi (jg S8.O ig)).1).trans (jg S8.O ig));have R9:=Qh ((Below.heap_alloc w9 (.cells #[.int .i64 f.mh,.int .i64 f.dm.ai,S f.dm.af,.slice fa f.dm.ag.length fk,S f.dm.target,.int .i64 f.dm.size,S f.dm.aj,.slice fx f.dm.ak.length fy,S f.aU,.int .i64 f.err] 38) _ (Qi (jg R8.O ig)).1).trans (jg R8.O ig));have F9:=Qh (heap_alloc_new w9 (.cells #[.int .i64 f.mh,.int .i64 f.dm.ai,S f.dm.af,.slice fa f.dm.ag.length fk,S f.dm.target,.int .i64 f.dm.size,S f.dm.aj,.slice fx f.dm.ak.length fy,S f.aU,.int .i64 f.err] 38));clear M8 S8 R8 ig y0 c0 c3 r0 r1 h2 h3 OA;by_cases CY:f.err=0
        ·have k2:(f.err==0)=true:=by rw[CY];rfl
         obtain⟨ea,er⟩:=Xmy (fs:=fs.drop (q+1)) mo CY;obtain⟨W9,Gm⟩:∃W9,w9.alloc (.cells #[.int .i64 f.mh,.int .i64 f.dm.ai,S f.dm.af,.slice fa f.dm.ag.length fk,S f.dm.target,.int .i64 f.dm.size,S f.dm.aj,.slice fx f.dm.ak.length fy,S f.aU,.int .i64 f.err] 38)=W9:=⟨_,rfl⟩;have RF:=Qh Gm;obtain⟨rb,FJ⟩:∃rb,w9.heap.size=rb:=⟨_,rfl⟩;rw[Gm]at M9 S9 R9 F9;rw[FJ]at F9;have RG:=Qh FJ;have G8:=Qh (show W9.cell? ⟨rb,8,none⟩=some (S f.aU)from(cell_of_row _ _ 8 _ _ _ F9.O).trans rfl);have G9:=Qh (show W9.cell? ⟨rb,9,none⟩=some (.int .i64 f.err)from(cell_of_row _ _ 9 _ _ _ F9.O).trans rfl);obtain⟨ct,Te⟩:∃ct,f.aU=ct:=⟨_,rfl⟩;obtain⟨nc,IR⟩:∃nc,aY (ct.length:Int)=nc:=⟨_,rfl⟩;rw[Te]at ea Td G8;have hlc:=qP ct.length (by omega);have JF:=Qh (ES.O ct.length (by omega));rw[IR]at ea hlc JF;obtain⟨v1,zI⟩:∃v1,v0++[43]=v1:=⟨_,rfl⟩;obtain⟨v2,zJ⟩:∃v2,v1++nc=v2:=⟨_,rfl⟩;obtain⟨v3,OW⟩:∃v3,v2++ct=v3:=⟨_,rfl⟩;have ap0:v1.length=v0.length+1:=by rw[←zI,List.length_append];rfl
         have IY:v2.length=v1.length+nc.length:=by rw[←zJ,List.length_append]
         have ap1:v3.length=v2.length+ct.length:=by rw[←OW,List.length_append]
         have q1:¬9223372036854775807<v0.length+1:=by omega
         have q2:¬9223372036854775807<v1.length+nc.length:=by omega
         have q3:¬9223372036854775807<v2.length+ct.length:=by omega
         have ea:nE (f::fs.drop (q+1)) y=hp++([43]++nc++ct):=by rw[ea,CE.O]
         rw[ea,er]at iy;rw[ea]at nI;have Hv3:=Qh (show u3++(pre++(hp++([43]++nc++ct)))=v3 by rw[←OW,←zJ,←zI,←tJ,←RL.O];simp);clear CY ea er Te IR F9 Gm FJ;go_upto_region 18 with fail
         rw[show w9.alloc (.cells #[.int .i64 f.mh,.int .i64 f.dm.ai,S f.dm.af,.slice fa f.dm.ag.length fk,S f.dm.target,.int .i64 f.dm.size,S f.dm.aj,.slice fx f.dm.ak.length fy,S f.aU,.int .i64 f.err] 38)=W9 from RF.O];try rw[show w9.heap.size=rb from RG.O]
         have g8:=G8.O;refine uW (X:=Unit) (ucL rb v0 v1 ct nc v2 v3 ct.length) (pR W9 10 (fun w'=>Below (W9).heap.size (W9) w')) (by kernel_rfl) (by kernel_rfl) ?_ ?_ ?_
         ·exact⟨(),pR.start _ _⟩
         ·rintro x' s' a' w' i eU gI ha hC hi;obtain⟨aV,oi,eX,aB⟩:=mem_ready.1 hi;have ev:=zC RJ ha;rcases i with _|_|_|_|_|_|_|_|_|_|_|i
          rotate_left 11
          ·simp at eX
          all_goals
           have fZ:=eX;simp at eX;subst eX;simp[Region.binds]at aB;try have hl:=xW 8 10 gI (by decide+kernel) aV
           try have dH:=hC.off hl
           try have g8:=dh dH g8
           try have IK:=xW 8 10 gI (by decide+kernel) aV
           try rw[Array.getD_eq_getD_getElem?]at IK
           refine wpOp_step fZ (fun K' hK=> ?_);first|rw[if_pos (by rfl)]
          rotate_left 5
          ·unfold Oper.wp;simp[go_sem,ev,fG,aB,Oper.upon];refine(JF.O w').mono ?_;rintro r4 w4 ⟨rfl,aM⟩;exact hK _ _ ⟨(),iF RJ ha rfl aV,hC.call (by decide) hl (dH.trans (aM.mono dH.size))⟩
          rotate_left 4
          ·unfold Oper.wp;simp[go_sem,ev,fG,aB,Oper.upon,g8,q1,zI,q2,zJ,q3,OW,IK];exact hK _ _ ⟨(),iF RJ ha rfl aV,pR.last (hC.off hl) (yI aV)⟩
          all_goals
           unfold Oper.wp;first
           |(simp[go_sem,ev,fG,aB,Oper.upon,g8,q1,zI,q2,zJ,q3,OW,IK];exact hK _ _ ⟨(),iF RJ ha rfl aV,hC.pure (by decide)⟩)
           |(simp[go_sem,ev,fG,Oper.upon,g8,q1,zI,q2,zJ,q3,OW,IK];exact hK _ _ ⟨(),iF RJ ha rfl aV,hC.pure (by decide)⟩)
         ·rintro x' s' a' wG gH ha hC;have hP:=hC.on (gH 10 (by decide));rw[vB _ _ _ _ (fun i hi=>by rw[Nat.zero_add];exact gH i (by simpa using hi))]at ha;subst ha;simp only[dZ,Act.put,List.setIfInBounds_toArray,List.set_cons_succ,List.set_cons_zero];have sK:=Qh (M9.O.quiet hP);have Zq:=Qh (jg S9.O hP);have Zr:=Qh (jg R9.O hP);clear gH hC M9 S9 R9 hP g8 G8 G9 RF RG q1 q2 q3 tJ zI zJ OW;go_wp2;go_roundw;case rel=>exact⟨j+1,q+1,pre++(hp++([43]++nc++ct)),by omega,by omega,by go_num,by go_num,by rw[Hv3.O],by rw[iy.O];simp,by simp at nI ⊢;omega,sK.O,Zq.O,Zr.O⟩
          case measure=>simp[intOf];omega
        ·have k2:(f.err==0)=false:=by simpa using CY
         obtain⟨ea,er⟩:=Xmx (fs:=fs.drop (q+1)) mo CY;rw[ea,er,CE.O]at iy;rw[ea,CE.O]at nI;have q1:¬9223372036854775807<v0.length+1:=by omega
         clear CY ea er F9;go_wp2;go_roundw;case rel=>exact⟨j+1,q+1,pre++(hp++[45]),by omega,by omega,by go_num,by go_num,by rw[show u3++(pre++(hp++[45]))=v0++[45] by rw[←tJ,←RL.O];simp],by rw[iy.O];simp,by simp at nI ⊢;omega,M9.O,S9.O,R9.O⟩
         case measure=>simp[intOf];omega
       ·rw[Xsr Ow.O (by omega)]at OA;have qO:fs.drop q=[]:=List.drop_of_length_le (by omega);have JQ:fs.drop (q+1)=[]:=List.drop_of_length_le (by omega);obtain⟨ea,er⟩:=Xp7 mo;rw[qO,ea,er,CE.O]at iy;rw[qO,ea,CE.O]at nI;have iy:=Qh (show fu fs x.ay=pre++(hp++[45]++fu (fs.drop (q+1)) (x.ay.drop (j+1))) by rw[JQ];exact iy.O);have q1:¬9223372036854775807<v0.length+1:=by omega
        clear qO JQ ea er II;go_wp2_with fail
        refine(OA.O _ M8.O.ok).mono ?_;rintro e9 w9 ⟨va,vx,rfl,h2,h3,ig⟩;obtain⟨fa,fk,rfl,_,_,_⟩:=id h2;obtain⟨fx,fy,rfl,_,_,_⟩:=id h3;have M9:=Qh ((M8.O.quiet ig).past (.cells #[.int .i64 fD.mh,.int .i64 fD.dm.ai,S fD.dm.af,.slice fa fD.dm.ag.length fk,S fD.dm.target,.int .i64 fD.dm.size,S fD.dm.aj,.slice fx fD.dm.ak.length fy,S fD.aU,.int .i64 fD.err] 38));have S9:=Qh ((Below.heap_alloc w9 (.cells #[.int .i64 fD.mh,.int .i64 fD.dm.ai,S fD.dm.af,.slice fa fD.dm.ag.length fk,S fD.dm.target,.int .i64 fD.dm.size,S fD.dm.aj,.slice fx fD.dm.ak.length fy,S fD.aU,.int .i64 fD.err] 38) _ (Qi (jg S8.O ig)).1).trans (jg S8.O ig));have R9:=Qh ((Below.heap_alloc w9 (.cells #[.int .i64 fD.mh,.int .i64 fD.dm.ai,S fD.dm.af,.slice fa fD.dm.ag.length fk,S fD.dm.target,.int .i64 fD.dm.size,S fD.dm.aj,.slice fx fD.dm.ak.length fy,S fD.aU,.int .i64 fD.err] 38) _ (Qi (jg R8.O ig)).1).trans (jg R8.O ig));clear M8 S8 R8 ig y0 c0 c3 r0 r1 h2 h3 OA;go_wp2;go_roundw;case rel=>exact⟨j+1,q+1,pre++(hp++[45]),by omega,by omega,by go_num,by go_num,by rw[show u3++(pre++(hp++[45]))=v0++[45] by rw[←tJ,←RL.O];simp],by rw[iy.O];simp,by simp at nI ⊢;omega,M9.O,S9.O,R9.O⟩
        case measure=>simp[intOf];omega
      ·have k1:(y.ai !=1)=true:=by simpa using mo
       obtain⟨e1,e2⟩:=Xtq (fs:=fs.drop q) mo;obtain⟨z0,jY⟩:∃z0,aY ((0:Nat):Int)=z0:=⟨_,rfl⟩;have e1:nE (fs.drop q) y=hp++([43]++z0):=by rw[e1,CE.O,←jY];rfl
       have oO:=qP 0 (by omega);rw[jY]at oO;have qV:=Qh (ES.O 0 (by omega));rw[jY]at qV;rw[e1,e2]at iy;rw[e1]at nI;have q1:¬9223372036854775807<v0.length+1:=by omega
       have q2:¬9223372036854775807<v0.length+1+z0.length:=by omega
       have q3:¬9223372036854775807<v0.length+(z0.length+1):=by omega
       clear mo e1 e2 jY;go_wp2_with fail
       refine(qV.O _).mono ?_;rintro e10 Dj ⟨rfl,rC⟩;have sK:=Qh (M8.O.quiet rC);have Zq:=Qh (jg S8.O rC);have Zr:=Qh (jg R8.O rC);clear M8 S8 R8 rC y0 c0 c3 r0 r1;go_wp2;go_roundw;case rel=>exact⟨j+1,q,pre++(hp++([43]++z0)),by omega,by omega,by go_num,by go_num,by rw[show u3++(pre++(hp++([43]++z0)))=v0++43::z0 by rw[←tJ,←RL.O];simp],by rw[iy.O];simp,by simp at nI ⊢;omega,sK.O,Zq.O,Zr.O⟩
       case measure=>simp[intOf];omega
     ·have jf:fu fs x.ay=pre:=by rw[Hr.O,List.drop_of_length_le (show x.ay.length≤j by omega)];simp[fu]
      have xE:=Qh (show N=u4++(L.drop (k+1)).flatMap (kP F) by rw[bB.O,jf,←RL.O];simp);have hlp:pre.length≤2100000:=by omega
      clear Hr jf;go_wp2;go_roundw;case rel=>exact⟨k+1,u4,by omega,by go_num,rfl,xE.O,by omega,M.O,RR.O⟩
      case measure=>simp[intOf];omega
  ·have jf:N=u:=by rw[Hr.O,List.drop_of_length_le (show L.length≤k by omega)];simp
   clear Hr;subst jf;go_wp2;go_ret;exact⟨rfl,M.O.dE⟩
abbrev smL(b o n cp b2 o2 cp2 k:Nat)(c:tF)(va vb:Value)(x:Nat×Nat):List (Option Tmp×Value):=
 [(some 20,.slice (some ⟨b,o,none⟩) n cp),(some 21,.int .i64 (k:Int)),(some 22,.pointer (some ⟨b,o+k*5,none⟩)),(some 23,QW c va),(some 24,.slice (some ⟨b2,o2,none⟩) n cp2),(some 25,.int .i64 (k:Int)),(some 26,.pointer (some ⟨b2,o2+k*5,none⟩)),(some 27,QW c vb),(some 6,.pointer (some ⟨x.1,0,none⟩)),(some 7,.pointer (some ⟨x.2,0,none⟩)),(none,undef),(none,undef)]
abbrev UZ(b o n cp k:Nat)(a:Int)(y:aG)(va vx:Value)(x:Nat×Nat):List (Option Tmp×Value):=
 [(some 40,.slice (some ⟨b,o,none⟩) n cp),(some 41,.int .i64 (k:Int)),(some 42,.pointer (some ⟨b,o+k*6,none⟩)),(some 43,.pointer (some ⟨b,o+k*6,none⟩)),(some 44,.int .i64 a),(some 45,fB y va vx),(some 46,.agg #[.int .i64 a,.int .i64 y.ai,S y.af,va,S y.target,.int .i64 y.size,S y.aj,vx,.string ⟨#[]⟩,.int .i64 0]),(some 10,.pointer (some ⟨x.1,0,none⟩)),(none,undef)]
theorem RN{b cp k:Nat}{a:Int}{y:aG}{va vx:Value}{x:Nat×Nat}:bL (UZ b o n cp k a y va vx x):=by
 unfold bL;simp
theorem Xsb(st:List ae)(m:Nat)(num:Int)(n:Nat):gV st m num [] n=[]:=rfl
theorem Xvc(h:e.ai≠1):gV st m num (e::l) n=gV st m num l n∧jb (e::l)=jb l:=by
 refine⟨by rw[gV,if_pos h],?_⟩;unfold jb;rw[List.filter_cons,if_neg (by simpa using h)]
theorem Xsa(h:e.ai=1):gV st m num (e::l) n=kV st m num e n::gV st m num l (n+1)∧jb (e::l)=jb l+1:=by
 refine⟨by rw[gV,if_neg (by omega)],?_⟩;unfold jb;rw[List.filter_cons,if_pos (by simpa using h),List.length_cons]
theorem Xwm(m n:Nat):(((m:Int) / 2^(n%64)).tmod 2==1)=wo m n:=by
 unfold wo;have e1:((m:Int) / 2^(n%64))=((m / 2^(n%64):Nat):Int):=by rw[Int.natCast_ediv];simp
 rw[e1,Nat.shiftRight_eq_div_pow,Int.tmod_eq_emod_of_nonneg (Int.natCast_nonneg _)];rw[Bool.eq_iff_iff];simp;omega
theorem Xjt(h:(jr st e).2≠0∨wo m n=true):kV st m num e n=⟨num,e,[],19⟩:=by unfold kV;rw[if_pos h]
theorem Xqy(h1:(jr st e).2=0)(h2:wo m n=false):kV st m num e n=⟨num,e,(jr st e).1,0⟩:=by
 unfold kV;rw[if_neg (by rw[h2];simp[h1])]
structure Ap (I:IH) (w:World) (vs v:Value) (l:List Rec) (W:World):Prop where
 dE:Below w.heap.size w W
 r4:W.heap[w.heap.size]?=some (.cells #[.slice none 0 0,.slice none 0 0] 28 (0,0))
 r5:W.heap[w.heap.size+1]?=some (.cells #[vs,v] 28 (0,0))
 own:aP nY 38 I W (w.heap.size+2) v l
 sz:w.heap.size+2≤W.heap.size
section
variable {I:IH} {w W W':World} {vs v v':Value} {l l':List Rec}
theorem Ap.aA(h:Ap I w vs v l W)(hb:Below W.heap.size W W'):Ap I w vs v l W':=⟨h.dE.trans (hb.mono h.dE.size),jg h.r4 hb,jg h.r5 hb,h.own.below hb,Nat.le_trans h.sz hb.size⟩
theorem Ap.past(h:Ap I w vs v l W)(o:Obj):Ap I w vs v l (W.alloc o):=h.aA ((Qb _ _).alloc (Qn _) o)
theorem Ap.low(h:Ap I w vs v l W)(hg:W.grownBy W' (some g))(Kb:w.heap.size+2≤g)(bZ:v.ownBlock≠some g):Ap I w vs v l W':=
 ⟨h.dE.grown hg h.dE.size (fun k q=>by injection q with q;omega),iL h.r4 hg (fun q=>by injection q with q;omega),iL h.r5 hg (fun q=>by injection q with q;omega),
   h.own.kept hg (by
    cases hv:v.ownBlock with
    |none=>exact .inl rfl
    |some k=>exact .inr (by rw[←hv];exact bZ)),Nat.le_trans h.sz hg.size⟩
end
theorem Zt(I:IH)(vs:Value)(L:List bR)(lS:bf lL I vs L)(hg:∀x∈L,jA x)(hn:L.length≤1000)(m:Nat)(hm:m<18446744073709551616)(w:World)(hw:Ok I w):
 Calls Tryz.prog 8 #[vs,.int .u64 m] w fun r w'=> ∃vf J,r= .returned (EI vs vf)∧Below w.heap.size w w'∧Ext w.heap.size I J∧Ok J w'∧bf nY J vf (dP (aK L) m L 0):=by
 have Ox:=Qh (fun x va vx eP eT w hw=>Xn9 I vs L lS hg hn x va vx eP eT w hw);have Hv:=Qh lS;have Hg:=Qh hg;have Rh:=lS.bW;obtain⟨so,sc,rfl,_,_,_⟩:=id lS;obtain⟨N,ET⟩:∃N,dP (aK L) m L 0=N:=⟨_,rfl⟩;rw[ET];have lH:=Qh (show N=[]++dP (aK L) m (L.drop 0) 0 from ET.symm)
 have M0:=Qh (show Ap I w (.slice so L.length sc) (.slice none 0 0) [] ((w.alloc (.cells #[.slice none 0 0,.slice none 0 0] 28)).alloc (.cells #[.slice so L.length sc,.slice none 0 0] 28))from
  ⟨((Qb _ _).alloc (Qn _) _).alloc (by simp) _,(Below.heap_alloc _ _ _ (by simp)).trans (heap_alloc_new w _),
    (by have:=heap_alloc_new (w.alloc (.cells #[.slice none 0 0,.slice none 0 0] 28)) (.cells #[.slice so L.length sc,.slice none 0 0] 28);simpa using this),aP.nil _ _ _ _ _,by simp⟩)
 have kr:=Qh (fun b (h:w.heap.size≤b)=>hw.fresh h);clear lS hg ET;go_enter Tryz.func8,Tryz.ntmps8
 go_wp2_with fail
 go_loopw [6,7,8,9,10] (fun s6 s7 _ _ _ wr=> ∃(k n:Nat) (v:Value) (acc:List Rec),k≤L.length∧s7= .int .i64 k∧s6= .int .i64 n∧n≤30*k∧acc.length=n∧N=acc++dP (aK L) m (L.drop k) n∧Ap I w (.slice so L.length sc) v acc wr) (fun _ i _ _ _ _=>L.length-(intOf i).toNat)
 case atStart=>exact⟨0,0,.slice none 0 0,[],Nat.zero_le _,rfl,rfl,by simp,rfl,lH.O,M0.O⟩
 case round=>
  clear M0 lH;obtain⟨k,n,v,acc,hk,rfl,rfl,hnk,nM,hr,hM⟩:=hrel;have Hr:=Qh hr;have M:=Qh hM;clear hr hM;have dA:Ok I wr:=hw.below (Qn _) M.O.dE;by_cases hlt:k<L.length
  ·obtain⟨x,ve,bb,off,cap',bH,dn,HX,h1⟩:=Dl Hv.O hw k hlt;cases dn;obtain⟨oe,ce,rfl,_,_,_⟩:=id h1;have OQ:=block_lt_of_cell HX.c0;have Zu:=Qh HX;have JN:=(Hg.O x (by rw[←bH];exact List.getElem_mem hlt)).mi;have bB:=Qh (show N=acc++(gV (aK L) m x.num (x.ay.drop 0) n++dP (aK L) m (L.drop (k+1)) (n+jb (x.ay.drop 0))) by rw[Hr.O,List.drop_eq_getElem_cons hlt,bH];rfl);have vK:=Qh h1;have MK:(k:Int)<(L.length:Int):=by omega
   obtain⟨c0,c1,c2,c3,c4,c5⟩:=Zu.O.far M.O.dE OQ;clear bH h1 Hr HX;go_wp2_with fail
   go_loopw [6,8,9,10] (fun s6 s8 _ _ wr=> ∃(j n:Nat) (v:Value) (acc:List Rec),j≤x.ay.length∧s8= .int .i64 j∧s6= .int .i64 n∧n≤30*k+j∧acc.length=n∧N=acc++(gV (aK L) m x.num (x.ay.drop j) n++dP (aK L) m (L.drop (k+1)) (n+jb (x.ay.drop j)))∧Ap I w (.slice (some ⟨bb,off,none⟩) L.length sc) v acc wr) (fun _ i _ _ _=>x.ay.length-(intOf i).toNat)
   case atStart=>exact⟨0,n,v,acc,Nat.zero_le _,rfl,rfl,by omega,nM,bB.O,M.O⟩
   case round=>
    clear M bB c0 c1 c2 c3 c4 c5 nM hnk;obtain⟨j,n,v,acc,hj,rfl,rfl,hnk,nM,hr,hM⟩:=hrel;have Hr:=Qh hr;have M:=Qh hM;clear hr hM;have dA:Ok I wr:=hw.below (Qn _) M.O.dE;obtain⟨c0,c1,c2,c3,c4,c5⟩:=Zu.O.far M.O.dE OQ;have rH:=Qh nM;clear nM;by_cases tq:j<x.ay.length
    ·obtain⟨y,wa,wx,g,go',gc,iH,Tc,⟨y0,y1,y2,y3,y4,y5,y6⟩,h2,h3⟩:=qi vK.O dA j tq;cases Tc;have Df:=Qh (show x.ay.drop j=y::x.ay.drop (j+1) by rw[List.drop_eq_getElem_cons tq,iH]);have uO:(j:Int)<(x.ay.length:Int):=by omega
     have Zv:=Qh (Ox.O y wa wx h2 h3);have H2:=Qh h2;have H3:=Qh h3;obtain⟨ya,yc,rfl,_,_,_⟩:=id h2;obtain⟨yx,yd,rfl,_,_,_⟩:=id h3;have M1:=Qh (M.O.past (.cells #[.int .i64 y.ai,S y.af,.slice ya y.ag.length yc,S y.target,.int .i64 y.size,S y.aj,.slice yx y.ak.length yd] 35));have EB:=Qh (cB (W:=wr) (e:=y) (va:= .slice ya y.ag.length yc) (vx:= .slice yx y.ak.length yd) (t:=35) rfl (Qb _ _));clear iH h2 h3 M;by_cases mo:y.ai=1
     ·have k1:(y.ai !=1)=false:=by rw[mo];rfl
      obtain⟨ea,RO⟩:=Xsa (st:=aK L) (m:=m) (num:=x.num) (e:=y) (l:=x.ay.drop (j+1)) (n:=n) mo;have oU:=Qh (show N=(acc++[kV (aK L) m x.num y n])++(gV (aK L) m x.num (x.ay.drop (j+1)) (n+1)++dP (aK L) m (L.drop (k+1)) (n+1+jb (x.ay.drop (j+1)))) by
       rw[Hr.O,Df.O,ea,RO,show n+(jb (x.ay.drop (j+1))+1)=n+1+jb (x.ay.drop (j+1)) by omega];simp)
      obtain⟨W8,U0⟩:∃W8,wr.alloc (.cells #[.int .i64 y.ai,S y.af,.slice ya y.ag.length yc,S y.target,.int .i64 y.size,S y.aj,.slice yx y.ak.length yd] 35)=W8:=⟨_,rfl⟩;have HW8:=Qh U0;obtain⟨eb,mY⟩:∃eb,wr.heap.size=eb:=⟨_,rfl⟩;have UX:=Qh mY;have C8:=Qh (Zu.O.far (show Below w.heap.size w W8 from by rw[←U0];exact M1.O.dE) OQ);rw[U0]at M1 EB;rw[mY]at EB;clear ea RO Hr Df mo U0 mY;go_upto_region 11 with fail
      try rw[show wr.alloc (.cells #[.int .i64 y.ai,S y.af,.slice ya y.ag.length yc,S y.target,.int .i64 y.size,S y.aj,.slice yx y.ak.length yd] 35)=W8 from HW8.O]
      try rw[show wr.heap.size=eb from UX.O]
      clear y0 y1 y2 y3 y4 y5 y6 c0 c1 c2 c3 c4 c5;obtain⟨y0,y1,y2,y3,y4,y5,y6⟩:=EB.O;obtain⟨c0,_,_,_,_,_⟩:=C8.O;refine uW (X:=Nat×Nat) (UZ bb off L.length sc k x.num y (.slice ya y.ag.length yc) (.slice yx y.ak.length yd)) (Cq W8 7 99 8 98 38 jO #[.int .i64 x.num,.int .i64 y.ai,S y.af,.slice ya y.ag.length yc,S y.target,.int .i64 y.size,S y.aj,.slice yx y.ak.length yd,.string ⟨#[]⟩,.int .i64 0] #[]) (by kernel_rfl) (by kernel_rfl) ?_ ?_ ?_
      ·exact⟨(0,0),Cq.start _ _⟩
      ·rintro z s' a' w' i eU gI ha hC hi;obtain⟨aV,oi,eX,aB⟩:=mem_ready.1 hi;have ev:=zC RN ha;rcases i with _|_|_|_|_|_|_|_|_|i
       rotate_left 9
       ·simp at eX
       all_goals
        have fZ:=eX;simp at eX;subst eX;simp[Region.binds]at aB;have c0:=dh hC.dE c0;have y0:=dh hC.dE y0;have y1:=dh hC.dE y1;have y2:=dh hC.dE y2;have y3:=dh hC.dE y3;have y4:=dh hC.dE y4;have y5:=dh hC.dE y5;have y6:=dh hC.dE y6;refine wpOp_step fZ (fun K' hK=> ?_);rw[if_pos (by rfl)]
       rotate_left 7
       ·unfold Oper.wp;simp[go_sem,ev,fG,Oper.upon];have ha:=ha.trans (NM (L:=UZ bb off L.length sc k x.num y (.slice ya y.ag.length yc) (.slice yx y.ak.length yd) z) (M:=UZ bb off L.length sc k x.num y (.slice ya y.ag.length yc) (.slice yx y.ak.length yd) (w'.heap.size,z.2)) [7] rfl (fun j bZ=>by
         rcases j with _|_|_|_|_|_|_|_|_|j<;>first|rfl|(exact absurd (by decide) bZ)|simp) (List.forall_mem_cons.2 ⟨Cb aV,List.forall_mem_nil _⟩))
        exact hK _ _ ⟨(w'.heap.size,z.2),iF RN ha rfl aV,hC.XR (by decide) (xW 4 8 gI (by kernel_rfl) aV)⟩
       ·have hd:s'.getD 7 false=true:=(by first|simpa using aB|simp[aB]);obtain⟨_,bI⟩:=hC.b1 hd;rw[Cb aV,if_neg (by simp)]at bI;refine GZ 38 _ _ rfl z.1 0 [.int .i64 x.num,.int .i64 y.ai,S y.af,.slice ya y.ag.length yc,S y.target,.int .i64 y.size,S y.aj,.slice yx y.ak.length yd,.string ⟨#[]⟩,.int .i64 0] (.agg #[.int .i64 x.num,.int .i64 y.ai,S y.af,.slice ya y.ag.length yc,S y.target,.int .i64 y.size,S y.aj,.slice yx y.ak.length yd,.string ⟨#[]⟩,.int .i64 0]) (by simp[Act.eval,ev,fG,aB]) (by simp[Act.eval,ev,fG,aB]) (by rfl) _ _ bI (by simp) (by kernel_rfl) (by simp[Value.oneCell']) ?_;exact hK _ _ ⟨z,j6 (d:=none) (v:=undef) RN ha rfl aV,hC.Ab aV (by decide) hd (by rfl)⟩
       all_goals
        unfold Oper.wp;first
        |(simp[go_sem,ev,fG,aB,Oper.upon,c0,y0,y1,y2,y3,y4,y5,y6,MK];exact hK _ _ ⟨z,iF RN ha rfl aV,hC.pure (by decide)⟩)
        |(simp[go_sem,ev,fG,Oper.upon,c0,y0,y1,y2,y3,y4,y5,y6,MK];exact hK _ _ ⟨z,iF RN ha rfl aV,hC.pure (by decide)⟩)
      ·rintro z s' a' wE gH ha hC;obtain⟨fb,z2⟩:=z;obtain⟨AB,r1⟩:=hC.b1 (gH 7 (by decide));rw[if_pos (gH 8 (by decide))]at r1;have wm:=hC.dE;rw[vB _ _ _ _ (fun i hi=>by rw[Nat.zero_add];exact gH i (by simpa using hi))]at ha;subst ha;simp only[dZ,Act.put,List.setIfInBounds_toArray,List.set_cons_succ,List.set_cons_zero];have aop:=M1.O.sz;have jL:=M1.O.own.mP AB;have M2:=Qh (M1.O.aA wm);have E2:=Qh (EB.O.aA wm);have F2:=Qh r1;clear y0 y1 y2 y3 y4 y5 y6 c0 gH hC wm r1 EB C8 M1 HW8 UX;obtain⟨y0,y1,y2,y3,y4,y5,y6⟩:=E2.O;obtain⟨ct,er,hcc⟩:∃ct er,jr (aK L) y=(ct,er):=⟨_,_,rfl⟩;rw[hcc]at Zv;have IC:=Qh hcc;clear hcc;dsimp only at Zv;go_wp2_with fail
       refine(Zv.O _ (hw.below (Qn _) M2.O.dE)).mono ?_;rintro e3 w3 ⟨rfl,cO⟩;have M3:=Qh (M2.O.aA cO);have F3:=Qh (jg F2.O cO);have Dw:(Tryz.prog.info? 9).map (·.size)=some 1:=by kernel_rfl
       have uY:(Tryz.prog.info? 36).map (·.size)=some 1:=by kernel_rfl
       clear M2 F2 E2 cO y0 y1 y2 y3 y4 y5 y6;go_wp2_with (refine nO rfl rfl 9 _ _ rfl fb 8 [S ct] (S ct) (by simp[Act.eval,Act.put]) (by simp[Act.eval,Act.put]) (by rfl) _ 38 F3.O (by simp) Dw (by simp[Value.oneCell']) #[.int .i64 x.num,.int .i64 y.ai,S y.af,.slice ya y.ag.length yc,S y.target,.int .i64 y.size,S y.aj,.slice yx y.ak.length yd,S ct,.int .i64 0] (by rfl) ?_)
       intro w4 I6 AA;have M4:=Qh (M3.O.low I6 (by omega) jL);have F4:=Qh AA;clear M3 F3 I6 AA;go_wp2_with (refine nO rfl rfl 36 _ _ rfl fb 9 [.int .i64 er] (.int .i64 er) (by simp[Act.eval,Act.put]) (by simp[Act.eval,Act.put]) (by rfl) _ 38 F4.O (by simp) uY (by simp[Value.oneCell']) #[.int .i64 x.num,.int .i64 y.ai,S y.af,.slice ya y.ag.length yc,S y.target,.int .i64 y.size,S y.aj,.slice yx y.ak.length yd,S ct,.int .i64 er] (by rfl) ?_)
       intro w5 hg5 xA;have M5:=Qh (M4.O.low hg5 (by omega) jL);have F5:=Qh xA;have g9:=(cell_of_row _ _ 9 _ _ _ F5.O).trans rfl;clear M4 F4 hg5 xA;have Nf:=Xwm m n;go_upto_region 13 with fail
       by_cases JR:er=0
       ·have k2:(er !=0)=false:=by rw[JR];rfl
        cases hlb:wo m n
        ·rw[hlb]at Nf;have RP:=Qh (show kV (aK L) m x.num y n=⟨x.num,y,ct,er⟩ by rw[Xqy (by rw[IC.O];exact JR) hlb,IC.O,JR]);clear JR hlb;obtain⟨a8,k8,rfl⟩:=FU M5.O.own;have p0:=(cell_of_row _ _ 0 _ _ _ F5.O).trans rfl;have p1:=(cell_of_row _ _ 1 _ _ _ F5.O).trans rfl;have p2:=(cell_of_row _ _ 2 _ _ _ F5.O).trans rfl;have p3:=(cell_of_row _ _ 3 _ _ _ F5.O).trans rfl;have p4:=(cell_of_row _ _ 4 _ _ _ F5.O).trans rfl;have p5:=(cell_of_row _ _ 5 _ _ _ F5.O).trans rfl;have p6:=(cell_of_row _ _ 6 _ _ _ F5.O).trans rfl;have p7:=(cell_of_row _ _ 7 _ _ _ F5.O).trans rfl;have p8:=(cell_of_row _ _ 8 _ _ _ F5.O).trans rfl;have p9:=(cell_of_row _ _ 9 _ _ _ F5.O).trans rfl;have r1:=(cell_of_row _ _ 1 _ _ _ M5.O.r5).trans rfl;have eU:=M5.O.sz;go_wp2_with (at_builtin;refine oK UI rfl _ _ rfl _ _ _ rfl M5.O.own ⟨x.num,y,ct,er⟩ (uH ⟨x.num,y,ct,er⟩ (.slice ya y.ag.length yc) (.slice yx y.ak.length yd)) _ (by simp[Act.eval]) ⟨_,_,rfl,H2.O,H3.O⟩ (by have:=rH.O;omega) (by have:=rH.O;omega) eU ?_)
         intro v9 w9 uE eQ;obtain⟨a9,k9,rfl⟩:=FU uE;have qI:∀g,(Value.slice a8 acc.length k8).ownBlock=some g→w.heap.size+2≤g:=fun g hk=>(EJ M5.O.own hk).1;have B9:=Qh (Below.grown M5.O.dE eQ M5.O.dE.size (fun g hk=>by have:=qI g hk;omega));have R4:=Qh (iL M5.O.r4 eQ (fun q=>by have:=qI _ q;omega));have R5:=Qh (iL M5.O.r5 eQ (fun q=>by have:=qI _ q;omega));have O9:=Qh uE;have xS:=Nat.le_trans eU eQ.size;have zf:(Tryz.prog.info? 26).map (·.size)=some 1:=by kernel_rfl
         clear M5 F5 eQ uE qI p0 p1 p2 p3 p4 p5 p6 p7 p8 p9 r1;go_wp2_with (refine nO rfl rfl 26 _ _ rfl (w.heap.size+1) 1 [.slice a9 (acc++[(⟨x.num,y,ct,er⟩:Rec)]).length k9] (.slice a9 (acc++[(⟨x.num,y,ct,er⟩:Rec)]).length k9) (by simp[Act.eval,Act.put]) (by simp[Act.eval,Act.put]) (by rfl) _ 28 R5.O (by simp) zf (by simp[Value.oneCell']) _ (by rfl) ?_)
         intro Dj jN qG
         have sK:=Qh (show Ap I w (.slice (some ⟨bb,off,none⟩) L.length sc) (.slice a9 (acc++[(⟨x.num,y,ct,er⟩:Rec)]).length k9) (acc++[⟨x.num,y,ct,er⟩]) Dj from
          ⟨Below.grown B9.O jN B9.O.size (fun g hk=>by injection hk with hk;omega),iL R4.O jN (fun q=>by injection q with q;omega),qG,O9.O.kept jN (by
            cases hv:(Value.slice a9 (acc++[(⟨x.num,y,ct,er⟩:Rec)]).length k9).ownBlock with
            |none=>exact .inl rfl
            |some g=>exact .inr (fun e=>by have h1:=(EJ O9.O hv).1;injection e with e;omega)),Nat.le_trans xS jN.size⟩)
         clear B9 R4 R5 O9 jN qG;rw[RP.O]at oU;go_wp2;go_roundw;case rel=>exact⟨j+1,n+1,_,acc++[⟨x.num,y,ct,er⟩],by omega,by go_num,by go_num,by omega,by rw[List.length_append,rH.O];rfl,oU.O,sK.O⟩
         case measure=>simp[intOf];omega
        ·rw[hlb]at Nf;have RP:=Qh (show kV (aK L) m x.num y n=⟨x.num,y,[],19⟩from Xjt (.inr hlb));clear JR hlb;go_wp2_with (refine nO rfl rfl 9 _ _ rfl fb 8 [.string ⟨#[]⟩] (.string ⟨#[]⟩) (by simp[Act.eval,Act.put]) (by simp[Act.eval,Act.put]) (by rfl) _ 38 F5.O (by simp) Dw (by simp[Value.oneCell']) #[.int .i64 x.num,.int .i64 y.ai,S y.af,.slice ya y.ag.length yc,S y.target,.int .i64 y.size,S y.aj,.slice yx y.ak.length yd,.string ⟨#[]⟩,.int .i64 er] (by rfl) ?_)
         intro w6 tC zA;have M6:=Qh (M5.O.low tC (by omega) jL);have F6:=Qh zA;clear M5 F5 tC zA g9;go_wp2_with (refine nO rfl rfl 36 _ _ rfl fb 9 [.int .i64 19] (.int .i64 19) (by simp[Act.eval,Act.put]) (by simp[Act.eval,Act.put]) (by rfl) _ 38 F6.O (by simp) uY (by simp[Value.oneCell']) #[.int .i64 x.num,.int .i64 y.ai,S y.af,.slice ya y.ag.length yc,S y.target,.int .i64 y.size,S y.aj,.slice yx y.ak.length yd,.string ⟨#[]⟩,.int .i64 19] (by rfl) ?_)
         intro w7 j5 Ip;have M7:=Qh (M6.O.low j5 (by omega) jL);have F7:=Qh Ip;clear M6 F6 j5 Ip;obtain⟨a8,k8,rfl⟩:=FU M7.O.own;have p0:=(cell_of_row _ _ 0 _ _ _ F7.O).trans rfl;have p1:=(cell_of_row _ _ 1 _ _ _ F7.O).trans rfl;have p2:=(cell_of_row _ _ 2 _ _ _ F7.O).trans rfl;have p3:=(cell_of_row _ _ 3 _ _ _ F7.O).trans rfl;have p4:=(cell_of_row _ _ 4 _ _ _ F7.O).trans rfl;have p5:=(cell_of_row _ _ 5 _ _ _ F7.O).trans rfl;have p6:=(cell_of_row _ _ 6 _ _ _ F7.O).trans rfl;have p7:=(cell_of_row _ _ 7 _ _ _ F7.O).trans rfl;have p8:=(cell_of_row _ _ 8 _ _ _ F7.O).trans rfl;have p9:=(cell_of_row _ _ 9 _ _ _ F7.O).trans rfl;have r1:=(cell_of_row _ _ 1 _ _ _ M7.O.r5).trans rfl;have eU:=M7.O.sz;go_wp2_with (at_builtin;refine oK UI rfl _ _ rfl _ _ _ rfl M7.O.own ⟨x.num,y,[],19⟩ (uH ⟨x.num,y,[],19⟩ (.slice ya y.ag.length yc) (.slice yx y.ak.length yd)) _ (by simp[Act.eval]) ⟨_,_,rfl,H2.O,H3.O⟩ (by have:=rH.O;omega) (by have:=rH.O;omega) eU ?_)
         intro v9 w9 uE eQ;obtain⟨a9,k9,rfl⟩:=FU uE;have qI:∀g,(Value.slice a8 acc.length k8).ownBlock=some g→w.heap.size+2≤g:=fun g hk=>(EJ M7.O.own hk).1;have B9:=Qh (Below.grown M7.O.dE eQ M7.O.dE.size (fun g hk=>by have:=qI g hk;omega));have R4:=Qh (iL M7.O.r4 eQ (fun q=>by have:=qI _ q;omega));have R5:=Qh (iL M7.O.r5 eQ (fun q=>by have:=qI _ q;omega));have O9:=Qh uE;have xS:=Nat.le_trans eU eQ.size;have zf:(Tryz.prog.info? 26).map (·.size)=some 1:=by kernel_rfl
         clear M7 F7 eQ uE qI p0 p1 p2 p3 p4 p5 p6 p7 p8 p9 r1;go_wp2_with (refine nO rfl rfl 26 _ _ rfl (w.heap.size+1) 1 [.slice a9 (acc++[(⟨x.num,y,[],19⟩:Rec)]).length k9] (.slice a9 (acc++[(⟨x.num,y,[],19⟩:Rec)]).length k9) (by simp[Act.eval,Act.put]) (by simp[Act.eval,Act.put]) (by rfl) _ 28 R5.O (by simp) zf (by simp[Value.oneCell']) _ (by rfl) ?_)
         intro Dj jN qG
         have sK:=Qh (show Ap I w (.slice (some ⟨bb,off,none⟩) L.length sc) (.slice a9 (acc++[(⟨x.num,y,[],19⟩:Rec)]).length k9) (acc++[⟨x.num,y,[],19⟩]) Dj from
          ⟨Below.grown B9.O jN B9.O.size (fun g hk=>by injection hk with hk;omega),iL R4.O jN (fun q=>by injection q with q;omega),qG,O9.O.kept jN (by
            cases hv:(Value.slice a9 (acc++[(⟨x.num,y,[],19⟩:Rec)]).length k9).ownBlock with
            |none=>exact .inl rfl
            |some g=>exact .inr (fun e=>by have h1:=(EJ O9.O hv).1;injection e with e;omega)),Nat.le_trans xS jN.size⟩)
         clear B9 R4 R5 O9 jN qG;rw[RP.O]at oU;go_wp2;go_roundw;case rel=>exact⟨j+1,n+1,_,acc++[⟨x.num,y,[],19⟩],by omega,by go_num,by go_num,by omega,by rw[List.length_append,rH.O];rfl,oU.O,sK.O⟩
         case measure=>simp[intOf];omega
       ·have k2:(er !=0)=true:=by simpa using JR
        have RP:=Qh (show kV (aK L) m x.num y n=⟨x.num,y,[],19⟩from Xjt (.inl (by rw[IC.O];exact JR)));clear JR Nf;go_wp2_with (refine nO rfl rfl 9 _ _ rfl fb 8 [.string ⟨#[]⟩] (.string ⟨#[]⟩) (by simp[Act.eval,Act.put]) (by simp[Act.eval,Act.put]) (by rfl) _ 38 F5.O (by simp) Dw (by simp[Value.oneCell']) #[.int .i64 x.num,.int .i64 y.ai,S y.af,.slice ya y.ag.length yc,S y.target,.int .i64 y.size,S y.aj,.slice yx y.ak.length yd,.string ⟨#[]⟩,.int .i64 er] (by rfl) ?_)
        intro w6 tC zA;have M6:=Qh (M5.O.low tC (by omega) jL);have F6:=Qh zA;clear M5 F5 tC zA g9;go_wp2_with (refine nO rfl rfl 36 _ _ rfl fb 9 [.int .i64 19] (.int .i64 19) (by simp[Act.eval,Act.put]) (by simp[Act.eval,Act.put]) (by rfl) _ 38 F6.O (by simp) uY (by simp[Value.oneCell']) #[.int .i64 x.num,.int .i64 y.ai,S y.af,.slice ya y.ag.length yc,S y.target,.int .i64 y.size,S y.aj,.slice yx y.ak.length yd,.string ⟨#[]⟩,.int .i64 19] (by rfl) ?_)
        intro w7 j5 Ip;have M7:=Qh (M6.O.low j5 (by omega) jL);have F7:=Qh Ip;clear M6 F6 j5 Ip;obtain⟨a8,k8,rfl⟩:=FU M7.O.own;have p0:=(cell_of_row _ _ 0 _ _ _ F7.O).trans rfl;have p1:=(cell_of_row _ _ 1 _ _ _ F7.O).trans rfl;have p2:=(cell_of_row _ _ 2 _ _ _ F7.O).trans rfl;have p3:=(cell_of_row _ _ 3 _ _ _ F7.O).trans rfl;have p4:=(cell_of_row _ _ 4 _ _ _ F7.O).trans rfl;have p5:=(cell_of_row _ _ 5 _ _ _ F7.O).trans rfl;have p6:=(cell_of_row _ _ 6 _ _ _ F7.O).trans rfl;have p7:=(cell_of_row _ _ 7 _ _ _ F7.O).trans rfl;have p8:=(cell_of_row _ _ 8 _ _ _ F7.O).trans rfl;have p9:=(cell_of_row _ _ 9 _ _ _ F7.O).trans rfl;have r1:=(cell_of_row _ _ 1 _ _ _ M7.O.r5).trans rfl;have eU:=M7.O.sz;go_wp2_with (at_builtin;refine oK UI rfl _ _ rfl _ _ _ rfl M7.O.own ⟨x.num,y,[],19⟩ (uH ⟨x.num,y,[],19⟩ (.slice ya y.ag.length yc) (.slice yx y.ak.length yd)) _ (by simp[Act.eval]) ⟨_,_,rfl,H2.O,H3.O⟩ (by have:=rH.O;omega) (by have:=rH.O;omega) eU ?_)
        intro v9 w9 uE eQ;obtain⟨a9,k9,rfl⟩:=FU uE;have qI:∀g,(Value.slice a8 acc.length k8).ownBlock=some g→w.heap.size+2≤g:=fun g hk=>(EJ M7.O.own hk).1;have B9:=Qh (Below.grown M7.O.dE eQ M7.O.dE.size (fun g hk=>by have:=qI g hk;omega));have R4:=Qh (iL M7.O.r4 eQ (fun q=>by have:=qI _ q;omega));have R5:=Qh (iL M7.O.r5 eQ (fun q=>by have:=qI _ q;omega));have O9:=Qh uE;have xS:=Nat.le_trans eU eQ.size;have zf:(Tryz.prog.info? 26).map (·.size)=some 1:=by kernel_rfl
        clear M7 F7 eQ uE qI p0 p1 p2 p3 p4 p5 p6 p7 p8 p9 r1;go_wp2_with (refine nO rfl rfl 26 _ _ rfl (w.heap.size+1) 1 [.slice a9 (acc++[(⟨x.num,y,[],19⟩:Rec)]).length k9] (.slice a9 (acc++[(⟨x.num,y,[],19⟩:Rec)]).length k9) (by simp[Act.eval,Act.put]) (by simp[Act.eval,Act.put]) (by rfl) _ 28 R5.O (by simp) zf (by simp[Value.oneCell']) _ (by rfl) ?_)
        intro Dj jN qG
        have sK:=Qh (show Ap I w (.slice (some ⟨bb,off,none⟩) L.length sc) (.slice a9 (acc++[(⟨x.num,y,[],19⟩:Rec)]).length k9) (acc++[⟨x.num,y,[],19⟩]) Dj from
         ⟨Below.grown B9.O jN B9.O.size (fun g hk=>by injection hk with hk;omega),iL R4.O jN (fun q=>by injection q with q;omega),qG,O9.O.kept jN (by
           cases hv:(Value.slice a9 (acc++[(⟨x.num,y,[],19⟩:Rec)]).length k9).ownBlock with
           |none=>exact .inl rfl
           |some g=>exact .inr (fun e=>by have h1:=(EJ O9.O hv).1;injection e with e;omega)),Nat.le_trans xS jN.size⟩)
        clear B9 R4 R5 O9 jN qG;rw[RP.O]at oU;go_wp2;go_roundw;case rel=>exact⟨j+1,n+1,_,acc++[⟨x.num,y,[],19⟩],by omega,by go_num,by go_num,by omega,by rw[List.length_append,rH.O];rfl,oU.O,sK.O⟩
        case measure=>simp[intOf];omega
     ·have k1:(y.ai !=1)=true:=by simpa using mo
      obtain⟨ea,RO⟩:=Xvc (st:=aK L) (m:=m) (num:=x.num) (e:=y) (l:=x.ay.drop (j+1)) (n:=n) mo;have oU:=Qh (show N=acc++(gV (aK L) m x.num (x.ay.drop (j+1)) n++dP (aK L) m (L.drop (k+1)) (n+jb (x.ay.drop (j+1)))) by rw[Hr.O,Df.O,ea,RO]);clear ea RO Hr Df mo;go_wp2;go_roundw;case rel=>exact⟨j+1,n,v,acc,by omega,by go_num,rfl,by omega,rH.O,oU.O,M1.O⟩
      case measure=>simp[intOf];omega
    ·have qO:x.ay.drop j=[]:=List.drop_of_length_le (by omega);have oU:=Qh (show N=acc++dP (aK L) m (L.drop (k+1)) n by rw[Hr.O,qO,Xsb];rfl);clear qO Hr;have uO:¬(j:Int)<(x.ay.length:Int):=by omega
     go_wp2;go_roundw;case rel=>exact⟨k+1,n,v,acc,by omega,by go_num,rfl,by omega,rH.O,oU.O,M.O⟩
     case measure=>simp[intOf];omega
  ·have qO:L.drop k=[]:=List.drop_of_length_le (by omega);have oU:=Qh (show acc=N by rw[Hr.O,qO,dP,List.append_nil]);clear qO Hr;clear nM hnk;obtain⟨a8,k8,rfl⟩:=FU M.O.own;have r0:=(cell_of_row _ _ 0 _ _ _ M.O.r5).trans rfl;have r1:=(cell_of_row _ _ 1 _ _ _ M.O.r5).trans rfl;have uY:(Tryz.prog.info? 28).map (·.size)=some 2:=by kernel_rfl
   have MK:¬(k:Int)<(L.length:Int):=by omega
   go_wp2_with (refine nO rfl rfl 28 _ _ rfl w.heap.size 0 [.slice so L.length sc,.slice a8 acc.length k8] (.agg #[.slice so L.length sc,.slice a8 acc.length k8]) (by simp[Act.eval,Act.put]) (by simp[Act.eval,Act.put]) (by rfl) _ 28 M.O.r4 (by simp) uY (by simp[Value.oneCell']) #[.slice so L.length sc,.slice a8 acc.length k8] (by rfl) ?_)
   intro w5 hg5 xA;have bq:Below w.heap.size w w5:=Below.grown M.O.dE hg5 M.O.dE.size (fun g hk=>by injection hk with hk;omega);have Rc:aP nY 38 I w5 (w.heap.size+2) (.slice a8 acc.length k8) acc:=M.O.own.kept hg5 (by
    cases hv:(Value.slice a8 acc.length k8).ownBlock with
    |none=>exact .inl rfl
    |some g=>exact .inr (fun e=>by have h1:=(EJ M.O.own hv).1;injection e with e;omega))
   obtain⟨J,hx,gG,JJ,_⟩:=Rc.freeze (hw.below (Qn _) bq) (fun b hb=>kr.O b (by omega));go_wp2_with fail
   try simp only[Exit.inBlock,Exit.then]
   refine bodyPost_ret (results_cell_row rfl _ _ w.heap.size _ #[.slice so L.length sc,.slice a8 acc.length k8] (0,0) _ rfl xA Tryz.underlying28 rfl uY) rfl ?_;exact⟨_,J,rfl,bq,hx.mono (by omega),gG,by rw[←oU.O];exact JJ⟩
theorem Zw{s:bR}(hg:jA s)(h0:dN s=0)(k:Nat):(pO s k).length≤1700000:=
 Xu2 hg (PH h0).1 fun e he=>WH (PH h0).2.2.2.1 e (List.mem_of_mem_take he)
theorem Zx(s:bR):pO s s.ay.length=kY s:=Xu3 s (Qn _)
theorem Xgv(I:IH)(s:bR)(ve:Value)(uX:bf bG I ve s.ay)(hg:jA s)(h0:dN s=0)(w:World)(hw:Ok I w):
 Calls Tryz.prog 87 #[uC s ve] w fun r w'=>r= .returned (S (kY s))∧Below w.heap.size w w':=by
 obtain⟨ao,co,rfl,_,_,_⟩:=id uX;have Hv:=Qh uX;have Hg:=Qh hg;have hks:=TR (PH h0).1;have lX:=Qh (WH (PH h0).2.2.2.1);have LG:=Qh (Zw hg h0);have LB:=hg.mi;have gB:=hg.aH;have vQ:=hg.aW;have Ml:=Dh (n:=s.num) (by omega) (by omega);have OO:=Dh (n:=s.aN) (by omega) (by omega);have BQ:=pY s.aW (by omega);have Ku:=qP s.aH.length (by omega);have IZ:=Xo8 s.aH;have Dc:=pY (dM s.aH) (by omega);have hm6:=qP s.ay.length (by omega);have H1:=Qh (fun w=>NT s.num (by omega) (by omega) w);have H2:=Qh (fun w=>NT s.aN (by omega) (by omega) w);have H3:=Qh (fun w=>Ed s.aW (by omega) w);have H4:=Qh (fun w=>NK s.aH.length (by omega) w);have H5:=Qh (fun w=>Ym s.aH (by omega) w);have H6:=Qh (fun w=>Ed (dM s.aH) (by omega) w);have H7:=Qh (fun w=>NK s.ay.length (by omega) w);have Hh:=Qh (show aY s.num++aY s.aN++aS s.aW++(aY s.aH.length++aS (dM s.aH)++aY s.ay.length)=pO s 0 by
  rw[pO,List.take_zero];simp[qz])
 have sw:=Qh (Zx s);clear uX hg h0 hks;generalize aY s.num=p1 at Ml H1 Hh;generalize aY s.aN=p2 at OO H2 Hh;generalize aS s.aW=p3 at BQ H3 Hh;generalize aY (s.aH.length:Int)=p4 at Ku H4 Hh;generalize aS (dM s.aH)=p6 at Dc H6 Hh;generalize dM s.aH=sm at IZ Dc H5 H6;generalize aY (s.ay.length:Int)=p7 at hm6 H7 Hh;have qg:=Qh (xz (W:=w) (s:=s) (ve:= .slice ao s.ay.length co) (t:=62) rfl (Qb _ _));have lW:=(Qb w.heap.size w).alloc (Qn _) (.cells #[.int .i64 s.num,.int .i64 s.aN,S s.aW,.slice ao s.ay.length co,S s.aH,S s.sl] 62);obtain⟨c0,c1,c2,c3,c4,c5⟩:=qg.O;have e0:=cell_regrown c0;have e1:=cell_regrown c1;have e2:=cell_regrown c2;have e3:=cell_regrown c3;have e4:=cell_regrown c4;clear c0 c1 c2 c3 c4 c5;go_enter Tryz.func87,Tryz.ntmps87
 go_wp2_with fail
 refine wp_region_quiet_below (by kernel_rfl) (by kernel_rfl) ?_;repeat(go_big_quiet_step ((with_reducible first|exact Calls.regrown_of (H1.O _)|exact Calls.regrown_of (H2.O _)|exact Calls.regrown_of (H3.O _)|exact Calls.regrown_of (H4.O _)|exact Calls.regrown_of (H5.O _)|exact Calls.regrown_of (H6.O _)|exact Calls.regrown_of (H7.O _))))
 refine wpQuiet_nil ?_;intro w1 bg;have au:Below ((w.alloc (.cells #[.int .i64 s.num,.int .i64 s.aN,S s.aW,.slice ao s.ay.length co,S s.aH,S s.sl] 62))).heap.size ((w.alloc (.cells #[.int .i64 s.num,.int .i64 s.aN,S s.aW,.slice ao s.ay.length co,S s.aH,S s.sl] 62))) w1:=by
  obtain⟨pq,rfl⟩:=bg;exact below_regrown _ _ _
 clear bg;have iq:=Qh (qg.O.aA au);have av:=lW.trans (au.mono lW.size);clear e0 e1 e2 e3 e4 au qg lW H1 H2 H3 H4 H5 H6 H7;go_wp2_with fail
 go_loopw [3,4] (fun s3 s4 wr=> ∃k:Nat,k≤s.ay.length∧s4= .int .i64 k∧s3=S (pO s k)∧nC wr w.heap.size s (.slice ao s.ay.length co)∧Below w.heap.size w wr) (fun _ i _=>s.ay.length-(intOf i).toNat)
 case atStart=>exact⟨0,Nat.zero_le _,rfl,by rw[←Hh.O];simp,iq.O,av⟩
 case round=>
  clear iq av;obtain⟨k,hk,rfl,rfl,mG,hb⟩:=hrel;have l5:=Qh mG;have dA:Ok I wr:=hw.below (Qn _) hb;have MK:=LG.O k;clear mG;obtain⟨c0,c1,c2,c3,c4,c5⟩:=l5.O;by_cases hlt:k<s.ay.length
  ·obtain⟨x,HZ,H8,b,off,cap',bH,dn,⟨x0,x1,x2,x3,x4,x5,x6⟩,h1,h2⟩:=qi Hv.O dA k hlt;cases dn;obtain⟨xa,xc,rfl,_,_,_⟩:=id h1;obtain⟨xx,xd,rfl,_,_,_⟩:=id h2;have gX:x∈s.ay:=by rw[←bH];exact List.getElem_mem hlt
   have hx0:=lX.O x gX;have yf:=Hg.O.ak x gX;have bB:=Qh (Xr0 hlt bH);have qf:=Qh (fun w hw=>Xlt I x _ _ h1 h2 (Hg.O.wf x gX) (Bn hx0) hx0 (by omega) w hw);have nI:=Xqc (Bn hx0) (show x.ak.length≤1000 by omega);clear bH h1 h2 gX hx0;generalize yD x=y at bB qf nI;generalize pO s k=u at bB MK ⊢;go_wp2_with fail
   refine(qf.O _ dA).mono ?_;rintro r w4 ⟨rfl,aM⟩;have fQ:=Qh (l5.O.aA aM);have aO:=hb.trans (aM.mono hb.size);clear aM l5 c0 c1 c2 c3 c4 c5 x0 x1 x2 x3 x4 x5 x6 qf;go_wp2;go_roundw;case rel=>exact⟨k+1,by omega,by go_num,(by rw[bB.O]),fQ.O,aO⟩
   case measure=>simp[intOf];omega
  ·have nK:k=s.ay.length:=by omega
   have Hn:=Qh (show pO s k=kY s by rw[nK];exact sw.O);rw[Hn.O];go_wp2;go_ret;exact⟨rfl,hb⟩
theorem Xlp(n:Nat)(hn:n≤1000000000000)(w:World):
 Calls Tryz.prog 144 #[.int .i64 n] w fun r w'=> ∃d:ae,d.length=8∧r= .returned (S d)∧Below w.heap.size w w':=by
 go_enter Tryz.func144,Tryz.ntmps144
 go_wp2_with fail
 go_loop [0,3,4] (fun s0 s3 s4=> ∃(i m:Nat) (d:ae),i≤8∧m≤1000000000000∧s4= .int .i64 i∧s0= .int .i64 m∧s3=S d∧d.length=i) (fun _ _ i=>8-(intOf i).toNat)
 case atStart=>exact⟨0,n,[],by omega,hn,rfl,rfl,rfl,rfl⟩
 case round=>
  obtain⟨i,m,d,hi,hm,rfl,rfl,rfl,hd⟩:=hrel;have Hd:=Qh hd;have VJ:d.length≤8:=by omega
  clear hd;by_cases hlt:i<8
  ·go_wp2;go_round;case rel=>exact⟨i+1,m / 10,_,by omega,by omega,by go_num,by go_num,rfl,by have:=Hd.O;simp;omega⟩
   case measure=>simp[intOf];omega
  ·have hd':d.length=8:=by have:=Hd.O;omega
   have Lj:=Qh hd';clear hd';go_wp2;go_ret;exact⟨d,Lj.O,rfl,Qb _ _⟩
theorem Xlq(I:IH)(s:bR)(ve:Value)(uX:bf bG I ve s.ay)(hg:jA s)(w:World)(hw:Ok I w):
 Calls Tryz.prog 85 #[uC s ve] w fun r w'=> ∃t:ae,r= .returned (.tuple #[S t,.int .i64 (dN s)])∧Below w.heap.size w w':=by
 have kg:=Qh (fun w hw=>Xn2 I s ve uX hg w hw);have L6:=Qh (fun h0 w hw=>Xgv I s ve uX hg h0 w hw);have Hl:=Qh (fun h0=>by have:=Zw hg h0 s.ay.length;rw[Zx]at this;exact this);obtain⟨ao,co,rfl,_,_,_⟩:=id uX;have JW:=hg.sl;clear uX hg;by_cases h0:dN s=0
 ·have Hs:=Qh (L6.O h0);have hl:=Hl.O h0;rw[h0]at kg ⊢;generalize kY s=u at Hs hl;have bB:=Qh (fun w=>Ed s.sl (by omega) w);have vO:=pY s.sl (by omega);generalize aS s.sl=q at bB vO;clear L6 Hl h0;go_enter Tryz.func85,Tryz.ntmps85
  go_wp2_with fail
  refine(kg.O _ (hw.alloc _)).mono ?_;rintro e1 w1 ⟨rfl,au⟩;have iq:=Qh (xz (s:=s) rfl au);have aD:Ok I w1:=(hw.alloc _).below (Qn _) au;have av:=((Qb w.heap.size w).alloc (Qn _) (.cells #[.int .i64 s.num,.int .i64 s.aN,S s.aW,.slice ao s.ay.length co,S s.aH,S s.sl] 62)).trans (au.mono (by simp));clear au kg;obtain⟨c0,c1,c2,c3,c4,c5⟩:=iq.O;go_wp2_with fail
  refine(Hs.O _ aD).mono ?_;rintro e2 w2 ⟨rfl,aF⟩;have oh:=Qh (iq.O.aA aF);have aL:=av.trans (aF.mono av.size);clear aF Hs iq av c0 c1 c2 c3 c4 c5;obtain⟨c0,c1,c2,c3,c4,c5⟩:=oh.O;go_wp2_with fail
  refine(bB.O _).mono ?_;rintro e3 w3 ⟨rfl,cO⟩;have dw:=aL.trans (cO.mono aL.size);clear cO bB oh aL c0 c1 c2 c3 c4 c5;have U1:=Qh (Xlp (u++q).length (by simp;omega) w3);simp only[List.length_append]at U1;go_wp2_with fail
  refine U1.O.mono ?_;rintro e4 w4 ⟨d,hd,rfl,aM⟩;have VJ:d.length≤8:=by omega
  clear hd;go_wp2;go_ret2;exact⟨_,rfl,dw.trans (aM.mono dw.size)⟩
 ·obtain⟨q,hq⟩:∃q,dN s=q:=⟨_,rfl⟩;rw[hq]at kg h0 ⊢;have AL:(q !=0)=true:=by simpa using h0
  clear h0 hq L6 Hl;go_enter Tryz.func85,Tryz.ntmps85
  go_wp2_with fail
  refine(kg.O _ (hw.alloc _)).mono ?_;rintro e1 w1 ⟨rfl,au⟩;have av:=((Qb w.heap.size w).alloc (Qn _) (.cells #[.int .i64 s.num,.int .i64 s.aN,S s.aW,.slice ao s.ay.length co,S s.aH,S s.sl] 62)).trans (au.mono (by simp));go_wp2;go_ret2;exact⟨[],rfl,av⟩
theorem Xgw(I:IH)(s:bR)(ve:Value)(uX:bf bG I ve s.ay)(hg:jA s)(w:World)(hw:Ok I w):
 Calls Tryz.prog 43 #[uC s ve] w fun r w'=>r= .returned (.tuple #[S (eD s).1,.int .i64 (eD s).2])∧Below w.heap.size w w':=by
 have qf:=Qh (fun w hw=>Xlq I s ve uX hg w hw);have L6:=Qh (fun h0 w hw=>Xgv I s ve uX hg h0 w hw);have Hl:=Qh (fun h0=>by have:=Zw hg h0 s.ay.length;rw[Zx]at this;exact this);obtain⟨ao,co,rfl,_,_,_⟩:=id uX;clear uX hg;by_cases h0:dN s=0
 ·have Hn:=Qh (show eD s=(dM (kY s),0) by rw[eD,if_neg (by omega)]);have Hs:=Qh (L6.O h0);have hl:=Hl.O h0;rw[h0]at qf;rw[Hn.O];generalize kY s=u at Hs hl ⊢;have U1:=Qh (fun w=>Ym u (by omega) w);clear L6 Hl h0 Hn;go_enter Tryz.func43,Tryz.ntmps43
  go_wp2_with fail
  refine(qf.O _ (hw.alloc _)).mono ?_;rintro e1 w1 ⟨t,rfl,au⟩;have iq:=Qh (xz (s:=s) rfl au);have aD:Ok I w1:=(hw.alloc _).below (Qn _) au;have av:=((Qb w.heap.size w).alloc (Qn _) (.cells #[.int .i64 s.num,.int .i64 s.aN,S s.aW,.slice ao s.ay.length co,S s.aH,S s.sl] 62)).trans (au.mono (by simp));clear au qf;obtain⟨c0,c1,c2,c3,c4,c5⟩:=iq.O;go_wp2_with fail
  refine(Hs.O _ aD).mono ?_;rintro e2 w2 ⟨rfl,aF⟩;have aL:=av.trans (aF.mono av.size);go_wp2_with fail
  refine(U1.O _).mono ?_;rintro e3 w3 ⟨rfl,cO⟩;go_wp2;go_ret2;exact⟨rfl,aL.trans (cO.mono aL.size)⟩
 ·have Hn:=Qh (show eD s=([],dN s) by rw[eD,if_pos h0]);rw[Hn.O];obtain⟨q,hq⟩:∃q,dN s=q:=⟨_,rfl⟩;rw[hq]at qf h0 ⊢;have AL:(q !=0)=true:=by simpa using h0
  clear h0 hq L6 Hl Hn;go_enter Tryz.func43,Tryz.ntmps43
  go_wp2_with fail
  refine(qf.O _ (hw.alloc _)).mono ?_;rintro e1 w1 ⟨t,rfl,au⟩;have av:=((Qb w.heap.size w).alloc (Qn _) (.cells #[.int .i64 s.num,.int .i64 s.aN,S s.aW,.slice ao s.ay.length co,S s.aH,S s.sl] 62)).trans (au.mono (by simp));go_wp2;go_ret2;exact⟨rfl,av⟩
