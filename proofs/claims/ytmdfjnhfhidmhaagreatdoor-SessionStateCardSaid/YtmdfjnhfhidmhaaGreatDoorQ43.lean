/- Lemmas for the claim's theorem;conditions: as each says. -/
import Derived.Test.YtmdfjnhfhidmhaaGreatDoorQ40
import Derived.Test.YtmdfjnhfhidmhaaGreatDoorQ41
import Derived.Test.YtmdfjnhfhidmhaaGreatDoorQ42
set_option maxHeartbeats 0
set_option maxRecDepth 100000
set_option linter.all false
namespace Go.Proofs.YtmdfjnhfhidmhaaGreatDoor
open Go.RowKit
theorem Xkx{α:Type}(T:Ty α)(I:IH)(ao:Option Addr):aY T I (.slice ao 0 0) []:=
 ⟨ao,0,rfl,Qn _,by unfold maxLen;omega,fun h=>absurd h (by simp)⟩
abbrev OZ(BD dl:Nat)(at':Option Addr)(ct:Nat)(aT:Option Addr)(tl cT:Nat)(ah:Option Addr)(dh ch:Nat)(aH:Option Addr)(hl cH:Nat)(az:Int)(al:Nat)(x:Option Addr×Nat):List (Option Tmp×Value):=
 [(some 74,.pointer (some ⟨BD,7,none⟩)),(some 75,.slice at' dl ct),(some 76,.int .i64 0),(some 77,.bool false),(some 78,.bool false),(some 79,.slice aT tl cT),(some 80,.int .i64 (tl:Int)),(some 81,.pointer (some ⟨BD,7,none⟩)),(some 82,.slice at' dl ct),(some 83,.int .i64 (dl:Int)),(some 84,.bool false),(some 85,.bool false),(some 86,.bool false),(some 87,.pointer (some ⟨BD,8,none⟩)),(some 88,.slice ah dh ch),(some 89,.slice aH hl cH),(some 90,.int .i64 az),(some 91,.slice x.1 al x.2),(some 92,.bool true),(some 93,.bool false),(some 94,.bool false)]
theorem IQ{BD dl:Nat}{at':Option Addr}{ct:Nat}{aT:Option Addr}{tl cT:Nat}{ah:Option Addr}{dh ch:Nat}{aH:Option Addr}{hl cH:Nat}{az:Int}{al:Nat}{x:Option Addr×Nat}:bE (OZ BD dl at' ct aT tl cT ah dh ch aH hl cH az al x):=by
 unfold bE;simp
theorem Xer(I:IH)(hI:cB I)(v:Value)(l:List mF)(hv:aY zU I v l)(lu:∀b∈l,b.In)(az:Int)(w:World)(hw:Ok I w):
 Calls Tryz.prog 8 #[v,.int .i64 az] w fun r w'=>r= .returned (.bool true)∧Below w.heap.size w w':=by
 have Ur:=Qh (fun J (hk:∀b c,I b=some c→J b=some c) w hw=>Xj7 J (hI.mono hk) w hw);have Me:=Qh (fun w hw=>Xnm I v l hv w hw);have A0:=Qh (lq.start hw);have HG:=Qh hI;have Hv:=Qh hv;obtain⟨ao,cap,rfl,_,_,_⟩:=id hv;cases hg:uL l;case true=>
  have e1:gJ l=1:=by rw[gJ,hg];rfl
  rw[e1]at Me;clear e1 hg hv hI;go_enter Tryz.func8,Tryz.ntmps8
  go_wp2_with fail
  refine(Me.q _ A0.q.ok).mono ?_;rintro e1 w1 ⟨rfl,aG⟩;have A1:=Qh (A0.q.quiet aG);clear aG A0;go_wp2_with fail
  refine(Ur.q I (fun _ _ h=>h) _ A1.q.ok).mono ?_;rintro e2 w2 ⟨rfl,aP⟩;have A2:=Qh (A1.q.quiet aP);clear aP A1;go_wp2;go_ret;exact⟨rfl,A2.q.eD⟩
 have e1:gJ l=0:=by rw[gJ,hg];rfl
 rw[e1]at Me;obtain⟨yT,akD,hl4⟩:=Xsb lu hg;have Us:=Qh (fun W hW=>Xj9 I hI _ l hv yT (by omega) (by omega) W hW);have HA:=Qh (Xpa (l:=l) (fun b hb c h=>by have:=(yT b hb c h).aF;omega) (by omega) (by omega));obtain⟨L,hL⟩:∃L,gY [] l=L:=⟨_,rfl⟩;rw[hL]at Us HA;have hAl:=HA.q.len;clear e1 hg yT hL lu hv hI;go_enter Tryz.func8,Tryz.ntmps8
 go_wp2_with fail
 refine(Me.q _ A0.q.ok).mono ?_;rintro e1 w1 ⟨rfl,aG⟩;have A1:=Qh (A0.q.quiet aG);clear aG A0;go_wp2_with fail
 refine(Us.q w1 A1.q.ok).mono ?_;rintro e2 w2 ⟨vs,J2,rfl,aP,rO,bC,iB⟩;obtain⟨so,sc,rfl,_,_,_⟩:=id iB;have A2:=Qh (A1.q.ext aP rO bC);have I7:J2 w2.heap.size=none:=bC.fresh (Qn _);have HL:=Qh iB;clear aP rO bC iB A1 Us Me
 go_upto_region 4 with(
  refine jy rfl rfl 63 _ _ rfl w2.heap.size 0 [.int .u32 7,.int .i64 2,.int .i64 1,.slice so L.length sc] (ed 7 2 1 (.slice so L.length sc)) (by simp[Act.eval]) (by simp[Act.eval]) (by rfl) eT 63 (heap_alloc_new _ _) (by simp) (by kernel_rfl) (by simp[Value.oneCell']) #[.int .u32 7,.int .i64 2,.int .i64 1,.slice so L.length sc] (by rfl) ?_;intro w3 kS qK)
 have fu:Below w2.heap.size w2 w3:=((Qb _ _).alloc (Qn _) _).grown kS (by simp) (fun k e=>by injection e with e;omega);have A3:=Qh (A2.q.quiet fu);obtain⟨BA,hBA⟩:∃B,B=w2.heap.size:=⟨_,rfl⟩;have ajn:w.heap.size≤BA:=by have:=A2.q.size;omega
 rw[←hBA]at qK I7 ⊢;have X3:=Qh (show yL J2 w3 BA 7 2 1 (.slice so L.length sc) L from⟨I7,HL.q,qK⟩);obtain⟨z0,z1,z2,z3⟩:=xm X3.q.row;obtain⟨d,eB,F3⟩:∃d eB,oK L az=(d,eB):=⟨_,_,rfl⟩;have hB:=Xks J2 (HG.q.mono A3.q.keep) 7 2 1 L HA.q (by omega) (by omega) _ HL.q az w3 A3.q.ok;rw[F3]at hB;dsimp only at hB;have HB:=Qh hB;have O0:=Qh F3;clear kS qK fu A2 I7 hBA hB F3;go_wp2_with fail
 refine(HB.q).mono ?_;rintro e4 w4 ⟨ve4,vk4,vt4,vh4,J4,rfl,bA,uS,cK,x8⟩;obtain⟨Ut,Uu,rfl,_,_,_⟩:=id x8.aB;obtain⟨Uv,Uw,rfl,_,_,_⟩:=id x8.aM;obtain⟨at4,Ux,rfl,_,_,_⟩:=id x8.aK;obtain⟨DW,DX,rfl,_,_,_⟩:=id x8.aC
 go_upto_region 5 with(
  refine jy rfl rfl 43 _ _ rfl w4.heap.size 0 (fB d (.slice Ut d.aB.length Uu) (.slice Uv d.bL.aM.length Uw) (.slice at4 d.aK.length Ux) (.slice DW d.aC.length DX)) (kD d (.slice Ut d.aB.length Uu) (.slice Uv d.bL.aM.length Uw) (.slice at4 d.aK.length Ux) (.slice DW d.aC.length DX)) (by simp[Act.eval]) (by simp[Act.eval]) (by rfl) dJ 43 (heap_alloc_new _ _) (by simp) (by kernel_rfl) (by simp[Value.oneCell']) (fB d (.slice Ut d.aB.length Uu) (.slice Uv d.bL.aM.length Uw) (.slice at4 d.aK.length Ux) (.slice DW d.aC.length DX)).toArray (by rfl) ?_;intro w5 qy DY)
 have dm:Below w4.heap.size w4 w5:=((Qb _ _).alloc (Qn _) _).grown qy (by simp) (fun k e=>by injection e with e;omega);have hf4:J4 w4.heap.size=none:=cK.fresh (Qn _);have A5:=Qh ((A3.q.ext bA uS cK).quiet dm);have X5:=Qh ((X3.q.ext A3.q.ok bA uS).quiet dm);have D5:=Qh (show tT J4 w5 w4.heap.size d _ _ _ _ from⟨A5.q.ok,hf4,x8,DY⟩);obtain⟨BD,hBD⟩:∃B,B=w4.heap.size:=⟨_,rfl⟩;rw[←hBD]at D5 ⊢;clear bA uS cK x8 qy DY dm hf4 A3 X3 HB z0 z1 z2 z3 hBD;by_cases q:bX L az=0;case neg=>
  obtain⟨_,rfl⟩:=Prod.mk.inj (O0.q.symm.trans (Xlr q));have j1:(bX L az !=0)=true:=by simpa using q
  clear O0 q;go_wp2_with fail
  refine(Ur.q J4 A5.q.keep _ A5.q.ok).mono ?_;rintro e6 w6 ⟨rfl,fC⟩;have A6:=Qh (A5.q.quiet fC);clear fC A5;go_wp2;go_ret;exact⟨rfl,A6.q.eD⟩
 obtain⟨he,rfl⟩:=Prod.mk.inj (O0.q.symm.trans (Xov q));have Hd:=Qh he;have z3:=(xm X5.q.row).2.2.2;clear O0 q he;obtain⟨W7,hW7⟩:∃W7,((w5.alloc (.cells #[] 81)).alloc (.cells #[] 148))=W7:=⟨_,rfl⟩;have ji:Below w5.heap.size w5 W7:=by rw[←hW7];exact((Qb _ _).alloc (Qn _) _).alloc (by simp) _
 have A7:=Qh (A5.q.quiet ji);have X7:=Qh (X5.q.quiet ji);have D7:=Qh (D5.q.below ji);have z3:=bI ji z3;have HL4:=Qh X5.q.rd;clear A5 X5 D5;go_wp2_with fail
 clear z3;go_loopw [8,9,11,13,14,15,16,17,39] (fun s8 s9 _ _ _ _ _ _ RO wr=> ∃(k:Nat) (J:IH) (v1 ve vk vt vh:Value),k≤L.length∧RO= .int .i64 k∧lq I w J wr∧(∀b c,J4 b=some c→J b=some c)∧yL J wr BA 7 2 1 v1 L∧tT J wr BD d ve vk vt vh∧aY bJ J s8 (bg bf (L.take k)).aK∧aY jh J s9 (bg bf (L.take k)).aC) (fun _ _ _ _ _ _ _ _ i _=>L.length-(intOf i).toNat)
 case atStart=>exact⟨0,J4,_,_,_,_,_,Nat.zero_le _,rfl,A7.q,fun _ _ h=>h,X7.q,D7.q,Xkx _ _ _,Xkx _ _ _⟩
 case round=>
  clear A7 X7 D7 hW7 ji;obtain⟨k,J,v1,ve,vk,vt,vh,hk,rfl,hM,hK,hX,hD,hT,hH⟩:=hrel;have M:=Qh hM;have HK:=Qh hK;have X:=Qh hX;have D:=Qh hD;have HT:=Qh hT;have HH:=Qh hH;clear hM hK hX hD hT hH;by_cases hlt:k<L.length
  ·obtain⟨x,vx0,b,off,cap',dz,dC,⟨c0,c1,c2,c3,c4,c5⟩,qf⟩:=Kv (HL4.q.mono HK.q) M.q.ok k hlt;cases dC;obtain⟨oe,pe,rfl,_,_,_⟩:=id qf;have nP:=Qh dz;have HE:=Qh qf;have Al:x.aB.length≤150:=Nat.le_trans (HA.q.aB (by rw[←dz];exact List.getElem_mem hlt)) (by omega);have hXl:=X.q.lt;clear dz qf
   go_upto_region 12 with(
    refine jy rfl rfl 76 _ _ rfl wr.heap.size 0 (kX x (.slice oe x.aB.length pe)) (uG x (.slice oe x.aB.length pe)) (by simp[Act.eval]) (by simp[Act.eval]) (by rfl) Ab 76 (heap_alloc_new _ _) (by simp) (by kernel_rfl) (by simp[Value.oneCell']) (kX x (.slice oe x.aB.length pe)).toArray (by rfl) ?_;intro w1 Ah fE)
   have aG:Below wr.heap.size wr w1:=((Qb _ _).alloc (Qn _) _).grown Ah (by simp) (fun k e=>by injection e with e;omega);have M1:=Qh (M.q.quiet aG);have X1:=Qh (X.q.quiet aG);have D1:=Qh (D.q.below aG);obtain⟨BS,hBS⟩:∃B,B=wr.heap.size:=⟨_,rfl⟩;rw[←hBS]at fE ⊢;have IB:=Qh fE;obtain⟨c0,c1,c2,c3,c4,c5⟩:=Xh9 fE;clear aG Ah fE hBS M X D;go_wp2_with fail
   clear c0 c1 c2 c3 c4 c5;go_loopw [8,9,13,14,15,16,17,46] (fun s8 s9 _ _ _ _ _ s46 wr=> ∃(j:Nat) (K:IH) (v1 ve vk vt vh:Value),j≤x.aB.length∧s46= .int .i64 j∧lq I w K wr∧(∀b c,J b=some c→K b=some c)∧yL K wr BA 7 2 1 v1 L∧tT K wr BD d ve vk vt vh∧wr.heap[BS]?=some (.cells (kX x (.slice oe x.aB.length pe)).toArray 76 (0,0))∧aY bJ K s8 (kJ L k x j).aK∧aY jh K s9 (kJ L k x j).aC) (fun _ _ _ _ _ _ _ i _=>x.aB.length-(intOf i).toNat)
   case atStart=>exact⟨0,J,_,_,_,_,_,Nat.zero_le _,rfl,M1.q,fun _ _ h=>h,X1.q,D1.q,IB.q,HT.q,HH.q⟩
   case round=>
    clear M1 X1 D1 IB HT HH;obtain⟨j,K,v1,ve,vk,vt,vh,hj,rfl,hM,hKK,hX,hD,hS,hT,hH⟩:=hrel;have M:=Qh hM;have Vs:=Qh hKK;have X:=Qh hX;have D:=Qh hD;have SB:=Qh hS;have HT:=Qh hT;have HH:=Qh hH;clear hM hKK hX hD hS hT hH;by_cases vB:j<x.aB.length
    ·obtain⟨e,va,vx,b2,mM,cap2,sS,dC,⟨d0,d1,d2,d3,d4,d5,d6⟩,h2,h3⟩:=uT (HE.q.mono Vs.q) M.q.ok j vB;cases dC;obtain⟨aa,ca,rfl,_,_,_⟩:=id h2;obtain⟨ax,cx,rfl,_,_,_⟩:=id h3;have Hs:=Qh (Xls HA.q (by omega) (by omega) hlt nP.q vB sS);have Ht:=Qh (Xh6 L k vB sS);obtain⟨kt,kh,ke⟩:=Xkq Hs.q.stp;have Ls:=Qh kt;have Lt:=Qh kh;have Lu:=Qh h2;have Iz:=Qh h3;clear sS h2 h3 kt kh ke
     go_upto_region 15 with(
      refine jy rfl rfl 81 _ _ rfl wr.heap.size 0 (fT e (.slice aa e.au.length ca) (.slice ax e.aD.length cx)) (fG e (.slice aa e.au.length ca) (.slice ax e.aD.length cx)) (by simp[Act.eval]) (by simp[Act.eval]) (by rfl) bF 81 (heap_alloc_new _ _) (by simp) (by kernel_rfl) (by simp[Value.oneCell']) (jB e (.slice aa e.au.length ca) (.slice ax e.aD.length cx)) (by rfl) ?_;intro w2 qC iA)
     have aP:Below wr.heap.size wr w2:=((Qb _ _).alloc (Qn _) _).grown qC (by simp) (fun k e=>by injection e with e;omega);have M2:=Qh (M.q.quiet aP);have X2:=Qh (X.q.quiet aP);have D2:=Qh (D.q.below aP);have FW:=Qh ((aP.block _ (Qg SB.q)).trans SB.q);obtain⟨BE,hBE⟩:∃B,B=wr.heap.size:=⟨_,rfl⟩;rw[←hBE]at iA ⊢;have yK:=Qh (entB_row (e:=e) iA);obtain⟨S1,MQ⟩:∃S1,(cZ (kJ L k x j) e x.az).1=S1:=⟨_,rfl⟩;rw[MQ]at Ls Lt Ht;have zX:=Qh (QH K (HG.q.mono M2.q.keep) _ (kJ L k x j).aK HT.q Hs.q.sin.AU Hs.q.sin.ok.aK.yw (by have:=Hs.q.sin.ok.xP;omega) e _ _ Lu.q Iz.q Hs.q.wf (by have:=Hs.q.ag;omega) (by have:=Hs.q.av;omega) _ M2.q.ok);rw[Ls.q]at zX;obtain⟨at7,ct7,rfl,_,_,_⟩:=id HT.q;obtain⟨x0,x1,x2,x3,x4,x5,x6⟩:=yK.q;clear MQ aP qC iA hBE M X D SB d0 d1 d2 d3 d4 d5 d6;go_wp2_with fail
     refine zX.q.mono ?_;rintro e3 w3 ⟨vt3,K3,rfl,fu,xB,il,F6⟩;obtain⟨at3,ct3,rfl,_,_,_⟩:=id F6;have M3:=Qh (M2.q.ext fu xB il);have X3:=Qh (X2.q.ext M2.q.ok fu xB);have D3:=Qh (D2.q.ext fu xB il);have FX:=Qh ((fu.block _ (Qg FW.q)).trans FW.q);have EB3:=Qh (yK.q.aX fu);have qx:=Qh (xB.keep M2.q.ok (Qn _));have HR3:=Qh F6;clear x0 x1 x2 x3 x4 x5 x6 zX fu xB il F6 M2 X2 D2 FW yK;have qY:=Qh (Qm K3 (HG.q.mono M3.q.keep) _ (kJ L k x j).aC (HH.q.mono qx.q) Hs.q.sin.ok.aC (by have:=Hs.q.sin.ok.hlen;omega) e _ _ (Lu.q.mono qx.q) (Iz.q.mono qx.q) Hs.q.err x.az w3 M3.q.ok);rw[Lt.q]at qY;obtain⟨ah7,ch7,rfl,_,_,_⟩:=id HH.q;obtain⟨x0,x1,x2,x3,x4,x5,x6⟩:=EB3.q;have c1:=(Xh9 FX.q).2.1;go_wp2_with fail
     refine qY.q.mono ?_;rintro e4 w4 ⟨vh4,K4,rfl,bA,uS,cK,xZ⟩;obtain⟨DW,DX,rfl,_,_,_⟩:=id xZ;have M4:=Qh (M3.q.ext bA uS cK);have X4:=Qh (X3.q.ext M3.q.ok bA uS);have D4:=Qh (D3.q.ext bA uS cK);have TQ:=Qh ((bA.block _ (Qg FX.q)).trans FX.q);have Pt:=Qh (uS.keep M3.q.ok (Qn _));have HR4:=Qh xZ;clear x0 x1 x2 x3 x4 x5 x6 c1 qY bA uS cK xZ M3 X3 D3 FX EB3;go_wp2_with fail
     go_roundw;case rel=>exact⟨j+1,K4,_,_,_,_,_,by omega,by go_num,M4.q,fun b c h=>Pt.q b c (qx.q b c (Vs.q b c h)),X4.q,D4.q,TQ.q,by rw[Ht.q];exact HR3.q.mono Pt.q,by rw[Ht.q];exact HR4.q⟩
     case measure=>simp[intOf];omega
    ·have EL:j=x.aB.length:=by omega
     subst EL;go_wp2;go_roundw;case rel=>exact⟨k+1,K,_,_,_,_,_,by omega,by go_num,M.q,fun b c h=>Vs.q b c (HK.q b c h),X.q,D.q,by rw[←Tv hlt nP.q];exact HT.q,by rw[←Tv hlt nP.q];exact HH.q⟩
     case measure=>simp[intOf];omega
  ·have oP:k=L.length:=by omega
   subst oP;rw[List.take_length]at HT HH;obtain⟨T,hT⟩:∃T,(bg bf L).aK=T:=⟨_,rfl⟩;obtain⟨H,hH⟩:∃H,(bg bf L).aC=H:=⟨_,rfl⟩;have MW:=HA.q.vQ;have Jb:d.aK=T:=by rw[Hd.q,←hT];rfl
   have hdh:d.aC=bO H az:=by rw[Hd.q,←hH];rfl
   have hck:jV T=0:=by rw[←hT];exact(VB _).2 MW.ok.aK
   have yT:xK T:=by rw[←hT];exact MW.AU
   have hho:H.length≤100000:=by rw[←hH];have:=MW.ok.hlen;omega
   have hen:∀x∈T,aL x=0:=by rw[←hT];exact MW.ok.aK.C8
   rw[hT]at HT;rw[hH]at HH;have hE0:d.aB=[]:=by rw[Hd.q];rfl
   have hS0:d.bL.str=[]:=by rw[Hd.q];rfl
   have hN0:d.num=(L.length:Int)+1:=by rw[Hd.q];rfl
   obtain⟨so,sc,rfl,_,_,_⟩:=id X.q.rd;obtain⟨ae,ce,rfl,_,_,_⟩:=id D.q.rd.aB;obtain⟨at',ct,rfl,_,_,_⟩:=id D.q.rd.aK;obtain⟨ah,ch,rfl,_,_,_⟩:=id D.q.rd.aC;obtain⟨aT,cT,rfl,_,_,_⟩:=id HT.q;obtain⟨aH,cH,rfl,_,_,_⟩:=id HH.q;have Uy:=Qh (show aY bJ J (.slice at' d.aK.length ct) T by rw[←Jb];exact D.q.rd.aK);have HDH:=Qh (show aY jh J (.slice ah d.aC.length ch) (bO H az) by rw[←hdh];exact D.q.rd.aC);have oH:=Qh (fun W (hW:Ok J W)=>(by
    have h:=Xqk J _ T Uy.q (HG.q.mono M.q.keep) (fun x hx=>R8 (hen x hx)) yT W hW;rw[hck]at h;exact h:Calls Tryz.prog 40 #[.slice at' d.aK.length ct] W fun e w'=>e= .returned (.int .i64 0)∧Below W.heap.size W w'))
   have EH:=Qh (fun W (hW:Ok J W)=>JD J _ H HH.q hho az W hW);have row:=D.q.row;obtain⟨b0,b1,b2,b3,b4,b5,b6,b7,b8⟩:=drB_row (d:=d) D.q.row;have j1:(((T.length:Nat):Int) !=(d.aK.length:Int))=false:=by rw[Jb];simp
   have JH:=Qh Jb;have HE0:=Qh hE0;have HS0:=Qh hS0;have HN0:=Qh hN0;clear hT hH MW Jb hdh hck yT hho hen row hE0 hS0 hN0 b0 b1 b2 b3 b4 b5 b6;go_wp2_with fail
   refine tK (X:=Option Addr×Nat) (OZ BD d.aK.length at' ct aT T.length cT ah d.aC.length ch aH H.length cH az ((bO H az).length)) (Be wr 17 233 234 235 (fun x w=>aN jh 148 J w wr.heap.size (.slice x.1 (bO H az).length x.2) (bO H az)) (fun _ _=>True) (fun _ _=>True) (fun _ _=>True)) (by kernel_rfl) (by kernel_rfl) ?_ ?_ ?_
   ·exact⟨default,Be.start _ _⟩
   ·rintro x s' a' w' i cu bU ha hC hi;obtain⟨aJ,oi,dN,aA⟩:=mem_ready.1 hi;have ev:=A8 IQ ha;rcases i with _|_|_|_|_|_|_|_|_|_|_|_|_|_|_|_|_|_|_|_|_|i
    rotate_left 21
    ·simp at dN
    all_goals
     have bY:=dN;simp at dN;subst dN;simp[Region.binds]at aA;have bQ:=hC.off;have b7:=bI bQ b7;have b8:=bI bQ b8;refine wpOp_step bY (fun K' hK=> ?_);first|rw[if_pos (by rfl)]|rw[if_pos (by unfold Region.wanted;dsimp only;rw[Xkn (j:=4) (t:=78) (b:=false) (by rfl) (by simp[ev,eZ,aA])];rfl)]|rw[if_pos (by unfold Region.wanted;dsimp only;rw[Xkn (j:=12) (t:=86) (b:=false) (by rfl) (by simp[ev,eZ,aA])];rfl)]
    rotate_left 2
    ·unfold Oper.wp;simp[go_sem,ev,eZ,aA,Oper.upon];refine(oH.q w' (M.q.ok.below (Qn _) bQ)).mono ?_;rintro r4 w4 ⟨rfl,bA⟩;exact hK _ _ ⟨x,jQ IQ ha rfl aJ,hC.step (bQ.trans (bA.mono bQ.size)) (fun q=>q.elim (fun e=>absurd e (by decide)) (fun⟨_,q⟩=>q.below bA)) (fun _=>trivial) (fun _=>trivial) (fun _=>trivial)⟩
    rotate_left 14
    ·unfold Oper.wp;simp[go_sem,ev,eZ,aA,Oper.upon];refine(EH.q w' (M.q.ok.below (Qn _) bQ)).mono ?_;rintro r4 w4 ⟨v7,rfl,ho,bA⟩;obtain⟨a7,k7,rfl⟩:=wP ho;have ha:=ha.trans (qF (L:=OZ BD d.aK.length at' ct aT T.length cT ah d.aC.length ch aH H.length cH az ((bO H az).length) x) (M:=OZ BD d.aK.length at' ct aT T.length cT ah d.aC.length ch aH H.length cH az ((bO H az).length) (a7,k7)) [17] rfl (fun j aZ=>by
      rcases j with _|_|_|_|_|_|_|_|_|_|_|_|_|_|_|_|_|_|_|_|_|j<;>first|rfl|(exact absurd (by decide) aZ)|simp) (List.forall_mem_cons.2 ⟨jl aJ,List.forall_mem_nil _⟩))
     exact hK _ _ ⟨(a7,k7),jQ IQ ha rfl aJ,hC.step (bQ.trans (bA.mono bQ.size)) (fun _=>ho.lower bQ.size) (fun _=>trivial) (fun _=>trivial) (fun _=>trivial)⟩
    ·have hOw:=hC.f1 (by first|simpa using aA|simp[aA]);obtain⟨J7,sZ,gT,oO,_⟩:=hOw.freeze (M.q.ok.below (Qn _) bQ) (fun b hb=>M.q.ok.fresh hb);unfold Oper.wp;simp[go_sem,ev,eZ,aA,Oper.upon];refine((show Calls Tryz.prog 41 _ w' (fun e w''=>e= .returned (.bool true)∧Below w'.heap.size w' w'')from by have h:=Xl6 J7 _ _ (bO H az) (bO H az) (HDH.q.mono (sZ.keep M.q.ok (Qn _))) oO w' gT;rwa[Qt rfl]at h)).mono ?_;rintro r4 w4 ⟨rfl,bA⟩;exact hK _ _ ⟨x,jQ IQ ha rfl aJ,hC.step (bQ.trans (bA.mono bQ.size)) (fun q=>q.elim (fun e=>absurd e (by decide)) (fun⟨_,q⟩=>q.below bA)) (fun _=>trivial) (fun _=>trivial) (fun _=>trivial)⟩
    all_goals
     unfold Oper.wp;first
     |(simp[go_sem,ev,eZ,aA,Oper.upon,b7,b8,j1];exact hK _ _ ⟨x,jQ IQ ha rfl aJ,hC.pure (by decide)⟩)
     |(simp[go_sem,ev,eZ,Oper.upon,b7,b8,j1];exact hK _ _ ⟨x,jQ IQ ha rfl aJ,hC.pure (by decide)⟩)
   ·rintro x s' a' w6 eX ha hC;rw[su _ _ _ _ (fun i hi=>by rw[Nat.zero_add];exact eX i (by simpa using hi))]at ha;subst ha;simp only[df,Act.put,List.setIfInBounds_toArray,List.set_cons_succ,List.set_cons_zero];obtain⟨a8,k8⟩:=x;have fC:=hC.off;have M6:=Qh (M.q.quiet fC);have X6:=Qh (X.q.quiet fC);have D6:=Qh (D.q.below fC);have Pp:=Qh (show aY bJ J (.slice at' T.length ct) T by have h:=Uy.q;rw[JH.q]at h;exact h);clear hC eX fC b7 b8 M X D oH EH j1 Uy HDH;dsimp only;go_wp2_with fail
    go_loopw [97] (fun s97 wr=> ∃k:Nat,k≤T.length∧s97= .int .i64 k∧Below w6.heap.size w6 wr) (fun i _=>T.length-(intOf i).toNat)
    case atStart=>exact⟨0,Nat.zero_le _,rfl,Qb _ _⟩
    case round=>
     obtain⟨k,hk,rfl,hb⟩:=hrel;have M7:=Qh (M6.q.quiet hb);have X7:=Qh (X6.q.quiet hb);have D7:=Qh (D6.q.below hb);have hTl:=HT.q.bK;by_cases hlt:k<T.length
     ·obtain⟨x,va,vx,p1,q1,TS,dz,dC,⟨c0,c1,c2,c3,c4,c5,c6⟩,h1,h2⟩:=uT HT.q M7.q.ok k hlt;cases dC;obtain⟨y,vb,vy,p2,q2,cap2,jJ,dC,⟨d0,d1,d2,d3,d4,d5,d6⟩,h3,h4⟩:=uT Pp.q M7.q.ok k hlt;cases dC;obtain rfl:x=y:=dz.symm.trans jJ;have Jv:=Qh (fun W hW=>Xj0 J x x va vx vb vy h1 h2 h3 h4 W hW);rw[Qt (rfl:x=x)]at Jv;obtain⟨aa,ca,rfl,_,_,_⟩:=id h1;obtain⟨ax,cx,rfl,_,_,_⟩:=id h2;obtain⟨Eu,Ev,rfl,_,_,_⟩:=id h3;obtain⟨Ew,Ex,rfl,_,_,_⟩:=id h4;have b7:=(drB_row (d:=d) D7.q.row).c7;rw[JH.q]at b7;have b7:=cell_regrown b7;have c0:=cell_regrown c0;have c1:=cell_regrown c1;have c2:=cell_regrown c2;have c3:=cell_regrown c3;have c4:=cell_regrown c4;have c5:=cell_regrown c5;have c6:=cell_regrown c6;have d0:=cell_regrown d0;have d1:=cell_regrown d1;have d2:=cell_regrown d2;have d3:=cell_regrown d3;have d4:=cell_regrown d4;have d5:=cell_regrown d5;have d6:=cell_regrown d6;clear dz jJ h1 h2 h3 h4;go_wp2_with fail
      refine wp_region_quiet_below (by kernel_rfl) (by kernel_rfl) ?_;repeat(go_big_quiet_step ((with_reducible exact Calls.regrown_of (Jv.q _ (M7.q.ok.below (Qn _) (below_regrown _ _ _))))))
      refine wpQuiet_nil ?_;intro w2 dD;have aP:Below (wr).heap.size (wr) w2:=by
       obtain⟨pq,rfl⟩:=dD;exact below_regrown _ _ _
      clear dD;go_wp2;go_roundw;case rel=>exact⟨k+1,by omega,by go_num,hb.trans (aP.mono hb.size)⟩
      case measure=>simp[intOf];omega
     ·have z3:=(xm X7.q.row).2.2.2;obtain⟨b0,b1,b2,b3,b4,b5,b6,b7,b8⟩:=drB_row (d:=d) D7.q.row;rw[HE0.q]at b3;rw[HS0.q]at b6;rw[HN0.q]at b0;go_wp2_with fail
      refine(Ur.q J (M7.q.keep) _ M7.q.ok).mono ?_;rintro e8 w8 ⟨rfl,oQ⟩;have M8:=Qh (M7.q.quiet oQ);go_wp2;go_ret;exact⟨rfl,M8.q.eD⟩
