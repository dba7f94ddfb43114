/- Lemmas for the claim's theorem;conditions: as each says. -/
import Derived.Test.YtegieeommgiknaaGreatDoorU19
set_option maxHeartbeats 0
set_option maxRecDepth 100000
set_option linter.all false
namespace Go.Proofs.YtegieeommgiknaaGreatDoor
open Go.RowKit
theorem Xuk(k:Int)(w:World):Calls Tryz.prog 85 #[.int .i64 k] w fun e w'=>e= .returned (S (gp k))∧Below w.heap.size w w':=
 (Xjh k w).mono fun _ _ h=>⟨h.1,by rw[h.2];exact Qb _ _⟩
theorem Xqd(I:IH)(e:bD)(va vx:Value)(gK:aZ nk I va e.ag)(kw:aZ mU I vx e.aC)(hc:sS e)(w:World)(hw:Ok I w):
 Calls Tryz.prog 153 #[iF e va vx] w fun r w'=>r= .returned (S (kT e))∧Below w.heap.size w w':=by
 obtain⟨aa,ca,rfl,_,_,_⟩:=id gK;obtain⟨ax,cx,rfl,_,_,_⟩:=id kw;have Hv:=Qh gK;have SQ:=hc.La;have U8:=hc.aj;have U9:=hc.target;have Dk:=Qh hc.UH;have Hl:=Qh (Xpq SQ Dk.O);have vN:=Hl.O 0;have Gw:=Ym e.av;have yT:=vD (gp e.av) (by omega);have DZ:=vD e.aj (by omega);have Kh:=vD e.target (by omega);have H0:=Qh (fun w=>Xuk e.av w);have H1:=Qh (fun w=>Lb (gp e.av) (by omega) w);have H2:=Qh (fun w=>Lb e.aj (by omega) w);have H3:=Qh (fun w=>UM e.ag.length (by omega) w);have H4:=Qh (fun w=>Lb e.target (by omega) w);have hz:gm e.ag.length=qD e.ag 0:=by rw[qD,List.take_zero,List.flatMap_nil,List.append_nil]
 have Hh:=Qh (show fA (gp e.av)++fA e.aj++zP e.ag++fA e.target=kT e from rfl);rw[hz]at H3;clear gK kw hc hz;generalize fA (gp e.av)=p1 at yT H1 Hh;generalize gp e.av=nm at Gw yT H0 H1;generalize fA e.aj=p2 at DZ H2 Hh;generalize fA e.target=p4 at Kh H4 Hh;have Ta:=Qh (dP (W:=w) (e:=e) (va:= .slice aa e.ag.length ca) (vx:= .slice ax e.aC.length cx) (t:=63) rfl (Qb _ _));obtain⟨c0,c1,c2,c3,c4,c5,c6⟩:=Ta.O;have e0:=cell_regrown c0;have e1:=cell_regrown c1;have e2:=cell_regrown c2;have xw:=(Qb w.heap.size w).alloc (Qn _) (.cells #[.int .i64 e.av,S e.aj,.slice aa e.ag.length ca,S e.target,.int .i64 e.size,S e.aD,.slice ax e.aC.length cx] 63);clear c0 c1 c2 c3 c4 c5 c6;go_enter Tryz.func153,Tryz.ntmps153
 go_wp2_with fail
 refine wp_region_quiet_below (by kernel_rfl) (by kernel_rfl) ?_;repeat(go_big_quiet_step ((with_reducible first|exact Calls.regrown_of (H0.O _)|exact Calls.regrown_of (H1.O _)|exact Calls.regrown_of (H2.O _)|exact Calls.regrown_of (H3.O _))))
 refine wpQuiet_nil ?_;intro w1 bJ;have aG:Below ((w.alloc (.cells #[.int .i64 e.av,S e.aj,.slice aa e.ag.length ca,S e.target,.int .i64 e.size,S e.aD,.slice ax e.aC.length cx] 63))).heap.size ((w.alloc (.cells #[.int .i64 e.av,S e.aj,.slice aa e.ag.length ca,S e.target,.int .i64 e.size,S e.aD,.slice ax e.aC.length cx] 63))) w1:=by
  obtain⟨pq,rfl⟩:=bJ;exact below_regrown _ _ _
 clear bJ;have kJ:=Qh (Ta.O.aR aG);have aM:=xw.trans (aG.mono xw.size);clear e0 e1 e2 aG xw Ta H0 H1 H2 H3;go_wp2_with fail
 go_loopw [3,4] (fun s3 s4 wr=> ∃k:Nat,k≤e.ag.length∧s4= .int .i64 k∧s3=S (p1++p2++qD e.ag k)∧bP wr w.heap.size e (.slice aa e.ag.length ca) (.slice ax e.aC.length cx)∧Below w.heap.size w wr) (fun _ i _=>e.ag.length-(intOf i).toNat)
 case atStart=>exact⟨0,Nat.zero_le _,rfl,by simp,kJ.O,aM⟩
 case round=>
  clear aM kJ;obtain⟨k,hk,rfl,rfl,rU,hb⟩:=hrel;have sP:=Qh rU;have eX:Ok I wr:=hw.below (Qn _) hb;have ug:=Hl.O k;obtain⟨c0,c1,c2,c3,c4,c5,c6⟩:=sP.O;clear rU;by_cases hlt:k<e.ag.length
  ·obtain⟨x,b,off,cap',cB,dC,a0,a1⟩:=yD Hv.O eX k hlt;cases dC;have hax:=Dk.O x (by rw[←cB];exact List.getElem_mem hlt);have bI:=Qh (Xm5 hlt cB);have ql:=vD x.k (by omega);have uV:=vD x.v (by omega);have FP:=Qh (fun w=>Lb x.k (by omega) w);have Hs2:=Qh (fun w=>Lb x.v (by omega) w);clear cB;generalize fA x.k=p at bI ql FP;generalize fA x.v=q at bI uV Hs2;generalize qD e.ag k=u at bI ug ⊢;have x0:=cell_regrown a0;have x1:=cell_regrown a1;have e2:=cell_regrown c2;go_wp2_with fail
   refine wp_region_quiet_below (by kernel_rfl) (by kernel_rfl) ?_;repeat(go_big_quiet_step ((with_reducible first|exact Calls.regrown_of (FP.O _)|exact Calls.regrown_of (Hs2.O _))))
   refine wpQuiet_nil ?_;intro w2 bJ;have aL:Below (wr).heap.size (wr) w2:=by
    obtain⟨pq,rfl⟩:=bJ;exact below_regrown _ _ _
   clear bJ;have nX:=Qh (sP.O.aR aL);clear x0 x1 e2 c0 c1 c2 c3 c4 c5 c6;go_wp2;go_roundw;case rel=>exact⟨k+1,by omega,by go_num,(by rw[bI.O];simp),nX.O,hb.trans (aL.mono hb.size)⟩
   case measure=>simp[intOf];omega
  ·have Hn:=Qh (Xpr e.ag (k:=k) (by omega));rw[Hn.O]at ug ⊢;generalize zP e.ag=u at ug Hh ⊢;go_wp2_with fail
   refine(H4.O _).mono ?_;rintro r w2 ⟨rfl,aL⟩;go_wp2;go_ret;exact⟨OU (by rw[←Hh.O];simp),hb.trans (aL.mono hb.size)⟩
theorem Xr3(I:IH)(e:bD)(va vx:Value)(gK:aZ nk I va e.ag)(kw:aZ mU I vx e.aC)(lQ:e.Wf)(hx:e.aC.length≤1000)(he:aX e≠0)(w:World)(hw:Ok I w):
 Calls Tryz.prog 108 #[iF e va vx] w fun r w'=>r= .returned (.tuple #[S [],.int .i64 (aX e)])∧Below w.heap.size w w':=by
 have mY:=Qh (fun w hw=>Yd I e va vx gK kw lQ w hw);obtain⟨aa,ca,rfl,_,_,_⟩:=id gK;obtain⟨ax,cx,rfl,_,_,_⟩:=id kw;rw[Yc (by omega)]at mY;obtain⟨q,hq⟩:∃q,aX e=q:=⟨_,rfl⟩;rw[hq]at mY he ⊢;have E9:(q !=0)=true:=by simpa using he
 clear hq he;go_enter Tryz.func108,Tryz.ntmps108
 go_wp2_with fail
 refine(mY.O _ (hw.alloc _)).mono ?_;rintro e1 w1 ⟨rfl,aG⟩;have aM:=((Qb w.heap.size w).alloc (Qn _) (.cells #[.int .i64 e.av,S e.aj,.slice aa e.ag.length ca,S e.target,.int .i64 e.size,S e.aD,.slice ax e.aC.length cx] 63)).trans (aG.mono (by simp));go_wp2;go_ret2;exact⟨rfl,aM⟩
theorem Xlq(I:IH)(e:bD)(va vx:Value)(gK:aZ nk I va e.ag)(kw:aZ mU I vx e.aC)(lQ:e.Wf)(hc:sS e)(he:aX e=0)(hx:e.aC.length≤1000)(w:World)(hw:Ok I w):
 Calls Tryz.prog 108 #[iF e va vx] w fun r w'=>r= .returned (.tuple #[S (yJ e),.int .i64 0])∧Below w.heap.size w w':=by
 have mY:=Qh (fun w hw=>Yd I e va vx gK kw lQ w hw);have H0:=Qh (fun w hw=>Xqd I e va vx gK kw hc w hw);obtain⟨aa,ca,rfl,_,_,_⟩:=id gK;obtain⟨ax,cx,rfl,_,_,_⟩:=id kw;rw[Yc (by omega),he]at mY;have Hv:=Qh kw;have ky:=hc.s0;have uX:=hc.s1;have afo:=hc.aD;have Hxs:=Qh hc.YE;have Hl:=Qh (Xks hc hx);have YI:=Xim hc;have Hz:=Qh (show fA (kT e)++gm e.size++fA e.aD++gm e.aC.length=qF e 0 from(Xmn e).symm);have yT:=vD (kT e) (by omega);have DZ:=Av ky (by omega);have Og:=vD e.aD (by omega);have Kh:=Gf e.aC.length (by omega);have H1:=Qh (fun w=>Lb (kT e) (by omega) w);have H2:=Qh (fun w=>R7 e.size ky (by omega) w);have H3:=Qh (fun w=>Lb e.aD (by omega) w);have H4:=Qh (fun w=>UM e.aC.length (by omega) w);clear gK kw hc he;generalize fA (kT e)=p1 at Hz yT H1;generalize gm e.size=p2 at Hz DZ H2;generalize fA e.aD=p3 at Hz Og H3;generalize gm (e.aC.length:Int)=p4 at Hz Kh H4;generalize kT e=hd at H0 H1 YI yT;go_enter Tryz.func108,Tryz.ntmps108
 go_wp2_with fail
 refine(mY.O _ (hw.alloc _)).mono ?_;rintro e1 w1 ⟨rfl,aG⟩;have kJ:=Qh (dP (e:=e) rfl aG);have aO:Ok I w1:=(hw.alloc _).below (Qn _) aG;have aM:=((Qb w.heap.size w).alloc (Qn _) (.cells #[.int .i64 e.av,S e.aj,.slice aa e.ag.length ca,S e.target,.int .i64 e.size,S e.aD,.slice ax e.aC.length cx] 63)).trans (aG.mono (by simp));obtain⟨c0,c1,c2,c3,c4,c5,c6⟩:=kJ.O;have e0:=cell_regrown c0;have e1:=cell_regrown c1;have e2:=cell_regrown c2;have e3:=cell_regrown c3;have e4:=cell_regrown c4;have e5:=cell_regrown c5;have e6:=cell_regrown c6;clear aG mY c0 c1 c2 c3 c4 c5 c6;go_wp2_with fail
 refine wp_region_quiet_below (by kernel_rfl) (by kernel_rfl) ?_;repeat(go_big_quiet_step ((with_reducible first|exact Calls.regrown_of (H0.O _ (aO.below (Qn _) (below_regrown _ _ _)))|exact Calls.regrown_of (H1.O _)|exact Calls.regrown_of (H2.O _)|exact Calls.regrown_of (H3.O _)|exact Calls.regrown_of (H4.O _))))
 refine wpQuiet_nil ?_;intro w2 bJ;have aL:Below (w1).heap.size (w1) w2:=by
  obtain⟨pq,rfl⟩:=bJ;exact below_regrown _ _ _
 clear bJ;have nX:=Qh (kJ.O.aR aL);have bH:=aM.trans (aL.mono aM.size);clear e0 e1 e2 e3 e4 e5 e6 aL kJ aO aM H0 H1 H2 H3 H4;go_wp2_with fail
 go_loopw [5,6] (fun s5 s6 wr=> ∃k:Nat,k≤e.aC.length∧s6= .int .i64 k∧s5=S (qF e k)∧bP wr w.heap.size e (.slice aa e.ag.length ca) (.slice ax e.aC.length cx)∧Below w.heap.size w wr) (fun _ i _=>e.aC.length-(intOf i).toNat)
 case atStart=>exact⟨0,Nat.zero_le _,rfl,by rw[←Hz.O];simp,nX.O,bH⟩
 case round=>
  clear nX bH Hz yT DZ Og Kh YI;obtain⟨k,hk,rfl,rfl,rU,hb⟩:=hrel;have sP:=Qh rU;have eX:Ok I wr:=hw.below (Qn _) hb;have ug:=Hl.O k;obtain⟨c0,c1,c2,c3,c4,c5,c6⟩:=sP.O;clear rU;by_cases hlt:k<e.aC.length
  ·obtain⟨x,b,off,cap',cB,dC,a0,a1,a2⟩:=vg Hv.O eX k hlt;cases dC;obtain⟨y0,y1,y2,y3,y4,y5⟩:=Hxs.O x (by rw[←cB];exact List.getElem_mem hlt);have bI:=Qh (Xmo hlt cB);have Az:=Av (n:=x.s) (by omega) (by omega);have Ky:=Av (n:=x.o) (by omega) (by omega);have BL:=Av (n:=x.n) (by omega) (by omega);have H1:=Qh (fun w=>R7 x.s (by omega) (by omega) w);have H2:=Qh (fun w=>R7 x.o (by omega) (by omega) w);have H3:=Qh (fun w=>R7 x.n (by omega) (by omega) w);have g0:=cell_regrown (show(wr.alloc (.cells #[.int .i64 x.s,.int .i64 x.o,.int .i64 x.n] 65)).cell? ⟨wr.heap.size,0,none⟩=some (.int .i64 x.s) by simp);have g1:=cell_regrown (show(wr.alloc (.cells #[.int .i64 x.s,.int .i64 x.o,.int .i64 x.n] 65)).cell? ⟨wr.heap.size,1,none⟩=some (.int .i64 x.o) by simp);have g2:=cell_regrown (show(wr.alloc (.cells #[.int .i64 x.s,.int .i64 x.o,.int .i64 x.n] 65)).cell? ⟨wr.heap.size,2,none⟩=some (.int .i64 x.n) by simp);have HBa:=Qh (bP.past sP.O (.cells #[.int .i64 x.s,.int .i64 x.o,.int .i64 x.n] 65));have xw:=hb.alloc hb.size (.cells #[.int .i64 x.s,.int .i64 x.o,.int .i64 x.n] 65);clear cB;generalize gm x.s=q1 at bI Az H1;generalize gm x.o=q2 at bI Ky H2;generalize gm x.n=q3 at bI BL H3;generalize qF e k=u at bI ug ⊢;go_wp2_with fail
   refine wp_region_quiet_below (by kernel_rfl) (by kernel_rfl) ?_;repeat(go_big_quiet_step ((with_reducible first|exact Calls.regrown_of (H1.O _)|exact Calls.regrown_of (H2.O _)|exact Calls.regrown_of (H3.O _))))
   refine wpQuiet_nil ?_;intro w2 bJ;have aL:Below ((wr.alloc (.cells #[.int .i64 x.s,.int .i64 x.o,.int .i64 x.n] 65))).heap.size ((wr.alloc (.cells #[.int .i64 x.s,.int .i64 x.o,.int .i64 x.n] 65))) w2:=by
    obtain⟨pq,rfl⟩:=bJ;exact below_regrown _ _ _
   clear bJ;have nX:=Qh (HBa.O.aR aL);clear g0 g1 g2 a0 a1 a2 c0 c1 c2 c3 c4 c5 c6;go_wp2;go_roundw;case rel=>exact⟨k+1,by omega,by go_num,(by rw[bI.O];simp),nX.O,xw.trans (aL.mono xw.size)⟩
   case measure=>simp[intOf];omega
  ·have Hn:=Qh (Xkt e (k:=k) (by omega));rw[Hn.O];go_wp2;go_ret2;exact⟨rfl,hb⟩
abbrev LH(n:Nat)(num aA:Int)(bE st p1 p2 p3 p4 sm p6 p7 v6 v10 v15 v21 v26:af)(ao:Option Addr)(le co:Nat)(x:Nat×Nat):List (Option Tmp×Value):=
 [(some 7,.pointer (some ⟨n,0,none⟩)),(some 8,.int .i64 num),(some 9,S p1),(some 10,.pointer (some ⟨n,1,none⟩)),(some 11,.int .i64 aA),(some 12,S p2),(some 13,S v6),(some 14,.pointer (some ⟨n,2,none⟩)),(some 15,S bE),(some 16,S p3),(some 17,S v10),(some 18,.pointer (some ⟨n,4,none⟩)),(some 19,S st),(some 20,.int .i64 (st.length:Int)),(some 21,S p4),(some 22,S v15),(some 23,.pointer (some ⟨n,4,none⟩)),(some 24,S st),(some 25,.slice (some ⟨x.1,0,none⟩) 1 1),(some 26,S sm),(some 27,S p6),(some 28,S v21),(some 29,.pointer (some ⟨n,3,none⟩)),(some 30,.slice ao le co),(some 31,.int .i64 (le:Int)),(some 32,S p7),(some 33,S v26),(some 3,S v26)]
theorem l5{n:Nat}{num aA:Int}{bE st p1 p2 p3 p4 sm p6 p7 v6 v10 v15 v21 v26:af}{ao:Option Addr}{le co:Nat}{x:Nat×Nat}:bC (LH n num aA bE st p1 p2 p3 p4 sm p6 p7 v6 v10 v15 v21 v26 ao le co x):=by
 unfold bC;simp
theorem Xqk(I:IH)(s:bV)(ve:Value)(mG:aZ bM I ve s.aB)(hg:Dz s)(w:World)(hw:Ok I w):
 Calls Tryz.prog 57 #[nD s ve] w fun r w'=>r= .returned (S (dW (lu s)))∧Below w.heap.size w w':=by
 obtain⟨ao,co,rfl,_,_,_⟩:=id mG;have Hv:=Qh mG;have Hg:=Qh hg;have Mi:=hg.num;have hdt:=hg.aA;have adj:=hg.BO;have jO:=hg.aU;have hpv:=hg.bE;have F6:=Qh (fun k=>Xos hg k);have Az:=Av (n:=s.num) (by omega) (by omega);have Ky:=Av (n:=s.aA) (by omega) (by omega);have BL:=vD s.bE (by omega);have Lh:=Gf s.aU.length (by omega);have vL:=PC s.aU;have Dq:=vD (dW s.aU) (by omega);have hm6:=Gf s.aB.length (by omega);have H1:=Qh (fun w=>R7 s.num (by omega) (by omega) w);have H2:=Qh (fun w=>R7 s.aA (by omega) (by omega) w);have H3:=Qh (fun w=>Lb s.bE (by omega) w);have H4:=Qh (fun w=>UM s.aU.length (by omega) w);have H5:=Qh (fun b w hc=>Y1 b 0 1 s.aU (by omega) w hc);have H6:=Qh (fun w=>Lb (dW s.aU) (by omega) w);have H7:=Qh (fun w=>UM s.aB.length (by omega) w);have Hh:=Qh (show gm s.num++gm s.aA++fA s.bE++gm s.aU.length++fA (dW s.aU)++gm s.aB.length=o7 s 0 by
  rw[o7,List.take_zero];simp[rW])
 clear mG hg Mi hdt;generalize gm s.num=p1 at Az H1 Hh;generalize gm s.aA=p2 at Ky H2 Hh;generalize fA s.bE=p3 at BL H3 Hh;generalize gm (s.aU.length:Int)=p4 at Lh H4 Hh;generalize fA (dW s.aU)=p6 at Dq H6 Hh;generalize dW s.aU=sm at vL Dq H5 H6;generalize gm (s.aB.length:Int)=p7 at hm6 H7 Hh;obtain⟨T,hT⟩:∃T,dW (lu s)=T:=⟨_,rfl⟩;rw[hT];have HT:=Qh hT;clear hT;obtain⟨v6,ZF⟩:∃v,p1++p2=v:=⟨_,rfl⟩;obtain⟨v10,LJ⟩:∃v,v6++p3=v:=⟨_,rfl⟩;obtain⟨v15,LK⟩:∃v,v10++p4=v:=⟨_,rfl⟩;obtain⟨v21,LM⟩:∃v,v15++p6=v:=⟨_,rfl⟩;obtain⟨v26,PV⟩:∃v,v21++p7=v:=⟨_,rfl⟩;have l6:v6.length=p1.length+p2.length:=by rw[←ZF,List.length_append]
 have l10:v10.length=v6.length+p3.length:=by rw[←LJ,List.length_append]
 have l15:v15.length=v10.length+p4.length:=by rw[←LK,List.length_append]
 have l21:v21.length=v15.length+p6.length:=by rw[←LM,List.length_append]
 have adF:=Qh (show v26=o7 s 0 by rw[←Hh.O,ZF,LJ,LK,LM,PV]);have d6:¬9223372036854775807<p1.length+p2.length:=by omega
 have d10:¬9223372036854775807<v6.length+p3.length:=by omega
 have d15:¬9223372036854775807<v10.length+p4.length:=by omega
 have d21:¬9223372036854775807<v15.length+p6.length:=by omega
 have d26:¬9223372036854775807<v21.length+p7.length:=by omega
 clear l6 l10 l15 l21 Hh;obtain⟨w1,nW⟩:∃w1,w.alloc (.cells #[.int .i64 s.num,.int .i64 s.aA,S s.bE,.slice ao s.aB.length co,S s.aU,S s.sl] 56)=w1:=⟨_,rfl⟩;have kJ:=Qh (show lD w1 w.heap.size s (.slice ao s.aB.length co) by rw[←nW];exact GD rfl (Qb _ _));have aO:Ok I w1:=by rw[←nW];exact hw.alloc _
 have aG:Below w.heap.size w w1:=by rw[←nW];exact(Qb w.heap.size w).alloc (Qn _) _
 have S9:=Qh nW;clear nW;go_enter Tryz.func57,Tryz.ntmps57
 go_wp2_with fail
 rw[S9.O];clear S9;obtain⟨c0,c1,c2,c3,c4,c5⟩:=kJ.O;refine qR (X:=Nat×Nat) (LH w.heap.size s.num s.aA s.bE s.aU p1 p2 p3 p4 sm p6 p7 v6 v10 v15 v21 v26 ao s.aB.length co) (yh w1 27 18 101 [(0,S s.aU)] [] (fun w8=>Below w1.heap.size w1 w8)) (by kernel_rfl) (by kernel_rfl) ?_ ?_ ?_
 ·exact⟨(0,0),yh.start _ _⟩
 ·rintro x s' a' w' i bS bO ha hC hi;obtain⟨aH,oi,dI,au⟩:=mem_ready.1 hi;rcases i with _|_|_|_|_|_|_|_|_|_|_|_|_|_|_|_|_|_|_|_|_|_|_|_|_|_|_|_|i
  rotate_left 28
  ·simp at dI
  all_goals
   have dH:=dI;simp at dI;subst dI;simp[Region.binds]at au
  ·have e1:a'.tmps[1]?.getD undef= .pointer (some ⟨w.heap.size,0,none⟩):=oL ha (by simp);have hl:s'.getD 27 false=false:=gU bO [26,21,15,10,6,2,1,0] (by kernel_rfl) (by rfl) aH;refine wpOp_step dH (fun K' hK=> ?_);rw[if_pos (by rfl)];unfold Oper.wp;simp[go_sem,e1,Oper.upon];exact hK _ _ ⟨x,dS (d:=some 7) (v:= .pointer (some ⟨w.heap.size,0,none⟩)) l5 ha rfl aH,hC.step hl (Qb _ _) (by decide) (by decide) (by decide)⟩
  ·have e7:a'.tmps[7]?.getD undef= .pointer (some ⟨w.heap.size,0,none⟩):=gI (i:=0) l5 ha rfl (by first|simpa using au|simpa using au.1) (by simp);have hl:s'.getD 27 false=false:=gU bO [26,21,15,10,6,2,1] (by kernel_rfl) (by rfl) aH;have cq:=aV (hC.eU hl) c0;refine wpOp_step dH (fun K' hK=> ?_);rw[if_pos (by rfl)];unfold Oper.wp;simp[go_sem,e7,cq,Oper.upon];exact hK _ _ ⟨x,dS (d:=some 8) (v:= .int .i64 s.num) l5 ha rfl aH,hC.step hl (Qb _ _) (by decide) (by decide) (by decide)⟩
  ·have e8:a'.tmps[8]?.getD undef= .int .i64 s.num:=gI (i:=1) l5 ha rfl (by first|simpa using au|simpa using au.1) (by simp);have hl:s'.getD 27 false=false:=gU bO [26,21,15,10,6,2] (by kernel_rfl) (by rfl) aH;refine wpOp_step dH (fun K' hK=> ?_);rw[if_pos (by rfl)];unfold Oper.wp;simp[go_sem,e8,Oper.upon];refine(H1.O w').mono ?_;rintro r4 w4 ⟨rfl,aS⟩;exact hK _ _ ⟨x,dS (d:=some 9) (v:=S p1) l5 ha rfl aH,hC.step hl aS (by decide) (by decide) (by decide)⟩
  ·have e1:a'.tmps[1]?.getD undef= .pointer (some ⟨w.heap.size,0,none⟩):=oL ha (by simp);have hl:s'.getD 27 false=false:=gU bO [26,21,15,10,6,5,4,3] (by kernel_rfl) (by rfl) aH;refine wpOp_step dH (fun K' hK=> ?_);rw[if_pos (by rfl)];unfold Oper.wp;simp[go_sem,e1,Oper.upon];exact hK _ _ ⟨x,dS (d:=some 10) (v:= .pointer (some ⟨w.heap.size,1,none⟩)) l5 ha rfl aH,hC.step hl (Qb _ _) (by decide) (by decide) (by decide)⟩
  ·have e10:a'.tmps[10]?.getD undef= .pointer (some ⟨w.heap.size,1,none⟩):=gI (i:=3) l5 ha rfl (by first|simpa using au|simpa using au.1) (by simp);have hl:s'.getD 27 false=false:=gU bO [26,21,15,10,6,5,4] (by kernel_rfl) (by rfl) aH;have cq:=aV (hC.eU hl) c1;refine wpOp_step dH (fun K' hK=> ?_);rw[if_pos (by rfl)];unfold Oper.wp;simp[go_sem,e10,cq,Oper.upon];exact hK _ _ ⟨x,dS (d:=some 11) (v:= .int .i64 s.aA) l5 ha rfl aH,hC.step hl (Qb _ _) (by decide) (by decide) (by decide)⟩
  ·have e11:a'.tmps[11]?.getD undef= .int .i64 s.aA:=gI (i:=4) l5 ha rfl (by first|simpa using au|simpa using au.1) (by simp);have hl:s'.getD 27 false=false:=gU bO [26,21,15,10,6,5] (by kernel_rfl) (by rfl) aH;refine wpOp_step dH (fun K' hK=> ?_);rw[if_pos (by rfl)];unfold Oper.wp;simp[go_sem,e11,Oper.upon];refine(H2.O w').mono ?_;rintro r4 w4 ⟨rfl,aS⟩;exact hK _ _ ⟨x,dS (d:=some 12) (v:=S p2) l5 ha rfl aH,hC.step hl aS (by decide) (by decide) (by decide)⟩
  ·have e9:a'.tmps[9]?.getD undef=S p1:=gI (i:=2) l5 ha rfl (by simpa using au.1) (by simp);have e12:a'.tmps[12]?.getD undef=S p2:=gI (i:=5) l5 ha rfl (by first|simpa using au.2|simpa using au.2.1) (by simp);have hl:s'.getD 27 false=false:=gU bO [26,21,15,10,6] (by kernel_rfl) (by rfl) aH;refine wpOp_step dH (fun K' hK=> ?_);rw[if_pos (by rfl)];unfold Oper.wp;simp[go_sem,e9,e12,d6,ZF,Oper.upon];exact hK _ _ ⟨x,dS (d:=some 13) (v:=S v6) l5 ha rfl aH,hC.step hl (Qb _ _) (by decide) (by decide) (by decide)⟩
  ·have e1:a'.tmps[1]?.getD undef= .pointer (some ⟨w.heap.size,0,none⟩):=oL ha (by simp);have hl:s'.getD 27 false=false:=gU bO [26,21,15,10,9,8,7] (by kernel_rfl) (by rfl) aH;refine wpOp_step dH (fun K' hK=> ?_);rw[if_pos (by rfl)];unfold Oper.wp;simp[go_sem,e1,Oper.upon];exact hK _ _ ⟨x,dS (d:=some 14) (v:= .pointer (some ⟨w.heap.size,2,none⟩)) l5 ha rfl aH,hC.step hl (Qb _ _) (by decide) (by decide) (by decide)⟩
  ·have e14:a'.tmps[14]?.getD undef= .pointer (some ⟨w.heap.size,2,none⟩):=gI (i:=7) l5 ha rfl (by first|simpa using au|simpa using au.1) (by simp);have hl:s'.getD 27 false=false:=gU bO [26,21,15,10,9,8] (by kernel_rfl) (by rfl) aH;have cq:=aV (hC.eU hl) c2;refine wpOp_step dH (fun K' hK=> ?_);rw[if_pos (by rfl)];unfold Oper.wp;simp[go_sem,e14,cq,Oper.upon];exact hK _ _ ⟨x,dS (d:=some 15) (v:=S s.bE) l5 ha rfl aH,hC.step hl (Qb _ _) (by decide) (by decide) (by decide)⟩
  ·have e15:a'.tmps[15]?.getD undef=S s.bE:=gI (i:=8) l5 ha rfl (by first|simpa using au|simpa using au.1) (by simp);have hl:s'.getD 27 false=false:=gU bO [26,21,15,10,9] (by kernel_rfl) (by rfl) aH;refine wpOp_step dH (fun K' hK=> ?_);rw[if_pos (by rfl)];unfold Oper.wp;simp[go_sem,e15,Oper.upon];refine(H3.O w').mono ?_;rintro r4 w4 ⟨rfl,aS⟩;exact hK _ _ ⟨x,dS (d:=some 16) (v:=S p3) l5 ha rfl aH,hC.step hl aS (by decide) (by decide) (by decide)⟩
  ·have e13:a'.tmps[13]?.getD undef=S v6:=gI (i:=6) l5 ha rfl (by simpa using au.1) (by simp);have e16:a'.tmps[16]?.getD undef=S p3:=gI (i:=9) l5 ha rfl (by first|simpa using au.2|simpa using au.2.1) (by simp);have hl:s'.getD 27 false=false:=gU bO [26,21,15,10] (by kernel_rfl) (by rfl) aH;refine wpOp_step dH (fun K' hK=> ?_);rw[if_pos (by rfl)];unfold Oper.wp;simp[go_sem,e13,e16,d10,LJ,Oper.upon];exact hK _ _ ⟨x,dS (d:=some 17) (v:=S v10) l5 ha rfl aH,hC.step hl (Qb _ _) (by decide) (by decide) (by decide)⟩
  ·have e1:a'.tmps[1]?.getD undef= .pointer (some ⟨w.heap.size,0,none⟩):=oL ha (by simp);have hl:s'.getD 27 false=false:=gU bO [26,21,15,14,13,12,11] (by kernel_rfl) (by rfl) aH;refine wpOp_step dH (fun K' hK=> ?_);rw[if_pos (by rfl)];unfold Oper.wp;simp[go_sem,e1,Oper.upon];exact hK _ _ ⟨x,dS (d:=some 18) (v:= .pointer (some ⟨w.heap.size,4,none⟩)) l5 ha rfl aH,hC.step hl (Qb _ _) (by decide) (by decide) (by decide)⟩
  ·have e18:a'.tmps[18]?.getD undef= .pointer (some ⟨w.heap.size,4,none⟩):=gI (i:=11) l5 ha rfl (by first|simpa using au|simpa using au.1) (by simp);have hl:s'.getD 27 false=false:=gU bO [26,21,15,14,13,12] (by kernel_rfl) (by rfl) aH;have cq:=aV (hC.eU hl) c4;refine wpOp_step dH (fun K' hK=> ?_);rw[if_pos (by rfl)];unfold Oper.wp;simp[go_sem,e18,cq,Oper.upon];exact hK _ _ ⟨x,dS (d:=some 19) (v:=S s.aU) l5 ha rfl aH,hC.step hl (Qb _ _) (by decide) (by decide) (by decide)⟩
  ·have e19:a'.tmps[19]?.getD undef=S s.aU:=gI (i:=12) l5 ha rfl (by first|simpa using au|simpa using au.1) (by simp);have hl:s'.getD 27 false=false:=gU bO [26,21,15,14,13] (by kernel_rfl) (by rfl) aH;refine wpOp_step dH (fun K' hK=> ?_);rw[if_pos (by rfl)];unfold Oper.wp;simp[go_sem,e19,Oper.upon];exact hK _ _ ⟨x,dS (d:=some 20) (v:= .int .i64 (s.aU.length:Int)) l5 ha rfl aH,hC.step hl (Qb _ _) (by decide) (by decide) (by decide)⟩
  ·have e20:a'.tmps[20]?.getD undef= .int .i64 (s.aU.length:Int):=gI (i:=13) l5 ha rfl (by first|simpa using au|simpa using au.1) (by simp);have hl:s'.getD 27 false=false:=gU bO [26,21,15,14] (by kernel_rfl) (by rfl) aH;refine wpOp_step dH (fun K' hK=> ?_);rw[if_pos (by rfl)];unfold Oper.wp;simp[go_sem,e20,Oper.upon];refine(H4.O w').mono ?_;rintro r4 w4 ⟨rfl,aS⟩;exact hK _ _ ⟨x,dS (d:=some 21) (v:=S p4) l5 ha rfl aH,hC.step hl aS (by decide) (by decide) (by decide)⟩
  ·have e17:a'.tmps[17]?.getD undef=S v10:=gI (i:=10) l5 ha rfl (by simpa using au.1) (by simp);have e21:a'.tmps[21]?.getD undef=S p4:=gI (i:=14) l5 ha rfl (by first|simpa using au.2|simpa using au.2.1) (by simp);have hl:s'.getD 27 false=false:=gU bO [26,21,15] (by kernel_rfl) (by rfl) aH;refine wpOp_step dH (fun K' hK=> ?_);rw[if_pos (by rfl)];unfold Oper.wp;simp[go_sem,e17,e21,d15,LK,Oper.upon];exact hK _ _ ⟨x,dS (d:=some 22) (v:=S v15) l5 ha rfl aH,hC.step hl (Qb _ _) (by decide) (by decide) (by decide)⟩
  ·have e1:a'.tmps[1]?.getD undef= .pointer (some ⟨w.heap.size,0,none⟩):=oL ha (by simp);have hl:s'.getD 27 false=false:=gU bO [26,21,20,19,18,17,16] (by kernel_rfl) (by rfl) aH;refine wpOp_step dH (fun K' hK=> ?_);rw[if_pos (by rfl)];unfold Oper.wp;simp[go_sem,e1,Oper.upon];exact hK _ _ ⟨x,dS (d:=some 23) (v:= .pointer (some ⟨w.heap.size,4,none⟩)) l5 ha rfl aH,hC.step hl (Qb _ _) (by decide) (by decide) (by decide)⟩
  ·have e23:a'.tmps[23]?.getD undef= .pointer (some ⟨w.heap.size,4,none⟩):=gI (i:=16) l5 ha rfl (by first|simpa using au|simpa using au.1) (by simp);have hl:s'.getD 27 false=false:=gU bO [26,21,20,19,18,17] (by kernel_rfl) (by rfl) aH;have cq:=aV (hC.eU hl) c4;refine wpOp_step dH (fun K' hK=> ?_);rw[if_pos (by rfl)];unfold Oper.wp;simp[go_sem,e23,cq,Oper.upon];exact hK _ _ ⟨x,dS (d:=some 24) (v:=S s.aU) l5 ha rfl aH,hC.step hl (Qb _ _) (by decide) (by decide) (by decide)⟩
  ·have e24:a'.tmps[24]?.getD undef=S s.aU:=gI (i:=17) l5 ha rfl (by first|simpa using au|simpa using au.1) (by simp);have hl:s'.getD 27 false=false:=gU bO [26,21,20,19,18] (by kernel_rfl) (by rfl) aH;have ha:=ha.trans (YH (L:=LH w.heap.size s.num s.aA s.bE s.aU p1 p2 p3 p4 sm p6 p7 v6 v10 v15 v21 v26 ao s.aB.length co x) (M:=LH w.heap.size s.num s.aA s.bE s.aU p1 p2 p3 p4 sm p6 p7 v6 v10 v15 v21 v26 ao s.aB.length co (w'.heap.size,x.2)) 18 rfl (fun j bq=>by
    rcases j with _|_|_|_|_|_|_|_|_|_|_|_|_|_|_|_|_|_|_|j<;>first|rfl|(exact absurd rfl bq)|simp) aH)
   refine wpOp_step dH (fun K' hK=> ?_);rw[if_pos (by rfl)];unfold Oper.wp;simp[go_sem,e24,Oper.upon];refine hK _ _ ⟨(w'.heap.size,x.2),dS (d:=some 25) (v:= .slice (some ⟨w'.heap.size,0,none⟩) 1 1) l5 ha rfl aH,hC.at1 hl ((Qb _ _).alloc (Qn _) _) (by decide) (by decide) (fun p hp=> ?_)⟩;simp at hp;subst hp;simp
  ·have e25:a'.tmps[25]?.getD undef= .slice (some ⟨x.1,0,none⟩) 1 1:=gI (i:=18) l5 ha rfl (by first|simpa using au|simpa using au.1) (by simp);have hl:s'.getD 27 false=false:=gU bO [26,21,20,19] (by kernel_rfl) (by rfl) aH;have AA:=hC.f1 (by first|simpa using au|simpa using au.1) hl _ (List.mem_singleton.2 rfl);refine wpOp_step dH (fun K' hK=> ?_);rw[if_pos (by rfl)];unfold Oper.wp;simp[go_sem,e25,Oper.upon];refine(H5.O x.1 w' AA).mono ?_;rintro r4 w4 ⟨rfl,aS⟩;exact hK _ _ ⟨x,dS (d:=some 26) (v:=S sm) l5 ha rfl aH,hC.step hl aS (by decide) (by decide) (by decide)⟩
  ·have e26:a'.tmps[26]?.getD undef=S sm:=gI (i:=19) l5 ha rfl (by first|simpa using au|simpa using au.1) (by simp);have hl:s'.getD 27 false=false:=gU bO [26,21,20] (by kernel_rfl) (by rfl) aH;refine wpOp_step dH (fun K' hK=> ?_);rw[if_pos (by rfl)];unfold Oper.wp;simp[go_sem,e26,Oper.upon];refine(H6.O w').mono ?_;rintro r4 w4 ⟨rfl,aS⟩;exact hK _ _ ⟨x,dS (d:=some 27) (v:=S p6) l5 ha rfl aH,hC.step hl aS (by decide) (by decide) (by decide)⟩
  ·have e22:a'.tmps[22]?.getD undef=S v15:=gI (i:=15) l5 ha rfl (by simpa using au.1) (by simp);have e27:a'.tmps[27]?.getD undef=S p6:=gI (i:=20) l5 ha rfl (by first|simpa using au.2|simpa using au.2.1) (by simp);have hl:s'.getD 27 false=false:=gU bO [26,21] (by kernel_rfl) (by rfl) aH;refine wpOp_step dH (fun K' hK=> ?_);rw[if_pos (by rfl)];unfold Oper.wp;simp[go_sem,e22,e27,d21,LM,Oper.upon];exact hK _ _ ⟨x,dS (d:=some 28) (v:=S v21) l5 ha rfl aH,hC.step hl (Qb _ _) (by decide) (by decide) (by decide)⟩
  ·have e1:a'.tmps[1]?.getD undef= .pointer (some ⟨w.heap.size,0,none⟩):=oL ha (by simp);have hl:s'.getD 27 false=false:=gU bO [26,25,24,23,22] (by kernel_rfl) (by rfl) aH;refine wpOp_step dH (fun K' hK=> ?_);rw[if_pos (by rfl)];unfold Oper.wp;simp[go_sem,e1,Oper.upon];exact hK _ _ ⟨x,dS (d:=some 29) (v:= .pointer (some ⟨w.heap.size,3,none⟩)) l5 ha rfl aH,hC.step hl (Qb _ _) (by decide) (by decide) (by decide)⟩
  ·have e29:a'.tmps[29]?.getD undef= .pointer (some ⟨w.heap.size,3,none⟩):=gI (i:=22) l5 ha rfl (by first|simpa using au|simpa using au.1) (by simp);have hl:s'.getD 27 false=false:=gU bO [26,25,24,23] (by kernel_rfl) (by rfl) aH;have cq:=aV (hC.eU hl) c3;refine wpOp_step dH (fun K' hK=> ?_);rw[if_pos (by rfl)];unfold Oper.wp;simp[go_sem,e29,cq,Oper.upon];exact hK _ _ ⟨x,dS (d:=some 30) (v:= .slice ao s.aB.length co) l5 ha rfl aH,hC.step hl (Qb _ _) (by decide) (by decide) (by decide)⟩
  ·have e30:a'.tmps[30]?.getD undef= .slice ao s.aB.length co:=gI (i:=23) l5 ha rfl (by first|simpa using au|simpa using au.1) (by simp);have hl:s'.getD 27 false=false:=gU bO [26,25,24] (by kernel_rfl) (by rfl) aH;refine wpOp_step dH (fun K' hK=> ?_);rw[if_pos (by rfl)];unfold Oper.wp;simp[go_sem,e30,Oper.upon];exact hK _ _ ⟨x,dS (d:=some 31) (v:= .int .i64 (s.aB.length:Int)) l5 ha rfl aH,hC.step hl (Qb _ _) (by decide) (by decide) (by decide)⟩
  ·have e31:a'.tmps[31]?.getD undef= .int .i64 (s.aB.length:Int):=gI (i:=24) l5 ha rfl (by first|simpa using au|simpa using au.1) (by simp);have hl:s'.getD 27 false=false:=gU bO [26,25] (by kernel_rfl) (by rfl) aH;refine wpOp_step dH (fun K' hK=> ?_);rw[if_pos (by rfl)];unfold Oper.wp;simp[go_sem,e31,Oper.upon];refine(H7.O w').mono ?_;rintro r4 w4 ⟨rfl,aS⟩;exact hK _ _ ⟨x,dS (d:=some 32) (v:=S p7) l5 ha rfl aH,hC.step hl aS (by decide) (by decide) (by decide)⟩
  ·have e28:a'.tmps[28]?.getD undef=S v21:=gI (i:=21) l5 ha rfl (by simpa using au.1) (by simp);have e32:a'.tmps[32]?.getD undef=S p7:=gI (i:=25) l5 ha rfl (by first|simpa using au.2|simpa using au.2.1) (by simp);have hl:s'.getD 27 false=false:=gU bO [26] (by kernel_rfl) (by rfl) aH;refine wpOp_step dH (fun K' hK=> ?_);rw[if_pos (by rfl)];unfold Oper.wp;simp[go_sem,e28,e32,d26,PV,Oper.upon];exact hK _ _ ⟨x,dS (d:=some 33) (v:=S v26) l5 ha rfl aH,hC.step hl (Qb _ _) (by decide) (by decide) (by decide)⟩
  ·have e33:a'.tmps[33]?.getD undef=S v26:=gI (i:=26) l5 ha rfl (by first|simpa using au|simpa using au.1) (by simp);have hl:s'.getD 27 false=false:=gG aH;refine wpOp_step dH (fun K' hK=> ?_);rw[if_pos (by rfl)];unfold Oper.wp;simp[go_sem,e33,Oper.upon];exact hK _ _ ⟨x,dS (d:=some 3) (v:=S v26) l5 ha rfl aH,yh.end' aH (hC.eU hl)⟩
 ·rintro x s' a' w8 eu ha hC;have mH:=hC.fin (eu 27 (by decide));rw[qz _ _ _ _ (fun i hi=>by rw[Nat.zero_add];exact eu i (by simpa using hi))]at ha;subst ha;simp only[dE,Act.put];have Sc:=Qh (kJ.O.aR mH);have Jf:=aG.trans (mH.mono aG.size);have lG:Ok I w8:=aO.below (Qn _) mH;clear hC eu mH d6 d10 d15 d21 d26 ZF LJ LK LM PV H1 H2 H3 H4 H5 H6 H7 c0 c1 c2 c3 c4 c5 kJ aO aG;go_wp2_with fail
  go_loopw [3,4] (fun s3 s4 wr=> ∃k:Nat,k≤s.aB.length∧s4= .int .i64 k∧s3=S (o7 s k)∧lD wr w.heap.size s (.slice ao s.aB.length co)∧Below w.heap.size w wr) (fun _ i _=>s.aB.length-(intOf i).toNat)
  case atStart=>exact⟨0,Nat.zero_le _,rfl,by rw[←adF.O],Sc.O,Jf⟩
  case round=>
   clear Sc Jf lG;obtain⟨k,hk,rfl,rfl,rU,hb⟩:=hrel;have sP:=Qh rU;have eX:Ok I wr:=hw.below (Qn _) hb;have oh:=F6.O k;clear rU;obtain⟨c0,c1,c2,c3,c4,c5⟩:=sP.O;by_cases hlt:k<s.aB.length
   ·obtain⟨x,RY,RZ,b,off,cap',cB,dC,⟨x0,x1,x2,x3,x4,x5,x6⟩,h1,h2⟩:=wD Hv.O eX k hlt;cases dC;obtain⟨xa,xc,rfl,_,_,_⟩:=id h1;obtain⟨xx,xd,rfl,_,_,_⟩:=id h2;have qK:x∈s.aB:=by rw[←cB];exact List.getElem_mem hlt
    have ni:=Hg.O.err x qK;have QM:=Hg.O.aC x qK;have bI:=Qh (Xlk hlt cB);have PR:=Qh (fun w hw=>Xlq I x _ _ h1 h2 (Hg.O.wf x qK) (R6 ni) ni (by omega) w hw);have uU:=Xku (R6 ni) (show x.aC.length≤1000 by omega);clear cB h1 h2 qK ni;generalize yJ x=y at bI PR uU;generalize o7 s k=u at bI oh ⊢;go_wp2_with fail
    refine(PR.O _ eX).mono ?_;rintro r w4 ⟨rfl,aS⟩;have iI:=Qh (sP.O.aR aS);have cK:=hb.trans (aS.mono hb.size);clear aS sP c0 c1 c2 c3 c4 c5 x0 x1 x2 x3 x4 x5 x6 PR;go_wp2;go_roundw;case rel=>exact⟨k+1,by omega,by go_num,(by rw[bI.O]),iI.O,cK⟩
    case measure=>simp[intOf];omega
   ·have Hn:=Qh (Xor s (k:=k) (by omega));rw[Hn.O]at oh ⊢;obtain⟨u,hu⟩:∃u,lu s=u:=⟨_,rfl⟩;rw[hu]at oh ⊢;have Hu:=Qh (show T=dW u by rw[←HT.O,hu]);clear hu Hn;have H6:=Qh (Y1 wr.heap.size 0 1 u (by omega) (wr.alloc (.cells #[S u] 9)) (by simp));go_wp2_with fail
    refine H6.O.mono ?_;rintro e6 w6 ⟨rfl,gF⟩;go_wp2;go_ret;rw[Hu.O];exact⟨rfl,(hb.alloc hb.size _).trans (gF.mono (by have:=hb.size;simp;omega))⟩
def meaning(x y:bD):Bool:=decide (x.av=y.av)&&decide (x.ag=y.ag)&&decide (x.target=y.target)&&decide (x.size=y.size)&&decide (x.aD=y.aD)
def zk:List bD→List bD→List af
 | [],[]=> []
 |x::a,[]=>x.aj::zk a []
 | [],y::b=>y.aj::zk [] b
 |x::a,y::b=>if oU x y then x.aj::zk a (y::b)else if oU y x then y.aj::zk (x::a) b else if meaning x y then zk a b else x.aj::zk a b
termination_by a b=>a.length+b.length
def aqz(l:List af):Prop:=l.Pairwise fun p q=>kZ (els p) (els q)=true
def adG(a b:List bD)(p:af):Prop:=(∃x∈a,x.aj=p∧ ∀y∈b,y.aj=p→meaning x y=false)∨(∃y∈b,y.aj=p∧ ∀x∈a,x.aj≠p)
theorem Xrj{s:oC}{e:bD}{d:Int}(h:(fK s e d).2=0):dh s.aF e=((dh s.aF e).1,0)∧(fK s e d).1.aF=Nn s.aF e∧aX e=0:=by
 unfold fK at*;split at h
 ·contradiction
 ·rename_i h1;have ha:=Xfl (t:=s.aF) (e:=e) (by omega);obtain⟨hp,hx⟩:=tK.1 ha;split at h
  ·contradiction
  ·rename_i h2;split at h
   ·contradiction
   ·rename_i h3;rw[if_neg h1,if_neg h2,if_neg h3];exact⟨ha,hx,hp.OY⟩
def ajs(i:Option bD)(l:List Pz):Option bD:=l.foldl (fun _ v=>if v.e.av=4 then none else some v.e) i
def sV(d:Int):oC→List bD→Prop
 |_,[]=>True
 |s,e::es=>(fK s e d).2=0∧sV d (fK s e d).1 es
def xS:oC→List bV→Prop
 |_,[]=>True
 |s,x::xs=>sV x.aA s x.aB∧xS (nN s x.aA x.aB) xs
structure ajt (i:Nat) (bE:af) (aA:Int) (x:bV):Prop where
 dig:(u6 x).2=0
 num:x.num=i+1
 aA:aA≤x.aA
 bE:x.bE=bE
theorem Xq4(s:oC)(a b:List bV):aP s (a++b)=aP (aP s a) b:=List.foldl_append
def writes(p:af)(e:bD):Bool:=decide (e.av≤3)&&e.aj==p
def Y2(p:af)(l:List bV):Nat:=(l.flatMap fun x=>x.aB.filter (writes p)).length
def keeps(v:Pz):Bool:=decide (v.e.av≠4)
def NI:Bool→List Pz→Prop
 |_,[]=>True
 |r,v::vs=>if v.e.av=4 then r=false∧NI true vs else NI false vs
