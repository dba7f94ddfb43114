/- Lemmas for the claim's theorem;conditions: as each says. -/
import Derived.Test.YtdodihnehppnmaaGreatDoorG21
set_option maxHeartbeats 0
set_option maxRecDepth 100000
set_option linter.all false
namespace Go.Proofs.YtdodihnehppnmaaGreatDoor
open Go.RowKit
theorem Xwi(k:Int)(w:World):Calls Tryz.prog 150 #[.int .i64 k] w fun e w'=>e= .returned (S (bH k))∧Below w.heap.size w w':=
 (Xjy k w).mono fun _ _ h=>⟨h.1,by rw[h.2];exact Qb _ _⟩
theorem Xq9(I:IH)(e:ay)(va vx:Value)(dV:bf kT I va e.ai)(dX:bf mE I vx e.ak)(hc:lV e)(w:World)(hw:Ok I w):
 Calls Tryz.prog 101 #[eT e va vx] w fun r w'=>r= .returned (S (dR e))∧Below w.heap.size w w':=by
 obtain⟨aa,ca,rfl,_,_,_⟩:=id dV;obtain⟨ax,cx,rfl,_,_,_⟩:=id dX;have Hv:=Qh dV;have UT:=hc.uW;have PK:=hc.af;have PL:=hc.target;have rq:=Qh hc.Iy;have Hl:=Qh (TE UT rq.O);have pR:=Hl.O 0;have JG:=MZ e.ag;have xM:=mQ (bH e.ag) (by omega);have FP:=mQ e.af (by omega);have JK:=mQ e.target (by omega);have H0:=Qh (fun w=>Xwi e.ag w);have H1:=Qh (fun w=>Fq (bH e.ag) (by omega) w);have H2:=Qh (fun w=>Fq e.af (by omega) w);have H3:=Qh (fun w=>Nn e.ai.length (by omega) w);have H4:=Qh (fun w=>Fq e.target (by omega) w);have hz:bq e.ai.length=kQ e.ai 0:=by rw[kQ,List.take_zero,List.flatMap_nil,List.append_nil]
 have Hh:=Qh (show aN (bH e.ag)++aN e.af++q8 e.ai++aN e.target=dR e from rfl);rw[hz]at H3;clear dV dX hc hz;generalize aN (bH e.ag)=p1 at xM H1 Hh;generalize bH e.ag=nm at JG xM H0 H1;generalize aN e.af=p2 at FP H2 Hh;generalize aN e.target=p4 at JK H4 Hh;have lH:=Qh (bS (W:=w) (e:=e) (va:= .slice aa e.ai.length ca) (vx:= .slice ax e.ak.length cx) (t:=26) rfl (Qb _ _));obtain⟨c0,c1,c2,c3,c4,c5,c6⟩:=lH.O;have e0:=cell_regrown c0;have e1:=cell_regrown c1;have e2:=cell_regrown c2;have xA:=(Qb w.heap.size w).alloc (Qn _) (.cells #[.int .i64 e.ag,S e.af,.slice aa e.ai.length ca,S e.target,.int .i64 e.size,S e.aj,.slice ax e.ak.length cx] 26);clear c0 c1 c2 c3 c4 c5 c6;go_enter Tryz.func101,Tryz.ntmps101
 go_wp2_with fail
 refine wp_region_quiet_below (by kernel_rfl) (by kernel_rfl) ?_;repeat(go_big_quiet_step ((with_reducible first|exact Calls.regrown_of (H0.O _)|exact Calls.regrown_of (H1.O _)|exact Calls.regrown_of (H2.O _)|exact Calls.regrown_of (H3.O _))))
 refine wpQuiet_nil ?_;intro w1 bg;have au:Below ((w.alloc (.cells #[.int .i64 e.ag,S e.af,.slice aa e.ai.length ca,S e.target,.int .i64 e.size,S e.aj,.slice ax e.ak.length cx] 26))).heap.size ((w.alloc (.cells #[.int .i64 e.ag,S e.af,.slice aa e.ai.length ca,S e.target,.int .i64 e.size,S e.aj,.slice ax e.ak.length cx] 26))) w1:=by
  obtain⟨pq,rfl⟩:=bg;exact below_regrown _ _ _
 clear bg;have gT:=Qh (lH.O.aA au);have av:=xA.trans (au.mono xA.size);clear e0 e1 e2 au xA lH H0 H1 H2 H3;go_wp2_with fail
 go_loopw [3,4] (fun s3 s4 wr=> ∃k:Nat,k≤e.ai.length∧s4= .int .i64 k∧s3=S (p1++p2++kQ e.ai k)∧aW wr w.heap.size e (.slice aa e.ai.length ca) (.slice ax e.ak.length cx)∧Below w.heap.size w wr) (fun _ i _=>e.ai.length-(intOf i).toNat)
 case atStart=>exact⟨0,Nat.zero_le _,rfl,by simp,gT.O,av⟩
 case round=>
  clear av gT;obtain⟨k,hk,rfl,rfl,ma,hb⟩:=hrel;have lL:=Qh ma;have dz:Ok I wr:=hw.below (Qn _) hb;have oW:=Hl.O k;obtain⟨c0,c1,c2,c3,c4,c5,c6⟩:=lL.O;clear ma;by_cases hlt:k<e.ai.length
  ·obtain⟨x,b,off,cap',bN,di,a0,a1⟩:=uU Hv.O dz k hlt;cases di;have Ms:=rq.O x (by rw[←bN];exact List.getElem_mem hlt);have bB:=Qh (Xd hlt bN);have pg:=mQ x.k (by omega);have sP:=mQ x.v (by omega);have xH:=Qh (fun w=>Fq x.k (by omega) w);have QI:=Qh (fun w=>Fq x.v (by omega) w);clear bN;generalize aN x.k=p at bB pg xH;generalize aN x.v=q at bB sP QI;generalize kQ e.ai k=u at bB oW ⊢;have x0:=cell_regrown a0;have x1:=cell_regrown a1;have e2:=cell_regrown c2;go_wp2_with fail
   refine wp_region_quiet_below (by kernel_rfl) (by kernel_rfl) ?_;repeat(go_big_quiet_step ((with_reducible first|exact Calls.regrown_of (xH.O _)|exact Calls.regrown_of (QI.O _))))
   refine wpQuiet_nil ?_;intro w2 bg;have aD:Below (wr).heap.size (wr) w2:=by
    obtain⟨pq,rfl⟩:=bg;exact below_regrown _ _ _
   clear bg;have nL:=Qh (lL.O.aA aD);clear x0 x1 e2 c0 c1 c2 c3 c4 c5 c6;go_wp2;go_roundw;case rel=>exact⟨k+1,by omega,by go_num,(by rw[bB.O];simp),nL.O,hb.trans (aD.mono hb.size)⟩
   case measure=>simp[intOf];omega
  ·have Hn:=Qh (Xe e.ai (k:=k) (by omega));rw[Hn.O]at oW ⊢;generalize q8 e.ai=u at oW Hh ⊢;go_wp2_with fail
   refine(H4.O _).mono ?_;rintro r w2 ⟨rfl,aD⟩;go_wp2;go_ret;exact⟨FR (by rw[←Hh.O];simp),hb.trans (aD.mono hb.size)⟩
theorem Xsv(I:IH)(e:ay)(va vx:Value)(dV:bf kT I va e.ai)(dX:bf mE I vx e.ak)(iZ:e.Wf)(hx:e.ak.length≤1000)(he:az e≠0)(w:World)(hw:Ok I w):
 Calls Tryz.prog 208 #[eT e va vx] w fun r w'=>r= .returned (.tuple #[S [],.int .i64 (az e)])∧Below w.heap.size w w':=by
 have j6:=Qh (fun w hw=>OO I e va vx dV dX iZ w hw);obtain⟨aa,ca,rfl,_,_,_⟩:=id dV;obtain⟨ax,cx,rfl,_,_,_⟩:=id dX;rw[OM (by omega)]at j6;obtain⟨q,hq⟩:∃q,az e=q:=⟨_,rfl⟩;rw[hq]at j6 he ⊢;have Ao:(q !=0)=true:=by simpa using he
 clear hq he;go_enter Tryz.func208,Tryz.ntmps208
 go_wp2_with fail
 refine(j6.O _ (hw.alloc _)).mono ?_;rintro e1 w1 ⟨rfl,au⟩;have av:=((Qb w.heap.size w).alloc (Qn _) (.cells #[.int .i64 e.ag,S e.af,.slice aa e.ai.length ca,S e.target,.int .i64 e.size,S e.aj,.slice ax e.ak.length cx] 26)).trans (au.mono (by simp));go_wp2;go_ret2;exact⟨rfl,av⟩
theorem Xl9(I:IH)(e:ay)(va vx:Value)(dV:bf kT I va e.ai)(dX:bf mE I vx e.ak)(iZ:e.Wf)(hc:lV e)(he:az e=0)(hx:e.ak.length≤1000)(w:World)(hw:Ok I w):
 Calls Tryz.prog 208 #[eT e va vx] w fun r w'=>r= .returned (.tuple #[S (yh e),.int .i64 0])∧Below w.heap.size w w':=by
 have j6:=Qh (fun w hw=>OO I e va vx dV dX iZ w hw);have H0:=Qh (fun w hw=>Xq9 I e va vx dV dX hc w hw);obtain⟨aa,ca,rfl,_,_,_⟩:=id dV;obtain⟨ax,cx,rfl,_,_,_⟩:=id dX;rw[OM (by omega),he]at j6;have Hv:=Qh dX;have p8:=hc.s0;have oD:=hc.s1;have arf:=hc.aj;have Ox:=Qh hc.TF;have Hl:=Qh (Xqk hc hx);have FK:=TG hc;have Hz:=Qh (show aN (dR e)++bq e.size++aN e.aj++bq e.ak.length=rD e 0 from(Xuj e).symm);have xM:=mQ (dR e) (by omega);have FP:=CU p8 (by omega);have UU:=mQ e.aj (by omega);have JK:=y9 e.ak.length (by omega);have H1:=Qh (fun w=>Fq (dR e) (by omega) w);have H2:=Qh (fun w=>Nu e.size p8 (by omega) w);have H3:=Qh (fun w=>Fq e.aj (by omega) w);have H4:=Qh (fun w=>Nn e.ak.length (by omega) w);clear dV dX hc he;generalize aN (dR e)=p1 at Hz xM H1;generalize bq e.size=p2 at Hz FP H2;generalize aN e.aj=p3 at Hz UU H3;generalize bq (e.ak.length:Int)=p4 at Hz JK H4;generalize dR e=hd at H0 H1 FK xM;go_enter Tryz.func208,Tryz.ntmps208
 go_wp2_with fail
 refine(j6.O _ (hw.alloc _)).mono ?_;rintro e1 w1 ⟨rfl,au⟩;have gT:=Qh (bS (e:=e) rfl au);have aB:Ok I w1:=(hw.alloc _).below (Qn _) au;have av:=((Qb w.heap.size w).alloc (Qn _) (.cells #[.int .i64 e.ag,S e.af,.slice aa e.ai.length ca,S e.target,.int .i64 e.size,S e.aj,.slice ax e.ak.length cx] 26)).trans (au.mono (by simp));obtain⟨c0,c1,c2,c3,c4,c5,c6⟩:=gT.O;have e0:=cell_regrown c0;have e1:=cell_regrown c1;have e2:=cell_regrown c2;have e3:=cell_regrown c3;have e4:=cell_regrown c4;have e5:=cell_regrown c5;have e6:=cell_regrown c6;clear au j6 c0 c1 c2 c3 c4 c5 c6;go_wp2_with fail
 refine wp_region_quiet_below (by kernel_rfl) (by kernel_rfl) ?_;repeat(go_big_quiet_step ((with_reducible first|exact Calls.regrown_of (H0.O _ (aB.below (Qn _) (below_regrown _ _ _)))|exact Calls.regrown_of (H1.O _)|exact Calls.regrown_of (H2.O _)|exact Calls.regrown_of (H3.O _)|exact Calls.regrown_of (H4.O _))))
 refine wpQuiet_nil ?_;intro w2 bg;have aD:Below (w1).heap.size (w1) w2:=by
  obtain⟨pq,rfl⟩:=bg;exact below_regrown _ _ _
 clear bg;have nL:=Qh (gT.O.aA aD);have aK:=av.trans (aD.mono av.size);clear e0 e1 e2 e3 e4 e5 e6 aD gT aB av H0 H1 H2 H3 H4;go_wp2_with fail
 go_loopw [5,6] (fun s5 s6 wr=> ∃k:Nat,k≤e.ak.length∧s6= .int .i64 k∧s5=S (rD e k)∧aW wr w.heap.size e (.slice aa e.ai.length ca) (.slice ax e.ak.length cx)∧Below w.heap.size w wr) (fun _ i _=>e.ak.length-(intOf i).toNat)
 case atStart=>exact⟨0,Nat.zero_le _,rfl,by rw[←Hz.O];simp,nL.O,aK⟩
 case round=>
  clear nL aK Hz xM FP UU JK FK;obtain⟨k,hk,rfl,rfl,ma,hb⟩:=hrel;have lL:=Qh ma;have dz:Ok I wr:=hw.below (Qn _) hb;have oW:=Hl.O k;obtain⟨c0,c1,c2,c3,c4,c5,c6⟩:=lL.O;clear ma;by_cases hlt:k<e.ak.length
  ·obtain⟨x,b,off,cap',bN,di,a0,a1,a2⟩:=wo Hv.O dz k hlt;cases di;obtain⟨y0,y1,y2,y3,y4,y5⟩:=Ox.O x (by rw[←bN];exact List.getElem_mem hlt);have bB:=Qh (Xuk hlt bN);have LX:=CU (n:=x.s) (by omega) (by omega);have Ol:=CU (n:=x.o) (by omega) (by omega);have Bq:=CU (n:=x.n) (by omega) (by omega);have H1:=Qh (fun w=>Nu x.s (by omega) (by omega) w);have H2:=Qh (fun w=>Nu x.o (by omega) (by omega) w);have H3:=Qh (fun w=>Nu x.n (by omega) (by omega) w);have g0:=cell_regrown (show(wr.alloc (.cells #[.int .i64 x.s,.int .i64 x.o,.int .i64 x.n] 134)).cell? ⟨wr.heap.size,0,none⟩=some (.int .i64 x.s) by simp);have g1:=cell_regrown (show(wr.alloc (.cells #[.int .i64 x.s,.int .i64 x.o,.int .i64 x.n] 134)).cell? ⟨wr.heap.size,1,none⟩=some (.int .i64 x.o) by simp);have g2:=cell_regrown (show(wr.alloc (.cells #[.int .i64 x.s,.int .i64 x.o,.int .i64 x.n] 134)).cell? ⟨wr.heap.size,2,none⟩=some (.int .i64 x.n) by simp);have HBa:=Qh (aW.past lL.O (.cells #[.int .i64 x.s,.int .i64 x.o,.int .i64 x.n] 134));have xA:=hb.alloc hb.size (.cells #[.int .i64 x.s,.int .i64 x.o,.int .i64 x.n] 134);clear bN;generalize bq x.s=q1 at bB LX H1;generalize bq x.o=q2 at bB Ol H2;generalize bq x.n=q3 at bB Bq H3;generalize rD e k=u at bB oW ⊢;go_wp2_with fail
   refine wp_region_quiet_below (by kernel_rfl) (by kernel_rfl) ?_;repeat(go_big_quiet_step ((with_reducible first|exact Calls.regrown_of (H1.O _)|exact Calls.regrown_of (H2.O _)|exact Calls.regrown_of (H3.O _))))
   refine wpQuiet_nil ?_;intro w2 bg;have aD:Below ((wr.alloc (.cells #[.int .i64 x.s,.int .i64 x.o,.int .i64 x.n] 134))).heap.size ((wr.alloc (.cells #[.int .i64 x.s,.int .i64 x.o,.int .i64 x.n] 134))) w2:=by
    obtain⟨pq,rfl⟩:=bg;exact below_regrown _ _ _
   clear bg;have nL:=Qh (HBa.O.aA aD);clear g0 g1 g2 a0 a1 a2 c0 c1 c2 c3 c4 c5 c6;go_wp2;go_roundw;case rel=>exact⟨k+1,by omega,by go_num,(by rw[bB.O];simp),nL.O,xA.trans (aD.mono xA.size)⟩
   case measure=>simp[intOf];omega
  ·have Hn:=Qh (Xql e (k:=k) (by omega));rw[Hn.O];go_wp2;go_ret2;exact⟨rfl,hb⟩
theorem Xob(I:IH)(s:dm)(ve:Value)(uQ:bf bC I ve s.aH)(hg:kR s)(w:World)(hw:Ok I w):
 Calls Tryz.prog 206 #[uA s ve] w fun r w'=>r= .returned (.int .i64 (dO s))∧Below w.heap.size w w':=by
 obtain⟨ao,co,rfl,_,_,_⟩:=id uQ;have Hv:=Qh uQ;have Hg:=Qh hg;have Lg:=hg.qG;have fO:=hg.aI;have vH:=hg.bP;have vY:=hg.sl;have z1:decide (14680064<s.aI.length)=false:=Qf (by omega);have z2:decide (400<s.aH.length)=false:=Qf (by omega);have jM:iR s≠0→dO s=iR s:=fun h=>by rw[dO,if_pos h]
 have qO:iR s=0→dO s=if eQ s.aH≠0 then eQ s.aH else if 2000<s.sl.length then 6 else 0:=fun h=>by
  rw[dO,if_neg (by omega),if_neg (by omega)]
 clear uQ hg;by_cases h1:s.num<1
 ·have d1:decide (s.num<1)=true:=Qt h1;have Hn:=Qh (show dO s=2 by rw[jM]<;>rw[iR,if_pos (.inl h1)];decide);clear h1 jM qO;go_enter Tryz.func206,Tryz.ntmps206
  go_wp2;go_ret;exact⟨bT Hn.O.symm,(Qb w.heap.size w).alloc (Qn _) _⟩
 have d1:decide (s.num<1)=false:=Qf h1;by_cases h2:255<s.num
 ·have d2:decide (255<s.num)=true:=Qt h2;have Hn:=Qh (show dO s=2 by rw[jM]<;>rw[iR,if_pos (.inr (.inl h2))];decide);clear h1 h2 jM qO;go_enter Tryz.func206,Tryz.ntmps206
  go_wp2;go_ret;exact⟨bT Hn.O.symm,(Qb w.heap.size w).alloc (Qn _) _⟩
 have d2:decide (255<s.num)=false:=Qf h2;by_cases h3:s.aT<0
 ·have d3:decide (s.aT<0)=true:=Qt h3;have Hn:=Qh (show dO s=2 by rw[jM]<;>rw[iR,if_pos (.inr (.inr (.inl h3)))];decide);clear h1 h2 h3 jM qO;go_enter Tryz.func206,Tryz.ntmps206
  go_wp2;go_ret;exact⟨bT Hn.O.symm,(Qb w.heap.size w).alloc (Qn _) _⟩
 have d3:decide (s.aT<0)=false:=Qf h3;by_cases h4:1000000000<s.aT
 ·have d4:decide (1000000000<s.aT)=true:=Qt h4;have Hn:=Qh (show dO s=2 by rw[jM]<;>rw[iR,if_pos (.inr (.inr (.inr h4)))];decide);clear h1 h2 h3 h4 jM qO;go_enter Tryz.func206,Tryz.ntmps206
  go_wp2;go_ret;exact⟨bT Hn.O.symm,(Qb w.heap.size w).alloc (Qn _) _⟩
 have d4:decide (1000000000<s.aT)=false:=Qf h4;have hf:iR s=if s.bP≠[]∧s.bP.length≠32 then 1 else 0:=by
  rw[iR,if_neg];rintro(h|h|h|h)<;>contradiction
 clear h1 h2 h3 h4;by_cases h5:s.bP=[]
 ·have QJ:=Qh (qO (by rw[hf,if_neg fun q=>q.1 h5]));have pR:s.bP.length=0:=by rw[h5];rfl
  have d5:((s.bP.length:Int) !=0)=false:=by rw[pR];rfl
  have d5':((s.bP.length:Int)==0)=true:=by rw[pR];rfl
  clear h5 hf jM qO pR;go_enter Tryz.func206,Tryz.ntmps206
  go_wp2_with fail
  have lH:=Qh (wZ (W:=w) (s:=s) (ve:= .slice ao s.aH.length co) (t:=35) rfl (Qb _ _));have om:=(Qb w.heap.size w).alloc (Qn _) (.cells #[.int .i64 s.num,.int .i64 s.aT,S s.bP,.slice ao s.aH.length co,S s.aI,S s.sl] 35);go_loopw [3] (fun s3 wr=> ∃k:Nat,k≤s.aH.length∧s3= .int .i64 k∧eQ (s.aH.drop k)=eQ s.aH∧mY wr w.heap.size s (.slice ao s.aH.length co)∧Below w.heap.size w wr) (fun i _=>s.aH.length-(intOf i).toNat)
  case atStart=>exact⟨0,Nat.zero_le _,rfl,rfl,lH.O,om⟩
  case round=>
   clear lH om;obtain⟨k,hk,rfl,ET,ma,hb⟩:=hrel;have lL:=Qh ma;have zZ:=Qh ET;have dz:Ok I wr:=hw.below (Qn _) hb;clear ma ET;obtain⟨c0,c1,c2,c3,c4,c5⟩:=lL.O;by_cases hlt:k<s.aH.length
   ·obtain⟨x,Gw,Gx,b,off,cap',bN,di,⟨x0,x1,x2,x3,x4,x5,x6⟩,h1,h2⟩:=oG Hv.O dz k hlt;cases di;obtain⟨xa,xc,rfl,_,_,_⟩:=id h1;obtain⟨xx,xd,rfl,_,_,_⟩:=id h2;have gL:x∈s.aH:=by rw[←bN];exact List.getElem_mem hlt
    have uO:=Hg.O.wf x gL;have sQ:=Hg.O.ak x gL;have Ej:=Qh (Xg5 hlt bN);have pY:=Qh (fun w hw=>OO I x _ _ h1 h2 uO w hw);rw[OM (by omega)]at pY;clear bN h1 h2 gL uO;go_wp2_with fail
    refine(pY.O _ dz).mono ?_;rintro e1 w4 ⟨rfl,aL⟩;have fG:=Qh (lL.O.aA aL);have aO:=hb.trans (aL.mono hb.size);clear aL lL c0 c1 c2 c3 c4 c5 x0 x1 x2 x3 x4 x5 x6 pY;by_cases hx0:az x=0
    ·have Lh:=Qh (show eQ (s.aH.drop (k+1))=eQ s.aH by rw[←zZ.O,Ej.O,if_neg (by omega)]);rw[hx0];clear hx0;go_wp2;go_roundw;case rel=>exact⟨k+1,by omega,by go_num,Lh.O,fG.O,aO⟩
     case measure=>simp[intOf];omega
    ·have Hn:=Qh (show dO s=az x by
      have h:=zZ.O;rw[Ej.O,if_pos hx0]at h;rw[QJ.O,if_pos (by rw[←h];exact hx0),←h])
     obtain⟨q,hq⟩:∃q,az x=q:=⟨_,rfl⟩;rw[hq]at hx0 Hn ⊢;have Ao:(q !=0)=true:=by simpa using hx0
     clear hx0 hq;go_wp2;go_ret;exact⟨bT Hn.O.symm,aO⟩
   ·have El:=Qh (show dO s=if 2000<s.sl.length then 6 else 0 by
     have h:=zZ.O;rw[List.drop_of_length_le (by omega)]at h;rw[QJ.O,if_neg];rw[←h];simp[eQ])
    by_cases h2:2000<s.sl.length
    ·have dI:decide ((2000:Int)<(s.sl.length:Int))=true:=Qt (by omega);have yI:=Qh (show dO s=6 by rw[El.O,if_pos h2]);go_wp2;go_ret;exact⟨bT yI.O.symm,hb⟩
    ·have dI:decide ((2000:Int)<(s.sl.length:Int))=false:=Qf (by omega);have yI:=Qh (show dO s=0 by rw[El.O,if_neg h2]);go_wp2;go_ret;exact⟨bT yI.O.symm,hb⟩
 have d5:((s.bP.length:Int) !=0)=true:=by
  have:=List.length_pos_iff.2 h5;simpa using(show(s.bP.length:Int)≠0 by omega)
 have d5':((s.bP.length:Int)==0)=false:=by
  have:=List.length_pos_iff.2 h5;simpa using(show(s.bP.length:Int)≠0 by omega)
 by_cases h6:s.bP.length=32
 ·have d6:((s.bP.length:Int) !=32)=false:=by rw[h6];rfl
  have d7:((s.bP.length:Int)==32)=true:=by rw[h6];rfl
  have QJ:=Qh (qO (by rw[hf,if_neg fun q=>q.2 h6]));clear h5 hf h6 jM qO;go_enter Tryz.func206,Tryz.ntmps206
  go_wp2_with fail
  have lH:=Qh (wZ (W:=w) (s:=s) (ve:= .slice ao s.aH.length co) (t:=35) rfl (Qb _ _));have om:=(Qb w.heap.size w).alloc (Qn _) (.cells #[.int .i64 s.num,.int .i64 s.aT,S s.bP,.slice ao s.aH.length co,S s.aI,S s.sl] 35);go_loopw [3] (fun s3 wr=> ∃k:Nat,k≤s.aH.length∧s3= .int .i64 k∧eQ (s.aH.drop k)=eQ s.aH∧mY wr w.heap.size s (.slice ao s.aH.length co)∧Below w.heap.size w wr) (fun i _=>s.aH.length-(intOf i).toNat)
  case atStart=>exact⟨0,Nat.zero_le _,rfl,rfl,lH.O,om⟩
  case round=>
   clear lH om;obtain⟨k,hk,rfl,ET,ma,hb⟩:=hrel;have lL:=Qh ma;have zZ:=Qh ET;have dz:Ok I wr:=hw.below (Qn _) hb;clear ma ET;obtain⟨c0,c1,c2,c3,c4,c5⟩:=lL.O;by_cases hlt:k<s.aH.length
   ·obtain⟨x,Gw,Gx,b,off,cap',bN,di,⟨x0,x1,x2,x3,x4,x5,x6⟩,h1,h2⟩:=oG Hv.O dz k hlt;cases di;obtain⟨xa,xc,rfl,_,_,_⟩:=id h1;obtain⟨xx,xd,rfl,_,_,_⟩:=id h2;have gL:x∈s.aH:=by rw[←bN];exact List.getElem_mem hlt
    have uO:=Hg.O.wf x gL;have sQ:=Hg.O.ak x gL;have Ej:=Qh (Xg5 hlt bN);have pY:=Qh (fun w hw=>OO I x _ _ h1 h2 uO w hw);rw[OM (by omega)]at pY;clear bN h1 h2 gL uO;go_wp2_with fail
    refine(pY.O _ dz).mono ?_;rintro e1 w4 ⟨rfl,aL⟩;have fG:=Qh (lL.O.aA aL);have aO:=hb.trans (aL.mono hb.size);clear aL lL c0 c1 c2 c3 c4 c5 x0 x1 x2 x3 x4 x5 x6 pY;by_cases hx0:az x=0
    ·have Lh:=Qh (show eQ (s.aH.drop (k+1))=eQ s.aH by rw[←zZ.O,Ej.O,if_neg (by omega)]);rw[hx0];clear hx0;go_wp2;go_roundw;case rel=>exact⟨k+1,by omega,by go_num,Lh.O,fG.O,aO⟩
     case measure=>simp[intOf];omega
    ·have Hn:=Qh (show dO s=az x by
      have h:=zZ.O;rw[Ej.O,if_pos hx0]at h;rw[QJ.O,if_pos (by rw[←h];exact hx0),←h])
     obtain⟨q,hq⟩:∃q,az x=q:=⟨_,rfl⟩;rw[hq]at hx0 Hn ⊢;have Ao:(q !=0)=true:=by simpa using hx0
     clear hx0 hq;go_wp2;go_ret;exact⟨bT Hn.O.symm,aO⟩
   ·have El:=Qh (show dO s=if 2000<s.sl.length then 6 else 0 by
     have h:=zZ.O;rw[List.drop_of_length_le (by omega)]at h;rw[QJ.O,if_neg];rw[←h];simp[eQ])
    by_cases h2:2000<s.sl.length
    ·have dI:decide ((2000:Int)<(s.sl.length:Int))=true:=Qt (by omega);have yI:=Qh (show dO s=6 by rw[El.O,if_pos h2]);go_wp2;go_ret;exact⟨bT yI.O.symm,hb⟩
    ·have dI:decide ((2000:Int)<(s.sl.length:Int))=false:=Qf (by omega);have yI:=Qh (show dO s=0 by rw[El.O,if_neg h2]);go_wp2;go_ret;exact⟨bT yI.O.symm,hb⟩
 ·have d6:((s.bP.length:Int) !=32)=true:=by simpa using(show(s.bP.length:Int)≠32 by omega)
  have d7:((s.bP.length:Int)==32)=false:=by simpa using(show(s.bP.length:Int)≠32 by omega)
  have Hn:=Qh (show dO s=1 by rw[jM]<;>rw[hf,if_pos ⟨h5,h6⟩];decide);clear h5 hf h6 jM qO;go_enter Tryz.func206,Tryz.ntmps206
  go_wp2;go_ret;exact⟨bT Hn.O.symm,(Qb w.heap.size w).alloc (Qn _) _⟩
theorem Xoe(I:IH)(v:Value)(l:List At)(hv:bf kT I v l)(hl:∀x∈l,x.Wf)(w:World)(hw:Ok I w):
 Calls Tryz.prog 34 #[v] w fun e w'=>e= .returned (.int .i64 (l7 l))∧Below w.heap.size w w':=by
 have hlen:=hv.dh;obtain⟨ao,cap,rfl,dD,il,_⟩:=id hv;have Hv:=Qh hv;clear hv;have Hl:=Qh hl;clear hl;by_cases NQ:l.length≤30
 ·have hd:decide (30<l.length)=false:=by simp;omega
  go_enter Tryz.func34,Tryz.ntmps34
  go_wp2_with fail
  go_loopw [3] (fun s3 wr=> ∃k:Nat,k≤l.length∧s3= .int .i64 k∧(l.take k).any Dq=false∧Below w.heap.size w wr) (fun i _=>l.length-(intOf i).toNat)
  case atStart=>exact⟨0,Nat.zero_le _,rfl,rfl,Qb _ _⟩
  case round=>
   obtain⟨k,hk,rfl,hr,hb⟩:=hrel;have Hr:=Qh hr;clear hr;by_cases hlt:k<l.length
   ·have dz:Ok I wr:=hw.below (Qn _) hb;obtain⟨x,b,off,cap',bN,di,mM,qX⟩:=uU Hv.O dz k hlt;cases di;have uS:x∈l:=by rw[←bN];exact List.getElem_mem hlt
    obtain⟨fP,eZ⟩:=Hl.O x uS;have QK:=Qh uS;have nG:=Qh (show l.take (k+1)=l.take k++[x] by rw[List.take_succ_eq_append_getElem hlt,bN]);clear bN uS;by_cases h1:x.k.length≤100
    ·have lM:decide (100<x.k.length)=false:=by simp;omega
     by_cases h2:x.v.length≤100
     ·have oP:decide (100<x.v.length)=false:=by simp;omega
      go_wp2;go_roundw;case rel=>exact⟨k+1,by omega,by go_num,(by rw[nG.O,List.any_append,Hr.O];simp[Dq];omega),hb⟩
      case measure=>simp[intOf];omega
     ·have oP:decide (100<x.v.length)=true:=by simp;omega
      go_wp2;go_ret;exact⟨bT (by rw[l7,if_neg (by omega),if_pos (List.any_eq_true.2 ⟨x,QK.O,by simp[Dq];omega⟩)]),hb⟩
    ·have lM:decide (100<x.k.length)=true:=by simp;omega
     go_wp2;go_ret;exact⟨bT (by rw[l7,if_neg (by omega),if_pos (List.any_eq_true.2 ⟨x,QK.O,by simp[Dq];omega⟩)]),hb⟩
   ·go_wp2;go_ret;refine⟨bT ?_,hb⟩;have:=Hr.O;rw[List.take_of_length_le (by omega)]at this;rw[l7,if_neg (by omega),if_neg (by rw[this];simp)]
 ·have hd:decide (30<l.length)=true:=by simp;omega
  go_enter Tryz.func34,Tryz.ntmps34
  go_wp2;go_ret;exact⟨bT (by rw[l7,if_pos (by omega)]),Qb _ _⟩
theorem YF(I:IH)(x:ay)(va vx:Value)(dV:bf kT I va x.ai)(dX:bf mE I vx x.ak)(iZ:x.Wf)(w:World)(hw:Ok I w):
 Calls Tryz.prog 12 #[eT x va vx] w fun e w'=>e= .returned (.int .i64 (grE x))∧Below w.heap.size w w':=by
 obtain⟨ao,cap,rfl,dD,il,_⟩:=id dX;have bN:=dX.dh;clear dX;by_cases h1:300<x.af.length;case pos=>
  have Hg:=Qh (show grE x=1 by simp[grE,fI,h1]);go_enter Tryz.func12,Tryz.ntmps12
  go_wp2;go_ret;exact⟨bT Hg.O.symm,(Qb _ _).alloc (Qn _) _⟩
 by_cases h2:300<x.target.length;case pos=>
  have Hg:=Qh (show grE x=1 by simp[grE,fI,h2]);go_enter Tryz.func12,Tryz.ntmps12
  go_wp2;go_ret;exact⟨bT Hg.O.symm,(Qb _ _).alloc (Qn _) _⟩
 by_cases h3:100<x.aj.length;case pos=>
  have Hg:=Qh (show grE x=1 by simp[grE,fI,h3]);go_enter Tryz.func12,Tryz.ntmps12
  go_wp2;go_ret;exact⟨bT Hg.O.symm,(Qb _ _).alloc (Qn _) _⟩
 by_cases h4:30<x.ak.length;case pos=>
  have Hg:=Qh (show grE x=1 by simp[grE,fI,h4]);go_enter Tryz.func12,Tryz.ntmps12
  go_wp2;go_ret;exact⟨bT Hg.O.symm,(Qb _ _).alloc (Qn _) _⟩
 have Hg:=Qh (show grE x=if l7 x.ai=1 then 1 else 0 by simp[grE,fI,h1,h2,h3,h4]);have vF:=Qh (fun w hw=>Xoe I va x.ai dV iZ.ai w hw);clear dV;rcases Xm3 x.ai with hg|hg
 ·rw[hg]at Hg vF;clear hg;go_enter Tryz.func12,Tryz.ntmps12
  go_wp2_with fail
  refine(vF.O _ (hw.alloc _)).mono ?_;rintro e w1 ⟨rfl,au⟩;go_wp2;go_ret;exact⟨bT Hg.O.symm,((Qb _ _).alloc (Qn _) _).trans (au.mono (by simp))⟩
 ·rw[hg]at Hg vF;clear hg;go_enter Tryz.func12,Tryz.ntmps12
  go_wp2_with fail
  refine(vF.O _ (hw.alloc _)).mono ?_;rintro e w1 ⟨rfl,au⟩;go_wp2;go_ret;exact⟨bT Hg.O.symm,((Qb _ _).alloc (Qn _) _).trans (au.mono (by simp))⟩
