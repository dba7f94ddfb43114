/- Lemmas for the claim's theorem;conditions: as each says. -/
import Derived.Test.YtdodihnehppnmaaGreatDoorG23
import Derived.Test.YtdodihnehppnmaaGreatDoorG18
import Derived.Test.YtdodihnehppnmaaGreatDoorG27
set_option maxHeartbeats 0
set_option maxRecDepth 100000
set_option linter.all false
namespace Go.Proofs.YtdodihnehppnmaaGreatDoor
open Go.RowKit
abbrev smL(b o n cp b2 o2 cp2 k:Nat)(c:tC)(va vb:Value)(x:Nat×Nat):List (Option Tmp×Value):=
 [(some 20,.slice (some ⟨b,o,none⟩) n cp),(some 21,.int .i64 (k:Int)),(some 22,.pointer (some ⟨b,o+k*5,none⟩)),(some 23,QB c va),(some 24,.slice (some ⟨b2,o2,none⟩) n cp2),(some 25,.int .i64 (k:Int)),(some 26,.pointer (some ⟨b2,o2+k*5,none⟩)),(some 27,QB c vb),(some 6,.pointer (some ⟨x.1,0,none⟩)),(some 7,.pointer (some ⟨x.2,0,none⟩)),(none,undef),(none,undef)]
theorem Y6{s:dm}(hg:kR s)(h0:dO s=0)(k:Nat):(pM s k).length≤1700000:=
 Xvz hg (O6 h0).1 fun e he=>Wj (O6 h0).2.2.2.1 e (List.mem_of_mem_take he)
theorem Y7(s:dm):pM s s.aH.length=kN s:=Xv0 s (Qn _)
theorem Xgu(I:IH)(s:dm)(ve:Value)(uQ:bf bC I ve s.aH)(hg:kR s)(h0:dO s=0)(w:World)(hw:Ok I w):
 Calls Tryz.prog 142 #[uA s ve] w fun r w'=>r= .returned (S (kN s))∧Below w.heap.size w w':=by
 obtain⟨ao,co,rfl,_,_,_⟩:=id uQ;have Hv:=Qh uQ;have Hg:=Qh hg;have hks:=Wl (O6 h0).1;have kw:=Qh (Wj (O6 h0).2.2.2.1);have Uh:=Qh (Y6 hg h0);have Lg:=hg.qG;have fO:=hg.aI;have vH:=hg.bP;have LX:=CU (n:=s.num) (by omega) (by omega);have Ol:=CU (n:=s.aT) (by omega) (by omega);have Bq:=mQ s.bP (by omega);have Ke:=y9 s.aI.length (by omega);have Ib:=Xpk s.aI;have CJ:=mQ (bE s.aI) (by omega);have hm6:=y9 s.aH.length (by omega);have H1:=Qh (fun w=>Nu s.num (by omega) (by omega) w);have H2:=Qh (fun w=>Nu s.aT (by omega) (by omega) w);have H3:=Qh (fun w=>Fq s.bP (by omega) w);have H4:=Qh (fun w=>Nn s.aI.length (by omega) w);have H5:=Qh (fun w=>Xgx s.aI (by omega) w);have H6:=Qh (fun w=>Fq (bE s.aI) (by omega) w);have H7:=Qh (fun w=>Nn s.aH.length (by omega) w);have Hh:=Qh (show bq s.num++bq s.aT++aN s.bP++(bq s.aI.length++aN (bE s.aI)++bq s.aH.length)=pM s 0 by
  rw[pM,List.take_zero];simp[qx])
 have sw:=Qh (Y7 s);clear uQ hg h0 hks;generalize bq s.num=p1 at LX H1 Hh;generalize bq s.aT=p2 at Ol H2 Hh;generalize aN s.bP=p3 at Bq H3 Hh;generalize bq (s.aI.length:Int)=p4 at Ke H4 Hh;generalize aN (bE s.aI)=p6 at CJ H6 Hh;generalize bE s.aI=sm at Ib CJ H5 H6;generalize bq (s.aH.length:Int)=p7 at hm6 H7 Hh;have lH:=Qh (wZ (W:=w) (s:=s) (ve:= .slice ao s.aH.length co) (t:=35) rfl (Qb _ _));have om:=(Qb w.heap.size w).alloc (Qn _) (.cells #[.int .i64 s.num,.int .i64 s.aT,S s.bP,.slice ao s.aH.length co,S s.aI,S s.sl] 35);obtain⟨c0,c1,c2,c3,c4,c5⟩:=lH.O;have e0:=cell_regrown c0;have e1:=cell_regrown c1;have e2:=cell_regrown c2;have e3:=cell_regrown c3;have e4:=cell_regrown c4;clear c0 c1 c2 c3 c4 c5;go_enter Tryz.func142,Tryz.ntmps142
 go_wp2_with fail
 refine wp_region_quiet_below (by kernel_rfl) (by kernel_rfl) ?_;repeat(go_big_quiet_step ((with_reducible first|exact Calls.regrown_of (H1.O _)|exact Calls.regrown_of (H2.O _)|exact Calls.regrown_of (H3.O _)|exact Calls.regrown_of (H4.O _)|exact Calls.regrown_of (H5.O _)|exact Calls.regrown_of (H6.O _)|exact Calls.regrown_of (H7.O _))))
 refine wpQuiet_nil ?_;intro w1 bg;have au:Below ((w.alloc (.cells #[.int .i64 s.num,.int .i64 s.aT,S s.bP,.slice ao s.aH.length co,S s.aI,S s.sl] 35))).heap.size ((w.alloc (.cells #[.int .i64 s.num,.int .i64 s.aT,S s.bP,.slice ao s.aH.length co,S s.aI,S s.sl] 35))) w1:=by
  obtain⟨pq,rfl⟩:=bg;exact below_regrown _ _ _
 clear bg;have gT:=Qh (lH.O.aA au);have av:=om.trans (au.mono om.size);clear e0 e1 e2 e3 e4 au lH om H1 H2 H3 H4 H5 H6 H7;go_wp2_with fail
 go_loopw [3,4] (fun s3 s4 wr=> ∃k:Nat,k≤s.aH.length∧s4= .int .i64 k∧s3=S (pM s k)∧mY wr w.heap.size s (.slice ao s.aH.length co)∧Below w.heap.size w wr) (fun _ i _=>s.aH.length-(intOf i).toNat)
 case atStart=>exact⟨0,Nat.zero_le _,rfl,by rw[←Hh.O];simp,gT.O,av⟩
 case round=>
  clear gT av;obtain⟨k,hk,rfl,rfl,ma,hb⟩:=hrel;have lL:=Qh ma;have dz:Ok I wr:=hw.below (Qn _) hb;have Ie:=Uh.O k;clear ma;obtain⟨c0,c1,c2,c3,c4,c5⟩:=lL.O;by_cases hlt:k<s.aH.length
  ·obtain⟨x,Gw,Gx,b,off,cap',bN,di,⟨x0,x1,x2,x3,x4,x5,x6⟩,h1,h2⟩:=oG Hv.O dz k hlt;cases di;obtain⟨xa,xc,rfl,_,_,_⟩:=id h1;obtain⟨xx,xd,rfl,_,_,_⟩:=id h2;have gL:x∈s.aH:=by rw[←bN];exact List.getElem_mem hlt
   have hx0:=kw.O x gL;have sQ:=Hg.O.ak x gL;have bB:=Qh (Xsm hlt bN);have pY:=Qh (fun w hw=>Xl9 I x _ _ h1 h2 (Hg.O.wf x gL) (CS hx0) hx0 (by omega) w hw);have yS:=Xqm (CS hx0) (show x.ak.length≤1000 by omega);clear bN h1 h2 gL hx0;generalize yh x=y at bB pY yS;generalize pM s k=u at bB Ie ⊢;go_wp2_with fail
   refine(pY.O _ dz).mono ?_;rintro r w4 ⟨rfl,aL⟩;have fG:=Qh (lL.O.aA aL);have aO:=hb.trans (aL.mono hb.size);clear aL lL c0 c1 c2 c3 c4 c5 x0 x1 x2 x3 x4 x5 x6 pY;go_wp2;go_roundw;case rel=>exact⟨k+1,by omega,by go_num,(by rw[bB.O]),fG.O,aO⟩
   case measure=>simp[intOf];omega
  ·have nu:k=s.aH.length:=by omega
   have Hn:=Qh (show pM s k=kN s by rw[nu];exact sw.O);rw[Hn.O];go_wp2;go_ret;exact⟨rfl,hb⟩
theorem Xl5(n:Nat)(hn:n≤1000000000000)(w:World):
 Calls Tryz.prog 207 #[.int .i64 n] w fun r w'=> ∃d:ae,d.length=8∧r= .returned (S d)∧Below w.heap.size w w':=by
 go_enter Tryz.func207,Tryz.ntmps207
 go_wp2_with fail
 go_loop [0,3,4] (fun s0 s3 s4=> ∃(i m:Nat) (d:ae),i≤8∧m≤1000000000000∧s4= .int .i64 i∧s0= .int .i64 m∧s3=S d∧d.length=i) (fun _ _ i=>8-(intOf i).toNat)
 case atStart=>exact⟨0,n,[],by omega,hn,rfl,rfl,rfl,rfl⟩
 case round=>
  obtain⟨i,m,d,hi,hm,rfl,rfl,rfl,hd⟩:=hrel;have Hd:=Qh hd;have Vh:d.length≤8:=by omega
  clear hd;by_cases hlt:i<8
  ·go_wp2;go_round;case rel=>exact⟨i+1,m / 10,_,by omega,by omega,by go_num,by go_num,rfl,by have:=Hd.O;simp;omega⟩
   case measure=>simp[intOf];omega
  ·have hd':d.length=8:=by have:=Hd.O;omega
   have D9:=Qh hd';clear hd';go_wp2;go_ret;exact⟨d,D9.O,rfl,Qb _ _⟩
theorem Xl6(I:IH)(s:dm)(ve:Value)(uQ:bf bC I ve s.aH)(hg:kR s)(w:World)(hw:Ok I w):
 Calls Tryz.prog 141 #[uA s ve] w fun r w'=> ∃t:ae,r= .returned (.tuple #[S t,.int .i64 (dO s)])∧Below w.heap.size w w':=by
 have j6:=Qh (fun w hw=>Xob I s ve uQ hg w hw);have Lx:=Qh (fun h0 w hw=>Xgu I s ve uQ hg h0 w hw);have Hl:=Qh (fun h0=>by have:=Y6 hg h0 s.aH.length;rw[Y7]at this;exact this);obtain⟨ao,co,rfl,_,_,_⟩:=id uQ;have vY:=hg.sl;clear uQ hg;by_cases h0:dO s=0
 ·have Hs:=Qh (Lx.O h0);have hl:=Hl.O h0;rw[h0]at j6 ⊢;generalize kN s=u at Hs hl;have bB:=Qh (fun w=>Fq s.sl (by omega) w);have uL:=mQ s.sl (by omega);generalize aN s.sl=q at bB uL;clear Lx Hl h0;go_enter Tryz.func141,Tryz.ntmps141
  go_wp2_with fail
  refine(j6.O _ (hw.alloc _)).mono ?_;rintro e1 w1 ⟨rfl,au⟩;have gT:=Qh (wZ (s:=s) rfl au);have aB:Ok I w1:=(hw.alloc _).below (Qn _) au;have av:=((Qb w.heap.size w).alloc (Qn _) (.cells #[.int .i64 s.num,.int .i64 s.aT,S s.bP,.slice ao s.aH.length co,S s.aI,S s.sl] 35)).trans (au.mono (by simp));clear au j6;obtain⟨c0,c1,c2,c3,c4,c5⟩:=gT.O;go_wp2_with fail
  refine(Hs.O _ aB).mono ?_;rintro e2 w2 ⟨rfl,aD⟩;have nL:=Qh (gT.O.aA aD);have aK:=av.trans (aD.mono av.size);clear aD Hs gT av c0 c1 c2 c3 c4 c5;obtain⟨c0,c1,c2,c3,c4,c5⟩:=nL.O;go_wp2_with fail
  refine(bB.O _).mono ?_;rintro e3 w3 ⟨rfl,bU⟩;have df:=aK.trans (bU.mono aK.size);clear bU bB nL aK c0 c1 c2 c3 c4 c5;have LA:=Qh (Xl5 (u++q).length (by simp;omega) w3);simp only[List.length_append]at LA;go_wp2_with fail
  refine LA.O.mono ?_;rintro e4 w4 ⟨d,hd,rfl,aL⟩;have Vh:d.length≤8:=by omega
  clear hd;go_wp2;go_ret2;exact⟨_,rfl,df.trans (aL.mono df.size)⟩
 ·obtain⟨q,hq⟩:∃q,dO s=q:=⟨_,rfl⟩;rw[hq]at j6 h0 ⊢;have Ao:(q !=0)=true:=by simpa using h0
  clear h0 hq Lx Hl;go_enter Tryz.func141,Tryz.ntmps141
  go_wp2_with fail
  refine(j6.O _ (hw.alloc _)).mono ?_;rintro e1 w1 ⟨rfl,au⟩;have av:=((Qb w.heap.size w).alloc (Qn _) (.cells #[.int .i64 s.num,.int .i64 s.aT,S s.bP,.slice ao s.aH.length co,S s.aI,S s.sl] 35)).trans (au.mono (by simp));go_wp2;go_ret2;exact⟨[],rfl,av⟩
theorem Xgv(I:IH)(s:dm)(ve:Value)(uQ:bf bC I ve s.aH)(hg:kR s)(w:World)(hw:Ok I w):
 Calls Tryz.prog 93 #[uA s ve] w fun r w'=>r= .returned (.tuple #[S (eO s).1,.int .i64 (eO s).2])∧Below w.heap.size w w':=by
 have pY:=Qh (fun w hw=>Xl6 I s ve uQ hg w hw);have Lx:=Qh (fun h0 w hw=>Xgu I s ve uQ hg h0 w hw);have Hl:=Qh (fun h0=>by have:=Y6 hg h0 s.aH.length;rw[Y7]at this;exact this);obtain⟨ao,co,rfl,_,_,_⟩:=id uQ;clear uQ hg;by_cases h0:dO s=0
 ·have Hn:=Qh (show eO s=(bE (kN s),0) by rw[eO,if_neg (by omega)]);have Hs:=Qh (Lx.O h0);have hl:=Hl.O h0;rw[h0]at pY;rw[Hn.O];generalize kN s=u at Hs hl ⊢;have LA:=Qh (fun w=>Xgx u (by omega) w);clear Lx Hl h0 Hn;go_enter Tryz.func93,Tryz.ntmps93
  go_wp2_with fail
  refine(pY.O _ (hw.alloc _)).mono ?_;rintro e1 w1 ⟨t,rfl,au⟩;have gT:=Qh (wZ (s:=s) rfl au);have aB:Ok I w1:=(hw.alloc _).below (Qn _) au;have av:=((Qb w.heap.size w).alloc (Qn _) (.cells #[.int .i64 s.num,.int .i64 s.aT,S s.bP,.slice ao s.aH.length co,S s.aI,S s.sl] 35)).trans (au.mono (by simp));clear au pY;obtain⟨c0,c1,c2,c3,c4,c5⟩:=gT.O;go_wp2_with fail
  refine(Hs.O _ aB).mono ?_;rintro e2 w2 ⟨rfl,aD⟩;have aK:=av.trans (aD.mono av.size);go_wp2_with fail
  refine(LA.O _).mono ?_;rintro e3 w3 ⟨rfl,bU⟩;go_wp2;go_ret2;exact⟨rfl,aK.trans (bU.mono aK.size)⟩
 ·have Hn:=Qh (show eO s=([],dO s) by rw[eO,if_pos h0]);rw[Hn.O];obtain⟨q,hq⟩:∃q,dO s=q:=⟨_,rfl⟩;rw[hq]at pY h0 ⊢;have Ao:(q !=0)=true:=by simpa using h0
  clear h0 hq Lx Hl Hn;go_enter Tryz.func93,Tryz.ntmps93
  go_wp2_with fail
  refine(pY.O _ (hw.alloc _)).mono ?_;rintro e1 w1 ⟨t,rfl,au⟩;have av:=((Qb w.heap.size w).alloc (Qn _) (.cells #[.int .i64 s.num,.int .i64 s.aT,S s.bP,.slice ao s.aH.length co,S s.aI,S s.sl] 35)).trans (au.mono (by simp));go_wp2;go_ret2;exact⟨rfl,av⟩
