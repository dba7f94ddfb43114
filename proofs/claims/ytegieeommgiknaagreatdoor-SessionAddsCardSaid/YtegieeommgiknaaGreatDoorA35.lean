/- Lemmas for the claim's theorem;conditions: as each says. -/
import Derived.Test.YtegieeommgiknaaGreatDoorA34
import Derived.ProofKit
import Derived.Deep.Slices
import Derived.Lib.LaidTab
import Derived.LaidMore
import Derived.Lay
import Derived.Stop.Joined
import Derived.Stop.LaidErr
set_option maxHeartbeats 0
set_option maxRecDepth 100000
set_option linter.all false
namespace Go.Proofs.YtegieeommgiknaaGreatDoor
open Go.RowKit
variable{d:fU}{ve vk vt vh:Value}{dn:fU}{P:Program}{b off n lc k:Nat}{c:ic}{va:Value}{rn:Int}{x:((Option Addr×Nat)×(Option Addr×Nat)×(Option Addr×Nat)×(Option Addr×Nat))×Nat}{w:World}{t e:TypeId}{α H:Type}{W W':World}
abbrev Rv(d:fU)(ve vk vt vh ue uk ut uh:Value)(x:(Option Addr×Nat)×(Option Addr×Nat)):List (Option Tmp×Value):=
 [(some 88,gP d ve vk vt vh),(some 89,nD (bF d) (.slice x.1.1 (bF d).aB.length x.1.2)),(some 90,gP d ue uk ut uh),(some 91,nD (bF d) (.slice x.2.1 (bF d).aB.length x.2.2)),(some 92,.bool true),(some 93,.bool true),(some 94,.bool true),(some 95,.bool true),(some 6,.bool true)]
theorem OO{ue uk ut uh:Value}{x:(Option Addr×Nat)×(Option Addr×Nat)}:bC (Rv d ve vk vt vh ue uk ut uh x):=by
 unfold bC;simp
abbrev Rw(d dn:fU)(ve vk vt vh:Value)(b off n lc k:Nat)(c:ic)(va:Value)(rn:Int)(x:((Option Addr×Nat)×(Option Addr×Nat)×(Option Addr×Nat)×(Option Addr×Nat))×Nat):List (Option Tmp×Value):=
 [(some 59,gP d ve vk vt vh),(some 60,.slice (some ⟨b,off,none⟩) n lc),(some 61,.int .i64 (k:Int)),(some 62,.pointer (some ⟨b,off+k*5,none⟩)),(some 63,Bj c va),(some 64,.tuple #[gP dn (.slice x.1.1.1 dn.aB.length x.1.1.2) (.slice x.1.2.1.1 dn.bf.aJ.length x.1.2.1.2) (.slice x.1.2.2.1.1 dn.aF.length x.1.2.2.1.2) (.slice x.1.2.2.2.1 dn.holds.length x.1.2.2.2.2),.int .i64 rn]),(some 58,.tuple #[gP dn (.slice x.1.1.1 dn.aB.length x.1.1.2) (.slice x.1.2.1.1 dn.bf.aJ.length x.1.2.1.2) (.slice x.1.2.2.1.1 dn.aF.length x.1.2.2.1.2) (.slice x.1.2.2.2.1 dn.holds.length x.1.2.2.2.2),.int .i64 rn]),(some 65,gP dn (.slice x.1.1.1 dn.aB.length x.1.1.2) (.slice x.1.2.1.1 dn.bf.aJ.length x.1.2.1.2) (.slice x.1.2.2.1.1 dn.aF.length x.1.2.2.1.2) (.slice x.1.2.2.2.1 dn.holds.length x.1.2.2.2.2)),(some 66,.int .i64 rn),(some 13,.pointer (some ⟨x.2,0,none⟩)),(none,undef),(some 14,.int .i64 rn)]
theorem OP:bC (Rw d dn ve vk vt vh b off n lc k c va rn x):=by
 unfold bC;simp
abbrev Rx(d dn:fU)(ve vk vt vh:Value)(b off n lc k:Nat)(c:ic)(va:Value)(rn:Int)(x:((Option Addr×Nat)×(Option Addr×Nat)×(Option Addr×Nat)×(Option Addr×Nat))×Nat):List (Option Tmp×Value):=
 [(some 68,gP d ve vk vt vh),(some 69,.slice (some ⟨b,off,none⟩) n lc),(some 70,.int .i64 (k:Int)),(some 71,.pointer (some ⟨b,off+k*5,none⟩)),(some 72,Bj c va),(some 73,.tuple #[gP dn (.slice x.1.1.1 dn.aB.length x.1.1.2) (.slice x.1.2.1.1 dn.bf.aJ.length x.1.2.1.2) (.slice x.1.2.2.1.1 dn.aF.length x.1.2.2.1.2) (.slice x.1.2.2.2.1 dn.holds.length x.1.2.2.2.2),.int .i64 rn]),(some 67,.tuple #[gP dn (.slice x.1.1.1 dn.aB.length x.1.1.2) (.slice x.1.2.1.1 dn.bf.aJ.length x.1.2.1.2) (.slice x.1.2.2.1.1 dn.aF.length x.1.2.2.1.2) (.slice x.1.2.2.2.1 dn.holds.length x.1.2.2.2.2),.int .i64 rn]),(some 74,gP dn (.slice x.1.1.1 dn.aB.length x.1.1.2) (.slice x.1.2.1.1 dn.bf.aJ.length x.1.2.1.2) (.slice x.1.2.2.1.1 dn.aF.length x.1.2.2.1.2) (.slice x.1.2.2.2.1 dn.holds.length x.1.2.2.2.2)),(some 75,.int .i64 rn),(some 15,.pointer (some ⟨x.2,0,none⟩)),(none,undef),(some 16,.int .i64 rn)]
theorem OQ:bC (Rx d dn ve vk vt vh b off n lc k c va rn x):=by
 unfold bC;simp
abbrev kcL(dn:fU)(v1 v2 v3 v4 u1 u2 u3 u4:Value):List (Option Tmp×Value):=
 [(some 85,gP dn v1 v2 v3 v4),(some 86,gP dn u1 u2 u3 u4),(none,undef),(none,undef)]
theorem TV{v1 v2 v3 v4 u1 u2 u3 u4:Value}:bC (kcL dn v1 v2 v3 v4 u1 u2 u3 u4):=by
 unfold bC;simp
theorem Xig(I:IH)(hI:fG I)(v:Value)(l:List og)(hv:aZ wK I v l)(lQ:∀b∈l,b.In)(Cg:(l.length+1)*32≤140737488355328)(aA:Int)(vc:Value)(cs:List ic)(zD:aZ xm I vc cs)(NZ:∀c∈cs,c.In)(w:World)(hw:Ok I w):
 Calls Tryz.prog 4 #[v,.int .i64 aA,vc] w fun r w'=>r= .returned (.bool true)∧Below w.heap.size w w':=by
 have Ry:=Qh (fun J (hk:∀b c,I b=some c→J b=some c) w hw=>Xif J (hI.mono hk) w hw);have HG:=Qh hI;have Hv:=Qh hv;have MW:=Qh zD;obtain⟨ao,cap,rfl,_,_,_⟩:=id hv;obtain⟨co,cc,rfl,_,_,_⟩:=id zD;have bO:=zD.bL;clear hv hI zD;go_enter Tryz.func4,Tryz.ntmps4
 have MB:=Qh (Rk (T:=wK) (E:=36) (I:=I) w);have tX:Below w.heap.size w (w.alloc (.cells #[] 36)):=(Qb _ _).alloc (Qn _) _
 go_wp2_with (at_builtin
              first
              |(refine Xda Xpp rfl _ _ rfl (B:=w.heap.size) rfl MB.O (vx:= .slice ao l.length cap) (by simp[Act.eval]) (jY.vX Hv.O (hw.alloc _) (by decide)) (by simp;omega) (by simp;omega) (by simp) ?_
                intro va wa hoa Gr Zp;have Ik:=Qh hoa;have N7:=Gr.size)
              |(refine Xda Xpp rfl _ _ rfl (B:=w.heap.size) rfl (Ik.O.alloc _) (vx:= .slice (some ⟨wa.heap.size,0,none⟩) 1 1) (by simp[Act.eval]) (jY.mo (T:=wK) (x:=⟨0,cs⟩) (cs:=[.int .i64 0,.slice co cs.length cc]) ⟨_,rfl,MW.O⟩ (fun j u hu=>by rw[World.cell?_alloc_new];simpa using hu)) (by simp;omega) (by simp;omega) (by simp at N7 ⊢;omega) ?_
                intro vb wb hob Me Zq;have HOB:=Qh hob))
 have KN:=Ok.own (hw.alloc _) Gr MB.O (fun b hb=>hw.fresh hb);have uT:=Below.own tX Gr MB.O (Qn _) (by simp);have TW:=Ok.own (KN.alloc _) Me (Ik.O.alloc _) (fun b hb=>hw.fresh hb);have Il:=Below.own (uT.alloc uT.size _) Me (Ik.O.alloc _) (Qn _) (by have:=uT.size;simp;omega);obtain⟨J0,ni,iq,Ay,_⟩:=HOB.O.freeze TW (fun b hb=>hw.fresh hb);have A0:=Qh (show lJ I w J0 wb from⟨iq,ni.keep hw (Qn _),Il⟩);have Db:=Qh (show aZ wK J0 vb (l++[⟨0,cs⟩])from Ay);clear KN uT TW Il ni iq Ay Gr Me Zp Zq hoa hob Ik HOB MB tX N7;refine(Xly J0 _ _ Db.O wb A0.O.ok).mono ?_;rintro e1 w1 ⟨rfl,aG⟩;have A1:=Qh (A0.O.quiet aG);clear aG A0 Db;cases hg:vv (l++[⟨0,cs⟩]);case true=>
  have e1:fI (l++[⟨0,cs⟩])=1:=by rw[fI,hg];rfl
  rw[e1];clear e1 hg;go_wp2_with fail
  refine(Ry.O J0 A1.O.keep _ A1.O.ok).mono ?_;rintro e2 w2 ⟨rfl,aL⟩;have A2:=Qh (A1.O.quiet aL);clear aL A1;go_wp2;go_ret;exact⟨rfl,A2.O.eU⟩
 have e1:fI (l++[⟨0,cs⟩])=0:=by rw[fI,hg];rfl
 rw[e1];obtain⟨vL,Mf,Kh⟩:=Xsu (l:=l++[⟨0,cs⟩]) (Xxi lQ NZ) hg;have Mf:jo l+cs.length≤10:=by rw[Xfb]at Mf;simpa[jo]using Mf
 have Kh:l.length≤3:=by simp at Kh;omega
 have yt:=Qh (fun b hb=>vL b (List.mem_append_left _ hb));have wL:=Qh (vL ⟨0,cs⟩ (by simp));have Hwt:=Qh (Xn5 J0 (HG.O.mono A1.O.keep) _ l (Hv.O.mono A1.O.keep) yt.O (by omega) (by omega) w1 A1.O.ok);have HA:=Qh (Xt1 (l:=l) (fun b hb c h=>by have:=(yt.O b hb c h).aI;omega) (by omega) (by omega));obtain⟨L,hL⟩:∃L,jU [] l=L:=⟨_,rfl⟩;rw[hL]at Hwt HA;clear e1 hg vL hL lQ NZ;go_wp2_with fail
 refine Hwt.O.mono ?_;rintro e2 w2 ⟨vs,J2,rfl,aL,mK,bn,iQ⟩;obtain⟨so,sc,rfl,_,_,_⟩:=id iQ;have A2:=Qh (A1.O.ext aL mK bn);have WE:J2 w2.heap.size=none:=bn.fresh (Qn _);have HL:=Qh iQ;clear aL mK bn iQ A1 Hwt
 go_upto_region 4 with(
  refine fO rfl rfl 30 _ _ rfl w2.heap.size 0 [.int .u32 7,.int .i64 2,.int .i64 1,.slice so L.length sc] (bW 7 2 1 (.slice so L.length sc)) (by simp[Act.eval]) (by simp[Act.eval]) (by rfl) cO 30 (heap_alloc_new _ _) (by simp) (by kernel_rfl) (by simp[Value.oneCell']) #[.int .u32 7,.int .i64 2,.int .i64 1,.slice so L.length sc] (by rfl) ?_;intro w3 iX jK)
 have dO:Below w2.heap.size w2 w3:=((Qb _ _).alloc (Qn _) _).grown iX (by simp) (fun k e=>by injection e with e;omega);have A3:=Qh (A2.O.quiet dO);have X3:=Qh (show vW J2 w3 w2.heap.size 7 2 1 (.slice so L.length sc) L from⟨WE,HL.O,jK⟩);obtain⟨dB,eB,Ar⟩:∃dB eB,jB L aA=(dB,eB):=⟨_,_,rfl⟩;have qI:=Xr J2 (HG.O.mono A3.O.keep) 7 2 1 L HA.O (by omega) (by omega) _ HL.O aA w3 A3.O.ok;rw[Ar]at qI;dsimp only at qI;have kJ:=Qh qI;obtain⟨z0,z1,z2,z3⟩:=qU X3.O.row;clear iX jK dO A2 WE qI;go_wp2_with fail
 refine(kJ.O).mono ?_;rintro e4 w4 ⟨ve4,vk4,vt4,Z4,J4,rfl,aS,pX,dz,ry⟩;obtain⟨ae4,ce4,rfl,_,_,_⟩:=id ry.aB;obtain⟨ak4,ck4,rfl,_,_,_⟩:=id ry.aJ;obtain⟨at4,ct4,rfl,_,_,_⟩:=id ry.aF;obtain⟨CG,CJ,rfl,_,_,_⟩:=id ry.holds
 go_upto_region 5 with(
  refine fO rfl rfl 46 _ _ rfl w4.heap.size 0 (dA dB (.slice ae4 dB.aB.length ce4) (.slice ak4 dB.bf.aJ.length ck4) (.slice at4 dB.aF.length ct4) (.slice CG dB.holds.length CJ)) (gP dB (.slice ae4 dB.aB.length ce4) (.slice ak4 dB.bf.aJ.length ck4) (.slice at4 dB.aF.length ct4) (.slice CG dB.holds.length CJ)) (by simp[Act.eval]) (by simp[Act.eval]) (by rfl) aY 46 (heap_alloc_new _ _) (by simp) (by kernel_rfl) (by simp[Value.oneCell']) (dA dB (.slice ae4 dB.aB.length ce4) (.slice ak4 dB.bf.aJ.length ck4) (.slice at4 dB.aF.length ct4) (.slice CG dB.holds.length CJ)).toArray (by rfl) ?_;intro w5 hg5 oN)
 have df:Below w4.heap.size w4 w5:=((Qb _ _).alloc (Qn _) _).grown hg5 (by simp) (fun k e=>by injection e with e;omega);have hf4:J4 w4.heap.size=none:=dz.fresh (Qn _);have A5:=Qh ((A3.O.ext aS pX dz).quiet df);have X5:=Qh ((X3.O.ext A3.O.ok aS pX).quiet df);have D5:=Qh (show nG J4 w5 w4.heap.size dB _ _ _ _ from⟨A5.O.ok,hf4,ry,oN⟩);have gV:=Xl0 J4 7 2 1 L HA.O (by omega) (by omega) _ X5.O.rd aA w5 A5.O.ok;rw[Ar]at gV;dsimp only at gV;have nX:=Qh gV;clear z0 z1 z2 z3;obtain⟨z0,z1,z2,z3⟩:=qU X5.O.row;have Cv:=aS.size;have Gq:=df.size;have yn:=A3.O.size;clear aS pX dz ry hg5 oN df hf4 A3 X3 kJ gV;go_wp2_with fail
 refine(nX.O).mono ?_;rintro e6 w6 ⟨Ev,MF,TY,TZ,J6,rfl,gF,kW,fF,Fu⟩;obtain⟨ae6,ce6,rfl,_,_,_⟩:=id Fu.aB;obtain⟨Cy,Cz,rfl,_,_,_⟩:=id Fu.aJ;obtain⟨at6,ct6,rfl,_,_,_⟩:=id Fu.aF;obtain⟨ah6,ch6,rfl,_,_,_⟩:=id Fu.holds
 go_upto_region 6 with(
  refine fO rfl rfl 46 _ _ rfl w6.heap.size 0 (dA dB (.slice ae6 dB.aB.length ce6) (.slice Cy dB.bf.aJ.length Cz) (.slice at6 dB.aF.length ct6) (.slice ah6 dB.holds.length ch6)) (gP dB (.slice ae6 dB.aB.length ce6) (.slice Cy dB.bf.aJ.length Cz) (.slice at6 dB.aF.length ct6) (.slice ah6 dB.holds.length ch6)) (by simp[Act.eval]) (by simp[Act.eval]) (by rfl) aY 46 (heap_alloc_new _ _) (by simp) (by kernel_rfl) (by simp[Value.oneCell']) (dA dB (.slice ae6 dB.aB.length ce6) (.slice Cy dB.bf.aJ.length Cz) (.slice at6 dB.aF.length ct6) (.slice ah6 dB.holds.length ch6)).toArray (by rfl) ?_;intro w7 iy gN)
 have ji:Below w6.heap.size w6 w7:=((Qb _ _).alloc (Qn _) _).grown iy (by simp) (fun k e=>by injection e with e;omega);have hf6:J6 w6.heap.size=none:=fF.fresh (Qn _);have A7:=Qh ((A5.O.ext gF kW fF).quiet ji);have D7:=Qh ((D5.O.ext gF kW fF).below ji);have E7:=Qh (show nG J6 w7 w6.heap.size dB _ _ _ _ from⟨A7.O.ok,hf6,Fu,gN⟩);have vK:=gF.size;have hlD:=D5.O.lt;obtain⟨B1,qI⟩:∃B,B=w4.heap.size:=⟨_,rfl⟩;obtain⟨B2,gV⟩:∃B,B=w6.heap.size:=⟨_,rfl⟩;rw[←qI]at D7 ⊢;rw[←gV]at E7 ⊢;have Im:B1≠B2:=by omega
 have AC:w.heap.size≤B1∧w.heap.size≤B2:=by omega
 clear gF kW fF Fu iy gN ji hf6 A5 X5 D5 nX z0 z1 z2 z3 qI gV yn Cv Gq vK hlD;obtain⟨b0,b1,b2,b3,b4,b5,b6,b7,b8⟩:=drB_row (d:=dB) D7.O.row;obtain⟨p0,p1,p2,p3,p4,p5,p6,p7,p8⟩:=drB_row (d:=dB) E7.O.row;have i1:((eB:Int) !=eB)=false:=by simp
 go_wp2_with fail
 refine(Xfx J6 dB _ _ _ _ _ _ _ _ D7.O.rd E7.O.rd w7 A7.O.ok).mono ?_;rintro e8 w8 ⟨rfl,mH⟩;have A8:=Qh (A7.O.quiet mH);have D8:=Qh (D7.O.below mH);have E8:=Qh (E7.O.below mH);clear A7 D7 E7 mH b0 b1 b2 b3 b4 b5 b6 b7 b8 p0 p1 p2 p3 p4 p5 p6 p7 p8;by_cases q:bQ L aA=0;case neg=>
  obtain⟨_,rfl⟩:=Prod.mk.inj (Ar.symm.trans (TH q));have j1:(bQ L aA !=0)=true:=by simpa using q
  clear Ar q;go_wp2_with fail
  refine(Ry.O J6 A8.O.keep _ A8.O.ok).mono ?_;rintro e9 w9 ⟨rfl,iO⟩;have A9:=Qh (A8.O.quiet iO);clear iO A8;go_wp2;go_ret;exact⟨rfl,A9.O.eU⟩
 obtain⟨he,rfl⟩:=Prod.mk.inj (Ar.symm.trans (TG q));have qV:=Qh (show lU (jo l+0) dB by rw[he];exact Ox HA.O (by omega) (by omega) q);clear Ar q he;go_wp2_with fail
 go_loopw [12,13,14,15,16,55] (fun _ _ _ _ _ s55 wr=> ∃(k:Nat) (J:IH) (d:fU) (ve vk vt vh ue uk ut uh:Value),k≤cs.length∧s55= .int .i64 k∧lJ I w J wr∧nG J wr B1 d ve vk vt vh∧nG J wr B2 d ue uk ut uh∧lU (jo l+k) d) (fun _ _ _ _ _ i _=>cs.length-(intOf i).toNat)
 case atStart=>exact⟨0,J6,dB,_,_,_,_,_,_,_,_,Nat.zero_le _,rfl,A8.O,D8.O,E8.O,qV.O⟩
 case round=>
  clear A8 D8 E8 qV;obtain⟨k,J,d,ve,vk,vt,vh,ue,uk,ut,uh,hk,rfl,hM,hWA,hWB,H8⟩:=hrel;have M:=Qh hM;have WA:=Qh hWA;have WB:=Qh hWB;have qV:=Qh H8;clear hM hWA hWB H8;obtain⟨ae,ce,rfl,_,_,_⟩:=id WA.O.rd.aB;obtain⟨ak,ck,rfl,_,_,_⟩:=id WA.O.rd.aJ;obtain⟨at',ct,rfl,_,_,_⟩:=id WA.O.rd.aF;obtain⟨ah,ch,rfl,_,_,_⟩:=id WA.O.rd.holds;obtain⟨JP,JQ,rfl,_,_,_⟩:=id WB.O.rd.aB;obtain⟨kY,ck2,rfl,_,_,_⟩:=id WB.O.rd.aJ;obtain⟨at2,wF,rfl,_,_,_⟩:=id WB.O.rd.aF;obtain⟨qP,qQ,rfl,_,_,_⟩:=id WB.O.rd.holds;by_cases hlt:k<cs.length
  ·obtain⟨c,va,b,off,cap',qm,dC,⟨d0,d1,d2,d3,d4⟩,gK⟩:=Rs MW.O hw k hlt;cases dC;have oh:=hlt;have iv:=wL.O c (by show c∈cs;rw[←qm];exact List.getElem_mem hlt);have SQ:c.ag.length≤1000000:=by have:=iv.Da;omega
   have yo:=TK qV.O (by omega) (show c.aI.length≤65536 by have:=iv.aI;omega);have KO:=(fun W (hW:Ok J W)=>Xvp J (HG.O.mono M.O.keep) d qV.O (by omega) _ _ _ _ WA.O.rd c iv.wf SQ _ (gK.mono M.O.keep) W hW);have KP:=(fun J' (SS:∀b c,I b=some c→J' b=some c) u1 u2 u3 u4 (Io:qy J' d u1 u2 u3 u4) W (hW:Ok J' W)=>Xr8 J' d qV.O (by omega) u1 u2 u3 u4 Io c iv.wf SQ _ (gK.mono SS) W hW);obtain⟨dn,rn,zq⟩:∃dn rn,gQ d c=(dn,rn):=⟨_,_,rfl⟩;rw[zq]at yo KO KP;dsimp only at yo KO KP;have Hdo:=Qh (show lU (jo l+(k+1)) dn from yo);have zH:=Qh KO;have T9:=Qh KP;obtain⟨oa,ca,rfl,_,_,_⟩:=id gK;have C0:=Qh (show Bq w b (off+k*5) c _ from⟨d0,d1,d2,d3,d4⟩);obtain⟨c0,c1,c2,c3,c4⟩:=C0.O.aR M.O.eU;obtain⟨b0,b1,b2,b3,b4,b5,b6,b7,b8⟩:=drB_row (d:=d) WA.O.row;clear iv qm gK zq KO KP yo d0 d1 d2 d3 d4 qV;go_wp2_with fail
   refine qR (X:=((Option Addr×Nat)×(Option Addr×Nat)×(Option Addr×Nat)×(Option Addr×Nat))×Nat) (Rw d dn (.slice ae d.aB.length ce) (.slice ak d.bf.aJ.length ck) (.slice at' d.aF.length ct) (.slice ah d.holds.length ch) b off cs.length cc k c (.slice oa c.ag.length ca) rn) (jX wr 5 233 224 234 9 235 226 236 (fun x w=>x.2<w.heap.size∧J x.2=none) (fun x w=> ∃J',Ext wr.heap.size J J'∧Ok J' w∧qy J' dn (.slice x.1.1.1 dn.aB.length x.1.1.2) (.slice x.1.2.1.1 dn.bf.aJ.length x.1.2.1.2) (.slice x.1.2.2.1.1 dn.aF.length x.1.2.2.1.2) (.slice x.1.2.2.2.1 dn.holds.length x.1.2.2.2.2)∧J' x.2=none) (fun _ _=>True) (fun x w=>w.heap[x.2]?=some (.cells aY 46 (0,0))∧wr.heap.size≤x.2) (fun _ _=>True) (fun x w=>(∃J',Ext wr.heap.size J J'∧Ok J' w∧qy J' dn (.slice x.1.1.1 dn.aB.length x.1.1.2) (.slice x.1.2.1.1 dn.bf.aJ.length x.1.2.1.2) (.slice x.1.2.2.1.1 dn.aF.length x.1.2.2.1.2) (.slice x.1.2.2.2.1 dn.holds.length x.1.2.2.2.2)∧J' x.2=none)∧(w.heap[x.2]?=some (.cells aY 46 (0,0))∧wr.heap.size≤x.2)) (fun x=>x.2) 46 10 213 214 (fun x=>(dA dn (.slice x.1.1.1 dn.aB.length x.1.1.2) (.slice x.1.2.1.1 dn.bf.aJ.length x.1.2.1.2) (.slice x.1.2.2.1.1 dn.aF.length x.1.2.2.1.2) (.slice x.1.2.2.2.1 dn.holds.length x.1.2.2.2.2)).toArray) (fun x=>(dA dn (.slice x.1.1.1 dn.aB.length x.1.1.2) (.slice x.1.2.1.1 dn.bf.aJ.length x.1.2.1.2) (.slice x.1.2.2.1.1 dn.aF.length x.1.2.2.1.2) (.slice x.1.2.2.2.1 dn.holds.length x.1.2.2.2.2)).toArray) (fun x=>(dA dn (.slice x.1.1.1 dn.aB.length x.1.1.2) (.slice x.1.2.1.1 dn.bf.aJ.length x.1.2.1.2) (.slice x.1.2.2.1.1 dn.aF.length x.1.2.2.1.2) (.slice x.1.2.2.2.1 dn.holds.length x.1.2.2.2.2)).toArray)) (by kernel_rfl) (by kernel_rfl) ?_ ?_ ?_
   ·exact⟨(default,B1),jX.start _ _ ⟨WA.O.lt,WA.O.no⟩⟩
   ·rintro x s' a' w' i bS bO ha hC hi;obtain⟨aH,oi,dI,au⟩:=mem_ready.1 hi;have ev:=vV OP ha;have hlt:=oO aH;rcases i with _|_|_|_|_|_|_|_|_|_|_|_|i
    rotate_left 12
    ·simp at dI
    all_goals
     have dH:=dI;simp at dI;subst dI;simp[Region.binds]at au;try have hl:=kz 6 10 bO (by decide+kernel) aH
     try have aT:=hC.off hl
     try have b0:=aV aT b0
     try have b1:=aV aT b1
     try have b2:=aV aT b2
     try have b3:=aV aT b3
     try have b4:=aV aT b4
     try have b5:=aV aT b5
     try have b6:=aV aT b6
     try have b7:=aV aT b7
     try have b8:=aV aT b8
     try have c0:=aV aT c0
     try have c1:=aV aT c1
     try have c2:=aV aT c2
     try have c3:=aV aT c3
     try have c4:=aV aT c4
     refine wpOp_step dH (fun K' hK=> ?_);rw[if_pos (by rfl)]
    rotate_left 3
    ·unfold Oper.wp;simp[go_sem,ev,dG,au,Oper.upon,oh];exact hK _ _ ⟨x,gD OP ha rfl aH,hC.pure (by decide)⟩
    rotate_left 1
    ·unfold Oper.wp;simp[go_sem,ev,dG,au,Oper.upon];refine(zH.O w' (M.O.ok.below (Qn _) aT)).mono ?_;rintro r4 w4 ⟨v5,v6,v7,v8,J7,rfl,aS,jL,eY,gN⟩;obtain⟨a5,k5,rfl,_,_,_⟩:=id gN.aB;obtain⟨a6,k6,rfl,_,_,_⟩:=id gN.aJ;obtain⟨a7,k7,rfl,_,_,_⟩:=id gN.aF;obtain⟨a8,k8,rfl,_,_,_⟩:=id gN.holds;have ha:=ha.trans (lT (L:=Rw d dn (.slice ae d.aB.length ce) (.slice ak d.bf.aJ.length ck) (.slice at' d.aF.length ct) (.slice ah d.holds.length ch) b off cs.length cc k c (.slice oa c.ag.length ca) rn x) (M:=Rw d dn (.slice ae d.aB.length ce) (.slice ak d.bf.aJ.length ck) (.slice at' d.aF.length ct) (.slice ah d.holds.length ch) b off cs.length cc k c (.slice oa c.ag.length ca) rn (((a5,k5),(a6,k6),(a7,k7),(a8,k8)),x.2)) [5,6,7] rfl (fun j bq=>by
      rcases j with _|_|_|_|_|_|_|_|_|_|_|_|j<;>first|rfl|(exact absurd (by decide) bq)|simp) (List.forall_mem_cons.2 ⟨gG aH,List.forall_mem_cons.2 ⟨kz 6 6 bO (by kernel_rfl) aH,List.forall_mem_cons.2 ⟨kz 6 7 bO (by kernel_rfl) aH,List.forall_mem_nil _⟩⟩⟩))
     exact hK _ _ ⟨(((a5,k5),(a6,k6),(a7,k7),(a8,k8)),x.2),gD OP ha rfl aH,hC.step hl (aT.trans (aS.mono aT.size)) (by decide) (fun h=>⟨Nat.lt_of_lt_of_le h.1 aS.size,h.2⟩) (fun _ _=>⟨J7,fun b hb=>jL b (Nat.lt_of_lt_of_le hb aT.size),eY,gN,(jL _ (hC.inv hl).1).trans (hC.inv hl).2⟩) (fun _ _=>trivial) (fun h _=>h.elim (fun e=>absurd e (by decide)) (fun⟨_,_,q⟩=>⟨(aS.block _ (Qg q.1)).trans q.1,q.2⟩)) (fun _ _=>trivial) hlt⟩
    rotate_left 3
    ·unfold Oper.wp;simp[go_sem,ev,dG,au,Oper.upon,b0,b1,b2,b3,b4,b5,b6,b7,b8,c0,c1,c2,c3,c4,oh];have ha:=ha.trans (lT (L:=Rw d dn (.slice ae d.aB.length ce) (.slice ak d.bf.aJ.length ck) (.slice at' d.aF.length ct) (.slice ah d.holds.length ch) b off cs.length cc k c (.slice oa c.ag.length ca) rn x) (M:=Rw d dn (.slice ae d.aB.length ce) (.slice ak d.bf.aJ.length ck) (.slice at' d.aF.length ct) (.slice ah d.holds.length ch) b off cs.length cc k c (.slice oa c.ag.length ca) rn (x.1,w'.heap.size)) [9] rfl (fun j bq=>by
      rcases j with _|_|_|_|_|_|_|_|_|_|_|_|j<;>first|rfl|(exact absurd (by decide) bq)|simp) (List.forall_mem_cons.2 ⟨gG aH,List.forall_mem_nil _⟩))
     exact hK _ _ ⟨(x.1,w'.heap.size),gD OP ha rfl aH,hC.step hl (aT.trans (((Qb _ _).alloc (Qn _) _).mono aT.size)) (by decide) (fun _=>⟨by simp,M.O.ok.fresh aT.size⟩) (fun h _=>h.elim (fun e=>absurd e (by decide)) (fun⟨_,_,q⟩=>(q.elim fun J9 h9=>⟨J9,h9.1,h9.2.1.below (Qn _) ((Qb w'.heap.size w').alloc (Qn _) (.cells aY 46)),h9.2.2.1,h9.2.1.fresh (Qn _)⟩))) (fun _ _=>trivial) (fun _ _=>⟨heap_alloc_new _ _,aT.size⟩) (fun _ _=>trivial) hlt⟩
    ·have aK:w'.heap[x.2]?=some (.cells _ 46 (0,0)):=(hC.f3 (by first|simpa using au|simp[au]) (gX (by simp[bS])) hl).1;refine oK 46 _ _ rfl (x.2) 0 (dA dn (.slice x.1.1.1 dn.aB.length x.1.1.2) (.slice x.1.2.1.1 dn.bf.aJ.length x.1.2.1.2) (.slice x.1.2.2.1.1 dn.aF.length x.1.2.2.1.2) (.slice x.1.2.2.2.1 dn.holds.length x.1.2.2.2.2)) (gP dn (.slice x.1.1.1 dn.aB.length x.1.1.2) (.slice x.1.2.1.1 dn.bf.aJ.length x.1.2.1.2) (.slice x.1.2.2.1.1 dn.aF.length x.1.2.2.1.2) (.slice x.1.2.2.2.1 dn.holds.length x.1.2.2.2.2)) (by simp[Act.eval,ev,dG,au]) (by simp[Act.eval,ev,dG,au]) (by rfl) _ _ aK (by simp) (by kernel_rfl) (by simp[Value.oneCell']) ?_;exact hK _ _ ⟨x,dS (d:=none) (v:=undef) OP ha rfl aH,hC.jP aH ⟨hC.f1 (by first|simpa using au|simp[au]) (gX (by simp[bS])) hl,hC.f3 (by first|simpa using au|simp[au]) (gX (by simp[bS])) hl⟩ (gX (by simp[bS])) (gX (by simp[bS])) (by decide) aK (by rfl)⟩
    all_goals
     unfold Oper.wp;first
     |(simp[go_sem,ev,dG,au,Oper.upon,b0,b1,b2,b3,b4,b5,b6,b7,b8,c0,c1,c2,c3,c4,oh];exact hK _ _ ⟨x,gD OP ha rfl aH,hC.pure (by decide)⟩)
     |(simp[go_sem,ev,dG,Oper.upon,b0,b1,b2,b3,b4,b5,b6,b7,b8,c0,c1,c2,c3,c4,oh];exact hK _ _ ⟨x,gD OP ha rfl aH,hC.pure (by decide)⟩)
   ·rintro x s' a' w6 eu ha hC;obtain⟨wb,eG,ed,dR,aK⟩:=hC.on (eu 10 (by decide));simp only[ite_self]at aK;rw[qz _ _ _ _ (fun i hi=>by rw[Nat.zero_add];exact eu i (by simpa using hi))]at ha;subst ha;simp only[dE,Act.put,List.setIfInBounds_toArray,List.set_cons_succ,List.set_cons_zero];obtain⟨⟨⟨Ev,XJ⟩,⟨MF,XK⟩,⟨TY,XL⟩,⟨TZ,XM⟩⟩,JR⟩:=x;dsimp only at ed dR aK ⊢;obtain⟨⟨J9,jZ,jD,fB,yB⟩,mR,qW⟩:=ed;have Dc:=WA.O.lt;have De:=WB.O.lt;have hwz:=M.O.size;have M6:=Qh ((M.O.ext eG jZ jD).own dR yB (by omega));have Ua:=Qh ((WA.O.ext eG jZ jD).own dR yB (by omega));have Ub:=Qh ((WB.O.ext eG jZ jD).own dR yB (by omega));have X6:=Qh (show nG J9 w6 JR dn _ _ _ _ from⟨M6.O.ok,yB,fB,aK⟩);have kW:B1≠JR∧B2≠JR:=by omega
    have Uc:=Qh (T9.O J9 M6.O.keep _ _ _ _ Ub.O.rd);clear M WA WB eG dR aK jZ jD fB b0 b1 b2 b3 b4 b5 b6 b7 b8 c0 c1 c2 c3 c4 Dc De zH T9 hC eu mR qW yB;obtain⟨c0,c1,c2,c3,c4⟩:=C0.O.aR M6.O.eU;obtain⟨b0,b1,b2,b3,b4,b5,b6,b7,b8⟩:=drB_row (d:=d) Ub.O.row;go_wp2_with fail
    refine qR (X:=((Option Addr×Nat)×(Option Addr×Nat)×(Option Addr×Nat)×(Option Addr×Nat))×Nat) (Rx d dn (.slice JP d.aB.length JQ) (.slice kY d.bf.aJ.length ck2) (.slice at2 d.aF.length wF) (.slice qP d.holds.length qQ) b off cs.length cc k c (.slice oa c.ag.length ca) rn) (jX w6 5 233 224 234 9 235 226 236 (fun x w=>x.2<w.heap.size∧J9 x.2=none) (fun x w=> ∃J',Ext w6.heap.size J9 J'∧Ok J' w∧qy J' dn (.slice x.1.1.1 dn.aB.length x.1.1.2) (.slice x.1.2.1.1 dn.bf.aJ.length x.1.2.1.2) (.slice x.1.2.2.1.1 dn.aF.length x.1.2.2.1.2) (.slice x.1.2.2.2.1 dn.holds.length x.1.2.2.2.2)∧J' x.2=none) (fun _ _=>True) (fun x w=>w.heap[x.2]?=some (.cells aY 46 (0,0))∧w6.heap.size≤x.2) (fun _ _=>True) (fun x w=>(∃J',Ext w6.heap.size J9 J'∧Ok J' w∧qy J' dn (.slice x.1.1.1 dn.aB.length x.1.1.2) (.slice x.1.2.1.1 dn.bf.aJ.length x.1.2.1.2) (.slice x.1.2.2.1.1 dn.aF.length x.1.2.2.1.2) (.slice x.1.2.2.2.1 dn.holds.length x.1.2.2.2.2)∧J' x.2=none)∧(w.heap[x.2]?=some (.cells aY 46 (0,0))∧w6.heap.size≤x.2)) (fun x=>x.2) 46 10 213 214 (fun x=>(dA dn (.slice x.1.1.1 dn.aB.length x.1.1.2) (.slice x.1.2.1.1 dn.bf.aJ.length x.1.2.1.2) (.slice x.1.2.2.1.1 dn.aF.length x.1.2.2.1.2) (.slice x.1.2.2.2.1 dn.holds.length x.1.2.2.2.2)).toArray) (fun x=>(dA dn (.slice x.1.1.1 dn.aB.length x.1.1.2) (.slice x.1.2.1.1 dn.bf.aJ.length x.1.2.1.2) (.slice x.1.2.2.1.1 dn.aF.length x.1.2.2.1.2) (.slice x.1.2.2.2.1 dn.holds.length x.1.2.2.2.2)).toArray) (fun x=>(dA dn (.slice x.1.1.1 dn.aB.length x.1.1.2) (.slice x.1.2.1.1 dn.bf.aJ.length x.1.2.1.2) (.slice x.1.2.2.1.1 dn.aF.length x.1.2.2.1.2) (.slice x.1.2.2.2.1 dn.holds.length x.1.2.2.2.2)).toArray)) (by kernel_rfl) (by kernel_rfl) ?_ ?_ ?_
    ·exact⟨(default,B1),jX.start _ _ ⟨Ua.O.lt,Ua.O.no⟩⟩
    ·rintro x s' a' w' i bS bO ha hC hi;obtain⟨aH,oi,dI,au⟩:=mem_ready.1 hi;have ev:=vV OQ ha;have hlt:=oO aH;rcases i with _|_|_|_|_|_|_|_|_|_|_|_|i
     rotate_left 12
     ·simp at dI
     all_goals
      have dH:=dI;simp at dI;subst dI;simp[Region.binds]at au;try have hl:=kz 6 10 bO (by decide+kernel) aH
      try have aT:=hC.off hl
      try have b0:=aV aT b0
      try have b1:=aV aT b1
      try have b2:=aV aT b2
      try have b3:=aV aT b3
      try have b4:=aV aT b4
      try have b5:=aV aT b5
      try have b6:=aV aT b6
      try have b7:=aV aT b7
      try have b8:=aV aT b8
      try have c0:=aV aT c0
      try have c1:=aV aT c1
      try have c2:=aV aT c2
      try have c3:=aV aT c3
      try have c4:=aV aT c4
      refine wpOp_step dH (fun K' hK=> ?_);rw[if_pos (by rfl)]
     rotate_left 3
     ·unfold Oper.wp;simp[go_sem,ev,dG,au,Oper.upon,oh];exact hK _ _ ⟨x,gD OQ ha rfl aH,hC.pure (by decide)⟩
     rotate_left 1
     ·unfold Oper.wp;simp[go_sem,ev,dG,au,Oper.upon];refine(Uc.O w' (M6.O.ok.below (Qn _) aT)).mono ?_;rintro r4 w4 ⟨v5,v6,v7,v8,J7,rfl,aS,jL,eY,gN⟩;obtain⟨a5,k5,rfl,_,_,_⟩:=id gN.aB;obtain⟨a6,k6,rfl,_,_,_⟩:=id gN.aJ;obtain⟨a7,k7,rfl,_,_,_⟩:=id gN.aF;obtain⟨a8,k8,rfl,_,_,_⟩:=id gN.holds;have ha:=ha.trans (lT (L:=Rx d dn (.slice JP d.aB.length JQ) (.slice kY d.bf.aJ.length ck2) (.slice at2 d.aF.length wF) (.slice qP d.holds.length qQ) b off cs.length cc k c (.slice oa c.ag.length ca) rn x) (M:=Rx d dn (.slice JP d.aB.length JQ) (.slice kY d.bf.aJ.length ck2) (.slice at2 d.aF.length wF) (.slice qP d.holds.length qQ) b off cs.length cc k c (.slice oa c.ag.length ca) rn (((a5,k5),(a6,k6),(a7,k7),(a8,k8)),x.2)) [5,6,7] rfl (fun j bq=>by
       rcases j with _|_|_|_|_|_|_|_|_|_|_|_|j<;>first|rfl|(exact absurd (by decide) bq)|simp) (List.forall_mem_cons.2 ⟨gG aH,List.forall_mem_cons.2 ⟨kz 6 6 bO (by kernel_rfl) aH,List.forall_mem_cons.2 ⟨kz 6 7 bO (by kernel_rfl) aH,List.forall_mem_nil _⟩⟩⟩))
      exact hK _ _ ⟨(((a5,k5),(a6,k6),(a7,k7),(a8,k8)),x.2),gD OQ ha rfl aH,hC.step hl (aT.trans (aS.mono aT.size)) (by decide) (fun h=>⟨Nat.lt_of_lt_of_le h.1 aS.size,h.2⟩) (fun _ _=>⟨J7,fun b hb=>jL b (Nat.lt_of_lt_of_le hb aT.size),eY,gN,(jL _ (hC.inv hl).1).trans (hC.inv hl).2⟩) (fun _ _=>trivial) (fun h _=>h.elim (fun e=>absurd e (by decide)) (fun⟨_,_,q⟩=>⟨(aS.block _ (Qg q.1)).trans q.1,q.2⟩)) (fun _ _=>trivial) hlt⟩
     rotate_left 3
     ·unfold Oper.wp;simp[go_sem,ev,dG,au,Oper.upon,b0,b1,b2,b3,b4,b5,b6,b7,b8,c0,c1,c2,c3,c4,oh];have ha:=ha.trans (lT (L:=Rx d dn (.slice JP d.aB.length JQ) (.slice kY d.bf.aJ.length ck2) (.slice at2 d.aF.length wF) (.slice qP d.holds.length qQ) b off cs.length cc k c (.slice oa c.ag.length ca) rn x) (M:=Rx d dn (.slice JP d.aB.length JQ) (.slice kY d.bf.aJ.length ck2) (.slice at2 d.aF.length wF) (.slice qP d.holds.length qQ) b off cs.length cc k c (.slice oa c.ag.length ca) rn (x.1,w'.heap.size)) [9] rfl (fun j bq=>by
       rcases j with _|_|_|_|_|_|_|_|_|_|_|_|j<;>first|rfl|(exact absurd (by decide) bq)|simp) (List.forall_mem_cons.2 ⟨gG aH,List.forall_mem_nil _⟩))
      exact hK _ _ ⟨(x.1,w'.heap.size),gD OQ ha rfl aH,hC.step hl (aT.trans (((Qb _ _).alloc (Qn _) _).mono aT.size)) (by decide) (fun _=>⟨by simp,M6.O.ok.fresh aT.size⟩) (fun h _=>h.elim (fun e=>absurd e (by decide)) (fun⟨_,_,q⟩=>(q.elim fun J9 h9=>⟨J9,h9.1,h9.2.1.below (Qn _) ((Qb w'.heap.size w').alloc (Qn _) (.cells aY 46)),h9.2.2.1,h9.2.1.fresh (Qn _)⟩))) (fun _ _=>trivial) (fun _ _=>⟨heap_alloc_new _ _,aT.size⟩) (fun _ _=>trivial) hlt⟩
     ·have aK:w'.heap[x.2]?=some (.cells _ 46 (0,0)):=(hC.f3 (by first|simpa using au|simp[au]) (gX (by simp[bS])) hl).1;refine oK 46 _ _ rfl (x.2) 0 (dA dn (.slice x.1.1.1 dn.aB.length x.1.1.2) (.slice x.1.2.1.1 dn.bf.aJ.length x.1.2.1.2) (.slice x.1.2.2.1.1 dn.aF.length x.1.2.2.1.2) (.slice x.1.2.2.2.1 dn.holds.length x.1.2.2.2.2)) (gP dn (.slice x.1.1.1 dn.aB.length x.1.1.2) (.slice x.1.2.1.1 dn.bf.aJ.length x.1.2.1.2) (.slice x.1.2.2.1.1 dn.aF.length x.1.2.2.1.2) (.slice x.1.2.2.2.1 dn.holds.length x.1.2.2.2.2)) (by simp[Act.eval,ev,dG,au]) (by simp[Act.eval,ev,dG,au]) (by rfl) _ _ aK (by simp) (by kernel_rfl) (by simp[Value.oneCell']) ?_;exact hK _ _ ⟨x,dS (d:=none) (v:=undef) OQ ha rfl aH,hC.jP aH ⟨hC.f1 (by first|simpa using au|simp[au]) (gX (by simp[bS])) hl,hC.f3 (by first|simpa using au|simp[au]) (gX (by simp[bS])) hl⟩ (gX (by simp[bS])) (gX (by simp[bS])) (by decide) aK (by rfl)⟩
     all_goals
      unfold Oper.wp;first
      |(simp[go_sem,ev,dG,au,Oper.upon,b0,b1,b2,b3,b4,b5,b6,b7,b8,c0,c1,c2,c3,c4,oh];exact hK _ _ ⟨x,gD OQ ha rfl aH,hC.pure (by decide)⟩)
      |(simp[go_sem,ev,dG,Oper.upon,b0,b1,b2,b3,b4,b5,b6,b7,b8,c0,c1,c2,c3,c4,oh];exact hK _ _ ⟨x,gD OQ ha rfl aH,hC.pure (by decide)⟩)
    ·rintro x s' a' w9 eu ha hC;obtain⟨wb,eG,ed,dR,aK⟩:=hC.on (eu 10 (by decide));simp only[ite_self]at aK;rw[qz _ _ _ _ (fun i hi=>by rw[Nat.zero_add];exact eu i (by simpa using hi))]at ha;subst ha;simp only[dE,Act.put,List.setIfInBounds_toArray,List.set_cons_succ,List.set_cons_zero];obtain⟨⟨⟨XN,XO⟩,⟨Ud,XP⟩,⟨XQ,XR⟩,⟨XT,XU⟩⟩,JS⟩:=x;dsimp only at ed dR aK ⊢;obtain⟨⟨F9,xu,lL,tH,yE⟩,mR,qW⟩:=ed;have Dc:=Ua.O.lt;have De:=Ub.O.lt;have OS:=X6.O.lt;have hwz:=M6.O.size;have M9:=Qh ((M6.O.ext eG xu lL).own dR yE (by omega));have WA9:=Qh ((Ua.O.ext eG xu lL).own dR yE (by omega));have WB9:=Qh ((Ub.O.ext eG xu lL).own dR yE (by omega));have Y6:=Qh ((X6.O.ext eG xu lL).own dR yE (by omega));have X9:=Qh (show nG F9 w9 JS dn _ _ _ _ from⟨M9.O.ok,yE,tH,aK⟩);have jZ:B1≠JS∧B2≠JS∧JR≠JS:=by omega
     clear M6 Ua Ub X6 eG dR aK xu lL tH b0 b1 b2 b3 b4 b5 b6 b7 b8 c0 c1 c2 c3 c4 Dc De OS Uc hC eu mR qW yE;obtain⟨b0,b1,b2,b3,b4,b5,b6,b7,b8⟩:=drB_row (d:=dn) Y6.O.row;obtain⟨p0,p1,p2,p3,p4,p5,p6,p7,p8⟩:=drB_row (d:=dn) X9.O.row;have i2:((rn:Int) !=rn)=false:=by simp
     go_wp2_with fail
     refine(Xfx F9 dn _ _ _ _ _ _ _ _ Y6.O.rd X9.O.rd w9 M9.O.ok).mono ?_;rintro e10 mf ⟨rfl,iJ⟩;have l8:=Qh (M9.O.quiet iJ);have Fv:=Qh (WA9.O.below iJ);have Fw:=Qh (WB9.O.below iJ);have Z6:=Qh (Y6.O.below iJ);have Z9:=Qh (X9.O.below iJ);clear M9 WA9 WB9 Y6 X9 iJ b0 b1 b2 b3 b4 b5 b6 b7 b8 p0 p1 p2 p3 p4 p5 p6 p7 p8;obtain⟨b0,b1,b2,b3,b4,b5,b6,b7,b8⟩:=drB_row (d:=dn) Z6.O.row;obtain⟨p0,p1,p2,p3,p4,p5,p6,p7,p8⟩:=drB_row (d:=dn) Z9.O.row;go_wp2_with fail
     refine qR (X:=Unit) (fun _=>kcL dn (.slice Ev dn.aB.length XJ) (.slice MF dn.bf.aJ.length XK) (.slice TY dn.aF.length XL) (.slice TZ dn.holds.length XM) (.slice XN dn.aB.length XO) (.slice Ud dn.bf.aJ.length XP) (.slice XQ dn.aF.length XR) (.slice XT dn.holds.length XU)) (fun _=>oF mf (B1) (B2) (dA dn (.slice Ev dn.aB.length XJ) (.slice MF dn.bf.aJ.length XK) (.slice TY dn.aF.length XL) (.slice TZ dn.holds.length XM)).toArray (dA dn (.slice XN dn.aB.length XO) (.slice Ud dn.bf.aJ.length XP) (.slice XQ dn.aF.length XR) (.slice XT dn.holds.length XU)).toArray) (by kernel_rfl) (by kernel_rfl) ?_ ?_ ?_
     ·exact⟨(),oF.start _⟩
     ·rintro x s' a' w' i bS bO ha hC hi;obtain⟨aH,oi,dI,au⟩:=mem_ready.1 hi;have ev:=vV TV ha;rcases i with _|_|_|_|i
      rotate_left 4
      ·simp at dI
      all_goals
       have dH:=dI;simp at dI;subst dI;simp[Region.binds]at au;have b0:=hC.cell b0 kW.1 kW.2;have b1:=hC.cell b1 kW.1 kW.2;have b2:=hC.cell b2 kW.1 kW.2;have b3:=hC.cell b3 kW.1 kW.2;have b4:=hC.cell b4 kW.1 kW.2;have b5:=hC.cell b5 kW.1 kW.2;have b6:=hC.cell b6 kW.1 kW.2;have b7:=hC.cell b7 kW.1 kW.2;have b8:=hC.cell b8 kW.1 kW.2;have p0:=hC.cell p0 jZ.1 jZ.2.1;have p1:=hC.cell p1 jZ.1 jZ.2.1;have p2:=hC.cell p2 jZ.1 jZ.2.1;have p3:=hC.cell p3 jZ.1 jZ.2.1;have p4:=hC.cell p4 jZ.1 jZ.2.1;have p5:=hC.cell p5 jZ.1 jZ.2.1;have p6:=hC.cell p6 jZ.1 jZ.2.1;have p7:=hC.cell p7 jZ.1 jZ.2.1;have p8:=hC.cell p8 jZ.1 jZ.2.1;refine wpOp_step dH (fun K' hK=> ?_);rw[if_pos (by rfl)]
      rotate_left 2
      ·refine oK 46 _ _ rfl (B1) 0 (dA dn (.slice Ev dn.aB.length XJ) (.slice MF dn.bf.aJ.length XK) (.slice TY dn.aF.length XL) (.slice TZ dn.holds.length XM)) (gP dn (.slice Ev dn.aB.length XJ) (.slice MF dn.bf.aJ.length XK) (.slice TY dn.aF.length XL) (.slice TZ dn.holds.length XM)) (by simp[Act.eval,ev,dG,au]) (by simp[Act.eval,ev,dG,au]) (by rfl) _ _ (hC.zC (gG aH) (kz 4 3 bO (by kernel_rfl) aH) Fv.O.row) (by simp) (by kernel_rfl) (by simp[Value.oneCell']) ?_;exact hK _ _ ⟨(),dS (d:=none) (v:=undef) TV ha rfl aH,hC.jP aH (kz 4 3 bO (by kernel_rfl) aH) (by rfl)⟩
      ·refine oK 46 _ _ rfl (B2) 0 (dA dn (.slice XN dn.aB.length XO) (.slice Ud dn.bf.aJ.length XP) (.slice XQ dn.aF.length XR) (.slice XT dn.holds.length XU)) (gP dn (.slice XN dn.aB.length XO) (.slice Ud dn.bf.aJ.length XP) (.slice XQ dn.aF.length XR) (.slice XT dn.holds.length XU)) (by simp[Act.eval,ev,dG,au]) (by simp[Act.eval,ev,dG,au]) (by rfl) _ _ (hC.jC (gG aH) Im Fw.O.row) (by simp) (by kernel_rfl) (by simp[Value.oneCell']) ?_;exact hK _ _ ⟨(),dS (d:=none) (v:=undef) TV ha rfl aH,hC.wH aH (by first|simpa using au.1|simp[au]|(simp at au;exact au.2)) (by rfl)⟩
      all_goals
       unfold Oper.wp;first
       |(simp[go_sem,ev,dG,au,Oper.upon,b0,b1,b2,b3,b4,b5,b6,b7,b8,p0,p1,p2,p3,p4,p5,p6,p7,p8];exact hK _ _ ⟨(),gD TV ha rfl aH,hC.pure (by decide)⟩)
       |(simp[go_sem,ev,dG,Oper.upon,b0,b1,b2,b3,b4,b5,b6,b7,b8,p0,p1,p2,p3,p4,p5,p6,p7,p8];exact hK _ _ ⟨(),gD TV ha rfl aH,hC.pure (by decide)⟩)
     ·rintro x s' a' sM eu ha hC;obtain⟨wa,wb,xw,Gr,Me,DY,SV⟩:=hC.done (eu 3 (by decide)) Fv.O.row Fw.O.row Im;rw[qz _ _ _ _ (fun i hi=>by rw[Nat.zero_add];exact eu i (by simpa using hi))]at ha;subst ha;simp only[dE,Act.put,List.setIfInBounds_toArray,List.set_cons_succ,List.set_cons_zero];have yT:=Fv.O.lt;have DZ:=Fw.O.lt;have hsb:=xw.size;have Zr:=Gr.size;have vT:=Qh (((l8.O.quiet xw).own Gr Fv.O.no (by omega)).own Me Fw.O.no (by omega));have aa5:=Qh (show nG F9 sM B1 dn _ _ _ _ from⟨vT.O.ok,Fv.O.no,Z6.O.rd,DY⟩);have aa6:=Qh (show nG F9 sM B2 dn _ _ _ _ from⟨vT.O.ok,Fw.O.no,Z9.O.rd,SV⟩);clear l8 Fv Fw Z6 Z9 xw Gr Me DY SV b0 b1 b2 b3 b4 b5 b6 b7 b8 p0 p1 p2 p3 p4 p5 p6 p7 p8;go_wp2;go_roundw;case rel=>exact⟨k+1,F9,dn,_,_,_,_,_,_,_,_,by omega,by go_num,vT.O,aa5.O,aa6.O,Hdo.O⟩
      case measure=>simp[intOf];omega
  ·have uU:=qV.O.aB;obtain⟨b0,b1,b2,b3,b4,b5,b6,b7,b8⟩:=drB_row (d:=d) WA.O.row;obtain⟨p0,p1,p2,p3,p4,p5,p6,p7,p8⟩:=drB_row (d:=d) WB.O.row;clear qV;go_wp2_with fail
   refine qR (X:=(Option Addr×Nat)×(Option Addr×Nat)) (Rv d (.slice ae d.aB.length ce) (.slice ak d.bf.aJ.length ck) (.slice at' d.aF.length ct) (.slice ah d.holds.length ch) (.slice JP d.aB.length JQ) (.slice kY d.bf.aJ.length ck2) (.slice at2 d.aF.length wF) (.slice qP d.holds.length qQ)) (Ib wr 1 3 222 223 (fun x w=> ∃J',(∀b c,J b=some c→J' b=some c)∧Ok J' w∧aZ bM J' (.slice x.1.1 (bF d).aB.length x.1.2) (bF d).aB) (fun x w=> ∃J',(∀b c,J b=some c→J' b=some c)∧Ok J' w∧aZ bM J' (.slice x.1.1 (bF d).aB.length x.1.2) (bF d).aB∧aZ bM J' (.slice x.2.1 (bF d).aB.length x.2.2) (bF d).aB) (fun _ _=>True) (fun _ _=>True)) (by kernel_rfl) (by kernel_rfl) ?_ ?_ ?_
   ·exact⟨(default,default),Ib.start _ _⟩
   ·rintro x s' a' w' i bS bO ha hC hi;obtain⟨aH,oi,dI,au⟩:=mem_ready.1 hi;have ev:=vV OO ha;rcases i with _|_|_|_|_|_|_|_|_|i
    rotate_left 9
    ·simp at dI
    all_goals
     have dH:=dI;simp at dI;subst dI;simp[Region.binds]at au;have aT:=hC.off;have b0:=aV aT b0;have b1:=aV aT b1;have b2:=aV aT b2;have b3:=aV aT b3;have b4:=aV aT b4;have b5:=aV aT b5;have b6:=aV aT b6;have b7:=aV aT b7;have b8:=aV aT b8;have p0:=aV aT p0;have p1:=aV aT p1;have p2:=aV aT p2;have p3:=aV aT p3;have p4:=aV aT p4;have p5:=aV aT p5;have p6:=aV aT p6;have p7:=aV aT p7;have p8:=aV aT p8;refine wpOp_step dH (fun K' hK=> ?_);first|rw[if_pos (by rfl)]|rw[if_pos (by unfold Region.wanted;dsimp only;rw[Xty (j:=5) (t:=93) (b:=true) (by rfl) (by simp[ev,dG,au])];rfl)]
    rotate_left 1
    ·unfold Oper.wp;simp[go_sem,ev,dG,au,Oper.upon];refine(Xw J d (by omega) _ _ _ _ WA.O.rd.aB w' (M.O.ok.below (Qn _) aT)).mono ?_;rintro r4 w4 ⟨v7,J7,rfl,aS,jL,eY,gN⟩;obtain⟨a7,k7,rfl,_,_,_⟩:=id gN;have ha:=ha.trans (lT (L:=Rv d (.slice ae d.aB.length ce) (.slice ak d.bf.aJ.length ck) (.slice at' d.aF.length ct) (.slice ah d.holds.length ch) (.slice JP d.aB.length JQ) (.slice kY d.bf.aJ.length ck2) (.slice at2 d.aF.length wF) (.slice qP d.holds.length qQ) x) (M:=Rv d (.slice ae d.aB.length ce) (.slice ak d.bf.aJ.length ck) (.slice at' d.aF.length ct) (.slice ah d.holds.length ch) (.slice JP d.aB.length JQ) (.slice kY d.bf.aJ.length ck2) (.slice at2 d.aF.length wF) (.slice qP d.holds.length qQ) ((a7,k7),x.2)) [1] rfl (fun j bq=>by
      rcases j with _|_|_|_|_|_|_|_|_|j<;>first|rfl|(exact absurd (by decide) bq)|simp) (List.forall_mem_cons.2 ⟨gG aH,List.forall_mem_nil _⟩))
     exact hK _ _ ⟨((a7,k7),x.2),gD OO ha rfl aH,hC.step (aT.trans (aS.mono aT.size)) (fun _=>⟨J7,jL.keep (M.O.ok.below (Qn _) aT) (Qn _),eY,gN⟩) (fun q=>q.elim (fun e=>absurd e (by decide)) (fun⟨h2,_⟩=>absurd h2 (by rw[kz 6 3 bO (by kernel_rfl) aH];decide))) (fun _=>trivial) (fun _=>trivial)⟩
    rotate_left 1
    ·obtain⟨J6,zx,fF,mP⟩:=hC.f1 (by first|simpa using au|simp[au]);unfold Oper.wp;simp[go_sem,ev,dG,au,Oper.upon];refine(Xlz J6 d _ _ _ _ (WB.O.rd.aB.mono zx) w' fF).mono ?_;rintro r4 w4 ⟨v7,J7,rfl,aS,jL,eY,gN⟩;obtain⟨a7,k7,rfl,_,_,_⟩:=id gN;have ha:=ha.trans (lT (L:=Rv d (.slice ae d.aB.length ce) (.slice ak d.bf.aJ.length ck) (.slice at' d.aF.length ct) (.slice ah d.holds.length ch) (.slice JP d.aB.length JQ) (.slice kY d.bf.aJ.length ck2) (.slice at2 d.aF.length wF) (.slice qP d.holds.length qQ) x) (M:=Rv d (.slice ae d.aB.length ce) (.slice ak d.bf.aJ.length ck) (.slice at' d.aF.length ct) (.slice ah d.holds.length ch) (.slice JP d.aB.length JQ) (.slice kY d.bf.aJ.length ck2) (.slice at2 d.aF.length wF) (.slice qP d.holds.length qQ) (x.1,(a7,k7))) [3] rfl (fun j bq=>by
      rcases j with _|_|_|_|_|_|_|_|_|j<;>first|rfl|(exact absurd (by decide) bq)|simp) (List.forall_mem_cons.2 ⟨gG aH,List.forall_mem_nil _⟩))
     exact hK _ _ ⟨(x.1,(a7,k7)),gD OO ha rfl aH,hC.step (aT.trans (aS.mono aT.size)) (fun q=>q.elim (fun e=>absurd e (by decide)) (fun⟨_,q⟩=>(q.elim fun J9 h9=>⟨J9,h9.1,h9.2.1.below (Qn _) aS,h9.2.2⟩))) (fun _=>⟨J7,fun b c h=>jL.keep fF (Qn _) b c (zx b c h),eY,mP.mono (jL.keep fF (Qn _)),gN⟩) (fun _=>trivial) (fun _=>trivial)⟩
    ·obtain⟨J6,zx,fF,mP,aa7⟩:=hC.f2 (by first|simpa using au|simp[au]);unfold Oper.wp;simp[go_sem,ev,dG,au,Oper.upon];refine(Xed J6 (bF d) _ _ mP aa7 w' fF).mono ?_;rintro r4 w4 ⟨rfl,aS⟩;exact hK _ _ ⟨x,gD OO ha rfl aH,hC.step (aT.trans (aS.mono aT.size)) (fun q=>q.elim (fun e=>absurd e (by decide)) (fun⟨_,q⟩=>(q.elim fun J9 h9=>⟨J9,h9.1,h9.2.1.below (Qn _) aS,h9.2.2⟩))) (fun q=>q.elim (fun e=>absurd e (by decide)) (fun⟨_,q⟩=>(q.elim fun J9 h9=>⟨J9,h9.1,h9.2.1.below (Qn _) aS,h9.2.2⟩))) (fun _=>trivial) (fun _=>trivial)⟩
    rotate_left 1
    ·unfold Oper.wp;simp[go_sem,ev,dG,au,Oper.upon];refine(Ry.O J M.O.keep w' (M.O.ok.below (Qn _) aT)).mono ?_;rintro r4 w4 ⟨rfl,aS⟩;exact hK _ _ ⟨x,gD OO ha rfl aH,hC.step (aT.trans (aS.mono aT.size)) (fun q=>q.elim (fun e=>absurd e (by decide)) (fun⟨_,q⟩=>(q.elim fun J9 h9=>⟨J9,h9.1,h9.2.1.below (Qn _) aS,h9.2.2⟩))) (fun q=>q.elim (fun e=>absurd e (by decide)) (fun⟨_,q⟩=>(q.elim fun J9 h9=>⟨J9,h9.1,h9.2.1.below (Qn _) aS,h9.2.2⟩))) (fun _=>trivial) (fun _=>trivial)⟩
    all_goals
     unfold Oper.wp;first
     |(simp[go_sem,ev,dG,au,Oper.upon,b0,b1,b2,b3,b4,b5,b6,b7,b8,p0,p1,p2,p3,p4,p5,p6,p7,p8];exact hK _ _ ⟨x,gD OO ha rfl aH,hC.pure (by decide)⟩)
     |(simp[go_sem,ev,dG,Oper.upon,b0,b1,b2,b3,b4,b5,b6,b7,b8,p0,p1,p2,p3,p4,p5,p6,p7,p8];exact hK _ _ ⟨x,gD OO ha rfl aH,hC.pure (by decide)⟩)
   ·rintro x s' a' w6 eu ha hC;rw[qz _ _ _ _ (fun i hi=>by rw[Nat.zero_add];exact eu i (by simpa using hi))]at ha;subst ha;simp only[dE,Act.put,List.setIfInBounds_toArray,List.set_cons_succ,List.set_cons_zero];have aT:=M.O.eU.trans (hC.off.mono M.O.size);clear hC eu;go_wp2;go_ret;exact⟨rfl,aT⟩
open Go.ChangeShapes Go.WideShapes Go.ChangeAt Go.RowKit
def eF(w:World):IH:=fun b=>match w.heap[b]? with|some (.cells c _ _)=>some c|_=>none
theorem eF.ok(w:World):Ok (eF w) w:=by
 intro b c h;unfold eF at h;split at h
 ·rename_i c' e f hb;cases h;exact⟨e,f,hb⟩
 ·cases h
theorem eF.tJ{name:String}{g:Nat}{cs:Array Value}(hg:P.globalNamed name=some g)(h:w.var? P name=some cs):eF w g=some cs:=by
 unfold World.var? at h;rw[hg,Option.bind_some]at h;unfold eF;split at h
 ·rename_i hb;cases h;rw[hb]
 ·cases h
theorem eF.of_cell{a:Addr}{x:Value}(h:w.cell? a=some x):a.spot=none∧ ∃c,eF w a.block=some c∧c[a.off]?=some x:=by
 unfold World.cell? at h;unfold eF;split at h
 ·rename_i c e f hb;split at h
  ·cases h
  ·rename_i hs;refine⟨by cases hsp:a.spot<;>simp_all,c,by rw[hb],h⟩
 ·cases h
def nH{α:Type}(P:Program)(t:TypeId)(T:Ty α)(Wf:α→Prop):Prop:=
 P.cellsOf t=T.size∧0<T.size∧ ∀{H:Type} {enc:TypeId×Value→H} {w:World} {base:Nat} {spare:Nat→Bool} {held:Bool} {fuel:Nat} {cs:List Value} {x:DataW H×List MemPlace},
  DataW.trod enc P w base spare held fuel t cs=some x→ ∃y,T.rd (eF w) cs y∧Wf y
section
variable {α:Type} {P:Program} {T:Ty α} {Wf:α→Prop}
variable {H:Type} {enc:TypeId×Value→H} {w:World} {base:Nat} {spare:Nat→Bool} {held:Bool} {fuel:Nat} {cs:List Value} {x:DataW H×List MemPlace}
theorem nH.slice(ht:P.underlying t=some (.slice e))(he:nH P e T Wf)(h:DataW.trod enc P w base spare held fuel t cs=some x):
 ∃v l,cs=[v]∧aZ T (eF w) v l∧ ∀y∈l,Wf y:=by
 rcases Go.Deep.open_slice ht h with⟨rfl,_⟩|⟨a,len,cap,m,n,D,Pl,rfl,_,hl,hm,WG,_,hi⟩
 ·exact⟨_,[],rfl,aZ.nil _ _,fun _ h=>absurd h (by simp)⟩
 ·have ol:len≤m:=by rw[WG];split<;>omega
  have hx:∀i:Fin len,∃y,(∃cs',T.rd (eF w) cs' y∧ ∀j u,cs'[j]?=some u→w.cell? (a.add (i.1*T.size+j))=some u)∧Wf y:=by
   intro i;obtain⟨cs',hc,ht'⟩:=hi i.1 (by omega);rw[he.1]at hc;obtain⟨y,hy,lQ⟩:=he.2.2 ht';obtain⟨_,bO,DX⟩:=World.cells?_some hc;refine⟨y,⟨cs',hy,fun j u hu=> ?_⟩,lQ⟩;have hj:=(List.getElem?_eq_some_iff.1 hu).1;rw[←hu,←DX j (by omega),Go.Deep.add_add]
  obtain⟨f,hf⟩:=Classical.axiomOfChoice hx;refine⟨_,List.ofFn f,rfl,⟨some a,cap,by rw[List.length_ofFn],by rw[List.length_ofFn];exact hl,hm,fun h0=> ?_⟩,fun y hy=> ?_⟩
  ·rw[List.length_ofFn]at h0;obtain⟨cs0,h1,h2⟩:=(hf ⟨0,h0⟩).1;have hlen:=T.len h1;have tq:=h2 0 _ (List.getElem?_eq_getElem (by rw[hlen];exact he.2.1));have e0:a.add ((⟨0,h0⟩:Fin len).1*T.size+0)=a:=by simp[Addr.add]
   rw[e0]at tq;obtain⟨hs,c,hc,_⟩:=eF.of_cell tq;obtain⟨ab,ao,asp⟩:=a;change asp=none at hs;subst hs;change eF w ab=some c at hc;refine⟨ab,ao,c,rfl,hc,fun i hi=> ?_⟩;rw[List.length_ofFn]at hi;obtain⟨csi,h3,h4⟩:=(hf ⟨i,hi⟩).1;refine⟨csi,by rw[List.getElem_ofFn];exact h3,fun j u hu=> ?_⟩;have h5:=h4 j u hu;rw[Addr.add_lit]at h5;obtain⟨_,c',ii,h6⟩:=eF.of_cell h5;change eF w ab=some c' at ii;rw[hc]at ii;cases ii;exact h6
  ·obtain⟨i,hi,rfl⟩:=List.getElem_of_mem hy;rw[List.getElem_ofFn];exact(hf _).2
theorem nH.arg(ht:P.underlying t=some (.slice e))(he:nH P e T Wf){r:Reach}{b0:Nat}{v:Value}{d:DataW H}{ps:List MemPlace}(hv:Value.okWide P w r b0 t v)(h:DataW.Trod enc P w base spare held t v d ps):
 ∃l,aZ T (eF w) v l∧ ∀y∈l,Wf y:=by
 obtain⟨fuel,hf⟩:=h;obtain⟨v',l,jf,h1,h2⟩:=he.slice ht hf;obtain⟨ao,cap,rfl,_⟩:=id h1;obtain⟨Xq,n',c',rfl⟩:=okWide_slice ht hv;simp[Value.cells]at jf;obtain⟨rfl,rfl,rfl⟩:=jf;exact⟨l,h1,h2⟩
end
theorem Ue:∀{l:List α},l.length=2→ ∃a b,l=[a,b]
 | [a,b],_=>⟨a,b,rfl⟩
theorem Xyd:∀{l:List α},l.length=5→ ∃a b c d e,l=[a,b,c,d,e]
 | [a,b,c,d,e],_=>⟨a,b,c,d,e,rfl⟩
theorem Uf{enc:TypeId×Value→H}(hl:laidOutB P=true)(hb:Below W.heap.size W W'):
 ∀{ts:List TypeId} {vs:List Value} {ds:List (DataW H)} {p:List MemPlace},(ts.all fun t=>P.readableRec t&&decide (t<P.types.size))=true→
 DataW.TrodAll enc P W 0 (fun _=>true) true ts vs ds p→(∀x∈p,x.block<W.heap.size)→DataW.TrodAll enc P W' 0 (fun b=>decide (b<W.heap.size)) true ts vs ds p
 | [],[],[],_,_,h,_=>h
 | [],[],_::_,_,_,h,_=>h.elim
 | [],_::_,_,_,_,h,_=>h.elim
 |_::_,[],_,_,_,h,_=>h.elim
 |_::_,_::_,[],_,_,h,_=>h.elim
 |t::ts,v::vs,d::ds,p,ha,h,hlt=>by
  obtain⟨q,r,h1,h2,rfl⟩:=h;simp only[List.all_cons,Bool.and_eq_true,decide_eq_true_eq]at ha;exact⟨q,r,hb.trod hl ha.1.1 ha.1.2 h1 (fun x hx=>hlt x (List.mem_append_left _ hx)),Uf hl hb ha.2 h2 (fun x hx=>hlt x (List.mem_append_right _ hx)),rfl⟩
theorem Xo5{enc:TypeId×Value→H}(hl:laidOutB P=true){f:Func}{s:ChangeSpec}{args:Array Value}{ds:List (DataW H)}{before:List MemPlace}{tb:TypeId}
 (hs:s.vars=[]) (hW:DataW.Whole enc P f.params.toList s.vars false W args.toList ds [] before) (hr:f.resultTypes=#[tb]) (hu:P.underlying tb=some .bool)
 (Ch:s.fn H (ds++[])={results:=[.lit (.bool true)],args:=ds}) (au:(f.params.toList.all fun t=>P.readableRec t&&decide (t<P.types.size))=true) (hb:Below W.heap.size W W'):
 s.post enc P f false true false false W args (.bool true) W':=by
 have hlt:∀p∈before,p.block<W.heap.size:=fun p hp=>hW.lt p hp;have QG:=hW;obtain⟨p,q,hA,hV,rfl,_,_⟩:=QG;rw[hs]at hV;have hq:q=[]:=hV;subst hq;refine⟨ds,[],_,[],p,[],hW,?_,?_,?_,World.keptBut_mono (fun x hx=>⟨hx,?_⟩) (hb.frame (· ∈p++[])),fun h=>by cases h⟩
 ·rw[Ch,hr];exact trodAll_mk1 (shut_bool hu true)
 ·rw[Ch];exact Uf hl hb au hA (fun x hx=>hlt x (List.mem_append_left _ hx))
 ·rw[Ch,hs];rfl
 ·exact .inr (.inl (by simpa using hx))
