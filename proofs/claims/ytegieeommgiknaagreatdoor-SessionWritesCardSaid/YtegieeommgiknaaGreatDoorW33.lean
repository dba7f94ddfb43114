/- Lemmas for the claim's theorem;conditions: as each says. -/
import Derived.Test.YtegieeommgiknaaGreatDoorW32
set_option maxHeartbeats 0
set_option maxRecDepth 100000
set_option linter.all false
namespace Go.Proofs.YtegieeommgiknaaGreatDoor
variable{c:ic}{l:List og}{d:fU}{ve vk vt vh:Value}{k g:Nat}{J:IH}{w w':World}{B n:Nat}{x:og}
def gT:af:=[97,98,99]
def cA:ic:=⟨1,[97],[],[],gT⟩
def xC:Xt:=⟨1,0,3⟩
def yC:bD:=⟨1,[97],[],[],3,dW gT,[xC]⟩
def sC:bV:=⟨1,5,[],[yC],gT,[]⟩
theorem Xwe:iR gT=[⟨0,gT⟩]:=by kernel_rfl
theorem Xxd:dw gT=[gT]:=by kernel_rfl
theorem Xwv:jA ⟨[],1,[]⟩ gT=(⟨[⟨dW gT,xC⟩],1,gT⟩,[xC],0):=by
 have h:(iR gT).foldl lV (⟨[],1,[]⟩,[])=(⟨[⟨dW gT,xC⟩],1,gT⟩,[xC]):=by
  rw[Xwe];show lV (⟨[],1,[]⟩,[]) ⟨0,gT⟩=_;rw[lV,if_neg (by decide)];show(dw gT).foldl pO (⟨[],1,[]⟩,[])=_;rw[Xxd];rfl
 rw[jA,if_neg (by decide),if_neg (by decide),h]
theorem Xwu:fQ ⟨[],1,[]⟩ cA=(yC,⟨[⟨dW gT,xC⟩],1,gT⟩):=by
 have h:=Xwv;unfold fQ;rw[if_pos (by rfl),show cA.aI=gT from rfl,h];rfl
theorem Xxm{d:af}(h:d.length=32):dh [] ⟨1,[97],[],[],3,d,[⟨1,0,3⟩]⟩=([⟨1,[97],[],[],3,d,[⟨1,0,3⟩]⟩],0):=by
 obtain⟨a0,a1,a2,a3,a4,a5,a6,a7,a8,a9,b0,b1,b2,b3,b4,b5,b6,b7,b8,b9,c0,c1,c2,c3,c4,c5,c6,c7,c8,c9,d0,d1,rfl⟩:=TN h;kernel_rfl
theorem Xw1{d:af}(h:d.length=32):aX ⟨1,[97],[],[],3,d,[⟨1,0,3⟩]⟩=0:=by
 obtain⟨a0,a1,a2,a3,a4,a5,a6,a7,a8,a9,b0,b1,b2,b3,b4,b5,b6,b7,b8,b9,c0,c1,c2,c3,c4,c5,c6,c7,c8,c9,d0,d1,rfl⟩:=TN h;kernel_rfl
theorem Xv9:fK aN yC 5=(⟨[yC],[]⟩,0):=by
 have h:dh [] yC=([yC],0):=Xxm (TM _);unfold fK;rw[show aN.aF=[]from rfl,h];rfl
theorem Xxq:gQ (dK [] 5) cA=(⟨1,5,[],[yC],⟨[⟨dW gT,xC⟩],1,gT⟩,[yC],[]⟩,0):=by
 have h1:fQ (dK [] 5).bf cA=(yC,⟨[⟨dW gT,xC⟩],1,gT⟩):=Xwu;have h2:fK (dK [] 5).stt yC (dK [] 5).aA=(⟨[yC],[]⟩,0):=Xv9;have h3:aX yC=0:=Xw1 (TM _);unfold gQ;rw[h1];dsimp only;rw[h2,if_neg (by omega),if_neg (by rintro⟨h,_⟩;exact h rfl),if_neg (by rintro(h|h)<;>exact absurd h (by decide)),if_neg (by decide)];rfl
theorem Xvx:kN [] 5 [cA]=([sC],1,0):=by
 have h:dV (dK [] 5) 0 [cA]=(⟨1,5,[],[yC],⟨[⟨dW gT,xC⟩],1,gT⟩,[yC],[]⟩,1,0):=by
  rw[dV,Xxq,if_neg (by decide),dV]
 unfold kN;rw[if_neg (by decide),h];rfl
theorem Ie:cA.Sm:=⟨by decide,by decide,by decide,by decide,by decide,by decide,fun x hx=>(by cases hx)⟩
open Go.RowKit
structure vW (J:IH) (w:World) (B:Nat) (ai dt sp:Int) (vs:Value) (L:List bV):Prop where
 no:J B=none
 rd:aZ fw J vs L
 row:w.heap[B]?=some (.cells #[.int .u32 ai,.int .i64 dt,.int .i64 sp,vs] 30 (0,0))
section
variable {I J J':IH} {w0 w w':World} {B:Nat} {ai dt sp:Int} {vs:Value} {L:List bV}
theorem vW.lt(h:vW J w B ai dt sp vs L):B<w.heap.size:=(Qg h.row)
theorem vW.ext(h:vW J w B ai dt sp vs L)(iZ:Ok J w)(hb:Below w.heap.size w w')(hx:Ext w.heap.size J J'):vW J' w' B ai dt sp vs L:=
 ⟨(hx _ h.lt).trans h.no,h.rd.mono (fun b c hc=>hx.keep iZ (Qn _) b c hc),(hb.block _ h.lt).trans h.row⟩
theorem vW.quiet(h:vW J w B ai dt sp vs L)(hb:Below w.heap.size w w'):vW J w' B ai dt sp vs L:=
 ⟨h.no,h.rd,(hb.block _ h.lt).trans h.row⟩
theorem vW.own(h:vW J w B ai dt sp vs L)(hg:w.grownBy w' (some g))(bq:B≠g):vW J w' B ai dt sp vs L:=
 ⟨h.no,h.rd,(hg.block _ h.lt (fun e=>by injection e with e;exact bq e)).trans h.row⟩
end
def TP(I:IH)(w:World)(ai dt sp:Int)(L:List bV)(e:Ending)(w':World):Prop:=
 ∃vs J,e= .returned (bW ai dt sp vs)∧Below w.heap.size w w'∧Ext w.heap.size I J∧Ok J w'∧aZ fw J vs L
theorem Xif(I:IH)(hI:fG I)(w:World)(hw:Ok I w):
 Calls Tryz.prog 6 #[] w fun e w'=>e= .returned (.bool true)∧Below w.heap.size w w':=by
 have A0:=(lJ.start hw).past (.cells (Bp cA (.slice none 0 0)).toArray 53);obtain⟨K,hk,_,iZ,_,hr⟩:=one_row (T:=xm) (x:=cA) (cs:=Bp cA (.slice none 0 0)) A0.ok (heap_alloc_new w _) (hw.fresh (Qn _)) ⟨_,rfl,aZ.nil _ _⟩;have Hw:=Qh (TI K (hI.mono hk) 7 0 0 [] Xtq [cA] (by decide) (by decide) (.slice none 0 0) (aZ.nil _ _) 5 _ hr (fun c hc=>by rw[List.mem_singleton.1 hc];exact⟨Ie.wf,by decide,by decide⟩) _ iZ);rw[Xvx]at Hw;have A1:=Qh (show lJ I w K _ from⟨iZ,hk,A0.eU⟩);clear A0 hk iZ hr hI;go_enter Tryz.func6,Tryz.ntmps6
 go_wp2_with fail
 refine Hw.O.mono ?_;rintro e1 w1 ⟨vs,J1,rfl,aG,iY,aO,je⟩;have A2:=Qh (A1.O.ext aG iY aO);obtain⟨a1,c1,rfl⟩:=Xxy (n:=1) je rfl;have Hr:=Qh (show aZ fw J1 (.slice a1 1 c1) [sC]from je);clear aG iY aO je A1 Hw
 go_upto_region 2 with(
  refine fO rfl rfl 30 _ _ rfl w1.heap.size 0 [.int .u32 7,.int .i64 0,.int .i64 0,.slice a1 1 c1] (bW 7 0 0 (.slice a1 1 c1)) (by simp[Act.eval]) (by simp[Act.eval]) (by rfl) cO 30 (heap_alloc_new _ _) (by simp) (by kernel_rfl) (by simp[Value.oneCell']) #[.int .u32 7,.int .i64 0,.int .i64 0,.slice a1 1 c1] (by rfl) ?_;intro w2 hg2 iN)
 have aL:Below w1.heap.size w1 w2:=((Qb _ _).alloc (Qn _) _).grown hg2 (by simp) (fun k e=>by injection e with e;omega);have A3:=Qh (A2.O.quiet aL);obtain⟨z0,z1,z2,z3⟩:=qU iN;obtain⟨x,ve,b,off,cap,cB,dC,⟨c0,c1',c2,c3,c4,c5⟩,h1⟩:=Cx Hr.O A3.O.ok 0 (by decide);obtain rfl:sC=x:=cB;cases dC;obtain⟨e,va,vx,b2,mh,cap2,ul,dC,⟨d0,d1,d2,d3,d4,d5,d6⟩,h2,h3⟩:=wD h1 A3.O.ok 0 (by decide);obtain rfl:yC=e:=ul;cases dC;obtain⟨x,b3,xq,Ig,hlt,dC,x0,x1,x2⟩:=vg h3 A3.O.ok 0 (by decide);obtain rfl:xC=x:=hlt;cases dC;replace c0:w2.cell? ⟨b,off,none⟩=some (.int .i64 1):=c0;have c1:w2.cell? ⟨b,off+1,none⟩=some (.int .i64 5):=c1';replace c2:w2.cell? ⟨b,off+2,none⟩=some (S []):=c2;replace c3:w2.cell? ⟨b,off+3,none⟩=some (.slice (some ⟨b2,mh,none⟩) 1 cap2):=c3;replace c4:w2.cell? ⟨b,off+4,none⟩=some (S [97,98,99]):=c4;replace c5:w2.cell? ⟨b,off+5,none⟩=some (S []):=c5;replace d6:w2.cell? ⟨b2,mh+6,none⟩=some (.slice (some ⟨b3,xq,none⟩) 1 Ig):=d6;replace x0:w2.cell? ⟨b3,xq,none⟩=some (.int .i64 1):=x0;replace x1:w2.cell? ⟨b3,xq+1,none⟩=some (.int .i64 0):=x1;replace x2:w2.cell? ⟨b3,xq+2,none⟩=some (.int .i64 3):=x2;have hz:=block_lt_of_cell z0;clear hg2 iN c1' d0 d1 d2 d3 d4 d5 h1 h2 h3
 go_upto_region 5 with(
  refine fO rfl rfl 56 _ _ rfl w2.heap.size 0 [.int .i64 1,.int .i64 5,S [],.slice (some ⟨b2,mh,none⟩) 1 cap2,S [97,98,99],S []] (.agg #[.int .i64 1,.int .i64 5,S [],.slice (some ⟨b2,mh,none⟩) 1 cap2,S [97,98,99],S []]) (by simp[Act.eval]) (by simp[Act.eval]) (by rfl) uu 56 (heap_alloc_new _ _) (by simp) (by kernel_rfl) (by simp[Value.oneCell']) #[.int .i64 1,.int .i64 5,S [],.slice (some ⟨b2,mh,none⟩) 1 cap2,S [97,98,99],S []] (by rfl) ?_;intro w3 iX jK)
 have dO:Below w2.heap.size w2 w3:=((Qb _ _).alloc (Qn _) _).grown iX (by simp) (fun k e=>by injection e with e;omega);have A4:=Qh (A3.O.quiet dO);replace z0:=aV dO z0;replace d6:=aV dO d6;replace x0:=aV dO x0;replace x1:=aV dO x1;replace x2:=aV dO x2;have s0:w3.cell? ⟨w2.heap.size,0,none⟩=some (.int .i64 1):=(cell_of_row _ _ 0 _ _ _ jK).trans rfl;have s1:w3.cell? ⟨w2.heap.size,1,none⟩=some (.int .i64 5):=(cell_of_row _ _ 1 _ _ _ jK).trans rfl;have s3:w3.cell? ⟨w2.heap.size,3,none⟩=some (.slice (some ⟨b2,mh,none⟩) 1 cap2):=(cell_of_row _ _ 3 _ _ _ jK).trans rfl;have s4:w3.cell? ⟨w2.heap.size,4,none⟩=some (S [97,98,99]):=(cell_of_row _ _ 4 _ _ _ jK).trans rfl;clear c0 c1 c2 c3 c4 c5 z1 z2 z3 iX jK dO A3;go_wp2_with fail
 go_ret;exact⟨rfl,A4.O.eU⟩
theorem nG.ext{J':IH}(h:nG J w B d ve vk vt vh)(hb:Below w.heap.size w w')(hx:Ext w.heap.size J J')(iZ:Ok J' w'):nG J' w' B d ve vk vt vh:=
 ⟨iZ,(hx _ h.lt).trans h.no,h.rd.mono (fun b c hc=>hx.keep h.ok (Qn _) b c hc),(hb.block _ h.lt).trans h.row⟩
theorem nG.own(h:nG J w B d ve vk vt vh)(hg:w.grownBy w' (some g))(hn:J g=none)(bq:B≠g):nG J w' B d ve vk vt vh:=
 ⟨h.ok.grown hg (fun k e=>by injection e with e;subst e;exact hn),h.no,h.rd,(hg.block _ h.lt (fun e=>by injection e with e;exact bq e)).trans h.row⟩
abbrev OD(d dn:fU)(ve vk vt vh:Value)(b off n lc k:Nat)(c:ic)(va:Value)(rn:Int)(x:((Option Addr×Nat)×(Option Addr×Nat)×(Option Addr×Nat)×(Option Addr×Nat))×Nat):List (Option Tmp×Value):=
 [(some 33,gP d ve vk vt vh),(some 34,.slice (some ⟨b,off,none⟩) n lc),(some 35,.int .i64 (k:Int)),(some 36,.pointer (some ⟨b,off+k*5,none⟩)),(some 37,Bj c va),(some 38,.tuple #[gP dn (.slice x.1.1.1 dn.aB.length x.1.1.2) (.slice x.1.2.1.1 dn.bf.aJ.length x.1.2.1.2) (.slice x.1.2.2.1.1 dn.aF.length x.1.2.2.1.2) (.slice x.1.2.2.2.1 dn.holds.length x.1.2.2.2.2),.int .i64 rn]),(some 32,.tuple #[gP dn (.slice x.1.1.1 dn.aB.length x.1.1.2) (.slice x.1.2.1.1 dn.bf.aJ.length x.1.2.1.2) (.slice x.1.2.2.1.1 dn.aF.length x.1.2.2.1.2) (.slice x.1.2.2.2.1 dn.holds.length x.1.2.2.2.2),.int .i64 rn]),(some 39,gP dn (.slice x.1.1.1 dn.aB.length x.1.1.2) (.slice x.1.2.1.1 dn.bf.aJ.length x.1.2.1.2) (.slice x.1.2.2.1.1 dn.aF.length x.1.2.2.1.2) (.slice x.1.2.2.2.1 dn.holds.length x.1.2.2.2.2)),(some 40,.int .i64 rn),(some 12,.pointer (some ⟨x.2,0,none⟩)),(none,undef),(some 13,.int .i64 rn)]
theorem QC{dn:fU}{b off lc:Nat}{va:Value}{rn:Int}{x:((Option Addr×Nat)×(Option Addr×Nat)×(Option Addr×Nat)×(Option Addr×Nat))×Nat}:bC (OD d dn ve vk vt vh b off n lc k c va rn x):=by
 unfold bC;simp
abbrev KM(ai dt sp:Int)(so:Option Addr)(sc:Nat)(L L2:List bV)(d:fU)(ve vk vt vh:Value)(x:(Option Addr×Nat)×(Option Addr×Nat)×Nat):List (Option Tmp×Value):=
 [(some 48,bW ai dt sp (.slice so L.length sc)),(some 49,gP d ve vk vt vh),(some 50,nD (bF d) (.slice x.1.1 (bF d).aB.length x.1.2)),(some 51,.tuple #[bW ai dt sp (.slice x.2.1.1 L2.length x.2.1.2),.int .i64 0]),(some 47,.tuple #[bW ai dt sp (.slice x.2.1.1 L2.length x.2.1.2),.int .i64 0]),(some 52,bW ai dt sp (.slice x.2.1.1 L2.length x.2.1.2)),(some 53,.int .i64 0),(some 14,.pointer (some ⟨x.2.2,0,none⟩)),(none,undef),(some 15,.int .i64 0)]
theorem QD{ai dt sp:Int}{so:Option Addr}{sc:Nat}{L L2:List bV}{x:(Option Addr×Nat)×(Option Addr×Nat)×Nat}:bC (KM ai dt sp so sc L L2 d ve vk vt vh x):=by
 unfold bC;simp
theorem Xr7(I:IH)(ai dt sp:Int){m:Nat}(L:List bV)(h:eT n m L)(l:List ic)(hn:n+l.length≤150)(hm:m≤250)(vs:Value)(fV:aZ fw I vs L)(aA:Int)(vc:Value)(zD:aZ xm I vc l)(hc:∀c∈l,c.Wf∧c.ag.length≤1000000∧c.aI.length≤1000)(w:World)(hw:Ok I w):
 Calls Tryz.prog 8 #[bW ai dt sp vs,.int .i64 aA,vc] w (yZ I w ai dt sp (kN L aA l)):=by
 have hlen:=h.len;have HA:=Qh h;have ma:=Qh fV;have MW:=Qh zD;have Hc:=Qh hc;have bO:=zD.bL;have MX:=Qh (fun w hw=>Xl0 I ai dt sp L h (by omega) hm vs fV aA w hw);have wI:=Qh (show(Tryz.prog.info? 30).map (·.size)=some 4 by kernel_rfl);obtain⟨so,sc,rfl,_,_,_⟩:=id fV;obtain⟨co,cc,rfl,_,_,_⟩:=id zD;have M:=Qh (MU hw ai dt sp (.slice so L.length sc) cO 30);clear h fV zD hc;obtain⟨W2,kU⟩:∃W2,((w.alloc (.cells #[.int .u32 ai,.int .i64 dt,.int .i64 sp,.slice so L.length sc] 30)).alloc (.cells cO 30))=W2:=⟨_,rfl⟩;rw[kU]at M;obtain⟨z0,z1,z2,z3⟩:=(⟨M.O.a0,M.O.a1,M.O.a2,M.O.a3⟩:_∧_∧_∧_);go_enter Tryz.func8,Tryz.ntmps8
 go_wp2_with fail
 clear kU;refine(MX.O W2 M.O.at_.ok).mono ?_;rintro e1 w1 ⟨ve,vk,vt,vh,J1,rfl,aG,iY,aO,zt⟩;obtain⟨ae,ce,rfl,_,_,_⟩:=id zt.aB;obtain⟨ak,ck,rfl,_,_,_⟩:=id zt.aJ;obtain⟨at',ct,rfl,_,_,_⟩:=id zt.aF;obtain⟨ah,ch,rfl,_,_,_⟩:=id zt.holds;have M1:=Qh (M.O.aR aG iY aO);have rP:=Qh zt;obtain⟨dB,eB,Ar⟩:∃dB eB,jB L aA=(dB,eB):=⟨_,_,rfl⟩;rw[Ar]at rP ⊢;dsimp only at rP ⊢;have yw:J1 w1.heap.size=none:=aO.fresh (Qn _);have Az:=M1.O.lt;have Eu:=Qh Ar;clear zt aG iY aO M z0 z1 z2 z3 MX Ar
 go_upto_region 2 with(
                        refine fO rfl rfl 46 _ _ rfl w1.heap.size 0 (dA dB (.slice ae dB.aB.length ce) (.slice ak dB.bf.aJ.length ck) (.slice at' dB.aF.length ct) (.slice ah dB.holds.length ch)) (gP dB (.slice ae dB.aB.length ce) (.slice ak dB.bf.aJ.length ck) (.slice at' dB.aF.length ct) (.slice ah dB.holds.length ch)) (by simp[Act.eval]) (by simp[Act.eval]) (by rfl) aY 46 (heap_alloc_new _ _) (by simp) (by kernel_rfl) (by simp[Value.oneCell']) (dA dB (.slice ae dB.aB.length ce) (.slice ak dB.bf.aJ.length ck) (.slice at' dB.aF.length ct) (.slice ah dB.holds.length ch)).toArray (by rfl) ?_;intro w2 hg2 iN)
 have aL:Below w1.heap.size w1 w2:=((Qb _ _).alloc (Qn _) _).grown hg2 (by simp) (fun k e=>by injection e with e;omega);have M2:=Qh (M1.O.quiet aL);have pV:=(Qg iN);by_cases q:bQ L aA=0;case neg=>
  obtain⟨rfl,rfl⟩:=Prod.mk.inj (Eu.O.symm.trans (TH q));have Hn:=Qh (XA l q);have i1:(bQ L aA !=0)=true:=by simpa using q
  have Rp:(bQ L aA==0)=false:=by simpa using q
  have Rq:decide (bQ L aA=0)=false:=Qf q;clear q iN hg2 aL M1 rP Eu;obtain⟨z0,z1,z2,z3⟩:=(⟨M2.O.a0,M2.O.a1,M2.O.a2,M2.O.a3⟩:_∧_∧_∧_);have bR:=M2.O.O
  go_wp2_with (refine fO rfl rfl 30 _ _ rfl (w.heap.size+1) 0 [.int .u32 ai,.int .i64 dt,.int .i64 sp,.slice so L.length sc] (bW ai dt sp (.slice so L.length sc)) (by simp[Act.eval]) (by simp[Act.eval]) (by rfl) cO 30 bR (by simp) (by kernel_rfl) (by simp[Value.oneCell']) #[.int .u32 ai,.int .i64 dt,.int .i64 sp,.slice so L.length sc] (by rfl) ?_
               intro w9 bK fB)
  refine bodyPost_ret (v:= .tuple #[bW ai dt sp (.slice so L.length sc),.int .i64 0,.int .i64 (bQ L aA)]) ?_ rfl ?_
  ·rw[Bo rfl];simp[asAddr,run_loadVar_row w9 (w.heap.size+1) 30 30 _ (0,0) _ fB Tryz.underlying30 rfl wI.O]
  ·rw[Hn.O];exact⟨_,_,rfl,M2.O.at_.eU.grown bK M2.O.at_.size (fun k e=>by injection e with e;omega),M2.O.ext,M2.O.at_.ok.grown bK (fun g e=>by injection e with e;subst e;exact M2.O.rZ),ma.O.mono M2.O.at_.keep⟩
 case pos=>
  obtain⟨e1,rfl⟩:=Prod.mk.inj (Eu.O.symm.trans (TG q));have He:=Qh e1;have Hq:=Qh q;obtain⟨b0,b1,b2,b3,b4,b5,b6,b7,b8⟩:=drB_row (d:=dB) iN;clear q e1 hg2 aL M1 Eu;have dO:Below w2.heap.size w2 w2:=Qb _ _;have M3:=Qh (M2.O);have HZ:=Qh (show nG J1 w2 w1.heap.size dB _ _ _ _ from⟨M2.O.at_.ok,yw,rP.O,iN⟩);have qV:=Qh (show lU (n+0) dB by rw[He.O];exact Ox HA.O (by omega) (by omega) Hq.O);have Mc:w.heap.size+1<w1.heap.size:=by omega
  have xn:=Qh (show dV dB 0 l=dV dB 0 (l.drop 0)from rfl);clear b0 b1 b2 b3 b4 b5 b6 b7 b8 iN dO M2 rP yw;generalize w1.heap.size=B at HZ Mc ⊢;go_wp2_with fail
  go_loopw [11] (fun TJ wr=> ∃(k:Nat) (J:IH) (d:fU) (ve vk vt vh:Value),k≤l.length∧TJ= .int .i64 k∧qg I w ai dt sp (.slice so L.length sc) (w.heap.size+1) cO 30 J wr∧nG J wr B d ve vk vt vh∧lU (n+k) d∧dV dB 0 l=dV d k (l.drop k)) (fun i _=>l.length-(intOf i).toNat)
  case atStart=>exact⟨0,J1,dB,_,_,_,_,Nat.zero_le _,rfl,M3.O,HZ.O,qV.O,xn.O⟩
  case round=>
   clear M3 HZ qV xn;obtain⟨k,J,d,ve,vk,vt,vh,hk,rfl,hM,MZ,H8,Md⟩:=hrel;have M:=Qh hM;have WR:=Qh MZ;have qV:=Qh H8;have xn:=Qh Md;clear hM MZ H8 Md;by_cases hlt:k<l.length
   ·obtain⟨c,va,b,off,cap',qm,dC,⟨c0,c1,c2,c3,c4⟩,gK⟩:=Rs (MW.O.mono M.O.at_.keep) M.O.at_.ok k hlt;cases dC;have oh:=hlt;have iv:=Hc.O c (by rw[←qm];exact List.getElem_mem hlt);have bI:=Xy hlt qm xn.O;have yo:=TK qV.O (by omega) (show c.aI.length≤65536 by omega);have zH:=(fun W (hW:Ok J W)=>Xr8 J d qV.O (by omega) ve vk vt vh WR.O.rd c iv.1 iv.2.1 _ gK W hW);obtain⟨dn,rn,zq⟩:∃dn rn,gQ d c=(dn,rn):=⟨_,_,rfl⟩;rw[zq]at bI yo zH;dsimp only at bI yo zH;replace bI:=Qh bI;replace yo:=Qh (show lU (n+(k+1)) dn from yo);replace zH:=Qh zH;obtain⟨oa,ca,rfl,_,_,_⟩:=id gK;obtain⟨ae,ce,rfl,_,_,_⟩:=id WR.O.rd.aB;obtain⟨ak,ck,rfl,_,_,_⟩:=id WR.O.rd.aJ;obtain⟨at',ct,rfl,_,_,_⟩:=id WR.O.rd.aF;obtain⟨ah,ch,rfl,_,_,_⟩:=id WR.O.rd.holds;obtain⟨b0,b1,b2,b3,b4,b5,b6,b7,b8⟩:=drB_row (d:=d) WR.O.row;clear iv qm gK zq xn qV;go_wp2_with fail
    refine qR (X:=((Option Addr×Nat)×(Option Addr×Nat)×(Option Addr×Nat)×(Option Addr×Nat))×Nat) (OD d dn (.slice ae d.aB.length ce) (.slice ak d.bf.aJ.length ck) (.slice at' d.aF.length ct) (.slice ah d.holds.length ch) b off l.length cc k c (.slice oa c.ag.length ca) rn) (jX wr 5 233 224 234 9 235 226 236 (fun x w=>x.2<w.heap.size∧J x.2=none) (fun x w=> ∃J',Ext wr.heap.size J J'∧Ok J' w∧qy J' dn (.slice x.1.1.1 dn.aB.length x.1.1.2) (.slice x.1.2.1.1 dn.bf.aJ.length x.1.2.1.2) (.slice x.1.2.2.1.1 dn.aF.length x.1.2.2.1.2) (.slice x.1.2.2.2.1 dn.holds.length x.1.2.2.2.2)∧J' x.2=none) (fun _ _=>True) (fun x w=>w.heap[x.2]?=some (.cells aY 46 (0,0))∧wr.heap.size≤x.2) (fun _ _=>True) (fun x w=>(∃J',Ext wr.heap.size J J'∧Ok J' w∧qy J' dn (.slice x.1.1.1 dn.aB.length x.1.1.2) (.slice x.1.2.1.1 dn.bf.aJ.length x.1.2.1.2) (.slice x.1.2.2.1.1 dn.aF.length x.1.2.2.1.2) (.slice x.1.2.2.2.1 dn.holds.length x.1.2.2.2.2)∧J' x.2=none)∧(w.heap[x.2]?=some (.cells aY 46 (0,0))∧wr.heap.size≤x.2)) (fun x=>x.2) 46 10 213 214 (fun x=>(dA dn (.slice x.1.1.1 dn.aB.length x.1.1.2) (.slice x.1.2.1.1 dn.bf.aJ.length x.1.2.1.2) (.slice x.1.2.2.1.1 dn.aF.length x.1.2.2.1.2) (.slice x.1.2.2.2.1 dn.holds.length x.1.2.2.2.2)).toArray) (fun x=>(dA dn (.slice x.1.1.1 dn.aB.length x.1.1.2) (.slice x.1.2.1.1 dn.bf.aJ.length x.1.2.1.2) (.slice x.1.2.2.1.1 dn.aF.length x.1.2.2.1.2) (.slice x.1.2.2.2.1 dn.holds.length x.1.2.2.2.2)).toArray) (fun x=>(dA dn (.slice x.1.1.1 dn.aB.length x.1.1.2) (.slice x.1.2.1.1 dn.bf.aJ.length x.1.2.1.2) (.slice x.1.2.2.1.1 dn.aF.length x.1.2.2.1.2) (.slice x.1.2.2.2.1 dn.holds.length x.1.2.2.2.2)).toArray)) (by kernel_rfl) (by kernel_rfl) ?_ ?_ ?_
    ·exact⟨(default,w.heap.size+1),jX.start _ _ ⟨M.O.lt,M.O.rZ⟩⟩
    ·rintro x s' a' w' i bS bO ha hC hi;obtain⟨aH,oi,dI,au⟩:=mem_ready.1 hi;have ev:=vV QC ha;have hlt:=oO aH;rcases i with _|_|_|_|_|_|_|_|_|_|_|_|i
     rotate_left 12
     ·simp at dI
     all_goals
      have dH:=dI;simp at dI;subst dI;simp[Region.binds]at au;try have hl:=kz 6 10 bO (by decide+kernel) aH
      try have aT:=hC.off hl
      try have b0:=aV aT b0
      try have b1:=aV aT b1
      try have b2:=aV aT b2
      try have b3:=aV aT b3
      try have b4:=aV aT b4
      try have b5:=aV aT b5
      try have b6:=aV aT b6
      try have b7:=aV aT b7
      try have b8:=aV aT b8
      try have c0:=aV aT c0
      try have c1:=aV aT c1
      try have c2:=aV aT c2
      try have c3:=aV aT c3
      try have c4:=aV aT c4
      refine wpOp_step dH (fun K' hK=> ?_);rw[if_pos (by rfl)]
     rotate_left 3
     ·unfold Oper.wp;simp[go_sem,ev,dG,au,Oper.upon,oh];exact hK _ _ ⟨x,gD QC ha rfl aH,hC.pure (by decide)⟩
     rotate_left 1
     ·unfold Oper.wp;simp[go_sem,ev,dG,au,Oper.upon];refine(zH.O w' (M.O.at_.ok.below (Qn _) aT)).mono ?_;rintro r4 w4 ⟨v5,v6,v7,v8,J7,rfl,aS,jL,eY,gN⟩;obtain⟨a5,k5,rfl,_,_,_⟩:=id gN.aB;obtain⟨a6,k6,rfl,_,_,_⟩:=id gN.aJ;obtain⟨a7,k7,rfl,_,_,_⟩:=id gN.aF;obtain⟨a8,k8,rfl,_,_,_⟩:=id gN.holds;have ha:=ha.trans (lT (L:=OD d dn (.slice ae d.aB.length ce) (.slice ak d.bf.aJ.length ck) (.slice at' d.aF.length ct) (.slice ah d.holds.length ch) b off l.length cc k c (.slice oa c.ag.length ca) rn x) (M:=OD d dn (.slice ae d.aB.length ce) (.slice ak d.bf.aJ.length ck) (.slice at' d.aF.length ct) (.slice ah d.holds.length ch) b off l.length cc k c (.slice oa c.ag.length ca) rn (((a5,k5),(a6,k6),(a7,k7),(a8,k8)),x.2)) [5,6,7] rfl (fun j bq=>by
       rcases j with _|_|_|_|_|_|_|_|_|_|_|_|j<;>first|rfl|(exact absurd (by decide) bq)|simp) (List.forall_mem_cons.2 ⟨gG aH,List.forall_mem_cons.2 ⟨kz 6 6 bO (by kernel_rfl) aH,List.forall_mem_cons.2 ⟨kz 6 7 bO (by kernel_rfl) aH,List.forall_mem_nil _⟩⟩⟩))
      exact hK _ _ ⟨(((a5,k5),(a6,k6),(a7,k7),(a8,k8)),x.2),gD QC ha rfl aH,hC.step hl (aT.trans (aS.mono aT.size)) (by decide) (fun h=>⟨Nat.lt_of_lt_of_le h.1 aS.size,h.2⟩) (fun _ _=>⟨J7,fun b hb=>jL b (Nat.lt_of_lt_of_le hb aT.size),eY,gN,(jL _ (hC.inv hl).1).trans (hC.inv hl).2⟩) (fun _ _=>trivial) (fun h _=>h.elim (fun e=>absurd e (by decide)) (fun⟨_,_,q⟩=>⟨(aS.block _ (Qg q.1)).trans q.1,q.2⟩)) (fun _ _=>trivial) hlt⟩
     rotate_left 3
     ·unfold Oper.wp;simp[go_sem,ev,dG,au,Oper.upon,b0,b1,b2,b3,b4,b5,b6,b7,b8,c0,c1,c2,c3,c4,oh];have ha:=ha.trans (lT (L:=OD d dn (.slice ae d.aB.length ce) (.slice ak d.bf.aJ.length ck) (.slice at' d.aF.length ct) (.slice ah d.holds.length ch) b off l.length cc k c (.slice oa c.ag.length ca) rn x) (M:=OD d dn (.slice ae d.aB.length ce) (.slice ak d.bf.aJ.length ck) (.slice at' d.aF.length ct) (.slice ah d.holds.length ch) b off l.length cc k c (.slice oa c.ag.length ca) rn (x.1,w'.heap.size)) [9] rfl (fun j bq=>by
       rcases j with _|_|_|_|_|_|_|_|_|_|_|_|j<;>first|rfl|(exact absurd (by decide) bq)|simp) (List.forall_mem_cons.2 ⟨gG aH,List.forall_mem_nil _⟩))
      exact hK _ _ ⟨(x.1,w'.heap.size),gD QC ha rfl aH,hC.step hl (aT.trans (((Qb _ _).alloc (Qn _) _).mono aT.size)) (by decide) (fun _=>⟨by simp,M.O.at_.ok.fresh aT.size⟩) (fun h _=>h.elim (fun e=>absurd e (by decide)) (fun⟨_,_,q⟩=>(q.elim fun J9 h9=>⟨J9,h9.1,h9.2.1.below (Qn _) ((Qb w'.heap.size w').alloc (Qn _) (.cells aY 46)),h9.2.2.1,h9.2.1.fresh (Qn _)⟩))) (fun _ _=>trivial) (fun _ _=>⟨heap_alloc_new _ _,aT.size⟩) (fun _ _=>trivial) hlt⟩
     ·have aK:w'.heap[x.2]?=some (.cells _ 46 (0,0)):=(hC.f3 (by first|simpa using au|simp[au]) (gX (by simp[bS])) hl).1;refine oK 46 _ _ rfl (x.2) 0 (dA dn (.slice x.1.1.1 dn.aB.length x.1.1.2) (.slice x.1.2.1.1 dn.bf.aJ.length x.1.2.1.2) (.slice x.1.2.2.1.1 dn.aF.length x.1.2.2.1.2) (.slice x.1.2.2.2.1 dn.holds.length x.1.2.2.2.2)) (gP dn (.slice x.1.1.1 dn.aB.length x.1.1.2) (.slice x.1.2.1.1 dn.bf.aJ.length x.1.2.1.2) (.slice x.1.2.2.1.1 dn.aF.length x.1.2.2.1.2) (.slice x.1.2.2.2.1 dn.holds.length x.1.2.2.2.2)) (by simp[Act.eval,ev,dG,au]) (by simp[Act.eval,ev,dG,au]) (by rfl) _ _ aK (by simp) (by kernel_rfl) (by simp[Value.oneCell']) ?_;exact hK _ _ ⟨x,dS (d:=none) (v:=undef) QC ha rfl aH,hC.jP aH ⟨hC.f1 (by first|simpa using au|simp[au]) (gX (by simp[bS])) hl,hC.f3 (by first|simpa using au|simp[au]) (gX (by simp[bS])) hl⟩ (gX (by simp[bS])) (gX (by simp[bS])) (by decide) aK (by rfl)⟩
     all_goals
      unfold Oper.wp;first
      |(simp[go_sem,ev,dG,au,Oper.upon,b0,b1,b2,b3,b4,b5,b6,b7,b8,c0,c1,c2,c3,c4,oh];exact hK _ _ ⟨x,gD QC ha rfl aH,hC.pure (by decide)⟩)
      |(simp[go_sem,ev,dG,Oper.upon,b0,b1,b2,b3,b4,b5,b6,b7,b8,c0,c1,c2,c3,c4,oh];exact hK _ _ ⟨x,gD QC ha rfl aH,hC.pure (by decide)⟩)
    ·rintro x s' a' w6 eu ha hC;obtain⟨wb,eG,ed,dR,aK⟩:=hC.on (eu 10 (by decide));simp only[ite_self]at aK;rw[qz _ _ _ _ (fun i hi=>by rw[Nat.zero_add];exact eu i (by simpa using hi))]at ha;subst ha;simp only[dE,Act.put,List.setIfInBounds_toArray,List.set_cons_succ,List.set_cons_zero];obtain⟨⟨⟨ve5,vf5⟩,⟨vk5,vl5⟩,⟨vt5,vu5⟩,⟨vh5,vi5⟩⟩,bx⟩:=x;dsimp only at ed dR aK ⊢;obtain⟨⟨J9,jZ,jD,fB,yB⟩,mR,qW⟩:=ed;have QE:=M.O.lt;have asj:=WR.O.lt;have M6:=Qh ((M.O.aR eG jZ jD).own dR (fun g e=>by injection e with e;subst e;exact⟨yB,by omega,by omega⟩));have Wt:=Qh ((WR.O.ext eG jZ jD).own dR yB (by omega));have C9:=Qh fB;clear eG dR jZ jD mR fB M WR b0 b1 b2 b3 b4 b5 b6 b7 b8 c0 c1 c2 c3 c4 zH;by_cases h0:rn=0
     ·have ru:=Qh (bI.O.2 h0);subst h0;have hrB:=Wt.O.row;obtain⟨y0,y1,y2,y3,y4,y5,y6,y7,y8⟩:=drB_row (d:=dn) aK;clear bI
      go_wp2_with (refine fO rfl rfl 46 _ _ rfl B 0 (dA dn (.slice ve5 dn.aB.length vf5) (.slice vk5 dn.bf.aJ.length vl5) (.slice vt5 dn.aF.length vu5) (.slice vh5 dn.holds.length vi5)) (gP dn (.slice ve5 dn.aB.length vf5) (.slice vk5 dn.bf.aJ.length vl5) (.slice vt5 dn.aF.length vu5) (.slice vh5 dn.holds.length vi5)) (by simp[Act.eval]) (by simp[Act.eval]) (by rfl) _ 46 hrB (by simp) (by kernel_rfl) (by simp[Value.oneCell']) (dA dn (.slice ve5 dn.aB.length vf5) (.slice vk5 dn.bf.aJ.length vl5) (.slice vt5 dn.aF.length vu5) (.slice vh5 dn.holds.length vi5)).toArray (by rfl) ?_
                   intro w7 iy gN)
      go_roundw;case rel=>exact⟨k+1,J9,dn,_,_,_,_,by omega,by go_num,M6.O.own iy (fun g e=>by injection e with e;subst e;exact⟨Wt.O.no,by omega,by omega⟩),⟨Wt.O.ok.grown iy (fun g e=>by injection e with e;subst e;exact Wt.O.no),Wt.O.no,C9.O,gN⟩,yo.O,ru.O⟩
      case measure=>simp[intOf];omega
     ·have Hn:=Qh (XC Hq.O h0 (by rw[←He.O];exact bI.O.1 h0):kN L aA l=(L,k,rn));have i1:(rn !=0)=true:=by simpa using h0
      have Rp:(rn==0)=false:=by simpa using h0
      have Rq:decide (rn=0)=false:=Qf h0;clear h0 bI aK;obtain⟨z0,z1,z2,z3⟩:=(⟨M6.O.a0,M6.O.a1,M6.O.a2,M6.O.a3⟩:_∧_∧_∧_);have bR:=M6.O.O
      go_wp2_with (refine fO rfl rfl 30 _ _ rfl (w.heap.size+1) 0 [.int .u32 ai,.int .i64 dt,.int .i64 sp,.slice so L.length sc] (bW ai dt sp (.slice so L.length sc)) (by simp[Act.eval]) (by simp[Act.eval]) (by rfl) cO 30 bR (by simp) (by kernel_rfl) (by simp[Value.oneCell']) #[.int .u32 ai,.int .i64 dt,.int .i64 sp,.slice so L.length sc] (by rfl) ?_
                   intro w9 bK fB)
      refine bodyPost_ret (v:= .tuple #[bW ai dt sp (.slice so L.length sc),.int .i64 (k:Int),.int .i64 rn]) ?_ rfl ?_
      ·rw[Bo rfl];simp[asAddr,run_loadVar_row w9 (w.heap.size+1) 30 30 _ (0,0) _ fB Tryz.underlying30 rfl wI.O]
      ·rw[Hn.O];exact⟨_,_,rfl,M6.O.at_.eU.grown bK M6.O.at_.size (fun k e=>by injection e with e;omega),M6.O.ext,M6.O.at_.ok.grown bK (fun g e=>by injection e with e;subst e;exact M6.O.rZ),ma.O.mono M6.O.at_.keep⟩
   ·have mJ:k=l.length:=by omega
    subst mJ;have ru:=Qh (Xz xn.O);have mQ:=Qh (XE HA.O (by omega) hm (fun c hc=>(Hc.O c hc).2.2) Hq.O (by rw[←He.O];exact ru.O));have Hn:=Qh (XD Hq.O (by rw[←He.O];exact ru.O):kN L aA l=(L++[bF d],l.length,0));have iA:=Qh (fun J6 (zx:∀b c,J b=some c→J6 b=some c) Ev (mP:aZ bM J6 Ev (bF d).aB) w' fF=>by
     have h9:=Xql J6 ai dt sp L HA.O (by omega) hm _ (ma.O.mono (fun b c hb=>zx b c (M.O.at_.keep b c hb))) (bF d) Ev mP w' fF;rw[mQ.O]at h9;exact h9)
    obtain⟨L2,EZ⟩:∃L2,L++[bF d]=L2:=⟨_,rfl⟩;dsimp only at iA;rw[EZ]at iA Hn;clear EZ mQ;have uU:=qV.O.aB;obtain⟨ae,ce,rfl,_,_,_⟩:=id WR.O.rd.aB;obtain⟨ak,ck,rfl,_,_,_⟩:=id WR.O.rd.aJ;obtain⟨at',ct,rfl,_,_,_⟩:=id WR.O.rd.aF;obtain⟨ah,ch,rfl,_,_,_⟩:=id WR.O.rd.holds;obtain⟨z0,z1,z2,z3⟩:=(⟨M.O.a0,M.O.a1,M.O.a2,M.O.a3⟩:_∧_∧_∧_);obtain⟨b0,b1,b2,b3,b4,b5,b6,b7,b8⟩:=drB_row (d:=d) WR.O.row;clear xn qV ru;go_wp2_with fail
    refine qR (X:=(Option Addr×Nat)×(Option Addr×Nat)×Nat) (KM ai dt sp so sc L L2 d (.slice ae d.aB.length ce) (.slice ak d.bf.aJ.length ck) (.slice at' d.aF.length ct) (.slice ah d.holds.length ch)) (jX wr 2 231 3 232 7 233 224 234 (fun x w=>x.2.2<w.heap.size∧J x.2.2=none) (fun x w=> ∃J',Ext wr.heap.size J J'∧Ok J' w∧aZ bM J' (.slice x.1.1 (bF d).aB.length x.1.2) (bF d).aB∧J' x.2.2=none) (fun x w=> ∃J',Ext wr.heap.size J J'∧Ok J' w∧aZ fw J' (.slice x.2.1.1 L2.length x.2.1.2) L2∧J' x.2.2=none) (fun x w=>w.heap[x.2.2]?=some (.cells cO 30 (0,0))∧wr.heap.size≤x.2.2) (fun _ _=>True) (fun x w=>(∃J',Ext wr.heap.size J J'∧Ok J' w∧aZ fw J' (.slice x.2.1.1 L2.length x.2.1.2) L2∧J' x.2.2=none)∧(w.heap[x.2.2]?=some (.cells cO 30 (0,0))∧wr.heap.size≤x.2.2)) (fun x=>x.2.2) 30 8 211 212 (fun x=> #[.int .u32 ai,.int .i64 dt,.int .i64 sp,.slice x.2.1.1 L2.length x.2.1.2]) (fun x=> #[.int .u32 ai,.int .i64 dt,.int .i64 sp,.slice x.2.1.1 L2.length x.2.1.2]) (fun x=> #[.int .u32 ai,.int .i64 dt,.int .i64 sp,.slice x.2.1.1 L2.length x.2.1.2])) (by kernel_rfl) (by kernel_rfl) ?_ ?_ ?_
    ·exact⟨(default,default,w.heap.size+1),jX.start _ _ ⟨M.O.lt,M.O.rZ⟩⟩
    ·rintro x s' a' w' i bS bO ha hC hi;obtain⟨aH,oi,dI,au⟩:=mem_ready.1 hi;have ev:=vV QD ha;have hlt:=oO aH;rcases i with _|_|_|_|_|_|_|_|_|_|i
     rotate_left 10
     ·simp at dI
     all_goals
      have dH:=dI;simp at dI;subst dI;simp[Region.binds]at au;try have hl:=kz 6 8 bO (by decide+kernel) aH
      try have aT:=hC.off hl
      try have z0:=aV aT z0
      try have z1:=aV aT z1
      try have z2:=aV aT z2
      try have z3:=aV aT z3
      try have b0:=aV aT b0
      try have b1:=aV aT b1
      try have b2:=aV aT b2
      try have b3:=aV aT b3
      try have b4:=aV aT b4
      try have b5:=aV aT b5
      try have b6:=aV aT b6
      try have b7:=aV aT b7
      try have b8:=aV aT b8
      refine wpOp_step dH (fun K' hK=> ?_);rw[if_pos (by rfl)]
     rotate_left 2
     ·unfold Oper.wp;simp[go_sem,ev,dG,au,Oper.upon];refine(Xlz J d _ _ _ _ WR.O.rd.aB w' (M.O.at_.ok.below (Qn _) aT)).mono ?_;rintro r4 w4 ⟨v7,J7,rfl,aS,jL,eY,gN⟩;obtain⟨a7,k7,rfl,_,_,_⟩:=id gN;have ha:=ha.trans (lT (L:=KM ai dt sp so sc L L2 d (.slice ae d.aB.length ce) (.slice ak d.bf.aJ.length ck) (.slice at' d.aF.length ct) (.slice ah d.holds.length ch) x) (M:=KM ai dt sp so sc L L2 d (.slice ae d.aB.length ce) (.slice ak d.bf.aJ.length ck) (.slice at' d.aF.length ct) (.slice ah d.holds.length ch) ((a7,k7),x.2)) [2] rfl (fun j bq=>by
       rcases j with _|_|_|_|_|_|_|_|_|_|j<;>first|rfl|(exact absurd (by decide) bq)|simp) (List.forall_mem_cons.2 ⟨gG aH,List.forall_mem_nil _⟩))
      exact hK _ _ ⟨((a7,k7),x.2),gD QD ha rfl aH,hC.step hl (aT.trans (aS.mono aT.size)) (by decide) (fun h=>⟨Nat.lt_of_lt_of_le h.1 aS.size,h.2⟩) (fun _ _=>⟨J7,fun b hb=>jL b (Nat.lt_of_lt_of_le hb aT.size),eY,gN,(jL _ (hC.inv hl).1).trans (hC.inv hl).2⟩) (fun h _=>h.elim (fun e=>absurd e (by decide)) (fun⟨_,_,q⟩=>(q.elim fun J9 h9=>⟨J9,h9.1,h9.2.1.below (Qn _) aS,h9.2.2⟩))) (fun h _=>h.elim (fun e=>absurd e (by decide)) (fun⟨_,_,q⟩=>⟨(aS.block _ (Qg q.1)).trans q.1,q.2⟩)) (fun _ _=>trivial) hlt⟩
     ·obtain⟨J6,kW,fF,mP,ui⟩:=hC.f1 (by first|simpa using au|simp[au]) (gX (by simp[bS])) hl;unfold Oper.wp;simp[go_sem,ev,dG,au,Oper.upon];refine(iA.O J6 (fun b c hb=>kW.keep M.O.at_.ok (Qn _) b c hb) _ mP w' fF).mono ?_;rintro r4 w4 ⟨v7,J7,rfl,aS,jL,eY,gN⟩;obtain⟨a7,k7,rfl,_,_,_⟩:=id gN;have ha:=ha.trans (lT (L:=KM ai dt sp so sc L L2 d (.slice ae d.aB.length ce) (.slice ak d.bf.aJ.length ck) (.slice at' d.aF.length ct) (.slice ah d.holds.length ch) x) (M:=KM ai dt sp so sc L L2 d (.slice ae d.aB.length ce) (.slice ak d.bf.aJ.length ck) (.slice at' d.aF.length ct) (.slice ah d.holds.length ch) (x.1,(a7,k7),x.2.2)) [3,4,5] rfl (fun j bq=>by
       rcases j with _|_|_|_|_|_|_|_|_|_|j<;>first|rfl|(exact absurd (by decide) bq)|simp) (List.forall_mem_cons.2 ⟨gG aH,List.forall_mem_cons.2 ⟨kz 6 4 bO (by kernel_rfl) aH,List.forall_mem_cons.2 ⟨kz 6 5 bO (by kernel_rfl) aH,List.forall_mem_nil _⟩⟩⟩))
      exact hK _ _ ⟨(x.1,(a7,k7),x.2.2),gD QD ha rfl aH,hC.step hl (aT.trans (aS.mono aT.size)) (by decide) (fun h=>⟨Nat.lt_of_lt_of_le h.1 aS.size,h.2⟩) (fun h _=>h.elim (fun e=>absurd e (by decide)) (fun⟨_,_,q⟩=>(q.elim fun J9 h9=>⟨J9,h9.1,h9.2.1.below (Qn _) aS,h9.2.2⟩))) (fun _ _=>⟨J7,fun b hb=>(jL b (Nat.lt_of_lt_of_le hb aT.size)).trans (kW b hb),eY,gN,(jL _ (hC.inv hl).1).trans ui⟩) (fun h _=>h.elim (fun e=>absurd e (by decide)) (fun⟨_,_,q⟩=>⟨(aS.block _ (Qg q.1)).trans q.1,q.2⟩)) (fun _ _=>trivial) hlt⟩
     rotate_left 3
     ·unfold Oper.wp;simp[go_sem,ev,dG,au,Oper.upon,z0,z1,z2,z3,b0,b1,b2,b3,b4,b5,b6,b7,b8];have ha:=ha.trans (lT (L:=KM ai dt sp so sc L L2 d (.slice ae d.aB.length ce) (.slice ak d.bf.aJ.length ck) (.slice at' d.aF.length ct) (.slice ah d.holds.length ch) x) (M:=KM ai dt sp so sc L L2 d (.slice ae d.aB.length ce) (.slice ak d.bf.aJ.length ck) (.slice at' d.aF.length ct) (.slice ah d.holds.length ch) (x.1,x.2.1,w'.heap.size)) [7] rfl (fun j bq=>by
       rcases j with _|_|_|_|_|_|_|_|_|_|j<;>first|rfl|(exact absurd (by decide) bq)|simp) (List.forall_mem_cons.2 ⟨gG aH,List.forall_mem_nil _⟩))
      exact hK _ _ ⟨(x.1,x.2.1,w'.heap.size),gD QD ha rfl aH,hC.step hl (aT.trans (((Qb _ _).alloc (Qn _) _).mono aT.size)) (by decide) (fun _=>⟨by simp,M.O.at_.ok.fresh aT.size⟩) (fun h _=>h.elim (fun e=>absurd e (by decide)) (fun⟨_,_,q⟩=>(q.elim fun J9 h9=>⟨J9,h9.1,h9.2.1.below (Qn _) ((Qb w'.heap.size w').alloc (Qn _) (.cells cO 30)),h9.2.2.1,h9.2.1.fresh (Qn _)⟩))) (fun h _=>h.elim (fun e=>absurd e (by decide)) (fun⟨_,_,q⟩=>(q.elim fun J9 h9=>⟨J9,h9.1,h9.2.1.below (Qn _) ((Qb w'.heap.size w').alloc (Qn _) (.cells cO 30)),h9.2.2.1,h9.2.1.fresh (Qn _)⟩))) (fun _ _=>⟨heap_alloc_new _ _,aT.size⟩) (fun _ _=>trivial) hlt⟩
     ·have aK:w'.heap[x.2.2]?=some (.cells _ 30 (0,0)):=(hC.f3 (by first|simpa using au|simp[au]) (gX (by simp[bS])) hl).1;refine oK 30 _ _ rfl (x.2.2) 0 [.int .u32 ai,.int .i64 dt,.int .i64 sp,.slice x.2.1.1 L2.length x.2.1.2] (bW ai dt sp (.slice x.2.1.1 L2.length x.2.1.2)) (by simp[Act.eval,ev,dG,au]) (by simp[Act.eval,ev,dG,au]) (by rfl) _ _ aK (by simp) (by kernel_rfl) (by simp[Value.oneCell']) ?_;exact hK _ _ ⟨x,dS (d:=none) (v:=undef) QD ha rfl aH,hC.jP aH ⟨hC.f2 (by first|simpa using au|simp[au]) (gX (by simp[bS])) hl,hC.f3 (by first|simpa using au|simp[au]) (gX (by simp[bS])) hl⟩ (gX (by simp[bS])) (gX (by simp[bS])) (by decide) aK (by rfl)⟩
     all_goals
      unfold Oper.wp;first
      |(simp[go_sem,ev,dG,au,Oper.upon,z0,z1,z2,z3,b0,b1,b2,b3,b4,b5,b6,b7,b8];exact hK _ _ ⟨x,gD QD ha rfl aH,hC.pure (by decide)⟩)
      |(simp[go_sem,ev,dG,Oper.upon,z0,z1,z2,z3,b0,b1,b2,b3,b4,b5,b6,b7,b8];exact hK _ _ ⟨x,gD QD ha rfl aH,hC.pure (by decide)⟩)
    ·rintro x s' a' w6 eu ha hC;obtain⟨wb,eG,ed,dR,aK⟩:=hC.on (eu 8 (by decide));simp only[ite_self]at aK;rw[qz _ _ _ _ (fun i hi=>by rw[Nat.zero_add];exact eu i (by simpa using hi))]at ha;subst ha;simp only[dE,Act.put,List.setIfInBounds_toArray,List.set_cons_succ,List.set_cons_zero];obtain⟨⟨ac1,kc1⟩,⟨Ew,ks⟩,bx⟩:=x;dsimp only at ed dR aK ⊢;obtain⟨⟨J9,jZ,jD,fB,yB⟩,mR,qW⟩:=ed;have bS:=M.O.at_.size;have QE:=M.O.lt;have hsW:=eG.size;have Zr:=dR.size;have bR:=(dR.block _ (by omega:w.heap.size+1<wb.heap.size) (fun e=>by injection e with e;omega)).trans ((eG.block _ M.O.lt).trans M.O.O);obtain⟨y0,y1,y2,y3⟩:=qU aK;have Na:=Qh (show Below w.heap.size w w6 from(M.O.at_.eU.trans (eG.mono bS)).grown dR (by omega) (fun k e=>by injection e with e;omega));have H9:=Qh (jD.grown dR (fun g e=>by injection e with e;subst e;exact yB));have C9:=Qh fB;have TL:=Qh (M.O.ext.trans jZ bS);have Ia:=Qh ((jZ _ M.O.lt).trans M.O.rZ);clear fB jZ jD mR aK z0 z1 z2 z3 b0 b1 b2 b3 b4 b5 b6 b7 b8
     go_wp2_with (refine fO rfl rfl 30 _ _ rfl (w.heap.size+1) 0 [.int .u32 ai,.int .i64 dt,.int .i64 sp,.slice Ew L2.length ks] (bW ai dt sp (.slice Ew L2.length ks)) (by simp[Act.eval]) (by simp[Act.eval]) (by rfl) cO 30 bR (by simp) (by kernel_rfl) (by simp[Value.oneCell']) #[.int .u32 ai,.int .i64 dt,.int .i64 sp,.slice Ew L2.length ks] (by rfl) ?_
                  intro w9 bK fB)
     refine bodyPost_ret (v:= .tuple #[bW ai dt sp (.slice Ew L2.length ks),.int .i64 (l.length:Int),.int .i64 0]) ?_ rfl ?_
     ·rw[Bo rfl];simp[asAddr,run_loadVar_row w9 (w.heap.size+1) 30 30 _ (0,0) _ fB Tryz.underlying30 rfl wI.O]
     ·rw[Hn.O];exact⟨_,J9,rfl,Na.O.grown bK Na.O.size (fun k e=>by injection e with e;omega),TL.O,H9.O.grown bK (fun g e=>by injection e with e;subst e;exact Ia.O),C9.O⟩
def TS(l:List og):List af:=(l.map fun b=>b.fH.map fun c=>c.aI).flatten
theorem Xvy(hk:k<l.length)(hx:l[k]=x):jo (l.take k)+x.fH.length≤jo l:=by
 rw[←OC hk hx];exact TR l (k+1)
theorem OE{j:Nat}(hk:k<l.length)(hx:l[k]=x)(hj:j<x.fH.length)(hc:x.fH[j]=c)(h:iL c=true):fI l=1:=by
 unfold fI vv;rw[Rt (p:=fun b:og=>b.fH.any iL) hk hx (Rt hj hc h)];rfl
theorem Xyi(h:250<c.aj.length):iL c=true:=by unfold iL;rw[Qt h];simp
theorem Xyh(h:250<c.target.length):iL c=true:=by unfold iL;rw[Qt h];simp
theorem Xyg(h:20<c.ag.length):iL c=true:=by unfold iL;rw[Qt h];simp
theorem Xyf(h:600<c.aI.length):iL c=true:=by unfold iL;rw[Qt h];simp
theorem TT(h:c.ag.any lK=true):iL c=true:=by unfold iL;rw[h];simp
theorem Xye(h1:¬250<c.aj.length)(h2:¬250<c.target.length)(h3:¬20<c.ag.length)(h4:¬600<c.aI.length)(h5:c.ag.any lK=false):iL c=false:=by
 unfold iL;rw[Qf h1,Qf h2,Qf h3,Qf h4,h5];rfl
theorem OG(h:10<jo l):fI l=1:=by
 unfold fI vv;rw[Qt h];simp
theorem OH(h:4<l.length):fI l=1:=by
 unfold fI vv;rw[Qt h];simp
theorem OI(h:(l.any fun b=>b.fH.any iL)=false)(ht:jo l≤10)(hl:l.length≤4):fI l=0:=by
 unfold fI vv;rw[h,Qf (by omega:¬10<jo l),Qf (by omega:¬4<l.length)];rfl
theorem Xly(I:IH)(v:Value)(l:List og)(hv:aZ wK I v l)(w:World)(hw:Ok I w):
 Calls Tryz.prog 5 #[v] w fun e w'=>e= .returned (.int .i64 (fI l))∧Below w.heap.size w w':=by
 have hlen:=hv.bL;obtain⟨ao,cap,rfl,_,_,_⟩:=id hv;have Hv:=Qh hv;clear hv;go_enter Tryz.func5,Tryz.ntmps5
 go_wp2_with fail
 go_loopw [3,4,5,6,7] (fun s3 s4 _ _ _ wr=> ∃k:Nat,k≤l.length∧s4= .int .i64 k∧s3= .int .i64 (30*(jo (l.take k):Int))∧jo (l.take k)≤10∧((l.take k).any fun b=>b.fH.any iL)=false∧Below w.heap.size w wr) (fun _ i _ _ _ _=>l.length-(intOf i).toNat)
 case atStart=>exact⟨0,Nat.zero_le _,rfl,rfl,Nat.zero_le _,rfl,Qb _ _⟩
 case round=>
  obtain⟨k,hk,rfl,rfl,pE,hr,hb⟩:=hrel;have Hr:=Qh hr;clear hr;by_cases hlt:k<l.length
  ·obtain⟨x,vc,b,off,cap',cB,dC,c0,c1,h1⟩:=XI Hv.O hw k hlt;cases dC;have bO:=h1.bL;have pM:=Qh cB;have H1:=Qh h1;have Ii:=Qh (Xvy hlt cB);have OJ:=Qh (OC hlt cB);have jq:=Qh (Ru (p:=fun b:og=>b.fH.any iL) hlt cB Hr.O);obtain⟨oc,cc,rfl,_,_,_⟩:=id h1;have C1:=Qh c1;clear c1;have c1:=aV hb C1.O;obtain⟨T,hT⟩:∃T,T=jo (l.take k):=⟨_,rfl⟩;rw[←hT]at Ii OJ pE ⊢;clear cB h1 c0 Hr;go_wp2_with fail
   go_loopw [3,5,6,7] (fun s3 s5 _ _ wr=> ∃j:Nat,j≤x.fH.length∧s5= .int .i64 j∧s3= .int .i64 (30*((T+j:Nat):Int))∧T+j≤10∧((x.fH.take j).any iL)=false∧Below w.heap.size w wr) (fun _ i _ _ _=>x.fH.length-(intOf i).toNat)
   case atStart=>exact⟨0,Nat.zero_le _,rfl,rfl,pE,rfl,hb⟩
   case round=>
    clear hb c1 pE;obtain⟨j,hj,rfl,rfl,htj,hr,hb⟩:=hrel;have Hr:=Qh hr;clear hr;have c1:=aV hb C1.O;by_cases uj:j<x.fH.length
    ·obtain⟨c,va,b2,mh,cap2,qm,OL,hg,h2⟩:=Rs H1.O hw j uj;cases OL;obtain⟨oa,ca,rfl,_,_,_⟩:=id h2;obtain⟨g0,g1,g2,g3,g4⟩:=hg.aR hb;have aG:=hb.alloc hb.size (.cells #[.int .i64 c.av,S c.aj,.slice oa c.ag.length ca,S c.target,S c.aI] 53);have kD:=Qh (OE hlt pM.O uj qm);have m1:IntKind.i64.wrap (30*((T+j:Nat):Int)+30)=30*((T+j:Nat):Int)+30:=IntWalk.i64_in _ (by omega);by_cases q1:250<c.aj.length
     ·have d1:decide ((250:Int)<(c.aj.length:Int))=true:=Qt (by omega);have Hn:=Qh (show fI l=1 from(kD.O (Xyi q1)));clear qm kD;go_wp2;go_ret;exact⟨dZ Hn.O.symm,aG⟩
     have d1:decide ((250:Int)<(c.aj.length:Int))=false:=Qf (by omega);by_cases q2:250<c.target.length
     ·have d2:decide ((250:Int)<(c.target.length:Int))=true:=Qt (by omega);have Hn:=Qh (show fI l=1 from(kD.O (Xyh q2)));clear qm kD;go_wp2;go_ret;exact⟨dZ Hn.O.symm,aG⟩
     have d2:decide ((250:Int)<(c.target.length:Int))=false:=Qf (by omega);by_cases q3:20<c.ag.length
     ·have d3:decide ((20:Int)<(c.ag.length:Int))=true:=Qt (by omega);have Hn:=Qh (show fI l=1 from(kD.O (Xyg q3)));clear qm kD;go_wp2;go_ret;exact⟨dZ Hn.O.symm,aG⟩
     have d3:decide ((20:Int)<(c.ag.length:Int))=false:=Qf (by omega);by_cases q4:600<c.aI.length
     ·have d4:decide ((600:Int)<(c.aI.length:Int))=true:=Qt (by omega);have Hn:=Qh (show fI l=1 from(kD.O (Xyf q4)));clear qm kD;go_wp2;go_ret;exact⟨dZ Hn.O.symm,aG⟩
     have d4:decide ((600:Int)<(c.aI.length:Int))=false:=Qf (by omega);have hto:=Ii.O;by_cases q5:T+j=10
     ·have d5:decide ((300:Int)<30*((T+j:Nat):Int)+30)=true:=Qt (by omega);have Hn:=Qh (show fI l=1 from(OG (by omega)));clear qm kD;go_wp2;go_ret;exact⟨dZ Hn.O.symm,aG⟩
     have d5:decide ((300:Int)<30*((T+j:Nat):Int)+30)=false:=Qf (by omega);have Hcc:=Qh (Xye q1 q2 q3 q4);have Hs5:=Qh (fun h=>Ru (p:=iL) uj qm Hr.O (Hcc.O h));have H2:=Qh h2;have HB:=Qh (show zG (wr.alloc (.cells #[.int .i64 c.av,S c.aj,.slice oa c.ag.length ca,S c.target,S c.aI] 53)) wr.heap.size c (.slice oa c.ag.length ca)from chgB_row (heap_alloc_new _ _));have ug:=h2.bL;obtain⟨n6,ui⟩:∃n6,n6=wr.heap.size:=⟨_,rfl⟩;rw[←ui]at HB;clear h2 qm q1 q2 q3 q4;go_wp2_with fail
     rw[←ui];clear ui hg g0 g1 g2 g3 g4;go_loopw [7] (fun s7 wr=> ∃m:Nat,m≤c.ag.length∧s7= .int .i64 m∧(c.ag.take m).any lK=false∧zG wr n6 c (.slice oa c.ag.length ca)∧Below w.heap.size w wr) (fun i _=>c.ag.length-(intOf i).toNat)
     case atStart=>exact⟨0,Nat.zero_le _,rfl,rfl,HB.O,aG⟩
     case round=>
      clear aG HB hb c1;obtain⟨m,hm,rfl,hr,hB,hb⟩:=hrel;have Ij:=Qh hr;have HB:=Qh hB;clear hr hB;obtain⟨g0,g1,g2,g3,g4⟩:=HB.O;by_cases QF:m<c.ag.length
      ·obtain⟨y,b3,xq,Ig,kK,OM,tq,rJ⟩:=yD H2.O hw m QF;cases OM;have y0:=aV hb tq;have y1:=aV hb rJ;have AB:=Qh (Ru (p:=lK) QF kK Ij.O);have TU:=Qh (Rt (p:=lK) QF kK);clear tq rJ kK;by_cases r1:80<y.k.length
       ·have e1:decide ((80:Int)<(y.k.length:Int))=true:=Qt (by omega);have Hn:=Qh (show fI l=1 from kD.O (TT (TU.O (by unfold lK;rw[Qt r1];rfl))));clear kD r1;go_wp2;go_ret;exact⟨dZ Hn.O.symm,hb⟩
       have e1:decide ((80:Int)<(y.k.length:Int))=false:=Qf (by omega);by_cases r2:80<y.v.length
       ·have e2:decide ((80:Int)<(y.v.length:Int))=true:=Qt (by omega);have Hn:=Qh (show fI l=1 from kD.O (TT (TU.O (by unfold lK;rw[Qt r2];simp))));clear kD r1 r2;go_wp2;go_ret;exact⟨dZ Hn.O.symm,hb⟩
       have e2:decide ((80:Int)<(y.v.length:Int))=false:=Qf (by omega);have Hn:=Qh (AB.O (by unfold lK;rw[Qf r1,Qf r2];rfl));clear r1 r2;go_wp2;go_roundw;case rel=>exact⟨m+1,by omega,by go_num,Hn.O,HB.O,hb⟩
       case measure=>simp[intOf];omega
      ·have Hn:=Qh (Hs5.O (by have:=Ij.O;rwa[List.take_of_length_le (by omega)]at this));go_wp2;go_roundw;case rel=>exact⟨j+1,by omega,by go_num,by simp;omega,by omega,Hn.O,hb⟩
       case measure=>simp[intOf];omega
    ·have GV:j=x.fH.length:=by omega
     subst GV;have h:=Hr.O;rw[List.take_length]at h;have Hn:=Qh (jq.O h);clear h;go_wp2;go_roundw;case rel=>exact⟨k+1,by omega,by go_num,by rw[OJ.O],by rw[OJ.O];exact htj,Hn.O,hb⟩
     case measure=>simp[intOf];omega
  ·have mJ:k=l.length:=by omega
   subst mJ;rw[List.take_length]at pE Hr;by_cases q:4<l.length
   ·have d1:decide ((4:Int)<(l.length:Int))=true:=Qt (by omega);have Hn:=Qh (OH q);go_wp2;go_ret;exact⟨dZ Hn.O.symm,hb⟩
   ·have d1:decide ((4:Int)<(l.length:Int))=false:=Qf (by omega);have Hn:=Qh (OI Hr.O pE (by omega));go_wp2;go_ret;exact⟨dZ Hn.O.symm,hb⟩
