/- Lemmas for the claim's theorem;conditions: as each says. -/
import Derived.Test.YtmdfjnhfhidmhaaGreatDoorJ38
set_option maxHeartbeats 0
set_option maxRecDepth 100000
set_option linter.all false
namespace Go.Proofs.YtmdfjnhfhidmhaaGreatDoor
open Go.RowKit
variable{J:IH}{w W:World}{I:IH}{W':World}{n:Nat}{zr:Array Value}{ty:TypeId}{w':World}{v:Value}{J':IH}{g b o:Nat}
theorem xg.ext{B:Nat}{d:ig}{ve vk vt vh:Value}(h:xg J w B d ve vk vt vh)(hb:Below w.heap.size w w')(hx:Ext w.heap.size J J')(iQ:Ok J' w'):xg J' w' B d ve vk vt vh:=
 ⟨iQ,(hx _ h.lt).trans h.no,h.rd.mono (fun b c hc=>hx.keep h.ok (Qn _) b c hc),(hb.block _ h.lt).trans h.row⟩
abbrev wqL(d dn:ig)(ve vk vt vh:Value)(b off n lc k:Nat)(c:jK)(va:Value)(rn:Int)(x:((Option Addr×Nat)×(Option Addr×Nat)×(Option Addr×Nat)×(Option Addr×Nat))×Nat):List (Option Tmp×Value):=
 [(some 33,gU d ve vk vt vh),(some 34,.slice (some ⟨b,off,none⟩) n lc),(some 35,.int .i64 (k:Int)),(some 36,.pointer (some ⟨b,off+k*5,none⟩)),(some 37,Be c va),(some 38,.tuple #[gU dn (.slice x.1.1.1 dn.aB.length x.1.1.2) (.slice x.1.2.1.1 dn.aU.aJ.length x.1.2.1.2) (.slice x.1.2.2.1.1 dn.aI.length x.1.2.2.1.2) (.slice x.1.2.2.2.1 dn.holds.length x.1.2.2.2.2),.int .i64 rn]),(some 32,.tuple #[gU dn (.slice x.1.1.1 dn.aB.length x.1.1.2) (.slice x.1.2.1.1 dn.aU.aJ.length x.1.2.1.2) (.slice x.1.2.2.1.1 dn.aI.length x.1.2.2.1.2) (.slice x.1.2.2.2.1 dn.holds.length x.1.2.2.2.2),.int .i64 rn]),(some 39,gU dn (.slice x.1.1.1 dn.aB.length x.1.1.2) (.slice x.1.2.1.1 dn.aU.aJ.length x.1.2.1.2) (.slice x.1.2.2.1.1 dn.aI.length x.1.2.2.1.2) (.slice x.1.2.2.2.1 dn.holds.length x.1.2.2.2.2)),(some 40,.int .i64 rn),(some 12,.pointer (some ⟨x.2,0,none⟩)),(none,undef),(some 13,.int .i64 rn)]
abbrev wsL(ai dt sp:Int)(so:Option Addr)(sc:Nat)(L L2:List dK)(d:ig)(ve vk vt vh:Value)(x:(Option Addr×Nat)×(Option Addr×Nat)×Nat):List (Option Tmp×Value):=
 [(some 48,qH ai dt sp (.slice so L.length sc)),(some 49,gU d ve vk vt vh),(some 50,Dj (vw d) (.slice x.1.1 (vw d).aB.length x.1.2)),(some 51,.tuple #[qH ai dt sp (.slice x.2.1.1 L2.length x.2.1.2),.int .i64 0]),(some 47,.tuple #[qH ai dt sp (.slice x.2.1.1 L2.length x.2.1.2),.int .i64 0]),(some 52,qH ai dt sp (.slice x.2.1.1 L2.length x.2.1.2)),(some 53,.int .i64 0),(some 14,.pointer (some ⟨x.2.2,0,none⟩)),(none,undef),(some 15,.int .i64 0)]
structure RgF {X:Type} (W:World) (j1 j2 j3 j4:Nat) (G1 G2 G3 G4:X→World→Prop) (x:X) (s:Array Bool) (w:World):Prop where
 off:Below W.heap.size W w
 f1:s.getD j1 false=true→G1 x w
 f2:s.getD j2 false=true→G2 x w
 f3:s.getD j3 false=true→G3 x w
 f4:s.getD j4 false=true→G4 x w
section
variable {X:Type} {W w w':World} {j1 j2 j3 j4:Nat} {G1 G2 G3 G4:X→World→Prop} {x:X} {s:Array Bool} {i:Nat}
end
structure Pt2 (W:World) (m1 m2:Nat) (R1 R2:Array Value) (s:Array Bool) (w:World):Prop where
 eq:w=if s.getD 3 false=true then(({W with drawn:=W.drawn+1}:World).setRow m1 R1).setRow m2 R2 else if s.getD 2 false=true then({W with drawn:=W.drawn+1}:World).setRow m1 R1 else{W with drawn:=W.drawn+1}
section
variable {W w:World} {m1 m2:Nat} {R1 R2:Array Value} {s:Array Bool} {i:Nat}
end
theorem one_row{α:Type}{T:Ty α}{E:TypeId}{cs:List Value}{x:α}(hw:Ok J W)(hg:W.heap[g]?=some (.cells cs.toArray E (0,0)))(hn:J g=none)(hx:T.rd J cs x):
 ∃J',(∀b c,J b=some c→J' b=some c)∧Ext g J J'∧Ok J' W∧(∀b,b≠g→J' b=J b)∧aZ T J' (.slice (some ⟨g,0,none⟩) 1 1) [x]:=by
 have kY:∀b c,J b=some c→(J.add g cs.toArray) b=some c:=fun b c hc=>by
  unfold IH.add;by_cases e:b=g
  ·subst e;rw[hn]at hc;cases hc
  ·rw[if_neg e];exact hc
 refine⟨J.add g cs.toArray,kY,Ext.add (Qn _) J _,hw.add hg,fun b hb=>by simp[IH.add,hb],⟨_,1,rfl,Qn _,by unfold maxLen;omega,fun _=>⟨g,0,cs.toArray,rfl,by simp[IH.add],fun i hi=> ?_⟩⟩⟩;have h0:i=0:=by simp at hi;omega
 subst h0;refine⟨cs,T.mono kY hx,fun j u hu=> ?_⟩;simpa using hu
theorem mH.own{w0:World}(h:mH I w0 J W)(hg:W.grownBy W' (some g))(hn:J g=none)(hl:w0.heap.size≤g):mH I w0 J W':=
 ⟨h.ok.grown hg (fun k e=>by injection e with e;subst e;exact hn),h.keep,h.eY.grown hg h.size (fun k e=>by injection e with e;omega)⟩
def rP(d:ig)(l:List jK):ig:=l.foldl (fun d c=>(iy d c).1) d
theorem Xpz(d:ig)(l:List jK){k:Nat}(hk:k<l.length){c:jK}(hc:l[k]=c):rP d (l.take (k+1))=(iy (rP d (l.take k)) c).1:=by
 unfold rP;rw[List.take_succ_eq_append_getElem hk,hc,List.foldl_append];rfl
def zA(aG:Int)(l:List jK):ig×Bool:=if gY [] aG≠0 then(zh,false)else(rP (jT [] aG) l,true)
structure zB (J:IH) (W:World) (n:Nat) (zr:Array Value) (ty:TypeId):Prop where
 no:J n=none
 row:W.heap[n]?=some (.cells zr ty (0,0))
theorem zB.lt(h:zB J W n zr ty):n<W.heap.size:=(Qg h.row)
theorem zB.quiet(h:zB J W n zr ty)(hb:Below W.heap.size W W'):zB J W' n zr ty:=⟨h.no,(hb.block _ h.lt).trans h.row⟩
theorem zB.ext(h:zB J W n zr ty)(hb:Below W.heap.size W W')(hx:Ext W.heap.size J J'):zB J' W' n zr ty:=⟨(hx _ h.lt).trans h.no,(hb.block _ h.lt).trans h.row⟩
theorem zB.own(h:zB J W n zr ty){g:Option Nat}(hg:W.grownBy W' g)(bn:some n≠g):zB J W' n zr ty:=⟨h.no,(hg.block _ h.lt bn).trans h.row⟩
def Tn(I:IH)(w:World)(d:ig)(b:Bool)(e:Ending)(w':World):Prop:=
 ∃ve vk vt vh J,e= .returned (.tuple #[gU d ve vk vt vh,.bool b])∧Below w.heap.size w w'∧Ext w.heap.size I J∧Ok J w'∧l5 J d ve vk vt vh
theorem Xrs(I:IH)(hI:eG I)(aG:Int)(vl:Value)(l:List jK)(hv:aZ Jh I vl l)(hc:∀c∈l,c.Wf∧c.aj.length≤1000000)(hl:l.length≤150)(w:World)(hw:Ok I w):
 Calls Tryz.prog 20 #[.int .i64 aG,vl] w (Tn I w (zA aG l).1 (zA aG l).2):=by
 have si:=Qh (show(Tryz.prog.info? 43).map (·.size)=some 9 by kernel_rfl);have A0:=Qh ((mH.start hw).past (.cells bE 43));have Z0:=Qh (show zB I (w.alloc (.cells bE 43)) w.heap.size bE 43 from⟨hw.fresh (Qn _),heap_alloc_new _ _⟩);have HG:=Qh hI;have Hc:=Qh hc;have Hv:=Qh hv;have hb:=Xns I hI 7 1 0 [] Rp (by decide) (by decide) (.slice none 0 0) (aZ.nil _ _) aG (w.alloc (.cells bE 43)) A0.O.ok;obtain⟨dB,eB,GH⟩:∃dB eB,vz [] aG=(dB,eB):=⟨_,_,rfl⟩;rw[GH]at hb;dsimp only at hb;have HB:=Qh hb;have Js:=Qh GH;obtain⟨ao,cap,rfl,_,_,_⟩:=id hv;clear hI hc hv hb GH;go_enter Tryz.func20,Tryz.ntmps20
 go_wp2_with fail
 refine(HB.O).mono ?_;rintro e1 w1 ⟨ve1,vk1,vt1,vh1,J1,rfl,aD,gu,aM,eU⟩;obtain⟨vS,vT,rfl,_,_,_⟩:=id eU.aB;obtain⟨vU,ck1,rfl,_,_,_⟩:=id eU.aJ;obtain⟨um,vV,rfl,_,_,_⟩:=id eU.aI;obtain⟨vW,vX,rfl,_,_,_⟩:=id eU.holds
 go_upto_region 2 with(
  refine kC rfl rfl 43 _ _ rfl w1.heap.size 0 (dz dB (.slice vS dB.aB.length vT) (.slice vU dB.aU.aJ.length ck1) (.slice um dB.aI.length vV) (.slice vW dB.holds.length vX)) (gU dB (.slice vS dB.aB.length vT) (.slice vU dB.aU.aJ.length ck1) (.slice um dB.aI.length vV) (.slice vW dB.holds.length vX)) (by simp[Act.eval]) (by simp[Act.eval]) (by rfl) bE 43 (heap_alloc_new _ _) (by simp) (by kernel_rfl) (by simp[Value.oneCell']) (dz dB (.slice vS dB.aB.length vT) (.slice vU dB.aU.aJ.length ck1) (.slice um dB.aI.length vV) (.slice vW dB.holds.length vX)).toArray (by rfl) ?_;intro w2 hg2 kD)
 have aL:Below w1.heap.size w1 w2:=((Qb _ _).alloc (Qn _) _).grown hg2 (by simp) (fun k e=>by injection e with e;omega);have Lj:J1 w1.heap.size=none:=aM.fresh (Qn _);have A2:=Qh ((A0.O.ext aD gu aM).quiet aL);have Z2:=Qh ((Z0.O.ext aD gu).quiet aL);have D2:=Qh (show xg J1 w2 w1.heap.size dB _ _ _ _ from⟨A2.O.ok,Lj,eU,kD⟩);have qj:=aD.size;simp only[World.size_alloc]at qj;have E2:=Qh (show Ext w.heap.size I J1 from gu.mono (by simp));clear aD gu aM eU hg2 kD aL Lj A0 Z0 HB;generalize w1.heap.size=B at D2 qj ⊢;by_cases q:gY [] aG=0;case neg=>
  obtain⟨e1,e2⟩:=Prod.mk.inj (Js.O.symm.trans (Xu0 q));have i1:(eB !=0)=true:=by rw[e2];simpa using q
  have Hn:=Qh (show zA aG l=(dB,false) by rw[zA,if_pos q,e1]);clear q Js e1 e2;obtain⟨b0,b1,b2,b3,b4,b5,b6,b7,b8⟩:=drB_row (d:=dB) D2.O.row;have NE:=Z2.O.row
  go_wp2_with (refine kC rfl rfl 43 _ _ rfl w.heap.size 0 (dz dB (.slice vS dB.aB.length vT) (.slice vU dB.aU.aJ.length ck1) (.slice um dB.aI.length vV) (.slice vW dB.holds.length vX)) (gU dB (.slice vS dB.aB.length vT) (.slice vU dB.aU.aJ.length ck1) (.slice um dB.aI.length vV) (.slice vW dB.holds.length vX)) (by simp[Act.eval]) (by simp[Act.eval]) (by rfl) bE 43 NE (by simp) (by kernel_rfl) (by simp[Value.oneCell']) (dz dB (.slice vS dB.aB.length vT) (.slice vU dB.aU.aJ.length ck1) (.slice um dB.aI.length vV) (.slice vW dB.holds.length vX)).toArray (by rfl) ?_
               intro w9 bP jX)
  refine bodyPost_ret (v:= .tuple #[gU dB (.slice vS dB.aB.length vT) (.slice vU dB.aU.aJ.length ck1) (.slice um dB.aI.length vV) (.slice vW dB.holds.length vX),.bool false]) ?_ rfl ?_
  ·rw[results_cell_tmp rfl];simp[asAddr,run_loadVar_row w9 w.heap.size 43 43 _ (0,0) _ jX Tryz.underlying43 rfl si.O]
  ·rw[Hn.O];exact⟨_,_,_,_,_,rfl,(A2.O.own bP Z2.O.no (Qn _)).eY,E2.O,(A2.O.own bP Z2.O.no (Qn _)).ok,D2.O.rd⟩
 obtain⟨e1,rfl⟩:=Prod.mk.inj (Js.O.symm.trans (Xs0 q));have He:=Qh e1;have Ad:=Qh (show lv 0 dB by rw[e1];exact YV Rp (by decide) (by decide) q);have Hn:=Qh (show zA aG l=(rP dB l,true) by rw[zA,if_neg (by rw[q];decide),e1]);clear q Js e1;obtain⟨b0,b1,b2,b3,b4,b5,b6,b7,b8⟩:=drB_row (d:=dB) D2.O.row;go_wp2_with fail
 clear b0 b1 b2 b3 b4 b5 b6 b7 b8;go_loopw [9,10,11,24] (fun _ _ _ s24 wr=> ∃(k:Nat) (J:IH) (ve vk vt vh:Value),k≤l.length∧s24= .int .i64 k∧mH I w J wr∧zB J wr w.heap.size bE 43∧xg J wr B (rP dB (l.take k)) ve vk vt vh∧lv k (rP dB (l.take k))∧Ext w.heap.size I J) (fun _ _ _ i _=>l.length-(intOf i).toNat)
 case atStart=>exact⟨0,J1,_,_,_,_,Nat.zero_le _,rfl,A2.O,Z2.O,D2.O,Ad.O,E2.O⟩
 case round=>
  clear A2 Z2 D2 Ad E2;obtain⟨k,J,ve,vk,vt,vh,hk,rfl,hA,hZ,hD,hdO,hE⟩:=hrel;have A:=Qh hA;have Z:=Qh hZ;have D:=Qh hD;have Ad:=Qh hdO;have E:=Qh hE;clear hA hZ hD hdO hE;obtain⟨ae,ce,rfl,_,_,_⟩:=id D.O.rd.aB;obtain⟨ak,ck,rfl,_,_,_⟩:=id D.O.rd.aJ;obtain⟨at',ct,rfl,_,_,_⟩:=id D.O.rd.aI;obtain⟨ah,ch,rfl,_,_,_⟩:=id D.O.rd.holds;by_cases hlt:k<l.length
  ·obtain⟨c,va,b,off,cap',JH,cZ,⟨c0,c1,c2,c3,c4⟩,fq⟩:=Xx1 (Hv.O.mono A.O.keep) A.O.ok k hlt;cases cZ;have fJ:=Hc.O c (by rw[←JH];exact List.getElem_mem hlt);have vY:=Qh (Xpz dB l hlt JH);obtain⟨d,hd⟩:∃d,rP dB (l.take k)=d:=⟨_,rfl⟩;rw[hd]at D Ad vY;have Jt:=Xvl Ad.O (by omega) fJ.1.aF;have NU:=Xmc d c;obtain⟨oa,ca,rfl,_,_,_⟩:=id fq;have Aa:=Qh (A.O.past (.cells #[.int .i64 c.au,S c.ag,.slice oa c.aj.length ca,S c.target,S c.aF] 25));have Za:=Qh (Z.O.quiet ((Qb _ _).alloc (Qn _) (.cells #[.int .i64 c.au,S c.ag,.slice oa c.aj.length ca,S c.target,S c.aF] 25)));have Da:=Qh (D.O.below ((Qb _ _).alloc (Qn _) (.cells #[.int .i64 c.au,S c.ag,.slice oa c.aj.length ca,S c.target,S c.aF] 25)));have ha:=Xve J (HG.O.mono A.O.keep) d Ad.O (by omega) _ _ _ _ D.O.rd c fJ.1 fJ.2 _ fq _ Aa.O.ok;obtain⟨dn,rn,DT⟩:∃dn rn,iy d c=(dn,rn):=⟨_,_,rfl⟩;rw[DT]at ha Jt NU vY;dsimp only at ha Jt NU vY;have Ha:=Qh ha;have Ij:=Qh (show rn≠0→dn=d from fun h=>NU.elim (fun q=>q.2) (fun q=>absurd q.1 h));have KU:=Qh Jt;have hsA:=A.O.size;obtain⟨b0,b1,b2,b3,b4,b5,b6,b7,b8⟩:=drB_row (d:=d) Da.O.row;clear fJ JH fq DT ha Jt NU A Z D Ad;go_wp2_with fail
   refine(Ha.O).mono ?_;rintro e5 w5 ⟨ve5,vk5,vt5,vh5,J5,rfl,bM,Ah,dL,mY⟩;obtain⟨zC,zD,rfl,_,_,_⟩:=id mY.aB;obtain⟨zF,zG,rfl,_,_,_⟩:=id mY.aJ;obtain⟨xM,zH,rfl,_,_,_⟩:=id mY.aI;obtain⟨zI,zJ,rfl,_,_,_⟩:=id mY.holds
   go_upto_region 8 with(
    refine kC rfl rfl 43 _ _ rfl w5.heap.size 0 (dz dn (.slice zC dn.aB.length zD) (.slice zF dn.aU.aJ.length zG) (.slice xM dn.aI.length zH) (.slice zI dn.holds.length zJ)) (gU dn (.slice zC dn.aB.length zD) (.slice zF dn.aU.aJ.length zG) (.slice xM dn.aI.length zH) (.slice zI dn.holds.length zJ)) (by simp[Act.eval]) (by simp[Act.eval]) (by rfl) bE 43 (heap_alloc_new _ _) (by simp) (by kernel_rfl) (by simp[Value.oneCell']) (dz dn (.slice zC dn.aB.length zD) (.slice zF dn.aU.aJ.length zG) (.slice xM dn.aI.length zH) (.slice zI dn.holds.length zJ)).toArray (by rfl) ?_;intro w6 Cz tC)
   have fF:Below w5.heap.size w5 w6:=((Qb _ _).alloc (Qn _) _).grown Cz (by simp) (fun k e=>by injection e with e;omega);have VW:J5 w5.heap.size=none:=dL.fresh (Qn _);have A6:=Qh ((Aa.O.ext bM Ah dL).quiet fF);have Z6:=Qh ((Za.O.ext bM Ah).quiet fF);have D6:=Qh ((Da.O.ext bM Ah dL).below fF);have Lh:=bM.size;simp only[World.size_alloc]at Lh;have E6:=Qh (show Ext w.heap.size I J5 from E.O.trans Ah (by simp;omega));have HR:=Qh (show l5 J5 dn _ _ _ _ from mY);have hBl:=Da.O.lt;simp only[World.size_alloc]at hBl;clear bM Ah dL mY Cz fF VW Aa Za Da Ha b0 b1 b2 b3 b4 b5 b6 b7 b8 c0 c1 c2 c3 c4;by_cases h0:rn=0
   ·subst h0;obtain⟨b0,b1,b2,b3,b4,b5,b6,b7,b8⟩:=drB_row (d:=dn) tC;have hDr:=D6.O.row
    go_wp2_with (refine kC rfl rfl 43 _ _ rfl B 0 (dz dn (.slice zC dn.aB.length zD) (.slice zF dn.aU.aJ.length zG) (.slice xM dn.aI.length zH) (.slice zI dn.holds.length zJ)) (gU dn (.slice zC dn.aB.length zD) (.slice zF dn.aU.aJ.length zG) (.slice xM dn.aI.length zH) (.slice zI dn.holds.length zJ)) (by simp[Act.eval]) (by simp[Act.eval]) (by rfl) _ 43 hDr (by simp) (by kernel_rfl) (by simp[Value.oneCell']) (dz dn (.slice zC dn.aB.length zD) (.slice zF dn.aU.aJ.length zG) (.slice xM dn.aI.length zH) (.slice zI dn.holds.length zJ)).toArray (by rfl) ?_
                 intro w7 gL nM)
    go_roundw;case rel=>exact⟨k+1,J5,_,_,_,_,by omega,by go_num,A6.O.own gL D6.O.no (by omega),Z6.O.own gL (fun e=>by injection e with e;omega),by rw[vY.O];exact⟨(A6.O.own gL D6.O.no (by omega)).ok,D6.O.no,HR.O,nM⟩,by rw[vY.O];exact KU.O,E6.O⟩
    case measure=>simp[intOf];omega
   ·have i1:(rn==0)=false:=by simpa using h0
    have Hdd:=Qh (Ij.O h0);clear h0 tC;go_wp2_with fail
    go_roundw;case rel=>exact⟨k+1,J5,_,_,_,_,by omega,by go_num,A6.O,Z6.O,by rw[vY.O,Hdd.O];exact D6.O,by rw[vY.O];exact KU.O,E6.O⟩
    case measure=>simp[intOf];omega
  ·have nY:k=l.length:=by omega
   subst nY;rw[List.take_length]at D;obtain⟨d,hd⟩:∃d,rP dB l=d:=⟨_,rfl⟩;rw[hd]at D Hn;clear hd Ad;obtain⟨b0,b1,b2,b3,b4,b5,b6,b7,b8⟩:=drB_row (d:=d) D.O.row;have NE:=Z.O.row
   go_wp2_with (refine kC rfl rfl 43 _ _ rfl w.heap.size 0 (dz d (.slice ae d.aB.length ce) (.slice ak d.aU.aJ.length ck) (.slice at' d.aI.length ct) (.slice ah d.holds.length ch)) (gU d (.slice ae d.aB.length ce) (.slice ak d.aU.aJ.length ck) (.slice at' d.aI.length ct) (.slice ah d.holds.length ch)) (by simp[Act.eval]) (by simp[Act.eval]) (by rfl) bE 43 NE (by simp) (by kernel_rfl) (by simp[Value.oneCell']) (dz d (.slice ae d.aB.length ce) (.slice ak d.aU.aJ.length ck) (.slice at' d.aI.length ct) (.slice ah d.holds.length ch)).toArray (by rfl) ?_
                intro w9 bP jX)
   refine bodyPost_ret (v:= .tuple #[gU d (.slice ae d.aB.length ce) (.slice ak d.aU.aJ.length ck) (.slice at' d.aI.length ct) (.slice ah d.holds.length ch),.bool true]) ?_ rfl ?_
   ·rw[results_cell_tmp rfl];simp[asAddr,run_loadVar_row w9 w.heap.size 43 43 _ (0,0) _ jX Tryz.underlying43 rfl si.O]
   ·rw[Hn.O];exact⟨_,_,_,_,_,rfl,(A.O.own bP Z.O.no (Qn _)).eY,E.O,(A.O.own bP Z.O.no (Qn _)).ok,D.O.rd⟩
abbrev nU(a:Acc):List Value:=[S a.owner,.int .i64 a.b,.int .i64 a.f,.int .i64 a.ub,.int .i64 a.uf]
abbrev Dz(a:Acc):Value:= .agg #[S a.owner,.int .i64 a.b,.int .i64 a.f,.int .i64 a.ub,.int .i64 a.uf]
def iY:Ty Acc:=Ty.flat 5 nU (fun _=>rfl) (fun _ u h=>by simp at h;rcases h with rfl|rfl|rfl|rfl|rfl<;>rfl)
structure CG (w:World) (b o:Nat) (a:Acc):Prop where
 c0:w.cell? ⟨b,o,none⟩=some (S a.owner)
 c1:w.cell? ⟨b,o+1,none⟩=some (.int .i64 a.b)
 c2:w.cell? ⟨b,o+2,none⟩=some (.int .i64 a.f)
 c3:w.cell? ⟨b,o+3,none⟩=some (.int .i64 a.ub)
 c4:w.cell? ⟨b,o+4,none⟩=some (.int .i64 a.uf)
theorem CG.aQ{a:Acc}(h:CG w b o a)(hb:Below w.heap.size w w'):CG w' b o a:=
 ⟨bK hb h.c0,bK hb h.c1,bK hb h.c2,bK hb h.c3,bK hb h.c4⟩
theorem Ju{l:List Acc}(h:aZ iY I v l)(hw:Ok I w)(i:Nat)(hi:i<l.length):∃x b off cap,l[i]=x∧v= .slice (some ⟨b,off,none⟩) l.length cap∧CG w b (off+i*5) x:=by
 obtain⟨b,off,cap,cs,hv,fE,hc⟩:=h.at_ hw hi;have fE:cs=nU l[i]:=fE;subst fE;exact⟨_,b,off,cap,rfl,hv,⟨hc 0 _ rfl,hc 1 _ rfl,hc 2 _ rfl,hc 3 _ rfl,hc 4 _ rfl⟩⟩
structure Acc.In (a:Acc):Prop where
 own:a.owner.length≤9223372036854775807
 b0: -9223372036854775808≤a.b
 b1:a.b≤9223372036854775807
 f0: -9223372036854775808≤a.f
 f1:a.f≤9223372036854775807
 Vj: -9223372036854775808≤a.ub
 Vk:a.ub≤9223372036854775807
 Vl: -9223372036854775808≤a.uf
 Vm:a.uf≤9223372036854775807
abbrev uw(r:jG)(va:Value):List Value:=[S r.owner,.int .i64 r.c.au,S r.c.ag,va,S r.c.target,S r.c.aF]
abbrev KV(r:jG)(va:Value):Value:= .agg #[S r.owner,.int .i64 r.c.au,S r.c.ag,va,S r.c.target,S r.c.aF]
def CJ:Ty jG where
 size:=6
 rd:=fun I cs r=> ∃va,cs=uw r va∧aZ lD I va r.c.aj
 len:=fun⟨_,h,_⟩=>by rw[h];rfl
 one:=fun⟨va,h,h1⟩ u hu=>by
  rw[h]at hu;simp at hu;rcases hu with rfl|rfl|rfl|rfl|rfl|rfl<;>first|rfl|exact h1.one
 mono:=fun hI ⟨va,h,h1⟩=>⟨va,h,h1.mono hI⟩
structure Jv (w:World) (b o:Nat) (r:jG) (va:Value):Prop where
 c0:w.cell? ⟨b,o,none⟩=some (S r.owner)
 c1:w.cell? ⟨b,o+1,none⟩=some (.int .i64 r.c.au)
 c2:w.cell? ⟨b,o+2,none⟩=some (S r.c.ag)
 c3:w.cell? ⟨b,o+3,none⟩=some va
 c4:w.cell? ⟨b,o+4,none⟩=some (S r.c.target)
 c5:w.cell? ⟨b,o+5,none⟩=some (S r.c.aF)
theorem Jv.aQ{r:jG}{va:Value}(h:Jv w b o r va)(hb:Below w.heap.size w w'):Jv w' b o r va:=
 ⟨bK hb h.c0,bK hb h.c1,bK hb h.c2,bK hb h.c3,bK hb h.c4,bK hb h.c5⟩
theorem NF{l:List jG}(h:aZ CJ I v l)(hw:Ok I w)(i:Nat)(hi:i<l.length):∃x va b off cap,l[i]=x∧v= .slice (some ⟨b,off,none⟩) l.length cap∧
 Jv w b (off+i*6) x va∧aZ lD I va x.c.aj:=by
 obtain⟨b,off,cap,cs,hv,⟨va,fE,h1⟩,hc⟩:=h.at_ hw hi;subst fE;exact⟨_,va,b,off,cap,rfl,hv,⟨hc 0 _ rfl,hc 1 _ rfl,hc 2 _ rfl,hc 3 _ rfl,hc 4 _ rfl,hc 5 _ rfl⟩,h1⟩
structure jG.In (r:jG):Prop where
 own:r.owner.length≤1048576
 k0: -9223372036854775808≤r.c.au
 k1:r.c.au≤9223372036854775807
 ag:r.c.ag.length≤1048576
 target:r.c.target.length≤1048576
 Bf:r.c.aj.length≤1048576
 aF:r.c.aF.length≤1048576
 aj:∀x∈r.c.aj,x.k.length≤1048576∧x.v.length≤1048576
theorem Xmn(a:Acc)(W:World):(binOp .neq 54 (Dz a) (Dz a)).run Tryz.prog W= .ok (.bool false) W:=by
 rw[PX _ _ [(9,0,false),(3,1,false),(3,2,false),(3,3,false),(3,4,false)] W (by kernel_rfl) (by kernel_rfl) (by kernel_rfl)];simp[go_sem]
abbrev lT:Ty Int:=PU .i64
theorem Xxm{l:List Int}(h:aZ lT I v l)(hw:Ok I w)(i:Nat)(hi:i<l.length):∃s b off cap,l[i]=s∧v= .slice (some ⟨b,off,none⟩) l.length cap∧w.cell? ⟨b,off+i,none⟩=some (.int .i64 s):=by
 obtain⟨b,off,cap,cs,hv,fE,hc⟩:=h.at_ hw hi;have fE:cs=[.int .i64 l[i]]:=fE;subst fE;have:=hc 0 _ rfl;exact⟨_,b,off,cap,rfl,hv,by simpa[lT,PU,Ty.flat]using this⟩
theorem Xty(I:IH)(v1 v2:Value)(l:List _)(nC:aZ iY I v1 l)(qK:aZ iY I v2 l)(w:World)(hw:Ok I w):
 Calls Tryz.prog 19 #[v1,v2] w fun e w'=>e= .returned (.bool true)∧Below w.heap.size w w':=by
 have hlen:=nC.bF;obtain⟨ao,cap,rfl,dO,fJ,_⟩:=id nC;obtain⟨pF,cap2,rfl,oU,qJ,_⟩:=id qK;have Ih:=Qh nC;clear nC;have Ii:=Qh qK;clear qK;go_enter Tryz.func19,Tryz.ntmps19
 go_wp2_with fail
 go_loopw [5] (fun s5 wr=> ∃k:Nat,k≤l.length∧s5= .int .i64 k∧Below w.heap.size w wr) (fun i _=>l.length-(intOf i).toNat)
 case atStart=>exact⟨0,Nat.zero_le _,rfl,Qb _ _⟩
 case round=>
  obtain⟨k,hk,rfl,hb⟩:=hrel;by_cases hlt:k<l.length
  ·have dG:Ok I wr:=hw.below (Qn _) hb;obtain⟨x,b,off,cap',dA,cZ,hX⟩:=Ju Ih.O dG k hlt;cases cZ;obtain⟨y,b',off',nQ,ky,cZ,hY⟩:=Ju Ii.O dG k hlt;cases cZ;obtain rfl:x=y:=dA.symm.trans ky;have hq:=Xmn x;have c0:=cell_regrown hX.c0;have c1:=cell_regrown hX.c1;have c2:=cell_regrown hX.c2;have c3:=cell_regrown hX.c3;have c4:=cell_regrown hX.c4;have d0:=cell_regrown hY.c0;have d1:=cell_regrown hY.c1;have d2:=cell_regrown hY.c2;have d3:=cell_regrown hY.c3;have d4:=cell_regrown hY.c4;clear dA ky hX hY;go_wp2_with fail
   refine wp_region_quiet_below (by kernel_rfl) (by kernel_rfl) ?_;repeat(go_big_quiet_step ((fail)))
   refine wpQuiet_nil ?_;intro w2 bq;have aL:Below (wr).heap.size (wr) w2:=by
    obtain⟨pq,rfl⟩:=bq;exact below_regrown _ _ _
   clear bq;go_wp2;go_roundw;case rel=>exact⟨k+1,by omega,by go_num,hb.trans (aL.mono hb.size)⟩
   case measure=>simp[intOf];omega
  ·go_wp2;go_ret;exact⟨rfl,hb⟩
theorem Xeh(I:IH)(v1 v2:Value)(l:List _)(nC:aZ lT I v1 l)(qK:aZ lT I v2 l)(w:World)(hw:Ok I w):
 Calls Tryz.prog 24 #[v1,v2] w fun e w'=>e= .returned (.bool true)∧Below w.heap.size w w':=by
 have hlen:=nC.bF;obtain⟨ao,cap,rfl,dO,fJ,_⟩:=id nC;obtain⟨pF,cap2,rfl,oU,qJ,_⟩:=id qK;have Ih:=Qh nC;clear nC;have Ii:=Qh qK;clear qK;go_enter Tryz.func24,Tryz.ntmps24
 go_wp2_with fail
 go_loopw [5] (fun s5 wr=> ∃k:Nat,k≤l.length∧s5= .int .i64 k∧Below w.heap.size w wr) (fun i _=>l.length-(intOf i).toNat)
 case atStart=>exact⟨0,Nat.zero_le _,rfl,Qb _ _⟩
 case round=>
  obtain⟨k,hk,rfl,hb⟩:=hrel;by_cases hlt:k<l.length
  ·have dG:Ok I wr:=hw.below (Qn _) hb;obtain⟨x,b,off,cap',dA,cZ,hX⟩:=Xxm Ih.O dG k hlt;cases cZ;obtain⟨y,b',off',nQ,ky,cZ,hY⟩:=Xxm Ii.O dG k hlt;cases cZ;obtain rfl:x=y:=dA.symm.trans ky;have c0:=cell_regrown hX;have d0:=cell_regrown hY;clear dA ky hX hY;go_wp2_with fail
   refine wp_region_quiet_below (by kernel_rfl) (by kernel_rfl) ?_;repeat(go_big_quiet_step ((fail)))
   refine wpQuiet_nil ?_;intro w2 bq;have aL:Below (wr).heap.size (wr) w2:=by
    obtain⟨pq,rfl⟩:=bq;exact below_regrown _ _ _
   clear bq;go_wp2;go_roundw;case rel=>exact⟨k+1,by omega,by go_num,hb.trans (aL.mono hb.size)⟩
   case measure=>simp[intOf];omega
  ·go_wp2;go_ret;exact⟨rfl,hb⟩
theorem Xv1(I:IH)(c:jK)(va:Value)(fq:aZ lD I va c.aj)(w:World):
 Calls Tryz.prog 51 #[Be c va] w fun r w'=>r= .returned (.tuple #[.int .i64 (dF c),.int .i64 (dZ c)])∧Below w.heap.size w w':=by
 obtain⟨aa,ca,rfl,_,_,_⟩:=id fq;clear fq;by_cases q1:c.au=1
 ·have h1:(c.au==1)=true:=by simp[q1]
  have Hn:=Qh (show dF c=(c.aF.length:Int)∧dZ c=1 from⟨by unfold dF;rw[if_pos q1],by unfold dZ;rw[if_pos (.inl q1)]⟩);clear q1;go_enter Tryz.func51,Tryz.ntmps51
  go_wp2;go_ret2;exact⟨by rw[Hn.O.1,Hn.O.2];rfl,(Qb w.heap.size w).alloc (Qn _) _⟩
 ·have h1:(c.au==1)=false:=by simp[q1]
  by_cases q2:c.au=2
  ·have h2:(c.au==2)=true:=by simp[q2]
   have Hn:=Qh (show dF c=0∧dZ c=1 from⟨by unfold dF;rw[if_neg q1],by unfold dZ;rw[if_pos (.inr (.inl q2))]⟩);clear q1 q2;go_enter Tryz.func51,Tryz.ntmps51
   go_wp2;go_ret2;exact⟨by rw[Hn.O.1,Hn.O.2];rfl,(Qb w.heap.size w).alloc (Qn _) _⟩
  ·have h2:(c.au==2)=false:=by simp[q2]
   by_cases q3:c.au=3
   ·have h3:(c.au==3)=true:=by simp[q3]
    have Hn:=Qh (show dF c=0∧dZ c=1 from⟨by unfold dF;rw[if_neg q1],by unfold dZ;rw[if_pos (.inr (.inr q3))]⟩);clear q1 q2 q3;go_enter Tryz.func51,Tryz.ntmps51
    go_wp2;go_ret2;exact⟨by rw[Hn.O.1,Hn.O.2];rfl,(Qb w.heap.size w).alloc (Qn _) _⟩
   ·have h3:(c.au==3)=false:=by simp[q3]
    have Hn:=Qh (show dF c=0∧dZ c=0 from⟨by unfold dF;rw[if_neg q1],by unfold dZ;rw[if_neg (by omega)]⟩);clear q1 q2 q3;go_enter Tryz.func51,Tryz.ntmps51
    go_wp2;go_ret2;exact⟨by rw[Hn.O.1,Hn.O.2];rfl,(Qb w.heap.size w).alloc (Qn _) _⟩
theorem Xtz(I:IH)(c:jK)(va:Value)(fq:aZ lD I va c.aj)(w:World):
 Calls Tryz.prog 53 #[Be c va] w fun r w'=>r= .returned (.tuple #[.int .i64 (dF c),.int .i64 (dZ c)])∧Below w.heap.size w w':=by
 obtain⟨aa,ca,rfl,_,_,_⟩:=id fq;clear fq;by_cases q1:c.au=1
 ·have h1:(c.au==1)=true:=by simp[q1]
  have Hn:=Qh (show dF c=(c.aF.length:Int)∧dZ c=1 from⟨by unfold dF;rw[if_pos q1],by unfold dZ;rw[if_pos (.inl q1)]⟩);clear q1;go_enter Tryz.func53,Tryz.ntmps53
  go_wp2;go_ret2;exact⟨by rw[Hn.O.1,Hn.O.2];rfl,(Qb w.heap.size w).alloc (Qn _) _⟩
 ·have h1:(c.au==1)=false:=by simp[q1]
  by_cases q2:c.au=2
  ·have h2:(c.au==2)=true:=by simp[q2]
   have Hn:=Qh (show dF c=0∧dZ c=1 from⟨by unfold dF;rw[if_neg q1],by unfold dZ;rw[if_pos (.inr (.inl q2))]⟩);clear q1 q2;go_enter Tryz.func53,Tryz.ntmps53
   go_wp2;go_ret2;exact⟨by rw[Hn.O.1,Hn.O.2];rfl,(Qb w.heap.size w).alloc (Qn _) _⟩
  ·have h2:(c.au==2)=false:=by simp[q2]
   by_cases q3:c.au=3
   ·have h3:(c.au==3)=true:=by simp[q3]
    have Hn:=Qh (show dF c=0∧dZ c=1 from⟨by unfold dF;rw[if_neg q1],by unfold dZ;rw[if_pos (.inr (.inr q3))]⟩);clear q1 q2 q3;go_enter Tryz.func53,Tryz.ntmps53
    go_wp2;go_ret2;exact⟨by rw[Hn.O.1,Hn.O.2];rfl,(Qb w.heap.size w).alloc (Qn _) _⟩
   ·have h3:(c.au==3)=false:=by simp[q3]
    have Hn:=Qh (show dF c=0∧dZ c=0 from⟨by unfold dF;rw[if_neg q1],by unfold dZ;rw[if_neg (by omega)]⟩);clear q1 q2 q3;go_enter Tryz.func53,Tryz.ntmps53
    go_wp2;go_ret2;exact⟨by rw[Hn.O.1,Hn.O.2];rfl,(Qb w.heap.size w).alloc (Qn _) _⟩
