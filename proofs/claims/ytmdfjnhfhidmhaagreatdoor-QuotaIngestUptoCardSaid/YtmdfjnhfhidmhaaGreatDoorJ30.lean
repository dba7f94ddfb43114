/- Lemmas for the claim's theorem;conditions: as each says. -/
import Derived.Test.YtmdfjnhfhidmhaaGreatDoorJ29
set_option maxHeartbeats 0
set_option maxRecDepth 100000
set_option linter.all false
namespace Go.Proofs.YtmdfjnhfhidmhaaGreatDoor
open Go.RowKit
variable{vk:Value}{w:World}{b:Nat}{e:aT}{q:fM}{d:ig}{t:TypeId}{n:Nat}
structure l5 (I:IH) (d:ig) (ve vk vt vh:Value):Prop where
 aB:aZ bQ I ve d.aB
 aJ:aZ qf I vk d.aU.aJ
 aI:aZ bQ I vt d.aI
 holds:aZ jB I vh d.holds
theorem l5.mono{I J:IH}{ve vt vh:Value}(hI:∀b c,I b=some c→J b=some c)(h:l5 I d ve vk vt vh):l5 J d ve vk vt vh:=
 ⟨h.aB.mono hI,h.aJ.mono hI,h.aI.mono hI,h.holds.mono hI⟩
def zu(I:IH)(w:World)(d:ig)(n:Int)(e:Ending)(w':World):Prop:=
 ∃ve vk vt vh J,e= .returned (.tuple #[gU d ve vk vt vh,.int .i64 n])∧Below w.heap.size w w'∧Ext w.heap.size I J∧Ok J w'∧l5 J d ve vk vt vh
abbrev bE:Array Value:=#[.int .i64 0,.int .i64 0,.string ⟨#[]⟩,.slice none 0 0,.slice none 0 0,.int .i64 0,.string ⟨#[]⟩,.slice none 0 0,.slice none 0 0]
abbrev dz(d:ig)(ve vk vt vh:Value):List Value:=[.int .i64 d.num,.int .i64 d.aG,S d.bR,ve,vk,.int .i64 d.aU.aV,S d.aU.str,vt,vh]
theorem entB_row{va vx:Value}(h:w.heap[b]?=some (.cells (jQ e va vx) t (0,0))):bB w b e va vx:=
 ⟨(cell_of_row _ _ 0 _ _ _ h).trans rfl,(cell_of_row _ _ 1 _ _ _ h).trans rfl,(cell_of_row _ _ 2 _ _ _ h).trans rfl,(cell_of_row _ _ 3 _ _ _ h).trans rfl,(cell_of_row _ _ 4 _ _ _ h).trans rfl,(cell_of_row _ _ 5 _ _ _ h).trans rfl,(cell_of_row _ _ 6 _ _ _ h).trans rfl⟩
structure FK (w:World) (n:Nat) (q:fM) (vk:Value):Prop where
 c0:w.cell? ⟨n,0,none⟩=some vk
 c1:w.cell? ⟨n,1,none⟩=some (.int .i64 q.aV)
 c2:w.cell? ⟨n,2,none⟩=some (S q.str)
theorem FK.aQ{w':World}(h:FK w b q vk)(hb:Below w.heap.size w w'):FK w' b q vk:=⟨bK hb h.c0,bK hb h.c1,bK hb h.c2⟩
theorem stoB_row(h:w.heap[b]?=some (.cells #[vk,.int .i64 q.aV,S q.str] t (0,0))):FK w b q vk:=
 ⟨(cell_of_row _ _ 0 _ _ _ h).trans rfl,(cell_of_row _ _ 1 _ _ _ h).trans rfl,(cell_of_row _ _ 2 _ _ _ h).trans rfl⟩
theorem Xev(w:World)(a b c:Array Value)(ta tb tc:TypeId)(W:World)(hW:((w.alloc (.cells a ta)).alloc (.cells b tb)).alloc (.cells c tc)=W):
 W.heap.size=w.heap.size+3∧W.heap[w.heap.size]?=some (.cells a ta (0,0))∧W.heap[w.heap.size+1]?=some (.cells b tb (0,0))∧W.heap[w.heap.size+2]?=some (.cells c tc (0,0)):=by
 subst hW;refine⟨by simp,?_,?_,?_⟩
 ·exact(Below.heap_alloc _ _ _ (by simp;omega)).trans ((Below.heap_alloc _ _ _ (by simp)).trans (heap_alloc_new w _))
 ·have h:=heap_alloc_new (w.alloc (.cells a ta)) (.cells b tb);rw[World.size_alloc]at h;exact(Below.heap_alloc _ _ _ (by simp)).trans h
 ·have h:=heap_alloc_new ((w.alloc (.cells a ta)).alloc (.cells b tb)) (.cells c tc);rwa[World.size_alloc,World.size_alloc]at h
theorem Xs8{c:jK}(h:fI d.aU c=(e,q)):iy d c=
 if aP e≠0 then(d,aP e)else if c.au≠1∧c.aF≠[]then(d,1)else if 400≤d.aB.length∨14680064<q.str.length then(d,6)
 else if(gq d.stt e d.aG).2≠0 then(d,(gq d.stt e d.aG).2)
 else(⟨d.num,d.aG,d.bR,d.aB++[e],q,(gq d.stt e d.aG).1.aI,(gq d.stt e d.aG).1.holds⟩,0):=by
 unfold iy;rw[h]
structure Eg (I:IH) (w0:World) (d:ig) (ve vk vt vh:Value) (c:jK) (va:Value) (e:aT) (xa xx:Value) (q:fM) (vq:Value) (n6 n7:Nat) (J:IH) (W:World):Prop where
 at_:mH I w0 J W
 ext:Ext w0.heap.size I J
 no:J (w0.heap.size+2)=none
 VL:J w0.heap.size=none
 dr:W.heap[w0.heap.size]?=some (.cells (dz d ve vk vt vh).toArray 43 (0,0))
 cg:FJ W (w0.heap.size+1) c va
 O:W.heap[w0.heap.size+2]?=some (.cells bE 43 (0,0))
 en:bB W n6 e xa xx
 st:FK W n7 q vq
 ra:aZ lD J xa e.aj
 rx:aZ lY J xx e.aA
 rq:aZ qf J vq q.aJ
section
variable {I:IH} {w0:World} {d:ig} {ve vk vt vh:Value} {c:jK} {va:Value} {e:aT} {xa xx:Value} {q:fM} {vq:Value} {n6 n7:Nat} {J J':IH} {W W':World}
theorem Eg.aQ(h:Eg I w0 d ve vk vt vh c va e xa xx q vq n6 n7 J W)(hb:Below W.heap.size W W')(hx:Ext W.heap.size J J')(iQ:Ok J' W'):Eg I w0 d ve vk vt vh c va e xa xx q vq n6 n7 J' W':=by
 have hk:=hx.keep h.at_.ok (Qn _);have hs:=h.at_.size;have hlt:=(Qg h.O);exact⟨h.at_.ext hb hx iQ,h.ext.trans hx hs,(hx _ hlt).trans h.no,(hx _ (Qg h.dr)).trans h.VL,(hb.block _ (Qg h.dr)).trans h.dr,h.cg.aQ hb,(hb.block _ hlt).trans h.O,h.en.aQ hb,h.st.aQ hb,h.ra.mono hk,h.rx.mono hk,h.rq.mono hk⟩
theorem Eg.quiet(h:Eg I w0 d ve vk vt vh c va e xa xx q vq n6 n7 J W)(hb:Below W.heap.size W W'):Eg I w0 d ve vk vt vh c va e xa xx q vq n6 n7 J W':=h.aQ hb (Ext.refl _ _) (h.at_.ok.below (Qn _) hb)
theorem Eg.ret(h:Eg I w0 d ve vk vt vh c va e xa xx q vq n6 n7 J W)(hr:l5 I d ve vk vt vh){w9:World}(hg:W.grownBy w9 (some (w0.heap.size+2))){p:ig×Int}{r:Int}(hp:p=(d,r)):
 zu I w0 p.1 p.2 (.returned (.tuple #[gU d ve vk vt vh,.int .i64 r])) w9:=by
 subst hp;exact⟨ve,vk,vt,vh,J,rfl,h.at_.eY.grown hg h.at_.size (fun k e=>by cases e;omega),h.ext,h.at_.ok.grown hg (fun g e=>by cases e;exact h.no),hr.mono h.at_.keep⟩
end
abbrev KN(n m le FL cp:Nat)(ao:Option Addr)(e:aT)(xa xx:Value)(x:(Option Addr×Nat)×Nat×(Option Addr×Nat)):List (Option Tmp×Value):=
 [(some 80,.pointer (some ⟨n,3,none⟩)),(some 81,.slice ao le cp),(some 82,.slice x.1.1 le x.1.2),(some 83,gN e xa xx),(some 84,.slice (some ⟨x.2.1,0,none⟩) 1 1),(some 85,.slice x.2.2.1 FL x.2.2.2),(some 86,.pointer (some ⟨m,3,none⟩)),(none,undef)]
theorem Nl{m le FL cp:Nat}{ao:Option Addr}{xa xx:Value}{x:(Option Addr×Nat)×Nat×(Option Addr×Nat)}:cO (KN n m le FL cp ao e xa xx x):=by
 unfold cO;simp
theorem Xve(I:IH)(hI:eG I)(d:ig)(hd:lv n d)(hn:n≤150)(ve vk vt vh:Value)(hr:l5 I d ve vk vt vh)(c:jK)(hc:c.Wf)(Ap:c.aj.length≤1000000)(va:Value)(fq:aZ lD I va c.aj)(w:World)(hw:Ok I w):
 Calls Tryz.prog 33 #[gU d ve vk vt vh,Be c va] w (zu I w (iy d c).1 (iy d c).2):=by
 have Eh:=hd.aU (by omega);have Nn:=Qh (fun w hw=>Xqq I hI d.aU vk hr.aJ Eh (by have:=hd.aJ;omega) c va fq hc Ap w hw);have l7:=Vg Eh hc;have ni:=Xis d.aU c;obtain⟨e,q,oZ⟩:∃e q,fI d.aU c=(e,q):=⟨_,_,rfl⟩;have fo:=Qh (Xs8 oZ);rw[oZ]at Nn l7 ni;dsimp only at l7 ni;have nV:e.ag.length≤4294967280:=by rw[ni.2.1];exact hc.ag
 have xh:e.target.length≤4294967280:=by rw[ni.2.2.2];exact hc.target
 have jk:=hd.st;have FM:=Qh (fun J (hk:∀b c,I b=some c→J b=some c) xa xx zT zw w hw=>Xol J (hI.mono hk) vt d.aI (hr.aI.mono hk) jk.IX jk.ok.aI.BN (by have:=jk.ok.C8;show d.stt.aI.length≤_;omega) e xa xx zT zw l7 nV xh w hw);have Hfb:=Qh (fun J (hk:∀b c,I b=some c→J b=some c) xa xx zT zw (h1:1≤e.au) w hw=>Xks J (hI.mono hk) d ve vk vt vh (hr.aI.mono hk) (hr.holds.mono hk) jk.ok.holds (by have:=jk.ok.hlen;show d.stt.holds.length≤_;omega) e xa xx zT zw h1 nV w hw);have kK:=Qh (fun J (hk:∀b c,I b=some c→J b=some c) xa xx zT zw (h1:aP e=0) w hw=>Xnw J (hI.mono hk) vh d.holds (hr.holds.mono hk) jk.ok.holds (by have:=jk.ok.hlen;show d.stt.holds.length≤_;omega) e xa xx zT zw h1 d.aG w hw);have qO:=Qh (fun J (hk:∀b c,I b=some c→J b=some c) w hw=>IL J ve d.aB (hr.aB.mono hk) w hw (by have:=hd.aB;omega));have xm:=hd.aB;have Hr:=Qh hr;have si:=Qh (show(Tryz.prog.info? 43).map (·.size)=some 9 by kernel_rfl);obtain⟨eo,ec,rfl,_,_,_⟩:=id hr.aB;obtain⟨ko,kc,rfl,_,_,_⟩:=id hr.aJ;obtain⟨tt,tc,rfl,_,_,_⟩:=id hr.aI;obtain⟨ho,iw,rfl,_,_,_⟩:=id hr.holds;obtain⟨ao,ac,rfl,_,_,_⟩:=id fq;obtain⟨W3,Gi⟩:∃W3,(((w.alloc (.cells #[.int .i64 d.num,.int .i64 d.aG,S d.bR,.slice eo d.aB.length ec,.slice ko d.aU.aJ.length kc,.int .i64 d.aU.aV,S d.aU.str,.slice tt d.aI.length tc,.slice ho d.holds.length iw] 43)).alloc (.cells #[.int .i64 c.au,S c.ag,.slice ao c.aj.length ac,S c.target,S c.aF] 25)).alloc (.cells bE 43))=W3:=⟨_,rfl⟩;obtain⟨pJ,Ji,G7,pz⟩:=Xev w _ _ _ _ _ _ W3 Gi;have A3:=Qh (show mH I w I W3 by rw[←Gi];exact(((mH.start hw).past _).past _).past _);have Pt:=Qh Ji;have Sv:=Qh G7;have Sw:=Qh pz;obtain⟨b0,b1,b2,b3,b4,b5,b6,b7,b8⟩:=drB_row Ji;obtain⟨g0,g1,g2,g3,g4⟩:=chgB_row G7;have wM:I (w.heap.size+2)=none:=hw.fresh (by omega);have Sy:I w.heap.size=none:=hw.fresh (Qn _);clear hr fq Ji G7 pz Eh ni jk oZ;go_enter Tryz.func33,Tryz.ntmps33
 go_wp2_with fail
 refine(Nn.O W3 A3.O.ok).mono ?_;rintro e1 w1 ⟨xa,xx,vq,J,rfl,aD,gu,aM,zT,zw,hxq⟩;obtain⟨a1,k1,rfl,_,_,_⟩:=id zT;obtain⟨a2,k2,rfl,_,_,_⟩:=id zw;obtain⟨a3,k3,rfl,_,_,_⟩:=id hxq;have qj:=aD.size;clear Gi b0 b1 b2 b3 b4 b5 b6 b7 b8 g0 g1 g2 g3 g4
 go_upto_if 21 with(first
  |(refine kC rfl rfl 81 _ _ rfl w1.heap.size 0 (dI e (.slice a1 e.aj.length k1) (.slice a2 e.aA.length k2)) (gN e (.slice a1 e.aj.length k1) (.slice a2 e.aA.length k2)) (by simp[Act.eval]) (by simp[Act.eval]) (by rfl) bH 81 ((Below.heap_alloc _ _ _ (by simp)).trans (heap_alloc_new _ _)) (by simp) (by kernel_rfl) (by simp[Value.oneCell']) (jQ e (.slice a1 e.aj.length k1) (.slice a2 e.aA.length k2)) (by rfl) ?_
    intro w2 hg2 kD)
  |(refine kC rfl rfl 40 _ _ rfl (w1.heap.size+1) 0 [.slice a3 q.aJ.length k3,.int .i64 q.aV,S q.str] (fH q (.slice a3 q.aJ.length k3)) (by simp[Act.eval]) (by simp[Act.eval]) (by rfl) #[.slice none 0 0,.int .i64 0,.string ⟨#[]⟩] 40 ((hg2.block _ (by simp) (by simp)).trans (by have h:=heap_alloc_new (w1.alloc (.cells bH 81)) (.cells #[.slice none 0 0,.int .i64 0,.string ⟨#[]⟩] 40);rwa[World.size_alloc]at h)) (by simp) (by kernel_rfl) (by simp[Value.oneCell']) #[.slice a3 q.aJ.length k3,.int .i64 q.aV,S q.str] (by rfl) ?_
    intro w3 tX tV))
 have rU:=hg2.size;have xq:=tX.size;rw[World.size_alloc,World.size_alloc]at rU;have M:=Qh (show Eg I w d (.slice eo d.aB.length ec) (.slice ko d.aU.aJ.length kc) (.slice tt d.aI.length tc) (.slice ho d.holds.length iw) c (.slice ao c.aj.length ac) e (.slice a1 e.aj.length k1) (.slice a2 e.aA.length k2) q (.slice a3 q.aJ.length k3) w1.heap.size (w1.heap.size+1) J w3 from by
  have A1:=A3.O.ext aD gu aM;have A2:=(A1.past (.cells bH 81)).past (.cells #[.slice none 0 0,.int .i64 0,.string ⟨#[]⟩] 40);have e6:J w1.heap.size=none:=aM.fresh (Qn _);have e7:J (w1.heap.size+1)=none:=aM.fresh (by omega);have hz:∀b,b<w1.heap.size→w3.heap[b]?=w1.heap[b]? :=fun b hb=>(tX.block b (by omega) (fun h=>by injection h with h;omega)).trans ((hg2.block b (by simp;omega) (fun h=>by injection h with h;omega)).trans ((Below.heap_alloc _ _ _ (by simp;omega)).trans (Below.heap_alloc _ _ _ hb)));have ow:∀b,b<W3.heap.size→w3.heap[b]?=W3.heap[b]? :=fun b hb=>(hz b (by omega)).trans (aD.block b hb)
  exact⟨⟨(A2.ok.grown hg2 (fun g h=>by cases h;exact e6)).grown tX (fun g h=>by cases h;exact e7),A1.keep,(A2.eY.grown hg2 (by simp;omega) (fun k h=>by cases h;omega)).grown tX (by omega) (fun k h=>by cases h;omega)⟩,
   gu.mono (by omega),(gu _ (by omega)).trans wM,(gu _ (by omega)).trans Sy,(ow _ (by omega)).trans Pt.O,chgB_row ((ow _ (by omega)).trans Sv.O),(ow _ (by omega)).trans Sw.O,
   entB_row ((tX.block _ (by omega) (fun h=>by injection h with h;omega)).trans kD),stoB_row tV,zT,zw,hxq⟩)
 clear rU xq hg2 tX kD tV aD gu aM zT zw hxq Pt Sv Sw A3 wM Sy pJ Nn;obtain⟨r,zL⟩:∃r,aP e=r:=⟨_,rfl⟩;rw[zL]at fo kK ⊢;by_cases h0:r=0;case neg=>
  have f1:(r !=0)=true:=by simpa using h0
  have Hn:=Qh (fo.O.trans (if_pos h0));clear fo h0;obtain⟨b0,b1,b2,b3,b4,b5,b6,b7,b8⟩:=drB_row (d:=d) M.O.dr;have iT:=M.O.O
  go_wp2_with (refine kC rfl rfl 43 _ _ rfl (w.heap.size+2) 0 (dz d (.slice eo d.aB.length ec) (.slice ko d.aU.aJ.length kc) (.slice tt d.aI.length tc) (.slice ho d.holds.length iw)) (gU d (.slice eo d.aB.length ec) (.slice ko d.aU.aJ.length kc) (.slice tt d.aI.length tc) (.slice ho d.holds.length iw)) (by simp[Act.eval]) (by simp[Act.eval]) (by rfl) _ 43 iT (by simp) (by kernel_rfl) (by simp[Value.oneCell']) (dz d (.slice eo d.aB.length ec) (.slice ko d.aU.aJ.length kc) (.slice tt d.aI.length tc) (.slice ho d.holds.length iw)).toArray (by rfl) ?_
               intro w9 bP jX)
  refine bodyPost_ret (v:= .tuple #[gU d (.slice eo d.aB.length ec) (.slice ko d.aU.aJ.length kc) (.slice tt d.aI.length tc) (.slice ho d.holds.length iw),.int .i64 r]) ?_ rfl (M.O.ret Hr.O bP Hn.O);rw[results_cell_tmp rfl];simp[asAddr,run_loadVar_row w9 (w.heap.size+2) 43 43 _ (0,0) _ jX Tryz.underlying43 rfl si.O]
 subst h0;replace fo:=Qh (fo.O.trans (if_neg (by decide)));have vZ:=(Gm zL).1;obtain⟨g0,g1,g2,g3,g4⟩:=M.O.cg;obtain⟨B,hB⟩:∃B:Bool,decide (c.au≠1∧c.aF≠[])=B:=⟨_,rfl⟩;go_upto_region 4 with fail
 go_cut [26] (fun XE wx=>XE= .bool B∧w3=wx)
 case first=>
  by_cases q1:c.aF=[]
  ·have i1:c.aF.isEmpty=true:=by simp[q1]
   have i2:(c.aF==[])=true:=by simp[q1]
   have mJ:B=false:=by rw[←hB];exact Qf (fun h=>h.2 q1)
   subst mJ;clear hB q1;go_wp2_with fail
   go_meet;exact⟨rfl,rfl⟩
  ·have i1:c.aF.isEmpty=false:=by simpa using q1
   have i2:(c.aF==[])=false:=by simpa using q1
   by_cases q2:c.au=1
   ·have i3:(c.au !=1)=false:=by simp[q2]
    have mJ:B=false:=by rw[←hB];exact Qf (fun h=>h.1 q2)
    subst mJ;clear hB q1 q2;go_wp2_with fail
    go_meet;exact⟨rfl,rfl⟩
   ·have i3:(c.au !=1)=true:=by simpa using q2
    have mJ:B=true:=by rw[←hB];exact Qt ⟨q2,q1⟩
    subst mJ;clear hB q1 q2;go_wp2_with fail
    go_meet;exact⟨rfl,rfl⟩
 case rest=>
 obtain⟨rfl,hcut⟩:=hcut;subst hcut;clear g0 g1 g2 g3 g4;cases B;case true=>
  have Hn:=Qh (fo.O.trans (if_pos (of_decide_eq_true hB)));clear fo hB;obtain⟨b0,b1,b2,b3,b4,b5,b6,b7,b8⟩:=drB_row (d:=d) M.O.dr;have iT:=M.O.O
  go_wp2_with (refine kC rfl rfl 43 _ _ rfl (w.heap.size+2) 0 (dz d (.slice eo d.aB.length ec) (.slice ko d.aU.aJ.length kc) (.slice tt d.aI.length tc) (.slice ho d.holds.length iw)) (gU d (.slice eo d.aB.length ec) (.slice ko d.aU.aJ.length kc) (.slice tt d.aI.length tc) (.slice ho d.holds.length iw)) (by simp[Act.eval]) (by simp[Act.eval]) (by rfl) _ 43 iT (by simp) (by kernel_rfl) (by simp[Value.oneCell']) (dz d (.slice eo d.aB.length ec) (.slice ko d.aU.aJ.length kc) (.slice tt d.aI.length tc) (.slice ho d.holds.length iw)).toArray (by rfl) ?_
               intro w9 bP jX)
  refine bodyPost_ret (v:= .tuple #[gU d (.slice eo d.aB.length ec) (.slice ko d.aU.aJ.length kc) (.slice tt d.aI.length tc) (.slice ho d.holds.length iw),.int .i64 1]) ?_ rfl (M.O.ret Hr.O bP Hn.O);rw[results_cell_tmp rfl];simp[asAddr,run_loadVar_row w9 (w.heap.size+2) 43 43 _ (0,0) _ jX Tryz.underlying43 rfl si.O]
 replace fo:=Qh (fo.O.trans (if_neg (of_decide_eq_false hB)));clear hB;obtain⟨y0,y1,y2⟩:=M.O.st;obtain⟨b0,b1,b2,b3,b4,b5,b6,b7,b8⟩:=drB_row (d:=d) M.O.dr;obtain⟨B,hB⟩:∃B:Bool,decide (400≤d.aB.length∨14680064<q.str.length)=B:=⟨_,rfl⟩;go_upto_region 6 with fail
 go_cut [36] (fun YJ wx=>YJ= .bool B∧w3=wx)
 case first=>
  by_cases q1:400≤d.aB.length
  ·have i1:decide ((400:Int)≤(d.aB.length:Int))=true:=Qt (by omega);have mJ:B=true:=by rw[←hB];exact Qt (.inl q1)
   subst mJ;clear hB q1;go_wp2_with fail
   go_meet;exact⟨rfl,rfl⟩
  ·have i1:decide ((400:Int)≤(d.aB.length:Int))=false:=Qf (by omega);by_cases q2:14680064<q.str.length
   ·have i3:decide ((14680064:Int)<(q.str.length:Int))=true:=Qt (by omega);have mJ:B=true:=by rw[←hB];exact Qt (.inr q2)
    subst mJ;clear hB q1 q2;go_wp2_with fail
    go_meet;exact⟨rfl,rfl⟩
   ·have i3:decide ((14680064:Int)<(q.str.length:Int))=false:=Qf (by omega);have mJ:B=false:=by rw[←hB];exact Qf (by omega)
    subst mJ;clear hB q1 q2;go_wp2_with fail
    go_meet;exact⟨rfl,rfl⟩
 case rest=>
 obtain⟨rfl,hcut⟩:=hcut;subst hcut;clear y0 y1 y2;cases B;case true=>
  have Hn:=Qh (fo.O.trans (if_pos (of_decide_eq_true hB)));clear fo hB b0 b1 b2 b3 b4 b5 b6 b7 b8;obtain⟨b0,b1,b2,b3,b4,b5,b6,b7,b8⟩:=drB_row (d:=d) M.O.dr;have iT:=M.O.O
  go_wp2_with (refine kC rfl rfl 43 _ _ rfl (w.heap.size+2) 0 (dz d (.slice eo d.aB.length ec) (.slice ko d.aU.aJ.length kc) (.slice tt d.aI.length tc) (.slice ho d.holds.length iw)) (gU d (.slice eo d.aB.length ec) (.slice ko d.aU.aJ.length kc) (.slice tt d.aI.length tc) (.slice ho d.holds.length iw)) (by simp[Act.eval]) (by simp[Act.eval]) (by rfl) _ 43 iT (by simp) (by kernel_rfl) (by simp[Value.oneCell']) (dz d (.slice eo d.aB.length ec) (.slice ko d.aU.aJ.length kc) (.slice tt d.aI.length tc) (.slice ho d.holds.length iw)).toArray (by rfl) ?_
               intro w9 bP jX)
  refine bodyPost_ret (v:= .tuple #[gU d (.slice eo d.aB.length ec) (.slice ko d.aU.aJ.length kc) (.slice tt d.aI.length tc) (.slice ho d.holds.length iw),.int .i64 6]) ?_ rfl (M.O.ret Hr.O bP Hn.O);rw[results_cell_tmp rfl];simp[asAddr,run_loadVar_row w9 (w.heap.size+2) 43 43 _ (0,0) _ jX Tryz.underlying43 rfl si.O]
 replace fo:=Qh (fo.O.trans (if_neg (of_decide_eq_false hB)));clear hB;obtain⟨x0,x1,x2,x3,x4,x5,x6⟩:=M.O.en;obtain⟨t2,r2,BM⟩:∃t2 r2,bS d.aI e=(t2,r2):=⟨_,_,rfl⟩;obtain⟨h2,r4,OM⟩:∃h2 r4,appH d.holds e d.aG=(h2,r4):=⟨_,_,rfl⟩;obtain⟨r3,sK⟩:∃r3,sw d.stt e d.aG=r3:=⟨_,rfl⟩;have Gj:gq d.stt e d.aG=if r2≠0 then(d.stt,r2)else if r3≠0 then(d.stt,r3)else if r4≠0 then(d.stt,r4)else(⟨t2,h2⟩,0):=by
  unfold gq;rw[show bS d.stt.aI e=(t2,r2)from BM,show appH d.stt.holds e d.aG=(h2,r4)from OM,sK]
 rw[Gj]at fo;rw[BM]at FM;rw[OM]at kK;rw[sK]at Hfb;clear BM OM sK Gj;go_wp2_with fail
 refine(FM.O J M.O.at_.keep _ _ M.O.ra M.O.rx w3 M.O.at_.ok).mono ?_;rintro e4 w4 ⟨vt2,J4,rfl,aR,rT,bU,G8⟩;have M4:=Qh (M.O.aQ aR rT bU);obtain⟨o4,c4,rfl,_,_,_⟩:=id G8;clear b0 b1 b2 b3 b4 b5 b6 b7 b8 x0 x1 x2 x3 x4 x5 x6 M aR rT bU FM;go_upto_if 56 with fail
 by_cases h0:r2=0;case neg=>
  have f1:(r2 !=0)=true:=by simpa using h0
  have Hn:=Qh (show iy d c=(d,r2) by rw[fo.O,if_pos h0,if_pos h0]);clear fo h0;obtain⟨b0,b1,b2,b3,b4,b5,b6,b7,b8⟩:=drB_row (d:=d) M4.O.dr;have iT:=M4.O.O
  go_wp2_with (refine kC rfl rfl 43 _ _ rfl (w.heap.size+2) 0 (dz d (.slice eo d.aB.length ec) (.slice ko d.aU.aJ.length kc) (.slice tt d.aI.length tc) (.slice ho d.holds.length iw)) (gU d (.slice eo d.aB.length ec) (.slice ko d.aU.aJ.length kc) (.slice tt d.aI.length tc) (.slice ho d.holds.length iw)) (by simp[Act.eval]) (by simp[Act.eval]) (by rfl) _ 43 iT (by simp) (by kernel_rfl) (by simp[Value.oneCell']) (dz d (.slice eo d.aB.length ec) (.slice ko d.aU.aJ.length kc) (.slice tt d.aI.length tc) (.slice ho d.holds.length iw)).toArray (by rfl) ?_
               intro w9 bP jX)
  refine bodyPost_ret (v:= .tuple #[gU d (.slice eo d.aB.length ec) (.slice ko d.aU.aJ.length kc) (.slice tt d.aI.length tc) (.slice ho d.holds.length iw),.int .i64 r2]) ?_ rfl (M4.O.ret Hr.O bP Hn.O);rw[results_cell_tmp rfl];simp[asAddr,run_loadVar_row w9 (w.heap.size+2) 43 43 _ (0,0) _ jX Tryz.underlying43 rfl si.O]
 subst h0;rw[if_neg (show ¬((0:Int)≠0) by decide)]at fo;obtain⟨b0,b1,b2,b3,b4,b5,b6,b7,b8⟩:=drB_row (d:=d) M4.O.dr;obtain⟨x0,x1,x2,x3,x4,x5,x6⟩:=M4.O.en;go_wp2_with fail
 refine(Hfb.O J4 M4.O.at_.keep _ _ M4.O.ra M4.O.rx vZ w4 M4.O.at_.ok).mono ?_;rintro e5 w5 ⟨rfl,bM⟩;have M5:=Qh (M4.O.quiet bM);clear b0 b1 b2 b3 b4 b5 b6 b7 b8 x0 x1 x2 x3 x4 x5 x6 M4 bM Hfb;go_upto_if 63 with fail
 by_cases h0:r3=0;case neg=>
  have f1:(r3 !=0)=true:=by simpa using h0
  have Hn:=Qh (show iy d c=(d,r3) by rw[fo.O,if_pos h0,if_pos h0]);clear fo h0;obtain⟨b0,b1,b2,b3,b4,b5,b6,b7,b8⟩:=drB_row (d:=d) M5.O.dr;have iT:=M5.O.O
  go_wp2_with (refine kC rfl rfl 43 _ _ rfl (w.heap.size+2) 0 (dz d (.slice eo d.aB.length ec) (.slice ko d.aU.aJ.length kc) (.slice tt d.aI.length tc) (.slice ho d.holds.length iw)) (gU d (.slice eo d.aB.length ec) (.slice ko d.aU.aJ.length kc) (.slice tt d.aI.length tc) (.slice ho d.holds.length iw)) (by simp[Act.eval]) (by simp[Act.eval]) (by rfl) _ 43 iT (by simp) (by kernel_rfl) (by simp[Value.oneCell']) (dz d (.slice eo d.aB.length ec) (.slice ko d.aU.aJ.length kc) (.slice tt d.aI.length tc) (.slice ho d.holds.length iw)).toArray (by rfl) ?_
               intro w9 bP jX)
  refine bodyPost_ret (v:= .tuple #[gU d (.slice eo d.aB.length ec) (.slice ko d.aU.aJ.length kc) (.slice tt d.aI.length tc) (.slice ho d.holds.length iw),.int .i64 r3]) ?_ rfl (M5.O.ret Hr.O bP Hn.O);rw[results_cell_tmp rfl];simp[asAddr,run_loadVar_row w9 (w.heap.size+2) 43 43 _ (0,0) _ jX Tryz.underlying43 rfl si.O]
 subst h0;rw[if_neg (show ¬((0:Int)≠0) by decide)]at fo;obtain⟨b0,b1,b2,b3,b4,b5,b6,b7,b8⟩:=drB_row (d:=d) M5.O.dr;obtain⟨x0,x1,x2,x3,x4,x5,x6⟩:=M5.O.en;go_wp2_with fail
 refine(kK.O J4 M5.O.at_.keep _ _ M5.O.ra M5.O.rx trivial w5 M5.O.at_.ok).mono ?_;rintro e6 w6 ⟨vh2,J6,rfl,fF,Ew,iO,KO⟩;have M6:=Qh (M5.O.aQ fF Ew iO);have Np:=G8.mono (Ew.keep M5.O.at_.ok (Qn _));obtain⟨o6,c6,rfl,_,_,_⟩:=id KO;clear b0 b1 b2 b3 b4 b5 b6 b7 b8 x0 x1 x2 x3 x4 x5 x6 M5 fF Ew iO kK G8;go_upto_if 76 with fail
 by_cases h0:r4=0;case neg=>
  have f1:(r4 !=0)=true:=by simpa using h0
  have Hn:=Qh (show iy d c=(d,r4) by rw[fo.O,if_pos h0,if_pos h0]);clear fo h0;obtain⟨b0,b1,b2,b3,b4,b5,b6,b7,b8⟩:=drB_row (d:=d) M6.O.dr;have iT:=M6.O.O
  go_wp2_with (refine kC rfl rfl 43 _ _ rfl (w.heap.size+2) 0 (dz d (.slice eo d.aB.length ec) (.slice ko d.aU.aJ.length kc) (.slice tt d.aI.length tc) (.slice ho d.holds.length iw)) (gU d (.slice eo d.aB.length ec) (.slice ko d.aU.aJ.length kc) (.slice tt d.aI.length tc) (.slice ho d.holds.length iw)) (by simp[Act.eval]) (by simp[Act.eval]) (by rfl) _ 43 iT (by simp) (by kernel_rfl) (by simp[Value.oneCell']) (dz d (.slice eo d.aB.length ec) (.slice ko d.aU.aJ.length kc) (.slice tt d.aI.length tc) (.slice ho d.holds.length iw)).toArray (by rfl) ?_
               intro w9 bP jX)
  refine bodyPost_ret (v:= .tuple #[gU d (.slice eo d.aB.length ec) (.slice ko d.aU.aJ.length kc) (.slice tt d.aI.length tc) (.slice ho d.holds.length iw),.int .i64 r4]) ?_ rfl (M6.O.ret Hr.O bP Hn.O);rw[results_cell_tmp rfl];simp[asAddr,run_loadVar_row w9 (w.heap.size+2) 43 43 _ (0,0) _ jX Tryz.underlying43 rfl si.O]
 subst h0;have Hn:=Qh (show iy d c=(⟨d.num,d.aG,d.bR,d.aB++[e],q,t2,h2⟩,0) by rw[fo.O];rfl);clear fo;obtain⟨b0,b1,b2,b3,b4,b5,b6,b7,b8⟩:=drB_row (d:=d) M6.O.dr
 go_wp2_with (refine kC rfl rfl 43 _ _ rfl w6.heap.size 0 (dz d (.slice eo d.aB.length ec) (.slice ko d.aU.aJ.length kc) (.slice tt d.aI.length tc) (.slice ho d.holds.length iw)) (gU d (.slice eo d.aB.length ec) (.slice ko d.aU.aJ.length kc) (.slice tt d.aI.length tc) (.slice ho d.holds.length iw)) (by simp[Act.eval]) (by simp[Act.eval]) (by rfl) bE 43 (heap_alloc_new _ _) (by simp) (by kernel_rfl) (by simp[Value.oneCell']) (dz d (.slice eo d.aB.length ec) (.slice ko d.aU.aJ.length kc) (.slice tt d.aI.length tc) (.slice ho d.holds.length iw)).toArray (by rfl) ?_
              intro oF zx FN)
 have mE:Below w6.heap.size w6 oF:=((Qb _ _).alloc (Qn _) _).grown zx (by simp) (fun k e=>by injection e with e;omega);have yc:=Qh (M6.O.quiet mE);have FO:w6.heap.size<oF.heap.size:=(Qg FN);have OO:=M6.O.at_.size;clear b0 b1 b2 b3 b4 b5 b6 b7 b8 zx;have b3:=(drB_row (d:=d) yc.O.dr).c3;obtain⟨x0,x1,x2,x3,x4,x5,x6⟩:=yc.O.en;refine yz (X:=(Option Addr×Nat)×Nat×(Option Addr×Nat)) (KN w.heap.size w6.heap.size d.aB.length ((d.aB++[e]).length) ec eo e (.slice a1 e.aj.length k1) (.slice a2 e.aA.length k2)) (nL oF 2 5 4 5 5 231 222 232 (fun x w=>x.2.1<w.heap.size) (fun x w=>aK bQ 81 J6 w oF.heap.size (.slice x.1.1 d.aB.length x.1.2) d.aB∧(Value.slice x.1.1 d.aB.length x.1.2).ownBlock≠some x.2.1) (fun x w=>w.heap[x.2.1]?=some (.cells (jQ e (.slice a1 e.aj.length k1) (.slice a2 e.aA.length k2)) 81 (0,0))) (fun x w=>aK bQ 81 J6 w oF.heap.size (.slice x.2.2.1 (d.aB++[e]).length x.2.2.2) (d.aB++[e])) (fun _ _=>True) (fun x w=>aK bQ 81 J6 w oF.heap.size (.slice x.2.2.1 (d.aB++[e]).length x.2.2.2) (d.aB++[e])) (fun x=>w6.heap.size) 43 7 209 210 (fun x=> #[.int .i64 d.num,.int .i64 d.aG,S d.bR,.slice x.2.2.1 (d.aB++[e]).length x.2.2.2,.slice ko d.aU.aJ.length kc,.int .i64 d.aU.aV,S d.aU.str,.slice tt d.aI.length tc,.slice ho d.holds.length iw]) (fun x=> #[.int .i64 d.num,.int .i64 d.aG,S d.bR,.slice x.2.2.1 (d.aB++[e]).length x.2.2.2,.slice ko d.aU.aJ.length kc,.int .i64 d.aU.aV,S d.aU.str,.slice tt d.aI.length tc,.slice ho d.holds.length iw]) (fun x=> #[.int .i64 d.num,.int .i64 d.aG,S d.bR,.slice x.2.2.1 (d.aB++[e]).length x.2.2.2,.slice ko d.aU.aJ.length kc,.int .i64 d.aU.aV,S d.aU.str,.slice tt d.aI.length tc,.slice ho d.holds.length iw])) (by kernel_rfl) (by kernel_rfl) ?_ ?_ ?_
 ·exact⟨(default,0,default),nL.start _ _ (show 0<oF.heap.size by omega)⟩
 ·rintro x s' a' w' i dM dC ha hC hi;obtain⟨aN,oi,fP,aC⟩:=mem_ready.1 hi;have ev:=Je Nl ha;have hlt:=u6 aN;rcases i with _|_|_|_|_|_|_|_|i
  rotate_left 8
  ·simp at fP
  all_goals
   have dV:=fP;simp at fP;subst fP;simp[Region.binds]at aC;try have hl:=tO 6 7 dC (by decide+kernel) aN
   try have cu:=hC.off hl
   try have b3:=bK cu b3
   try have x0:=bK cu x0
   try have x1:=bK cu x1
   try have x2:=bK cu x2
   try have x3:=bK cu x3
   try have x4:=bK cu x4
   try have x5:=bK cu x5
   try have x6:=bK cu x6
   refine wpOp_step dV (fun K' hK=> ?_);rw[if_pos (by rfl)]
  rotate_left 2
  ·unfold Oper.wp;simp[go_sem,ev,ik,aC,Oper.upon];refine(qO.O J6 yc.O.at_.keep w' (yc.O.at_.ok.below (Qn _) cu)).mono ?_;rintro r4 w4 ⟨v7,rfl,ho,aR⟩;obtain⟨a7,k7,rfl⟩:=Dk ho;have ha:=ha.trans (uq (L:=KN w.heap.size w6.heap.size d.aB.length ((d.aB++[e]).length) ec eo e (.slice a1 e.aj.length k1) (.slice a2 e.aA.length k2) x) (M:=KN w.heap.size w6.heap.size d.aB.length ((d.aB++[e]).length) ec eo e (.slice a1 e.aj.length k1) (.slice a2 e.aA.length k2) ((a7,k7),x.2)) [2] rfl (fun j bn=>by
    rcases j with _|_|_|_|_|_|_|_|j<;>first|rfl|(exact absurd (by decide) bn)|simp) (List.forall_mem_cons.2 ⟨jZ aN,List.forall_mem_nil _⟩))
   exact hK _ _ ⟨((a7,k7),x.2),mF Nl ha rfl aN,hC.step hl (cu.trans (aR.mono cu.size)) (by decide) (fun h=>Nat.lt_of_lt_of_le h aR.size) (fun _ _=>⟨ho.lower cu.size,fun q=>by have h8:w'.heap.size≤x.2.1:=ho.qo q;have h9:x.2.1<w'.heap.size:=hC.inv hl;omega⟩) (fun h _=>h.elim (fun e=>absurd e (by decide)) (fun⟨_,_,q⟩=>(aR.block _ (Qg q)).trans q)) (fun h _=>h.elim (fun e=>absurd e (by decide)) (fun⟨_,_,q⟩=>q.below aR)) (fun _ _=>trivial) hlt⟩
  rotate_left 1
  ·unfold Oper.wp;simp[go_sem,ev,ik,aC,Oper.upon,b3,x0,x1,x2,x3,x4,x5,x6];have ha:=ha.trans (uq (L:=KN w.heap.size w6.heap.size d.aB.length ((d.aB++[e]).length) ec eo e (.slice a1 e.aj.length k1) (.slice a2 e.aA.length k2) x) (M:=KN w.heap.size w6.heap.size d.aB.length ((d.aB++[e]).length) ec eo e (.slice a1 e.aj.length k1) (.slice a2 e.aA.length k2) (x.1,w'.heap.size,x.2.2)) [4] rfl (fun j bn=>by
    rcases j with _|_|_|_|_|_|_|_|j<;>first|rfl|(exact absurd (by decide) bn)|simp) (List.forall_mem_cons.2 ⟨jZ aN,List.forall_mem_nil _⟩))
   exact hK _ _ ⟨(x.1,w'.heap.size,x.2.2),mF Nl ha rfl aN,hC.step hl (cu.trans (((Qb _ _).alloc (Qn _) _).mono cu.size)) (by decide) (fun _=>by simp) (fun h _=>h.elim (fun e=>absurd e (by decide)) (fun⟨_,_,q⟩=>⟨q.1.alloc _,fun r=>absurd (zZ q.1 r).2 (Nat.lt_irrefl _)⟩)) (fun _ _=>heap_alloc_new _ _) (fun h _=>h.elim (fun e=>absurd e (by decide)) (fun⟨_,_,q⟩=>q.alloc _)) (fun _ _=>trivial) hlt⟩
  ·have h1:=hC.f1 (by first|simpa using aC|simp[aC]) (jZ aN) hl;have h2:=hC.f2 (by first|simpa using aC|simp[aC]) (jZ aN) hl;refine Mt vN _ _ rfl (by simp[Act.eval,ev,ik,aC]) h1.1 (by simp[Act.eval,ev,ik,aC]) (iV.jR (T:=bQ) (x:=e) (cs:=dI e (.slice a1 e.aj.length k1) (.slice a2 e.aA.length k2)) ⟨_,_,rfl,yc.O.ra,yc.O.rx⟩ (fun j u hu=>(cell_of_row w' _ j _ _ _ h2).trans (by simpa using hu))) (by simp only[List.length_nil,List.length_cons];omega) (by simp only[List.length_nil,List.length_cons];omega) cu.size ?_;rintro v9 w9 j5 bP jf;obtain⟨a9,k9,rfl⟩:=Dk j5;have ha:=ha.trans (uq (L:=KN w.heap.size w6.heap.size d.aB.length ((d.aB++[e]).length) ec eo e (.slice a1 e.aj.length k1) (.slice a2 e.aA.length k2) x) (M:=KN w.heap.size w6.heap.size d.aB.length ((d.aB++[e]).length) ec eo e (.slice a1 e.aj.length k1) (.slice a2 e.aA.length k2) (x.1,x.2.1,(a9,k9))) [5] rfl (fun j bn=>by
    rcases j with _|_|_|_|_|_|_|_|j<;>first|rfl|(exact absurd (by decide) bn)|simp) (List.forall_mem_cons.2 ⟨jZ aN,List.forall_mem_nil _⟩))
   exact hK _ _ ⟨(x.1,x.2.1,(a9,k9)),mF Nl ha rfl aN,hC.step hl (cu.grown bP cu.size (fun k e=>(zZ h1.1 e).1)) (by decide) (fun h=>Nat.lt_of_lt_of_le h bP.size) (fun _ h=>absurd rfl h) (fun _ h=>absurd rfl h) (fun _ _=>j5) (fun _ _=>trivial) hlt⟩
  rotate_left 1
  ·have aS:w'.heap[w6.heap.size]?=some (.cells _ 43 (0,0)):=(cu.block _ (Qg FN)).trans FN;refine wE 37 _ _ rfl (w6.heap.size) 3 [.slice x.2.2.1 (d.aB++[e]).length x.2.2.2] (.slice x.2.2.1 (d.aB++[e]).length x.2.2.2) (by simp[Act.eval,ev,ik,aC]) (by simp[Act.eval,ev,ik,aC]) (by rfl) _ _ aS (by simp) (by kernel_rfl) (by simp[Value.oneCell']) ?_;exact hK _ _ ⟨x,eO (d:=none) (v:=undef) Nl ha rfl aN,hC.pQ aN (hC.f3 (by first|simpa using aC|simp[aC]) (mI (by simp[dM])) hl) (mI (by simp[dM])) (mI (by simp[dM])) (by decide) aS (by rfl)⟩
  all_goals
   unfold Oper.wp;first
   |(simp[go_sem,ev,ik,aC,Oper.upon,b3,x0,x1,x2,x3,x4,x5,x6];exact hK _ _ ⟨x,mF Nl ha rfl aN,hC.pure (by decide)⟩)
   |(simp[go_sem,ev,ik,Oper.upon,b3,x0,x1,x2,x3,x4,x5,x6];exact hK _ _ ⟨x,mF Nl ha rfl aN,hC.pure (by decide)⟩)
 ·rintro x s' a' wJ gz ha hC;obtain⟨wb,gV,kr,gI,aS⟩:=hC.on (gz 7 (by decide));simp only[ite_self]at aS;rw[xL _ _ _ _ (fun i hi=>by rw[Nat.zero_add];exact gz i (by simpa using hi))]at ha;subst ha;simp only[eH,Act.put,List.setIfInBounds_toArray,List.set_cons_succ,List.set_cons_zero];obtain⟨xv,xb,o9,k9⟩:=x;dsimp only at kr gI aS ⊢;have oO:Below w6.heap.size w6 wJ:=(mE.trans (gV.mono (by omega))).grown gI (by have:=gV.size;omega) (fun k e=>by injection e with e;omega);have GA:=Qh (M6.O.quiet oO);have HO:=Qh (kr.kept gI (.inr (kr.cK FO)));have aag:=oO.size;have agB:=(Qg aS);obtain⟨y0,y1,y2⟩:=GA.O.st;have jh:=(Qg M6.O.O);clear hC gz gI gV mE kr b3 x0 x1 x2 x3 x4 x5 x6
  go_wp2_with (first
   |(refine kC rfl rfl 40 _ _ rfl w6.heap.size 4 [.slice a3 q.aJ.length k3,.int .i64 q.aV,S q.str] (fH q (.slice a3 q.aJ.length k3)) (by simp[Act.eval]) (by simp[Act.eval]) (by rfl) _ 43 aS (by simp) (by kernel_rfl) (by simp[Value.oneCell']) #[.int .i64 d.num,.int .i64 d.aG,S d.bR,.slice o9 (d.aB++[e]).length k9,.slice a3 q.aJ.length k3,.int .i64 q.aV,S q.str,.slice tt d.aI.length tc,.slice ho d.holds.length iw] (by rfl) ?_
     intro VJ l6 FP)
   |(refine kC rfl rfl 37 _ _ rfl w6.heap.size 7 [.slice o4 t2.length c4] (.slice o4 t2.length c4) (by simp[Act.eval]) (by simp[Act.eval]) (by rfl) _ 43 FP (by simp) (by kernel_rfl) (by simp[Value.oneCell']) #[.int .i64 d.num,.int .i64 d.aG,S d.bR,.slice o9 (d.aB++[e]).length k9,.slice a3 q.aJ.length k3,.int .i64 q.aV,S q.str,.slice o4 t2.length c4,.slice ho d.holds.length iw] (by rfl) ?_
     intro w13 oo Dw)
   |(refine kC rfl rfl 41 _ _ rfl w6.heap.size 8 [.slice o6 h2.length c6] (.slice o6 h2.length c6) (by simp[Act.eval]) (by simp[Act.eval]) (by rfl) _ 43 Dw (by simp) (by kernel_rfl) (by simp[Value.oneCell']) (dz (⟨d.num,d.aG,d.bR,d.aB++[e],q,t2,h2⟩:ig) (.slice o9 (d.aB++[e]).length k9) (.slice a3 q.aJ.length k3) (.slice o4 t2.length c4) (.slice o6 h2.length c6)).toArray (by rfl) ?_
     intro Nj oq Dx;obtain⟨z0,z1,z2,z3,z4,z5,z6,z7,z8⟩:=drB_row (d:=(⟨d.num,d.aG,d.bR,d.aB++[e],q,t2,h2⟩:ig)) Dx;have Si:=l6.size;have Sl:=oo.size;have Sn:=oq.size;have iT:=(oq.block (w.heap.size+2) (by omega) (fun h=>by injection h with h;omega)).trans ((oo.block _ (by omega) (fun h=>by injection h with h;omega)).trans ((l6.block _ (by omega) (fun h=>by injection h with h;omega)).trans GA.O.O)))
   |(refine kC rfl rfl 43 _ _ rfl (w.heap.size+2) 0 (dz (⟨d.num,d.aG,d.bR,d.aB++[e],q,t2,h2⟩:ig) (.slice o9 (d.aB++[e]).length k9) (.slice a3 q.aJ.length k3) (.slice o4 t2.length c4) (.slice o6 h2.length c6)) (gU (⟨d.num,d.aG,d.bR,d.aB++[e],q,t2,h2⟩:ig) (.slice o9 (d.aB++[e]).length k9) (.slice a3 q.aJ.length k3) (.slice o4 t2.length c4) (.slice o6 h2.length c6)) (by simp[Act.eval]) (by simp[Act.eval]) (by rfl) _ 43 iT (by simp) (by kernel_rfl) (by simp[Value.oneCell']) (dz (⟨d.num,d.aG,d.bR,d.aB++[e],q,t2,h2⟩:ig) (.slice o9 (d.aB++[e]).length k9) (.slice a3 q.aJ.length k3) (.slice o4 t2.length c4) (.slice o6 h2.length c6)).toArray (by rfl) ?_
     intro Sz Bg Nq))
  refine bodyPost_ret (v:= .tuple #[gU (⟨d.num,d.aG,d.bR,d.aB++[e],q,t2,h2⟩:ig) (.slice o9 (d.aB++[e]).length k9) (.slice a3 q.aJ.length k3) (.slice o4 t2.length c4) (.slice o6 h2.length c6),.int .i64 0]) ?_ rfl ?_
  ·rw[results_cell_tmp rfl];simp[asAddr,run_loadVar_row Sz (w.heap.size+2) 43 43 _ (0,0) _ Nq Tryz.underlying43 rfl si.O]
  ·have q6:J6 w6.heap.size=none:=M6.O.at_.ok.fresh (Qn _);have FQ:Ok J6 Sz:=(((GA.O.at_.ok.grown l6 (fun g h=>by injection h with h;subst h;exact q6)).grown oo (fun g h=>by injection h with h;subst h;exact q6)).grown oq (fun g h=>by injection h with h;subst h;exact q6)).grown Bg (fun g h=>by injection h with h;subst h;exact M6.O.no);have Nr:=(((HO.O.kept l6 (.inr (HO.O.cK FO))).kept oo (.inr (HO.O.cK FO))).kept oq (.inr (HO.O.cK FO))).kept Bg (.inr (HO.O.cK (by omega)));obtain⟨J7,wN,iP,nM,_⟩:=Nr.freeze FQ (fun b hb=>M6.O.at_.ok.fresh (by omega));have GD:=wN.keep yc.O.at_.ok (Qn _);rw[Hn.O]
   exact⟨_,_,_,_,J7,rfl,(((GA.O.at_.eY.grown l6 (by omega) (fun k h=>by injection h with h;omega)).grown oo (by omega) (fun k h=>by injection h with h;omega)).grown oq (by omega) (fun k h=>by injection h with h;omega)).grown Bg (by omega) (fun k h=>by injection h with h;omega),
    M6.O.ext.trans wN (by omega),iP,⟨nM,GA.O.rq.mono GD,Np.mono GD,KO.mono GD⟩⟩
