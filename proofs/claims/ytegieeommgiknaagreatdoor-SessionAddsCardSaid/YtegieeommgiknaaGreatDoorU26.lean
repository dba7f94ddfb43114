/- Lemmas for the claim's theorem;conditions: as each says. -/
import Derived.Test.YtegieeommgiknaaGreatDoorU25
set_option maxHeartbeats 0
set_option maxRecDepth 100000
set_option linter.all false
namespace Go.Proofs.YtegieeommgiknaaGreatDoor
open Go.RowKit
variable{l:List Ho}{p:af}{k:Nat}{x:Ho}{d:Int}{vk:Value}{w:World}{b:Nat}{e:bD}{q:ib}{I:IH}{t:TypeId}{n:Nat}
structure qy (I:IH) (d:fU) (ve vk vt vh:Value):Prop where
 aB:aZ bM I ve d.aB
 aJ:aZ si I vk d.bf.aJ
 aF:aZ bM I vt d.aF
 holds:aZ ku I vh d.holds
theorem qy.mono{J:IH}{d:fU}{ve vt vh:Value}(hI:∀b c,I b=some c→J b=some c)(h:qy I d ve vk vt vh):qy J d ve vk vt vh:=
 ⟨h.aB.mono hI,h.aJ.mono hI,h.aF.mono hI,h.holds.mono hI⟩
def uq(I:IH)(w:World)(d:fU)(n:Int)(e:Ending)(w':World):Prop:=
 ∃ve vk vt vh J,e= .returned (.tuple #[gP d ve vk vt vh,.int .i64 n])∧Below w.heap.size w w'∧Ext w.heap.size I J∧Ok J w'∧qy J d ve vk vt vh
abbrev aY:Array Value:=#[.int .i64 0,.int .i64 0,.string ⟨#[]⟩,.slice none 0 0,.slice none 0 0,.int .i64 0,.string ⟨#[]⟩,.slice none 0 0,.slice none 0 0]
abbrev dA(d:fU)(ve vk vt vh:Value):List Value:=[.int .i64 d.num,.int .i64 d.aA,S d.bE,ve,vk,.int .i64 d.bf.bg,S d.bf.str,vt,vh]
theorem entB_row{va vx:Value}(h:w.heap[b]?=some (.cells (lg e va vx) t (0,0))):bP w b e va vx:=
 ⟨(cell_of_row _ _ 0 _ _ _ h).trans rfl,(cell_of_row _ _ 1 _ _ _ h).trans rfl,(cell_of_row _ _ 2 _ _ _ h).trans rfl,(cell_of_row _ _ 3 _ _ _ h).trans rfl,(cell_of_row _ _ 4 _ _ _ h).trans rfl,(cell_of_row _ _ 5 _ _ _ h).trans rfl,(cell_of_row _ _ 6 _ _ _ h).trans rfl⟩
structure Jq (w:World) (n:Nat) (q:ib) (vk:Value):Prop where
 c0:w.cell? ⟨n,0,none⟩=some vk
 c1:w.cell? ⟨n,1,none⟩=some (.int .i64 q.bg)
 c2:w.cell? ⟨n,2,none⟩=some (S q.str)
theorem Jq.aR{w':World}(h:Jq w b q vk)(hb:Below w.heap.size w w'):Jq w' b q vk:=⟨aV hb h.c0,aV hb h.c1,aV hb h.c2⟩
theorem stoB_row(h:w.heap[b]?=some (.cells #[vk,.int .i64 q.bg,S q.str] t (0,0))):Jq w b q vk:=
 ⟨(cell_of_row _ _ 0 _ _ _ h).trans rfl,(cell_of_row _ _ 1 _ _ _ h).trans rfl,(cell_of_row _ _ 2 _ _ _ h).trans rfl⟩
theorem MC(w:World)(a b c:Array Value)(ta tb tc:TypeId)(W:World)(hW:((w.alloc (.cells a ta)).alloc (.cells b tb)).alloc (.cells c tc)=W):
 W.heap.size=w.heap.size+3∧W.heap[w.heap.size]?=some (.cells a ta (0,0))∧W.heap[w.heap.size+1]?=some (.cells b tb (0,0))∧W.heap[w.heap.size+2]?=some (.cells c tc (0,0)):=by
 subst hW;refine⟨by simp,?_,?_,?_⟩
 ·exact(Below.heap_alloc _ _ _ (by simp;omega)).trans ((Below.heap_alloc _ _ _ (by simp)).trans (heap_alloc_new w _))
 ·have h:=heap_alloc_new (w.alloc (.cells a ta)) (.cells b tb);rw[World.size_alloc]at h;exact(Below.heap_alloc _ _ _ (by simp)).trans h
 ·have h:=heap_alloc_new ((w.alloc (.cells a ta)).alloc (.cells b tb)) (.cells c tc);rwa[World.size_alloc,World.size_alloc]at h
theorem Xtw{d:fU}{c:ic}(h:fQ d.bf c=(e,q)):gQ d c=
 if aX e≠0 then(d,aX e)else if c.av≠1∧c.aI≠[]then(d,1)else if 400≤d.aB.length∨14680064<q.str.length then(d,6)
 else if(fK d.stt e d.aA).2≠0 then(d,(fK d.stt e d.aA).2)
 else(⟨d.num,d.aA,d.bE,d.aB++[e],q,(fK d.stt e d.aA).1.aF,(fK d.stt e d.aA).1.holds⟩,0):=by
 unfold gQ;rw[h]
structure Gm (I:IH) (w0:World) (d:fU) (ve vk vt vh:Value) (c:ic) (va:Value) (e:bD) (xa xx:Value) (q:ib) (vq:Value) (n6 n7:Nat) (J:IH) (W:World):Prop where
 at_:lJ I w0 J W
 ext:Ext w0.heap.size I J
 no:J (w0.heap.size+2)=none
 OB:J w0.heap.size=none
 dr:W.heap[w0.heap.size]?=some (.cells (dA d ve vk vt vh).toArray 46 (0,0))
 cg:zG W (w0.heap.size+1) c va
 O:W.heap[w0.heap.size+2]?=some (.cells aY 46 (0,0))
 en:bP W n6 e xa xx
 st:Jq W n7 q vq
 ra:aZ nk J xa e.ag
 rx:aZ mU J xx e.aC
 rq:aZ si J vq q.aJ
section
variable {I:IH} {w0:World} {d:fU} {ve vk vt vh:Value} {c:ic} {va:Value} {e:bD} {xa xx:Value} {q:ib} {vq:Value} {n6 n7:Nat} {J J':IH} {W W':World}
theorem Gm.aR(h:Gm I w0 d ve vk vt vh c va e xa xx q vq n6 n7 J W)(hb:Below W.heap.size W W')(hx:Ext W.heap.size J J')(iZ:Ok J' W'):Gm I w0 d ve vk vt vh c va e xa xx q vq n6 n7 J' W':=by
 have hk:=hx.keep h.at_.ok (Qn _);have hs:=h.at_.size;have hlt:=(Qg h.O);exact⟨h.at_.ext hb hx iZ,h.ext.trans hx hs,(hx _ hlt).trans h.no,(hx _ (Qg h.dr)).trans h.OB,(hb.block _ (Qg h.dr)).trans h.dr,h.cg.aR hb,(hb.block _ hlt).trans h.O,h.en.aR hb,h.st.aR hb,h.ra.mono hk,h.rx.mono hk,h.rq.mono hk⟩
theorem Gm.quiet(h:Gm I w0 d ve vk vt vh c va e xa xx q vq n6 n7 J W)(hb:Below W.heap.size W W'):Gm I w0 d ve vk vt vh c va e xa xx q vq n6 n7 J W':=h.aR hb (Ext.refl _ _) (h.at_.ok.below (Qn _) hb)
theorem Gm.ret(h:Gm I w0 d ve vk vt vh c va e xa xx q vq n6 n7 J W)(hr:qy I d ve vk vt vh){w9:World}(hg:W.grownBy w9 (some (w0.heap.size+2))){p:fU×Int}{r:Int}(hp:p=(d,r)):
 uq I w0 p.1 p.2 (.returned (.tuple #[gP d ve vk vt vh,.int .i64 r])) w9:=by
 subst hp;exact⟨ve,vk,vt,vh,J,rfl,h.at_.eU.grown hg h.at_.size (fun k e=>by cases e;omega),h.ext,h.at_.ok.grown hg (fun g e=>by cases e;exact h.no),hr.mono h.at_.keep⟩
end
abbrev NS(n m le yx cp:Nat)(ao:Option Addr)(e:bD)(xa xx:Value)(x:(Option Addr×Nat)×Nat×(Option Addr×Nat)):List (Option Tmp×Value):=
 [(some 80,.pointer (some ⟨n,3,none⟩)),(some 81,.slice ao le cp),(some 82,.slice x.1.1 le x.1.2),(some 83,iF e xa xx),(some 84,.slice (some ⟨x.2.1,0,none⟩) 1 1),(some 85,.slice x.2.2.1 yx x.2.2.2),(some 86,.pointer (some ⟨m,3,none⟩)),(none,undef)]
theorem Qq{m le yx cp:Nat}{ao:Option Addr}{xa xx:Value}{x:(Option Addr×Nat)×Nat×(Option Addr×Nat)}:bC (NS n m le yx cp ao e xa xx x):=by
 unfold bC;simp
theorem Xvp(I:IH)(hI:fG I)(d:fU)(hd:lU n d)(hn:n≤150)(ve vk vt vh:Value)(hr:qy I d ve vk vt vh)(c:ic)(hc:c.Wf)(yz:c.ag.length≤1000000)(va:Value)(gK:aZ nk I va c.ag)(w:World)(hw:Ok I w):
 Calls Tryz.prog 14 #[gP d ve vk vt vh,Bj c va] w (uq I w (gQ d c).1 (gQ d c).2):=by
 have Gn:=hd.bf (by omega);have Qr:=Qh (fun w hw=>Xrn I hI d.bf vk hr.aJ Gn (by have:=hd.aJ;omega) c va gK hc yz w hw);have lQ:=Y7 Gn hc;have pI:=Xji d.bf c;obtain⟨e,q,rO⟩:∃e q,fQ d.bf c=(e,q):=⟨_,_,rfl⟩;have fM:=Qh (Xtw rO);rw[rO]at Qr lQ pI;dsimp only at lQ pI;have qp:e.aj.length≤4294967280:=by rw[pI.2.1];exact hc.aj
 have zu:e.target.length≤4294967280:=by rw[pI.2.2.2];exact hc.target
 have jO:=hd.st;have zA:=Qh (fun J (hk:∀b c,I b=some c→J b=some c) xa xx Cn Ca w hw=>Xpi J (hI.mono hk) vt d.aF (hr.aF.mono hk) jO.GR jO.ok.aF.Ir (by have:=jO.ok.Bc;show d.stt.aF.length≤_;omega) e xa xx Cn Ca lQ qp zu w hw);have Hfb:=Qh (fun J (hk:∀b c,I b=some c→J b=some c) xa xx Cn Ca (h1:1≤e.av) w hw=>Xlj J (hI.mono hk) d ve vk vt vh (hr.aF.mono hk) (hr.holds.mono hk) jO.ok.holds (by have:=jO.ok.hlen;show d.stt.holds.length≤_;omega) e xa xx Cn Ca h1 qp w hw);have iA:=Qh (fun J (hk:∀b c,I b=some c→J b=some c) xa xx Cn Ca (h1:aX e=0) w hw=>Xow J (hI.mono hk) vh d.holds (hr.holds.mono hk) jO.ok.holds (by have:=jO.ok.hlen;show d.stt.holds.length≤_;omega) e xa xx Cn Ca h1 d.aA w hw);have qZ:=Qh (fun J (hk:∀b c,I b=some c→J b=some c) w hw=>G7 J ve d.aB (hr.aB.mono hk) w hw (by have:=hd.aB;omega));have uU:=hd.aB;have Hr:=Qh hr;have oM:=Qh (show(Tryz.prog.info? 46).map (·.size)=some 9 by kernel_rfl);obtain⟨eo,ec,rfl,_,_,_⟩:=id hr.aB;obtain⟨ko,kc,rfl,_,_,_⟩:=id hr.aJ;obtain⟨tt,tc,rfl,_,_,_⟩:=id hr.aF;obtain⟨ho,ii,rfl,_,_,_⟩:=id hr.holds;obtain⟨ao,ac,rfl,_,_,_⟩:=id gK;obtain⟨W3,tY⟩:∃W3,(((w.alloc (.cells #[.int .i64 d.num,.int .i64 d.aA,S d.bE,.slice eo d.aB.length ec,.slice ko d.bf.aJ.length kc,.int .i64 d.bf.bg,S d.bf.str,.slice tt d.aF.length tc,.slice ho d.holds.length ii] 46)).alloc (.cells #[.int .i64 c.av,S c.aj,.slice ao c.ag.length ac,S c.target,S c.aI] 53)).alloc (.cells aY 46))=W3:=⟨_,rfl⟩;obtain⟨oD,rX,pK,mF⟩:=MC w _ _ _ _ _ _ W3 tY;have A3:=Qh (show lJ I w I W3 by rw[←tY];exact(((lJ.start hw).past _).past _).past _);have SA:=Qh rX;have V8:=Qh pK;have GC:=Qh mF;obtain⟨b0,b1,b2,b3,b4,b5,b6,b7,b8⟩:=drB_row rX;obtain⟨g0,g1,g2,g3,g4⟩:=chgB_row pK;have yU:I (w.heap.size+2)=none:=hw.fresh (by omega);have V9:I w.heap.size=none:=hw.fresh (Qn _);clear hr gK rX pK mF Gn pI jO rO;go_enter Tryz.func14,Tryz.ntmps14
 go_wp2_with fail
 refine(Qr.O W3 A3.O.ok).mono ?_;rintro e1 w1 ⟨xa,xx,vq,J,rfl,aG,iY,aO,Cn,Ca,hxq⟩;obtain⟨a1,k1,rfl,_,_,_⟩:=id Cn;obtain⟨a2,k2,rfl,_,_,_⟩:=id Ca;obtain⟨a3,k3,rfl,_,_,_⟩:=id hxq;have uX:=aG.size;clear tY b0 b1 b2 b3 b4 b5 b6 b7 b8 g0 g1 g2 g3 g4
 go_upto_if 21 with(first
  |(refine fO rfl rfl 63 _ _ rfl w1.heap.size 0 (eO e (.slice a1 e.ag.length k1) (.slice a2 e.aC.length k2)) (iF e (.slice a1 e.ag.length k1) (.slice a2 e.aC.length k2)) (by simp[Act.eval]) (by simp[Act.eval]) (by rfl) cu 63 ((Below.heap_alloc _ _ _ (by simp)).trans (heap_alloc_new _ _)) (by simp) (by kernel_rfl) (by simp[Value.oneCell']) (lg e (.slice a1 e.ag.length k1) (.slice a2 e.aC.length k2)) (by rfl) ?_
    intro w2 hg2 iN)
  |(refine fO rfl rfl 43 _ _ rfl (w1.heap.size+1) 0 [.slice a3 q.aJ.length k3,.int .i64 q.bg,S q.str] (fD q (.slice a3 q.aJ.length k3)) (by simp[Act.eval]) (by simp[Act.eval]) (by rfl) #[.slice none 0 0,.int .i64 0,.string ⟨#[]⟩] 43 ((hg2.block _ (by simp) (by simp)).trans (by have h:=heap_alloc_new (w1.alloc (.cells cu 63)) (.cells #[.slice none 0 0,.int .i64 0,.string ⟨#[]⟩] 43);rwa[World.size_alloc]at h)) (by simp) (by kernel_rfl) (by simp[Value.oneCell']) #[.slice a3 q.aJ.length k3,.int .i64 q.bg,S q.str] (by rfl) ?_
    intro w3 iX jK))
 have pV:=hg2.size;have yn:=iX.size;rw[World.size_alloc,World.size_alloc]at pV;have M:=Qh (show Gm I w d (.slice eo d.aB.length ec) (.slice ko d.bf.aJ.length kc) (.slice tt d.aF.length tc) (.slice ho d.holds.length ii) c (.slice ao c.ag.length ac) e (.slice a1 e.ag.length k1) (.slice a2 e.aC.length k2) q (.slice a3 q.aJ.length k3) w1.heap.size (w1.heap.size+1) J w3 from by
  have A1:=A3.O.ext aG iY aO;have A2:=(A1.past (.cells cu 63)).past (.cells #[.slice none 0 0,.int .i64 0,.string ⟨#[]⟩] 43);have e6:J w1.heap.size=none:=aO.fresh (Qn _);have e7:J (w1.heap.size+1)=none:=aO.fresh (by omega);have hz:∀b,b<w1.heap.size→w3.heap[b]?=w1.heap[b]? :=fun b hb=>(iX.block b (by omega) (fun h=>by injection h with h;omega)).trans ((hg2.block b (by simp;omega) (fun h=>by injection h with h;omega)).trans ((Below.heap_alloc _ _ _ (by simp;omega)).trans (Below.heap_alloc _ _ _ hb)));have qL:∀b,b<W3.heap.size→w3.heap[b]?=W3.heap[b]? :=fun b hb=>(hz b (by omega)).trans (aG.block b hb)
  exact⟨⟨(A2.ok.grown hg2 (fun g h=>by cases h;exact e6)).grown iX (fun g h=>by cases h;exact e7),A1.keep,(A2.eU.grown hg2 (by simp;omega) (fun k h=>by cases h;omega)).grown iX (by omega) (fun k h=>by cases h;omega)⟩,
   iY.mono (by omega),(iY _ (by omega)).trans yU,(iY _ (by omega)).trans V9,(qL _ (by omega)).trans SA.O,chgB_row ((qL _ (by omega)).trans V8.O),(qL _ (by omega)).trans GC.O,
   entB_row ((iX.block _ (by omega) (fun h=>by injection h with h;omega)).trans iN),stoB_row jK,Cn,Ca,hxq⟩)
 clear pV yn hg2 iX iN jK aG iY aO Cn Ca hxq SA V8 GC A3 yU V9 oD Qr;obtain⟨r,Fb⟩:∃r,aX e=r:=⟨_,rfl⟩;rw[Fb]at fM iA ⊢;by_cases h0:r=0;case neg=>
  have f1:(r !=0)=true:=by simpa using h0
  have Hn:=Qh (fM.O.trans (if_pos h0));clear fM h0;obtain⟨b0,b1,b2,b3,b4,b5,b6,b7,b8⟩:=drB_row (d:=d) M.O.dr;have bR:=M.O.O
  go_wp2_with (refine fO rfl rfl 46 _ _ rfl (w.heap.size+2) 0 (dA d (.slice eo d.aB.length ec) (.slice ko d.bf.aJ.length kc) (.slice tt d.aF.length tc) (.slice ho d.holds.length ii)) (gP d (.slice eo d.aB.length ec) (.slice ko d.bf.aJ.length kc) (.slice tt d.aF.length tc) (.slice ho d.holds.length ii)) (by simp[Act.eval]) (by simp[Act.eval]) (by rfl) _ 46 bR (by simp) (by kernel_rfl) (by simp[Value.oneCell']) (dA d (.slice eo d.aB.length ec) (.slice ko d.bf.aJ.length kc) (.slice tt d.aF.length tc) (.slice ho d.holds.length ii)).toArray (by rfl) ?_
               intro w9 bK fB)
  refine bodyPost_ret (v:= .tuple #[gP d (.slice eo d.aB.length ec) (.slice ko d.bf.aJ.length kc) (.slice tt d.aF.length tc) (.slice ho d.holds.length ii),.int .i64 r]) ?_ rfl (M.O.ret Hr.O bK Hn.O);rw[results_cell_tmp rfl];simp[asAddr,run_loadVar_row w9 (w.heap.size+2) 46 46 _ (0,0) _ fB Tryz.underlying46 rfl oM.O]
 subst h0;replace fM:=Qh (fM.O.trans (if_neg (by decide)));have ql:=(JV Fb).1;obtain⟨g0,g1,g2,g3,g4⟩:=M.O.cg;obtain⟨B,hB⟩:∃B:Bool,decide (c.av≠1∧c.aI≠[])=B:=⟨_,rfl⟩;go_upto_region 4 with fail
 go_cut [26] (fun s26 wx=>s26= .bool B∧w3=wx)
 case first=>
  by_cases q1:c.aI=[]
  ·have i1:c.aI.isEmpty=true:=by simp[q1]
   have i2:(c.aI==[])=true:=by simp[q1]
   have gV:B=false:=by rw[←hB];exact Qf (fun h=>h.2 q1)
   subst gV;clear hB q1;go_wp2_with fail
   go_meet;exact⟨rfl,rfl⟩
  ·have i1:c.aI.isEmpty=false:=by simpa using q1
   have i2:(c.aI==[])=false:=by simpa using q1
   by_cases q2:c.av=1
   ·have i3:(c.av !=1)=false:=by simp[q2]
    have gV:B=false:=by rw[←hB];exact Qf (fun h=>h.1 q2)
    subst gV;clear hB q1 q2;go_wp2_with fail
    go_meet;exact⟨rfl,rfl⟩
   ·have i3:(c.av !=1)=true:=by simpa using q2
    have gV:B=true:=by rw[←hB];exact Qt ⟨q2,q1⟩
    subst gV;clear hB q1 q2;go_wp2_with fail
    go_meet;exact⟨rfl,rfl⟩
 case rest=>
 obtain⟨rfl,hcut⟩:=hcut;subst hcut;clear g0 g1 g2 g3 g4;cases B;case true=>
  have Hn:=Qh (fM.O.trans (if_pos (of_decide_eq_true hB)));clear fM hB;obtain⟨b0,b1,b2,b3,b4,b5,b6,b7,b8⟩:=drB_row (d:=d) M.O.dr;have bR:=M.O.O
  go_wp2_with (refine fO rfl rfl 46 _ _ rfl (w.heap.size+2) 0 (dA d (.slice eo d.aB.length ec) (.slice ko d.bf.aJ.length kc) (.slice tt d.aF.length tc) (.slice ho d.holds.length ii)) (gP d (.slice eo d.aB.length ec) (.slice ko d.bf.aJ.length kc) (.slice tt d.aF.length tc) (.slice ho d.holds.length ii)) (by simp[Act.eval]) (by simp[Act.eval]) (by rfl) _ 46 bR (by simp) (by kernel_rfl) (by simp[Value.oneCell']) (dA d (.slice eo d.aB.length ec) (.slice ko d.bf.aJ.length kc) (.slice tt d.aF.length tc) (.slice ho d.holds.length ii)).toArray (by rfl) ?_
               intro w9 bK fB)
  refine bodyPost_ret (v:= .tuple #[gP d (.slice eo d.aB.length ec) (.slice ko d.bf.aJ.length kc) (.slice tt d.aF.length tc) (.slice ho d.holds.length ii),.int .i64 1]) ?_ rfl (M.O.ret Hr.O bK Hn.O);rw[results_cell_tmp rfl];simp[asAddr,run_loadVar_row w9 (w.heap.size+2) 46 46 _ (0,0) _ fB Tryz.underlying46 rfl oM.O]
 replace fM:=Qh (fM.O.trans (if_neg (of_decide_eq_false hB)));clear hB;obtain⟨y0,y1,y2⟩:=M.O.st;obtain⟨b0,b1,b2,b3,b4,b5,b6,b7,b8⟩:=drB_row (d:=d) M.O.dr;obtain⟨B,hB⟩:∃B:Bool,decide (400≤d.aB.length∨14680064<q.str.length)=B:=⟨_,rfl⟩;go_upto_region 6 with fail
 go_cut [36] (fun s36 wx=>s36= .bool B∧w3=wx)
 case first=>
  by_cases q1:400≤d.aB.length
  ·have i1:decide ((400:Int)≤(d.aB.length:Int))=true:=Qt (by omega);have gV:B=true:=by rw[←hB];exact Qt (.inl q1)
   subst gV;clear hB q1;go_wp2_with fail
   go_meet;exact⟨rfl,rfl⟩
  ·have i1:decide ((400:Int)≤(d.aB.length:Int))=false:=Qf (by omega);by_cases q2:14680064<q.str.length
   ·have i3:decide ((14680064:Int)<(q.str.length:Int))=true:=Qt (by omega);have gV:B=true:=by rw[←hB];exact Qt (.inr q2)
    subst gV;clear hB q1 q2;go_wp2_with fail
    go_meet;exact⟨rfl,rfl⟩
   ·have i3:decide ((14680064:Int)<(q.str.length:Int))=false:=Qf (by omega);have gV:B=false:=by rw[←hB];exact Qf (by omega)
    subst gV;clear hB q1 q2;go_wp2_with fail
    go_meet;exact⟨rfl,rfl⟩
 case rest=>
 obtain⟨rfl,hcut⟩:=hcut;subst hcut;clear y0 y1 y2;cases B;case true=>
  have Hn:=Qh (fM.O.trans (if_pos (of_decide_eq_true hB)));clear fM hB b0 b1 b2 b3 b4 b5 b6 b7 b8;obtain⟨b0,b1,b2,b3,b4,b5,b6,b7,b8⟩:=drB_row (d:=d) M.O.dr;have bR:=M.O.O
  go_wp2_with (refine fO rfl rfl 46 _ _ rfl (w.heap.size+2) 0 (dA d (.slice eo d.aB.length ec) (.slice ko d.bf.aJ.length kc) (.slice tt d.aF.length tc) (.slice ho d.holds.length ii)) (gP d (.slice eo d.aB.length ec) (.slice ko d.bf.aJ.length kc) (.slice tt d.aF.length tc) (.slice ho d.holds.length ii)) (by simp[Act.eval]) (by simp[Act.eval]) (by rfl) _ 46 bR (by simp) (by kernel_rfl) (by simp[Value.oneCell']) (dA d (.slice eo d.aB.length ec) (.slice ko d.bf.aJ.length kc) (.slice tt d.aF.length tc) (.slice ho d.holds.length ii)).toArray (by rfl) ?_
               intro w9 bK fB)
  refine bodyPost_ret (v:= .tuple #[gP d (.slice eo d.aB.length ec) (.slice ko d.bf.aJ.length kc) (.slice tt d.aF.length tc) (.slice ho d.holds.length ii),.int .i64 6]) ?_ rfl (M.O.ret Hr.O bK Hn.O);rw[results_cell_tmp rfl];simp[asAddr,run_loadVar_row w9 (w.heap.size+2) 46 46 _ (0,0) _ fB Tryz.underlying46 rfl oM.O]
 replace fM:=Qh (fM.O.trans (if_neg (of_decide_eq_false hB)));clear hB;obtain⟨x0,x1,x2,x3,x4,x5,x6⟩:=M.O.en;obtain⟨t2,r2,Eo⟩:∃t2 r2,dh d.aF e=(t2,r2):=⟨_,_,rfl⟩;obtain⟨h2,r4,Rj⟩:∃h2 r4,appH d.holds e d.aA=(h2,r4):=⟨_,_,rfl⟩;obtain⟨r3,vI⟩:∃r3,rE d.stt e d.aA=r3:=⟨_,rfl⟩;have JL:fK d.stt e d.aA=if r2≠0 then(d.stt,r2)else if r3≠0 then(d.stt,r3)else if r4≠0 then(d.stt,r4)else(⟨t2,h2⟩,0):=by
  unfold fK;rw[show dh d.stt.aF e=(t2,r2)from Eo,show appH d.stt.holds e d.aA=(h2,r4)from Rj,vI]
 rw[JL]at fM;rw[Eo]at zA;rw[Rj]at iA;rw[vI]at Hfb;clear Eo Rj vI JL;go_wp2_with fail
 refine(zA.O J M.O.at_.keep _ _ M.O.ra M.O.rx w3 M.O.at_.ok).mono ?_;rintro e4 w4 ⟨Xp,J4,rfl,aS,pX,dz,Ah⟩;have M4:=Qh (M.O.aR aS pX dz);obtain⟨o4,c4,rfl,_,_,_⟩:=id Ah;clear b0 b1 b2 b3 b4 b5 b6 b7 b8 x0 x1 x2 x3 x4 x5 x6 M aS pX dz zA;go_upto_if 56 with fail
 by_cases h0:r2=0;case neg=>
  have f1:(r2 !=0)=true:=by simpa using h0
  have Hn:=Qh (show gQ d c=(d,r2) by rw[fM.O,if_pos h0,if_pos h0]);clear fM h0;obtain⟨b0,b1,b2,b3,b4,b5,b6,b7,b8⟩:=drB_row (d:=d) M4.O.dr;have bR:=M4.O.O
  go_wp2_with (refine fO rfl rfl 46 _ _ rfl (w.heap.size+2) 0 (dA d (.slice eo d.aB.length ec) (.slice ko d.bf.aJ.length kc) (.slice tt d.aF.length tc) (.slice ho d.holds.length ii)) (gP d (.slice eo d.aB.length ec) (.slice ko d.bf.aJ.length kc) (.slice tt d.aF.length tc) (.slice ho d.holds.length ii)) (by simp[Act.eval]) (by simp[Act.eval]) (by rfl) _ 46 bR (by simp) (by kernel_rfl) (by simp[Value.oneCell']) (dA d (.slice eo d.aB.length ec) (.slice ko d.bf.aJ.length kc) (.slice tt d.aF.length tc) (.slice ho d.holds.length ii)).toArray (by rfl) ?_
               intro w9 bK fB)
  refine bodyPost_ret (v:= .tuple #[gP d (.slice eo d.aB.length ec) (.slice ko d.bf.aJ.length kc) (.slice tt d.aF.length tc) (.slice ho d.holds.length ii),.int .i64 r2]) ?_ rfl (M4.O.ret Hr.O bK Hn.O);rw[results_cell_tmp rfl];simp[asAddr,run_loadVar_row w9 (w.heap.size+2) 46 46 _ (0,0) _ fB Tryz.underlying46 rfl oM.O]
 subst h0;rw[if_neg (show ¬((0:Int)≠0) by decide)]at fM;obtain⟨b0,b1,b2,b3,b4,b5,b6,b7,b8⟩:=drB_row (d:=d) M4.O.dr;obtain⟨x0,x1,x2,x3,x4,x5,x6⟩:=M4.O.en;go_wp2_with fail
 refine(Hfb.O J4 M4.O.at_.keep _ _ M4.O.ra M4.O.rx ql w4 M4.O.at_.ok).mono ?_;rintro e5 w5 ⟨rfl,df⟩;have M5:=Qh (M4.O.quiet df);clear b0 b1 b2 b3 b4 b5 b6 b7 b8 x0 x1 x2 x3 x4 x5 x6 M4 df Hfb;go_upto_if 63 with fail
 by_cases h0:r3=0;case neg=>
  have f1:(r3 !=0)=true:=by simpa using h0
  have Hn:=Qh (show gQ d c=(d,r3) by rw[fM.O,if_pos h0,if_pos h0]);clear fM h0;obtain⟨b0,b1,b2,b3,b4,b5,b6,b7,b8⟩:=drB_row (d:=d) M5.O.dr;have bR:=M5.O.O
  go_wp2_with (refine fO rfl rfl 46 _ _ rfl (w.heap.size+2) 0 (dA d (.slice eo d.aB.length ec) (.slice ko d.bf.aJ.length kc) (.slice tt d.aF.length tc) (.slice ho d.holds.length ii)) (gP d (.slice eo d.aB.length ec) (.slice ko d.bf.aJ.length kc) (.slice tt d.aF.length tc) (.slice ho d.holds.length ii)) (by simp[Act.eval]) (by simp[Act.eval]) (by rfl) _ 46 bR (by simp) (by kernel_rfl) (by simp[Value.oneCell']) (dA d (.slice eo d.aB.length ec) (.slice ko d.bf.aJ.length kc) (.slice tt d.aF.length tc) (.slice ho d.holds.length ii)).toArray (by rfl) ?_
               intro w9 bK fB)
  refine bodyPost_ret (v:= .tuple #[gP d (.slice eo d.aB.length ec) (.slice ko d.bf.aJ.length kc) (.slice tt d.aF.length tc) (.slice ho d.holds.length ii),.int .i64 r3]) ?_ rfl (M5.O.ret Hr.O bK Hn.O);rw[results_cell_tmp rfl];simp[asAddr,run_loadVar_row w9 (w.heap.size+2) 46 46 _ (0,0) _ fB Tryz.underlying46 rfl oM.O]
 subst h0;rw[if_neg (show ¬((0:Int)≠0) by decide)]at fM;obtain⟨b0,b1,b2,b3,b4,b5,b6,b7,b8⟩:=drB_row (d:=d) M5.O.dr;obtain⟨x0,x1,x2,x3,x4,x5,x6⟩:=M5.O.en;go_wp2_with fail
 refine(iA.O J4 M5.O.at_.keep _ _ M5.O.ra M5.O.rx trivial w5 M5.O.at_.ok).mono ?_;rintro e6 w6 ⟨vh2,J6,rfl,gF,kW,fF,Be⟩;have M6:=Qh (M5.O.aR gF kW fF);have Qs:=Ah.mono (kW.keep M5.O.at_.ok (Qn _));obtain⟨o6,c6,rfl,_,_,_⟩:=id Be;clear b0 b1 b2 b3 b4 b5 b6 b7 b8 x0 x1 x2 x3 x4 x5 x6 M5 gF kW fF iA Ah;go_upto_if 76 with fail
 by_cases h0:r4=0;case neg=>
  have f1:(r4 !=0)=true:=by simpa using h0
  have Hn:=Qh (show gQ d c=(d,r4) by rw[fM.O,if_pos h0,if_pos h0]);clear fM h0;obtain⟨b0,b1,b2,b3,b4,b5,b6,b7,b8⟩:=drB_row (d:=d) M6.O.dr;have bR:=M6.O.O
  go_wp2_with (refine fO rfl rfl 46 _ _ rfl (w.heap.size+2) 0 (dA d (.slice eo d.aB.length ec) (.slice ko d.bf.aJ.length kc) (.slice tt d.aF.length tc) (.slice ho d.holds.length ii)) (gP d (.slice eo d.aB.length ec) (.slice ko d.bf.aJ.length kc) (.slice tt d.aF.length tc) (.slice ho d.holds.length ii)) (by simp[Act.eval]) (by simp[Act.eval]) (by rfl) _ 46 bR (by simp) (by kernel_rfl) (by simp[Value.oneCell']) (dA d (.slice eo d.aB.length ec) (.slice ko d.bf.aJ.length kc) (.slice tt d.aF.length tc) (.slice ho d.holds.length ii)).toArray (by rfl) ?_
               intro w9 bK fB)
  refine bodyPost_ret (v:= .tuple #[gP d (.slice eo d.aB.length ec) (.slice ko d.bf.aJ.length kc) (.slice tt d.aF.length tc) (.slice ho d.holds.length ii),.int .i64 r4]) ?_ rfl (M6.O.ret Hr.O bK Hn.O);rw[results_cell_tmp rfl];simp[asAddr,run_loadVar_row w9 (w.heap.size+2) 46 46 _ (0,0) _ fB Tryz.underlying46 rfl oM.O]
 subst h0;have Hn:=Qh (show gQ d c=(⟨d.num,d.aA,d.bE,d.aB++[e],q,t2,h2⟩,0) by rw[fM.O];rfl);clear fM;obtain⟨b0,b1,b2,b3,b4,b5,b6,b7,b8⟩:=drB_row (d:=d) M6.O.dr
 go_wp2_with (refine fO rfl rfl 46 _ _ rfl w6.heap.size 0 (dA d (.slice eo d.aB.length ec) (.slice ko d.bf.aJ.length kc) (.slice tt d.aF.length tc) (.slice ho d.holds.length ii)) (gP d (.slice eo d.aB.length ec) (.slice ko d.bf.aJ.length kc) (.slice tt d.aF.length tc) (.slice ho d.holds.length ii)) (by simp[Act.eval]) (by simp[Act.eval]) (by rfl) aY 46 (heap_alloc_new _ _) (by simp) (by kernel_rfl) (by simp[Value.oneCell']) (dA d (.slice eo d.aB.length ec) (.slice ko d.bf.aJ.length kc) (.slice tt d.aF.length tc) (.slice ho d.holds.length ii)).toArray (by rfl) ?_
              intro mf nY tH)
 have iJ:Below w6.heap.size w6 mf:=((Qb _ _).alloc (Qn _) _).grown nY (by simp) (fun k e=>by injection e with e;omega);have l8:=Qh (M6.O.quiet iJ);have CU:w6.heap.size<mf.heap.size:=(Qg tH);have vK:=M6.O.at_.size;clear b0 b1 b2 b3 b4 b5 b6 b7 b8 nY;have b3:=(drB_row (d:=d) l8.O.dr).c3;obtain⟨x0,x1,x2,x3,x4,x5,x6⟩:=l8.O.en;refine qR (X:=(Option Addr×Nat)×Nat×(Option Addr×Nat)) (NS w.heap.size w6.heap.size d.aB.length ((d.aB++[e]).length) ec eo e (.slice a1 e.ag.length k1) (.slice a2 e.aC.length k2)) (jX mf 2 5 4 5 5 231 222 232 (fun x w=>x.2.1<w.heap.size) (fun x w=>aQ bM 63 J6 w mf.heap.size (.slice x.1.1 d.aB.length x.1.2) d.aB∧(Value.slice x.1.1 d.aB.length x.1.2).ownBlock≠some x.2.1) (fun x w=>w.heap[x.2.1]?=some (.cells (lg e (.slice a1 e.ag.length k1) (.slice a2 e.aC.length k2)) 63 (0,0))) (fun x w=>aQ bM 63 J6 w mf.heap.size (.slice x.2.2.1 (d.aB++[e]).length x.2.2.2) (d.aB++[e])) (fun _ _=>True) (fun x w=>aQ bM 63 J6 w mf.heap.size (.slice x.2.2.1 (d.aB++[e]).length x.2.2.2) (d.aB++[e])) (fun x=>w6.heap.size) 46 7 209 210 (fun x=> #[.int .i64 d.num,.int .i64 d.aA,S d.bE,.slice x.2.2.1 (d.aB++[e]).length x.2.2.2,.slice ko d.bf.aJ.length kc,.int .i64 d.bf.bg,S d.bf.str,.slice tt d.aF.length tc,.slice ho d.holds.length ii]) (fun x=> #[.int .i64 d.num,.int .i64 d.aA,S d.bE,.slice x.2.2.1 (d.aB++[e]).length x.2.2.2,.slice ko d.bf.aJ.length kc,.int .i64 d.bf.bg,S d.bf.str,.slice tt d.aF.length tc,.slice ho d.holds.length ii]) (fun x=> #[.int .i64 d.num,.int .i64 d.aA,S d.bE,.slice x.2.2.1 (d.aB++[e]).length x.2.2.2,.slice ko d.bf.aJ.length kc,.int .i64 d.bf.bg,S d.bf.str,.slice tt d.aF.length tc,.slice ho d.holds.length ii])) (by kernel_rfl) (by kernel_rfl) ?_ ?_ ?_
 ·exact⟨(default,0,default),jX.start _ _ (show 0<mf.heap.size by omega)⟩
 ·rintro x s' a' w' i bS bO ha hC hi;obtain⟨aH,oi,dI,au⟩:=mem_ready.1 hi;have ev:=vV Qq ha;have hlt:=oO aH;rcases i with _|_|_|_|_|_|_|_|i
  rotate_left 8
  ·simp at dI
  all_goals
   have dH:=dI;simp at dI;subst dI;simp[Region.binds]at au;try have hl:=kz 6 7 bO (by decide+kernel) aH
   try have aT:=hC.off hl
   try have b3:=aV aT b3
   try have x0:=aV aT x0
   try have x1:=aV aT x1
   try have x2:=aV aT x2
   try have x3:=aV aT x3
   try have x4:=aV aT x4
   try have x5:=aV aT x5
   try have x6:=aV aT x6
   refine wpOp_step dH (fun K' hK=> ?_);rw[if_pos (by rfl)]
  rotate_left 2
  ·unfold Oper.wp;simp[go_sem,ev,dG,au,Oper.upon];refine(qZ.O J6 l8.O.at_.keep w' (l8.O.at_.ok.below (Qn _) aT)).mono ?_;rintro r4 w4 ⟨v7,rfl,ho,aS⟩;obtain⟨a7,k7,rfl⟩:=wT ho;have ha:=ha.trans (lT (L:=NS w.heap.size w6.heap.size d.aB.length ((d.aB++[e]).length) ec eo e (.slice a1 e.ag.length k1) (.slice a2 e.aC.length k2) x) (M:=NS w.heap.size w6.heap.size d.aB.length ((d.aB++[e]).length) ec eo e (.slice a1 e.ag.length k1) (.slice a2 e.aC.length k2) ((a7,k7),x.2)) [2] rfl (fun j bq=>by
    rcases j with _|_|_|_|_|_|_|_|j<;>first|rfl|(exact absurd (by decide) bq)|simp) (List.forall_mem_cons.2 ⟨gG aH,List.forall_mem_nil _⟩))
   exact hK _ _ ⟨((a7,k7),x.2),gD Qq ha rfl aH,hC.step hl (aT.trans (aS.mono aT.size)) (by decide) (fun h=>Nat.lt_of_lt_of_le h aS.size) (fun _ _=>⟨ho.lower aT.size,fun q=>by have h8:w'.heap.size≤x.2.1:=ho.rf q;have h9:x.2.1<w'.heap.size:=hC.inv hl;omega⟩) (fun h _=>h.elim (fun e=>absurd e (by decide)) (fun⟨_,_,q⟩=>(aS.block _ (Qg q)).trans q)) (fun h _=>h.elim (fun e=>absurd e (by decide)) (fun⟨_,_,q⟩=>q.below aS)) (fun _ _=>trivial) hlt⟩
  rotate_left 1
  ·unfold Oper.wp;simp[go_sem,ev,dG,au,Oper.upon,b3,x0,x1,x2,x3,x4,x5,x6];have ha:=ha.trans (lT (L:=NS w.heap.size w6.heap.size d.aB.length ((d.aB++[e]).length) ec eo e (.slice a1 e.ag.length k1) (.slice a2 e.aC.length k2) x) (M:=NS w.heap.size w6.heap.size d.aB.length ((d.aB++[e]).length) ec eo e (.slice a1 e.ag.length k1) (.slice a2 e.aC.length k2) (x.1,w'.heap.size,x.2.2)) [4] rfl (fun j bq=>by
    rcases j with _|_|_|_|_|_|_|_|j<;>first|rfl|(exact absurd (by decide) bq)|simp) (List.forall_mem_cons.2 ⟨gG aH,List.forall_mem_nil _⟩))
   exact hK _ _ ⟨(x.1,w'.heap.size,x.2.2),gD Qq ha rfl aH,hC.step hl (aT.trans (((Qb _ _).alloc (Qn _) _).mono aT.size)) (by decide) (fun _=>by simp) (fun h _=>h.elim (fun e=>absurd e (by decide)) (fun⟨_,_,q⟩=>⟨q.1.alloc _,fun r=>absurd (xk q.1 r).2 (Nat.lt_irrefl _)⟩)) (fun _ _=>heap_alloc_new _ _) (fun h _=>h.elim (fun e=>absurd e (by decide)) (fun⟨_,_,q⟩=>q.alloc _)) (fun _ _=>trivial) hlt⟩
  ·have h1:=hC.f1 (by first|simpa using au|simp[au]) (gG aH) hl;have h2:=hC.f2 (by first|simpa using au|simp[au]) (gG aH) hl;refine G8 yg _ _ rfl (by simp[Act.eval,ev,dG,au]) h1.1 (by simp[Act.eval,ev,dG,au]) (jY.mo (T:=bM) (x:=e) (cs:=eO e (.slice a1 e.ag.length k1) (.slice a2 e.aC.length k2)) ⟨_,_,rfl,l8.O.ra,l8.O.rx⟩ (fun j u hu=>(cell_of_row w' _ j _ _ _ h2).trans (by simpa using hu))) (by simp only[List.length_nil,List.length_cons];omega) (by simp only[List.length_nil,List.length_cons];omega) aT.size ?_;rintro v9 w9 kV bK l7;obtain⟨a9,k9,rfl⟩:=wT kV;have ha:=ha.trans (lT (L:=NS w.heap.size w6.heap.size d.aB.length ((d.aB++[e]).length) ec eo e (.slice a1 e.ag.length k1) (.slice a2 e.aC.length k2) x) (M:=NS w.heap.size w6.heap.size d.aB.length ((d.aB++[e]).length) ec eo e (.slice a1 e.ag.length k1) (.slice a2 e.aC.length k2) (x.1,x.2.1,(a9,k9))) [5] rfl (fun j bq=>by
    rcases j with _|_|_|_|_|_|_|_|j<;>first|rfl|(exact absurd (by decide) bq)|simp) (List.forall_mem_cons.2 ⟨gG aH,List.forall_mem_nil _⟩))
   exact hK _ _ ⟨(x.1,x.2.1,(a9,k9)),gD Qq ha rfl aH,hC.step hl (aT.grown bK aT.size (fun k e=>(xk h1.1 e).1)) (by decide) (fun h=>Nat.lt_of_lt_of_le h bK.size) (fun _ h=>absurd rfl h) (fun _ h=>absurd rfl h) (fun _ _=>kV) (fun _ _=>trivial) hlt⟩
  rotate_left 1
  ·have aK:w'.heap[w6.heap.size]?=some (.cells _ 46 (0,0)):=(aT.block _ (Qg tH)).trans tH;refine oK 40 _ _ rfl (w6.heap.size) 3 [.slice x.2.2.1 (d.aB++[e]).length x.2.2.2] (.slice x.2.2.1 (d.aB++[e]).length x.2.2.2) (by simp[Act.eval,ev,dG,au]) (by simp[Act.eval,ev,dG,au]) (by rfl) _ _ aK (by simp) (by kernel_rfl) (by simp[Value.oneCell']) ?_;exact hK _ _ ⟨x,dS (d:=none) (v:=undef) Qq ha rfl aH,hC.jP aH (hC.f3 (by first|simpa using au|simp[au]) (gX (by simp[bS])) hl) (gX (by simp[bS])) (gX (by simp[bS])) (by decide) aK (by rfl)⟩
  all_goals
   unfold Oper.wp;first
   |(simp[go_sem,ev,dG,au,Oper.upon,b3,x0,x1,x2,x3,x4,x5,x6];exact hK _ _ ⟨x,gD Qq ha rfl aH,hC.pure (by decide)⟩)
   |(simp[go_sem,ev,dG,Oper.upon,b3,x0,x1,x2,x3,x4,x5,x6];exact hK _ _ ⟨x,gD Qq ha rfl aH,hC.pure (by decide)⟩)
 ·rintro x s' a' sM eu ha hC;obtain⟨wb,eG,ed,dR,aK⟩:=hC.on (eu 7 (by decide));simp only[ite_self]at aK;rw[qz _ _ _ _ (fun i hi=>by rw[Nat.zero_add];exact eu i (by simpa using hi))]at ha;subst ha;simp only[dE,Act.put,List.setIfInBounds_toArray,List.set_cons_succ,List.set_cons_zero];obtain⟨xv,xb,o9,k9⟩:=x;dsimp only at ed dR aK ⊢;have mO:Below w6.heap.size w6 sM:=(iJ.trans (eG.mono (by omega))).grown dR (by have:=eG.size;omega) (fun k e=>by injection e with e;omega);have vT:=Qh (M6.O.quiet mO);have HO:=Qh (ed.kept dR (.inr (ed.dm CU)));have aen:=mO.size;have akl:=(Qg aK);obtain⟨y0,y1,y2⟩:=vT.O.st;have kg:=(Qg M6.O.O);clear hC eu dR eG iJ ed b3 x0 x1 x2 x3 x4 x5 x6
  go_wp2_with (first
   |(refine fO rfl rfl 43 _ _ rfl w6.heap.size 4 [.slice a3 q.aJ.length k3,.int .i64 q.bg,S q.str] (fD q (.slice a3 q.aJ.length k3)) (by simp[Act.eval]) (by simp[Act.eval]) (by rfl) _ 46 aK (by simp) (by kernel_rfl) (by simp[Value.oneCell']) #[.int .i64 d.num,.int .i64 d.aA,S d.bE,.slice o9 (d.aB++[e]).length k9,.slice a3 q.aJ.length k3,.int .i64 q.bg,S q.str,.slice tt d.aF.length tc,.slice ho d.holds.length ii] (by rfl) ?_
     intro Tn iK zz)
   |(refine fO rfl rfl 40 _ _ rfl w6.heap.size 7 [.slice o4 t2.length c4] (.slice o4 t2.length c4) (by simp[Act.eval]) (by simp[Act.eval]) (by rfl) _ 46 zz (by simp) (by kernel_rfl) (by simp[Value.oneCell']) #[.int .i64 d.num,.int .i64 d.aA,S d.bE,.slice o9 (d.aB++[e]).length k9,.slice a3 q.aJ.length k3,.int .i64 q.bg,S q.str,.slice o4 t2.length c4,.slice ho d.holds.length ii] (by rfl) ?_
     intro w13 qG FU)
   |(refine fO rfl rfl 44 _ _ rfl w6.heap.size 8 [.slice o6 h2.length c6] (.slice o6 h2.length c6) (by simp[Act.eval]) (by simp[Act.eval]) (by rfl) _ 46 FU (by simp) (by kernel_rfl) (by simp[Value.oneCell']) (dA (⟨d.num,d.aA,d.bE,d.aB++[e],q,t2,h2⟩:fU) (.slice o9 (d.aB++[e]).length k9) (.slice a3 q.aJ.length k3) (.slice o4 t2.length c4) (.slice o6 h2.length c6)).toArray (by rfl) ?_
     intro Qp qH FV;obtain⟨z0,z1,z2,z3,z4,z5,z6,z7,z8⟩:=drB_row (d:=(⟨d.num,d.aA,d.bE,d.aB++[e],q,t2,h2⟩:fU)) FV;have VZ:=iK.size;have V5:=qG.size;have V6:=qH.size;have bR:=(qH.block (w.heap.size+2) (by omega) (fun h=>by injection h with h;omega)).trans ((qG.block _ (by omega) (fun h=>by injection h with h;omega)).trans ((iK.block _ (by omega) (fun h=>by injection h with h;omega)).trans vT.O.O)))
   |(refine fO rfl rfl 46 _ _ rfl (w.heap.size+2) 0 (dA (⟨d.num,d.aA,d.bE,d.aB++[e],q,t2,h2⟩:fU) (.slice o9 (d.aB++[e]).length k9) (.slice a3 q.aJ.length k3) (.slice o4 t2.length c4) (.slice o6 h2.length c6)) (gP (⟨d.num,d.aA,d.bE,d.aB++[e],q,t2,h2⟩:fU) (.slice o9 (d.aB++[e]).length k9) (.slice a3 q.aJ.length k3) (.slice o4 t2.length c4) (.slice o6 h2.length c6)) (by simp[Act.eval]) (by simp[Act.eval]) (by rfl) _ 46 bR (by simp) (by kernel_rfl) (by simp[Value.oneCell']) (dA (⟨d.num,d.aA,d.bE,d.aB++[e],q,t2,h2⟩:fU) (.slice o9 (d.aB++[e]).length k9) (.slice a3 q.aJ.length k3) (.slice o4 t2.length c4) (.slice o6 h2.length c6)).toArray (by rfl) ?_
     intro Wd DV Qu))
  refine bodyPost_ret (v:= .tuple #[gP (⟨d.num,d.aA,d.bE,d.aB++[e],q,t2,h2⟩:fU) (.slice o9 (d.aB++[e]).length k9) (.slice a3 q.aJ.length k3) (.slice o4 t2.length c4) (.slice o6 h2.length c6),.int .i64 0]) ?_ rfl ?_
  ·rw[results_cell_tmp rfl];simp[asAddr,run_loadVar_row Wd (w.heap.size+2) 46 46 _ (0,0) _ Qu Tryz.underlying46 rfl oM.O]
  ·have q6:J6 w6.heap.size=none:=M6.O.at_.ok.fresh (Qn _);have Jr:Ok J6 Wd:=(((vT.O.at_.ok.grown iK (fun g h=>by injection h with h;subst h;exact q6)).grown qG (fun g h=>by injection h with h;subst h;exact q6)).grown qH (fun g h=>by injection h with h;subst h;exact q6)).grown DV (fun g h=>by injection h with h;subst h;exact M6.O.no);have Qv:=(((HO.O.kept iK (.inr (HO.O.dm CU))).kept qG (.inr (HO.O.dm CU))).kept qH (.inr (HO.O.dm CU))).kept DV (.inr (HO.O.dm (by omega)));obtain⟨J7,jL,eY,gN,_⟩:=Qv.freeze Jr (fun b hb=>M6.O.at_.ok.fresh (by omega));have zB:=jL.keep l8.O.at_.ok (Qn _);rw[Hn.O]
   exact⟨_,_,_,_,J7,rfl,(((vT.O.at_.eU.grown iK (by omega) (fun k h=>by injection h with h;omega)).grown qG (by omega) (fun k h=>by injection h with h;omega)).grown qH (by omega) (fun k h=>by injection h with h;omega)).grown DV (by omega) (fun k h=>by injection h with h;omega),
    M6.O.ext.trans jL (by omega),eY,⟨gN,vT.O.rq.mono zB,Qs.mono zB,Be.mono zB⟩⟩
theorem SC(W:World)(n:Nat)(hn:n=W.heap.size):aQ ku 106 I (W.alloc (.cells #[] 106)) n (.slice (some ⟨n,0,none⟩) 0 0) []:=by
 subst hn;exact⟨[],World.ownsRow_made W #[] 0 (Qn _) (Nat.zero_le _) (by simp),dF.nil _ _⟩
theorem Xqu(hk:k<l.length)(hx:l[k]=x):ig (l.take (k+1)) p d=(ig (l.take k) p d || (decide (d≤x.u)&&under p x.p)):=by
 rw[List.take_succ_eq_append_getElem hk,hx];simp[ig,bY]
theorem Xof(hk:k<l.length)(hx:l[k]=x):lh (l.take (k+1)) p d=(lh (l.take k) p d || (decide (d≤x.u)&&under x.p p)):=by
 rw[List.take_succ_eq_append_getElem hk,hx];simp[lh,bY]
theorem Xsr(hk:k<l.length)(hx:l[k]=x)(h1:decide (d≤x.u)=true)(h2:under p x.p=true):ig l p d=true:=by
 unfold ig;rw[List.any_eq_true];exact⟨x,List.mem_filter.2 ⟨by rw[←hx];exact List.getElem_mem hk,h1⟩,h2⟩
theorem Xq3(hk:k<l.length)(hx:l[k]=x)(h1:decide (d≤x.u)=true)(h2:under x.p p=true):lh l p d=true:=by
 unfold lh;rw[List.any_eq_true];exact⟨x,List.mem_filter.2 ⟨by rw[←hx];exact List.getElem_mem hk,h1⟩,h2⟩
theorem Xre{u U:Int}(hk:k<l.length)(hx:l[k]=x)(h:oG p (l.drop k) u=U):oG p (l.drop (k+1)) (if x.p=p then x.u else u)=U:=by
 rw[List.drop_eq_getElem_cons hk,hx,oG]at h;exact h
theorem Xgx(I:IH)(v:Value)(l:List Ho)(hv:aZ ku I v l)(hn:l.length≤100000)(d:Int)(w:World)(hw:Ok I w):
 Calls Tryz.prog 30 #[v,.int .i64 d] w fun e w'=> ∃v',e= .returned v'∧aQ ku 106 I w' w.heap.size v' (bY l d)∧Below w.heap.size w w':=by
 obtain⟨ao,cap,rfl,fu,iv,_⟩:=id hv;have Hv:=Qh hv;clear hv;have H0:=Qh (SC (I:=I) w w.heap.size rfl);go_enter Tryz.func30,Tryz.ntmps30
 go_wp2_with fail
 go_loopw [5,6] (fun s5 s6 wr=> ∃k:Nat,k≤l.length∧s6= .int .i64 k∧aQ ku 106 I wr w.heap.size s5 (bY (l.take k) d)∧Below w.heap.size w wr) (fun _ i _=>l.length-(intOf i).toNat)
 case atStart=>exact⟨0,Nat.zero_le _,rfl,H0.O,(Qb _ _).alloc (Qn _) _⟩
 case round=>
  clear H0;obtain⟨k,hk,rfl,bU,hb⟩:=hrel;have di:=Qh bU;clear bU;have pI:(bY (l.take k) d).length≤k:=Nat.le_trans (List.length_filter_le _ _) (by simp;omega);by_cases hlt:k<l.length
  ·obtain⟨x,b,off,cap',cB,dC,c0,c1⟩:=yu Hv.O (hw.below (Qn _) hb) k hlt;cases dC;have bI:=Qh (Xgq (fun h=>decide (d≤h.u)) hlt cB);clear cB;cases hq:decide (d≤x.u)
   ·have Hn:=Qh (show bY (l.take (k+1)) d=bY (l.take k) d from Xn7 bI.O hq);go_wp2;go_roundw;case rel=>exact⟨k+1,by omega,by go_num,di.O.wh Hn.O.symm,hb⟩
    case measure=>simp[intOf];omega
   ·have Hn:=Qh (show bY (l.take (k+1)) d=bY (l.take k) d++[x]from Xkj bI.O hq);have uX:=hb.size;go_wp2_with (at_builtin;refine qX (w0:=wr) EE rfl _ _ rfl _ _ _ rfl di.O x [S x.p,.int .i64 x.u] _ rfl rfl (by omega) (by omega) uX ?_)
    intro v9 w9 bX bK;have iO:=Below.own hb bK di.O (Qn _) uX;go_wp2;go_roundw;case rel=>exact⟨k+1,by omega,by go_num,bX.wh Hn.O.symm,iO⟩
    case measure=>simp[intOf];omega
  ·have au:l.take k=l:=List.take_of_length_le (by omega);rw[au]at di;clear au pI;go_wp2;go_ret;exact⟨_,rfl,di.O,hb⟩
theorem Xqb(I:IH)(v:Value)(l:List Ho)(hv:aZ ku I v l)(hn:l.length≤100000)(p:af)(d:Int)(w:World)(hw:Ok I w):
 Calls Tryz.prog 93 #[v,S p,.int .i64 d] w fun e w'=>e= .returned (.bool (ig l p d))∧Below w.heap.size w w':=by
 obtain⟨ao,cap,rfl,fu,iv,_⟩:=id hv;have Hv:=Qh hv;clear hv;go_enter Tryz.func93,Tryz.ntmps93
 go_wp2_with fail
 go_loopw [7] (fun s7 wr=> ∃k:Nat,k≤l.length∧s7= .int .i64 k∧ig (l.take k) p d=false∧Below w.heap.size w wr) (fun i _=>l.length-(intOf i).toNat)
 case atStart=>exact⟨0,Nat.zero_le _,rfl,rfl,Qb _ _⟩
 case round=>
  obtain⟨k,hk,rfl,hr,hb⟩:=hrel;have Hr:=Qh hr;clear hr;have eX:Ok I wr:=hw.below (Qn _) hb;by_cases hlt:k<l.length
  ·obtain⟨x,b,off,cap',cB,dC,c0,c1⟩:=yu Hv.O eX k hlt;cases dC;have bI:=Qh (Xqu (p:=p) (d:=d) hlt cB);have pM:=Qh cB;have Po:=Qh (fun w hw=>X7 I p x.p w hw);clear cB;cases hq:decide (d≤x.u)
   ·have Hn:=Qh (show ig (l.take (k+1)) p d=false by rw[bI.O,Hr.O,hq];rfl);go_wp2;go_roundw;case rel=>exact⟨k+1,by omega,by go_num,Hn.O,hb⟩
    case measure=>simp[intOf];omega
   ·go_wp2_with fail
    refine(Po.O _ eX).mono ?_;rintro e1 w1 ⟨rfl,aG⟩;have aM:=hb.trans (aG.mono hb.size);clear aG;cases hu:under p x.p
    ·have Hn:=Qh (show ig (l.take (k+1)) p d=false by rw[bI.O,Hr.O,hq,hu];rfl);go_wp2;go_roundw;case rel=>exact⟨k+1,by omega,by go_num,Hn.O,aM⟩
     case measure=>simp[intOf];omega
    ·have Hn:=Qh (Xsr (p:=p) (d:=d) hlt pM.O hq hu);go_wp2;go_ret;exact⟨jr Hn.O.symm,aM⟩
  ·have Hn:=Qh (show ig l p d=false by have:=Hr.O;rwa[List.take_of_length_le (by omega)]at this);go_wp2;go_ret;exact⟨jr Hn.O.symm,hb⟩
theorem Xkd(I:IH)(v:Value)(l:List Ho)(hv:aZ ku I v l)(hn:l.length≤100000)(e:bD)(va vx:Value)(gK:aZ nk I va e.ag)(kw:aZ mU I vx e.aC)(d:Int)(w:World)(hw:Ok I w):
 Calls Tryz.prog 44 #[v,iF e va vx,.int .i64 d] w fun r w'=>r= .returned (.int .i64 (kE l e.av e.aj d))∧Below w.heap.size w w':=by
 have Hh:=Qh (fun w hw=>Xqb I v l hv hn e.aj d w hw);obtain⟨ao,cap,rfl,fu,iv,_⟩:=id hv;obtain⟨aa,ca,rfl,_,_,_⟩:=id gK;obtain⟨ax,cx,rfl,_,_,_⟩:=id kw;have Hv:=Qh hv;clear hv gK kw;by_cases h1:e.av=1
 ·have k1:((e.av:Int)==1)=true:=by simpa using h1
  have k4:((e.av:Int)==4)=false:=by have:e.av≠4:=by omega
                                    simpa using this
  have Hn:=Qh (show kE l e.av e.aj d=if ig l e.aj d then 15 else 0 by rw[kE,if_pos (.inl h1)]);generalize ig l e.aj d=b at Hh Hn;clear h1;go_enter Tryz.func44,Tryz.ntmps44
  go_wp2_with fail
  refine(Hh.O _ (hw.alloc _)).mono ?_;rintro e1 w1 ⟨rfl,aG⟩;have kJ:=Qh (dP (e:=e) rfl aG);have aO:Ok I w1:=(hw.alloc _).below (Qn _) aG;have aM:=((Qb w.heap.size w).alloc (Qn _) (.cells #[.int .i64 e.av,S e.aj,.slice aa e.ag.length ca,S e.target,.int .i64 e.size,S e.aD,.slice ax e.aC.length cx] 63)).trans (aG.mono (by simp));clear aG;obtain⟨c0,c1,c2,c3,c4,c5,c6⟩:=kJ.O;cases b
  ·go_wp2;go_ret;exact⟨dZ Hn.O.symm,aM⟩
  ·go_wp2;go_ret;exact⟨dZ Hn.O.symm,aM⟩
 have k1:((e.av:Int)==1)=false:=by simpa using h1
 by_cases h2:e.av=2
 ·have k2:((e.av:Int)==2)=true:=by simpa using h2
  have k4:((e.av:Int)==4)=false:=by have:e.av≠4:=by omega
                                    simpa using this
  have Hn:=Qh (show kE l e.av e.aj d=if ig l e.aj d then 15 else 0 by rw[kE,if_pos (.inr (.inl h2))]);generalize ig l e.aj d=b at Hh Hn;clear h1 h2;go_enter Tryz.func44,Tryz.ntmps44
  go_wp2_with fail
  refine(Hh.O _ (hw.alloc _)).mono ?_;rintro e1 w1 ⟨rfl,aG⟩;have kJ:=Qh (dP (e:=e) rfl aG);have aO:Ok I w1:=(hw.alloc _).below (Qn _) aG;have aM:=((Qb w.heap.size w).alloc (Qn _) (.cells #[.int .i64 e.av,S e.aj,.slice aa e.ag.length ca,S e.target,.int .i64 e.size,S e.aD,.slice ax e.aC.length cx] 63)).trans (aG.mono (by simp));clear aG;obtain⟨c0,c1,c2,c3,c4,c5,c6⟩:=kJ.O;cases b
  ·go_wp2;go_ret;exact⟨dZ Hn.O.symm,aM⟩
  ·go_wp2;go_ret;exact⟨dZ Hn.O.symm,aM⟩
 have k2:((e.av:Int)==2)=false:=by simpa using h2
 by_cases h3:e.av=3
 ·have k3:((e.av:Int)==3)=true:=by simpa using h3
  have k4:((e.av:Int)==4)=false:=by have:e.av≠4:=by omega
                                    simpa using this
  have Hn:=Qh (show kE l e.av e.aj d=if ig l e.aj d then 15 else 0 by rw[kE,if_pos (.inr (.inr h3))]);generalize ig l e.aj d=b at Hh Hn;clear h1 h2 h3;go_enter Tryz.func44,Tryz.ntmps44
  go_wp2_with fail
  refine(Hh.O _ (hw.alloc _)).mono ?_;rintro e1 w1 ⟨rfl,aG⟩;have kJ:=Qh (dP (e:=e) rfl aG);have aO:Ok I w1:=(hw.alloc _).below (Qn _) aG;have aM:=((Qb w.heap.size w).alloc (Qn _) (.cells #[.int .i64 e.av,S e.aj,.slice aa e.ag.length ca,S e.target,.int .i64 e.size,S e.aD,.slice ax e.aC.length cx] 63)).trans (aG.mono (by simp));clear aG;obtain⟨c0,c1,c2,c3,c4,c5,c6⟩:=kJ.O;cases b
  ·go_wp2;go_ret;exact⟨dZ Hn.O.symm,aM⟩
  ·go_wp2;go_ret;exact⟨dZ Hn.O.symm,aM⟩
 have k3:((e.av:Int)==3)=false:=by simpa using h3
 have yU:¬(e.av=1∨e.av=2∨e.av=3):=fun q=>by omega
 by_cases h4:e.av=4;case neg=>
  have k4:((e.av:Int)==4)=false:=by simpa using h4
  have Hn:=Qh (show kE l e.av e.aj d=0 by rw[kE,if_neg yU,if_neg h4]);clear h1 h2 h3 h4 yU;go_enter Tryz.func44,Tryz.ntmps44
  go_wp2;go_ret;exact⟨dZ Hn.O.symm,(Qb w.heap.size w).alloc (Qn _) _⟩
 have k4:((e.av:Int)==4)=true:=by simpa using h4
 have Hn:=Qh (show kE l e.av e.aj d=if ig l e.aj d || lh l e.aj d then 15 else 0 by rw[kE,if_neg yU,if_pos h4]);clear h1 h2 h3 h4 yU;generalize ig l e.aj d=b at Hh Hn;go_enter Tryz.func44,Tryz.ntmps44
 go_wp2_with fail
 refine(Hh.O _ (hw.alloc _)).mono ?_;rintro e1 w1 ⟨rfl,aG⟩;have kJ:=Qh (dP (e:=e) rfl aG);have aO:Ok I w1:=(hw.alloc _).below (Qn _) aG;have aM:=((Qb w.heap.size w).alloc (Qn _) (.cells #[.int .i64 e.av,S e.aj,.slice aa e.ag.length ca,S e.target,.int .i64 e.size,S e.aD,.slice ax e.aC.length cx] 63)).trans (aG.mono (by simp));clear aG;obtain⟨c0,c1,c2,c3,c4,c5,c6⟩:=kJ.O;cases b;case true=>
  go_wp2;go_ret;exact⟨dZ Hn.O.symm,aM⟩
 go_wp2_with fail
 clear c0 c1 c2 c3 c4 c5 c6;go_loopw [8] (fun s8 wr=> ∃k:Nat,k≤l.length∧s8= .int .i64 k∧lh (l.take k) e.aj d=false∧Below w1.heap.size w1 wr) (fun i _=>l.length-(intOf i).toNat)
 case atStart=>exact⟨0,Nat.zero_le _,rfl,rfl,Qb _ _⟩
 case round=>
  obtain⟨k,hk,rfl,hr,hb⟩:=hrel;have Hr:=Qh hr;clear hr;have eX:Ok I wr:=aO.below (Qn _) hb;have vO:=aM.trans (hb.mono aM.size);by_cases hlt:k<l.length
  ·obtain⟨x,b,off,cap',cB,dC,x0,x1⟩:=yu Hv.O eX k hlt;cases dC;have bI:=Qh (Xof (p:=e.aj) (d:=d) hlt cB);have pM:=Qh cB;have Po:=Qh (fun w hw=>X7 I x.p e.aj w hw);obtain⟨c0,c1,c2,c3,c4,c5,c6⟩:=kJ.O.aR hb;have g1:=cell_regrown c1;have y0:=cell_regrown x0;have y1:=cell_regrown x1;clear cB c0 c1 c2 c3 c4 c5 c6 x0 x1;cases hq:decide (d≤x.u)
   ·have kR:=Qh (show lh (l.take (k+1)) e.aj d=false by rw[bI.O,Hr.O,hq];rfl);go_wp2_with fail
    refine wp_region_quiet_below (by kernel_rfl) (by kernel_rfl) ?_;repeat(go_big_quiet_step ((fail)))
    refine wpQuiet_nil ?_;intro w2 bJ;have aL:Below (wr).heap.size (wr) w2:=by
     obtain⟨pq,rfl⟩:=bJ;exact below_regrown _ _ _
    clear bJ;go_wp2;go_roundw;case rel=>exact⟨k+1,by omega,by go_num,kR.O,hb.trans (aL.mono hb.size)⟩
    case measure=>simp[intOf];omega
   ·go_wp2_with fail
    refine wp_region_quiet_below (by kernel_rfl) (by kernel_rfl) ?_;repeat(go_big_quiet_step ((with_reducible exact Calls.regrown_of (Po.O _ (eX.below (Qn _) (below_regrown _ _ _))))))
    refine wpQuiet_nil ?_;intro w2 bJ;have aL:Below (wr).heap.size (wr) w2:=by
     obtain⟨pq,rfl⟩:=bJ;exact below_regrown _ _ _
    clear bJ;have bH:=hb.trans (aL.mono hb.size);cases hu:under x.p e.aj
    ·have kR:=Qh (show lh (l.take (k+1)) e.aj d=false by rw[bI.O,Hr.O,hq,hu];rfl);go_wp2;go_roundw;case rel=>exact⟨k+1,by omega,by go_num,kR.O,bH⟩
     case measure=>simp[intOf];omega
    ·have kR:=Qh (show kE l e.av e.aj d=15 by rw[Hn.O,Xq3 hlt pM.O hq hu];rfl);go_wp2;go_ret;exact⟨dZ kR.O.symm,vO.trans (aL.mono vO.size)⟩
  ·have kR:=Qh (show kE l e.av e.aj d=0 by
    have:=Hr.O;rw[List.take_of_length_le (by omega)]at this;rw[Hn.O,this];rfl)
   go_wp2;go_ret;exact⟨dZ kR.O.symm,vO⟩
theorem Xfu(I:IH)(v:Value)(l:List Ho)(hv:aZ ku I v l)(hn:l.length≤100000)(p:af)(w:World)(hw:Ok I w):
 Calls Tryz.prog 95 #[v,S p] w fun e w'=> ∃v',e= .returned (.tuple #[v',.int .i64 (oG p l (-1))])∧aQ ku 106 I w' w.heap.size v' (jh l p)∧Below w.heap.size w w':=by
 obtain⟨ao,cap,rfl,fu,iv,_⟩:=id hv;have Hv:=Qh hv;clear hv;have H0:=Qh (SC (I:=I) w w.heap.size rfl);obtain⟨U,hU⟩:∃U,oG p l (-1)=U:=⟨_,rfl⟩;rw[hU];have HU:=Qh hU;clear hU;go_enter Tryz.func95,Tryz.ntmps95
 go_wp2_with fail
 go_loopw [6,7,8] (fun s6 s7 s8 wr=> ∃(k:Nat) (u:Int),k≤l.length∧s8= .int .i64 k∧s7= .int .i64 u∧oG p (l.drop k) u=U∧aQ ku 106 I wr w.heap.size s6 (jh (l.take k) p)∧Below w.heap.size w wr) (fun _ _ i _=>l.length-(intOf i).toNat)
 case atStart=>exact⟨0,-1,Nat.zero_le _,rfl,rfl,HU.O,H0.O,(Qb _ _).alloc (Qn _) _⟩
 case round=>
  clear H0;obtain⟨k,u,hk,rfl,rfl,hu,bU,hb⟩:=hrel;have di:=Qh bU;have Hu:=Qh hu;clear bU hu;have pI:(jh (l.take k) p).length≤k:=Nat.le_trans (List.length_filter_le _ _) (by simp;omega);by_cases hlt:k<l.length
  ·obtain⟨x,b,off,cap',cB,dC,c0,c1⟩:=yu Hv.O (hw.below (Qn _) hb) k hlt;cases dC;have bI:=Qh (Xgq (fun h=> !(h.p==p)) hlt cB);have Hsu:=Qh (Xre hlt cB Hu.O);clear cB Hu;cases hq:(x.p==p)
   ·have Hn:=Qh (show jh (l.take (k+1)) p=jh (l.take k) p++[x]from Xkj bI.O (by rw[hq];rfl));have kR:=Qh (show oG p (l.drop (k+1)) u=U by have:=Hsu.O;rwa[if_neg (by simpa using hq)]at this);have uX:=hb.size;go_wp2_with (at_builtin;refine qX (w0:=wr) EE rfl _ _ rfl _ _ _ rfl di.O x [S x.p,.int .i64 x.u] _ rfl rfl (by omega) (by omega) uX ?_)
    intro v9 w9 bX bK;have iO:=Below.own hb bK di.O (Qn _) uX;go_wp2;go_roundw;case rel=>exact⟨k+1,u,by omega,by go_num,rfl,kR.O,bX.wh Hn.O.symm,iO⟩
    case measure=>simp[intOf];omega
   ·have Hn:=Qh (show jh (l.take (k+1)) p=jh (l.take k) p from Xn7 bI.O (by rw[hq];rfl));have kR:=Qh (show oG p (l.drop (k+1)) x.u=U by have:=Hsu.O;rwa[if_pos (by simpa using hq)]at this);go_wp2;go_roundw;case rel=>exact⟨k+1,x.u,by omega,by go_num,rfl,kR.O,di.O.wh Hn.O.symm,hb⟩
    case measure=>simp[intOf];omega
  ·have au:l.take k=l:=List.take_of_length_le (by omega);have vR:u=U:=by have:=Hu.O;rwa[List.drop_of_length_le (by omega)]at this
   rw[au]at di;subst vR;clear au pI;go_wp2;go_ret2;exact⟨_,rfl,di.O,hb⟩
theorem Xqc(s:af)(hd:il s=true)(w:World):
 Calls Tryz.prog 94 #[S s] w fun e w'=>e= .returned (.int .i64 (digits s))∧Below w.heap.size w w':=by
 obtain⟨ha,bq,au,hz⟩:=Xkx hd;have qx:=(Yi hd).2;have hlen:=List.length_pos_iff.2 bq;obtain⟨p1,p2,p3,p4⟩:=Dh bq;have WN:=Xgs hd;have d10:decide (10<s.length)=false:=Qf (by omega);have ni:=iG (P:=Tryz.prog) Tryz.underlying9 s 0 0 rfl hlen;have uw:=Qh au;have nS:(¬1<s.length∧decide (1<s.length)=false)∨(1<s.length∧decide (1<s.length)=true∧(((s.getD 0 0).toNat:Int)==48)=false):=by
  by_cases h5:1<s.length
  ·right;refine⟨h5,Qt h5,?_⟩;have:((s.getD 0 0).toNat:Int)≠48:=fun e=>by
    have:=hz (by omega);rw[this]at h5;simp at h5
   simpa using this
  ·exact .inl ⟨h5,Qf h5⟩
 obtain⟨U,hU⟩:∃U,digits s=U:=⟨_,rfl⟩;have HU:=Qh hU;rw[hU]at qx ⊢;have dU:decide (1000000000<U)=false:=Qf (by omega);generalize(s.getD 0 0).toNat=c0 at ni nS;clear ha bq au hz hd hU;rcases nS with⟨h5,Ko⟩|⟨h5,Ko,he3⟩
 all_goals
  go_enter Tryz.func94,Tryz.ntmps94
  go_wp2_with fail
  go_loop [3,4] (fun s3 s4=> ∃k:Nat,k≤s.length∧s4= .int .i64 k∧s3= .int .i64 (digits (s.take k))) (fun _ i=>s.length-(intOf i).toNat)
  case atStart=>exact⟨0,Nat.zero_le _,rfl,rfl⟩
  case round=>
   obtain⟨k,hk,rfl,rfl⟩:=hrel;have FB:=Xmt k (s.take k) (by rw[List.length_take];omega) (List.all_eq_true.2 fun c hc=>List.all_eq_true.1 uw.O c (List.mem_of_mem_take hc));by_cases hlt:k<s.length
   ·have hx:=iG (P:=Tryz.prog) Tryz.underlying9 s (k:Int) k rfl hlt;have hpk:(10:Int)^k≤10000000000:=by
     have:(10:Nat)^k≤10^10:=Nat.pow_le_pow_right (by decide) (by omega);have h2:((10^k:Nat):Int)≤((10^10:Nat):Int):=by exact_mod_cast this
     simpa using h2
    have pE:s.take (k+1)=s.take k++[s.getD k 0]:=by rw[List.take_succ_eq_append_getElem hlt];simp[List.getD,hlt]
    have Kq:digits (s.take (k+1))=10*digits (s.take k)+(((s.getD k 0).toNat:Int)-48):=by rw[pE,Xfg]
    have qK:s.getD k 0∈s:=by simp[List.getD,hlt]
    obtain⟨b1,b2⟩:=O8 (List.all_eq_true.1 uw.O _ qK);clear pE qK;generalize(s.getD k 0).toNat=c at hx Kq b1 b2;generalize digits (s.take k)=n at FB Kq ⊢;generalize((10:Int)^k)=p10 at FB hpk;have Hds:=Qh Kq;have e48:decide ((c:Int)<48)=false:=Qf (by omega);have e57:decide (57<(c:Int))=false:=Qf (by omega);have m1:IntKind.u8.wrap ((c:Int)-48)=(c:Int)-48:=IntWalk.u8_in _ (by omega);have m2:IntKind.i64.wrap ((c:Int)-48)=(c:Int)-48:=IntWalk.i64_in _ (by omega);clear Kq;go_wp2;go_round;case rel=>exact⟨k+1,by omega,by go_num,by rw[Hds.O]⟩
    case measure=>simp[intOf];omega
   ·have vR:digits (s.take k)=U:=by rw[List.take_of_length_le (by omega)];exact HU.O
    rw[vR];clear vR FB;go_wp2;go_ret;exact⟨rfl,Qb _ _⟩
