/- Lemmas for the claim's theorem;conditions: as each says. -/
import Derived.Test.YtmdfjnhfhidmhaaGreatDoorQ29
set_option maxHeartbeats 0
set_option maxRecDepth 100000
set_option linter.all false
namespace Go.Proofs.YtmdfjnhfhidmhaaGreatDoor
open Go.RowKit
variable{vk:Value}{w:World}{b:Nat}{e:aQ}{d:fP}{t:TypeId}{n:Nat}
structure vU (I:IH) (d:fP) (ve vk vt vh:Value):Prop where
 aB:aY bJ I ve d.aB
 aM:aY pY I vk d.bL.aM
 aK:aY bJ I vt d.aK
 aC:aY jh I vh d.aC
theorem vU.mono{I J:IH}{ve vt vh:Value}(hI:∀b c,I b=some c→J b=some c)(h:vU I d ve vk vt vh):vU J d ve vk vt vh:=
 ⟨h.aB.mono hI,h.aM.mono hI,h.aK.mono hI,h.aC.mono hI⟩
def xg(I:IH)(w:World)(d:fP)(n:Int)(e:Ending)(w':World):Prop:=
 ∃ve vk vt vh J,e= .returned (.tuple #[kD d ve vk vt vh,.int .i64 n])∧Below w.heap.size w w'∧Ext w.heap.size I J∧Ok J w'∧vU J d ve vk vt vh
abbrev dJ:Array Value:=#[.int .i64 0,.int .i64 0,.string ⟨#[]⟩,.slice none 0 0,.slice none 0 0,.int .i64 0,.string ⟨#[]⟩,.slice none 0 0,.slice none 0 0]
abbrev fB(d:fP)(ve vk vt vh:Value):List Value:=[.int .i64 d.num,.int .i64 d.az,S d.bq,ve,vk,.int .i64 d.bL.aW,S d.bL.str,vt,vh]
theorem entB_row{va vx:Value}(h:w.heap[b]?=some (.cells (jB e va vx) t (0,0))):eY w b e va vx:=
 ⟨(cell_of_row _ _ 0 _ _ _ h).trans rfl,(cell_of_row _ _ 1 _ _ _ h).trans rfl,(cell_of_row _ _ 2 _ _ _ h).trans rfl,(cell_of_row _ _ 3 _ _ _ h).trans rfl,(cell_of_row _ _ 4 _ _ _ h).trans rfl,(cell_of_row _ _ 5 _ _ _ h).trans rfl,(cell_of_row _ _ 6 _ _ _ h).trans rfl⟩
structure zV (w:World) (n:Nat) (q:dX) (vk:Value):Prop where
 c0:w.cell? ⟨n,0,none⟩=some vk
 c1:w.cell? ⟨n,1,none⟩=some (.int .i64 q.aW)
 c2:w.cell? ⟨n,2,none⟩=some (S q.str)
theorem zV.aX{w':World}{q:dX}(h:zV w b q vk)(hb:Below w.heap.size w w'):zV w' b q vk:=⟨bI hb h.c0,bI hb h.c1,bI hb h.c2⟩
theorem stoB_row{q:dX}(h:w.heap[b]?=some (.cells #[vk,.int .i64 q.aW,S q.str] t (0,0))):zV w b q vk:=
 ⟨(cell_of_row _ _ 0 _ _ _ h).trans rfl,(cell_of_row _ _ 1 _ _ _ h).trans rfl,(cell_of_row _ _ 2 _ _ _ h).trans rfl⟩
theorem Tg(w:World)(a b c:Array Value)(ta tb tc:TypeId)(W:World)(hW:((w.alloc (.cells a ta)).alloc (.cells b tb)).alloc (.cells c tc)=W):
 W.heap.size=w.heap.size+3∧W.heap[w.heap.size]?=some (.cells a ta (0,0))∧W.heap[w.heap.size+1]?=some (.cells b tb (0,0))∧W.heap[w.heap.size+2]?=some (.cells c tc (0,0)):=by
 subst hW;refine⟨by simp,?_,?_,?_⟩
 ·exact(Below.heap_alloc _ _ _ (by simp;omega)).trans ((Below.heap_alloc _ _ _ (by simp)).trans (heap_alloc_new w _))
 ·have h:=heap_alloc_new (w.alloc (.cells a ta)) (.cells b tb);rw[World.size_alloc]at h;exact(Below.heap_alloc _ _ _ (by simp)).trans h
 ·have h:=heap_alloc_new ((w.alloc (.cells a ta)).alloc (.cells b tb)) (.cells c tc);rwa[World.size_alloc,World.size_alloc]at h
theorem Xs5{c:gy}{q:dX}(h:dw d.bL c=(e,q)):gp d c=
 if aL e≠0 then(d,aL e)else if c.aj≠1∧c.aF≠[]then(d,1)else if 400≤d.aB.length∨14680064<q.str.length then(d,6)
 else if(cZ d.stt e d.az).2≠0 then(d,(cZ d.stt e d.az).2)
 else(⟨d.num,d.az,d.bq,d.aB++[e],q,(cZ d.stt e d.az).1.aK,(cZ d.stt e d.az).1.aC⟩,0):=by
 unfold gp;rw[h]
structure Bb (I:IH) (w0:World) (d:fP) (ve vk vt vh:Value) (c:gy) (va:Value) (e:aQ) (xa xx:Value) (zq:dX) (vq:Value) (n6 n7:Nat) (J:IH) (W:World):Prop where
 at_:lq I w0 J W
 ext:Ext w0.heap.size I J
 no:J (w0.heap.size+2)=none
 OE:J w0.heap.size=none
 dr:W.heap[w0.heap.size]?=some (.cells (fB d ve vk vt vh).toArray 43 (0,0))
 cg:vT W (w0.heap.size+1) c va
 q:W.heap[w0.heap.size+2]?=some (.cells dJ 43 (0,0))
 en:eY W n6 e xa xx
 st:zV W n7 zq vq
 ra:aY lv J xa e.au
 rx:aY kQ J xx e.aD
 rq:aY pY J vq zq.aM
section
variable {I:IH} {w0:World} {d:fP} {ve vk vt vh:Value} {c:gy} {va:Value} {e:aQ} {xa xx:Value} {q:dX} {vq:Value} {n6 n7:Nat} {J J':IH} {W W':World}
theorem Bb.aX(h:Bb I w0 d ve vk vt vh c va e xa xx q vq n6 n7 J W)(hb:Below W.heap.size W W')(hx:Ext W.heap.size J J')(iU:Ok J' W'):Bb I w0 d ve vk vt vh c va e xa xx q vq n6 n7 J' W':=by
 have hk:=hx.keep h.at_.ok (Qn _);have hs:=h.at_.size;have hlt:=(Qg h.q);exact⟨h.at_.ext hb hx iU,h.ext.trans hx hs,(hx _ hlt).trans h.no,(hx _ (Qg h.dr)).trans h.OE,(hb.block _ (Qg h.dr)).trans h.dr,h.cg.aX hb,(hb.block _ hlt).trans h.q,h.en.aX hb,h.st.aX hb,h.ra.mono hk,h.rx.mono hk,h.rq.mono hk⟩
theorem Bb.quiet(h:Bb I w0 d ve vk vt vh c va e xa xx q vq n6 n7 J W)(hb:Below W.heap.size W W'):Bb I w0 d ve vk vt vh c va e xa xx q vq n6 n7 J W':=h.aX hb (Ext.refl _ _) (h.at_.ok.below (Qn _) hb)
theorem Bb.ret(h:Bb I w0 d ve vk vt vh c va e xa xx q vq n6 n7 J W)(hr:vU I d ve vk vt vh){w9:World}(hg:W.grownBy w9 (some (w0.heap.size+2))){p:fP×Int}{r:Int}(hp:p=(d,r)):
 xg I w0 p.1 p.2 (.returned (.tuple #[kD d ve vk vt vh,.int .i64 r])) w9:=by
 subst hp;exact⟨ve,vk,vt,vh,J,rfl,h.at_.eD.grown hg h.at_.size (fun k e=>by cases e;omega),h.ext,h.at_.ok.grown hg (fun g e=>by cases e;exact h.no),hr.mono h.at_.keep⟩
end
abbrev DU(n m le zW cp:Nat)(ao:Option Addr)(e:aQ)(xa xx:Value)(x:(Option Addr×Nat)×Nat×(Option Addr×Nat)):List (Option Tmp×Value):=
 [(some 80,.pointer (some ⟨n,3,none⟩)),(some 81,.slice ao le cp),(some 82,.slice x.1.1 le x.1.2),(some 83,fG e xa xx),(some 84,.slice (some ⟨x.2.1,0,none⟩) 1 1),(some 85,.slice x.2.2.1 zW x.2.2.2),(some 86,.pointer (some ⟨m,3,none⟩)),(none,undef)]
theorem FO{m le zW cp:Nat}{ao:Option Addr}{xa xx:Value}{x:(Option Addr×Nat)×Nat×(Option Addr×Nat)}:bE (DU n m le zW cp ao e xa xx x):=by
 unfold bE;simp
theorem Xtb(I:IH)(hI:cB I)(d:fP)(hd:lJ n d)(hn:n≤150)(ve vk vt vh:Value)(hr:vU I d ve vk vt vh)(c:gy)(hc:c.Wf)(zm:c.au.length≤1000000)(va:Value)(gW:aY lv I va c.au)(w:World)(hw:Ok I w):
 Calls Tryz.prog 33 #[kD d ve vk vt vh,FM c va] w (xg I w (gp d c).1 (gp d c).2):=by
 have Ti:=hd.bL (by omega);have FP:=Qh (fun w hw=>Xm8 I hI d.bL vk hr.aM Ti (by have:=hd.aM;omega) c va gW hc zm w hw);have lu:=Sb Ti hc;have ru:=Xl8 d.bL c;obtain⟨e,q,qA⟩:∃e q,dw d.bL c=(e,q):=⟨_,_,rfl⟩;have gM:=Qh (Xs5 qA);rw[qA]at FP lu ru;dsimp only at lu ru;have nO:e.ag.length≤4294967280:=by rw[ru.2.1];exact hc.ag
 have sO:e.av.length≤4294967280:=by rw[ru.2.2.2];exact hc.av
 have kN:=hd.st;have zX:=Qh (fun J (hk:∀b c,I b=some c→J b=some c) xa xx CV Ct w hw=>QH J (hI.mono hk) vt d.aK (hr.aK.mono hk) kN.AU kN.ok.aK.yw (by have:=kN.ok.xP;show d.stt.aK.length≤_;omega) e xa xx CV Ct lu nO sO w hw);have Tj:=Qh (fun J (hk:∀b c,I b=some c→J b=some c) xa xx CV Ct (h1:1≤e.aj) w hw=>Xh8 J (hI.mono hk) d ve vk vt vh (hr.aK.mono hk) (hr.aC.mono hk) kN.ok.aC (by have:=kN.ok.hlen;show d.stt.aC.length≤_;omega) e xa xx CV Ct h1 nO w hw);have qY:=Qh (fun J (hk:∀b c,I b=some c→J b=some c) xa xx CV Ct (h1:aL e=0) w hw=>Qm J (hI.mono hk) vh d.aC (hr.aC.mono hk) kN.ok.aC (by have:=kN.ok.hlen;show d.stt.aC.length≤_;omega) e xa xx CV Ct h1 d.az w hw);have mh:=Qh (fun J (hk:∀b c,I b=some c→J b=some c) w hw=>AJ J ve d.aB (hr.aB.mono hk) w hw (by have:=hd.aB;omega));have Al:=hd.aB;have Hr:=Qh hr;have vV:=Qh (show(Tryz.prog.info? 43).map (·.size)=some 9 by kernel_rfl);obtain⟨eo,ec,rfl,_,_,_⟩:=id hr.aB;obtain⟨ko,kc,rfl,_,_,_⟩:=id hr.aM;obtain⟨tt,tc,rfl,_,_,_⟩:=id hr.aK;obtain⟨ho,jk,rfl,_,_,_⟩:=id hr.aC;obtain⟨ao,ac,rfl,_,_,_⟩:=id gW;obtain⟨W3,Ay⟩:∃W3,(((w.alloc (.cells #[.int .i64 d.num,.int .i64 d.az,S d.bq,.slice eo d.aB.length ec,.slice ko d.bL.aM.length kc,.int .i64 d.bL.aW,S d.bL.str,.slice tt d.aK.length tc,.slice ho d.aC.length jk] 43)).alloc (.cells #[.int .i64 c.aj,S c.ag,.slice ao c.au.length ac,S c.av,S c.aF] 25)).alloc (.cells dJ 43))=W3:=⟨_,rfl⟩;obtain⟨mW,Bc,xD,rf⟩:=Tg w _ _ _ _ _ _ W3 Ay;have A3:=Qh (show lq I w I W3 by rw[←Ay];exact(((lq.start hw).past _).past _).past _);have Z6:=Qh Bc;have Z7:=Qh xD;have Z8:=Qh rf;obtain⟨b0,b1,b2,b3,b4,b5,b6,b7,b8⟩:=drB_row Bc;obtain⟨g0,g1,g2,g3,g4⟩:=chgB_row xD;have vw:I (w.heap.size+2)=none:=hw.fresh (by omega);have Lh:I w.heap.size=none:=hw.fresh (Qn _);clear hr gW Bc xD rf Ti ru kN qA;go_enter Tryz.func33,Tryz.ntmps33
 go_wp2_with fail
 refine(FP.q W3 A3.q.ok).mono ?_;rintro e1 w1 ⟨xa,xx,vq,J,rfl,aG,kM,aS,CV,Ct,Tk⟩;obtain⟨a1,k1,rfl,_,_,_⟩:=id CV;obtain⟨a2,k2,rfl,_,_,_⟩:=id Ct;obtain⟨a3,k3,rfl,_,_,_⟩:=id Tk;have xu:=aG.size;clear Ay b0 b1 b2 b3 b4 b5 b6 b7 b8 g0 g1 g2 g3 g4
 go_upto_if 21 with(first
  |(refine jy rfl rfl 81 _ _ rfl w1.heap.size 0 (fT e (.slice a1 e.au.length k1) (.slice a2 e.aD.length k2)) (fG e (.slice a1 e.au.length k1) (.slice a2 e.aD.length k2)) (by simp[Act.eval]) (by simp[Act.eval]) (by rfl) bF 81 ((Below.heap_alloc _ _ _ (by simp)).trans (heap_alloc_new _ _)) (by simp) (by kernel_rfl) (by simp[Value.oneCell']) (jB e (.slice a1 e.au.length k1) (.slice a2 e.aD.length k2)) (by rfl) ?_
    intro w2 qC iA)
  |(refine jy rfl rfl 40 _ _ rfl (w1.heap.size+1) 0 [.slice a3 q.aM.length k3,.int .i64 q.aW,S q.str] (fI q (.slice a3 q.aM.length k3)) (by simp[Act.eval]) (by simp[Act.eval]) (by rfl) #[.slice none 0 0,.int .i64 0,.string ⟨#[]⟩] 40 ((qC.block _ (by simp) (by simp)).trans (by have h:=heap_alloc_new (w1.alloc (.cells bF 81)) (.cells #[.slice none 0 0,.int .i64 0,.string ⟨#[]⟩] 40);rwa[World.size_alloc]at h)) (by simp) (by kernel_rfl) (by simp[Value.oneCell']) #[.slice a3 q.aM.length k3,.int .i64 q.aW,S q.str] (by rfl) ?_
    intro w3 kS qK))
 have sQ:=qC.size;have IW:=kS.size;rw[World.size_alloc,World.size_alloc]at sQ;have M:=Qh (show Bb I w d (.slice eo d.aB.length ec) (.slice ko d.bL.aM.length kc) (.slice tt d.aK.length tc) (.slice ho d.aC.length jk) c (.slice ao c.au.length ac) e (.slice a1 e.au.length k1) (.slice a2 e.aD.length k2) q (.slice a3 q.aM.length k3) w1.heap.size (w1.heap.size+1) J w3 from by
  have A1:=A3.q.ext aG kM aS;have A2:=(A1.past (.cells bF 81)).past (.cells #[.slice none 0 0,.int .i64 0,.string ⟨#[]⟩] 40);have e6:J w1.heap.size=none:=aS.fresh (Qn _);have e7:J (w1.heap.size+1)=none:=aS.fresh (by omega);have hz:∀b,b<w1.heap.size→w3.heap[b]?=w1.heap[b]? :=fun b hb=>(kS.block b (by omega) (fun h=>by injection h with h;omega)).trans ((qC.block b (by simp;omega) (fun h=>by injection h with h;omega)).trans ((Below.heap_alloc _ _ _ (by simp;omega)).trans (Below.heap_alloc _ _ _ hb)));have lM:∀b,b<W3.heap.size→w3.heap[b]?=W3.heap[b]? :=fun b hb=>(hz b (by omega)).trans (aG.block b hb)
  exact⟨⟨(A2.ok.grown qC (fun g h=>by cases h;exact e6)).grown kS (fun g h=>by cases h;exact e7),A1.keep,(A2.eD.grown qC (by simp;omega) (fun k h=>by cases h;omega)).grown kS (by omega) (fun k h=>by cases h;omega)⟩,
   kM.mono (by omega),(kM _ (by omega)).trans vw,(kM _ (by omega)).trans Lh,(lM _ (by omega)).trans Z6.q,chgB_row ((lM _ (by omega)).trans Z7.q),(lM _ (by omega)).trans Z8.q,
   entB_row ((kS.block _ (by omega) (fun h=>by injection h with h;omega)).trans iA),stoB_row qK,CV,Ct,Tk⟩)
 clear sQ IW qC kS iA qK aG kM aS CV Ct Tk Z6 Z7 Z8 A3 vw Lh mW FP;obtain⟨r,I6⟩:∃r,aL e=r:=⟨_,rfl⟩;rw[I6]at gM qY ⊢;by_cases h0:r=0;case neg=>
  have f1:(r !=0)=true:=by simpa using h0
  have Hn:=Qh (gM.q.trans (if_pos h0));clear gM h0;obtain⟨b0,b1,b2,b3,b4,b5,b6,b7,b8⟩:=drB_row (d:=d) M.q.dr;have dW:=M.q.q
  go_wp2_with (refine jy rfl rfl 43 _ _ rfl (w.heap.size+2) 0 (fB d (.slice eo d.aB.length ec) (.slice ko d.bL.aM.length kc) (.slice tt d.aK.length tc) (.slice ho d.aC.length jk)) (kD d (.slice eo d.aB.length ec) (.slice ko d.bL.aM.length kc) (.slice tt d.aK.length tc) (.slice ho d.aC.length jk)) (by simp[Act.eval]) (by simp[Act.eval]) (by rfl) _ 43 dW (by simp) (by kernel_rfl) (by simp[Value.oneCell']) (fB d (.slice eo d.aB.length ec) (.slice ko d.bL.aM.length kc) (.slice tt d.aK.length tc) (.slice ho d.aC.length jk)).toArray (by rfl) ?_
               intro w9 dY iy)
  refine bodyPost_ret (v:= .tuple #[kD d (.slice eo d.aB.length ec) (.slice ko d.bL.aM.length kc) (.slice tt d.aK.length tc) (.slice ho d.aC.length jk),.int .i64 r]) ?_ rfl (M.q.ret Hr.q dY Hn.q);rw[results_cell_tmp rfl];simp[asAddr,run_loadVar_row w9 (w.heap.size+2) 43 43 _ (0,0) _ iy Tryz.underlying43 rfl vV.q]
 subst h0;replace gM:=Qh (gM.q.trans (if_neg (by decide)));have sW:=(De I6).1;obtain⟨g0,g1,g2,g3,g4⟩:=M.q.cg;obtain⟨B,hB⟩:∃B:Bool,decide (c.aj≠1∧c.aF≠[])=B:=⟨_,rfl⟩;go_upto_region 4 with fail
 go_cut [26] (fun s26 wx=>s26= .bool B∧w3=wx)
 case first=>
  by_cases q1:c.aF=[]
  ·have i1:c.aF.isEmpty=true:=by simp[q1]
   have i2:(c.aF==[])=true:=by simp[q1]
   have mG:B=false:=by rw[←hB];exact Qf (fun h=>h.2 q1)
   subst mG;clear hB q1;go_wp2_with fail
   go_meet;exact⟨rfl,rfl⟩
  ·have i1:c.aF.isEmpty=false:=by simpa using q1
   have i2:(c.aF==[])=false:=by simpa using q1
   by_cases q2:c.aj=1
   ·have i3:(c.aj !=1)=false:=by simp[q2]
    have mG:B=false:=by rw[←hB];exact Qf (fun h=>h.1 q2)
    subst mG;clear hB q1 q2;go_wp2_with fail
    go_meet;exact⟨rfl,rfl⟩
   ·have i3:(c.aj !=1)=true:=by simpa using q2
    have mG:B=true:=by rw[←hB];exact Qt ⟨q2,q1⟩
    subst mG;clear hB q1 q2;go_wp2_with fail
    go_meet;exact⟨rfl,rfl⟩
 case rest=>
 obtain⟨rfl,hcut⟩:=hcut;subst hcut;clear g0 g1 g2 g3 g4;cases B;case true=>
  have Hn:=Qh (gM.q.trans (if_pos (of_decide_eq_true hB)));clear gM hB;obtain⟨b0,b1,b2,b3,b4,b5,b6,b7,b8⟩:=drB_row (d:=d) M.q.dr;have dW:=M.q.q
  go_wp2_with (refine jy rfl rfl 43 _ _ rfl (w.heap.size+2) 0 (fB d (.slice eo d.aB.length ec) (.slice ko d.bL.aM.length kc) (.slice tt d.aK.length tc) (.slice ho d.aC.length jk)) (kD d (.slice eo d.aB.length ec) (.slice ko d.bL.aM.length kc) (.slice tt d.aK.length tc) (.slice ho d.aC.length jk)) (by simp[Act.eval]) (by simp[Act.eval]) (by rfl) _ 43 dW (by simp) (by kernel_rfl) (by simp[Value.oneCell']) (fB d (.slice eo d.aB.length ec) (.slice ko d.bL.aM.length kc) (.slice tt d.aK.length tc) (.slice ho d.aC.length jk)).toArray (by rfl) ?_
               intro w9 dY iy)
  refine bodyPost_ret (v:= .tuple #[kD d (.slice eo d.aB.length ec) (.slice ko d.bL.aM.length kc) (.slice tt d.aK.length tc) (.slice ho d.aC.length jk),.int .i64 1]) ?_ rfl (M.q.ret Hr.q dY Hn.q);rw[results_cell_tmp rfl];simp[asAddr,run_loadVar_row w9 (w.heap.size+2) 43 43 _ (0,0) _ iy Tryz.underlying43 rfl vV.q]
 replace gM:=Qh (gM.q.trans (if_neg (of_decide_eq_false hB)));clear hB;obtain⟨y0,y1,y2⟩:=M.q.st;obtain⟨b0,b1,b2,b3,b4,b5,b6,b7,b8⟩:=drB_row (d:=d) M.q.dr;obtain⟨B,hB⟩:∃B:Bool,decide (400≤d.aB.length∨14680064<q.str.length)=B:=⟨_,rfl⟩;go_upto_region 6 with fail
 go_cut [36] (fun Ro wx=>Ro= .bool B∧w3=wx)
 case first=>
  by_cases q1:400≤d.aB.length
  ·have i1:decide ((400:Int)≤(d.aB.length:Int))=true:=Qt (by omega);have mG:B=true:=by rw[←hB];exact Qt (.inl q1)
   subst mG;clear hB q1;go_wp2_with fail
   go_meet;exact⟨rfl,rfl⟩
  ·have i1:decide ((400:Int)≤(d.aB.length:Int))=false:=Qf (by omega);by_cases q2:14680064<q.str.length
   ·have i3:decide ((14680064:Int)<(q.str.length:Int))=true:=Qt (by omega);have mG:B=true:=by rw[←hB];exact Qt (.inr q2)
    subst mG;clear hB q1 q2;go_wp2_with fail
    go_meet;exact⟨rfl,rfl⟩
   ·have i3:decide ((14680064:Int)<(q.str.length:Int))=false:=Qf (by omega);have mG:B=false:=by rw[←hB];exact Qf (by omega)
    subst mG;clear hB q1 q2;go_wp2_with fail
    go_meet;exact⟨rfl,rfl⟩
 case rest=>
 obtain⟨rfl,hcut⟩:=hcut;subst hcut;clear y0 y1 y2;cases B;case true=>
  have Hn:=Qh (gM.q.trans (if_pos (of_decide_eq_true hB)));clear gM hB b0 b1 b2 b3 b4 b5 b6 b7 b8;obtain⟨b0,b1,b2,b3,b4,b5,b6,b7,b8⟩:=drB_row (d:=d) M.q.dr;have dW:=M.q.q
  go_wp2_with (refine jy rfl rfl 43 _ _ rfl (w.heap.size+2) 0 (fB d (.slice eo d.aB.length ec) (.slice ko d.bL.aM.length kc) (.slice tt d.aK.length tc) (.slice ho d.aC.length jk)) (kD d (.slice eo d.aB.length ec) (.slice ko d.bL.aM.length kc) (.slice tt d.aK.length tc) (.slice ho d.aC.length jk)) (by simp[Act.eval]) (by simp[Act.eval]) (by rfl) _ 43 dW (by simp) (by kernel_rfl) (by simp[Value.oneCell']) (fB d (.slice eo d.aB.length ec) (.slice ko d.bL.aM.length kc) (.slice tt d.aK.length tc) (.slice ho d.aC.length jk)).toArray (by rfl) ?_
               intro w9 dY iy)
  refine bodyPost_ret (v:= .tuple #[kD d (.slice eo d.aB.length ec) (.slice ko d.bL.aM.length kc) (.slice tt d.aK.length tc) (.slice ho d.aC.length jk),.int .i64 6]) ?_ rfl (M.q.ret Hr.q dY Hn.q);rw[results_cell_tmp rfl];simp[asAddr,run_loadVar_row w9 (w.heap.size+2) 43 43 _ (0,0) _ iy Tryz.underlying43 rfl vV.q]
 replace gM:=Qh (gM.q.trans (if_neg (of_decide_eq_false hB)));clear hB;obtain⟨x0,x1,x2,x3,x4,x5,x6⟩:=M.q.en;obtain⟨t2,r2,GM⟩:∃t2 r2,bG d.aK e=(t2,r2):=⟨_,_,rfl⟩;obtain⟨h2,r4,Vo⟩:∃h2 r4,appH d.aC e d.az=(h2,r4):=⟨_,_,rfl⟩;obtain⟨r3,qX⟩:∃r3,nz d.stt e d.az=r3:=⟨_,rfl⟩;have MP:cZ d.stt e d.az=if r2≠0 then(d.stt,r2)else if r3≠0 then(d.stt,r3)else if r4≠0 then(d.stt,r4)else(⟨t2,h2⟩,0):=by
  unfold cZ;rw[show bG d.stt.aK e=(t2,r2)from GM,show appH d.stt.aC e d.az=(h2,r4)from Vo,qX]
 rw[MP]at gM;rw[GM]at zX;rw[Vo]at qY;rw[qX]at Tj;clear GM Vo qX MP;go_wp2_with fail
 refine(zX.q J M.q.at_.keep _ _ M.q.ra M.q.rx w3 M.q.at_.ok).mono ?_;rintro e4 w4 ⟨vt2,J4,rfl,bA,uS,cK,Jd⟩;have M4:=Qh (M.q.aX bA uS cK);obtain⟨o4,c4,rfl,_,_,_⟩:=id Jd;clear b0 b1 b2 b3 b4 b5 b6 b7 b8 x0 x1 x2 x3 x4 x5 x6 M bA uS cK zX;go_upto_if 56 with fail
 by_cases h0:r2=0;case neg=>
  have f1:(r2 !=0)=true:=by simpa using h0
  have Hn:=Qh (show gp d c=(d,r2) by rw[gM.q,if_pos h0,if_pos h0]);clear gM h0;obtain⟨b0,b1,b2,b3,b4,b5,b6,b7,b8⟩:=drB_row (d:=d) M4.q.dr;have dW:=M4.q.q
  go_wp2_with (refine jy rfl rfl 43 _ _ rfl (w.heap.size+2) 0 (fB d (.slice eo d.aB.length ec) (.slice ko d.bL.aM.length kc) (.slice tt d.aK.length tc) (.slice ho d.aC.length jk)) (kD d (.slice eo d.aB.length ec) (.slice ko d.bL.aM.length kc) (.slice tt d.aK.length tc) (.slice ho d.aC.length jk)) (by simp[Act.eval]) (by simp[Act.eval]) (by rfl) _ 43 dW (by simp) (by kernel_rfl) (by simp[Value.oneCell']) (fB d (.slice eo d.aB.length ec) (.slice ko d.bL.aM.length kc) (.slice tt d.aK.length tc) (.slice ho d.aC.length jk)).toArray (by rfl) ?_
               intro w9 dY iy)
  refine bodyPost_ret (v:= .tuple #[kD d (.slice eo d.aB.length ec) (.slice ko d.bL.aM.length kc) (.slice tt d.aK.length tc) (.slice ho d.aC.length jk),.int .i64 r2]) ?_ rfl (M4.q.ret Hr.q dY Hn.q);rw[results_cell_tmp rfl];simp[asAddr,run_loadVar_row w9 (w.heap.size+2) 43 43 _ (0,0) _ iy Tryz.underlying43 rfl vV.q]
 subst h0;rw[if_neg (show ¬((0:Int)≠0) by decide)]at gM;obtain⟨b0,b1,b2,b3,b4,b5,b6,b7,b8⟩:=drB_row (d:=d) M4.q.dr;obtain⟨x0,x1,x2,x3,x4,x5,x6⟩:=M4.q.en;go_wp2_with fail
 refine(Tj.q J4 M4.q.at_.keep _ _ M4.q.ra M4.q.rx sW w4 M4.q.at_.ok).mono ?_;rintro e5 w5 ⟨rfl,dm⟩;have M5:=Qh (M4.q.quiet dm);clear b0 b1 b2 b3 b4 b5 b6 b7 b8 x0 x1 x2 x3 x4 x5 x6 M4 dm Tj;go_upto_if 63 with fail
 by_cases h0:r3=0;case neg=>
  have f1:(r3 !=0)=true:=by simpa using h0
  have Hn:=Qh (show gp d c=(d,r3) by rw[gM.q,if_pos h0,if_pos h0]);clear gM h0;obtain⟨b0,b1,b2,b3,b4,b5,b6,b7,b8⟩:=drB_row (d:=d) M5.q.dr;have dW:=M5.q.q
  go_wp2_with (refine jy rfl rfl 43 _ _ rfl (w.heap.size+2) 0 (fB d (.slice eo d.aB.length ec) (.slice ko d.bL.aM.length kc) (.slice tt d.aK.length tc) (.slice ho d.aC.length jk)) (kD d (.slice eo d.aB.length ec) (.slice ko d.bL.aM.length kc) (.slice tt d.aK.length tc) (.slice ho d.aC.length jk)) (by simp[Act.eval]) (by simp[Act.eval]) (by rfl) _ 43 dW (by simp) (by kernel_rfl) (by simp[Value.oneCell']) (fB d (.slice eo d.aB.length ec) (.slice ko d.bL.aM.length kc) (.slice tt d.aK.length tc) (.slice ho d.aC.length jk)).toArray (by rfl) ?_
               intro w9 dY iy)
  refine bodyPost_ret (v:= .tuple #[kD d (.slice eo d.aB.length ec) (.slice ko d.bL.aM.length kc) (.slice tt d.aK.length tc) (.slice ho d.aC.length jk),.int .i64 r3]) ?_ rfl (M5.q.ret Hr.q dY Hn.q);rw[results_cell_tmp rfl];simp[asAddr,run_loadVar_row w9 (w.heap.size+2) 43 43 _ (0,0) _ iy Tryz.underlying43 rfl vV.q]
 subst h0;rw[if_neg (show ¬((0:Int)≠0) by decide)]at gM;obtain⟨b0,b1,b2,b3,b4,b5,b6,b7,b8⟩:=drB_row (d:=d) M5.q.dr;obtain⟨x0,x1,x2,x3,x4,x5,x6⟩:=M5.q.en;go_wp2_with fail
 refine(qY.q J4 M5.q.at_.keep _ _ M5.q.ra M5.q.rx trivial w5 M5.q.at_.ok).mono ?_;rintro e6 w6 ⟨vh2,J6,rfl,fC,Az,gD,Li⟩;have M6:=Qh (M5.q.aX fC Az gD);have Tm:=Jd.mono (Az.keep M5.q.at_.ok (Qn _));obtain⟨o6,c6,rfl,_,_,_⟩:=id Li;clear b0 b1 b2 b3 b4 b5 b6 b7 b8 x0 x1 x2 x3 x4 x5 x6 M5 fC Az gD qY Jd;go_upto_if 76 with fail
 by_cases h0:r4=0;case neg=>
  have f1:(r4 !=0)=true:=by simpa using h0
  have Hn:=Qh (show gp d c=(d,r4) by rw[gM.q,if_pos h0,if_pos h0]);clear gM h0;obtain⟨b0,b1,b2,b3,b4,b5,b6,b7,b8⟩:=drB_row (d:=d) M6.q.dr;have dW:=M6.q.q
  go_wp2_with (refine jy rfl rfl 43 _ _ rfl (w.heap.size+2) 0 (fB d (.slice eo d.aB.length ec) (.slice ko d.bL.aM.length kc) (.slice tt d.aK.length tc) (.slice ho d.aC.length jk)) (kD d (.slice eo d.aB.length ec) (.slice ko d.bL.aM.length kc) (.slice tt d.aK.length tc) (.slice ho d.aC.length jk)) (by simp[Act.eval]) (by simp[Act.eval]) (by rfl) _ 43 dW (by simp) (by kernel_rfl) (by simp[Value.oneCell']) (fB d (.slice eo d.aB.length ec) (.slice ko d.bL.aM.length kc) (.slice tt d.aK.length tc) (.slice ho d.aC.length jk)).toArray (by rfl) ?_
               intro w9 dY iy)
  refine bodyPost_ret (v:= .tuple #[kD d (.slice eo d.aB.length ec) (.slice ko d.bL.aM.length kc) (.slice tt d.aK.length tc) (.slice ho d.aC.length jk),.int .i64 r4]) ?_ rfl (M6.q.ret Hr.q dY Hn.q);rw[results_cell_tmp rfl];simp[asAddr,run_loadVar_row w9 (w.heap.size+2) 43 43 _ (0,0) _ iy Tryz.underlying43 rfl vV.q]
 subst h0;have Hn:=Qh (show gp d c=(⟨d.num,d.az,d.bq,d.aB++[e],q,t2,h2⟩,0) by rw[gM.q];rfl);clear gM;obtain⟨b0,b1,b2,b3,b4,b5,b6,b7,b8⟩:=drB_row (d:=d) M6.q.dr
 go_wp2_with (refine jy rfl rfl 43 _ _ rfl w6.heap.size 0 (fB d (.slice eo d.aB.length ec) (.slice ko d.bL.aM.length kc) (.slice tt d.aK.length tc) (.slice ho d.aC.length jk)) (kD d (.slice eo d.aB.length ec) (.slice ko d.bL.aM.length kc) (.slice tt d.aK.length tc) (.slice ho d.aC.length jk)) (by simp[Act.eval]) (by simp[Act.eval]) (by rfl) dJ 43 (heap_alloc_new _ _) (by simp) (by kernel_rfl) (by simp[Value.oneCell']) (fB d (.slice eo d.aB.length ec) (.slice ko d.bL.aM.length kc) (.slice tt d.aK.length tc) (.slice ho d.aC.length jk)).toArray (by rfl) ?_
              intro qi Lj FQ)
 have nZ:Below w6.heap.size w6 qi:=((Qb _ _).alloc (Qn _) _).grown Lj (by simp) (fun k e=>by injection e with e;omega);have sN:=Qh (M6.q.quiet nZ);have Cu:w6.heap.size<qi.heap.size:=(Qg FQ);have Je:=M6.q.at_.size;clear b0 b1 b2 b3 b4 b5 b6 b7 b8 Lj;have b3:=(drB_row (d:=d) sN.q.dr).c3;obtain⟨x0,x1,x2,x3,x4,x5,x6⟩:=sN.q.en;refine tK (X:=(Option Addr×Nat)×Nat×(Option Addr×Nat)) (DU w.heap.size w6.heap.size d.aB.length ((d.aB++[e]).length) ec eo e (.slice a1 e.au.length k1) (.slice a2 e.aD.length k2)) (jZ qi 2 5 4 5 5 231 222 232 (fun x w=>x.2.1<w.heap.size) (fun x w=>aN bJ 81 J6 w qi.heap.size (.slice x.1.1 d.aB.length x.1.2) d.aB∧(Value.slice x.1.1 d.aB.length x.1.2).ownBlock≠some x.2.1) (fun x w=>w.heap[x.2.1]?=some (.cells (jB e (.slice a1 e.au.length k1) (.slice a2 e.aD.length k2)) 81 (0,0))) (fun x w=>aN bJ 81 J6 w qi.heap.size (.slice x.2.2.1 (d.aB++[e]).length x.2.2.2) (d.aB++[e])) (fun _ _=>True) (fun x w=>aN bJ 81 J6 w qi.heap.size (.slice x.2.2.1 (d.aB++[e]).length x.2.2.2) (d.aB++[e])) (fun x=>w6.heap.size) 43 7 209 210 (fun x=> #[.int .i64 d.num,.int .i64 d.az,S d.bq,.slice x.2.2.1 (d.aB++[e]).length x.2.2.2,.slice ko d.bL.aM.length kc,.int .i64 d.bL.aW,S d.bL.str,.slice tt d.aK.length tc,.slice ho d.aC.length jk]) (fun x=> #[.int .i64 d.num,.int .i64 d.az,S d.bq,.slice x.2.2.1 (d.aB++[e]).length x.2.2.2,.slice ko d.bL.aM.length kc,.int .i64 d.bL.aW,S d.bL.str,.slice tt d.aK.length tc,.slice ho d.aC.length jk]) (fun x=> #[.int .i64 d.num,.int .i64 d.az,S d.bq,.slice x.2.2.1 (d.aB++[e]).length x.2.2.2,.slice ko d.bL.aM.length kc,.int .i64 d.bL.aW,S d.bL.str,.slice tt d.aK.length tc,.slice ho d.aC.length jk])) (by kernel_rfl) (by kernel_rfl) ?_ ?_ ?_
 ·exact⟨(default,0,default),jZ.start _ _ (show 0<qi.heap.size by omega)⟩
 ·rintro x s' a' w' i cu bU ha hC hi;obtain⟨aJ,oi,dN,aA⟩:=mem_ready.1 hi;have ev:=A8 FO ha;have hlt:=tJ aJ;rcases i with _|_|_|_|_|_|_|_|i
  rotate_left 8
  ·simp at dN
  all_goals
   have bY:=dN;simp at dN;subst dN;simp[Region.binds]at aA;try have hl:=qH 6 7 bU (by decide+kernel) aJ
   try have bQ:=hC.off hl
   try have b3:=bI bQ b3
   try have x0:=bI bQ x0
   try have x1:=bI bQ x1
   try have x2:=bI bQ x2
   try have x3:=bI bQ x3
   try have x4:=bI bQ x4
   try have x5:=bI bQ x5
   try have x6:=bI bQ x6
   refine wpOp_step bY (fun K' hK=> ?_);rw[if_pos (by rfl)]
  rotate_left 2
  ·unfold Oper.wp;simp[go_sem,ev,eZ,aA,Oper.upon];refine(mh.q J6 sN.q.at_.keep w' (sN.q.at_.ok.below (Qn _) bQ)).mono ?_;rintro r4 w4 ⟨v7,rfl,ho,bA⟩;obtain⟨a7,k7,rfl⟩:=wP ho;have ha:=ha.trans (qF (L:=DU w.heap.size w6.heap.size d.aB.length ((d.aB++[e]).length) ec eo e (.slice a1 e.au.length k1) (.slice a2 e.aD.length k2) x) (M:=DU w.heap.size w6.heap.size d.aB.length ((d.aB++[e]).length) ec eo e (.slice a1 e.au.length k1) (.slice a2 e.aD.length k2) ((a7,k7),x.2)) [2] rfl (fun j aZ=>by
    rcases j with _|_|_|_|_|_|_|_|j<;>first|rfl|(exact absurd (by decide) aZ)|simp) (List.forall_mem_cons.2 ⟨jl aJ,List.forall_mem_nil _⟩))
   exact hK _ _ ⟨((a7,k7),x.2),jQ FO ha rfl aJ,hC.step hl (bQ.trans (bA.mono bQ.size)) (by decide) (fun h=>Nat.lt_of_lt_of_le h bA.size) (fun _ _=>⟨ho.lower bQ.size,fun q=>by have h8:w'.heap.size≤x.2.1:=ho.l5 q;have h9:x.2.1<w'.heap.size:=hC.inv hl;omega⟩) (fun h _=>h.elim (fun e=>absurd e (by decide)) (fun⟨_,_,q⟩=>(bA.block _ (Qg q)).trans q)) (fun h _=>h.elim (fun e=>absurd e (by decide)) (fun⟨_,_,q⟩=>q.below bA)) (fun _ _=>trivial) hlt⟩
  rotate_left 1
  ·unfold Oper.wp;simp[go_sem,ev,eZ,aA,Oper.upon,b3,x0,x1,x2,x3,x4,x5,x6];have ha:=ha.trans (qF (L:=DU w.heap.size w6.heap.size d.aB.length ((d.aB++[e]).length) ec eo e (.slice a1 e.au.length k1) (.slice a2 e.aD.length k2) x) (M:=DU w.heap.size w6.heap.size d.aB.length ((d.aB++[e]).length) ec eo e (.slice a1 e.au.length k1) (.slice a2 e.aD.length k2) (x.1,w'.heap.size,x.2.2)) [4] rfl (fun j aZ=>by
    rcases j with _|_|_|_|_|_|_|_|j<;>first|rfl|(exact absurd (by decide) aZ)|simp) (List.forall_mem_cons.2 ⟨jl aJ,List.forall_mem_nil _⟩))
   exact hK _ _ ⟨(x.1,w'.heap.size,x.2.2),jQ FO ha rfl aJ,hC.step hl (bQ.trans (((Qb _ _).alloc (Qn _) _).mono bQ.size)) (by decide) (fun _=>by simp) (fun h _=>h.elim (fun e=>absurd e (by decide)) (fun⟨_,_,q⟩=>⟨q.1.alloc _,fun r=>absurd (Dx q.1 r).2 (Nat.lt_irrefl _)⟩)) (fun _ _=>heap_alloc_new _ _) (fun h _=>h.elim (fun e=>absurd e (by decide)) (fun⟨_,_,q⟩=>q.alloc _)) (fun _ _=>trivial) hlt⟩
  ·have h1:=hC.f1 (by first|simpa using aA|simp[aA]) (jl aJ) hl;have h2:=hC.f2 (by first|simpa using aA|simp[aA]) (jl aJ) hl;refine Ri Xqg _ _ rfl (by simp[Act.eval,ev,eZ,aA]) h1.1 (by simp[Act.eval,ev,eZ,aA]) (uE.vJ (T:=bJ) (x:=e) (cs:=fT e (.slice a1 e.au.length k1) (.slice a2 e.aD.length k2)) ⟨_,_,rfl,sN.q.ra,sN.q.rx⟩ (fun j u hu=>(cell_of_row w' _ j _ _ _ h2).trans (by simpa using hu))) (by simp only[List.length_nil,List.length_cons];omega) (by simp only[List.length_nil,List.length_cons];omega) bQ.size ?_;rintro v9 w9 sK dY tL;obtain⟨a9,k9,rfl⟩:=wP sK;have ha:=ha.trans (qF (L:=DU w.heap.size w6.heap.size d.aB.length ((d.aB++[e]).length) ec eo e (.slice a1 e.au.length k1) (.slice a2 e.aD.length k2) x) (M:=DU w.heap.size w6.heap.size d.aB.length ((d.aB++[e]).length) ec eo e (.slice a1 e.au.length k1) (.slice a2 e.aD.length k2) (x.1,x.2.1,(a9,k9))) [5] rfl (fun j aZ=>by
    rcases j with _|_|_|_|_|_|_|_|j<;>first|rfl|(exact absurd (by decide) aZ)|simp) (List.forall_mem_cons.2 ⟨jl aJ,List.forall_mem_nil _⟩))
   exact hK _ _ ⟨(x.1,x.2.1,(a9,k9)),jQ FO ha rfl aJ,hC.step hl (bQ.grown dY bQ.size (fun k e=>(Dx h1.1 e).1)) (by decide) (fun h=>Nat.lt_of_lt_of_le h dY.size) (fun _ h=>absurd rfl h) (fun _ h=>absurd rfl h) (fun _ _=>sK) (fun _ _=>trivial) hlt⟩
  rotate_left 1
  ·have aU:w'.heap[w6.heap.size]?=some (.cells _ 43 (0,0)):=(bQ.block _ (Qg FQ)).trans FQ;refine qU 37 _ _ rfl (w6.heap.size) 3 [.slice x.2.2.1 (d.aB++[e]).length x.2.2.2] (.slice x.2.2.1 (d.aB++[e]).length x.2.2.2) (by simp[Act.eval,ev,eZ,aA]) (by simp[Act.eval,ev,eZ,aA]) (by rfl) _ _ aU (by simp) (by kernel_rfl) (by simp[Value.oneCell']) ?_;exact hK _ _ ⟨x,dF (d:=none) (v:=undef) FO ha rfl aJ,hC.lH aJ (hC.f3 (by first|simpa using aA|simp[aA]) (kz (by simp[cu])) hl) (kz (by simp[cu])) (kz (by simp[cu])) (by decide) aU (by rfl)⟩
  all_goals
   unfold Oper.wp;first
   |(simp[go_sem,ev,eZ,aA,Oper.upon,b3,x0,x1,x2,x3,x4,x5,x6];exact hK _ _ ⟨x,jQ FO ha rfl aJ,hC.pure (by decide)⟩)
   |(simp[go_sem,ev,eZ,Oper.upon,b3,x0,x1,x2,x3,x4,x5,x6];exact hK _ _ ⟨x,jQ FO ha rfl aJ,hC.pure (by decide)⟩)
 ·rintro x s' a' xU eX ha hC;obtain⟨wb,gQ,gU,fF,aU⟩:=hC.on (eX 7 (by decide));simp only[ite_self]at aU;rw[su _ _ _ _ (fun i hi=>by rw[Nat.zero_add];exact eX i (by simpa using hi))]at ha;subst ha;simp only[df,Act.put,List.setIfInBounds_toArray,List.set_cons_succ,List.set_cons_zero];obtain⟨xv,xb,o9,k9⟩:=x;dsimp only at gU fF aU ⊢;have oL:Below w6.heap.size w6 xU:=(nZ.trans (gQ.mono (by omega))).grown fF (by have:=gQ.size;omega) (fun k e=>by injection e with e;omega);have Bd:=Qh (M6.q.quiet oL);have HO:=Qh (gU.kept fF (.inr (gU.iK Cu)));have aie:=oL.size;have Z9:=(Qg aU);obtain⟨y0,y1,y2⟩:=Bd.q.st;have kK:=(Qg M6.q.q);clear hC eX fF gQ nZ gU b3 x0 x1 x2 x3 x4 x5 x6
  go_wp2_with (first
   |(refine jy rfl rfl 40 _ _ rfl w6.heap.size 4 [.slice a3 q.aM.length k3,.int .i64 q.aW,S q.str] (fI q (.slice a3 q.aM.length k3)) (by simp[Act.eval]) (by simp[Act.eval]) (by rfl) _ 43 aU (by simp) (by kernel_rfl) (by simp[Value.oneCell']) #[.int .i64 d.num,.int .i64 d.az,S d.bq,.slice o9 (d.aB++[e]).length k9,.slice a3 q.aM.length k3,.int .i64 q.aW,S q.str,.slice tt d.aK.length tc,.slice ho d.aC.length jk] (by rfl) ?_
     intro ZX lL FR)
   |(refine jy rfl rfl 37 _ _ rfl w6.heap.size 7 [.slice o4 t2.length c4] (.slice o4 t2.length c4) (by simp[Act.eval]) (by simp[Act.eval]) (by rfl) _ 43 FR (by simp) (by kernel_rfl) (by simp[Value.oneCell']) #[.int .i64 d.num,.int .i64 d.az,S d.bq,.slice o9 (d.aB++[e]).length k9,.slice a3 q.aM.length k3,.int .i64 q.aW,S q.str,.slice o4 t2.length c4,.slice ho d.aC.length jk] (by rfl) ?_
     intro w13 oM Cr)
   |(refine jy rfl rfl 41 _ _ rfl w6.heap.size 8 [.slice o6 h2.length c6] (.slice o6 h2.length c6) (by simp[Act.eval]) (by simp[Act.eval]) (by rfl) _ 43 Cr (by simp) (by kernel_rfl) (by simp[Value.oneCell']) (fB (⟨d.num,d.az,d.bq,d.aB++[e],q,t2,h2⟩:fP) (.slice o9 (d.aB++[e]).length k9) (.slice a3 q.aM.length k3) (.slice o4 t2.length c4) (.slice o6 h2.length c6)).toArray (by rfl) ?_
     intro Iw oN Cs;obtain⟨z0,z1,z2,z3,z4,z5,z6,z7,z8⟩:=drB_row (d:=(⟨d.num,d.az,d.bq,d.aB++[e],q,t2,h2⟩:fP)) Cs;have Ta:=lL.size;have Tc:=oM.size;have Td:=oN.size;have dW:=(oN.block (w.heap.size+2) (by omega) (fun h=>by injection h with h;omega)).trans ((oM.block _ (by omega) (fun h=>by injection h with h;omega)).trans ((lL.block _ (by omega) (fun h=>by injection h with h;omega)).trans Bd.q.q)))
   |(refine jy rfl rfl 43 _ _ rfl (w.heap.size+2) 0 (fB (⟨d.num,d.az,d.bq,d.aB++[e],q,t2,h2⟩:fP) (.slice o9 (d.aB++[e]).length k9) (.slice a3 q.aM.length k3) (.slice o4 t2.length c4) (.slice o6 h2.length c6)) (kD (⟨d.num,d.az,d.bq,d.aB++[e],q,t2,h2⟩:fP) (.slice o9 (d.aB++[e]).length k9) (.slice a3 q.aM.length k3) (.slice o4 t2.length c4) (.slice o6 h2.length c6)) (by simp[Act.eval]) (by simp[Act.eval]) (by rfl) _ 43 dW (by simp) (by kernel_rfl) (by simp[Value.oneCell']) (fB (⟨d.num,d.az,d.bq,d.aB++[e],q,t2,h2⟩:fP) (.slice o9 (d.aB++[e]).length k9) (.slice a3 q.aM.length k3) (.slice o4 t2.length c4) (.slice o6 h2.length c6)).toArray (by rfl) ?_
     intro w15 FT Tn))
  refine bodyPost_ret (v:= .tuple #[kD (⟨d.num,d.az,d.bq,d.aB++[e],q,t2,h2⟩:fP) (.slice o9 (d.aB++[e]).length k9) (.slice a3 q.aM.length k3) (.slice o4 t2.length c4) (.slice o6 h2.length c6),.int .i64 0]) ?_ rfl ?_
  ·rw[results_cell_tmp rfl];simp[asAddr,run_loadVar_row w15 (w.heap.size+2) 43 43 _ (0,0) _ Tn Tryz.underlying43 rfl vV.q]
  ·have q6:J6 w6.heap.size=none:=M6.q.at_.ok.fresh (Qn _);have Ll:Ok J6 w15:=(((Bd.q.at_.ok.grown lL (fun g h=>by injection h with h;subst h;exact q6)).grown oM (fun g h=>by injection h with h;subst h;exact q6)).grown oN (fun g h=>by injection h with h;subst h;exact q6)).grown FT (fun g h=>by injection h with h;subst h;exact M6.q.no);have Tp:=(((HO.q.kept lL (.inr (HO.q.iK Cu))).kept oM (.inr (HO.q.iK Cu))).kept oN (.inr (HO.q.iK Cu))).kept FT (.inr (HO.q.iK (by omega)));obtain⟨J7,sZ,gT,oO,_⟩:=Tp.freeze Ll (fun b hb=>M6.q.at_.ok.fresh (by omega));have Iy:=sZ.keep sN.q.at_.ok (Qn _);rw[Hn.q]
   exact⟨_,_,_,_,J7,rfl,(((Bd.q.at_.eD.grown lL (by omega) (fun k h=>by injection h with h;omega)).grown oM (by omega) (fun k h=>by injection h with h;omega)).grown oN (by omega) (fun k h=>by injection h with h;omega)).grown FT (by omega) (fun k h=>by injection h with h;omega),
    M6.q.ext.trans sZ (by omega),gT,⟨oO,Bd.q.rq.mono Iy,Tm.mono Iy,Li.mono Iy⟩⟩
