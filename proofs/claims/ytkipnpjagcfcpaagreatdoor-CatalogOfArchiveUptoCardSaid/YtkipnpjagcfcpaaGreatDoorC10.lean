/-
  Walks and laws that the claim's theorem uses: texts SnJ RhR RhT RhX SnM CtR SnC SnN SnO SnU RhS SnK SnL SnV, joined; comments out. Conditions: as each theorem says.
-/
import Derived.Test.YtkipnpjagcfcpaaGreatDoorC09
import Derived.Deep.RegionHeld3
set_option linter.all false
namespace Go.Proofs.YtkipnpjagcfcpaaGreatDoor
open Go.RowKit
structure DrRd (I:IH) (d:Drf) (ve vk vt vh:Value):Prop where
 ents:RdS tEnt I ve d.ents
 cks:RdS tCk I vk d.sto.cks
 tree:RdS tEnt I vt d.tree
 holds:RdS tHo I vh d.holds
theorem DrRd.mono {I J:IH} {d:Drf} {ve vk vt vh:Value} (hI:∀b c,I b=some c→J b=some c) (h:DrRd I d ve vk vt vh):DrRd J d ve vk vt vh:=
 ⟨h.ents.mono hI,h.cks.mono hI,h.tree.mono hI,h.holds.mono hI⟩
def RetDr (I:IH) (w:World) (d:Drf) (n:Int) (e:Ending) (w':World):Prop:=
 ∃ve vk vt vh J,e= .returned (.tuple #[drV d ve vk vt vh,.int .i64 n])∧Below w.heap.size w w'∧Ext w.heap.size I J∧Ok J w'∧DrRd J d ve vk vt vh
abbrev zeroD:Array Value:= #[.int .i64 0,.int .i64 0,.string ⟨#[]⟩,.slice none 0 0,.slice none 0 0,.int .i64 0,.string ⟨#[]⟩,.slice none 0 0,.slice none 0 0]
abbrev drCs (d:Drf) (ve vk vt vh:Value):List Value:= [.int .i64 d.num,.int .i64 d.date,S d.prev,ve,vk,.int .i64 d.sto.ses,S d.sto.str,vt,vh]
theorem entB_row {w:World} {b:Nat} {e:Ent} {va vx:Value} {t:TypeId} (h:w.heap[b]? =some (.cells (entRow e va vx) t (0,0))):EntB w b e va vx:=
 ⟨(cell_of_row _ _ 0 _ _ _ h).trans rfl,(cell_of_row _ _ 1 _ _ _ h).trans rfl,(cell_of_row _ _ 2 _ _ _ h).trans rfl,(cell_of_row _ _ 3 _ _ _ h).trans rfl,(cell_of_row _ _ 4 _ _ _ h).trans rfl,(cell_of_row _ _ 5 _ _ _ h).trans rfl,(cell_of_row _ _ 6 _ _ _ h).trans rfl⟩
structure StoB (w:World) (n:Nat) (q:Sto) (vk:Value):Prop where
 c0:w.cell? ⟨n,0,none⟩=some vk
 c1:w.cell? ⟨n,1,none⟩=some (.int .i64 q.ses)
 c2:w.cell? ⟨n,2,none⟩=some (S q.str)
theorem StoB.thru {w w':World} {b:Nat} {q:Sto} {vk:Value} (h:StoB w b q vk) (hb:Below w.heap.size w w'):StoB w' b q vk:=⟨Xaa hb h.c0,Xaa hb h.c1,Xaa hb h.c2⟩
theorem stoB_row {w:World} {b:Nat} {q:Sto} {vk:Value} {t:TypeId} (h:w.heap[b]? =some (.cells #[vk,.int .i64 q.ses,S q.str] t (0,0))):StoB w b q vk:=
 ⟨(cell_of_row _ _ 0 _ _ _ h).trans rfl,(cell_of_row _ _ 1 _ _ _ h).trans rfl,(cell_of_row _ _ 2 _ _ _ h).trans rfl⟩
theorem Xel (w:World) (a b c:Array Value) (ta tb tc:TypeId) (W:World) (hW:((w.alloc (.cells a ta)).alloc (.cells b tb)).alloc (.cells c tc)=W):
 W.heap.size=w.heap.size+3∧W.heap[w.heap.size]? =some (.cells a ta (0,0))∧W.heap[w.heap.size+1]? =some (.cells b tb (0,0))∧W.heap[w.heap.size+2]? =some (.cells c tc (0,0)):=by
 subst hW
 refine ⟨by simp,?_,?_,?_⟩
 ·exact (Below.heap_alloc _ _ _ (by simp;omega)).trans ((Below.heap_alloc _ _ _ (by simp)).trans (heap_alloc_new w _))
 ·have h:=heap_alloc_new (w.alloc (.cells a ta)) (.cells b tb)
  rw [World.size_alloc] at h
  exact (Below.heap_alloc _ _ _ (by simp)).trans h
 ·have h:=heap_alloc_new ((w.alloc (.cells a ta)).alloc (.cells b tb)) (.cells c tc)
  rwa [World.size_alloc,World.size_alloc] at h
theorem Xv4 {d:Drf} {c:Chg} {e:Ent} {q:Sto} (h:recP d.sto c=(e,q)):addP d c=
 if entErr e≠0 then (d,entErr e) else if c.kind≠1∧c.content≠ [] then (d,1) else if 400≤d.ents.length∨14680064<q.str.length then (d,6)
 else if (stpP d.stt e d.date).2≠0 then (d,(stpP d.stt e d.date).2)
 else (⟨d.num,d.date,d.prev,d.ents++ [e],q,(stpP d.stt e d.date).1.tree,(stpP d.stt e d.date).1.holds⟩,0):=by
 unfold addP
 rw [h]
structure AdM (I:IH) (w0:World) (d:Drf) (ve vk vt vh:Value) (c:Chg) (va:Value) (e:Ent) (xa xx:Value) (q:Sto) (vq:Value) (n6 n7:Nat) (J:IH) (W:World):Prop where
 at_:MAt I w0 J W
 ext:Ext w0.heap.size I J
 no:J (w0.heap.size+2)=none
 no0:J w0.heap.size=none
 dr:W.heap[w0.heap.size]? =some (.cells (drCs d ve vk vt vh).toArray 92 (0,0))
 cg:ChgB W (w0.heap.size+1) c va
 out:W.heap[w0.heap.size+2]? =some (.cells zeroD 92 (0,0))
 en:EntB W n6 e xa xx
 st:StoB W n7 q vq
 ra:RdS tAt J xa e.attrs
 rx:RdS tXt J xx e.exts
 rq:RdS tCk J vq q.cks
section
variable {I:IH} {w0:World} {d:Drf} {ve vk vt vh:Value} {c:Chg} {va:Value} {e:Ent} {xa xx:Value} {q:Sto} {vq:Value} {n6 n7:Nat} {J J':IH} {W W':World}
theorem AdM.thru (h:AdM I w0 d ve vk vt vh c va e xa xx q vq n6 n7 J W) (hb:Below W.heap.size W W') (hx:Ext W.heap.size J J') (hok:Ok J' W'):AdM I w0 d ve vk vt vh c va e xa xx q vq n6 n7 J' W':=by
 have hk:=hx.keep h.at_.ok (Qn _)
 have hs:=h.at_.size
 have hlt:=(Array.getElem?_eq_some_iff.1 h.out).1
 exact ⟨h.at_.ext hb hx hok,h.ext.trans hx hs,(hx _ hlt).trans h.no,(hx _ (Array.getElem?_eq_some_iff.1 h.dr).1).trans h.no0,(hb.block _ (Array.getElem?_eq_some_iff.1 h.dr).1).trans h.dr,h.cg.thru hb,(hb.block _ hlt).trans h.out,h.en.thru hb,h.st.thru hb,h.ra.mono hk,h.rx.mono hk,h.rq.mono hk⟩
theorem AdM.quiet (h:AdM I w0 d ve vk vt vh c va e xa xx q vq n6 n7 J W) (hb:Below W.heap.size W W'):AdM I w0 d ve vk vt vh c va e xa xx q vq n6 n7 J W':=h.thru hb (Ext.refl _ _) (h.at_.ok.below (Qn _) hb)
theorem AdM.ret (h:AdM I w0 d ve vk vt vh c va e xa xx q vq n6 n7 J W) (hr:DrRd I d ve vk vt vh) {w9:World} (hg:W.grownBy w9 (some (w0.heap.size+2))) {p:Drf × Int} {r:Int} (hp:p=(d,r)):
 RetDr I w0 p.1 p.2 (.returned (.tuple #[drV d ve vk vt vh,.int .i64 r])) w9:=by
 subst hp
 exact ⟨ve,vk,vt,vh,J,rfl,h.at_.bel.grown hg h.at_.size (fun k e=>by cases e;omega),h.ext,h.at_.ok.grown hg (fun g e=>by cases e;exact h.no),hr.mono h.at_.keep⟩
end
abbrev saL (n m le le1 cp:Nat) (ao:Option Addr) (e:Ent) (xa xx:Value) (x:(Option Addr × Nat) × Nat × (Option Addr × Nat)):List (Option Tmp × Value):=
 [(some 80,.pointer (some ⟨n,3,none⟩)),(some 81,.slice ao le cp),(some 82,.slice x.1.1 le x.1.2),(some 83,entV e xa xx),(some 84,.slice (some ⟨x.2.1,0,none⟩) 1 1),(some 85,.slice x.2.2.1 le1 x.2.2.2),(some 86,.pointer (some ⟨m,3,none⟩)),(none,undef)]
theorem Xce {n m le le1 cp:Nat} {ao:Option Addr} {e:Ent} {xa xx:Value} {x:(Option Addr × Nat) × Nat × (Option Addr × Nat)}:ApartF (saL n m le le1 cp ao e xa xx x):=by
 unfold ApartF
 simp
set_option maxRecDepth 100000 in
set_option maxHeartbeats 8000000 in
theorem Xv9 (I:IH) (hI:Glob I) {n:Nat} (d:Drf) (hd:DrOk n d) (hn:n≤5000) (ve vk vt vh:Value) (hr:DrRd I d ve vk vt vh) (c:Chg) (hc:c.Wf) (hca:c.attrs.length≤4398046511000) (va:Value) (hva:RdS tAt I va c.attrs) (w:World) (hw:Ok I w):
 Calls Tryz.prog 79 #[drV d ve vk vt vh,chgV c va] w (RetDr I w (addP d c).1 (addP d c).2):=by
 have hsq:=hd.sto (by omega)
 have Hrec:=Qh (fun w hw=>Xpr I hI d.sto vk hr.cks hsq (by have:=hd.cks;omega) c va hva hc hca w hw)
 have hwf:=Xp7 hsq hc
 have hfl:=Xog d.sto c
 obtain ⟨e,q,hrec⟩:∃e q,recP d.sto c=(e,q):=⟨_,_,rfl⟩
 have Hadd:=Qh (Xv4 hrec)
 rw [hrec] at Hrec hwf hfl
 dsimp only at hwf hfl
 have hpl:e.path.length≤4294967280:=by rw [hfl.2.1];exact hc.path
 have htl:e.target.length≤4294967280:=by rw [hfl.2.2.2];exact hc.target
 have hst:=hd.st
 have Hda:=Qh (fun J (hk:∀b c,I b=some c→J b=some c) xa xx hxa hxx w hw=>Xnn J (hI.mono hk) vt d.tree (hr.tree.mono hk) hst.sml hst.ok.tree.srt (by have:=hst.ok.tlen;show d.stt.tree.length≤_;omega) e xa xx hxa hxx hwf hpl htl w hw)
 have Hfb:=Qh (fun J (hk:∀b c,I b=some c→J b=some c) xa xx hxa hxx (h1:1≤e.kind) w hw=>Xj3 J (hI.mono hk) d ve vk vt vh (hr.tree.mono hk) (hr.holds.mono hk) hst.ok.holds (by have:=hst.ok.hlen;show d.stt.holds.length≤_;omega) e xa xx hxa hxx h1 hpl w hw)
 have Hap:=Qh (fun J (hk:∀b c,I b=some c→J b=some c) xa xx hxa hxx (h1:entErr e=0) w hw=>Xm7 J (hI.mono hk) vh d.holds (hr.holds.mono hk) hst.ok.holds (by have:=hst.ok.hlen;show d.stt.holds.length≤_;omega) e xa xx hxa hxx h1 d.date w hw)
 have Hcl:=Qh (fun J (hk:∀b c,I b=some c→J b=some c) w hw=>Xbq J ve d.ents (hr.ents.mono hk) w hw (by have:=hd.ents;omega))
 have hel:=hd.ents
 have Hr:=Qh hr
 have Hi9:=Qh (show (Tryz.prog.info? 92).map (·.size)=some 9 by kernel_rfl)
 obtain ⟨eo,ec,rfl,_,_,_⟩:=id hr.ents
 obtain ⟨ko,kc,rfl,_,_,_⟩:=id hr.cks
 obtain ⟨tt,tc,rfl,_,_,_⟩:=id hr.tree
 obtain ⟨ho,hc',rfl,_,_,_⟩:=id hr.holds
 obtain ⟨ao,ac,rfl,_,_,_⟩:=id hva
 obtain ⟨W3,hW3⟩:∃W3,(((w.alloc (.cells #[.int .i64 d.num,.int .i64 d.date,S d.prev,.slice eo d.ents.length ec,.slice ko d.sto.cks.length kc,.int .i64 d.sto.ses,S d.sto.str,.slice tt d.tree.length tc,.slice ho d.holds.length hc'] 92)).alloc (.cells #[.int .i64 c.kind,S c.path,.slice ao c.attrs.length ac,S c.target,S c.content] 49)).alloc (.cells zeroD 92))=W3:=⟨_,rfl⟩
 obtain ⟨hsz3,h30,h31,h32⟩:=Xel w _ _ _ _ _ _ W3 hW3
 have A3:=Qh (show MAt I w I W3 by rw [←hW3];exact (((MAt.start hw).past _).past _).past _)
 have H30:=Qh h30
 have H31:=Qh h31
 have H32:=Qh h32
 obtain ⟨b0,b1,b2,b3,b4,b5,b6,b7,b8⟩:=drB_row h30
 obtain ⟨g0,g1,g2,g3,g4⟩:=chgB_row h31
 have hno:I (w.heap.size+2)=none:=hw.fresh (by omega)
 have hno0:I w.heap.size=none:=hw.fresh (Qn _)
 clear hr hva h30 h31 h32 hsq hfl hst hrec
 go_enter Tryz.func79,Tryz.ntmps79
 go_wp2_with fail
 refine (Hrec.out W3 A3.out.ok).mono ?_
 rintro e1 w1 ⟨xa,xx,vq,J,rfl,hb1,hx1,hok1,hxa,hxx,hxq⟩
 obtain ⟨a1,k1,rfl,_,_,_⟩:=id hxa
 obtain ⟨a2,k2,rfl,_,_,_⟩:=id hxx
 obtain ⟨a3,k3,rfl,_,_,_⟩:=id hxq
 have hs1:=hb1.size
 clear hW3 b0 b1 b2 b3 b4 b5 b6 b7 b8 g0 g1 g2 g3 g4
 go_upto_if 21 with (first
  |(refine Xaf rfl rfl 35 _ _ rfl w1.heap.size 0 (entCs e (.slice a1 e.attrs.length k1) (.slice a2 e.exts.length k2)) (entV e (.slice a1 e.attrs.length k1) (.slice a2 e.exts.length k2)) (by simp [Act.eval]) (by simp [Act.eval]) (by rfl) zeroRow 35 ((Below.heap_alloc _ _ _ (by simp)).trans (heap_alloc_new _ _)) (by simp) (by kernel_rfl) (by simp [Value.oneCell']) (entRow e (.slice a1 e.attrs.length k1) (.slice a2 e.exts.length k2)) (by rfl) ?_
    intro w2 hg2 hr2)
  |(refine Xaf rfl rfl 89 _ _ rfl (w1.heap.size+1) 0 [.slice a3 q.cks.length k3,.int .i64 q.ses,S q.str] (stoV q (.slice a3 q.cks.length k3)) (by simp [Act.eval]) (by simp [Act.eval]) (by rfl) #[.slice none 0 0,.int .i64 0,.string ⟨#[]⟩] 89 ((hg2.block _ (by simp) (by simp)).trans (by have h:=heap_alloc_new (w1.alloc (.cells zeroRow 35)) (.cells #[.slice none 0 0,.int .i64 0,.string ⟨#[]⟩] 89);rwa [World.size_alloc] at h)) (by simp) (by kernel_rfl) (by simp [Value.oneCell']) #[.slice a3 q.cks.length k3,.int .i64 q.ses,S q.str] (by rfl) ?_
    intro w3 hg3 hr3))
 have hs2:=hg2.size
 have hs3:=hg3.size
 rw [World.size_alloc,World.size_alloc] at hs2
 have M:=Qh (show AdM I w d (.slice eo d.ents.length ec) (.slice ko d.sto.cks.length kc) (.slice tt d.tree.length tc) (.slice ho d.holds.length hc') c (.slice ao c.attrs.length ac) e (.slice a1 e.attrs.length k1) (.slice a2 e.exts.length k2) q (.slice a3 q.cks.length k3) w1.heap.size (w1.heap.size+1) J w3 from by
  have A1:=A3.out.ext hb1 hx1 hok1
  have A2:=(A1.past (.cells zeroRow 35)).past (.cells #[.slice none 0 0,.int .i64 0,.string ⟨#[]⟩] 89)
  have e6:J w1.heap.size=none:=hok1.fresh (Qn _)
  have e7:J (w1.heap.size+1)=none:=hok1.fresh (by omega)
  have hz:∀b,b<w1.heap.size→w3.heap[b]? =w1.heap[b]? :=fun b hb=>(hg3.block b (by omega) (fun h=>by injection h with h;omega)).trans ((hg2.block b (by simp;omega) (fun h=>by injection h with h;omega)).trans ((Below.heap_alloc _ _ _ (by simp;omega)).trans (Below.heap_alloc _ _ _ hb)))
  have hz1:∀b,b<W3.heap.size→w3.heap[b]? =W3.heap[b]? :=fun b hb=>(hz b (by omega)).trans (hb1.block b hb)
  exact ⟨⟨(A2.ok.grown hg2 (fun g h=>by cases h;exact e6)).grown hg3 (fun g h=>by cases h;exact e7),A1.keep,(A2.bel.grown hg2 (by simp;omega) (fun k h=>by cases h;omega)).grown hg3 (by omega) (fun k h=>by cases h;omega)⟩,
   hx1.mono (by omega),(hx1 _ (by omega)).trans hno,(hx1 _ (by omega)).trans hno0,(hz1 _ (by omega)).trans H30.out,chgB_row ((hz1 _ (by omega)).trans H31.out),(hz1 _ (by omega)).trans H32.out,
   entB_row ((hg3.block _ (by omega) (fun h=>by injection h with h;omega)).trans hr2),stoB_row hr3,hxa,hxx,hxq⟩)
 clear hs2 hs3 hg2 hg3 hr2 hr3 hb1 hx1 hok1 hxa hxx hxq H30 H31 H32 A3 hno hno0 hsz3 Hrec
 obtain ⟨r,hre⟩:∃r,entErr e=r:=⟨_,rfl⟩
 rw [hre] at Hadd Hap ⊢
 by_cases h0:r=0
 case neg=>
  have f1:(r != 0)=true:=by simpa using h0
  have Hn:=Qh (Hadd.out.trans (if_pos h0))
  clear Hadd h0
  obtain ⟨b0,b1,b2,b3,b4,b5,b6,b7,b8⟩:=drB_row (d:=d) M.out.dr
  have hout:=M.out.out
  go_wp2_with (refine Xaf rfl rfl 92 _ _ rfl (w.heap.size+2) 0 (drCs d (.slice eo d.ents.length ec) (.slice ko d.sto.cks.length kc) (.slice tt d.tree.length tc) (.slice ho d.holds.length hc')) (drV d (.slice eo d.ents.length ec) (.slice ko d.sto.cks.length kc) (.slice tt d.tree.length tc) (.slice ho d.holds.length hc')) (by simp [Act.eval]) (by simp [Act.eval]) (by rfl) _ 92 hout (by simp) (by kernel_rfl) (by simp [Value.oneCell']) (drCs d (.slice eo d.ents.length ec) (.slice ko d.sto.cks.length kc) (.slice tt d.tree.length tc) (.slice ho d.holds.length hc')).toArray (by rfl) ?_
               intro w9 hg9 hr9)
  refine bodyPost_ret (v:= .tuple #[drV d (.slice eo d.ents.length ec) (.slice ko d.sto.cks.length kc) (.slice tt d.tree.length tc) (.slice ho d.holds.length hc'),.int .i64 r]) ?_ rfl (M.out.ret Hr.out hg9 Hn.out)
  rw [results_cell_tmp rfl]
  simp [asAddr,run_loadVar_row w9 (w.heap.size+2) 92 92 _ (0,0) _ hr9 Tryz.underlying92 rfl Hi9.out]
 subst h0
 replace Hadd:=Qh (Hadd.out.trans (if_neg (by decide)))
 have hk1:=(Xb6 hre).1
 obtain ⟨g0,g1,g2,g3,g4⟩:=M.out.cg
 obtain ⟨B,hB⟩:∃B:Bool,decide (c.kind≠1∧c.content≠ [])=B:=⟨_,rfl⟩
 go_upto_region 4 with fail
 go_cut [26] (fun s26 wx=>s26= .bool B∧w3=wx)
 case first=>
  by_cases q1:c.content= []
  ·have i1:c.content.isEmpty=true:=by simp [q1]
   have i2:(c.content== [])=true:=by simp [q1]
   have hB2:B=false:=by rw [←hB];exact Qf (fun h=>h.2 q1)
   subst hB2
   clear hB q1
   go_wp2_with fail
   go_meet
   exact ⟨rfl,rfl⟩
  ·have i1:c.content.isEmpty=false:=by simpa using q1
   have i2:(c.content== [])=false:=by simpa using q1
   by_cases q2:c.kind=1
   ·have i3:(c.kind != 1)=false:=by simp [q2]
    have hB2:B=false:=by rw [←hB];exact Qf (fun h=>h.1 q2)
    subst hB2
    clear hB q1 q2
    go_wp2_with fail
    go_meet
    exact ⟨rfl,rfl⟩
   ·have i3:(c.kind != 1)=true:=by simpa using q2
    have hB2:B=true:=by rw [←hB];exact Qt ⟨q2,q1⟩
    subst hB2
    clear hB q1 q2
    go_wp2_with fail
    go_meet
    exact ⟨rfl,rfl⟩
 case rest=>
 obtain ⟨rfl,hcut⟩:=hcut
 subst hcut
 clear g0 g1 g2 g3 g4
 cases B
 case true=>
  have Hn:=Qh (Hadd.out.trans (if_pos (of_decide_eq_true hB)))
  clear Hadd hB
  obtain ⟨b0,b1,b2,b3,b4,b5,b6,b7,b8⟩:=drB_row (d:=d) M.out.dr
  have hout:=M.out.out
  go_wp2_with (refine Xaf rfl rfl 92 _ _ rfl (w.heap.size+2) 0 (drCs d (.slice eo d.ents.length ec) (.slice ko d.sto.cks.length kc) (.slice tt d.tree.length tc) (.slice ho d.holds.length hc')) (drV d (.slice eo d.ents.length ec) (.slice ko d.sto.cks.length kc) (.slice tt d.tree.length tc) (.slice ho d.holds.length hc')) (by simp [Act.eval]) (by simp [Act.eval]) (by rfl) _ 92 hout (by simp) (by kernel_rfl) (by simp [Value.oneCell']) (drCs d (.slice eo d.ents.length ec) (.slice ko d.sto.cks.length kc) (.slice tt d.tree.length tc) (.slice ho d.holds.length hc')).toArray (by rfl) ?_
               intro w9 hg9 hr9)
  refine bodyPost_ret (v:= .tuple #[drV d (.slice eo d.ents.length ec) (.slice ko d.sto.cks.length kc) (.slice tt d.tree.length tc) (.slice ho d.holds.length hc'),.int .i64 1]) ?_ rfl (M.out.ret Hr.out hg9 Hn.out)
  rw [results_cell_tmp rfl]
  simp [asAddr,run_loadVar_row w9 (w.heap.size+2) 92 92 _ (0,0) _ hr9 Tryz.underlying92 rfl Hi9.out]
 replace Hadd:=Qh (Hadd.out.trans (if_neg (of_decide_eq_false hB)))
 clear hB
 obtain ⟨y0,y1,y2⟩:=M.out.st
 obtain ⟨b0,b1,b2,b3,b4,b5,b6,b7,b8⟩:=drB_row (d:=d) M.out.dr
 obtain ⟨B,hB⟩:∃B:Bool,decide (400≤d.ents.length∨14680064<q.str.length)=B:=⟨_,rfl⟩
 go_upto_region 6 with fail
 go_cut [36] (fun s36 wx=>s36= .bool B∧w3=wx)
 case first=>
  by_cases q1:400≤d.ents.length
  ·have i1:decide ((400:Int)≤(d.ents.length:Int))=true:=Qt (by omega)
   have hB2:B=true:=by rw [←hB];exact Qt (.inl q1)
   subst hB2
   clear hB q1
   go_wp2_with fail
   go_meet
   exact ⟨rfl,rfl⟩
  ·have i1:decide ((400:Int)≤(d.ents.length:Int))=false:=Qf (by omega)
   by_cases q2:14680064<q.str.length
   ·have i3:decide ((14680064:Int)<(q.str.length:Int))=true:=Qt (by omega)
    have hB2:B=true:=by rw [←hB];exact Qt (.inr q2)
    subst hB2
    clear hB q1 q2
    go_wp2_with fail
    go_meet
    exact ⟨rfl,rfl⟩
   ·have i3:decide ((14680064:Int)<(q.str.length:Int))=false:=Qf (by omega)
    have hB2:B=false:=by rw [←hB];exact Qf (by omega)
    subst hB2
    clear hB q1 q2
    go_wp2_with fail
    go_meet
    exact ⟨rfl,rfl⟩
 case rest=>
 obtain ⟨rfl,hcut⟩:=hcut
 subst hcut
 clear y0 y1 y2
 cases B
 case true=>
  have Hn:=Qh (Hadd.out.trans (if_pos (of_decide_eq_true hB)))
  clear Hadd hB b0 b1 b2 b3 b4 b5 b6 b7 b8
  obtain ⟨b0,b1,b2,b3,b4,b5,b6,b7,b8⟩:=drB_row (d:=d) M.out.dr
  have hout:=M.out.out
  go_wp2_with (refine Xaf rfl rfl 92 _ _ rfl (w.heap.size+2) 0 (drCs d (.slice eo d.ents.length ec) (.slice ko d.sto.cks.length kc) (.slice tt d.tree.length tc) (.slice ho d.holds.length hc')) (drV d (.slice eo d.ents.length ec) (.slice ko d.sto.cks.length kc) (.slice tt d.tree.length tc) (.slice ho d.holds.length hc')) (by simp [Act.eval]) (by simp [Act.eval]) (by rfl) _ 92 hout (by simp) (by kernel_rfl) (by simp [Value.oneCell']) (drCs d (.slice eo d.ents.length ec) (.slice ko d.sto.cks.length kc) (.slice tt d.tree.length tc) (.slice ho d.holds.length hc')).toArray (by rfl) ?_
               intro w9 hg9 hr9)
  refine bodyPost_ret (v:= .tuple #[drV d (.slice eo d.ents.length ec) (.slice ko d.sto.cks.length kc) (.slice tt d.tree.length tc) (.slice ho d.holds.length hc'),.int .i64 6]) ?_ rfl (M.out.ret Hr.out hg9 Hn.out)
  rw [results_cell_tmp rfl]
  simp [asAddr,run_loadVar_row w9 (w.heap.size+2) 92 92 _ (0,0) _ hr9 Tryz.underlying92 rfl Hi9.out]
 replace Hadd:=Qh (Hadd.out.trans (if_neg (of_decide_eq_false hB)))
 clear hB
 obtain ⟨x0,x1,x2,x3,x4,x5,x6⟩:=M.out.en
 obtain ⟨t2,r2,happ⟩:∃t2 r2,applyT d.tree e=(t2,r2):=⟨_,_,rfl⟩
 obtain ⟨h2,r4,hah⟩:∃h2 r4,appH d.holds e d.date=(h2,r4):=⟨_,_,rfl⟩
 obtain ⟨r3,hask⟩:∃r3,askP d.stt e d.date=r3:=⟨_,rfl⟩
 have hstp:stpP d.stt e d.date=if r2≠0 then (d.stt,r2) else if r3≠0 then (d.stt,r3) else if r4≠0 then (d.stt,r4) else (⟨t2,h2⟩,0):=by
  unfold stpP
  rw [show applyT d.stt.tree e=(t2,r2) from happ,show appH d.stt.holds e d.date=(h2,r4) from hah,hask]
 rw [hstp] at Hadd
 rw [happ] at Hda
 rw [hah] at Hap
 rw [hask] at Hfb
 clear happ hah hask hstp
 go_wp2_with fail
 refine (Hda.out J M.out.at_.keep _ _ M.out.ra M.out.rx w3 M.out.at_.ok).mono ?_
 rintro e4 w4 ⟨vt2,J4,rfl,hb4,hx4,hok4,hrt⟩
 have M4:=Qh (M.out.thru hb4 hx4 hok4)
 obtain ⟨o4,c4,rfl,_,_,_⟩:=id hrt
 clear b0 b1 b2 b3 b4 b5 b6 b7 b8 x0 x1 x2 x3 x4 x5 x6 M hb4 hx4 hok4 Hda
 go_upto_if 56 with fail
 by_cases h0:r2=0
 case neg=>
  have f1:(r2 != 0)=true:=by simpa using h0
  have Hn:=Qh (show addP d c=(d,r2) by rw [Hadd.out,if_pos h0,if_pos h0])
  clear Hadd h0
  obtain ⟨b0,b1,b2,b3,b4,b5,b6,b7,b8⟩:=drB_row (d:=d) M4.out.dr
  have hout:=M4.out.out
  go_wp2_with (refine Xaf rfl rfl 92 _ _ rfl (w.heap.size+2) 0 (drCs d (.slice eo d.ents.length ec) (.slice ko d.sto.cks.length kc) (.slice tt d.tree.length tc) (.slice ho d.holds.length hc')) (drV d (.slice eo d.ents.length ec) (.slice ko d.sto.cks.length kc) (.slice tt d.tree.length tc) (.slice ho d.holds.length hc')) (by simp [Act.eval]) (by simp [Act.eval]) (by rfl) _ 92 hout (by simp) (by kernel_rfl) (by simp [Value.oneCell']) (drCs d (.slice eo d.ents.length ec) (.slice ko d.sto.cks.length kc) (.slice tt d.tree.length tc) (.slice ho d.holds.length hc')).toArray (by rfl) ?_
               intro w9 hg9 hr9)
  refine bodyPost_ret (v:= .tuple #[drV d (.slice eo d.ents.length ec) (.slice ko d.sto.cks.length kc) (.slice tt d.tree.length tc) (.slice ho d.holds.length hc'),.int .i64 r2]) ?_ rfl (M4.out.ret Hr.out hg9 Hn.out)
  rw [results_cell_tmp rfl]
  simp [asAddr,run_loadVar_row w9 (w.heap.size+2) 92 92 _ (0,0) _ hr9 Tryz.underlying92 rfl Hi9.out]
 subst h0
 rw [if_neg (show ¬((0:Int)≠0) by decide)] at Hadd
 obtain ⟨b0,b1,b2,b3,b4,b5,b6,b7,b8⟩:=drB_row (d:=d) M4.out.dr
 obtain ⟨x0,x1,x2,x3,x4,x5,x6⟩:=M4.out.en
 go_wp2_with fail
 refine (Hfb.out J4 M4.out.at_.keep _ _ M4.out.ra M4.out.rx hk1 w4 M4.out.at_.ok).mono ?_
 rintro e5 w5 ⟨rfl,hb5⟩
 have M5:=Qh (M4.out.quiet hb5)
 clear b0 b1 b2 b3 b4 b5 b6 b7 b8 x0 x1 x2 x3 x4 x5 x6 M4 hb5 Hfb
 go_upto_if 63 with fail
 by_cases h0:r3=0
 case neg=>
  have f1:(r3 != 0)=true:=by simpa using h0
  have Hn:=Qh (show addP d c=(d,r3) by rw [Hadd.out,if_pos h0,if_pos h0])
  clear Hadd h0
  obtain ⟨b0,b1,b2,b3,b4,b5,b6,b7,b8⟩:=drB_row (d:=d) M5.out.dr
  have hout:=M5.out.out
  go_wp2_with (refine Xaf rfl rfl 92 _ _ rfl (w.heap.size+2) 0 (drCs d (.slice eo d.ents.length ec) (.slice ko d.sto.cks.length kc) (.slice tt d.tree.length tc) (.slice ho d.holds.length hc')) (drV d (.slice eo d.ents.length ec) (.slice ko d.sto.cks.length kc) (.slice tt d.tree.length tc) (.slice ho d.holds.length hc')) (by simp [Act.eval]) (by simp [Act.eval]) (by rfl) _ 92 hout (by simp) (by kernel_rfl) (by simp [Value.oneCell']) (drCs d (.slice eo d.ents.length ec) (.slice ko d.sto.cks.length kc) (.slice tt d.tree.length tc) (.slice ho d.holds.length hc')).toArray (by rfl) ?_
               intro w9 hg9 hr9)
  refine bodyPost_ret (v:= .tuple #[drV d (.slice eo d.ents.length ec) (.slice ko d.sto.cks.length kc) (.slice tt d.tree.length tc) (.slice ho d.holds.length hc'),.int .i64 r3]) ?_ rfl (M5.out.ret Hr.out hg9 Hn.out)
  rw [results_cell_tmp rfl]
  simp [asAddr,run_loadVar_row w9 (w.heap.size+2) 92 92 _ (0,0) _ hr9 Tryz.underlying92 rfl Hi9.out]
 subst h0
 rw [if_neg (show ¬((0:Int)≠0) by decide)] at Hadd
 obtain ⟨b0,b1,b2,b3,b4,b5,b6,b7,b8⟩:=drB_row (d:=d) M5.out.dr
 obtain ⟨x0,x1,x2,x3,x4,x5,x6⟩:=M5.out.en
 go_wp2_with fail
 refine (Hap.out J4 M5.out.at_.keep _ _ M5.out.ra M5.out.rx trivial w5 M5.out.at_.ok).mono ?_
 rintro e6 w6 ⟨vh2,J6,rfl,hb6,hx6,hok6,hrh⟩
 have M6:=Qh (M5.out.thru hb6 hx6 hok6)
 have hrt6:=hrt.mono (hx6.keep M5.out.at_.ok (Qn _))
 obtain ⟨o6,c6,rfl,_,_,_⟩:=id hrh
 clear b0 b1 b2 b3 b4 b5 b6 b7 b8 x0 x1 x2 x3 x4 x5 x6 M5 hb6 hx6 hok6 Hap hrt
 go_upto_if 76 with fail
 by_cases h0:r4=0
 case neg=>
  have f1:(r4 != 0)=true:=by simpa using h0
  have Hn:=Qh (show addP d c=(d,r4) by rw [Hadd.out,if_pos h0,if_pos h0])
  clear Hadd h0
  obtain ⟨b0,b1,b2,b3,b4,b5,b6,b7,b8⟩:=drB_row (d:=d) M6.out.dr
  have hout:=M6.out.out
  go_wp2_with (refine Xaf rfl rfl 92 _ _ rfl (w.heap.size+2) 0 (drCs d (.slice eo d.ents.length ec) (.slice ko d.sto.cks.length kc) (.slice tt d.tree.length tc) (.slice ho d.holds.length hc')) (drV d (.slice eo d.ents.length ec) (.slice ko d.sto.cks.length kc) (.slice tt d.tree.length tc) (.slice ho d.holds.length hc')) (by simp [Act.eval]) (by simp [Act.eval]) (by rfl) _ 92 hout (by simp) (by kernel_rfl) (by simp [Value.oneCell']) (drCs d (.slice eo d.ents.length ec) (.slice ko d.sto.cks.length kc) (.slice tt d.tree.length tc) (.slice ho d.holds.length hc')).toArray (by rfl) ?_
               intro w9 hg9 hr9)
  refine bodyPost_ret (v:= .tuple #[drV d (.slice eo d.ents.length ec) (.slice ko d.sto.cks.length kc) (.slice tt d.tree.length tc) (.slice ho d.holds.length hc'),.int .i64 r4]) ?_ rfl (M6.out.ret Hr.out hg9 Hn.out)
  rw [results_cell_tmp rfl]
  simp [asAddr,run_loadVar_row w9 (w.heap.size+2) 92 92 _ (0,0) _ hr9 Tryz.underlying92 rfl Hi9.out]
 subst h0
 have Hn:=Qh (show addP d c=(⟨d.num,d.date,d.prev,d.ents++ [e],q,t2,h2⟩,0) by rw [Hadd.out];rfl)
 clear Hadd
 obtain ⟨b0,b1,b2,b3,b4,b5,b6,b7,b8⟩:=drB_row (d:=d) M6.out.dr
 go_wp2_with (refine Xaf rfl rfl 92 _ _ rfl w6.heap.size 0 (drCs d (.slice eo d.ents.length ec) (.slice ko d.sto.cks.length kc) (.slice tt d.tree.length tc) (.slice ho d.holds.length hc')) (drV d (.slice eo d.ents.length ec) (.slice ko d.sto.cks.length kc) (.slice tt d.tree.length tc) (.slice ho d.holds.length hc')) (by simp [Act.eval]) (by simp [Act.eval]) (by rfl) zeroD 92 (heap_alloc_new _ _) (by simp) (by kernel_rfl) (by simp [Value.oneCell']) (drCs d (.slice eo d.ents.length ec) (.slice ko d.sto.cks.length kc) (.slice tt d.tree.length tc) (.slice ho d.holds.length hc')).toArray (by rfl) ?_
              intro w10 hg10 hr10)
 have hb10:Below w6.heap.size w6 w10:=((Qb _ _).alloc (Qn _) _).grown hg10 (by simp) (fun k e=>by injection e with e;omega)
 have M10:=Qh (M6.out.quiet hb10)
 have hs10:w6.heap.size<w10.heap.size:=(Array.getElem?_eq_some_iff.1 hr10).1
 have hs6:=M6.out.at_.size
 clear b0 b1 b2 b3 b4 b5 b6 b7 b8 hg10
 have b3:=(drB_row (d:=d) M10.out.dr).c3
 obtain ⟨x0,x1,x2,x3,x4,x5,x6⟩:=M10.out.en
 refine Xak (X:=(Option Addr × Nat) × Nat × (Option Addr × Nat)) (saL w.heap.size w6.heap.size d.ents.length ((d.ents++ [e]).length) ec eo e (.slice a1 e.attrs.length k1) (.slice a2 e.exts.length k2)) (RgE w10 2 5 4 5 5 231 222 232 (fun x w=>x.2.1<w.heap.size) (fun x w=>OwnS tEnt 35 J6 w w10.heap.size (.slice x.1.1 d.ents.length x.1.2) d.ents∧(Value.slice x.1.1 d.ents.length x.1.2).ownBlock≠some x.2.1) (fun x w=>w.heap[x.2.1]? =some (.cells (entRow e (.slice a1 e.attrs.length k1) (.slice a2 e.exts.length k2)) 35 (0,0))) (fun x w=>OwnS tEnt 35 J6 w w10.heap.size (.slice x.2.2.1 (d.ents++ [e]).length x.2.2.2) (d.ents++ [e])) (fun _ _=>True) (fun x w=>OwnS tEnt 35 J6 w w10.heap.size (.slice x.2.2.1 (d.ents++ [e]).length x.2.2.2) (d.ents++ [e])) (fun x=>w6.heap.size) 92 7 209 210 (fun x=> #[.int .i64 d.num,.int .i64 d.date,S d.prev,.slice x.2.2.1 (d.ents++ [e]).length x.2.2.2,.slice ko d.sto.cks.length kc,.int .i64 d.sto.ses,S d.sto.str,.slice tt d.tree.length tc,.slice ho d.holds.length hc']) (fun x=> #[.int .i64 d.num,.int .i64 d.date,S d.prev,.slice x.2.2.1 (d.ents++ [e]).length x.2.2.2,.slice ko d.sto.cks.length kc,.int .i64 d.sto.ses,S d.sto.str,.slice tt d.tree.length tc,.slice ho d.holds.length hc']) (fun x=> #[.int .i64 d.num,.int .i64 d.date,S d.prev,.slice x.2.2.1 (d.ents++ [e]).length x.2.2.2,.slice ko d.sto.cks.length kc,.int .i64 d.sto.ses,S d.sto.str,.slice tt d.tree.length tc,.slice ho d.holds.length hc'])) (by kernel_rfl) (by kernel_rfl) ?_ ?_ ?_
 ·exact ⟨(default,0,default),RgE.start _ _ (show 0<w10.heap.size by omega)⟩
 ·rintro x s' a' w' i hsz hcl ha hC hi
  obtain ⟨hun,oi,hoi,hall⟩:=mem_ready.1 hi
  have ev:=Xfu Xce ha
  have hlt:=Xdh hun
  rcases i with _|_|_|_|_|_|_|_|i
  rotate_left 8
  ·simp at hoi
  all_goals
   have hoj:=hoi
   simp at hoi
   subst hoi
   simp [Region.binds] at hall
   try have hl:=Xay 6 7 hcl (by decide +kernel) hun
   try have hbw:=hC.off hl
   try have b3:=Xaa hbw b3
   try have x0:=Xaa hbw x0
   try have x1:=Xaa hbw x1
   try have x2:=Xaa hbw x2
   try have x3:=Xaa hbw x3
   try have x4:=Xaa hbw x4
   try have x5:=Xaa hbw x5
   try have x6:=Xaa hbw x6
   refine wpOp_step hoj (fun K' hK=> ?_)
   rw [if_pos (by rfl)]
  rotate_left 2
  ·unfold Oper.wp
   simp [go_sem,ev,evF,hall,Oper.upon]
   refine (Hcl.out J6 M10.out.at_.keep w' (M10.out.at_.ok.below (Qn _) hbw)).mono ?_
   rintro r4 w4 ⟨v7,rfl,ho,hb4⟩
   obtain ⟨a7,k7,rfl⟩:=Xbz ho
   have ha:=ha.trans (Xa6 (L:=saL w.heap.size w6.heap.size d.ents.length ((d.ents++ [e]).length) ec eo e (.slice a1 e.attrs.length k1) (.slice a2 e.exts.length k2) x) (M:=saL w.heap.size w6.heap.size d.ents.length ((d.ents++ [e]).length) ec eo e (.slice a1 e.attrs.length k1) (.slice a2 e.exts.length k2) ((a7,k7),x.2)) [2] rfl (fun j hne=>by
    rcases j with _|_|_|_|_|_|_|_|j<;>first|rfl|(exact absurd (by decide) hne)|simp) (List.forall_mem_cons.2 ⟨Xan hun,List.forall_mem_nil _⟩))
   exact hK _ _ ⟨((a7,k7),x.2),Xaw Xce ha rfl hun,hC.step hl (hbw.trans (hb4.mono hbw.size)) (by decide) (fun h=>Nat.lt_of_lt_of_le h hb4.size) (fun _ _=>⟨ho.lower hbw.size,fun q=>by have h8:w'.heap.size≤x.2.1:=ho.own_ge q;have h9:x.2.1<w'.heap.size:=hC.inv hl;omega⟩) (fun h _=>h.elim (fun e=>absurd e (by decide)) (fun ⟨_,_,q⟩=>(hb4.block _ (Array.getElem?_eq_some_iff.1 q).1).trans q)) (fun h _=>h.elim (fun e=>absurd e (by decide)) (fun ⟨_,_,q⟩=>q.below hb4)) (fun _ _=>trivial) hlt⟩
  rotate_left 1
  ·unfold Oper.wp
   simp [go_sem,ev,evF,hall,Oper.upon,b3,x0,x1,x2,x3,x4,x5,x6]
   have ha:=ha.trans (Xa6 (L:=saL w.heap.size w6.heap.size d.ents.length ((d.ents++ [e]).length) ec eo e (.slice a1 e.attrs.length k1) (.slice a2 e.exts.length k2) x) (M:=saL w.heap.size w6.heap.size d.ents.length ((d.ents++ [e]).length) ec eo e (.slice a1 e.attrs.length k1) (.slice a2 e.exts.length k2) (x.1,w'.heap.size,x.2.2)) [4] rfl (fun j hne=>by
    rcases j with _|_|_|_|_|_|_|_|j<;>first|rfl|(exact absurd (by decide) hne)|simp) (List.forall_mem_cons.2 ⟨Xan hun,List.forall_mem_nil _⟩))
   exact hK _ _ ⟨(x.1,w'.heap.size,x.2.2),Xaw Xce ha rfl hun,hC.step hl (hbw.trans (((Qb _ _).alloc (Qn _) _).mono hbw.size)) (by decide) (fun _=>by simp) (fun h _=>h.elim (fun e=>absurd e (by decide)) (fun ⟨_,_,q⟩=>⟨q.1.alloc _,fun r=>absurd (Xdl q.1 r).2 (Nat.lt_irrefl _)⟩)) (fun _ _=>heap_alloc_new _ _) (fun h _=>h.elim (fun e=>absurd e (by decide)) (fun ⟨_,_,q⟩=>q.alloc _)) (fun _ _=>trivial) hlt⟩
  ·have h1:=hC.f1 (by first|simpa using hall|simp [hall]) (Xan hun) hl
   have h2:=hC.f2 (by first|simpa using hall|simp [hall]) (Xan hun) hl
   refine Xc3 Xti _ _ rfl (by simp [Act.eval,ev,evF,hall]) h1.1 (by simp [Act.eval,ev,evF,hall]) (SrcS.of_one (T:=tEnt) (x:=e) (cs:=entCs e (.slice a1 e.attrs.length k1) (.slice a2 e.exts.length k2)) ⟨_,_,rfl,M10.out.ra,M10.out.rx⟩ (fun j u hu=>(cell_of_row w' _ j _ _ _ h2).trans (by simpa using hu))) (by simp only [List.length_nil,List.length_cons];omega) (by simp only [List.length_nil,List.length_cons];omega) hbw.size ?_
   rintro v9 w9 ho9 hg9 hl9
   obtain ⟨a9,k9,rfl⟩:=Xbz ho9
   have ha:=ha.trans (Xa6 (L:=saL w.heap.size w6.heap.size d.ents.length ((d.ents++ [e]).length) ec eo e (.slice a1 e.attrs.length k1) (.slice a2 e.exts.length k2) x) (M:=saL w.heap.size w6.heap.size d.ents.length ((d.ents++ [e]).length) ec eo e (.slice a1 e.attrs.length k1) (.slice a2 e.exts.length k2) (x.1,x.2.1,(a9,k9))) [5] rfl (fun j hne=>by
    rcases j with _|_|_|_|_|_|_|_|j<;>first|rfl|(exact absurd (by decide) hne)|simp) (List.forall_mem_cons.2 ⟨Xan hun,List.forall_mem_nil _⟩))
   exact hK _ _ ⟨(x.1,x.2.1,(a9,k9)),Xaw Xce ha rfl hun,hC.step hl (hbw.grown hg9 hbw.size (fun k e=>(Xdl h1.1 e).1)) (by decide) (fun h=>Nat.lt_of_lt_of_le h hg9.size) (fun _ h=>absurd rfl h) (fun _ h=>absurd rfl h) (fun _ _=>ho9) (fun _ _=>trivial) hlt⟩
  rotate_left 1
  ·have hrow:w'.heap[w6.heap.size]? =some (.cells _ 92 (0,0)):=(hbw.block _ (Array.getElem?_eq_some_iff.1 hr10).1).trans hr10
   refine Xai 60 _ _ rfl (w6.heap.size) 3 [.slice x.2.2.1 (d.ents++ [e]).length x.2.2.2] (.slice x.2.2.1 (d.ents++ [e]).length x.2.2.2) (by simp [Act.eval,ev,evF,hall]) (by simp [Act.eval,ev,evF,hall]) (by rfl) _ _ hrow (by simp) (by kernel_rfl) (by simp [Value.oneCell']) ?_
   exact hK _ _ ⟨x,Xad (d:=none) (v:=undef) Xce ha rfl hun,hC.put1 hun (hC.f3 (by first|simpa using hall|simp [hall]) (Xao (by simp [hsz])) hl) (Xao (by simp [hsz])) (Xao (by simp [hsz])) (by decide) hrow (by rfl)⟩
  all_goals
   unfold Oper.wp
   first
   |(simp [go_sem,ev,evF,hall,Oper.upon,b3,x0,x1,x2,x3,x4,x5,x6];exact hK _ _ ⟨x,Xaw Xce ha rfl hun,hC.pure (by decide)⟩)
   |(simp [go_sem,ev,evF,Oper.upon,b3,x0,x1,x2,x3,x4,x5,x6];exact hK _ _ ⟨x,Xaw Xce ha rfl hun,hC.pure (by decide)⟩)
 ·rintro x s' a' w11 hup ha hC
  obtain ⟨wb,hbW,hFin,hgr,hrow⟩:=hC.on (hup 7 (by decide))
  simp only [ite_self] at hrow
  rw [Xbb _ _ _ _ (fun i hi=>by rw [Nat.zero_add];exact hup i (by simpa using hi))] at ha
  subst ha
  simp only [fillAll,Act.put,List.setIfInBounds_toArray,List.set_cons_succ,List.set_cons_zero]
  obtain ⟨xv,xb,o9,k9⟩:=x
  dsimp only at hFin hgr hrow ⊢
  have hb11:Below w6.heap.size w6 w11:=(hb10.trans (hbW.mono (by omega))).grown hgr (by have:=hbW.size;omega) (fun k e=>by injection e with e;omega)
  have M11:=Qh (M6.out.quiet hb11)
  have HO:=Qh (hFin.kept hgr (.inr (hFin.ne_lt hs10)))
  have hs11:=hb11.size
  have hs11':=(Array.getElem?_eq_some_iff.1 hrow).1
  obtain ⟨y0,y1,y2⟩:=M11.out.st
  have hlt2:=(Array.getElem?_eq_some_iff.1 M6.out.out).1
  clear hC hup hgr hbW hb10 hFin b3 x0 x1 x2 x3 x4 x5 x6
  go_wp2_with (first
   |(refine Xaf rfl rfl 89 _ _ rfl w6.heap.size 4 [.slice a3 q.cks.length k3,.int .i64 q.ses,S q.str] (stoV q (.slice a3 q.cks.length k3)) (by simp [Act.eval]) (by simp [Act.eval]) (by rfl) _ 92 hrow (by simp) (by kernel_rfl) (by simp [Value.oneCell']) #[.int .i64 d.num,.int .i64 d.date,S d.prev,.slice o9 (d.ents++ [e]).length k9,.slice a3 q.cks.length k3,.int .i64 q.ses,S q.str,.slice tt d.tree.length tc,.slice ho d.holds.length hc'] (by rfl) ?_
     intro w12 hg12 hr12)
   |(refine Xaf rfl rfl 60 _ _ rfl w6.heap.size 7 [.slice o4 t2.length c4] (.slice o4 t2.length c4) (by simp [Act.eval]) (by simp [Act.eval]) (by rfl) _ 92 hr12 (by simp) (by kernel_rfl) (by simp [Value.oneCell']) #[.int .i64 d.num,.int .i64 d.date,S d.prev,.slice o9 (d.ents++ [e]).length k9,.slice a3 q.cks.length k3,.int .i64 q.ses,S q.str,.slice o4 t2.length c4,.slice ho d.holds.length hc'] (by rfl) ?_
     intro w13 hg13 hr13)
   |(refine Xaf rfl rfl 90 _ _ rfl w6.heap.size 8 [.slice o6 h2.length c6] (.slice o6 h2.length c6) (by simp [Act.eval]) (by simp [Act.eval]) (by rfl) _ 92 hr13 (by simp) (by kernel_rfl) (by simp [Value.oneCell']) (drCs (⟨d.num,d.date,d.prev,d.ents++ [e],q,t2,h2⟩:Drf) (.slice o9 (d.ents++ [e]).length k9) (.slice a3 q.cks.length k3) (.slice o4 t2.length c4) (.slice o6 h2.length c6)).toArray (by rfl) ?_
     intro w14 hg14 hr14
     obtain ⟨z0,z1,z2,z3,z4,z5,z6,z7,z8⟩:=drB_row (d:=(⟨d.num,d.date,d.prev,d.ents++ [e],q,t2,h2⟩:Drf)) hr14
     have hs12:=hg12.size
     have hs13:=hg13.size
     have hs14:=hg14.size
     have hout:=(hg14.block (w.heap.size+2) (by omega) (fun h=>by injection h with h;omega)).trans ((hg13.block _ (by omega) (fun h=>by injection h with h;omega)).trans ((hg12.block _ (by omega) (fun h=>by injection h with h;omega)).trans M11.out.out)))
   |(refine Xaf rfl rfl 92 _ _ rfl (w.heap.size+2) 0 (drCs (⟨d.num,d.date,d.prev,d.ents++ [e],q,t2,h2⟩:Drf) (.slice o9 (d.ents++ [e]).length k9) (.slice a3 q.cks.length k3) (.slice o4 t2.length c4) (.slice o6 h2.length c6)) (drV (⟨d.num,d.date,d.prev,d.ents++ [e],q,t2,h2⟩:Drf) (.slice o9 (d.ents++ [e]).length k9) (.slice a3 q.cks.length k3) (.slice o4 t2.length c4) (.slice o6 h2.length c6)) (by simp [Act.eval]) (by simp [Act.eval]) (by rfl) _ 92 hout (by simp) (by kernel_rfl) (by simp [Value.oneCell']) (drCs (⟨d.num,d.date,d.prev,d.ents++ [e],q,t2,h2⟩:Drf) (.slice o9 (d.ents++ [e]).length k9) (.slice a3 q.cks.length k3) (.slice o4 t2.length c4) (.slice o6 h2.length c6)).toArray (by rfl) ?_
     intro w15 hg15 hr15))
  refine bodyPost_ret (v:= .tuple #[drV (⟨d.num,d.date,d.prev,d.ents++ [e],q,t2,h2⟩:Drf) (.slice o9 (d.ents++ [e]).length k9) (.slice a3 q.cks.length k3) (.slice o4 t2.length c4) (.slice o6 h2.length c6),.int .i64 0]) ?_ rfl ?_
  ·rw [results_cell_tmp rfl]
   simp [asAddr,run_loadVar_row w15 (w.heap.size+2) 92 92 _ (0,0) _ hr15 Tryz.underlying92 rfl Hi9.out]
  ·have q6:J6 w6.heap.size=none:=M6.out.at_.ok.fresh (Qn _)
   have hok15:Ok J6 w15:=(((M11.out.at_.ok.grown hg12 (fun g h=>by injection h with h;subst h;exact q6)).grown hg13 (fun g h=>by injection h with h;subst h;exact q6)).grown hg14 (fun g h=>by injection h with h;subst h;exact q6)).grown hg15 (fun g h=>by injection h with h;subst h;exact M6.out.no)
   have hO15:=(((HO.out.kept hg12 (.inr (HO.out.ne_lt hs10))).kept hg13 (.inr (HO.out.ne_lt hs10))).kept hg14 (.inr (HO.out.ne_lt hs10))).kept hg15 (.inr (HO.out.ne_lt (by omega)))
   obtain ⟨J7,hx7,hok7,hr7,_⟩:=hO15.freeze hok15 (fun b hb=>M6.out.at_.ok.fresh (by omega))
   have hk7:=hx7.keep M10.out.at_.ok (Qn _)
   rw [Hn.out]
   exact ⟨_,_,_,_,J7,rfl,(((M11.out.at_.bel.grown hg12 (by omega) (fun k h=>by injection h with h;omega)).grown hg13 (by omega) (fun k h=>by injection h with h;omega)).grown hg14 (by omega) (fun k h=>by injection h with h;omega)).grown hg15 (by omega) (fun k h=>by injection h with h;omega),
    M6.out.ext.trans hx7 (by omega),hok7,⟨hr7,M11.out.rq.mono hk7,hrt6.mono hk7,hrh.mono hk7⟩⟩



def RcM (I:IH) (w:World) (d:Drf) (ve vk vt vh:Value) (c:Chg) (va:Value) (n6 n7:Nat) (wx:World):Prop:=
 ∃e q a1 k1 a2 k2 a3 k3 J,recP d.sto c=(e,q)∧AdM I w d ve vk vt vh c va e (.slice a1 e.attrs.length k1) (.slice a2 e.exts.length k2) q (.slice a3 q.cks.length k3) n6 n7 J wx
abbrev raL (n:Nat) (kind:Int) (path:Bytes) (ao:Option Addr) (le cp:Nat) (target:Bytes) (x:Nat × (Option Addr × Nat) × Nat):List (Option Tmp × Value):=
 [(some 16,.pointer (some ⟨n+1,0,none⟩)),(some 17,.int .i64 kind),(some 18,.pointer (some ⟨n+1,1,none⟩)),(some 19,S path),(some 20,.slice (some ⟨x.1,0,none⟩) 0 0),(some 21,.pointer (some ⟨n+1,2,none⟩)),(some 22,.slice ao le cp),(some 23,.slice x.2.1.1 le x.2.1.2),(some 24,.pointer (some ⟨n+1,3,none⟩)),(some 25,S target),(some 26,.agg #[.int .i64 kind,S path,.slice x.2.1.1 le x.2.1.2,S target,.int .i64 0,.string ⟨#[]⟩,.slice none 0 0]),(some 6,.pointer (some ⟨x.2.2,0,none⟩)),(none,undef)]
abbrev rbL (n le le1 cp:Nat) (ao:Option Addr) (e:Ent) (xa xx:Value) (x:Nat × (Option Addr × Nat) × Nat × (Option Addr × Nat)):List (Option Tmp × Value):=
 [(some 129,.slice (some ⟨x.1,0,none⟩) 0 0),(some 130,.pointer (some ⟨n,3,none⟩)),(some 131,.slice ao le cp),(some 132,.slice x.2.1.1 le x.2.1.2),(some 133,entV e xa xx),(some 134,.slice (some ⟨x.2.2.1,0,none⟩) 1 1),(some 135,.slice x.2.2.2.1 le1 x.2.2.2.2),(some 136,.pointer (some ⟨n,3,none⟩)),(none,undef)]
end Go.Proofs.YtkipnpjagcfcpaaGreatDoor
namespace Go.Proofs.YtkipnpjagcfcpaaGreatDoor
def Rds (st:List Bytes) (x:Xt) (d:Bytes):Prop:=
 (x.s=0∧x.o=0∧0≤x.n∧d=List.replicate x.n.toNat 0)∨
 (1≤x.s∧x.s≤st.length∧0≤x.o∧0≤x.n∧x.o+x.n≤(strAtP st x).length∧d=((strAtP st x).drop x.o.toNat).take x.n.toNat)
def RdsL (st:List Bytes):List Xt→Bytes→Prop
 | [],d=>d= []
 |x::l,d=> ∃a b,d=a++b∧Rds st x a∧RdsL st l b
theorem Rds.len {st:List Bytes} {x:Xt} {d:Bytes} (h:Rds st x d):0≤x.n∧(d.length:Int)=x.n:=by
 rcases h with ⟨_,_,h,rfl⟩|⟨_,_,h0,h1,h2,rfl⟩
 ·rw [List.length_replicate];omega
 ·rw [List.length_take,List.length_drop];omega
theorem Xnk {st:List Bytes}:∀ {l:List Xt} {d out:Bytes},RdsL st l d→out.length+d.length≤65536→getG st l out=(out++d,0)
 | [],d,out,h,_=>by
   have h:d= []:=h
   subst h
   rw [List.append_nil];rfl
 |x::l,d,out,⟨a,b,e,h1,h2⟩,hl=>by
  subst e
  rw [List.length_append] at hl
  have hn:=h1.len
  have ih:=Xnk (out:=out++a) h2 (by rw [List.length_append];omega)
  rw [List.append_assoc] at ih
  rw [getG]
  rcases h1 with ⟨z0,z1,z2,rfl⟩|⟨z0,z1,z2,z3,z4,rfl⟩
  ·rw [if_neg (by rw [Xf6 (by omega) (by omega) (by omega) (by omega) (by omega)];decide),if_neg (by omega),if_neg (by omega),if_pos z0]
   exact ih
  ·rw [if_neg (by rw [Xf6 (by omega) (by omega) (by omega) (by omega) (by omega)];decide),if_neg (by omega),if_neg (by omega),if_neg (by omega)]
   exact ih
theorem Xtf {st:List Bytes} {l:List Xt} {d:Bytes} (h:RdsL st l d) (hl:d.length≤65536):getP st l=(d,0):=by
 have:=Xnk (out:= []) h (by simpa using hl)
 simpa [getP] using this
def Longer (st st':List Bytes):Prop:=st.length≤st'.length∧ ∀i:Nat,i<st.length→ ∃t,st'.getD i []=st.getD i []++t
def segB (g:Sg):Bytes:=if g.d= [] then List.replicate g.n.toNat 0 else g.d
def chunksOf (cs:List Bytes):List Bytes:=cs.flatMap fun c=>(segsP c).flatMap fun g=>chunksP g.d
def collFrom:List Bytes→List Bytes→Bool
 |_,[]=>false
 |pre,c::l=>(pre.any fun p=>sumP p==sumP c&&p != c) || collFrom (pre++ [c]) l
def collP (cs:List Bytes):Bool:=collFrom [] (chunksOf cs)
def Inj (U:List Bytes):Prop:= ∀a∈U,∀b∈U,sumP a=sumP b→a=b
structure StR (A:List Bytes) (U:List Bytes) (q:Sto):Prop where
 ses:q.ses=(A.length:Nat)+1
 cks:∀k∈q.cks,∃d∈U,k.d=sumP d∧Rds (A++ [q.str]) k.x d
structure PtR (A U:List Bytes) (p:Sto × List Xt) (a:Bytes) (p':Sto × List Xt):Prop where
 st:StR A U p'.1
 rd:RdsL (A++ [p'.1.str]) p'.2 a
 grow:∃t,p'.1.str=p.1.str++t
structure EntR (st:List Bytes) (e:Ent) (c:Chg):Prop where
 kind:e.kind=c.kind
 path:e.path=c.path
 size:e.size=(c.content.length:Nat)
 rd:RdsL st e.exts c.content
 small:c.content.length≤1000
def EntsR (st:List Bytes):List Ent→List Chg→Prop
 | [],[]=>True
 |e::l,c::m=>EntR st e c∧EntsR st l m
 |_,_=>False
def stoD (q:Sto) (c:Chg):Sto:=if c.kind=1 then (putP q c.content).1 else q
theorem again {st:List Bytes}:∀ {l:List Ent} {m:List Chg} {q:Sto},EntsR st l m→l.foldl (stoE st) q=m.foldl stoD q
 | [],[],_,_=>rfl
 |e::l,c::m,q,⟨h1,h2⟩=>by
  have e1:stoE st q e=stoD q c:=by
   unfold stoE stoD
   rw [h1.kind,Xtf h1.rd (by have:=h1.small;omega)]
  rw [List.foldl_cons,List.foldl_cons,e1]
  exact again h2
 | [],_::_,_,h=>h.elim
 |_::_,[],_,h=>h.elim
structure DrR (L:List Ses) (U:List Bytes) (d:Drf) (m:List Chg):Prop where
 ents:EntsR (strsP L++ [d.sto.str]) d.ents m
 sto:d.sto=m.foldl stoD ⟨(repQ L).cks,(L.length:Nat)+1,[]⟩
 st:StR (strsP L) U d.sto
structure WrR (U:List Bytes) (want:List (List Chg)) (L:List Ses):Prop where
 len:L.length=want.length
 ents:∀i (h1:i<L.length) (h2:i<want.length),EntsR (strsP L) L[i].ents want[i]
 cks:∀k∈(repQ L).cks,∃d∈U,k.d=sumP d∧Rds (strsP L) k.x d
theorem Xpj (L:List Ses) (s:Ses):strsP (L++ [s])=strsP L++ [s.stream]:=by simp [strsP]
end Go.Proofs.YtkipnpjagcfcpaaGreatDoor
namespace Go.Proofs.YtkipnpjagcfcpaaGreatDoor
open Go.RowKit
theorem Xsb {s:Stt} {e:Ent} {d:Int} (h:(stpP s e d).2=0):applyT s.tree e=((stpP s e d).1.tree,0)∧appH s.holds e d=((stpP s e d).1.holds,0)∧entErr e=0:=by
 have he:=(step_ok h).2.2
 unfold stpP at h ⊢
 by_cases h1:(applyT s.tree e).2≠0
 ·rw [if_pos h1] at h;exact absurd h h1
 rw [if_neg h1] at h ⊢
 by_cases h2:askP s e d≠0
 ·rw [if_pos h2] at h;exact absurd h h2
 rw [if_neg h2] at h ⊢
 by_cases h3:(appH s.holds e d).2≠0
 ·rw [if_pos h3] at h;exact absurd h h3
 rw [if_neg h3]
 exact ⟨Prod.ext rfl (by simpa using h1),Prod.ext rfl (by simpa using h3),he⟩
def stoJ (L:List Ses) (k:Nat) (x:Ses) (j:Nat):Sto:=(x.ents.take j).foldl (stoE (strsP L)) (beginP (repK (strsP L) L k) x.num).1
def sttJ (L:List Ses) (k:Nat) (x:Ses) (j:Nat):Stt:=runS (aftS nilS (L.take k)) x.date (x.ents.take j)
theorem Xpm (L:List Ses) (k:Nat) {x:Ses} {j:Nat} (hj:j<x.ents.length) {e:Ent} (he:x.ents[j]=e):stoJ L k x (j+1)=stoE (strsP L) (stoJ L k x j) e:=by
 unfold stoJ
 rw [List.take_succ_eq_append_getElem hj,he,List.foldl_append]
 rfl
theorem Xsc {L:List Ses} {k:Nat} (hk:k<L.length) {x:Ses} (hx:L[k]=x):stoJ L k x x.ents.length=repK (strsP L) L (k+1):=by
 rw [Xj8 _ hk hx,stoJ,List.take_length];rfl
theorem Xph (L:List Ses) (k:Nat) {x:Ses} {j:Nat} (hj:j<x.ents.length) {e:Ent} (he:x.ents[j]=e):sttJ L k x (j+1)=(stpP (sttJ L k x j) e x.date).1:=Xsp hj he
theorem Xr9 {L:List Ses} {k:Nat} (hk:k<L.length) {x:Ses} (hx:L[k]=x):sttJ L k x x.ents.length=aftS nilS (L.take (k+1)):=by
 rw [Xt7 hk hx,sttJ,List.take_length]
structure ArS (n:Nat) (L:List Ses) (k:Nat) (x:Ses) (j:Nat) (e:Ent):Prop where
 sin:SIn n (sttJ L k x j)
 stp:(stpP (sttJ L k x j) e x.date).2=0
 err:entErr e=0
 wf:e.Wf
 path:e.path.length≤300
 target:e.target.length≤300
 exts:e.exts.length≤1000
 xs:∀y∈e.exts,0≤y.s∧y.s≤(k+1:Nat)
 sto:StoW (stoJ L k x j)
 cks:(stoJ L k x j).cks.length≤400000000
theorem Xt0 {n m:Nat} {L:List Ses} (h:ArcOk n m L) (hn:n≤5000) (hm:m≤254) {k:Nat} (hk:k<L.length) {x:Ses} (hx:L[k]=x) {j:Nat} (hj:j<x.ents.length) {e:Ent} (he:x.ents[j]=e):ArS n L k x j e:=by
 have hmem:x∈L:=by rw [←hx];exact List.getElem_mem hk
 have hem:e∈x.ents:=by rw [←he];exact List.getElem_mem hj
 have herr:=h.err hmem e hem
 have hs:=Xci herr
 have hw:=h.at_ hk hx
 have hlen:=h.len
 have hst:=Xnw (h.okAt hk hx) j hj
 rw [he] at hst
 have hr:=(h.rep (by omega) hm (strsP L) k (by omega)).begin (by omega)
 have hp:=Xez hk hx
 have ht:=h.tot
 have hf:=RpB.fold (by omega) (by omega) (strsP L) (x.ents.take j) hr.2 (by rw [List.length_take];omega)
 rw [List.length_take] at hf
 have hq:stoJ L k x j=(x.ents.take j).foldl (stoE (strsP L)) ⟨(repK (strsP L) L k).cks,(k:Nat)+1,[]⟩:=by
  unfold stoJ
  rw [hw.num,hr.1]
 rw [←hq] at hf
 exact ⟨h.sin hk hx j (by omega),hst,herr,Xgg herr,hs.1,hs.2,hw.exts e hem,fun y hy=>hw.xs e hem y hy,hf.stoW (by omega) (by omega) (by omega),Nat.le_trans hf.cks (by omega)⟩
theorem Xrx {n m:Nat} {L:List Ses} (h:ArcOk n m L) (hn:n≤5000) (hm:m≤254) {k:Nat} (hk:k<L.length) {x:Ses} (hx:L[k]=x):
 beginP (repK (strsP L) L k) ((k:Nat)+1)=(stoJ L k x 0,0)∧(repK (strsP L) L k).cks.length≤400000000:=by
 have hw:=h.at_ hk hx
 have hlen:=h.len
 have hr0:=h.rep (by omega) hm (strsP L) k (by omega)
 have hr:=hr0.begin (by omega)
 have hp:=Xez hk hx
 have ht:=h.tot
 refine ⟨?_,Nat.le_trans hr0.cks (by omega)⟩
 unfold stoJ
 rw [hw.num,hr.1];rfl
structure RpM (I:IH) (w0:World) (vs:Value) (J:IH) (W:World) (S0:Stt) (q:Sto) (vk vt vh:Value):Prop where
 at_:MAt I w0 J W
 ext:Ext w0.heap.size I J
 no1:J (w0.heap.size+1)=none
 no2:J (w0.heap.size+2)=none
 box:W.cell? ⟨w0.heap.size,3,none⟩=some vs
 out:W.heap[w0.heap.size+1]? =some (.cells zeroD 92 (0,0))
 row:W.heap[w0.heap.size+2]? =some (.cells #[.int .i64 0,.int .i64 0,.string ⟨#[]⟩,.slice none 0 0,vk,.int .i64 q.ses,S q.str,vt,vh] 92 (0,0))
 rk:RdS tCk J vk q.cks
 rt:RdS tEnt J vt S0.tree
 rh:RdS tHo J vh S0.holds
section
variable {I:IH} {w0:World} {vs:Value} {J J':IH} {W W':World} {S0 S1:Stt} {q q1:Sto} {vk vt vh vk' vt' vh':Value}
theorem RpM.lt (h:RpM I w0 vs J W S0 q vk vt vh):w0.heap.size+2<W.heap.size:=(Array.getElem?_eq_some_iff.1 h.row).1
theorem RpM.thru (h:RpM I w0 vs J W S0 q vk vt vh) (hb:Below W.heap.size W W') (hx:Ext W.heap.size J J') (hok:Ok J' W'):RpM I w0 vs J' W' S0 q vk vt vh:=by
 have hk:=hx.keep h.at_.ok (Qn _)
 have hs:=h.at_.size
 have hlt:=h.lt
 exact ⟨h.at_.ext hb hx hok,h.ext.trans hx hs,(hx _ (by omega)).trans h.no1,(hx _ hlt).trans h.no2,Xaa hb h.box,(hb.block _ (by omega)).trans h.out,(hb.block _ hlt).trans h.row,h.rk.mono hk,h.rt.mono hk,h.rh.mono hk⟩
theorem RpM.quiet (h:RpM I w0 vs J W S0 q vk vt vh) (hb:Below W.heap.size W W'):RpM I w0 vs J W' S0 q vk vt vh:=h.thru hb (Ext.refl _ _) (h.at_.ok.below (Qn _) hb)
theorem RpM.past (h:RpM I w0 vs J W S0 q vk vt vh) (o:Obj):RpM I w0 vs J (W.alloc o) S0 q vk vt vh:=h.quiet ((Qb _ _).alloc (Qn _) o)
theorem RpM.own (h:RpM I w0 vs J W S0 q vk vt vh) {row:Option Nat} (hg:W.grownBy W' row) (hr:∀g,row=some g→J g=none∧w0.heap.size+3≤g):RpM I w0 vs J W' S0 q vk vt vh:=by
 have hlt:=h.lt
 have hne:∀b,b<w0.heap.size+3→row≠some b:=fun b hb e=>by have:=(hr b e).2;omega
 exact ⟨⟨h.at_.ok.grown hg fun g e=>(hr g e).1,h.at_.keep,h.at_.bel.grown hg h.at_.size fun g e=>by have:=(hr g e).2;omega⟩,h.ext,h.no1,h.no2,Xah hg (hne w0.heap.size (by omega)) h.box,(hg.block _ (by omega) (fun e=>hne _ (by omega) e.symm)).trans h.out,(hg.block _ hlt (fun e=>hne _ (by omega) e.symm)).trans h.row,h.rk,h.rt,h.rh⟩
theorem RpM.put (h:RpM I w0 vs J W S0 q vk vt vh) (hg:W.grownBy W' (some (w0.heap.size+2)))
 (hr:W'.heap[w0.heap.size+2]? =some (.cells #[.int .i64 0,.int .i64 0,.string ⟨#[]⟩,.slice none 0 0,vk',.int .i64 q1.ses,S q1.str,vt',vh'] 92 (0,0))) (rk:RdS tCk J vk' q1.cks) (rt:RdS tEnt J vt' S1.tree) (rh:RdS tHo J vh' S1.holds):
 RpM I w0 vs J W' S1 q1 vk' vt' vh':=by
 have hlt:=h.lt
 exact ⟨⟨h.at_.ok.grown hg fun g e=>by injection e with e;subst e;exact h.no2,h.at_.keep,h.at_.bel.grown hg h.at_.size fun g e=>by injection e with e;omega⟩,h.ext,h.no1,h.no2,Xah hg (by simp) h.box,(hg.block _ (by omega) (fun e=>by injection e with e;omega)).trans h.out,hr,rk,rt,rh⟩
end
theorem OwnS.freeze1 {α:Type} {T:Ty α} {E:TypeId} {I0 J:IH} {w:World} {B:Nat} {v:Value} {l:List α} (h:OwnS T E I0 w B v l) (h0:∀b,I0 b=none) (hw:Ok J w) (hI:∀g,v.ownBlock=some g→J g=none):
 ∃J',(∀b c,J b=some c→J' b=some c)∧Ok J' w∧RdS T J' v l:=by
 obtain ⟨xs,⟨h1,h1'⟩,h2⟩:=h
 rcases h1' with ⟨rfl,h0'⟩|⟨g,cap,cur,rfl,hb,hg,hnc,hcm,hcs,ht⟩
 ·have:l= []:=List.eq_nil_of_length_eq_zero h0'
  subst this
  exact ⟨J,fun _ _ h=>h,hw,RdS.nil T J⟩
 ·have hgn:=hI g (by simp [Value.ownBlock])
  have hkeep:∀b c,J b=some c→(J.add g cur) b=some c:=fun b c hc=>by
   unfold IH.add
   by_cases e:b=g
   ·subst e;rw [hgn] at hc;cases hc
   ·rw [if_neg e];exact hc
  refine ⟨J.add g cur,hkeep,hw.add hg,⟨_,cap,rfl,hnc,hcm,fun _=>⟨g,0,cur,rfl,by simp [IH.add],fun i hi=> ?_⟩⟩⟩
  obtain ⟨cs,k1,k2⟩:=h2.2 i hi
  refine ⟨cs,T.mono (fun b c hc=>by rw [h0 b] at hc;cases hc) k1,fun j u hu=> ?_⟩
  have hx:=k2 j u hu
  rw [←ht,List.getElem?_take] at hx
  split at hx
  ·rw [Nat.zero_add,←Array.getElem?_toList];exact hx
  ·cases hx
theorem Xhw {P:Program} {α:Type} {T:Ty α} {I:IH} {ts te:TypeId} {bytes:Nat} (hE:ElemOk P ts te T bytes) {w:World} {ops:Array Oper} {rest:List Oper} {o:Oper} {a:Act} {Q:Exit→Act→World→Prop} (hgd:o.guard=none) (s x:Operand)
 (ho:o.op= .call { callee:= .builtin .append,args:= #[s,x],argTypes:= #[ts,ts] }) {B:Nat} {v:Value} {l:List α} (hs:a.eval s=v) (hown:OwnS T te I w B v l) {vx:Value} {ys:List α} (hx:a.eval x=vx) (hy:SrcS T I w vx ys)
 (hbig:(l.length+ys.length)*bytes≤140737488355328) (hl:l.length+ys.length≤9223372036854775807) (hB:B≤w.heap.size)
 (h:∀v' w',OwnS T te I w' B v' (l++ys)→w.grownBy w' v.ownBlock→(∀g,v'.ownBlock=some g→v.ownBlock=some g∨w.heap.size≤g)→wpList P ops Q rest (a.put o.dst v') w'):wpList P ops Q (o::rest) a w:=
 wpList_plain hgd fun _ hK=>Xc3 hE s x ho hs hown hx hy hbig hl hB fun v' w' h1 h2 h3=>hK _ _ (h v' w' h1 h2 h3)
theorem SesB.own {w w':World} {n:Nat} {s:Ses} {ve:Value} {row:Option Nat} (h:SesB w n s ve) (hg:w.grownBy w' row) (hne:row≠some n):SesB w' n s ve:=
 ⟨Xah hg hne h.c0,Xah hg hne h.c1,Xah hg hne h.c2,Xah hg hne h.c3,Xah hg hne h.c4,Xah hg hne h.c5⟩
theorem Xpi (L:List Ses) (k:Nat):strsP (L.take k)=(strsP L).take k:=by unfold strsP;rw [List.map_take]
theorem Xpk {L:List Ses} {k:Nat} (hk:k<L.length) {x:Ses} (hx:L[k]=x):strsP (L.take (k+1))=strsP (L.take k)++ [x.stream]:=by
 rw [List.take_succ_eq_append_getElem hk,hx,Xpj]
def RetRp (I:IH) (w:World) (L:List Ses) (r:Ending) (w':World):Prop:=
 ∃vk vt vh J,r= .returned (drV ⟨0,0,[],[],repQ L,(aftS nilS L).tree,(aftS nilS L).holds⟩ (.slice none 0 0) vk vt vh)∧Below w.heap.size w w'∧Ext w.heap.size I J∧Ok J w'∧RdS tCk J vk (repQ L).cks∧RdS tEnt J vt (aftS nilS L).tree∧RdS tHo J vh (aftS nilS L).holds
set_option maxRecDepth 100000 in
set_option maxHeartbeats 8000000 in
theorem Xpq (I:IH) (hI:Glob I) (ai dt sp:Int) {n m:Nat} (L:List Ses) (h:ArcOk n m L) (hn:n≤5000) (hm:m≤254) (vs:Value) (hvs:RdS tSes I vs L) (w:World) (hw:Ok I w):
 Calls Tryz.prog 74 #[arcV ai dt sp vs] w (RetRp I w L):=by
 have hlen:=h.len
 have HA:=Qh h
 have HG:=Qh hI
 have Hvs:=Qh hvs
 have Hi9:=Qh (show (Tryz.prog.info? 92).map (·.size)=some 9 by kernel_rfl)
 obtain ⟨so,sc,rfl,_,_,_⟩:=id hvs
 obtain ⟨W3,hW3⟩:∃W3,(((w.alloc (.cells #[.int .u32 ai,.int .i64 dt,.int .i64 sp,.slice so L.length sc] 46)).alloc (.cells zeroD 92)).alloc (.cells zeroD 92))=W3:=⟨_,rfl⟩
 obtain ⟨hsz3,h30,h31,h32⟩:=Xel w _ _ _ _ _ _ W3 hW3
 have A3:=Qh (show MAt I w I W3 by rw [←hW3];exact (((MAt.start hw).past _).past _).past _)
 have z3:W3.cell? ⟨w.heap.size,3,none⟩=some (.slice so L.length sc):=(cell_of_row _ _ 3 _ _ _ h30).trans rfl
 have M0:=Qh (show RpM I w (.slice so L.length sc) I W3 nilS nilQ (.slice none 0 0) (.slice none 0 0) (.slice none 0 0) from
  ⟨A3.out,Ext.refl _ _,hw.fresh (by omega),hw.fresh (by omega),z3,h31,h32,RdS.nil _ _,RdS.nil _ _,RdS.nil _ _⟩)
 clear h hI hvs h30 h31 h32 A3
 go_enter Tryz.func74,Tryz.ntmps74
 go_wp2_with fail
 clear hW3 z3
 go_loopw [4,18] (fun s4 s18 wr=> ∃(k:Nat) (J:IH) (vk vt vh:Value),k≤L.length∧s18= .int .i64 k∧OwnS tStr 9 (fun _=>none) wr (w.heap.size+3) s4 (strsP (L.take k))∧(∀g,s4.ownBlock=some g→J g=none)∧RpM I w (.slice so L.length sc) J wr (aftS nilS (L.take k)) (repK (strsP L) L k) vk vt vh) (fun _ i _=>L.length-(intOf i).toNat)
 case atStart=>exact ⟨0,I,_,_,_,Nat.zero_le _,rfl,OwnS.nil _ _ _ _ _,fun g e=>by simp [Value.ownBlock] at e,M0.out⟩
 case round=>
  clear M0
  obtain ⟨k,J,vk,vt,vh,hk,rfl,hO,hno,hM⟩:=hrel
  have M:=Qh hM
  have HO:=Qh hO
  have Hno:=Qh hno
  clear hM hO hno
  by_cases hlt:k<L.length
  ·obtain ⟨x,ve,b,off,cap',hlx,hvv,⟨c0,c1,c2,c3,c4,c5⟩,h1⟩:=Xpx (Hvs.out.mono M.out.at_.keep) M.out.at_.ok k hlt
   cases hvv
   have Hlx:=Qh hlx
   have hel:x.ents.length≤5000:=Nat.le_trans (HA.out.ents (by rw [←hlx];exact List.getElem_mem hlt)) hn
   have Hb:=Qh (Xrx HA.out hn hm hlt hlx)
   have Hve:=Qh h1
   obtain ⟨eo,ec,rfl,_,_,_⟩:=id h1
   have m1:IntKind.i64.wrap ((k:Int)+1)=(k:Int)+1:=IntWalk.i64_in _ (by omega)
   have hkl:(strsP (L.take k)).length=k:=by simp [strsP];omega
   have Hkl:=Qh hkl
   have hM0:=M.out.at_.size
   have hMl:=M.out.lt
   clear hlx h1 hkl
   go_wp2_with (at_builtin
                refine Xhw Xf2 rfl _ _ rfl (B:=w.heap.size+3) rfl ((HO.out.alloc _).alloc _) (vx:= .slice (some ⟨(wr.alloc (.cells #[.int .i64 x.num,.int .i64 x.date,S x.prev,.slice eo x.ents.length ec,S x.stream,S x.sl] 62)).heap.size,0,none⟩) 1 1) (by simp [Act.eval]) (SrcS.of_one (T:=tStr) (x:=x.stream) (cs:= [S x.stream]) rfl (fun j u hu=>by rw [World.cell?_alloc_new];simpa using hu)) (by rw [Hkl.out];simp;omega) (by rw [Hkl.out];simp;omega) (by simp;omega) ?_
                intro v5 w5 ho5 hg5 hl5
                have M5:=Qh (((M.out.past (.cells #[.int .i64 x.num,.int .i64 x.date,S x.prev,.slice eo x.ents.length ec,S x.stream,S x.sl] 62)).past (.cells #[S x.stream] 9)).own hg5 (fun g e=>⟨Hno.out g e,HO.out.own_ge e⟩))
                have hM5:=M5.out.row
                have z4:w5.cell? ⟨w.heap.size+2,4,none⟩=some vk:=(cell_of_row _ _ 4 _ _ _ hM5).trans rfl
                have z5:w5.cell? ⟨w.heap.size+2,5,none⟩=some (.int .i64 (repK (strsP L) L k).ses):=(cell_of_row _ _ 5 _ _ _ hM5).trans rfl
                have z6:w5.cell? ⟨w.heap.size+2,6,none⟩=some (S (repK (strsP L) L k).str):=(cell_of_row _ _ 6 _ _ _ hM5).trans rfl)
   have HO5:=Qh (show OwnS tStr 9 (fun _=>none) w5 (w.heap.size+3) v5 (strsP (L.take (k+1))) by rw [Xpk hlt Hlx.out];exact ho5)
   have hno5:∀g,v5.ownBlock=some g→J g=none:=fun g e=>(hl5 g e).elim (Hno.out g) (fun q=>M.out.at_.ok.fresh (by simp at q;omega))
   have hs5:=hg5.size
   rw [World.size_alloc,World.size_alloc] at hs5
   have SB5:=Qh (SesB.own ((sesB (W:=wr) (s:=x) (ve:= .slice eo x.ents.length ec) (t:=62) rfl (Qb _ _)).past (.cells #[S x.stream] 9)) hg5 (HO.out.ne_ge (Qn _)))
   have Hbe:=Qh (Xnr J (repK (strsP L) L k) vk M5.out.rk (by have:=Hb.out.2;omega) ((k:Int)+1) w5 M5.out.at_.ok)
   rw [Hb.out.1] at Hbe
   clear ho5 hg5 hl5 M HO Hno c0 c1 c2 c3 c4 c5
   refine Hbe.out.mono ?_
   rintro e6 w6 ⟨vk6,J6,rfl,hb6,hx6,hok6,hrk6⟩
   obtain ⟨ak6,ck6,rfl,_,_,_⟩:=id hrk6
   have M6:=Qh (M5.out.thru hb6 hx6 hok6)
   have HO6:=Qh (HO5.out.below hb6)
   have hno6:∀g,v5.ownBlock=some g→J6 g=none:=fun g e=>(hx6 g (Xdl HO5.out e).2).trans (hno5 g e)
   have SB6:=Qh (SB5.out.thru hb6)
   have Hve6:=Qh (Hve.out.mono (fun b c hc=>hx6.keep M5.out.at_.ok (Qn _) b c (hc)))
   have hs6:=hb6.size
   have hM6:=M6.out.row
   clear M5 z4 z5 z6 hM5 Hbe hb6 hx6 hok6 HO5 hno5 SB5 Hve
   go_wp2_with (refine Xaf rfl rfl 89 _ _ rfl (w.heap.size+2) 4 [.slice ak6 (stoJ L k x 0).cks.length ck6,.int .i64 (stoJ L k x 0).ses,S (stoJ L k x 0).str] (stoV (stoJ L k x 0) (.slice ak6 (stoJ L k x 0).cks.length ck6)) (by simp [Act.eval]) (by simp [Act.eval]) (by rfl) _ 92 hM6 (by simp) (by kernel_rfl) (by simp [Value.oneCell']) #[.int .i64 0,.int .i64 0,.string ⟨#[]⟩,.slice none 0 0,.slice ak6 (stoJ L k x 0).cks.length ck6,.int .i64 (stoJ L k x 0).ses,S (stoJ L k x 0).str,vt,vh] (by rfl) ?_
                intro w7 hg7 hr7
                have d3:=(SB6.out.own hg7 (by simp;omega)).c3)
   have M7:=Qh (M6.out.put (S1:=sttJ L k x 0) hg7 hr7 hrk6 M6.out.rt M6.out.rh)
   have HO7:=Qh (HO6.out.kept hg7 (.inr (HO6.out.ne_lt (by omega))))
   have SB7:=Qh (SB6.out.own hg7 (by simp;omega))
   have hs7:=hg7.size
   obtain ⟨n6,hn6⟩:∃n6,n6=wr.heap.size:=⟨_,rfl⟩
   rw [←hn6] at SB7 ⊢
   have hn6':w.heap.size+3≤n6∧n6<w7.heap.size:=by omega
   clear d3 hM6 hg7 hr7 M6 HO6 SB6 hrk6 hn6 hs5 hs6 hs7
   go_loopw [40] (fun s40 wr=> ∃(j:Nat) (K:IH) (vk vt vh:Value),j≤x.ents.length∧s40= .int .i64 j∧OwnS tStr 9 (fun _=>none) wr (w.heap.size+3) v5 (strsP (L.take (k+1)))∧(∀g,v5.ownBlock=some g→K g=none)∧(∀b c,J6 b=some c→K b=some c)∧SesB wr n6 x (.slice eo x.ents.length ec)∧RpM I w (.slice (some ⟨b,off,none⟩) L.length sc) K wr (sttJ L k x j) (stoJ L k x j) vk vt vh) (fun i _=>x.ents.length-(intOf i).toNat)
   case atStart=>exact ⟨0,J6,_,_,_,Nat.zero_le _,rfl,HO7.out,hno6,fun _ _ h=>h,SB7.out,M7.out⟩
   case round=>
    clear M7 HO7 SB7
    obtain ⟨j,K,vk,vt,vh,hj,rfl,hO,hno,hkp,hSB,hM⟩:=hrel
    have M:=Qh hM
    have HO:=Qh hO
    have Hno:=Qh hno
    have Hkp:=Qh hkp
    have SB:=Qh hSB
    clear hM hO hno hkp hSB
    by_cases hjt:j<x.ents.length
    ·obtain ⟨e,va,vx,b2,off2,cap2,hle,hvv,⟨c0,c1,c2,c3,c4,c5,c6⟩,h2,h3⟩:=Xe3 (Hve6.out.mono Hkp.out) M.out.at_.ok j hjt
     cases hvv
     obtain ⟨aa,ca,rfl,_,_,_⟩:=id h2
     obtain ⟨ax,cx,rfl,_,_,_⟩:=id h3
     have Hs:=Qh (Xt0 HA.out hn hm hlt Hlx.out hjt hle)
     have Hq:=Qh (Xpm L k hjt hle)
     have Ht:=Qh (Xph L k hjt hle)
     obtain ⟨kt,kh,ke⟩:=Xsb Hs.out.stp
     have Hkt:=Qh kt
     have Hkh:=Qh kh
     have Hke:=Qh ke
     have Hra:=Qh h2
     have Hrx:=Qh h3
     have hwM:=M.out.lt
     clear hle h2 h3 kt kh ke
     obtain ⟨n8,hn8⟩:∃n8,n8=wr.heap.size:=⟨_,rfl⟩
     go_upto_if 46 with fail
     have EB:=Qh (entB (W:=wr) (e:=e) (va:= .slice aa e.attrs.length ca) (vx:= .slice ax e.exts.length cx) (t:=35) hn8 (Qb _ _))
     rw [←hn8]
     obtain ⟨wA,hwA⟩:∃wA,wr.alloc (.cells #[.int .i64 e.kind,S e.path,.slice aa e.attrs.length ca,S e.target,.int .i64 e.size,S e.digest,.slice ax e.exts.length cx] 35)=wA:=⟨_,rfl⟩
     rw [hwA] at EB ⊢
     have MA:=Qh (M.out.past (.cells #[.int .i64 e.kind,S e.path,.slice aa e.attrs.length ca,S e.target,.int .i64 e.size,S e.digest,.slice ax e.exts.length cx] 35))
     have HOA:=Qh (HO.out.alloc (.cells #[.int .i64 e.kind,S e.path,.slice aa e.attrs.length ca,S e.target,.int .i64 e.size,S e.digest,.slice ax e.exts.length cx] 35))
     have SBA:=Qh (SB.out.past (.cells #[.int .i64 e.kind,S e.path,.slice aa e.attrs.length ca,S e.target,.int .i64 e.size,S e.digest,.slice ax e.exts.length cx] 35))
     rw [hwA] at MA HOA SBA
     have hn8w:w.heap.size+3≤n8:=by omega
     clear hwA M HO SB c0 c1 c2 c3 c4 c5 c6 hn8
     have hMA:=MA.out.row
     have z4:wA.cell? ⟨w.heap.size+2,4,none⟩=some vk:=(cell_of_row _ _ 4 _ _ _ hMA).trans rfl
     have z5:wA.cell? ⟨w.heap.size+2,5,none⟩=some (.int .i64 (stoJ L k x j).ses):=(cell_of_row _ _ 5 _ _ _ hMA).trans rfl
     have z6:wA.cell? ⟨w.heap.size+2,6,none⟩=some (S (stoJ L k x j).str):=(cell_of_row _ _ 6 _ _ _ hMA).trans rfl
     go_cut [9,10] (fun s9 s10 wx=> ∃(K':IH) (vk':Value),OwnS tStr 9 (fun _=>none) wx (w.heap.size+3) v5 (strsP (L.take (k+1)))∧(∀g,v5.ownBlock=some g→K' g=none)∧(∀b c,K b=some c→K' b=some c)∧SesB wx n6 x (.slice (some ⟨b2,off2,none⟩) x.ents.length ec)∧EntB wx n8 e (.slice aa e.attrs.length ca) (.slice ax e.exts.length cx)∧RpM I w (.slice (some ⟨b,off,none⟩) L.length sc) K' wx (sttJ L k x j) (stoE (strsP L) (stoJ L k x j) e) vk' vt vh)
     case first=>
      by_cases hk1:e.kind=1
      case neg=>
       have f1:(e.kind==1)=false:=by simpa using hk1
       have Hn:=Qh (show stoE (strsP L) (stoJ L k x j) e=stoJ L k x j from if_neg hk1)
       clear hk1
       go_wp2_with fail
       go_meet
       exact ⟨K,vk,HOA.out,Hno.out,fun _ _ h=>h,SBA.out,EB.out,by rw [Hn.out];exact MA.out⟩
      case pos=>
       have f1:(e.kind==1)=true:=by simpa using hk1
       obtain ⟨ct,cn,hct⟩:∃ct cn,getP (strsP L) e.exts=(ct,cn):=⟨_,_,rfl⟩
       have hcl:ct.length≤65536:=by have:=Xnj (strsP L) e.exts;rw [hct] at this;exact this
       obtain ⟨q2,xs2,n2,hpq⟩:∃q2 xs2 n2,putP (stoJ L k x j) ct=(q2,xs2,n2):=⟨_,_,_,rfl⟩
       have Hn:=Qh (show stoE (strsP L) (stoJ L k x j) e=q2 by rw [stoE,if_pos hk1,hct,hpq])
       obtain ⟨K9,hk9,hok9,hr9⟩:=HOA.out.freeze1 (fun _=>rfl) MA.out.at_.ok Hno.out
       have Hge:=Qh (Xwi K9 v5 (.slice ax e.exts.length cx) (strsP (L.take (k+1))) e.exts hr9 (Hrx.out.mono hk9) (fun s hs=>by
        obtain ⟨y,hy,rfl⟩:=List.mem_map.1 hs
        obtain ⟨i,hi,he⟩:=List.getElem_of_mem (List.mem_of_mem_take hy)
        have:=(HA.out.at_ hi he).stream
        omega) wA hok9)
       rw [Xpi,Xqz (strsP L) (k+1) Hs.out.xs (by simp [strsP];omega),hct] at Hge
       have Hpu:=Qh (fun w hw=>(by
        have hqq:=Hs.out.sto
        have:=Xuc 4294901760 400000000 (by decide) (by decide) K (stoJ L k x j) vk MA.out.rk ⟨by have:=hqq.s0;omega,by have:=hqq.s1;omega,hqq.str,Hs.out.cks,fun k hk=>(hqq.cx k hk).x⟩ (fun k hk=>(hqq.cx k hk).d) ct (by omega) w hw
        rwa [hpq] at this:Calls Tryz.prog 128 #[stoV (stoJ L k x j) vk,S ct] w (PutR K w (q2,xs2,n2))))
       have x6:=EB.out.c6
       clear hk1 hct hpq hk9 hok9 hr9
       go_wp2_with fail
       refine Hge.out.mono ?_
       rintro e10 w10 ⟨rfl,hb10⟩
       have M10:=Qh (MA.out.quiet hb10)
       have hM10:=M10.out.row
       have z4:w10.cell? ⟨w.heap.size+2,4,none⟩=some vk:=(cell_of_row _ _ 4 _ _ _ hM10).trans rfl
       have z5:w10.cell? ⟨w.heap.size+2,5,none⟩=some (.int .i64 (stoJ L k x j).ses):=(cell_of_row _ _ 5 _ _ _ hM10).trans rfl
       have z6:w10.cell? ⟨w.heap.size+2,6,none⟩=some (S (stoJ L k x j).str):=(cell_of_row _ _ 6 _ _ _ hM10).trans rfl
       have HO10:=Qh (HOA.out.below hb10)
       have SB10:=Qh (SBA.out.thru hb10)
       have EB10:=Qh (EB.out.thru hb10)
       clear hb10 Hge MA HOA SBA EB hMA x6
       go_wp2_with fail
       refine (Hpu.out w10 M10.out.at_.ok).mono ?_
       rintro e11 w11 ⟨vk11,vx11,K11,rfl,hb11,hx11,hok11,hrk11,hrx11⟩
       obtain ⟨ak,ck,rfl,_,_,_⟩:=id hrk11
       obtain ⟨ay,cy,rfl,_,_,_⟩:=id hrx11
       have M11:=Qh (M10.out.thru hb11 hx11 hok11)
       have hM11:=M11.out.row
       have hn8:=block_lt_of_cell EB10.out.c0
       have hn6:=block_lt_of_cell SB10.out.c0
       have HO11:=Qh (HO10.out.below hb11)
       have SB11:=Qh (SB10.out.thru hb11)
       have EB11:=Qh (EB10.out.thru hb11)
       have hno11:∀g,v5.ownBlock=some g→K11 g=none:=fun g e=>(hx11 g (Xdl HO10.out e).2).trans (Hno.out g e)
       have hk11:=hx11.keep M10.out.at_.ok (Qn _)
       clear hb11 hx11 hok11 M10 hM10 z4 z5 z6 Hpu
       go_wp2_with (refine Xaf rfl rfl 89 _ _ rfl (w.heap.size+2) 4 [.slice ak q2.cks.length ck,.int .i64 q2.ses,S q2.str] (stoV q2 (.slice ak q2.cks.length ck)) (by simp [Act.eval]) (by simp [Act.eval]) (by rfl) _ 92 hM11 (by simp) (by kernel_rfl) (by simp [Value.oneCell']) #[.int .i64 0,.int .i64 0,.string ⟨#[]⟩,.slice none 0 0,.slice ak q2.cks.length ck,.int .i64 q2.ses,S q2.str,vt,vh] (by rfl) ?_
                    intro w12 hg12 hr12)
       go_meet
       have hn8':w.heap.size+3≤n8:=hn8w
       rw [Hn.out]
       exact ⟨K11,_,HO11.out.kept hg12 (.inr (HO11.out.ne_lt (by omega))),hno11,hk11,SB11.out.own hg12 (by simp;omega),⟨Xah hg12 (by simp;omega) EB11.out.c0,Xah hg12 (by simp;omega) EB11.out.c1,Xah hg12 (by simp;omega) EB11.out.c2,Xah hg12 (by simp;omega) EB11.out.c3,Xah hg12 (by simp;omega) EB11.out.c4,Xah hg12 (by simp;omega) EB11.out.c5,Xah hg12 (by simp;omega) EB11.out.c6⟩,
        M11.out.put hg12 hr12 hrk11 M11.out.rt M11.out.rh⟩
     case rest=>
     obtain ⟨K',vk',hO,hno,hkk,hSB,hEB,hM⟩:=hcut
     have M1:=Qh hM
     have HO1:=Qh hO
     have Hno1:=Qh hno
     have Hk1:=Qh (fun b c hc=>hkk b c (Hkp.out b c hc))
     have SB1:=Qh hSB
     have EB1:=Qh hEB
     have Hra1:=Qh (Hra.out.mono hkk)
     have Hrx1:=Qh (Hrx.out.mono hkk)
     clear hM hO hno hkk hSB hEB MA HOA SBA EB z4 z5 z6 hMA Hno Hkp Hra Hrx
     obtain ⟨S1,hS1⟩:∃S1,(stpP (sttJ L k x j) e x.date).1=S1:=⟨_,rfl⟩
     obtain ⟨q1,hq1⟩:∃q1,stoE (strsP L) (stoJ L k x j) e=q1:=⟨_,rfl⟩
     rw [hS1] at Hkt Hkh Ht
     rw [hq1] at Hq M1
     have Hda:=Qh (Xnn K' (HG.out.mono M1.out.at_.keep) vt (sttJ L k x j).tree M1.out.rt Hs.out.sin.sml Hs.out.sin.ok.tree.srt (by have:=Hs.out.sin.ok.tlen;omega) e _ _ Hra1.out Hrx1.out Hs.out.wf (by have:=Hs.out.path;omega) (by have:=Hs.out.target;omega) _ M1.out.at_.ok)
     rw [Hkt.out] at Hda
     obtain ⟨at7,ct7,rfl,_,_,_⟩:=id M1.out.rt
     obtain ⟨x0,x1,x2,x3,x4,x5,x6⟩:=EB1.out
     have z7:wc.cell? ⟨w.heap.size+2,7,none⟩=some _:=(cell_of_row _ _ 7 _ _ _ M1.out.row).trans rfl
     clear hS1 hq1
     go_wp2_with fail
     refine Hda.out.mono ?_
     rintro e2 w2 ⟨vt2,K2,rfl,hb2,hx2,hok2,hrt2⟩
     obtain ⟨at2,ct2,rfl,_,_,_⟩:=id hrt2
     have M2:=Qh (M1.out.thru hb2 hx2 hok2)
     have HO2:=Qh (HO1.out.below hb2)
     have hn6:=block_lt_of_cell SB1.out.c0
     have hn8:=block_lt_of_cell EB1.out.c0
     have SB2:=Qh (SB1.out.thru hb2)
     have EB2:=Qh (EB1.out.thru hb2)
     have hk2:=hx2.keep M1.out.at_.ok (Qn _)
     have Hno2:=Qh (show ∀g,v5.ownBlock=some g→K2 g=none from fun g e=>(hx2 g (Xdl HO1.out e).2).trans (Hno1.out g e))
     have Hk2:=Qh (fun b c hc=>hk2 b c (Hk1.out b c hc))
     have hM2:=M2.out.row
     have hs2:=hb2.size
     clear x0 x1 x2 x3 x4 x5 x6 z7 Hda hb2 hx2 hok2 M1 HO1 SB1 EB1 Hno1 Hk1
     go_wp2_with (refine Xaf rfl rfl 60 _ _ rfl (w.heap.size+2) 7 [.slice at2 S1.tree.length ct2] (.slice at2 S1.tree.length ct2) (by simp [Act.eval]) (by simp [Act.eval]) (by rfl) _ 92 hM2 (by simp) (by kernel_rfl) (by simp [Value.oneCell']) #[.int .i64 0,.int .i64 0,.string ⟨#[]⟩,.slice none 0 0,vk',.int .i64 q1.ses,S q1.str,.slice at2 S1.tree.length ct2,vh] (by rfl) ?_
                  intro w3 hg3 hr3
                  have z8:w3.cell? ⟨w.heap.size+2,8,none⟩=some vh:=(cell_of_row _ _ 8 _ _ _ hr3).trans rfl
                  have x0:=Xah hg3 (by simp;omega) EB2.out.c0
                  have x1:=Xah hg3 (by simp;omega) EB2.out.c1
                  have x2:=Xah hg3 (by simp;omega) EB2.out.c2
                  have x3:=Xah hg3 (by simp;omega) EB2.out.c3
                  have x4:=Xah hg3 (by simp;omega) EB2.out.c4
                  have x5:=Xah hg3 (by simp;omega) EB2.out.c5
                  have x6:=Xah hg3 (by simp;omega) EB2.out.c6
                  have y1:=(SB2.out.own hg3 (by simp;omega)).c1)
     have M3:=Qh (M2.out.put (S1:=⟨S1.tree,(sttJ L k x j).holds⟩) hg3 hr3 M2.out.rk hrt2 M2.out.rh)
     have HO3:=Qh (HO2.out.kept hg3 (.inr (HO2.out.ne_lt (by omega))))
     have SB3:=Qh (SB2.out.own hg3 (by simp;omega))
     have hs3:=hg3.size
     have Hap:=Qh (Xm7 K2 (HG.out.mono M3.out.at_.keep) vh (sttJ L k x j).holds M3.out.rh Hs.out.sin.ok.holds (by have:=Hs.out.sin.ok.hlen;omega) e _ _ (Hra1.out.mono hk2) (Hrx1.out.mono hk2) Hs.out.err x.date w3 M3.out.at_.ok)
     rw [Hkh.out] at Hap
     clear hg3 hr3 M2 HO2 SB2 EB2 hM2
     refine Hap.out.mono ?_
     rintro e4 w4 ⟨vh4,K4,rfl,hb4,hx4,hok4,hrh4⟩
     obtain ⟨ah4,ch4,rfl,_,_,_⟩:=id hrh4
     have M4:=Qh (M3.out.thru hb4 hx4 hok4)
     have HO4:=Qh (HO3.out.below hb4)
     have SB4:=Qh (SB3.out.thru hb4)
     have hk4:=hx4.keep M3.out.at_.ok (Qn _)
     have Hno4:=Qh (show ∀g,v5.ownBlock=some g→K4 g=none from fun g e=>(hx4 g (Xdl HO3.out e).2).trans (Hno2.out g e))
     have hM4:=M4.out.row
     have hs4:=hb4.size
     clear x0 x1 x2 x3 x4 x5 x6 z8 y1 Hap hb4 hx4 hok4 M3 HO3 SB3 Hno2
     go_wp2_with (refine Xaf rfl rfl 90 _ _ rfl (w.heap.size+2) 8 [.slice ah4 S1.holds.length ch4] (.slice ah4 S1.holds.length ch4) (by simp [Act.eval]) (by simp [Act.eval]) (by rfl) _ 92 hM4 (by simp) (by kernel_rfl) (by simp [Value.oneCell']) #[.int .i64 0,.int .i64 0,.string ⟨#[]⟩,.slice none 0 0,vk',.int .i64 q1.ses,S q1.str,.slice at2 S1.tree.length ct2,.slice ah4 S1.holds.length ch4] (by rfl) ?_
                  intro w5 hg5 hr5)
     go_roundw
     case rel=>exact ⟨j+1,K4,_,_,_,by omega,by go_num,HO4.out.kept hg5 (.inr (HO4.out.ne_lt (by omega))),Hno4.out,fun b c hc=>hk4 b c (Hk2.out b c hc),SB4.out.own hg5 (by simp;omega),
      by rw [Hq.out,Ht.out];exact M4.out.put hg5 hr5 M4.out.rk M4.out.rt hrh4⟩
     case measure=>simp [intOf];omega
    ·have hje:j=x.ents.length:=by omega
     subst hje
     go_wp2
     go_roundw
     case rel=>exact ⟨k+1,K,_,_,_,by omega,by go_num,HO.out,Hno.out,by rw [←Xr9 hlt Hlx.out,←Xsc hlt Hlx.out];exact M.out⟩
     case measure=>simp [intOf];omega
  ·have hke:k=L.length:=by omega
   subst hke
   have hrow:=M.out.row
   have z0:wr.cell? ⟨w.heap.size+2,0,none⟩=some _:=(cell_of_row _ _ 0 _ _ _ hrow).trans rfl
   have z1:wr.cell? ⟨w.heap.size+2,1,none⟩=some _:=(cell_of_row _ _ 1 _ _ _ hrow).trans rfl
   have z2:wr.cell? ⟨w.heap.size+2,2,none⟩=some _:=(cell_of_row _ _ 2 _ _ _ hrow).trans rfl
   have z3:wr.cell? ⟨w.heap.size+2,3,none⟩=some _:=(cell_of_row _ _ 3 _ _ _ hrow).trans rfl
   have z4:wr.cell? ⟨w.heap.size+2,4,none⟩=some _:=(cell_of_row _ _ 4 _ _ _ hrow).trans rfl
   have z5:wr.cell? ⟨w.heap.size+2,5,none⟩=some _:=(cell_of_row _ _ 5 _ _ _ hrow).trans rfl
   have z6:wr.cell? ⟨w.heap.size+2,6,none⟩=some _:=(cell_of_row _ _ 6 _ _ _ hrow).trans rfl
   have z7:wr.cell? ⟨w.heap.size+2,7,none⟩=some _:=(cell_of_row _ _ 7 _ _ _ hrow).trans rfl
   have z8:wr.cell? ⟨w.heap.size+2,8,none⟩=some _:=(cell_of_row _ _ 8 _ _ _ hrow).trans rfl
   have hl:=M.out.lt
   rw [List.take_length,Xi1] at M
   rw [Xi1] at z5 z6 hrow
   obtain ⟨ak,ck,rfl,_,_,_⟩:=id M.out.rk
   obtain ⟨at',ct',rfl,_,_,_⟩:=id M.out.rt
   obtain ⟨ah,ch,rfl,_,_,_⟩:=id M.out.rh
   have hout:=M.out.out
   clear hrow
   go_wp2_with (refine Xaf rfl rfl 92 _ _ rfl (w.heap.size+1) 0 (drCs ⟨0,0,[],[],repQ L,(aftS nilS L).tree,(aftS nilS L).holds⟩ (.slice none 0 0) (.slice ak (repQ L).cks.length ck) (.slice at' (aftS nilS L).tree.length ct') (.slice ah (aftS nilS L).holds.length ch)) (drV ⟨0,0,[],[],repQ L,(aftS nilS L).tree,(aftS nilS L).holds⟩ (.slice none 0 0) (.slice ak (repQ L).cks.length ck) (.slice at' (aftS nilS L).tree.length ct') (.slice ah (aftS nilS L).holds.length ch)) (by simp [Act.eval]) (by simp [Act.eval]) (by rfl) _ 92 hout (by simp) (by kernel_rfl) (by simp [Value.oneCell']) (drCs ⟨0,0,[],[],repQ L,(aftS nilS L).tree,(aftS nilS L).holds⟩ (.slice none 0 0) (.slice ak (repQ L).cks.length ck) (.slice at' (aftS nilS L).tree.length ct') (.slice ah (aftS nilS L).holds.length ch)).toArray (by rfl) ?_
                intro w9 hg9 hr9)
   refine bodyPost_ret (results_cell_row rfl _ _ (w.heap.size+1) _ (drCs ⟨0,0,[],[],repQ L,(aftS nilS L).tree,(aftS nilS L).holds⟩ (.slice none 0 0) (.slice ak (repQ L).cks.length ck) (.slice at' (aftS nilS L).tree.length ct') (.slice ah (aftS nilS L).holds.length ch)).toArray (0,0) _ rfl hr9 Tryz.underlying92 rfl Hi9.out) rfl ?_
   exact ⟨_,_,_,J,rfl,M.out.at_.bel.grown hg9 M.out.at_.size (fun k e=>by injection e with e;omega),M.out.ext,M.out.at_.ok.grown hg9 (fun g e=>by injection e with e;subst e;exact M.out.no1),M.out.rk,M.out.rt,M.out.rh⟩



theorem Xhs (w:World) (a b:Array Value) (ta tb:TypeId) (W:World) (hW:(w.alloc (.cells a ta)).alloc (.cells b tb)=W):
 W.heap.size=w.heap.size+2∧W.heap[w.heap.size]? =some (.cells a ta (0,0))∧W.heap[w.heap.size+1]? =some (.cells b tb (0,0))∧Below w.heap.size w W:=by
 subst hW
 refine ⟨by simp,(Below.heap_alloc _ _ _ (by simp)).trans (heap_alloc_new w _),?_,((Qb _ _).alloc (Qn _) _).alloc (by simp) _⟩
 have h:=heap_alloc_new (w.alloc (.cells a ta)) (.cells b tb)
 rwa [World.size_alloc] at h
structure ArM (I:IH) (w0:World) (ai dt sp:Int) (vs:Value) (n1:Nat) (zr:Array Value) (ty:TypeId) (J:IH) (W:World):Prop where
 at_:MAt I w0 J W
 ext:Ext w0.heap.size I J
 no1:J n1=none
 a0:W.cell? ⟨w0.heap.size,0,none⟩=some (.int .u32 ai)
 a1:W.cell? ⟨w0.heap.size,1,none⟩=some (.int .i64 dt)
 a2:W.cell? ⟨w0.heap.size,2,none⟩=some (.int .i64 sp)
 a3:W.cell? ⟨w0.heap.size,3,none⟩=some vs
 out:W.heap[n1]? =some (.cells zr ty (0,0))
section
variable {I:IH} {w0:World} {ai dt sp:Int} {vs:Value} {n1:Nat} {zr:Array Value} {ty:TypeId} {J J':IH} {W W':World}
theorem ArM.lt (h:ArM I w0 ai dt sp vs n1 zr ty J W):n1<W.heap.size:=(Array.getElem?_eq_some_iff.1 h.out).1
theorem ArM.thru (h:ArM I w0 ai dt sp vs n1 zr ty J W) (hb:Below W.heap.size W W') (hx:Ext W.heap.size J J') (hok:Ok J' W'):ArM I w0 ai dt sp vs n1 zr ty J' W':=
 ⟨h.at_.ext hb hx hok,h.ext.trans hx h.at_.size,(hx _ h.lt).trans h.no1,Xaa hb h.a0,Xaa hb h.a1,Xaa hb h.a2,Xaa hb h.a3,(hb.block _ h.lt).trans h.out⟩
theorem ArM.quiet (h:ArM I w0 ai dt sp vs n1 zr ty J W) (hb:Below W.heap.size W W'):ArM I w0 ai dt sp vs n1 zr ty J W':=h.thru hb (Ext.refl _ _) (h.at_.ok.below (Qn _) hb)
theorem ArM.own (h:ArM I w0 ai dt sp vs n1 zr ty J W) {row:Option Nat} (hg:W.grownBy W' row) (hr:∀g,row=some g→J g=none∧w0.heap.size<g∧n1<g):ArM I w0 ai dt sp vs n1 zr ty J W':=by
 have hne:row≠some w0.heap.size:=fun e=>by have:=(hr _ e).2.1;omega
 exact ⟨⟨h.at_.ok.grown hg fun g e=>(hr g e).1,h.at_.keep,h.at_.bel.grown hg h.at_.size fun g e=>by have:=(hr g e).2.1;omega⟩,h.ext,h.no1,Xah hg hne h.a0,Xah hg hne h.a1,Xah hg hne h.a2,Xah hg hne h.a3,
  (hg.block _ h.lt (fun e=>by have:=(hr _ e.symm).2.2;omega)).trans h.out⟩
end
theorem Xlw {I:IH} {w:World} (hw:Ok I w) (ai dt sp:Int) (vs:Value) (zr:Array Value) (ty:TypeId):ArM I w ai dt sp vs (w.heap.size+1) zr ty I ((w.alloc (.cells #[.int .u32 ai,.int .i64 dt,.int .i64 sp,vs] 46)).alloc (.cells zr ty)):=by
 obtain ⟨_,r0,r1,_⟩:=Xhs w #[.int .u32 ai,.int .i64 dt,.int .i64 sp,vs] zr 46 ty _ rfl
 exact ⟨((MAt.start hw).past _).past _,Ext.refl _ _,hw.fresh (by omega),(cell_of_row _ _ 0 _ _ _ r0).trans rfl,(cell_of_row _ _ 1 _ _ _ r0).trans rfl,(cell_of_row _ _ 2 _ _ _ r0).trans rfl,(cell_of_row _ _ 3 _ _ _ r0).trans rfl,r1⟩
theorem ArM.bad {I:IH} {w0:World} {ai dt sp:Int} {vs:Value} {J:IH} {W w9:World} (h:ArM I w0 ai dt sp vs (w0.heap.size+1) zeroD 92 J W) (hg:W.grownBy w9 (some (w0.heap.size+1))) {p:Drf × Int} {r:Int} (hp:p=(nilD,r)):
 RetDr I w0 p.1 p.2 (.returned (.tuple #[.agg zeroD,.int .i64 r])) w9:=by
 subst hp
 exact ⟨.slice none 0 0,.slice none 0 0,.slice none 0 0,.slice none 0 0,J,rfl,h.at_.bel.grown hg h.at_.size (fun k e=>by injection e with e;omega),h.ext,h.at_.ok.grown hg (fun g e=>by injection e with e;subst e;exact h.no1),⟨RdS.nil _ _,RdS.nil _ _,RdS.nil _ _,RdS.nil _ _⟩⟩
end Go.Proofs.YtkipnpjagcfcpaaGreatDoor
