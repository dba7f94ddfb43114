/-
  Walks and laws that the claim's theorem uses: texts SnJ, joined; comments out. Conditions: as each theorem says.
-/
import Derived.Test.YtmdfjnhfhidmhaaGreatDoorK29
set_option linter.all false
namespace Go.Proofs.YtmdfjnhfhidmhaaGreatDoor
open Go.RowKit
structure DrRd (I:IH) (d:Drf) (ve vk vt vh:Value):Prop where
 ents:RdS tEnt I ve d.ents
 cks:RdS tCk I vk d.sto.cks
 tree:RdS tEnt I vt d.tree
 holds:RdS tHo I vh d.holds
theorem DrRd.mono {I J:IH} {d:Drf} {ve vk vt vh:Value} (hI:∀b c,I b=some c→J b=some c) (h:DrRd I d ve vk vt vh):DrRd J d ve vk vt vh:=
 ⟨h.ents.mono hI,h.cks.mono hI,h.tree.mono hI,h.holds.mono hI⟩
def RetDr (I:IH) (w:World) (d:Drf) (n:Int) (e:Ending) (w':World):Prop:=
 ∃ve vk vt vh J,e= .returned (.tuple #[drV d ve vk vt vh,.int .i64 n])∧Below w.heap.size w w'∧Ext w.heap.size I J∧Ok J w'∧DrRd J d ve vk vt vh
abbrev zeroD:Array Value:= #[.int .i64 0,.int .i64 0,.string ⟨#[]⟩,.slice none 0 0,.slice none 0 0,.int .i64 0,.string ⟨#[]⟩,.slice none 0 0,.slice none 0 0]
abbrev drCs (d:Drf) (ve vk vt vh:Value):List Value:= [.int .i64 d.num,.int .i64 d.date,S d.prev,ve,vk,.int .i64 d.sto.ses,S d.sto.str,vt,vh]
theorem entB_row {w:World} {b:Nat} {e:Ent} {va vx:Value} {t:TypeId} (h:w.heap[b]? =some (.cells (entRow e va vx) t (0,0))):EntB w b e va vx:=
 ⟨(cell_of_row _ _ 0 _ _ _ h).trans rfl,(cell_of_row _ _ 1 _ _ _ h).trans rfl,(cell_of_row _ _ 2 _ _ _ h).trans rfl,(cell_of_row _ _ 3 _ _ _ h).trans rfl,(cell_of_row _ _ 4 _ _ _ h).trans rfl,(cell_of_row _ _ 5 _ _ _ h).trans rfl,(cell_of_row _ _ 6 _ _ _ h).trans rfl⟩
structure StoB (w:World) (n:Nat) (q:Sto) (vk:Value):Prop where
 c0:w.cell? ⟨n,0,none⟩=some vk
 c1:w.cell? ⟨n,1,none⟩=some (.int .i64 q.ses)
 c2:w.cell? ⟨n,2,none⟩=some (S q.str)
theorem StoB.thru {w w':World} {b:Nat} {q:Sto} {vk:Value} (h:StoB w b q vk) (hb:Below w.heap.size w w'):StoB w' b q vk:=⟨Xaa hb h.c0,Xaa hb h.c1,Xaa hb h.c2⟩
theorem stoB_row {w:World} {b:Nat} {q:Sto} {vk:Value} {t:TypeId} (h:w.heap[b]? =some (.cells #[vk,.int .i64 q.ses,S q.str] t (0,0))):StoB w b q vk:=
 ⟨(cell_of_row _ _ 0 _ _ _ h).trans rfl,(cell_of_row _ _ 1 _ _ _ h).trans rfl,(cell_of_row _ _ 2 _ _ _ h).trans rfl⟩
theorem Xf6 (w:World) (a b c:Array Value) (ta tb tc:TypeId) (W:World) (hW:((w.alloc (.cells a ta)).alloc (.cells b tb)).alloc (.cells c tc)=W):
 W.heap.size=w.heap.size+3∧W.heap[w.heap.size]? =some (.cells a ta (0,0))∧W.heap[w.heap.size+1]? =some (.cells b tb (0,0))∧W.heap[w.heap.size+2]? =some (.cells c tc (0,0)):=by
 subst hW
 refine ⟨by simp,?_,?_,?_⟩
 ·exact (Below.heap_alloc _ _ _ (by simp;omega)).trans ((Below.heap_alloc _ _ _ (by simp)).trans (heap_alloc_new w _))
 ·have h:=heap_alloc_new (w.alloc (.cells a ta)) (.cells b tb)
  rw [World.size_alloc] at h
  exact (Below.heap_alloc _ _ _ (by simp)).trans h
 ·have h:=heap_alloc_new ((w.alloc (.cells a ta)).alloc (.cells b tb)) (.cells c tc)
  rwa [World.size_alloc,World.size_alloc] at h
theorem Xt9 {d:Drf} {c:Chg} {e:Ent} {q:Sto} (h:recP d.sto c=(e,q)):addP d c=
 if entErr e≠0 then (d,entErr e) else if c.kind≠1∧c.content≠ [] then (d,1) else if 400≤d.ents.length∨14680064<q.str.length then (d,6)
 else if (stpP d.stt e d.date).2≠0 then (d,(stpP d.stt e d.date).2)
 else (⟨d.num,d.date,d.prev,d.ents++ [e],q,(stpP d.stt e d.date).1.tree,(stpP d.stt e d.date).1.holds⟩,0):=by
 unfold addP
 rw [h]
structure AdM (I:IH) (w0:World) (d:Drf) (ve vk vt vh:Value) (c:Chg) (va:Value) (e:Ent) (xa xx:Value) (q:Sto) (vq:Value) (n6 n7:Nat) (J:IH) (W:World):Prop where
 at_:MAt I w0 J W
 ext:Ext w0.heap.size I J
 no:J (w0.heap.size+2)=none
 no0:J w0.heap.size=none
 dr:W.heap[w0.heap.size]? =some (.cells (drCs d ve vk vt vh).toArray 43 (0,0))
 cg:ChgB W (w0.heap.size+1) c va
 out:W.heap[w0.heap.size+2]? =some (.cells zeroD 43 (0,0))
 en:EntB W n6 e xa xx
 st:StoB W n7 q vq
 ra:RdS tAt J xa e.attrs
 rx:RdS tXt J xx e.exts
 rq:RdS tCk J vq q.cks
section
variable {I:IH} {w0:World} {d:Drf} {ve vk vt vh:Value} {c:Chg} {va:Value} {e:Ent} {xa xx:Value} {q:Sto} {vq:Value} {n6 n7:Nat} {J J':IH} {W W':World}
theorem AdM.thru (h:AdM I w0 d ve vk vt vh c va e xa xx q vq n6 n7 J W) (hb:Below W.heap.size W W') (hx:Ext W.heap.size J J') (hok:Ok J' W'):AdM I w0 d ve vk vt vh c va e xa xx q vq n6 n7 J' W':=by
 have hk:=hx.keep h.at_.ok (Qn _)
 have hs:=h.at_.size
 have hlt:=(Array.getElem?_eq_some_iff.1 h.out).1
 exact ⟨h.at_.ext hb hx hok,h.ext.trans hx hs,(hx _ hlt).trans h.no,(hx _ (Array.getElem?_eq_some_iff.1 h.dr).1).trans h.no0,(hb.block _ (Array.getElem?_eq_some_iff.1 h.dr).1).trans h.dr,h.cg.thru hb,(hb.block _ hlt).trans h.out,h.en.thru hb,h.st.thru hb,h.ra.mono hk,h.rx.mono hk,h.rq.mono hk⟩
theorem AdM.quiet (h:AdM I w0 d ve vk vt vh c va e xa xx q vq n6 n7 J W) (hb:Below W.heap.size W W'):AdM I w0 d ve vk vt vh c va e xa xx q vq n6 n7 J W':=h.thru hb (Ext.refl _ _) (h.at_.ok.below (Qn _) hb)
theorem AdM.ret (h:AdM I w0 d ve vk vt vh c va e xa xx q vq n6 n7 J W) (hr:DrRd I d ve vk vt vh) {w9:World} (hg:W.grownBy w9 (some (w0.heap.size+2))) {p:Drf × Int} {r:Int} (hp:p=(d,r)):
 RetDr I w0 p.1 p.2 (.returned (.tuple #[drV d ve vk vt vh,.int .i64 r])) w9:=by
 subst hp
 exact ⟨ve,vk,vt,vh,J,rfl,h.at_.bel.grown hg h.at_.size (fun k e=>by cases e;omega),h.ext,h.at_.ok.grown hg (fun g e=>by cases e;exact h.no),hr.mono h.at_.keep⟩
end
abbrev saL (n m le le1 cp:Nat) (ao:Option Addr) (e:Ent) (xa xx:Value) (x:(Option Addr × Nat) × Nat × (Option Addr × Nat)):List (Option Tmp × Value):=
 [(some 80,.pointer (some ⟨n,3,none⟩)),(some 81,.slice ao le cp),(some 82,.slice x.1.1 le x.1.2),(some 83,entV e xa xx),(some 84,.slice (some ⟨x.2.1,0,none⟩) 1 1),(some 85,.slice x.2.2.1 le1 x.2.2.2),(some 86,.pointer (some ⟨m,3,none⟩)),(none,undef)]
theorem Xbz {n m le le1 cp:Nat} {ao:Option Addr} {e:Ent} {xa xx:Value} {x:(Option Addr × Nat) × Nat × (Option Addr × Nat)}:ApartF (saL n m le le1 cp ao e xa xx x):=by
 unfold ApartF
 simp
set_option maxRecDepth 100000 in
set_option maxHeartbeats 8000000 in
theorem Xr9 (I:IH) (hI:Glob I) {n:Nat} (d:Drf) (hd:DrOk n d) (hn:n≤150) (ve vk vt vh:Value) (hr:DrRd I d ve vk vt vh) (c:Chg) (hc:c.Wf) (hca:c.attrs.length≤1000000) (va:Value) (hva:RdS tAt I va c.attrs) (w:World) (hw:Ok I w):
 Calls Tryz.prog 33 #[drV d ve vk vt vh,chgV c va] w (RetDr I w (addP d c).1 (addP d c).2):=by
 have hsq:=hd.sto (by omega)
 have Hrec:=Qh (fun w hw=>Xny I hI d.sto vk hr.cks hsq (by have:=hd.cks;omega) c va hva hc hca w hw)
 have hwf:=Xn8 hsq hc
 have hfl:=Xgo d.sto c
 obtain ⟨e,q,hrec⟩:∃e q,recP d.sto c=(e,q):=⟨_,_,rfl⟩
 have Hadd:=Qh (Xt9 hrec)
 rw [hrec] at Hrec hwf hfl
 dsimp only at hwf hfl
 have hpl:e.path.length≤4294967280:=by rw [hfl.2.1];exact hc.path
 have htl:e.target.length≤4294967280:=by rw [hfl.2.2.2];exact hc.target
 have hst:=hd.st
 have Hda:=Qh (fun J (hk:∀b c,I b=some c→J b=some c) xa xx hxa hxx w hw=>Xlt J (hI.mono hk) vt d.tree (hr.tree.mono hk) hst.sml hst.ok.tree.srt (by have:=hst.ok.tlen;show d.stt.tree.length≤_;omega) e xa xx hxa hxx hwf hpl htl w hw)
 have Hfb:=Qh (fun J (hk:∀b c,I b=some c→J b=some c) xa xx hxa hxx (h1:1≤e.kind) w hw=>Xig J (hI.mono hk) d ve vk vt vh (hr.tree.mono hk) (hr.holds.mono hk) hst.ok.holds (by have:=hst.ok.hlen;show d.stt.holds.length≤_;omega) e xa xx hxa hxx h1 hpl w hw)
 have Hap:=Qh (fun J (hk:∀b c,I b=some c→J b=some c) xa xx hxa hxx (h1:entErr e=0) w hw=>Xk5 J (hI.mono hk) vh d.holds (hr.holds.mono hk) hst.ok.holds (by have:=hst.ok.hlen;show d.stt.holds.length≤_;omega) e xa xx hxa hxx h1 d.date w hw)
 have Hcl:=Qh (fun J (hk:∀b c,I b=some c→J b=some c) w hw=>Xbj J ve d.ents (hr.ents.mono hk) w hw (by have:=hd.ents;omega))
 have hel:=hd.ents
 have Hr:=Qh hr
 have Hi9:=Qh (show (Tryz.prog.info? 43).map (·.size)=some 9 by kernel_rfl)
 obtain ⟨eo,ec,rfl,_,_,_⟩:=id hr.ents
 obtain ⟨ko,kc,rfl,_,_,_⟩:=id hr.cks
 obtain ⟨tt,tc,rfl,_,_,_⟩:=id hr.tree
 obtain ⟨ho,hc',rfl,_,_,_⟩:=id hr.holds
 obtain ⟨ao,ac,rfl,_,_,_⟩:=id hva
 obtain ⟨W3,hW3⟩:∃W3,(((w.alloc (.cells #[.int .i64 d.num,.int .i64 d.date,S d.prev,.slice eo d.ents.length ec,.slice ko d.sto.cks.length kc,.int .i64 d.sto.ses,S d.sto.str,.slice tt d.tree.length tc,.slice ho d.holds.length hc'] 43)).alloc (.cells #[.int .i64 c.kind,S c.path,.slice ao c.attrs.length ac,S c.target,S c.content] 25)).alloc (.cells zeroD 43))=W3:=⟨_,rfl⟩
 obtain ⟨hsz3,h30,h31,h32⟩:=Xf6 w _ _ _ _ _ _ W3 hW3
 have A3:=Qh (show MAt I w I W3 by rw [←hW3];exact (((MAt.start hw).past _).past _).past _)
 have H30:=Qh h30
 have H31:=Qh h31
 have H32:=Qh h32
 obtain ⟨b0,b1,b2,b3,b4,b5,b6,b7,b8⟩:=drB_row h30
 obtain ⟨g0,g1,g2,g3,g4⟩:=chgB_row h31
 have hno:I (w.heap.size+2)=none:=hw.fresh (by omega)
 have hno0:I w.heap.size=none:=hw.fresh (Qn _)
 clear hr hva h30 h31 h32 hsq hfl hst hrec
 go_enter Tryz.func33,Tryz.ntmps33
 go_wp2_with fail
 refine (Hrec.out W3 A3.out.ok).mono ?_
 rintro e1 w1 ⟨xa,xx,vq,J,rfl,hb1,hx1,hok1,hxa,hxx,hxq⟩
 obtain ⟨a1,k1,rfl,_,_,_⟩:=id hxa
 obtain ⟨a2,k2,rfl,_,_,_⟩:=id hxx
 obtain ⟨a3,k3,rfl,_,_,_⟩:=id hxq
 have hs1:=hb1.size
 clear hW3 b0 b1 b2 b3 b4 b5 b6 b7 b8 g0 g1 g2 g3 g4
 go_upto_if 21 with (first
  |(refine Xab rfl rfl 81 _ _ rfl w1.heap.size 0 (entCs e (.slice a1 e.attrs.length k1) (.slice a2 e.exts.length k2)) (entV e (.slice a1 e.attrs.length k1) (.slice a2 e.exts.length k2)) (by simp [Act.eval]) (by simp [Act.eval]) (by rfl) zeroRow 81 ((Below.heap_alloc _ _ _ (by simp)).trans (heap_alloc_new _ _)) (by simp) (by kernel_rfl) (by simp [Value.oneCell']) (entRow e (.slice a1 e.attrs.length k1) (.slice a2 e.exts.length k2)) (by rfl) ?_
    intro w2 hg2 hr2)
  |(refine Xab rfl rfl 40 _ _ rfl (w1.heap.size+1) 0 [.slice a3 q.cks.length k3,.int .i64 q.ses,S q.str] (stoV q (.slice a3 q.cks.length k3)) (by simp [Act.eval]) (by simp [Act.eval]) (by rfl) #[.slice none 0 0,.int .i64 0,.string ⟨#[]⟩] 40 ((hg2.block _ (by simp) (by simp)).trans (by have h:=heap_alloc_new (w1.alloc (.cells zeroRow 81)) (.cells #[.slice none 0 0,.int .i64 0,.string ⟨#[]⟩] 40);rwa [World.size_alloc] at h)) (by simp) (by kernel_rfl) (by simp [Value.oneCell']) #[.slice a3 q.cks.length k3,.int .i64 q.ses,S q.str] (by rfl) ?_
    intro w3 hg3 hr3))
 have hs2:=hg2.size
 have hs3:=hg3.size
 rw [World.size_alloc,World.size_alloc] at hs2
 have M:=Qh (show AdM I w d (.slice eo d.ents.length ec) (.slice ko d.sto.cks.length kc) (.slice tt d.tree.length tc) (.slice ho d.holds.length hc') c (.slice ao c.attrs.length ac) e (.slice a1 e.attrs.length k1) (.slice a2 e.exts.length k2) q (.slice a3 q.cks.length k3) w1.heap.size (w1.heap.size+1) J w3 from by
  have A1:=A3.out.ext hb1 hx1 hok1
  have A2:=(A1.past (.cells zeroRow 81)).past (.cells #[.slice none 0 0,.int .i64 0,.string ⟨#[]⟩] 40)
  have e6:J w1.heap.size=none:=hok1.fresh (Qn _)
  have e7:J (w1.heap.size+1)=none:=hok1.fresh (by omega)
  have hz:∀b,b<w1.heap.size→w3.heap[b]? =w1.heap[b]? :=fun b hb=>(hg3.block b (by omega) (fun h=>by injection h with h;omega)).trans ((hg2.block b (by simp;omega) (fun h=>by injection h with h;omega)).trans ((Below.heap_alloc _ _ _ (by simp;omega)).trans (Below.heap_alloc _ _ _ hb)))
  have hz1:∀b,b<W3.heap.size→w3.heap[b]? =W3.heap[b]? :=fun b hb=>(hz b (by omega)).trans (hb1.block b hb)
  exact ⟨⟨(A2.ok.grown hg2 (fun g h=>by cases h;exact e6)).grown hg3 (fun g h=>by cases h;exact e7),A1.keep,(A2.bel.grown hg2 (by simp;omega) (fun k h=>by cases h;omega)).grown hg3 (by omega) (fun k h=>by cases h;omega)⟩,
   hx1.mono (by omega),(hx1 _ (by omega)).trans hno,(hx1 _ (by omega)).trans hno0,(hz1 _ (by omega)).trans H30.out,chgB_row ((hz1 _ (by omega)).trans H31.out),(hz1 _ (by omega)).trans H32.out,
   entB_row ((hg3.block _ (by omega) (fun h=>by injection h with h;omega)).trans hr2),stoB_row hr3,hxa,hxx,hxq⟩)
 clear hs2 hs3 hg2 hg3 hr2 hr3 hb1 hx1 hok1 hxa hxx hxq H30 H31 H32 A3 hno hno0 hsz3 Hrec
 obtain ⟨r,hre⟩:∃r,entErr e=r:=⟨_,rfl⟩
 rw [hre] at Hadd Hap ⊢
 by_cases h0:r=0
 case neg=>
  have f1:(r != 0)=true:=by simpa using h0
  have Hn:=Qh (Hadd.out.trans (if_pos h0))
  clear Hadd h0
  obtain ⟨b0,b1,b2,b3,b4,b5,b6,b7,b8⟩:=drB_row (d:=d) M.out.dr
  have hout:=M.out.out
  go_wp2_with (refine Xab rfl rfl 43 _ _ rfl (w.heap.size+2) 0 (drCs d (.slice eo d.ents.length ec) (.slice ko d.sto.cks.length kc) (.slice tt d.tree.length tc) (.slice ho d.holds.length hc')) (drV d (.slice eo d.ents.length ec) (.slice ko d.sto.cks.length kc) (.slice tt d.tree.length tc) (.slice ho d.holds.length hc')) (by simp [Act.eval]) (by simp [Act.eval]) (by rfl) _ 43 hout (by simp) (by kernel_rfl) (by simp [Value.oneCell']) (drCs d (.slice eo d.ents.length ec) (.slice ko d.sto.cks.length kc) (.slice tt d.tree.length tc) (.slice ho d.holds.length hc')).toArray (by rfl) ?_
               intro w9 hg9 hr9)
  refine bodyPost_ret (v:= .tuple #[drV d (.slice eo d.ents.length ec) (.slice ko d.sto.cks.length kc) (.slice tt d.tree.length tc) (.slice ho d.holds.length hc'),.int .i64 r]) ?_ rfl (M.out.ret Hr.out hg9 Hn.out)
  rw [results_cell_tmp rfl]
  simp [asAddr,run_loadVar_row w9 (w.heap.size+2) 43 43 _ (0,0) _ hr9 Tryz.underlying43 rfl Hi9.out]
 subst h0
 replace Hadd:=Qh (Hadd.out.trans (if_neg (by decide)))
 have hk1:=(Xbo hre).1
 obtain ⟨g0,g1,g2,g3,g4⟩:=M.out.cg
 obtain ⟨B,hB⟩:∃B:Bool,decide (c.kind≠1∧c.content≠ [])=B:=⟨_,rfl⟩
 go_upto_region 4 with fail
 go_cut [26] (fun s26 wx=>s26= .bool B∧w3=wx)
 case first=>
  by_cases q1:c.content= []
  ·have i1:c.content.isEmpty=true:=by simp [q1]
   have i2:(c.content== [])=true:=by simp [q1]
   have hB2:B=false:=by rw [←hB];exact Qf (fun h=>h.2 q1)
   subst hB2
   clear hB q1
   go_wp2_with fail
   go_meet
   exact ⟨rfl,rfl⟩
  ·have i1:c.content.isEmpty=false:=by simpa using q1
   have i2:(c.content== [])=false:=by simpa using q1
   by_cases q2:c.kind=1
   ·have i3:(c.kind != 1)=false:=by simp [q2]
    have hB2:B=false:=by rw [←hB];exact Qf (fun h=>h.1 q2)
    subst hB2
    clear hB q1 q2
    go_wp2_with fail
    go_meet
    exact ⟨rfl,rfl⟩
   ·have i3:(c.kind != 1)=true:=by simpa using q2
    have hB2:B=true:=by rw [←hB];exact Qt ⟨q2,q1⟩
    subst hB2
    clear hB q1 q2
    go_wp2_with fail
    go_meet
    exact ⟨rfl,rfl⟩
 case rest=>
 obtain ⟨rfl,hcut⟩:=hcut
 subst hcut
 clear g0 g1 g2 g3 g4
 cases B
 case true=>
  have Hn:=Qh (Hadd.out.trans (if_pos (of_decide_eq_true hB)))
  clear Hadd hB
  obtain ⟨b0,b1,b2,b3,b4,b5,b6,b7,b8⟩:=drB_row (d:=d) M.out.dr
  have hout:=M.out.out
  go_wp2_with (refine Xab rfl rfl 43 _ _ rfl (w.heap.size+2) 0 (drCs d (.slice eo d.ents.length ec) (.slice ko d.sto.cks.length kc) (.slice tt d.tree.length tc) (.slice ho d.holds.length hc')) (drV d (.slice eo d.ents.length ec) (.slice ko d.sto.cks.length kc) (.slice tt d.tree.length tc) (.slice ho d.holds.length hc')) (by simp [Act.eval]) (by simp [Act.eval]) (by rfl) _ 43 hout (by simp) (by kernel_rfl) (by simp [Value.oneCell']) (drCs d (.slice eo d.ents.length ec) (.slice ko d.sto.cks.length kc) (.slice tt d.tree.length tc) (.slice ho d.holds.length hc')).toArray (by rfl) ?_
               intro w9 hg9 hr9)
  refine bodyPost_ret (v:= .tuple #[drV d (.slice eo d.ents.length ec) (.slice ko d.sto.cks.length kc) (.slice tt d.tree.length tc) (.slice ho d.holds.length hc'),.int .i64 1]) ?_ rfl (M.out.ret Hr.out hg9 Hn.out)
  rw [results_cell_tmp rfl]
  simp [asAddr,run_loadVar_row w9 (w.heap.size+2) 43 43 _ (0,0) _ hr9 Tryz.underlying43 rfl Hi9.out]
 replace Hadd:=Qh (Hadd.out.trans (if_neg (of_decide_eq_false hB)))
 clear hB
 obtain ⟨y0,y1,y2⟩:=M.out.st
 obtain ⟨b0,b1,b2,b3,b4,b5,b6,b7,b8⟩:=drB_row (d:=d) M.out.dr
 obtain ⟨B,hB⟩:∃B:Bool,decide (400≤d.ents.length∨14680064<q.str.length)=B:=⟨_,rfl⟩
 go_upto_region 6 with fail
 go_cut [36] (fun s36 wx=>s36= .bool B∧w3=wx)
 case first=>
  by_cases q1:400≤d.ents.length
  ·have i1:decide ((400:Int)≤(d.ents.length:Int))=true:=Qt (by omega)
   have hB2:B=true:=by rw [←hB];exact Qt (.inl q1)
   subst hB2
   clear hB q1
   go_wp2_with fail
   go_meet
   exact ⟨rfl,rfl⟩
  ·have i1:decide ((400:Int)≤(d.ents.length:Int))=false:=Qf (by omega)
   by_cases q2:14680064<q.str.length
   ·have i3:decide ((14680064:Int)<(q.str.length:Int))=true:=Qt (by omega)
    have hB2:B=true:=by rw [←hB];exact Qt (.inr q2)
    subst hB2
    clear hB q1 q2
    go_wp2_with fail
    go_meet
    exact ⟨rfl,rfl⟩
   ·have i3:decide ((14680064:Int)<(q.str.length:Int))=false:=Qf (by omega)
    have hB2:B=false:=by rw [←hB];exact Qf (by omega)
    subst hB2
    clear hB q1 q2
    go_wp2_with fail
    go_meet
    exact ⟨rfl,rfl⟩
 case rest=>
 obtain ⟨rfl,hcut⟩:=hcut
 subst hcut
 clear y0 y1 y2
 cases B
 case true=>
  have Hn:=Qh (Hadd.out.trans (if_pos (of_decide_eq_true hB)))
  clear Hadd hB b0 b1 b2 b3 b4 b5 b6 b7 b8
  obtain ⟨b0,b1,b2,b3,b4,b5,b6,b7,b8⟩:=drB_row (d:=d) M.out.dr
  have hout:=M.out.out
  go_wp2_with (refine Xab rfl rfl 43 _ _ rfl (w.heap.size+2) 0 (drCs d (.slice eo d.ents.length ec) (.slice ko d.sto.cks.length kc) (.slice tt d.tree.length tc) (.slice ho d.holds.length hc')) (drV d (.slice eo d.ents.length ec) (.slice ko d.sto.cks.length kc) (.slice tt d.tree.length tc) (.slice ho d.holds.length hc')) (by simp [Act.eval]) (by simp [Act.eval]) (by rfl) _ 43 hout (by simp) (by kernel_rfl) (by simp [Value.oneCell']) (drCs d (.slice eo d.ents.length ec) (.slice ko d.sto.cks.length kc) (.slice tt d.tree.length tc) (.slice ho d.holds.length hc')).toArray (by rfl) ?_
               intro w9 hg9 hr9)
  refine bodyPost_ret (v:= .tuple #[drV d (.slice eo d.ents.length ec) (.slice ko d.sto.cks.length kc) (.slice tt d.tree.length tc) (.slice ho d.holds.length hc'),.int .i64 6]) ?_ rfl (M.out.ret Hr.out hg9 Hn.out)
  rw [results_cell_tmp rfl]
  simp [asAddr,run_loadVar_row w9 (w.heap.size+2) 43 43 _ (0,0) _ hr9 Tryz.underlying43 rfl Hi9.out]
 replace Hadd:=Qh (Hadd.out.trans (if_neg (of_decide_eq_false hB)))
 clear hB
 obtain ⟨x0,x1,x2,x3,x4,x5,x6⟩:=M.out.en
 obtain ⟨t2,r2,happ⟩:∃t2 r2,applyT d.tree e=(t2,r2):=⟨_,_,rfl⟩
 obtain ⟨h2,r4,hah⟩:∃h2 r4,appH d.holds e d.date=(h2,r4):=⟨_,_,rfl⟩
 obtain ⟨r3,hask⟩:∃r3,askP d.stt e d.date=r3:=⟨_,rfl⟩
 have hstp:stpP d.stt e d.date=if r2≠0 then (d.stt,r2) else if r3≠0 then (d.stt,r3) else if r4≠0 then (d.stt,r4) else (⟨t2,h2⟩,0):=by
  unfold stpP
  rw [show applyT d.stt.tree e=(t2,r2) from happ,show appH d.stt.holds e d.date=(h2,r4) from hah,hask]
 rw [hstp] at Hadd
 rw [happ] at Hda
 rw [hah] at Hap
 rw [hask] at Hfb
 clear happ hah hask hstp
 go_wp2_with fail
 refine (Hda.out J M.out.at_.keep _ _ M.out.ra M.out.rx w3 M.out.at_.ok).mono ?_
 rintro e4 w4 ⟨vt2,J4,rfl,hb4,hx4,hok4,hrt⟩
 have M4:=Qh (M.out.thru hb4 hx4 hok4)
 obtain ⟨o4,c4,rfl,_,_,_⟩:=id hrt
 clear b0 b1 b2 b3 b4 b5 b6 b7 b8 x0 x1 x2 x3 x4 x5 x6 M hb4 hx4 hok4 Hda
 go_upto_if 56 with fail
 by_cases h0:r2=0
 case neg=>
  have f1:(r2 != 0)=true:=by simpa using h0
  have Hn:=Qh (show addP d c=(d,r2) by rw [Hadd.out,if_pos h0,if_pos h0])
  clear Hadd h0
  obtain ⟨b0,b1,b2,b3,b4,b5,b6,b7,b8⟩:=drB_row (d:=d) M4.out.dr
  have hout:=M4.out.out
  go_wp2_with (refine Xab rfl rfl 43 _ _ rfl (w.heap.size+2) 0 (drCs d (.slice eo d.ents.length ec) (.slice ko d.sto.cks.length kc) (.slice tt d.tree.length tc) (.slice ho d.holds.length hc')) (drV d (.slice eo d.ents.length ec) (.slice ko d.sto.cks.length kc) (.slice tt d.tree.length tc) (.slice ho d.holds.length hc')) (by simp [Act.eval]) (by simp [Act.eval]) (by rfl) _ 43 hout (by simp) (by kernel_rfl) (by simp [Value.oneCell']) (drCs d (.slice eo d.ents.length ec) (.slice ko d.sto.cks.length kc) (.slice tt d.tree.length tc) (.slice ho d.holds.length hc')).toArray (by rfl) ?_
               intro w9 hg9 hr9)
  refine bodyPost_ret (v:= .tuple #[drV d (.slice eo d.ents.length ec) (.slice ko d.sto.cks.length kc) (.slice tt d.tree.length tc) (.slice ho d.holds.length hc'),.int .i64 r2]) ?_ rfl (M4.out.ret Hr.out hg9 Hn.out)
  rw [results_cell_tmp rfl]
  simp [asAddr,run_loadVar_row w9 (w.heap.size+2) 43 43 _ (0,0) _ hr9 Tryz.underlying43 rfl Hi9.out]
 subst h0
 rw [if_neg (show ¬((0:Int)≠0) by decide)] at Hadd
 obtain ⟨b0,b1,b2,b3,b4,b5,b6,b7,b8⟩:=drB_row (d:=d) M4.out.dr
 obtain ⟨x0,x1,x2,x3,x4,x5,x6⟩:=M4.out.en
 go_wp2_with fail
 refine (Hfb.out J4 M4.out.at_.keep _ _ M4.out.ra M4.out.rx hk1 w4 M4.out.at_.ok).mono ?_
 rintro e5 w5 ⟨rfl,hb5⟩
 have M5:=Qh (M4.out.quiet hb5)
 clear b0 b1 b2 b3 b4 b5 b6 b7 b8 x0 x1 x2 x3 x4 x5 x6 M4 hb5 Hfb
 go_upto_if 63 with fail
 by_cases h0:r3=0
 case neg=>
  have f1:(r3 != 0)=true:=by simpa using h0
  have Hn:=Qh (show addP d c=(d,r3) by rw [Hadd.out,if_pos h0,if_pos h0])
  clear Hadd h0
  obtain ⟨b0,b1,b2,b3,b4,b5,b6,b7,b8⟩:=drB_row (d:=d) M5.out.dr
  have hout:=M5.out.out
  go_wp2_with (refine Xab rfl rfl 43 _ _ rfl (w.heap.size+2) 0 (drCs d (.slice eo d.ents.length ec) (.slice ko d.sto.cks.length kc) (.slice tt d.tree.length tc) (.slice ho d.holds.length hc')) (drV d (.slice eo d.ents.length ec) (.slice ko d.sto.cks.length kc) (.slice tt d.tree.length tc) (.slice ho d.holds.length hc')) (by simp [Act.eval]) (by simp [Act.eval]) (by rfl) _ 43 hout (by simp) (by kernel_rfl) (by simp [Value.oneCell']) (drCs d (.slice eo d.ents.length ec) (.slice ko d.sto.cks.length kc) (.slice tt d.tree.length tc) (.slice ho d.holds.length hc')).toArray (by rfl) ?_
               intro w9 hg9 hr9)
  refine bodyPost_ret (v:= .tuple #[drV d (.slice eo d.ents.length ec) (.slice ko d.sto.cks.length kc) (.slice tt d.tree.length tc) (.slice ho d.holds.length hc'),.int .i64 r3]) ?_ rfl (M5.out.ret Hr.out hg9 Hn.out)
  rw [results_cell_tmp rfl]
  simp [asAddr,run_loadVar_row w9 (w.heap.size+2) 43 43 _ (0,0) _ hr9 Tryz.underlying43 rfl Hi9.out]
 subst h0
 rw [if_neg (show ¬((0:Int)≠0) by decide)] at Hadd
 obtain ⟨b0,b1,b2,b3,b4,b5,b6,b7,b8⟩:=drB_row (d:=d) M5.out.dr
 obtain ⟨x0,x1,x2,x3,x4,x5,x6⟩:=M5.out.en
 go_wp2_with fail
 refine (Hap.out J4 M5.out.at_.keep _ _ M5.out.ra M5.out.rx trivial w5 M5.out.at_.ok).mono ?_
 rintro e6 w6 ⟨vh2,J6,rfl,hb6,hx6,hok6,hrh⟩
 have M6:=Qh (M5.out.thru hb6 hx6 hok6)
 have hrt6:=hrt.mono (hx6.keep M5.out.at_.ok (Qn _))
 obtain ⟨o6,c6,rfl,_,_,_⟩:=id hrh
 clear b0 b1 b2 b3 b4 b5 b6 b7 b8 x0 x1 x2 x3 x4 x5 x6 M5 hb6 hx6 hok6 Hap hrt
 go_upto_if 76 with fail
 by_cases h0:r4=0
 case neg=>
  have f1:(r4 != 0)=true:=by simpa using h0
  have Hn:=Qh (show addP d c=(d,r4) by rw [Hadd.out,if_pos h0,if_pos h0])
  clear Hadd h0
  obtain ⟨b0,b1,b2,b3,b4,b5,b6,b7,b8⟩:=drB_row (d:=d) M6.out.dr
  have hout:=M6.out.out
  go_wp2_with (refine Xab rfl rfl 43 _ _ rfl (w.heap.size+2) 0 (drCs d (.slice eo d.ents.length ec) (.slice ko d.sto.cks.length kc) (.slice tt d.tree.length tc) (.slice ho d.holds.length hc')) (drV d (.slice eo d.ents.length ec) (.slice ko d.sto.cks.length kc) (.slice tt d.tree.length tc) (.slice ho d.holds.length hc')) (by simp [Act.eval]) (by simp [Act.eval]) (by rfl) _ 43 hout (by simp) (by kernel_rfl) (by simp [Value.oneCell']) (drCs d (.slice eo d.ents.length ec) (.slice ko d.sto.cks.length kc) (.slice tt d.tree.length tc) (.slice ho d.holds.length hc')).toArray (by rfl) ?_
               intro w9 hg9 hr9)
  refine bodyPost_ret (v:= .tuple #[drV d (.slice eo d.ents.length ec) (.slice ko d.sto.cks.length kc) (.slice tt d.tree.length tc) (.slice ho d.holds.length hc'),.int .i64 r4]) ?_ rfl (M6.out.ret Hr.out hg9 Hn.out)
  rw [results_cell_tmp rfl]
  simp [asAddr,run_loadVar_row w9 (w.heap.size+2) 43 43 _ (0,0) _ hr9 Tryz.underlying43 rfl Hi9.out]
 subst h0
 have Hn:=Qh (show addP d c=(⟨d.num,d.date,d.prev,d.ents++ [e],q,t2,h2⟩,0) by rw [Hadd.out];rfl)
 clear Hadd
 obtain ⟨b0,b1,b2,b3,b4,b5,b6,b7,b8⟩:=drB_row (d:=d) M6.out.dr
 go_wp2_with (refine Xab rfl rfl 43 _ _ rfl w6.heap.size 0 (drCs d (.slice eo d.ents.length ec) (.slice ko d.sto.cks.length kc) (.slice tt d.tree.length tc) (.slice ho d.holds.length hc')) (drV d (.slice eo d.ents.length ec) (.slice ko d.sto.cks.length kc) (.slice tt d.tree.length tc) (.slice ho d.holds.length hc')) (by simp [Act.eval]) (by simp [Act.eval]) (by rfl) zeroD 43 (heap_alloc_new _ _) (by simp) (by kernel_rfl) (by simp [Value.oneCell']) (drCs d (.slice eo d.ents.length ec) (.slice ko d.sto.cks.length kc) (.slice tt d.tree.length tc) (.slice ho d.holds.length hc')).toArray (by rfl) ?_
              intro w10 hg10 hr10)
 have hb10:Below w6.heap.size w6 w10:=((Qb _ _).alloc (Qn _) _).grown hg10 (by simp) (fun k e=>by injection e with e;omega)
 have M10:=Qh (M6.out.quiet hb10)
 have hs10:w6.heap.size<w10.heap.size:=(Array.getElem?_eq_some_iff.1 hr10).1
 have hs6:=M6.out.at_.size
 clear b0 b1 b2 b3 b4 b5 b6 b7 b8 hg10
 have b3:=(drB_row (d:=d) M10.out.dr).c3
 obtain ⟨x0,x1,x2,x3,x4,x5,x6⟩:=M10.out.en
 refine Xak (X:=(Option Addr × Nat) × Nat × (Option Addr × Nat)) (saL w.heap.size w6.heap.size d.ents.length ((d.ents++ [e]).length) ec eo e (.slice a1 e.attrs.length k1) (.slice a2 e.exts.length k2)) (RgE w10 2 5 4 5 5 231 222 232 (fun x w=>x.2.1<w.heap.size) (fun x w=>OwnS tEnt 81 J6 w w10.heap.size (.slice x.1.1 d.ents.length x.1.2) d.ents∧(Value.slice x.1.1 d.ents.length x.1.2).ownBlock≠some x.2.1) (fun x w=>w.heap[x.2.1]? =some (.cells (entRow e (.slice a1 e.attrs.length k1) (.slice a2 e.exts.length k2)) 81 (0,0))) (fun x w=>OwnS tEnt 81 J6 w w10.heap.size (.slice x.2.2.1 (d.ents++ [e]).length x.2.2.2) (d.ents++ [e])) (fun _ _=>True) (fun x w=>OwnS tEnt 81 J6 w w10.heap.size (.slice x.2.2.1 (d.ents++ [e]).length x.2.2.2) (d.ents++ [e])) (fun x=>w6.heap.size) 43 7 209 210 (fun x=> #[.int .i64 d.num,.int .i64 d.date,S d.prev,.slice x.2.2.1 (d.ents++ [e]).length x.2.2.2,.slice ko d.sto.cks.length kc,.int .i64 d.sto.ses,S d.sto.str,.slice tt d.tree.length tc,.slice ho d.holds.length hc']) (fun x=> #[.int .i64 d.num,.int .i64 d.date,S d.prev,.slice x.2.2.1 (d.ents++ [e]).length x.2.2.2,.slice ko d.sto.cks.length kc,.int .i64 d.sto.ses,S d.sto.str,.slice tt d.tree.length tc,.slice ho d.holds.length hc']) (fun x=> #[.int .i64 d.num,.int .i64 d.date,S d.prev,.slice x.2.2.1 (d.ents++ [e]).length x.2.2.2,.slice ko d.sto.cks.length kc,.int .i64 d.sto.ses,S d.sto.str,.slice tt d.tree.length tc,.slice ho d.holds.length hc'])) (by kernel_rfl) (by kernel_rfl) ?_ ?_ ?_
 ·exact ⟨(default,0,default),RgE.start _ _ (show 0<w10.heap.size by omega)⟩
 ·rintro x s' a' w' i hsz hcl ha hC hi
  obtain ⟨hun,oi,hoi,hall⟩:=mem_ready.1 hi
  have ev:=Xg4 Xbz ha
  have hlt:=Xc9 hun
  rcases i with _|_|_|_|_|_|_|_|i
  rotate_left 8
  ·simp at hoi
  all_goals
   have hoj:=hoi
   simp at hoi
   subst hoi
   simp [Region.binds] at hall
   try have hl:=Xas 6 7 hcl (by decide +kernel) hun
   try have hbw:=hC.off hl
   try have b3:=Xaa hbw b3
   try have x0:=Xaa hbw x0
   try have x1:=Xaa hbw x1
   try have x2:=Xaa hbw x2
   try have x3:=Xaa hbw x3
   try have x4:=Xaa hbw x4
   try have x5:=Xaa hbw x5
   try have x6:=Xaa hbw x6
   refine wpOp_step hoj (fun K' hK=> ?_)
   rw [if_pos (by rfl)]
  rotate_left 2
  ·unfold Oper.wp
   simp [go_sem,ev,evF,hall,Oper.upon]
   refine (Hcl.out J6 M10.out.at_.keep w' (M10.out.at_.ok.below (Qn _) hbw)).mono ?_
   rintro r4 w4 ⟨v7,rfl,ho,hb4⟩
   obtain ⟨a7,k7,rfl⟩:=Xb9 ho
   have ha:=ha.trans (Xa3 (L:=saL w.heap.size w6.heap.size d.ents.length ((d.ents++ [e]).length) ec eo e (.slice a1 e.attrs.length k1) (.slice a2 e.exts.length k2) x) (M:=saL w.heap.size w6.heap.size d.ents.length ((d.ents++ [e]).length) ec eo e (.slice a1 e.attrs.length k1) (.slice a2 e.exts.length k2) ((a7,k7),x.2)) [2] rfl (fun j hne=>by
    rcases j with _|_|_|_|_|_|_|_|j<;>first|rfl|(exact absurd (by decide) hne)|simp) (List.forall_mem_cons.2 ⟨Xam hun,List.forall_mem_nil _⟩))
   exact hK _ _ ⟨((a7,k7),x.2),Xax Xbz ha rfl hun,hC.step hl (hbw.trans (hb4.mono hbw.size)) (by decide) (fun h=>Nat.lt_of_lt_of_le h hb4.size) (fun _ _=>⟨ho.lower hbw.size,fun q=>by have h8:w'.heap.size≤x.2.1:=ho.own_ge q;have h9:x.2.1<w'.heap.size:=hC.inv hl;omega⟩) (fun h _=>h.elim (fun e=>absurd e (by decide)) (fun ⟨_,_,q⟩=>(hb4.block _ (Array.getElem?_eq_some_iff.1 q).1).trans q)) (fun h _=>h.elim (fun e=>absurd e (by decide)) (fun ⟨_,_,q⟩=>q.below hb4)) (fun _ _=>trivial) hlt⟩
  rotate_left 1
  ·unfold Oper.wp
   simp [go_sem,ev,evF,hall,Oper.upon,b3,x0,x1,x2,x3,x4,x5,x6]
   have ha:=ha.trans (Xa3 (L:=saL w.heap.size w6.heap.size d.ents.length ((d.ents++ [e]).length) ec eo e (.slice a1 e.attrs.length k1) (.slice a2 e.exts.length k2) x) (M:=saL w.heap.size w6.heap.size d.ents.length ((d.ents++ [e]).length) ec eo e (.slice a1 e.attrs.length k1) (.slice a2 e.exts.length k2) (x.1,w'.heap.size,x.2.2)) [4] rfl (fun j hne=>by
    rcases j with _|_|_|_|_|_|_|_|j<;>first|rfl|(exact absurd (by decide) hne)|simp) (List.forall_mem_cons.2 ⟨Xam hun,List.forall_mem_nil _⟩))
   exact hK _ _ ⟨(x.1,w'.heap.size,x.2.2),Xax Xbz ha rfl hun,hC.step hl (hbw.trans (((Qb _ _).alloc (Qn _) _).mono hbw.size)) (by decide) (fun _=>by simp) (fun h _=>h.elim (fun e=>absurd e (by decide)) (fun ⟨_,_,q⟩=>⟨q.1.alloc _,fun r=>absurd (Xda q.1 r).2 (Nat.lt_irrefl _)⟩)) (fun _ _=>heap_alloc_new _ _) (fun h _=>h.elim (fun e=>absurd e (by decide)) (fun ⟨_,_,q⟩=>q.alloc _)) (fun _ _=>trivial) hlt⟩
  ·have h1:=hC.f1 (by first|simpa using hall|simp [hall]) (Xam hun) hl
   have h2:=hC.f2 (by first|simpa using hall|simp [hall]) (Xam hun) hl
   refine Xdf Xrc _ _ rfl (by simp [Act.eval,ev,evF,hall]) h1.1 (by simp [Act.eval,ev,evF,hall]) (SrcS.of_one (T:=tEnt) (x:=e) (cs:=entCs e (.slice a1 e.attrs.length k1) (.slice a2 e.exts.length k2)) ⟨_,_,rfl,M10.out.ra,M10.out.rx⟩ (fun j u hu=>(cell_of_row w' _ j _ _ _ h2).trans (by simpa using hu))) (by simp only [List.length_nil,List.length_cons];omega) (by simp only [List.length_nil,List.length_cons];omega) hbw.size ?_
   rintro v9 w9 ho9 hg9 hl9
   obtain ⟨a9,k9,rfl⟩:=Xb9 ho9
   have ha:=ha.trans (Xa3 (L:=saL w.heap.size w6.heap.size d.ents.length ((d.ents++ [e]).length) ec eo e (.slice a1 e.attrs.length k1) (.slice a2 e.exts.length k2) x) (M:=saL w.heap.size w6.heap.size d.ents.length ((d.ents++ [e]).length) ec eo e (.slice a1 e.attrs.length k1) (.slice a2 e.exts.length k2) (x.1,x.2.1,(a9,k9))) [5] rfl (fun j hne=>by
    rcases j with _|_|_|_|_|_|_|_|j<;>first|rfl|(exact absurd (by decide) hne)|simp) (List.forall_mem_cons.2 ⟨Xam hun,List.forall_mem_nil _⟩))
   exact hK _ _ ⟨(x.1,x.2.1,(a9,k9)),Xax Xbz ha rfl hun,hC.step hl (hbw.grown hg9 hbw.size (fun k e=>(Xda h1.1 e).1)) (by decide) (fun h=>Nat.lt_of_lt_of_le h hg9.size) (fun _ h=>absurd rfl h) (fun _ h=>absurd rfl h) (fun _ _=>ho9) (fun _ _=>trivial) hlt⟩
  rotate_left 1
  ·have hrow:w'.heap[w6.heap.size]? =some (.cells _ 43 (0,0)):=(hbw.block _ (Array.getElem?_eq_some_iff.1 hr10).1).trans hr10
   refine Xag 37 _ _ rfl (w6.heap.size) 3 [.slice x.2.2.1 (d.ents++ [e]).length x.2.2.2] (.slice x.2.2.1 (d.ents++ [e]).length x.2.2.2) (by simp [Act.eval,ev,evF,hall]) (by simp [Act.eval,ev,evF,hall]) (by rfl) _ _ hrow (by simp) (by kernel_rfl) (by simp [Value.oneCell']) ?_
   exact hK _ _ ⟨x,Xac (d:=none) (v:=undef) Xbz ha rfl hun,hC.put1 hun (hC.f3 (by first|simpa using hall|simp [hall]) (Xan (by simp [hsz])) hl) (Xan (by simp [hsz])) (Xan (by simp [hsz])) (by decide) hrow (by rfl)⟩
  all_goals
   unfold Oper.wp
   first
   |(simp [go_sem,ev,evF,hall,Oper.upon,b3,x0,x1,x2,x3,x4,x5,x6];exact hK _ _ ⟨x,Xax Xbz ha rfl hun,hC.pure (by decide)⟩)
   |(simp [go_sem,ev,evF,Oper.upon,b3,x0,x1,x2,x3,x4,x5,x6];exact hK _ _ ⟨x,Xax Xbz ha rfl hun,hC.pure (by decide)⟩)
 ·rintro x s' a' w11 hup ha hC
  obtain ⟨wb,hbW,hFin,hgr,hrow⟩:=hC.on (hup 7 (by decide))
  simp only [ite_self] at hrow
  rw [Xa6 _ _ _ _ (fun i hi=>by rw [Nat.zero_add];exact hup i (by simpa using hi))] at ha
  subst ha
  simp only [fillAll,Act.put,List.setIfInBounds_toArray,List.set_cons_succ,List.set_cons_zero]
  obtain ⟨xv,xb,o9,k9⟩:=x
  dsimp only at hFin hgr hrow ⊢
  have hb11:Below w6.heap.size w6 w11:=(hb10.trans (hbW.mono (by omega))).grown hgr (by have:=hbW.size;omega) (fun k e=>by injection e with e;omega)
  have M11:=Qh (M6.out.quiet hb11)
  have HO:=Qh (hFin.kept hgr (.inr (hFin.ne_lt hs10)))
  have hs11:=hb11.size
  have hs11':=(Array.getElem?_eq_some_iff.1 hrow).1
  obtain ⟨y0,y1,y2⟩:=M11.out.st
  have hlt2:=(Array.getElem?_eq_some_iff.1 M6.out.out).1
  clear hC hup hgr hbW hb10 hFin b3 x0 x1 x2 x3 x4 x5 x6
  go_wp2_with (first
   |(refine Xab rfl rfl 40 _ _ rfl w6.heap.size 4 [.slice a3 q.cks.length k3,.int .i64 q.ses,S q.str] (stoV q (.slice a3 q.cks.length k3)) (by simp [Act.eval]) (by simp [Act.eval]) (by rfl) _ 43 hrow (by simp) (by kernel_rfl) (by simp [Value.oneCell']) #[.int .i64 d.num,.int .i64 d.date,S d.prev,.slice o9 (d.ents++ [e]).length k9,.slice a3 q.cks.length k3,.int .i64 q.ses,S q.str,.slice tt d.tree.length tc,.slice ho d.holds.length hc'] (by rfl) ?_
     intro w12 hg12 hr12)
   |(refine Xab rfl rfl 37 _ _ rfl w6.heap.size 7 [.slice o4 t2.length c4] (.slice o4 t2.length c4) (by simp [Act.eval]) (by simp [Act.eval]) (by rfl) _ 43 hr12 (by simp) (by kernel_rfl) (by simp [Value.oneCell']) #[.int .i64 d.num,.int .i64 d.date,S d.prev,.slice o9 (d.ents++ [e]).length k9,.slice a3 q.cks.length k3,.int .i64 q.ses,S q.str,.slice o4 t2.length c4,.slice ho d.holds.length hc'] (by rfl) ?_
     intro w13 hg13 hr13)
   |(refine Xab rfl rfl 41 _ _ rfl w6.heap.size 8 [.slice o6 h2.length c6] (.slice o6 h2.length c6) (by simp [Act.eval]) (by simp [Act.eval]) (by rfl) _ 43 hr13 (by simp) (by kernel_rfl) (by simp [Value.oneCell']) (drCs (⟨d.num,d.date,d.prev,d.ents++ [e],q,t2,h2⟩:Drf) (.slice o9 (d.ents++ [e]).length k9) (.slice a3 q.cks.length k3) (.slice o4 t2.length c4) (.slice o6 h2.length c6)).toArray (by rfl) ?_
     intro w14 hg14 hr14
     obtain ⟨z0,z1,z2,z3,z4,z5,z6,z7,z8⟩:=drB_row (d:=(⟨d.num,d.date,d.prev,d.ents++ [e],q,t2,h2⟩:Drf)) hr14
     have hs12:=hg12.size
     have hs13:=hg13.size
     have hs14:=hg14.size
     have hout:=(hg14.block (w.heap.size+2) (by omega) (fun h=>by injection h with h;omega)).trans ((hg13.block _ (by omega) (fun h=>by injection h with h;omega)).trans ((hg12.block _ (by omega) (fun h=>by injection h with h;omega)).trans M11.out.out)))
   |(refine Xab rfl rfl 43 _ _ rfl (w.heap.size+2) 0 (drCs (⟨d.num,d.date,d.prev,d.ents++ [e],q,t2,h2⟩:Drf) (.slice o9 (d.ents++ [e]).length k9) (.slice a3 q.cks.length k3) (.slice o4 t2.length c4) (.slice o6 h2.length c6)) (drV (⟨d.num,d.date,d.prev,d.ents++ [e],q,t2,h2⟩:Drf) (.slice o9 (d.ents++ [e]).length k9) (.slice a3 q.cks.length k3) (.slice o4 t2.length c4) (.slice o6 h2.length c6)) (by simp [Act.eval]) (by simp [Act.eval]) (by rfl) _ 43 hout (by simp) (by kernel_rfl) (by simp [Value.oneCell']) (drCs (⟨d.num,d.date,d.prev,d.ents++ [e],q,t2,h2⟩:Drf) (.slice o9 (d.ents++ [e]).length k9) (.slice a3 q.cks.length k3) (.slice o4 t2.length c4) (.slice o6 h2.length c6)).toArray (by rfl) ?_
     intro w15 hg15 hr15))
  refine bodyPost_ret (v:= .tuple #[drV (⟨d.num,d.date,d.prev,d.ents++ [e],q,t2,h2⟩:Drf) (.slice o9 (d.ents++ [e]).length k9) (.slice a3 q.cks.length k3) (.slice o4 t2.length c4) (.slice o6 h2.length c6),.int .i64 0]) ?_ rfl ?_
  ·rw [results_cell_tmp rfl]
   simp [asAddr,run_loadVar_row w15 (w.heap.size+2) 43 43 _ (0,0) _ hr15 Tryz.underlying43 rfl Hi9.out]
  ·have q6:J6 w6.heap.size=none:=M6.out.at_.ok.fresh (Qn _)
   have hok15:Ok J6 w15:=(((M11.out.at_.ok.grown hg12 (fun g h=>by injection h with h;subst h;exact q6)).grown hg13 (fun g h=>by injection h with h;subst h;exact q6)).grown hg14 (fun g h=>by injection h with h;subst h;exact q6)).grown hg15 (fun g h=>by injection h with h;subst h;exact M6.out.no)
   have hO15:=(((HO.out.kept hg12 (.inr (HO.out.ne_lt hs10))).kept hg13 (.inr (HO.out.ne_lt hs10))).kept hg14 (.inr (HO.out.ne_lt hs10))).kept hg15 (.inr (HO.out.ne_lt (by omega)))
   obtain ⟨J7,hx7,hok7,hr7,_⟩:=hO15.freeze hok15 (fun b hb=>M6.out.at_.ok.fresh (by omega))
   have hk7:=hx7.keep M10.out.at_.ok (Qn _)
   rw [Hn.out]
   exact ⟨_,_,_,_,J7,rfl,(((M11.out.at_.bel.grown hg12 (by omega) (fun k h=>by injection h with h;omega)).grown hg13 (by omega) (fun k h=>by injection h with h;omega)).grown hg14 (by omega) (fun k h=>by injection h with h;omega)).grown hg15 (by omega) (fun k h=>by injection h with h;omega),
    M6.out.ext.trans hx7 (by omega),hok7,⟨hr7,M11.out.rq.mono hk7,hrt6.mono hk7,hrh.mono hk7⟩⟩
end Go.Proofs.YtmdfjnhfhidmhaaGreatDoor
