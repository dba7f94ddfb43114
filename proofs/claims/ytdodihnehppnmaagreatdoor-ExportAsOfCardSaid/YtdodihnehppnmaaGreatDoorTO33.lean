/-
  Walks and laws that the claim's theorem uses: texts ItC EgC, joined; comments out. Conditions: as each theorem says.
-/
import Derived.Test.YtdodihnehppnmaaGreatDoorTO32
import Derived.Test.YtdodihnehppnmaaGreatDoorTO29
set_option linter.all false
namespace Go.Proofs.YtdodihnehppnmaaGreatDoor
open Go.RowKit Go.Shelf
attribute [local go_sem] Oper.semAt_some
theorem Xjy {W W':World} {k:Nat} {c:Array Value} {e:TypeId} {f:Nat × Nat} {row:Option Nat} (h:W.heap[k]? =some (.cells c e f)) (hg:W.grownBy W' row) (hr:∀r,row=some r→ ∃o:Obj,W.heap[r]? =some o∧o.isCells=false):W'.heap[k]? =some (.cells c e f):=
 (hg.block k (Array.getElem?_eq_some_iff.1 h).1 (fun e'=>Xkf h hr e'.symm)).trans h
theorem ResB.turn {T:TypeId} {n:Nat} {J:IH} {W W':World} {row:Option Nat} (h:ResB T n J W) (hg:W.grownBy W' row) (hr:∀r,row=some r→ ∃o:Obj,W.heap[r]? =some o∧o.isCells=false):ResB T n J W':=⟨Xjy h.row hg hr,h.free⟩
def AftI (T:TypeId) (m:Nat) (I:IH) (w:World) (s:Stt) (W:World):Prop:= ∃vt vh J,StM T (m+1) J W s vt vh∧ResB T m J W∧Ext m I J∧Below m w W
theorem Xvg {T:TypeId} {m B:Nat} {I:IH} {w:World} {β:Type} (f:β→Stt) (hm:m≤w.heap.size) (hB:m≤B):OwnFrom B (fun b W=>AftI T m I w (f b) W):=by
 intro b W W' row ⟨vt,vh,J,h1,h2,h3,h4⟩ hg hr
 exact ⟨vt,vh,J,h1.turn hg fun r e=>(hr r e).2,h2.turn hg fun r e=>(hr r e).2,h3,Below.turn h4 hm hB hg hr⟩
structure AxR (T1 T2:TypeId) (m:Nat) (y:YP) (b:Nat) (W:World):Prop where
 lt:m<b
 s:W.heap[b]? =some (.cells (sesRow y.s y.ve) T1 (0,0))
 e:W.heap[b+1]? =some (.cells (entRow y.e y.va y.vx) T2 (0,0))
theorem AxR.turn {T1 T2:TypeId} {m b:Nat} {y:YP} {W W':World} {row:Option Nat} (h:AxR T1 T2 m y b W) (hg:W.grownBy W' row) (hr:∀r,row=some r→ ∃o:Obj,W.heap[r]? =some o∧o.isCells=false):AxR T1 T2 m y b W':=
 ⟨h.lt,Xjy h.s hg hr,Xjy h.e hg hr⟩
set_option maxRecDepth 100000 in
set_option maxHeartbeats 4000000 in
theorem Xum (I:IH) (hI:Glob I) (v:Value) (L:List Ses) (hv:RdS tSes I v L) (hg:∀x∈L,SesG x) (hL:L.length≤1000) (w:World) (hw:Ok I w):
 Calls Tryz.prog 66 #[v] w (RetSt I w (aftS nilS L)):=by
 obtain ⟨ao,cap,rfl,_,_,_⟩:=id hv
 have Hv:=Qh hv
 have Hg:=Qh hg
 have HI:=Qh hI
 have H0:=Qh (StM.new (T:=103) (hw.alloc (.cells #[.slice none 0 0,.slice none 0 0] 103)) rfl)
 have HR0:=Qh (show ResB 103 w.heap.size I (w.alloc (.cells #[.slice none 0 0,.slice none 0 0] 103)) from ⟨heap_alloc_new w _,hw.fresh (Qn _)⟩)
 rw [World.size_alloc] at H0
 have hbA:Below w.heap.size w (w.alloc (.cells #[.slice none 0 0,.slice none 0 0] 103)):=(Qb _ _).alloc (Qn _) _
 have hbB:=hbA.alloc hbA.size (.cells #[.slice none 0 0,.slice none 0 0] 103)
 clear hv hg hI
 refine (callsIn_wide (n:=3)).1 ?_
 refine callsIn_of_wp_marks Tryz.func66 rfl trivial ?_ rfl
 simp only [Tryz.ntmps66,List.size_toArray,List.length_cons,List.length_nil,Nat.reduceAdd,Nat.reduceSub,Array.replicate_succ,Array.replicate_zero,List.push_toArray,List.append_toArray,List.nil_append,List.cons_append]
 gi_wp2_with (refine ⟨trivial,?_⟩;gi_at_call 113;refine (callsIn_wide.2 (Xp7 _ _ ⟨_,_,_,rfl⟩)).mono ?_;rintro e w' ⟨rfl,rfl⟩)
 have hc2:(((w.alloc (.cells #[.slice none 0 0,.slice none 0 0] 103)).alloc (.cells #[.slice none 0 0,.slice none 0 0] 103)).alloc (.cells #[.slice ao L.length cap] 22)).cell? ⟨w.heap.size+1+1,0,none⟩=some (.slice ao L.length cap):=
  (cell_of_row _ (w.heap.size+1+1) 0 _ _ _ (by have h:=heap_alloc_new ((w.alloc (.cells #[.slice none 0 0,.slice none 0 0] 103)).alloc (.cells #[.slice none 0 0,.slice none 0 0] 103)) (.cells #[.slice ao L.length cap] 22);simpa using h)).trans rfl
 have hok2:Ok I (((w.alloc (.cells #[.slice none 0 0,.slice none 0 0] 103)).alloc (.cells #[.slice none 0 0,.slice none 0 0] 103)).alloc (.cells #[.slice ao L.length cap] 22)):=((hw.alloc _).alloc _).alloc _
 have H2:=Qh (H0.out.past (.cells #[.slice ao L.length cap] 22))
 have HR2:=Qh ((HR0.out.past (.cells #[.slice none 0 0,.slice none 0 0] 103)).past (.cells #[.slice ao L.length cap] 22))
 have hb2:=hbB.alloc hbB.size (.cells #[.slice ao L.length cap] 22)
 have hsz:(((w.alloc (.cells #[.slice none 0 0,.slice none 0 0] 103)).alloc (.cells #[.slice none 0 0,.slice none 0 0] 103)).alloc (.cells #[.slice ao L.length cap] 22)).heap.size=w.heap.size+3:=by simp
 clear H0 HR0 hbA hbB
 obtain ⟨W0,hW0⟩:∃W0,(((w.alloc (.cells #[.slice none 0 0,.slice none 0 0] 103)).alloc (.cells #[.slice none 0 0,.slice none 0 0] 103)).alloc (.cells #[.slice ao L.length cap] 22))=W0:=⟨_,rfl⟩
 rw [hW0] at hc2 hok2 H2 HR2 hb2 hsz ⊢
 clear hW0
 refine wpIn_rangeFunc_ownH rfl (by decide) (gf:=173) (lb:= #[.pointer (some ⟨w.heap.size+1+1,0,none⟩)]) rfl trivial (enters_of Tryz.func173 (by kernel_rfl) rfl)
  (Xuk _ (by decide) I _ L Hv.out Hg.out hL (w.heap.size+1+1) w.heap.size W0 hok2 (fun b c h=>hw.lt h) (by omega) hc2) KpS.trans (KpS.put (by omega)) (Qb _ _) (fun _=>rfl)
  (fun pre W=>AftI 103 w.heap.size I w ((keys pre).foldl stq nilS) W)
  (fun _ _ _=>False)
  (Xvg _ (Qn _) (by omega))
  (fun _ _ _ _ _ hs _ _=>hs)
  ⟨_,_,I,H2.out,HR2.out,Ext.refl _ _,hb2⟩
  (fun x a' W=> ∃Bx,AxR 35 26 (w.heap.size+1) x.1 Bx W∧a'= { tmps:= #[.slice ao L.length cap,undef,.pointer (some ⟨w.heap.size,0,none⟩),.pointer (some ⟨w.heap.size+1,0,none⟩),.pointer (some ⟨Bx,0,none⟩),.pointer (some ⟨Bx+1,0,none⟩),.slice ao L.length cap,.func (.func 173) #[] #[.pointer (some ⟨w.heap.size+1+1,0,none⟩)],sesV x.1.s x.1.ve,entV x.1.e x.1.va x.1.vx,undef,undef,undef,undef,undef,undef,undef,undef,undef],defers:= [] })
  (fun x a' _ X Y row hs hg hr=>by obtain ⟨Bx,h1,h2⟩:=hs;exact ⟨Bx,h1.turn hg (fun r e=>(hr r e).2),h2⟩)
  ?assign ?body ?done ?stop
 case assign=>
  rintro l pre x W K ⟨vt,vh,J,h1,h2,h3,h4⟩ hK
  obtain ⟨⟨s,e,ve,va,vx⟩,hx⟩:=x
  have g1:=hx.ve
  have g2:=hx.va
  have g3:=hx.vx
  dsimp only at g1 g2 g3
  obtain ⟨oe,ce,rfl,_,_,_⟩:=id g1
  obtain ⟨oa,ca,rfl,_,_,_⟩:=id g2
  obtain ⟨ox,cx,rfl,_,_,_⟩:=id g3
  clear g1 g2 g3
  dsimp only [YS.enc,sesV,entV]
  gi_wp2
  have hsz1:=h4.size
  have hlt:=h1.lt
  refine hK _ _ (KeepsFrom.of_below (((Qb _ W).alloc (Qn _) _).alloc (by simp) _)) ((KpS.alloc hsz1 _).trans (KpS.alloc (by simp;omega) _)) ⟨_,_,J,(h1.past _).past _,(h2.past _).past _,h3,(h4.alloc hsz1 _).alloc (by simp;omega) _⟩ ⟨W.heap.size,⟨hlt,(Below.heap_alloc _ _ _ (by simp)).trans (heap_alloc_new W _),?_⟩,rfl⟩
  have h:=heap_alloc_new (W.alloc (.cells #[.int .i64 s.num,.int .i64 s.date,S s.prev,.slice oe s.ents.length ce,S s.stream,S s.sl] 35)) (.cells #[.int .i64 e.kind,S e.path,.slice oa e.attrs.length ca,S e.target,.int .i64 e.size,S e.digest,.slice ox e.exts.length cx] 26)
  simpa using h
 case body=>
  rintro l pre x a' W _ _ ⟨vt,vh,J,h1,h2,h3,h4⟩ ⟨Bx,hax,rfl⟩ hpl
  obtain ⟨⟨s,e,ve,va,vx⟩,hx⟩:=x
  have g1:=hx.ve
  have g2:=hx.va
  have g3:=hx.vx
  have gg:=hx.g
  have gm:=hx.mem
  have gks:=Xlj pre ⟨_,hx⟩
  dsimp only at g1 g2 g3 gg gm gks hax
  obtain ⟨oe,ce,rfl,_,_,_⟩:=id g1
  obtain ⟨oa,ca,rfl,_,_,_⟩:=id g2
  obtain ⟨ox,cx,rfl,_,_,_⟩:=id g3
  obtain ⟨t1,tc1,rfl,_,_,_⟩:=id h1.tree
  obtain ⟨u1,uc1,rfl,_,_,_⟩:=id h1.holds
  have hsk:=Xvf pre
  have hkp:=h3.keep hw (Qn _)
  have htl:=hsk.ok.tlen
  have hhl:=hsk.ok.hlen
  have hpy:=gg.path e gm
  have hty:=gg.target e gm
  have Hfs:=Qh (show (keys (pre++ [⟨_,hx⟩])).foldl stq nilS=(stpP ((keys pre).foldl stq nilS) e s.date).1 by rw [gks,Xsd])
  have Hap:=Qh (Xul J (HI.out.mono hkp) ((keys pre).foldl stq nilS) _ _ h1.tree h1.holds hsk.sml hsk.ok.tree.srt (by omega) hsk.ok.holds (by omega) e _ _ (g2.mono hkp) (g3.mono hkp) (gg.wf e gm) (by omega) (by omega) s.date W h1.ok)
  generalize (keys pre).foldl stq nilS=s0 at h1 hsk htl hhl Hap Hfs
  obtain ⟨s2,er3,hs2⟩:∃s2 er3,stpP s0 e s.date=(s2,er3):=⟨_,_,rfl⟩
  rw [hs2] at Hap Hfs
  have H1:=Qh h1
  have H2:=Qh h2
  have H3:=Qh h3
  have c0:=h1.c0
  have c1:=h1.c1
  obtain ⟨b0,b1,b2,b3,b4,b5⟩:=sesB_row hax.s
  obtain ⟨x0,x1,x2,x3,x4,x5,x6⟩:=entB_row hax.e
  clear g1 g2 g3 gg gm gks h1 h2 h3 hsk hkp hs2 htl hhl
  gi_wp2_with fail
  refine ⟨trivial,(CallsIn.inRound l (callsIn_wide.2 Hap.out)).mono ?_⟩
  rintro e3 W3 ⟨v3,v4,J3,rfl,hb3,hx3,hok3,ht3,hh3⟩
  obtain ⟨a3,d3,rfl,_,_,_⟩:=id ht3
  obtain ⟨a4,d4,rfl,_,_,_⟩:=id hh3
  have S3:=H1.out.ext hb3 hx3 hok3
  have R3:=H2.out.ext hb3 hx3
  have r0:=S3.c0
  have r1:=S3.c1
  have f0:=S3.f0
  have f1:=S3.f1
  have hsz1:=h4.size
  have hf:=(KeepsFrom.of_below (B:=W0.heap.size) hb3).trans ((KeepsFrom.setCellK W3 ⟨w.heap.size+1,0,none⟩ (.slice a3 s2.tree.length d3)).trans (KeepsFrom.setCellK _ ⟨w.heap.size+1,1,none⟩ (.slice a4 s2.holds.length d4)))
  have hk:=(KpS.of_below (n₀:=w.heap.size) (T:=35) hb3 hsz1).trans ((KpS.setCell S3.row (by decide) (Nat.le_succ _) 0 (.slice a3 s2.tree.length d3)).trans (KpS.setCell (heap_setCell_same W3 (w.heap.size+1) 0 _ _ (.slice a3 s2.tree.length d3) S3.row) (by decide) (Nat.le_succ _) 1 (.slice a4 s2.holds.length d4)))
  have hi:AftI 103 w.heap.size I w s2 ((W3.setCell ⟨w.heap.size+1,0,none⟩ (.slice a3 s2.tree.length d3)).setCell ⟨w.heap.size+1,1,none⟩ (.slice a4 s2.holds.length d4)):=
   ⟨_,_,J3,S3.set (s':=s2) ht3 hh3,R3.set2 (by omega),H3.out.trans hx3 hsz1,((h4.trans (hb3.mono hsz1)).setCell (p:=⟨w.heap.size+1,0,none⟩) (Nat.le_succ _) _).setCell (p:=⟨w.heap.size+1,1,none⟩) (Nat.le_succ _) _⟩
  have Hpost:=Qh (And.intro hf (And.intro hk hi))
  clear ht3 hh3 hb3 hx3 hok3 S3 R3 hf hk hi c0 c1 b0 b1 b2 b3 b4 b5 x0 x1 x2 x3 x4 x5 x6 hax
  gi_wp2
  refine ⟨Hpost.out.1,Hpost.out.2.1,?_⟩
  show AftI _ _ _ _ _ _
  rw [Hfs.out]
  exact Hpost.out.2.2
 case done=>
  rintro D ys W hD hS ⟨vt,vh,J,h1,h2,h3,h4⟩ hK
  have hst:(keys ys).foldl stq nilS=aftS nilS L:=by rw [hS,Xmk]
  obtain ⟨s0,hs0⟩:∃s0,aftS nilS L=s0:=⟨_,rfl⟩
  rw [hst,hs0] at h1
  have Hs0:=Qh hs0
  have Hi2:=Qh (show (Tryz.prog.info? 103).map (·.size)=some 2 by kernel_rfl)
  clear hst hs0
  obtain ⟨t1,tc1,rfl,_,_,_⟩:=id h1.tree
  obtain ⟨u1,uc1,rfl,_,_,_⟩:=id h1.holds
  have c0:=h1.c0
  have c1:=h1.c1
  have q0:W.cell? ⟨w.heap.size,0,none⟩=some (.slice none 0 0):=(cell_of_row W _ 0 _ _ _ h2.row).trans rfl
  have q1:W.cell? ⟨w.heap.size,1,none⟩=some (.slice none 0 0):=(cell_of_row W _ 1 _ _ _ h2.row).trans rfl
  have f0:=frozen_of_row W _ 0 _ _ h2.row
  have f1:=frozen_of_row W _ 1 _ _ h2.row
  have hlt:=h1.lt
  have hne:w.heap.size≠D:=by omega
  have hK2:((W.setCell ⟨w.heap.size,0,none⟩ (.slice t1 s0.tree.length tc1)).setCell ⟨w.heap.size,1,none⟩ (.slice u1 s0.holds.length uc1)).heap[D]? =some (.deferred (some [])):=
   (Below.heap_setCell _ ⟨w.heap.size,1,none⟩ _ D hne.symm).trans ((Below.heap_setCell _ ⟨w.heap.size,0,none⟩ _ D hne.symm).trans hK)
  have hW:=heap_setCell_same _ w.heap.size 1 _ _ (.slice u1 s0.holds.length uc1) (heap_setCell_same W w.heap.size 0 _ _ (.slice t1 s0.tree.length tc1) h2.row)
  have hok:=(h1.ok.setCell (a:=⟨w.heap.size,0,none⟩) h2.free (.slice t1 s0.tree.length tc1)).setCell (a:=⟨w.heap.size,1,none⟩) h2.free (.slice u1 s0.holds.length uc1)
  have hbb:=(h4.setCell (p:=⟨w.heap.size,0,none⟩) (Qn _) (.slice t1 s0.tree.length tc1)).setCell (p:=⟨w.heap.size,1,none⟩) (Qn _) (.slice u1 s0.holds.length uc1)
  have hsz2:=h4.size
  gi_wp2
  refine ⟨by simp,.inl ⟨_,_,rfl,run_takeDeferred hK2,?_⟩⟩
  refine ⟨_,results_cell_row rfl _ _ w.heap.size _ #[.slice t1 s0.tree.length tc1,.slice u1 s0.holds.length uc1] (0,0) _ rfl ((World.putObj_heap_other hne).trans hW) Tryz.underlying103 rfl Hi2.out,?_⟩
  rw [Hs0.out]
  exact ⟨_,_,J,rfl,Below.turn hbb (Qn _) (Qn _) (grownBy_putObj' _ D _) (fun r e=>by cases e;exact ⟨by omega,_,hK2,rfl⟩),h3,hok.turn (grownBy_putObj' _ D _) (fun r e=>by cases e;exact ⟨_,hK2,rfl⟩),h1.tree,h1.holds⟩
 case stop=>
  rintro D c pre W _ _ h _
  exact h.elim
set_option maxRecDepth 100000 in
set_option maxHeartbeats 1000000 in
theorem Xv5 (I:IH) (hI:Glob I) (v:Value) (l:List Ses) (hv:RdS tSes I v l) (hg:∀x∈l,SesG x) (hn:l.length≤1000) (n:Int) (w:World) (hw:Ok I w):
 Calls Tryz.prog 28 #[v,.int .i64 n] w (RetL tEnt I w (treeR l n).1 (treeR l n).2):=by
 obtain ⟨ao,cap,rfl,hcap,_,_⟩:=id hv
 have Ha:=Qh (fun (m:Nat) (hm:m≤l.length) w hw=>Xum I hI (.slice ao m cap) (l.take m) (hv.takeS hm) (fun x hx=>hg x (List.mem_of_mem_take hx)) (by rw [List.length_take];omega) w hw)
 clear hv hg
 by_cases h1:n<0
 ·have Hn:=Qh (show treeR l n=([],2) by rw [treeR,if_pos (.inl h1)])
  have d1:decide (n<0)=true:=Qt h1
  clear h1
  go_enter Tryz.func28,Tryz.ntmps28
  go_wp2
  go_ret2
  rw [Hn.out]
  exact ⟨_,I,rfl,Qb _ _,Ext.refl _ _,hw,RdS.nil _ _⟩
 have d1:decide (n<0)=false:=Qf h1
 by_cases h2:(l.length:Int)<n
 ·have Hn:=Qh (show treeR l n=([],2) by rw [treeR,if_pos (.inr h2)])
  have d2:decide ((l.length:Int)<n)=true:=Qt h2
  clear h1 h2
  go_enter Tryz.func28,Tryz.ntmps28
  go_wp2
  go_ret2
  rw [Hn.out]
  exact ⟨_,I,rfl,Qb _ _,Ext.refl _ _,hw,RdS.nil _ _⟩
 have d2:decide ((l.length:Int)<n)=false:=Qf h2
 obtain ⟨m,rfl⟩:∃m:Nat,n=(m:Int):=⟨n.toNat,by omega⟩
 have Hn:=Qh (show treeR l (m:Int)=((aftS nilS (l.take m)).tree,0) by rw [treeR,if_neg (by omega)];rfl)
 have hml:m≤l.length:=by omega
 have hi0:(0:Int)≤(m:Int):=by omega
 have hi1:(m:Int)≤(l.length:Int):=by omega
 have hi2:(m:Int)≤(cap:Int):=by omega
 have hfd:∀(a b:Value) (w:World),(Instr.field 103 (.agg #[a,b]) 0).run Tryz.prog w= .ok a w:=fun _ _ _=>by kernel_rfl
 clear h1 h2
 go_enter Tryz.func28,Tryz.ntmps28
 go_wp2_with fail
 refine (Ha.out m hml w hw).mono ?_
 rintro e1 w1 ⟨vt,vh,J,rfl,hb,hx,hok,ht,hh⟩
 have Ht:=Qh ht
 clear ht hh
 go_wp2
 go_ret2
 rw [Hn.out]
 exact ⟨_,J,rfl,hb,hx,hok,Ht.out⟩
end Go.Proofs.YtdodihnehppnmaaGreatDoor
namespace Go.Proofs.YtdodihnehppnmaaGreatDoor
open Go.RowKit
theorem EncOk.wf {x:Ent} (h:EncOk x):x.Wf:=by
 have a1:=h.k1
 have a2:=h.k6
 have a3:=h.path
 have a4:=h.target
 have a5:=h.s0
 have a6:=h.s1
 have a7:=h.digest
 refine ⟨by omega,by omega,by omega,fun y hy=> ?_,by omega,by omega,by omega,by omega,fun y hy=> ?_⟩
 ·have:=h.att y hy
  exact ⟨by omega,by omega⟩
 ·have:=h.xts y hy
  exact ⟨⟨by omega,by omega⟩,⟨by omega,by omega⟩,⟨by omega,by omega⟩⟩
theorem Xn7 (L:List Ses) (d:Int):treeR L (asOf d L:Nat)=(treeAt L d,0):=by
 have:=Xik d L
 rw [treeR,if_neg (by omega)]
 rfl
theorem Xn6 {L:List Ses} (hg:∀x∈L,SesG x) (d:Int):(treeAt L d).length≤30*L.length:=by
 have h:=(Xn4 (L.take (asOf d L)) Xju fun x hx=>hg x (List.mem_of_mem_take hx)).ok.tlen
 rw [List.length_take] at h
 have:=Xik d L
 unfold treeAt
 omega
theorem Xe1 (L:List Ses) (d:Int):∀x∈treeAt L d,entErr x=0:=(Xjq (l:=L) (asOf d L)).ent
def trK (st:List Bytes) (t:List Ent) (k:Nat):Bytes:=numP t.length++(t.take k).flatMap (piece st)
theorem Xjr {st:List Bytes} {t:List Ent} {k:Nat} (hk:k<t.length) {x:Ent} (hx:t[k]=x):trK st t (k+1)=trK st t k++piece st x:=by
 rw [trK,trK,List.take_succ_eq_append_getElem hk,hx,List.flatMap_append,←List.append_assoc]
 simp
theorem Xn8 {st:List Bytes} {t:List Ent} {k:Nat} {N:Bytes × Int} (hk:k<t.length) {x:Ent} (hx:t[k]=x) (h:trG st (t.drop k) (trK st t k)=N):
 if (contOf st x).2≠0 then N=([],(contOf st x).2) else trG st (t.drop (k+1)) (trK st t (k+1))=N:=by
 rw [List.drop_eq_getElem_cons hk,hx,trG] at h
 split
 ·rename_i q
  rw [if_pos q] at h
  exact h.symm
 ·rename_i q
  rw [if_neg q] at h
  rw [Xjr hk hx]
  exact h
theorem Xqu {st:List Bytes} {t:List Ent} {k:Nat} {N:Bytes × Int} (hk:t.length≤k) (h:trG st (t.drop k) (trK st t k)=N):N=(trK st t k,0):=by
 rw [List.drop_of_length_le hk,trG] at h
 exact h.symm
theorem Xhu {st:List Bytes} {x:Ent} (hx:EncOk x):(piece st x).length≤68300∧(netP (headE x)).length≤2720∧(netP (contOf st x).1).length≤65560:=by
 have h1:=Xd6 hx
 have h2:=Xfp st x
 have h3:=Xal (headE x) (by omega)
 have h4:=Xal (contOf st x).1 (by omega)
 unfold piece
 rw [List.length_append]
 omega
theorem Xqt {st:List Bytes} {t:List Ent} (ht:∀x∈t,EncOk x) (hl:t.length≤100000):∀k,(trK st t k).length≤17+68300*t.length:=by
 have key:∀(u:List Ent),(∀x∈u,EncOk x)→(u.flatMap (piece st)).length≤68300*u.length:=by
  intro u
  induction u with
  |nil=>intro _;simp
  |cons x u ih=>
   intro h
   have h1:=(Xhu (st:=st) (h x (by simp))).1
   have h2:=ih fun y hy=>h y (by simp [hy])
   rw [List.flatMap_cons,List.length_append,List.length_cons]
   omega
 intro k
 have h1:=key (t.take k) fun x hx=>ht x (List.mem_of_mem_take hx)
 have h2:=Xbd t.length (by omega)
 have h3:(t.take k).length≤t.length:=by rw [List.length_take];omega
 unfold trK
 rw [List.length_append]
 have:=Nat.mul_le_mul_left 68300 h3
 omega
set_option maxRecDepth 100000 in
theorem Xxu (n:Nat) (l s:Bytes) (w:World) (h:Lib.IsBuilder 77 5 n n (Lib.byteCells l) w) (hl:l.length+s.length≤140737488355328) (hn:n<w.heap.size):
 Calls Tryz.prog 40 #[.pointer (some ⟨n,0,none⟩),S s] w fun e w'=>e= .returned (.tuple #[.int .i64 (s.length:Int),.nilIface])∧Lib.IsBuilder 77 5 n n (Lib.byteCells (l++s)) w'∧Below n w w'∧n<w'.heap.size:=by
 refine (Tryz.Builder_WriteString n n _ _ _ h (by rw [ByteArray.size_mk',List.size_toArray];simp [Lib.byteCells];omega) (Nat.le_of_lt hn)).mono ?_
 rintro e w2 ⟨rfl,hbd,hb⟩
 refine ⟨by rw [ByteArray.size_mk',List.size_toArray],.inr ?_,hb,hbd.lt⟩
 have:=hbd
 rw [Lib.strCells_toArray,Lib.byteCells,Lib.byteCells,←List.map_append] at this
 exact this
theorem Xw6 (W:World):Lib.IsBuilder 77 5 W.heap.size W.heap.size (Lib.byteCells []) (W.alloc (.cells #[.pointer none,.slice none 0 0] 77)):=Lib.fresh_isBuilder _ _ W
structure BdM (I:IH) (w:World) (b:Nat) (J:IH) (l:Bytes) (W:World):Prop where
 mt:MAt I w J W
 bd:Lib.IsBuilder 77 5 b b (Lib.byteCells l) W
 fr:∀g,b≤g→J g=none
 ge:w.heap.size≤b
 lt:b<W.heap.size
section
variable {I J:IH} {w W W':World} {b:Nat} {l l':Bytes}
theorem BdM.thru (h:BdM I w b J l W) (hb:Below W.heap.size W W'):BdM I w b J l W':=⟨h.mt.quiet hb,Xbg h.bd hb,h.fr,h.ge,Nat.lt_of_lt_of_le h.lt hb.size⟩
theorem BdM.past (h:BdM I w b J l W) (o:Obj):BdM I w b J l (W.alloc o):=h.thru ((Qb _ _).alloc (Qn _) o)
theorem BdM.put (h:BdM I w b J l W) (hbd:Lib.IsBuilder 77 5 b b (Lib.byteCells l') W') (hb:Below b W W') (hlt:b<W'.heap.size):BdM I w b J l' W':=
 ⟨⟨h.mt.ok.of_block fun k c hc=>hb.block k (Nat.lt_of_not_le fun q=>by rw [h.fr k q] at hc;cases hc),h.mt.keep,h.mt.bel.trans (hb.mono h.ge)⟩,hbd,h.fr,h.ge,hlt⟩
end
set_option maxRecDepth 100000 in
set_option maxHeartbeats 4000000 in
theorem Xh7 (I:IH) (hI:Glob I) (v:Value) (L:List Ses) (hv:RdS tSes I v L) (hg:∀x∈L,SesG x) (hn:L.length≤1000) (d:Int) (w:World) (hw:Ok I w):
 Calls Tryz.prog 17 #[v,.int .i64 d] w fun r w'=>r= .returned (.tuple #[S (expT L d).1,.int .i64 (expT L d).2])∧Below w.heap.size w w':=by
 have Has:=Qh (fun w hw=>Xrx I v L hv d w hw)
 have Htr:=Qh (fun w hw=>Xv5 I hI v L hv hg hn (asOf d L:Nat) w hw)
 rw [Xn7] at Htr
 have hsl:=hv.len_le
 have hln:=Xn6 hg d
 have Hen:=Qh (fun x hx=>Xbf (Xe1 L d x hx))
 have Her:=Qh (Xe1 L d)
 have Hv:=Qh hv
 have Hg:=Qh hg
 unfold expT
 unfold trP
 obtain ⟨N,hN⟩:∃N,trG (strmsP L) (treeAt L d) (numP (treeAt L d).length)=N:=⟨_,rfl⟩
 rw [hN]
 have HN:=Qh (show trG (strmsP L) ((treeAt L d).drop 0) (trK (strmsP L) (treeAt L d) 0)=N by rw [List.drop_zero,trK,List.take_zero,List.flatMap_nil,List.append_nil];exact hN)
 have Hz:=Qh (show numP (treeAt L d).length=trK (strmsP L) (treeAt L d) 0 by rw [trK,List.take_zero,List.flatMap_nil,List.append_nil])
 obtain ⟨so,sc,rfl,_,_,_⟩:=id hv
 clear hv hg hN
 generalize treeAt L d=t at*
 have Hlen:=Qh (Xqt (st:=strmsP L) Hen.out (by omega))
 have hl0:=Hlen.out 0
 go_enter Tryz.func17,Tryz.ntmps17
 go_wp2_with fail
 refine (Has.out _ hw).mono ?_
 rintro e1 w1 ⟨rfl,hb1⟩
 go_wp2_with fail
 refine (Htr.out _ (hw.below (Qn _) hb1)).mono ?_
 rintro e2 w2 ⟨vt,J,rfl,hb2,hx2,hok2,hr2⟩
 try dsimp only at hr2
 have Hk:=Qh (show ∀b c,I b=some c→J b=some c from hx2.keep (hw.below (Qn _) hb1) (Qn _))
 have A2:=Qh (show MAt I w J w2 from ⟨hok2,Hk.out,hb1.trans (hb2.mono hb1.size)⟩)
 have Ht:=Qh hr2
 obtain ⟨ta,tc,rfl,_,_,_⟩:=id hr2
 have M3:=Qh (show BdM I w w2.heap.size J [] (w2.alloc (.cells #[.pointer none,.slice none 0 0] 77)) from
  ⟨A2.out.past _,Xw6 w2,fun g hg=>hok2.fresh hg,A2.out.bel.size,by simp⟩)
 have Hnu:=Qh (fun w hw=>Xc7 J (hI.mono Hk.out) t.length (by omega) w hw)
 rw [Hz.out] at Hnu
 clear hr2 hb1 hb2 hx2 hok2 A2 Has Htr Hz
 go_wp2_with fail
 refine (Hnu.out _ M3.out.mt.ok).mono ?_
 rintro e4 w4 ⟨rfl,hb4⟩
 have M4:=Qh (M3.out.thru hb4)
 clear M3 hb4 Hnu
 go_wp2_with fail
 refine (Xxu _ [] (trK (strmsP L) t 0) _ M4.out.bd (by first|omega|(simp;omega)) M4.out.lt).mono ?_
 rintro e5 w5 ⟨rfl,hbd5,hbb5,hlt5⟩
 have M5:=Qh (M4.out.put hbd5 hbb5 hlt5)
 rw [List.nil_append] at M5
 clear M4 hbd5 hbb5 hlt5
 go_wp2_with fail
 go_loopw [10,33] (fun _ s33 wr=> ∃k:Nat,k≤t.length∧s33= .int .i64 k∧BdM I w w2.heap.size J (trK (strmsP L) t k) wr∧trG (strmsP L) (t.drop k) (trK (strmsP L) t k)=N) (fun _ i _=>t.length-(intOf i).toNat)
 case atStart=>exact ⟨0,Nat.zero_le _,rfl,M5.out,HN.out⟩
 case round=>
  clear M5 HN hl0
  obtain ⟨k,hk,rfl,hM,hr⟩:=hrel
  have M:=Qh hM
  have Hr:=Qh hr
  have hlk:=Hlen.out k
  clear hM hr
  by_cases hlt:k<t.length
  ·obtain ⟨x,va,vx,b,off,cap',hlx,hvv,⟨c0,c1,c2,c3,c4,c5,c6⟩,hva,hvx⟩:=Xbu Ht.out M.out.mt.ok k hlt
   cases hvv
   have Hx:=Qh (Hen.out x (by rw [←hlx];exact List.getElem_mem hlt))
   have He:=Qh (Her.out x (by rw [←hlx];exact List.getElem_mem hlt))
   have Hst:=Qh (Xn8 hlt hlx Hr.out)
   have Hsu:=Qh (Xjr (st:=strmsP L) hlt hlx)
   have hp3:=Xhu (st:=strmsP L) Hx.out
   have hx1:=Hx.out.path
   have hx2:=Hx.out.target
   have hhl:=Xd6 Hx.out
   have hcl:=Xfp (strmsP L) x
   have Hco:=Qh (fun w hw=>Xqc J _ L (Hv.out.mono Hk.out) Hg.out hn x va vx hva hvx w hw)
   have Hhd:=Qh (fun w hw=>Xwk J (hI.mono Hk.out) x va vx hva hvx Hx.out.wf (by omega) (by omega) Hx.out He.out w hw)
   obtain ⟨xa,xc,rfl,_,_,_⟩:=id hva
   obtain ⟨xx,xd,rfl,_,_,_⟩:=id hvx
   have M1:=Qh (M.out.past (.cells #[.int .i64 x.kind,S x.path,.slice xa x.attrs.length xc,S x.target,.int .i64 x.size,S x.digest,.slice xx x.exts.length xd] 26))
   have EB:=Qh (entB (W:=wr) (e:=x) (va:= .slice xa x.attrs.length xc) (vx:= .slice xx x.exts.length xd) (t:=26) rfl (Qb _ _))
   clear hlx hva hvx M
   obtain ⟨ct,er,hcc⟩:∃ct er,contOf (strmsP L) x=(ct,er):=⟨_,_,rfl⟩
   have Hpc:=Qh (show piece (strmsP L) x=netsP [headE x,ct] by simp [piece,netsP,hcc])
   rw [hcc] at Hst hcl
   dsimp only at Hst hcl
   have Hcc:=Qh hcc
   clear hcc
   go_upto_if 39 with fail
   clear c0 c1 c2 c3 c4 c5 c6
   obtain ⟨y0,y1,y2,y3,y4,y5,y6⟩:=EB.out
   go_cut [11,12,13] (fun s11 _ _ wx=>s11=S ct∧er=0∧BdM I w w2.heap.size J (trK (strmsP L) t k) wx∧EntB wx wr.heap.size x (.slice xa x.attrs.length xc) (.slice xx x.exts.length xd))
   case first=>
    by_cases hk1:x.kind=1
    ·have k1:(x.kind==1)=true:=by simpa using hk1
     rw [show conP (strmsP L) x=(ct,er) by rw [←Hcc.out];unfold contOf;rw [if_pos hk1]] at Hco
     dsimp only at Hco
     clear hk1 Hcc
     go_wp2_with fail
     refine (Hco.out _ M1.out.mt.ok).mono ?_
     rintro e6 w6 ⟨rfl,hb6⟩
     have M6:=Qh (M1.out.thru hb6)
     have EB6:=Qh (EB.out.thru hb6)
     clear M1 EB hb6 y0 y1 y2 y3 y4 y5 y6
     by_cases hz:er=0
     ·subst hz
      go_wp2_with fail
      go_meet
      case rel=>exact ⟨by first|rfl|trivial,by first|rfl|trivial,M6.out,EB6.out⟩
     ·have k2:(er != 0)=true:=by simpa using hz
      have Hn:=Qh (show N=([],er) by have:=Hst.out;rw [if_pos hz] at this;exact this)
      clear hz
      go_wp2
      go_ret2
      rw [Hn.out]
      exact ⟨rfl,M6.out.mt.bel⟩
    ·have k1:(x.kind==1)=false:=by simpa using hk1
     have hcc:=Hcc.out
     unfold contOf at hcc
     rw [if_neg hk1] at hcc
     injection hcc with h1 h2
     subst h1 h2
     clear hk1 Hcc
     go_wp2_with fail
     go_meet
     case rel=>exact ⟨by first|rfl|trivial,by first|rfl|trivial,M1.out,EB.out⟩
   case rest=>
    clear M1 EB y0 y1 y2 y3 y4 y5 y6 Hcc
    obtain ⟨rfl,hc0,hM,hE⟩:=hcut
    have M6:=Qh hM
    have EB6:=Qh hE
    have Hnx:=Qh (show trG (strmsP L) (t.drop (k+1)) (trK (strmsP L) t (k+1))=N by have:=Hst.out;rw [if_neg (by omega)] at this;exact this)
    clear hM hE hc0 Hst
    have hpl:(netsP [headE x,ct]).length≤68300:=by rw [←Hpc.out];exact hp3.1
    rw [Hpc.out] at Hsu
    clear hp3
    have Hns:=Qh (fun b w hv hw=>Xeu J (hI.mono Hk.out) b 0 2 2 [headE x,ct] rfl (Qn _) (by unfold maxLen;omega) w hv (by omega) hw)
    obtain ⟨y0,y1,y2,y3,y4,y5,y6⟩:=EB6.out
    go_wp2_with fail
    refine (Hhd.out _ M6.out.mt.ok).mono ?_
    rintro e7 w7 ⟨rfl,hb7⟩
    have M7:=Qh (M6.out.thru hb7)
    have HS:=Qh (Xfv w7 [headE x,ct] 9)
    clear M6 EB6 hb7 y0 y1 y2 y3 y4 y5 y6 Hhd Hco Hpc
    generalize headE x=hd at*
    go_wp2_with fail
    refine (Hns.out _ _ HS.out (M7.out.past _).mt.ok).mono ?_
    rintro e8 w8 ⟨rfl,hb8⟩
    have M8:=Qh ((M7.out.past (.cells #[S hd,S ct] 9)).thru hb8)
    clear M7 hb8 HS Hns
    generalize netsP [hd,ct]=pc at*
    go_wp2_with fail
    refine (Xxu _ (trK (strmsP L) t k) pc _ M8.out.bd (by first|omega|(simp;omega)) M8.out.lt).mono ?_
    rintro e9 w9 ⟨rfl,hbd9,hbb9,hlt9⟩
    have M9:=Qh (M8.out.put hbd9 hbb9 hlt9)
    rw [←Hsu.out] at M9
    clear M8 hbd9 hbb9 hlt9
    go_wp2
    go_roundw
    case rel=>exact ⟨k+1,by omega,by go_num,M9.out,Hnx.out⟩
    case measure=>simp [intOf];omega
  ·have Hn:=Qh (Xqu (by omega) Hr.out)
   go_wp2_with fail
   refine (Tryz.Builder_String_any _ _ _ _ M.out.bd (Nat.le_of_lt M.out.lt)).mono ?_
   rintro e1 w9 ⟨rfl,hb9⟩
   go_wp2
   go_ret2
   rw [Hn.out]
   exact ⟨rfl,M.out.mt.bel.trans (hb9.mono M.out.ge)⟩
end Go.Proofs.YtdodihnehppnmaaGreatDoor
