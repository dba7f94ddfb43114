/-
  Walks and laws that the claim's theorem uses: texts ItD, joined; comments out. Conditions: as each theorem says.
-/
import Derived.Test.YtdeknddamidldaaGreatDoorQ34
import Derived.Maps.OwnIn
namespace Go.Proofs.YtdeknddamidldaaGreatDoor
open Go.RowKit Go.Shelf
attribute [local go_sem] Oper.semAt_some
structure VrM (Tp Tv Ts:TypeId) (m:Nat) (p:Bytes) (J:IH) (W:World) (s:Stt) (out:List Ver) (vt vh vo:Value):Prop where
 pb:W.heap[m]? =some (.cells #[S p] Tp (0,0))
 ob:W.heap[m+1]? =some (.cells #[vo] Tv (0,0))
 st:StM Ts (m+2) J W s vt vh
 gv:OwnS tVer 43 J W m vo out
 n0:vo.ownBlock≠some m
 n1:vo.ownBlock≠some (m+1)
 n2:vo.ownBlock≠some (m+2)
 apart:∀g,vo.ownBlock=some g→J g=none
 f0:J m=none
 f1:J (m+1)=none
section
variable {Tp Tv Ts:TypeId} {m:Nat} {p:Bytes} {J J':IH} {W W':World} {s s':Stt} {out out':List Ver} {vt vh vt' vh' vo vo':Value}
theorem VrM.lt (h:VrM Tp Tv Ts m p J W s out vt vh vo):m+2<W.heap.size:=h.st.lt
theorem VrM.cp (h:VrM Tp Tv Ts m p J W s out vt vh vo):W.cell? ⟨m,0,none⟩=some (S p):=(cell_of_row W _ 0 _ _ _ h.pb).trans rfl
theorem VrM.co (h:VrM Tp Tv Ts m p J W s out vt vh vo):W.cell? ⟨m+1,0,none⟩=some vo:=(cell_of_row W _ 0 _ _ _ h.ob).trans rfl
theorem VrM.fo (h:VrM Tp Tv Ts m p J W s out vt vh vo):W.frozen? ⟨m+1,0,none⟩=false:=frozen_of_row W _ 0 _ _ h.ob
theorem VrM.below (h:VrM Tp Tv Ts m p J W s out vt vh vo) (hb:Below W.heap.size W W'):VrM Tp Tv Ts m p J W' s out vt vh vo:=
 ⟨(hb.block _ (by have:=h.lt;omega)).trans h.pb,(hb.block _ (by have:=h.lt;omega)).trans h.ob,h.st.below hb,h.gv.below hb,h.n0,h.n1,h.n2,h.apart,h.f0,h.f1⟩
theorem VrM.past (h:VrM Tp Tv Ts m p J W s out vt vh vo) (o:Obj):VrM Tp Tv Ts m p J (W.alloc o) s out vt vh vo:=h.below ((Qb _ _).alloc (Qn _) o)
theorem VrM.ext (h:VrM Tp Tv Ts m p J W s out vt vh vo) (hb:Below W.heap.size W W') (hx:Ext W.heap.size J J') (hok:Ok J' W'):VrM Tp Tv Ts m p J' W' s out vt vh vo:=
 ⟨(hb.block _ (by have:=h.lt;omega)).trans h.pb,(hb.block _ (by have:=h.lt;omega)).trans h.ob,h.st.ext hb hx hok,(h.gv.below hb).mono (hx.keep h.st.ok (Qn _)),h.n0,h.n1,h.n2,
  fun g hg=>(hx g (Xjq h.gv hg).2).trans (h.apart g hg),(hx _ (by have:=h.lt;omega)).trans h.f0,(hx _ (by have:=h.lt;omega)).trans h.f1⟩
theorem OwnS.set {α:Type} {T:Ty α} {E:TypeId} {I:IH} {w:World} {B:Nat} {v:Value} {l:List α} (h:OwnS T E I w B v l) {n j:Nat} (hn:v.ownBlock≠some n) (u:Value):OwnS T E I (w.setCell ⟨n,j,none⟩ u) B v l:=
 h.kept (row:=some n) ⟨rfl,rfl,rfl,by simp,fun k _ hk=>heap_setCell_other w ⟨n,j,none⟩ k u (fun e=>hk (by simp [e]))⟩ (.inr hn)
theorem VrM.setS (h:VrM Tp Tv Ts m p J W s out vt vh vo) (h1:RdS tEnt J vt' s'.tree) (h2:RdS tHo J vh' s'.holds):VrM Tp Tv Ts m p J ((W.setCell ⟨m+2,0,none⟩ vt').setCell ⟨m+2,1,none⟩ vh') s' out vt' vh' vo:=by
 have k:∀b,b≠m+2→((W.setCell ⟨m+2,0,none⟩ vt').setCell ⟨m+2,1,none⟩ vh').heap[b]? =W.heap[b]? :=fun b hb=>(Below.heap_setCell _ _ _ _ hb).trans (Below.heap_setCell _ _ _ _ hb)
 exact ⟨(k _ (by omega)).trans h.pb,(k _ (by omega)).trans h.ob,h.st.set h1 h2,(h.gv.set h.n2 _).set h.n2 _,h.n0,h.n1,h.n2,h.apart,h.f0,h.f1⟩
theorem VrM.turn {row:Option Nat} (h:VrM Tp Tv Ts m p J W s out vt vh vo) (hg:W.grownBy W' row) (hr:∀r,row=some r→ ∃o:Obj,W.heap[r]? =some o∧o.isCells=false):VrM Tp Tv Ts m p J W' s out vt vh vo:=by
 refine ⟨Xez h.pb hg hr,Xez h.ob hg hr,h.st.turn hg hr,h.gv.kept hg ?_,h.n0,h.n1,h.n2,h.apart,h.f0,h.f1⟩
 obtain ⟨xs,⟨_,h1⟩,_⟩:=h.gv
 rcases h1 with ⟨h2,_⟩|⟨g,cap,cur,rfl,_,hcur,_⟩
 ·left;rw [h2];rfl
 ·right
  intro e
  exact Xgr hcur hr e.symm
theorem VrM.added (h:VrM Tp Tv Ts m p J W s out vt vh vo) (ho:OwnS tVer 43 J W' m vo' out') (hg:W.grownBy W' vo.ownBlock) (hl:∀g,vo'.ownBlock=some g→vo.ownBlock=some g∨W.heap.size≤g):
 VrM Tp Tv Ts m p J (W'.setCell ⟨m+1,0,none⟩ vo') s out' vt vh vo':=by
 have hlt:=h.lt
 have e:∀b,b<W.heap.size→vo.ownBlock≠some b→b≠m+1→(W'.setCell ⟨m+1,0,none⟩ vo').heap[b]? =W.heap[b]? :=fun b hb hn hb1=>(Below.heap_setCell _ _ _ _ hb1).trans (hg.block _ hb (fun q=>hn q.symm))
 have ne:∀b,b<W.heap.size→vo.ownBlock≠some b→vo'.ownBlock≠some b:=fun b hb hn q=>by
  rcases hl _ q with h1|h1
  ·exact hn h1
  ·omega
 have hok:Ok J W':=h.st.ok.grown hg fun g hk=>h.apart g hk
 refine ⟨(e _ (by omega) h.n0 (by omega)).trans h.pb,heap_setCell_same W' (m+1) 0 _ _ vo' ((hg.block _ (by omega) (fun q=>h.n1 q.symm)).trans h.ob),?_,ho.set (ne _ (by omega) h.n1) _,ne _ (by omega) h.n0,ne _ (by omega) h.n1,ne _ (by omega) h.n2,fun g hk=> ?_,h.f0,h.f1⟩
 ·exact ⟨(e _ (by omega) h.n2 (by omega)).trans h.st.row,h.st.tree,h.st.holds,hok.setCell h.f1 _,h.st.free⟩
 ·rcases hl g hk with h1|h1
  ·exact h.apart g h1
  ·exact h.st.ok.fresh h1
end
def VerI (Tp Tv Ts:TypeId) (m:Nat) (p:Bytes) (I:IH) (w:World) (s:Stt) (out:List Ver) (W:World):Prop:= ∃vt vh vo J,VrM Tp Tv Ts m p J W s out vt vh vo∧Ext m I J∧Below m w W
theorem Xsu {Tp Tv Ts:TypeId} {m B:Nat} {p:Bytes} {I:IH} {w:World} {β:Type} (f:β→Stt) (g:β→List Ver) (hm:m≤w.heap.size) (hB:m≤B):OwnFrom B (fun b W=>VerI Tp Tv Ts m p I w (f b) (g b) W):=by
 intro b W W' row ⟨vt,vh,vo,J,h1,h3,h4⟩ hg hr
 exact ⟨vt,vh,vo,J,h1.turn hg fun r e=>(hr r e).2,h3,Below.turn h4 hm hB hg hr⟩
theorem Xcm {α:Type} {T:Ty α} {I:IH} {F:Fence} {nF:Nat} {P:Program} {ts te:TypeId} {bytes:Nat} (hE:ElemOk P ts te T bytes) {w0:World} {ops:Array Oper} {rest:List Oper} {o:Oper} {a:Act} {Q:Exit→Act→World→Prop} (hgd:o.guard=none) (s x:Operand)
 (ho:o.op= .call { callee:= .builtin .append,args:= #[s,x],argTypes:= #[ts,ts] }) (B:Nat) (v:Value) (l:List α) (hs:a.eval s=v) (hown:OwnS T te I w0 B v l)
 (y:α) (cs:List Value) (tb:TypeId) (hx:a.eval x= .slice (some ⟨w0.heap.size,0,none⟩) 1 1) (hy:T.rd I cs y) (hbig:(l.length+1)*bytes≤140737488355328) (hl:l.length+1≤9223372036854775807) (hB:B≤w0.heap.size)
 (h:∀v' w',OwnS T te I w' B v' (l++ [y])→w0.grownBy w' v.ownBlock→(∀g,v'.ownBlock=some g→v.ownBlock=some g∨w0.heap.size≤g)→wpListIn F nF P ops Q rest (a.put o.dst v') w'):wpListIn F nF P ops Q (o::rest) a (w0.alloc (.cells cs.toArray tb)):=by
 obtain ⟨i,z,h1,h2,h3,h4,h5,h6,h7⟩:=hE
 obtain ⟨xs,k1,k2⟩:=hown
 refine wpListIn_append_own_at (w0.alloc (.cells cs.toArray tb)) hgd s x ts ho B te i z T.size bytes h1 h2 h3 h4 h5 h6 h7 v l.length xs hs (k1.alloc _) ⟨w0.heap.size,0,none⟩ 1 1 cs hx (by rw [T.len hy,Nat.one_mul])
  (fun j u hu=>by rw [Addr.add_lit,Nat.zero_add,World.cell?_alloc_new];simpa using hu) (T.one hy) (by unfold maxLen;omega) hbig (by simp;omega) (fun v' w' r1 r2 _ r4=>h v' w' ⟨xs++cs,by rw [List.length_append];exact r1,k2.append (LiesL.one hy)⟩ ?_ ?_)
 ·exact ⟨r2.os,r2.tape,r2.output,by have:=r2.size;simp at this;omega,fun k hk hne=>(r2.block k (by simp;omega) hne).trans (Below.heap_alloc _ _ _ hk)⟩
 ·intro g hg
  rcases r4 with r4|r4
  ·exact .inl (r4▸hg)
  ·rw [r4] at hg
   simp at hg
   exact .inr (by omega)
theorem Xe7 {α:Type} {T:Ty α} {E:TypeId} {I:IH} {w:World} {B:Nat} {v:Value} {l:List α} (h:OwnS T E I w B v l) {g:Nat} (hg:v.ownBlock=some g):B≤g∧ ∃cur,w.heap[g]? =some (.cells cur E (0,0)):=by
 obtain ⟨xs,⟨_,h1⟩,_⟩:=h
 rcases h1 with ⟨h2,_⟩|⟨g',cap,cur,rfl,hB,hcur,_⟩
 ·rw [h2] at hg;cases hg
 ·have e:g'=g:=by simpa [Value.ownBlock] using hg
  subst e
  exact ⟨hB,cur,hcur⟩
theorem Xq6 {α:Type} {T:Ty α} {E E':TypeId} {I:IH} {w:World} {B b:Nat} {v:Value} {l:List α} {c:Array Value} {f:Nat × Nat} (h:OwnS T E I w B v l) (hb:w.heap[b]? =some (.cells c E' f)) (hT:E'≠E):v.ownBlock≠some b:=fun e=>by
 obtain ⟨_,cur,hc⟩:=Xe7 h e
 rw [hb] at hc
 cases hc
 exact hT rfl
theorem KeepsFrom.own {α:Type} {T:Ty α} {E:TypeId} {I:IH} {W W':World} {B B':Nat} {v:Value} {l:List α} (h:OwnS T E I W B v l) (hg:W.grownBy W' v.ownBlock):KeepsFrom B' W W':=
 ⟨hg.size,fun k o _ hk ho=>(hg.block k (Array.getElem?_eq_some_iff.1 hk).1 (fun e=>by
   obtain ⟨_,cur,hc⟩:=Xe7 h e.symm
   rw [hk] at hc
   cases hc
   cases ho)).trans hk⟩
structure VqS (Tp Tv Ts T1 T2:TypeId) (m B:Nat) (p:Bytes) (J:IH) (y:YP) (b:Nat) (w W Wc:World) (s:Stt) (out:List Ver) (vt vh vo:Value):Prop where
 vm:VrM Tp Tv Ts m p J Wc s out vt vh vo
 ax:AxR T1 T2 (m+2) y b Wc
 kf:KeepsFrom B W Wc
 kk:KpS m 47 W Wc
 bl:Below m w Wc
section
variable {Tp Tv Ts T1 T2:TypeId} {m B:Nat} {p:Bytes} {J J':IH} {y:YP} {b:Nat} {w W Wc W':World} {s s':Stt} {out out':List Ver} {vt vh vt' vh' vo vo':Value}
theorem AxR.below (h:AxR T1 T2 m y b W) (hb:Below W.heap.size W W'):AxR T1 T2 m y b W':=
 ⟨h.lt,(hb.block _ (Array.getElem?_eq_some_iff.1 h.s).1).trans h.s,(hb.block _ (Array.getElem?_eq_some_iff.1 h.e).1).trans h.e⟩
theorem VqS.size (h:VqS Tp Tv Ts T1 T2 m B p J y b w W Wc s out vt vh vo):m≤Wc.heap.size:=by have:=h.vm.lt;omega
theorem VqS.below (h:VqS Tp Tv Ts T1 T2 m B p J y b w W Wc s out vt vh vo) (hb:Below Wc.heap.size Wc W'):VqS Tp Tv Ts T1 T2 m B p J y b w W W' s out vt vh vo:=
 ⟨h.vm.below hb,h.ax.below hb,h.kf.trans (KeepsFrom.of_below hb),h.kk.trans (KpS.of_below hb h.size),h.bl.trans (hb.mono h.size)⟩
theorem VqS.ext (h:VqS Tp Tv Ts T1 T2 m B p J y b w W Wc s out vt vh vo) (hb:Below Wc.heap.size Wc W') (hx:Ext Wc.heap.size J J') (hok:Ok J' W'):VqS Tp Tv Ts T1 T2 m B p J' y b w W W' s out vt vh vo:=
 ⟨h.vm.ext hb hx hok,h.ax.below hb,h.kf.trans (KeepsFrom.of_below hb),h.kk.trans (KpS.of_below hb h.size),h.bl.trans (hb.mono h.size)⟩
theorem VqS.added (h:VqS Tp Tv Ts T1 T2 m B p J y b w W Wc s out vt vh vo) (ho:OwnS tVer 43 J W' m vo' out') (hg:Wc.grownBy W' vo.ownBlock) (hl:∀g,vo'.ownBlock=some g→vo.ownBlock=some g∨Wc.heap.size≤g)
 (h1:T1≠43) (h2:T2≠43) (h3:Tv≠47):VqS Tp Tv Ts T1 T2 m B p J y b w W (W'.setCell ⟨m+1,0,none⟩ vo') s out' vt vh vo':=by
 have hlt:=h.vm.lt
 have hax:=h.ax.lt
 have e1:W'.heap[b]? =Wc.heap[b]? :=hg.block _ (Array.getElem?_eq_some_iff.1 h.ax.s).1 (fun e=>Xq6 h.vm.gv h.ax.s h1 e.symm)
 have e2:W'.heap[b+1]? =Wc.heap[b+1]? :=hg.block _ (Array.getElem?_eq_some_iff.1 h.ax.e).1 (fun e=>Xq6 h.vm.gv h.ax.e h2 e.symm)
 have e3:W'.heap[m+1]? =some (.cells #[vo] Tv (0,0)):=(hg.block _ (by omega) (fun e=>h.vm.n1 e.symm)).trans h.vm.ob
 refine ⟨h.vm.added ho hg hl,⟨h.ax.lt,?_,?_⟩,?_,?_,?_⟩
 ·exact (Below.heap_setCell W' ⟨m+1,0,none⟩ vo' b (by show b≠m+1;omega)).trans (e1.trans h.ax.s)
 ·exact (Below.heap_setCell W' ⟨m+1,0,none⟩ vo' (b+1) (by show b+1≠m+1;omega)).trans (e2.trans h.ax.e)
 ·exact h.kf.trans ((KeepsFrom.own h.vm.gv hg).trans (KeepsFrom.setCellK W' ⟨m+1,0,none⟩ vo'))
 ·refine h.kk.trans ((KpS.grown hg h.size fun g hk=> ?_).trans (KpS.setCell e3 h3 (Nat.le_succ _) 0 vo'))
  obtain ⟨h5,cur,h6⟩:=Xe7 h.vm.gv hk
  exact ⟨h5,fun c f h7=>by rw [h6] at h7;cases h7⟩
 ·exact (h.bl.grown hg h.size (fun k hk=>(Xe7 h.vm.gv hk).1)).setCell (p:=⟨m+1,0,none⟩) (Nat.le_succ _) vo'
theorem VqS.post (h:VqS Tp Tv Ts T1 T2 m B p J y b w W Wc s out vt vh vo) (h1:RdS tEnt J vt' s'.tree) (h2:RdS tHo J vh' s'.holds) (h3:Ts≠47) {I:IH} (hx:Ext m I J):
 KeepsFrom B W ((Wc.setCell ⟨m+2,0,none⟩ vt').setCell ⟨m+2,1,none⟩ vh')∧KpS m 47 W ((Wc.setCell ⟨m+2,0,none⟩ vt').setCell ⟨m+2,1,none⟩ vh')∧VerI Tp Tv Ts m p I w s' out ((Wc.setCell ⟨m+2,0,none⟩ vt').setCell ⟨m+2,1,none⟩ vh'):=
 ⟨h.kf.trans ((KeepsFrom.setCellK Wc ⟨m+2,0,none⟩ vt').trans (KeepsFrom.setCellK _ ⟨m+2,1,none⟩ vh')),
  h.kk.trans ((KpS.setCell h.vm.st.row h3 (by omega) 0 vt').trans (KpS.setCell (heap_setCell_same Wc (m+2) 0 _ _ vt' h.vm.st.row) h3 (by omega) 1 vh')),
  vt',vh',vo,J,h.vm.setS h1 h2,hx,(h.bl.setCell (p:=⟨m+2,0,none⟩) (show m≤m+2 by omega) vt').setCell (p:=⟨m+2,1,none⟩) (show m≤m+2 by omega) vh'⟩
end
set_option maxRecDepth 100000 in
set_option maxHeartbeats 4000000 in
theorem Xcj (I:IH) (hI:Glob I) (v:Value) (L:List Ses) (hv:RdS tSes I v L) (hg:∀x∈L,SesG x) (hL:L.length≤1000) (hk1:∀x∈L,∀e∈x.ents,1≤e.kind) (p:Bytes) (hp:p.length≤4294967280) (w:World) (hw:Ok I w):
 Calls Tryz.prog 17 #[v,S p] w (RetS tVer I w (verP L p)):=by
 obtain ⟨ao,cap,rfl,_,_,_⟩:=id hv
 have Hv:=Qh hv
 have Hg:=Qh hg
 have HI:=Qh hI
 have Hk1:=Qh hk1
 clear hv hg hI hk1
 refine (callsIn_wide (n:=3)).1 ?_
 refine callsIn_of_wp_marks Tryz.func17 rfl trivial ?_ rfl
 simp only [Tryz.ntmps17,List.size_toArray,List.length_cons,List.length_nil,Nat.reduceAdd,Nat.reduceSub,Array.replicate_succ,Array.replicate_zero,List.push_toArray,List.append_toArray,List.nil_append,List.cons_append]
 gi_wp2_with (refine ⟨trivial,?_⟩;gi_at_call 38;refine (callsIn_wide.2 (Xi1 _ _ ⟨_,_,_,rfl⟩)).mono ?_;rintro e w' ⟨rfl,rfl⟩)
 obtain ⟨W0,hW0⟩:∃W0,((((w.alloc (.cells #[S p] 9)).alloc (.cells #[.slice none 0 0] 30)).alloc (.cells #[.slice none 0 0,.slice none 0 0] 64)).alloc (.cells #[.slice ao L.length cap] 22))=W0:=⟨_,rfl⟩
 have A0:=((((MAt.start hw).past (.cells #[S p] 9)).past (.cells #[.slice none 0 0] 30)).past (.cells #[.slice none 0 0,.slice none 0 0] 64)).past (.cells #[.slice ao L.length cap] 22)
 have r0:W0.heap[w.heap.size]? =some (.cells #[S p] 9 (0,0)):=by
  rw [←hW0]
  exact (Below.heap_alloc _ _ _ (by simp;omega)).trans ((Below.heap_alloc _ _ _ (by simp;omega)).trans ((Below.heap_alloc _ _ _ (by simp)).trans (heap_alloc_new w _)))
 have r1:W0.heap[w.heap.size+1]? =some (.cells #[.slice none 0 0] 30 (0,0)):=by
  rw [←hW0]
  have h:=heap_alloc_new (w.alloc (.cells #[S p] 9)) (.cells #[.slice none 0 0] 30)
  rw [World.size_alloc] at h
  exact (Below.heap_alloc _ _ _ (by simp)).trans ((Below.heap_alloc _ _ _ (by simp)).trans h)
 have r2:W0.heap[w.heap.size+2]? =some (.cells #[.slice none 0 0,.slice none 0 0] 64 (0,0)):=by
  rw [←hW0]
  have h:=heap_alloc_new ((w.alloc (.cells #[S p] 9)).alloc (.cells #[.slice none 0 0] 30)) (.cells #[.slice none 0 0,.slice none 0 0] 64)
  rw [World.size_alloc,World.size_alloc] at h
  exact (Below.heap_alloc _ _ _ (by simp)).trans h
 have r3:W0.cell? ⟨w.heap.size+3,0,none⟩=some (.slice ao L.length cap):=by
  rw [←hW0]
  have h:=heap_alloc_new (((w.alloc (.cells #[S p] 9)).alloc (.cells #[.slice none 0 0] 30)).alloc (.cells #[.slice none 0 0,.slice none 0 0] 64)) (.cells #[.slice ao L.length cap] 22)
  rw [World.size_alloc,World.size_alloc,World.size_alloc] at h
  exact (cell_of_row _ _ 0 _ _ _ h).trans rfl
 have hsz:W0.heap.size=w.heap.size+4:=by rw [←hW0];simp
 rw [hW0] at A0 ⊢
 clear hW0
 have H2:=Qh (show VrM 9 30 64 w.heap.size p I W0 nilS [] (.slice none 0 0) (.slice none 0 0) (.slice none 0 0) from
  ⟨r0,r1,⟨r2,RdS.nil _ _,RdS.nil _ _,A0.ok,hw.fresh (by omega)⟩,OwnS.nil _ _ _ _ _,by simp [Value.ownBlock],by simp [Value.ownBlock],by simp [Value.ownBlock],fun g h=>by simp [Value.ownBlock] at h,hw.fresh (Qn _),hw.fresh (by omega)⟩)
 refine wpIn_rangeFunc_ownH rfl (by decide) (gf:=65) (lb:= #[.pointer (some ⟨w.heap.size+1+1+1,0,none⟩)]) rfl trivial (enters_of Tryz.func65 (by kernel_rfl) rfl)
  (Xof _ (by decide) I _ L Hv.out Hg.out hL (w.heap.size+1+1+1) w.heap.size W0 A0.ok (fun b c h=>hw.lt h) (by omega) r3) KpS.trans (KpS.put (by omega)) (Qb _ _) (fun _=>rfl)
  (fun pre W=>VerI 9 30 64 w.heap.size p I w ((keys pre).foldl stq nilS) (verQ p nilS (keys pre)) W)
  (fun _ _ _=>False)
  (Xsu _ _ (Qn _) (by omega))
  (fun _ _ _ _ _ hs _ _=>hs)
  ⟨_,_,_,I,H2.out,Ext.refl _ _,A0.bel⟩
  (fun x a' W=> ∃Bx,AxR 47 39 (w.heap.size+2) x.1 Bx W∧a'= { tmps:= #[.slice ao L.length cap,S p,undef,.pointer (some ⟨w.heap.size,0,none⟩),.slice none 0 0,.pointer (some ⟨w.heap.size+1,0,none⟩),.pointer (some ⟨w.heap.size+1+1,0,none⟩),.pointer (some ⟨Bx,0,none⟩),.pointer (some ⟨Bx+1,0,none⟩),undef,.slice ao L.length cap,.func (.func 65) #[] #[.pointer (some ⟨w.heap.size+1+1+1,0,none⟩)],sesV x.1.s x.1.ve,entV x.1.e x.1.va x.1.vx,undef,undef,undef,undef,undef,undef,undef,undef,undef,undef,undef,undef,undef,undef,undef,undef,undef,undef,undef,undef,undef,undef,undef,undef,undef,undef,undef,undef,undef,undef,undef,undef,undef,undef,undef,undef,undef,undef,undef,undef,undef,undef,undef],defers:= [] })
  (fun x a' _ X Y row hs hg hr=>by obtain ⟨Bx,h1,h2⟩:=hs;exact ⟨Bx,h1.turn hg (fun r e=>(hr r e).2),h2⟩)
  ?assign ?body ?done ?stop
 case assign=>
  rintro l pre x W K ⟨vt,vh,vo,J,h1,h3,h4⟩ hK
  obtain ⟨⟨s,e,ve,va,vx⟩,hx⟩:=x
  have g1:=hx.ve
  have g2:=hx.va
  have g3:=hx.vx
  dsimp only at g1 g2 g3
  obtain ⟨oe,ce,rfl,_,_,_⟩:=id g1
  obtain ⟨oa,ca,rfl,_,_,_⟩:=id g2
  obtain ⟨ox,cx,rfl,_,_,_⟩:=id g3
  clear g1 g2 g3
  dsimp only [YS.enc,sesV,entV]
  gi_wp2
  have hsz1:=h4.size
  have hlt:=h1.lt
  refine hK _ _ (KeepsFrom.of_below (((Qb _ W).alloc (Qn _) _).alloc (by simp) _)) ((KpS.alloc hsz1 _).trans (KpS.alloc (by simp;omega) _)) ⟨_,_,_,J,(h1.past _).past _,h3,(h4.alloc hsz1 _).alloc (by simp;omega) _⟩ ⟨W.heap.size,⟨hlt,(Below.heap_alloc _ _ _ (by simp)).trans (heap_alloc_new W _),?_⟩,rfl⟩
  have h:=heap_alloc_new (W.alloc (.cells #[.int .i64 s.num,.int .i64 s.date,S s.prev,.slice oe s.ents.length ce,S s.stream,S s.sl] 47)) (.cells #[.int .i64 e.kind,S e.path,.slice oa e.attrs.length ca,S e.target,.int .i64 e.size,S e.digest,.slice ox e.exts.length cx] 39)
  simpa using h
 case body=>
  rintro l pre x a' w1 _ _ ⟨vt,vh,vo,J,h1,h3,h4⟩ ⟨Bx,hax,rfl⟩ hpl
  obtain ⟨⟨s,e,ve,va,vx⟩,hx⟩:=x
  have g1:=hx.ve
  have g2:=hx.va
  have g3:=hx.vx
  have gg:=hx.g
  have gm:=hx.mem
  have gk:=Hk1.out _ hx.ses e hx.mem
  have gks:=Xhr pre ⟨_,hx⟩
  dsimp only at g1 g2 g3 gg gm gks hax
  obtain ⟨oe,ce,rfl,_,_,_⟩:=id g1
  obtain ⟨oa,ca,rfl,_,_,_⟩:=id g2
  obtain ⟨ox,cx,rfl,_,_,_⟩:=id g3
  obtain ⟨t1,tc1,rfl,_,_,_⟩:=id h1.st.tree
  obtain ⟨u1,uc1,rfl,_,_,_⟩:=id h1.st.holds
  have hsk:=Xow pre
  have hkp:=h3.keep hw (Qn _)
  have htl:=hsk.ok.tlen
  have hhl:=hsk.ok.hlen
  have hpy:=gg.path e gm
  have hty:=gg.target e gm
  have hvl:=Xn4 p (keys pre) nilS
  rw [Xju] at hvl
  have Hfs:=Qh (show (keys (pre++ [⟨_,hx⟩])).foldl stq nilS=(stpP ((keys pre).foldl stq nilS) e s.date).1 by rw [gks,Xls])
  have Hout0:=Qh (show verQ p nilS (keys (pre++ [⟨_,hx⟩]))=verQ p nilS (keys pre)++if verHit ((keys pre).foldl stq nilS) p e then [⟨s.num,s.date,e⟩] else [] by rw [gks,Xej,Xst])
  have HIJ:=Qh (HI.out.mono hkp)
  have G2:=Qh (g2.mono hkp)
  have G3:=Qh (g3.mono hkp)
  have Hap:=Qh (fun W hW=>Xjw J HIJ.out ((keys pre).foldl stq nilS) _ _ h1.st.tree h1.st.holds hsk.sml hsk.ok.tree.srt (by omega) hsk.ok.holds (by omega) e _ _ G2.out G3.out (gg.wf e gm) (by omega) (by omega) s.date W hW)
  have Hha:=Qh (fun W hW=>Xog J _ _ ((keys pre).foldl stq nilS).tree ((keys pre).foldl stq nilS).holds h1.st.tree h1.st.holds p W hW)
  have Hgb:=Qh (Xc9 ((keys pre).foldl stq nilS).tree p)
  have Hun:=Qh (fun W hW=>Xgl J HIJ.out p e.path hp (by omega) W hW)
  generalize hb:(getE ((keys pre).foldl stq nilS).tree p).2=gb at Hha Hgb
  generalize (keys pre).foldl stq nilS=s0 at h1 hsk htl hhl Hap Hfs Hout0 Hha Hgb
  generalize verQ p nilS (keys pre)=out at h1 hvl Hout0
  obtain ⟨s2,er3,hs2⟩:∃s2 er3,stpP s0 e s.date=(s2,er3):=⟨_,_,rfl⟩
  rw [hs2] at Hap Hfs
  have Hcc:=Qh (fun W=>Xcb J e _ _ G2.out G3.out W)
  have H3:=Qh h3
  have V1:=Qh (show VqS 9 30 64 47 39 w.heap.size W0.heap.size p J _ Bx w w1 w1 s0 out _ _ vo from ⟨h1,hax,KeepsFrom.refl _ _,KpS.refl _,h4⟩)
  have cp:=V1.out.vm.cp
  have co:=V1.out.vm.co
  have c0:=V1.out.vm.st.c0
  have c1:=V1.out.vm.st.c1
  obtain ⟨b0,b1,b2,b3,b4,b5⟩:=sesB_row V1.out.ax.s
  obtain ⟨x0,x1,x2,x3,x4,x5,x6⟩:=entB_row V1.out.ax.e
  clear g1 g2 g3 gg gm gks h1 h3 h4 hsk hkp hs2 htl hhl hb hax
  by_cases hk3:e.kind≤3
  ·have Hcr:=Qh (show (e.kind==1 || e.kind==2 || e.kind==3)=true by
    have:e.kind=1∨e.kind=2∨e.kind=3:=by omega
    rcases this with h|h|h<;>rw [h]<;>rfl)
   have k4:(e.kind==4)=false:=by have:e.kind≠4:=by omega
                                 simpa using this
   by_cases hpp:e.path=p
   ·have q1:(e.path==p)=true:=by simpa using hpp
    have Hout:=Qh (show verQ p nilS (keys (pre++ [⟨_,hx⟩]))=out++ [⟨s.num,s.date,e⟩] by rw [Hout0.out,if_pos (by rw [Xgn hk3];exact q1)])
    clear hk3 hpp gk
    gi_wp2_with fail
    refine ⟨trivial,?_⟩
    gi_wp2_with fail
    refine ⟨trivial,?_⟩
    rw [Hcr.out] at Hcc
    gi_wp2_with fail
    refine ⟨trivial,(CallsIn.inRound l (callsIn_wide.2 (Hcc.out _))).mono ?_⟩
    rintro e2 w2 ⟨rfl,hb2⟩
    have V2:=Qh (V1.out.below hb2)
    clear hb2 V1 cp co c0 c1 b0 b1 b2 b3 b4 b5 x0 x1 x2 x3 x4 x5 x6
    have cp:=V2.out.vm.cp
    have co:=V2.out.vm.co
    have c0:=V2.out.vm.st.c0
    have c1:=V2.out.vm.st.c1
    obtain ⟨b0,b1,b2,b3,b4,b5⟩:=sesB_row V2.out.ax.s
    obtain ⟨x0,x1,x2,x3,x4,x5,x6⟩:=entB_row V2.out.ax.e
    gi_wp2_with (gi_at_builtin;refine Xcm (w0:=w2) Xgj rfl _ _ rfl w.heap.size vo out rfl V2.out.vm.gv (⟨s.num,s.date,e⟩:Ver) (verCs ⟨s.num,s.date,e⟩ (.slice oa e.attrs.length ca) (.slice ox e.exts.length cx)) _ (by first|rfl|simp [Act.eval]) ⟨_,_,rfl,G2.out,G3.out⟩ (by omega) (by omega) V2.out.size ?_;intro v7 w7 ho7 hg7 hl7;obtain ⟨g7,n7,k7,rfl⟩:=Xdz ho7;have co7:=Xam hg7 V2.out.vm.n1 V2.out.vm.co;have fo7:=Xj4 hg7 V2.out.vm.n1 V2.out.vm.co V2.out.vm.fo;have V3:=Qh (V2.out.added ho7 hg7 hl7 (by decide) (by decide) (by decide));clear cp co c0 c1 b0 b1 b2 b3 b4 b5 x0 x1 x2 x3 x4 x5 x6 ho7 hg7 hl7;have cp:=V3.out.vm.cp;have co:=V3.out.vm.co;have c0:=V3.out.vm.st.c0;have c1:=V3.out.vm.st.c1;obtain ⟨b0,b1,b2,b3,b4,b5⟩:=sesB_row V3.out.ax.s;obtain ⟨x0,x1,x2,x3,x4,x5,x6⟩:=entB_row V3.out.ax.e)
    gi_wp2_with fail
    refine ⟨trivial,(CallsIn.inRound l (callsIn_wide.2 (Hap.out _ V3.out.vm.st.ok))).mono ?_⟩
    rintro e9 W9 ⟨v9,v8,J9,rfl,hb9,hx9,hok9,ht9,hh9⟩
    obtain ⟨a9,d9,rfl,_,_,_⟩:=id ht9
    obtain ⟨a8,d8,rfl,_,_,_⟩:=id hh9
    have V9:=Qh (V3.out.ext hb9 hx9 hok9)
    have Hpost:=Qh (V9.out.post (s':=s2) ht9 hh9 (by decide) (H3.out.trans hx9 V3.out.size))
    clear cp co c0 c1 b0 b1 b2 b3 b4 b5 x0 x1 x2 x3 x4 x5 x6 ht9 hh9 hb9 hx9 hok9 V3
    have c0:=V9.out.vm.st.c0
    have c1:=V9.out.vm.st.c1
    have f0:=V9.out.vm.st.f0
    have f1:=V9.out.vm.st.f1
    gi_wp2
    refine ⟨Hpost.out.1,Hpost.out.2.1,?_⟩
    show VerI _ _ _ _ _ _ _ _ _ _
    rw [Hfs.out,Hout.out]
    exact Hpost.out.2.2
   ·have q1:(e.path==p)=false:=by simpa using hpp
    have Hout:=Qh (show verQ p nilS (keys (pre++ [⟨_,hx⟩]))=out by rw [Hout0.out,if_neg (by rw [Xgn hk3,q1];simp),List.append_nil])
    clear hk3 hpp gk
    gi_wp2_with fail
    refine ⟨trivial,?_⟩
    gi_wp2_with fail
    refine ⟨trivial,?_⟩
    rw [Hcr.out] at Hcc
    gi_wp2_with fail
    refine ⟨trivial,(CallsIn.inRound l (callsIn_wide.2 (Hcc.out _))).mono ?_⟩
    rintro e2 w2 ⟨rfl,hb2⟩
    have V2:=Qh (V1.out.below hb2)
    clear hb2 V1 cp co c0 c1 b0 b1 b2 b3 b4 b5 x0 x1 x2 x3 x4 x5 x6
    have cp:=V2.out.vm.cp
    have co:=V2.out.vm.co
    have c0:=V2.out.vm.st.c0
    have c1:=V2.out.vm.st.c1
    obtain ⟨b0,b1,b2,b3,b4,b5⟩:=sesB_row V2.out.ax.s
    obtain ⟨x0,x1,x2,x3,x4,x5,x6⟩:=entB_row V2.out.ax.e
    gi_wp2_with fail
    refine ⟨trivial,(CallsIn.inRound l (callsIn_wide.2 (Hap.out _ V2.out.vm.st.ok))).mono ?_⟩
    rintro e9 W9 ⟨v9,v8,J9,rfl,hb9,hx9,hok9,ht9,hh9⟩
    obtain ⟨a9,d9,rfl,_,_,_⟩:=id ht9
    obtain ⟨a8,d8,rfl,_,_,_⟩:=id hh9
    have V9:=Qh (V2.out.ext hb9 hx9 hok9)
    have Hpost:=Qh (V9.out.post (s':=s2) ht9 hh9 (by decide) (H3.out.trans hx9 V2.out.size))
    clear cp co c0 c1 b0 b1 b2 b3 b4 b5 x0 x1 x2 x3 x4 x5 x6 ht9 hh9 hb9 hx9 hok9 V2
    have c0:=V9.out.vm.st.c0
    have c1:=V9.out.vm.st.c1
    have f0:=V9.out.vm.st.f0
    have f1:=V9.out.vm.st.f1
    gi_wp2
    refine ⟨Hpost.out.1,Hpost.out.2.1,?_⟩
    show VerI _ _ _ _ _ _ _ _ _ _
    rw [Hfs.out,Hout.out]
    exact Hpost.out.2.2
  have Hcr:=Qh (show (e.kind==1 || e.kind==2 || e.kind==3)=false by
   have e1:(e.kind==1)=false:=by simpa using (show e.kind≠1 by omega)
   have e2:(e.kind==2)=false:=by simpa using (show e.kind≠2 by omega)
   have e3:(e.kind==3)=false:=by simpa using (show e.kind≠3 by omega)
   rw [e1,e2,e3];rfl)
  by_cases h4:e.kind=4
  case neg=>
   have k4:(e.kind==4)=false:=by simpa using h4
   have Hout:=Qh (show verQ p nilS (keys (pre++ [⟨_,hx⟩]))=out by rw [Hout0.out,if_neg (by rw [Xoi (by omega)];simp),List.append_nil])
   clear hk3 h4 gk
   gi_wp2_with fail
   refine ⟨trivial,?_⟩
   gi_wp2_with fail
   refine ⟨trivial,?_⟩
   rw [Hcr.out] at Hcc
   gi_wp2_with fail
   refine ⟨trivial,(CallsIn.inRound l (callsIn_wide.2 (Hcc.out _))).mono ?_⟩
   rintro e2 w2 ⟨rfl,hb2⟩
   have V2:=Qh (V1.out.below hb2)
   clear hb2 V1 cp co c0 c1 b0 b1 b2 b3 b4 b5 x0 x1 x2 x3 x4 x5 x6
   have cp:=V2.out.vm.cp
   have co:=V2.out.vm.co
   have c0:=V2.out.vm.st.c0
   have c1:=V2.out.vm.st.c1
   obtain ⟨b0,b1,b2,b3,b4,b5⟩:=sesB_row V2.out.ax.s
   obtain ⟨x0,x1,x2,x3,x4,x5,x6⟩:=entB_row V2.out.ax.e
   gi_wp2_with fail
   refine ⟨trivial,(CallsIn.inRound l (callsIn_wide.2 (Hap.out _ V2.out.vm.st.ok))).mono ?_⟩
   rintro e9 W9 ⟨v9,v8,J9,rfl,hb9,hx9,hok9,ht9,hh9⟩
   obtain ⟨a9,d9,rfl,_,_,_⟩:=id ht9
   obtain ⟨a8,d8,rfl,_,_,_⟩:=id hh9
   have V9:=Qh (V2.out.ext hb9 hx9 hok9)
   have Hpost:=Qh (V9.out.post (s':=s2) ht9 hh9 (by decide) (H3.out.trans hx9 V2.out.size))
   clear cp co c0 c1 b0 b1 b2 b3 b4 b5 x0 x1 x2 x3 x4 x5 x6 ht9 hh9 hb9 hx9 hok9 V2
   have c0:=V9.out.vm.st.c0
   have c1:=V9.out.vm.st.c1
   have f0:=V9.out.vm.st.f0
   have f1:=V9.out.vm.st.f1
   gi_wp2
   refine ⟨Hpost.out.1,Hpost.out.2.1,?_⟩
   show VerI _ _ _ _ _ _ _ _ _ _
   rw [Hfs.out,Hout.out]
   exact Hpost.out.2.2
  have k4:(e.kind==4)=true:=by simpa using h4
  cases gb with
  |false=>
   have Hout:=Qh (show verQ p nilS (keys (pre++ [⟨_,hx⟩]))=out by rw [Hout0.out,if_neg (by rw [Xj1 h4,←Hgb.out];simp),List.append_nil])
   clear hk3 h4 gk
   gi_wp2_with fail
   refine ⟨trivial,(CallsIn.inRound l (callsIn_wide.2 (Hha.out _ V1.out.vm.st.ok))).mono ?_⟩
   rintro e2 w2 ⟨rfl,hb2⟩
   have V2:=Qh (V1.out.below hb2)
   clear hb2 V1 cp co c0 c1 b0 b1 b2 b3 b4 b5 x0 x1 x2 x3 x4 x5 x6
   have cp:=V2.out.vm.cp
   have co:=V2.out.vm.co
   have c0:=V2.out.vm.st.c0
   have c1:=V2.out.vm.st.c1
   obtain ⟨b0,b1,b2,b3,b4,b5⟩:=sesB_row V2.out.ax.s
   obtain ⟨x0,x1,x2,x3,x4,x5,x6⟩:=entB_row V2.out.ax.e
   gi_wp2_with fail
   refine ⟨trivial,?_⟩
   rw [Hcr.out] at Hcc
   gi_wp2_with fail
   refine ⟨trivial,(CallsIn.inRound l (callsIn_wide.2 (Hcc.out _))).mono ?_⟩
   rintro e3 w3 ⟨rfl,hb3⟩
   have V3:=Qh (V2.out.below hb3)
   clear hb3 V2 cp co c0 c1 b0 b1 b2 b3 b4 b5 x0 x1 x2 x3 x4 x5 x6
   have cp:=V3.out.vm.cp
   have co:=V3.out.vm.co
   have c0:=V3.out.vm.st.c0
   have c1:=V3.out.vm.st.c1
   obtain ⟨b0,b1,b2,b3,b4,b5⟩:=sesB_row V3.out.ax.s
   obtain ⟨x0,x1,x2,x3,x4,x5,x6⟩:=entB_row V3.out.ax.e
   gi_wp2_with fail
   refine ⟨trivial,(CallsIn.inRound l (callsIn_wide.2 (Hap.out _ V3.out.vm.st.ok))).mono ?_⟩
   rintro e9 W9 ⟨v9,v8,J9,rfl,hb9,hx9,hok9,ht9,hh9⟩
   obtain ⟨a9,d9,rfl,_,_,_⟩:=id ht9
   obtain ⟨a8,d8,rfl,_,_,_⟩:=id hh9
   have V9:=Qh (V3.out.ext hb9 hx9 hok9)
   have Hpost:=Qh (V9.out.post (s':=s2) ht9 hh9 (by decide) (H3.out.trans hx9 V3.out.size))
   clear cp co c0 c1 b0 b1 b2 b3 b4 b5 x0 x1 x2 x3 x4 x5 x6 ht9 hh9 hb9 hx9 hok9 V3
   have c0:=V9.out.vm.st.c0
   have c1:=V9.out.vm.st.c1
   have f0:=V9.out.vm.st.f0
   have f1:=V9.out.vm.st.f1
   gi_wp2
   refine ⟨Hpost.out.1,Hpost.out.2.1,?_⟩
   show VerI _ _ _ _ _ _ _ _ _ _
   rw [Hfs.out,Hout.out]
   exact Hpost.out.2.2
  |true=>
   have Hout1:=Qh (show verQ p nilS (keys (pre++ [⟨_,hx⟩]))=out++if under p e.path then [⟨s.num,s.date,e⟩] else [] by rw [Hout0.out,Xj1 h4,←Hgb.out];rfl)
   clear hk3 h4 gk
   gi_wp2_with fail
   refine ⟨trivial,(CallsIn.inRound l (callsIn_wide.2 (Hha.out _ V1.out.vm.st.ok))).mono ?_⟩
   rintro e2 w2 ⟨rfl,hb2⟩
   have V2:=Qh (V1.out.below hb2)
   clear hb2 V1 cp co c0 c1 b0 b1 b2 b3 b4 b5 x0 x1 x2 x3 x4 x5 x6
   have cp:=V2.out.vm.cp
   have co:=V2.out.vm.co
   have c0:=V2.out.vm.st.c0
   have c1:=V2.out.vm.st.c1
   obtain ⟨b0,b1,b2,b3,b4,b5⟩:=sesB_row V2.out.ax.s
   obtain ⟨x0,x1,x2,x3,x4,x5,x6⟩:=entB_row V2.out.ax.e
   gi_wp2_with fail
   refine ⟨trivial,(CallsIn.inRound l (callsIn_wide.2 (Hun.out _ V2.out.vm.st.ok))).mono ?_⟩
   rintro e3 w3 ⟨rfl,hb3⟩
   have V3:=Qh (V2.out.below hb3)
   clear hb3 V2 cp co c0 c1 b0 b1 b2 b3 b4 b5 x0 x1 x2 x3 x4 x5 x6
   have cp:=V3.out.vm.cp
   have co:=V3.out.vm.co
   have c0:=V3.out.vm.st.c0
   have c1:=V3.out.vm.st.c1
   obtain ⟨b0,b1,b2,b3,b4,b5⟩:=sesB_row V3.out.ax.s
   obtain ⟨x0,x1,x2,x3,x4,x5,x6⟩:=entB_row V3.out.ax.e
   cases hu:under p e.path
   ·rw [hu] at Hout1
    have Hout:=Qh (show verQ p nilS (keys (pre++ [⟨_,hx⟩]))=out by rw [Hout1.out];simp)
    clear hu Hout1
    rw [Hcr.out] at Hcc
    gi_wp2_with fail
    refine ⟨trivial,(CallsIn.inRound l (callsIn_wide.2 (Hcc.out _))).mono ?_⟩
    rintro e4 w4 ⟨rfl,hb4⟩
    have V4:=Qh (V3.out.below hb4)
    clear hb4 V3 cp co c0 c1 b0 b1 b2 b3 b4 b5 x0 x1 x2 x3 x4 x5 x6
    have cp:=V4.out.vm.cp
    have co:=V4.out.vm.co
    have c0:=V4.out.vm.st.c0
    have c1:=V4.out.vm.st.c1
    obtain ⟨b0,b1,b2,b3,b4,b5⟩:=sesB_row V4.out.ax.s
    obtain ⟨x0,x1,x2,x3,x4,x5,x6⟩:=entB_row V4.out.ax.e
    gi_wp2_with fail
    refine ⟨trivial,(CallsIn.inRound l (callsIn_wide.2 (Hap.out _ V4.out.vm.st.ok))).mono ?_⟩
    rintro e9 W9 ⟨v9,v8,J9,rfl,hb9,hx9,hok9,ht9,hh9⟩
    obtain ⟨a9,d9,rfl,_,_,_⟩:=id ht9
    obtain ⟨a8,d8,rfl,_,_,_⟩:=id hh9
    have V9:=Qh (V4.out.ext hb9 hx9 hok9)
    have Hpost:=Qh (V9.out.post (s':=s2) ht9 hh9 (by decide) (H3.out.trans hx9 V4.out.size))
    clear cp co c0 c1 b0 b1 b2 b3 b4 b5 x0 x1 x2 x3 x4 x5 x6 ht9 hh9 hb9 hx9 hok9 V4
    have c0:=V9.out.vm.st.c0
    have c1:=V9.out.vm.st.c1
    have f0:=V9.out.vm.st.f0
    have f1:=V9.out.vm.st.f1
    gi_wp2
    refine ⟨Hpost.out.1,Hpost.out.2.1,?_⟩
    show VerI _ _ _ _ _ _ _ _ _ _
    rw [Hfs.out,Hout.out]
    exact Hpost.out.2.2
   ·rw [hu] at Hout1
    have Hout:=Qh (show verQ p nilS (keys (pre++ [⟨_,hx⟩]))=out++ [⟨s.num,s.date,e⟩] from Hout1.out)
    clear hu Hout1
    rw [Hcr.out] at Hcc
    gi_wp2_with fail
    refine ⟨trivial,(CallsIn.inRound l (callsIn_wide.2 (Hcc.out _))).mono ?_⟩
    rintro e4 w4 ⟨rfl,hb4⟩
    have V4:=Qh (V3.out.below hb4)
    clear hb4 V3 cp co c0 c1 b0 b1 b2 b3 b4 b5 x0 x1 x2 x3 x4 x5 x6
    have cp:=V4.out.vm.cp
    have co:=V4.out.vm.co
    have c0:=V4.out.vm.st.c0
    have c1:=V4.out.vm.st.c1
    obtain ⟨b0,b1,b2,b3,b4,b5⟩:=sesB_row V4.out.ax.s
    obtain ⟨x0,x1,x2,x3,x4,x5,x6⟩:=entB_row V4.out.ax.e
    gi_wp2_with (gi_at_builtin;refine Xcm (w0:=w4) Xgj rfl _ _ rfl w.heap.size vo out rfl V4.out.vm.gv (⟨s.num,s.date,e⟩:Ver) (verCs ⟨s.num,s.date,e⟩ (.slice oa e.attrs.length ca) (.slice ox e.exts.length cx)) _ (by first|rfl|simp [Act.eval]) ⟨_,_,rfl,G2.out,G3.out⟩ (by omega) (by omega) V4.out.size ?_;intro v7 w7 ho7 hg7 hl7;obtain ⟨g7,n7,k7,rfl⟩:=Xdz ho7;have co7:=Xam hg7 V4.out.vm.n1 V4.out.vm.co;have fo7:=Xj4 hg7 V4.out.vm.n1 V4.out.vm.co V4.out.vm.fo;have V5:=Qh (V4.out.added ho7 hg7 hl7 (by decide) (by decide) (by decide));clear cp co c0 c1 b0 b1 b2 b3 b4 b5 x0 x1 x2 x3 x4 x5 x6 ho7 hg7 hl7;have cp:=V5.out.vm.cp;have co:=V5.out.vm.co;have c0:=V5.out.vm.st.c0;have c1:=V5.out.vm.st.c1;obtain ⟨b0,b1,b2,b3,b4,b5⟩:=sesB_row V5.out.ax.s;obtain ⟨x0,x1,x2,x3,x4,x5,x6⟩:=entB_row V5.out.ax.e)
    gi_wp2_with fail
    refine ⟨trivial,(CallsIn.inRound l (callsIn_wide.2 (Hap.out _ V5.out.vm.st.ok))).mono ?_⟩
    rintro e9 W9 ⟨v9,v8,J9,rfl,hb9,hx9,hok9,ht9,hh9⟩
    obtain ⟨a9,d9,rfl,_,_,_⟩:=id ht9
    obtain ⟨a8,d8,rfl,_,_,_⟩:=id hh9
    have V9:=Qh (V5.out.ext hb9 hx9 hok9)
    have Hpost:=Qh (V9.out.post (s':=s2) ht9 hh9 (by decide) (H3.out.trans hx9 V5.out.size))
    clear cp co c0 c1 b0 b1 b2 b3 b4 b5 x0 x1 x2 x3 x4 x5 x6 ht9 hh9 hb9 hx9 hok9 V5
    have c0:=V9.out.vm.st.c0
    have c1:=V9.out.vm.st.c1
    have f0:=V9.out.vm.st.f0
    have f1:=V9.out.vm.st.f1
    gi_wp2
    refine ⟨Hpost.out.1,Hpost.out.2.1,?_⟩
    show VerI _ _ _ _ _ _ _ _ _ _
    rw [Hfs.out,Hout.out]
    exact Hpost.out.2.2
 case done=>
  rintro D ys W hD hS ⟨vt,vh,vo,J,h1,h3,h4⟩ hK
  have hst:verQ p nilS (keys ys)=verP L p:=by rw [hS,←Xkk];rfl
  rw [hst] at h1
  obtain ⟨bo,no,ko,rfl⟩:∃bo no ko,vo= .slice bo no ko:=by
   obtain ⟨xs,⟨_,h5⟩,_⟩:=h1.gv
   rcases h5 with ⟨h6,_⟩|⟨g',cap,cur,h6,_⟩
   ·exact ⟨_,_,_,h6⟩
   ·exact ⟨_,_,_,h6⟩
  have co:=h1.co
  have hsz2:=h4.size
  obtain ⟨J2,_,hx2,hok2,hr2,_⟩:=h1.gv.freezeA h1.st.ok h1.apart
  gi_wp2
  refine ⟨by simp,.inl ⟨_,_,rfl,run_takeDeferred hK,?_⟩⟩
  refine ⟨_,results_tmp rfl _ _ _,?_⟩
  exact ⟨_,J2,rfl,Below.turn h4 (Qn _) (Qn _) (grownBy_putObj' _ D _) (fun r e=>by cases e;exact ⟨by omega,_,hK,rfl⟩),h3.trans hx2 (Qn _),hok2.turn (grownBy_putObj' _ D _) (fun r e=>by cases e;exact ⟨_,hK,rfl⟩),hr2⟩
 case stop=>
  rintro D c pre W _ _ h _
  exact h.elim
end Go.Proofs.YtdeknddamidldaaGreatDoor
