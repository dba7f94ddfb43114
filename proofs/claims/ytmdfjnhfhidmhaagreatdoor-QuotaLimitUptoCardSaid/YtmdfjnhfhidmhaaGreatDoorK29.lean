/-
  Walks and laws that the claim's theorem uses: texts RfE RfF SnI SnT, joined; comments out. Conditions: as each theorem says.
-/
import Derived.Test.YtmdfjnhfhidmhaaGreatDoorK24
import Derived.Test.YtmdfjnhfhidmhaaGreatDoorK27
import Derived.Test.YtmdfjnhfhidmhaaGreatDoorK28
set_option linter.all false
namespace Go.Proofs.YtmdfjnhfhidmhaaGreatDoor
open Go.RowKit
theorem Xab {P:Program} {ops:Array Oper} {rest:List Oper} {o:Oper} {a:Act} {w:World} {Q:Exit→Act→World→Prop} (hgd:o.guard=none) (hd:o.dst=none) (ty:TypeId) (x y:Operand) (ho:o.op= .store ty x y)
 (g off:Nat) (cs:List Value) (v:Value) (hx:a.eval x= .pointer (some ⟨g,off,none⟩)) (hy:a.eval y=v) (hv:v.cells=cs.toArray) (cur:Array Value) (tt:TypeId)
 (hg:w.heap[g]? =some (.cells cur tt (0,0))) (hfit:off+cs.length≤cur.size) (hi:(P.info? ty).map (·.size)=some cs.length) (h1:∀v∈cs,v.oneCell'=true) (R:Array Value) (hR:over cur off cs=R)
 (h:∀w',w.grownBy w' (some g)→w'.heap[g]? =some (.cells R tt (0,0))→wpList P ops Q rest a w'):wpList P ops Q (o::rest) a w:=by
 refine wpList_plain hgd fun _ hK=> ?_
 exact Xag ty x y ho g off cs v hx hy hv cur tt hg hfit hi h1 (hK _ _ (by rw [hd];exact h _ Xao (by rw [←hR];exact setRow_heap w g cur _ tt (0,0) hg)))
def evF:List (Option Tmp × Value)→Nat→Array Bool→Tmp→Value→Value
 | [],_,_,_,d=>d
 |(e,u)::l,k,s,t,d=>if e=some t then (if s.getD k false=true then u else d) else evF l (k+1) s t d
theorem Xhw:∀(l:List (Option Tmp × Value)) (k:Nat) (s:Array Bool) (a:Act) (t:Tmp),ApartF l→t<a.tmps.size→(fillA l k s a).eval (.tmp t)=evF l k s t (a.eval (.tmp t))
 | [],_,_,_,_,_,_=>rfl
 |(e,u)::l,k,s,a,t,hp,ht=>by
  obtain ⟨h1,h2⟩:=List.pairwise_cons.1 hp
  rw [fillA,evF]
  by_cases he:e=some t
  ·subst he
   rw [if_pos rfl,Xb6 l _ _ _ _ fun p hp=>h1 p hp t rfl]
   split
   ·simp [Act.eval,Act.put,ht]
   ·rfl
  ·rw [if_neg he]
   by_cases hs:s.getD k false=true
   ·rw [if_pos hs,Xhw l _ _ _ _ h2 (by rw [Xk9];exact ht),Xfb a u he]
   ·rw [if_neg hs];exact Xhw l _ _ _ _ h2 ht
theorem Xg4 {L:List (Option Tmp × Value)} {s:Array Bool} {a a':Act} (hp:ApartF L) (ha:a'=fillA L 0 s a) (t:Tmp) (ht:t<a.tmps.size):a'.tmps[t]?.getD undef=evF L 0 s t (a.tmps[t]?.getD undef):=by
 have h:=Xhw L 0 s a t hp ht
 rw [←ha] at h
 simpa [Act.eval] using h
theorem Xax {L:List (Option Tmp × Value)} {s:Array Bool} {a a':Act} {i:Nat} {d:Tmp} {v:Value} (hp:ApartF L) (ha:a'=fillA L 0 s a) (hi:L[i]? =some (some d,v)) (hun:s.getD i true=false):
 ({ tmps:=a'.tmps.setIfInBounds d v,defers:=a'.defers }:Act)=fillA L 0 (s.setIfInBounds i true) a:=Xac (d:=some d) hp ha hi hun
def reachB (ops:Array Oper):Nat→Nat→Nat→Bool
 |0,k,i=>k==i
 |f+1,k,i=>k==i || (match ops[k]? with|some o=>o.after.any fun e=>Region.binds .any e&&reachB ops f e.on i|none=>false)
theorem Xk8 {ops:Array Oper} {s:Array Bool} (h:Clo ops s):∀(f k i:Nat),reachB ops f k i=true→s.getD k false=true→s.getD i false=true
 |0,k,i,hr,hk=>by
  have:k=i:=by simpa [reachB] using hr
  subst this;exact hk
 |f+1,k,i,hr,hk=>by
  rw [reachB,Bool.or_eq_true] at hr
  rcases hr with hr|hr
  ·have:k=i:=by simpa using hr
   subst this;exact hk
  ·cases ho:ops[k]? with
   |none=>rw [ho] at hr;cases hr
   |some o=>
    rw [ho] at hr
    simp only [Array.any_eq_true,Bool.and_eq_true] at hr
    obtain ⟨n,hn,h3,h4⟩:=hr
    exact Xk8 h f _ i h4 (h k o ho hk _ (Array.getElem_mem hn) h3)
theorem Xas {ops:Array Oper} {s:Array Bool} (f k:Nat) {i:Nat} (h:Clo ops s) (hp:reachB ops f k i=true) (hun:s.getD i true=false):s.getD k false=false:=by
 cases hk:s.getD k false with
 |false=>rfl
 |true=>have:=Xk8 h f k i hp hk;rw [Xam hun] at this;cases this
theorem Xaw {s:Array Bool} {i g:Nat} (h:(s.setIfInBounds i true).getD g false=false):s.getD g false=false:=by
 by_cases e:i=g
 ·subst e
  cases hg:s.getD i false with
  |false=>rfl
  |true=>
   have hlt:i<s.size:=by
    rcases Nat.lt_or_ge i s.size with h'|h'
    ·exact h'
    ·rw [Xan h'] at hg;cases hg
   rw [Xaz hlt] at h;cases h
 ·rwa [getD_set_ne false e] at h
theorem Xk3 {s:Array Bool} {i j:Nat} (h:(s.setIfInBounds i true).getD j false=true):i=j∨s.getD j false=true:=by
 by_cases e:i=j
 ·exact .inl e
 ·rw [getD_set_ne false e] at h;exact .inr h
structure RgE {X:Type} (W:World) (j1 g1 j2 g2 j3 g3 j4 g4:Nat) (G0 G1 G2 G3 G4 Fin:X→World→Prop) (m:X→Nat) (t:TypeId) (s1 s2 s3:Nat) (R1 R2 R3:X→Array Value) (x:X) (s:Array Bool) (w:World):Prop where
 off:s.getD s1 false=false→Below W.heap.size W w
 inv:s.getD s1 false=false→G0 x w
 f1:s.getD j1 false=true→s.getD g1 false=false→s.getD s1 false=false→G1 x w
 f2:s.getD j2 false=true→s.getD g2 false=false→s.getD s1 false=false→G2 x w
 f3:s.getD j3 false=true→s.getD g3 false=false→s.getD s1 false=false→G3 x w
 f4:s.getD j4 false=true→s.getD g4 false=false→s.getD s1 false=false→G4 x w
 on:s.getD s1 false=true→ ∃wb,Below W.heap.size W wb∧Fin x wb∧wb.grownBy w (some (m x))∧
  w.heap[m x]? =some (.cells (if s.getD s3 false=true then R3 x else if s.getD s2 false=true then R2 x else R1 x) t (0,0))
section
variable {X:Type} {W w w':World} {j1 g1 j2 g2 j3 g3 j4 g4:Nat} {G0 G1 G2 G3 G4 Fin:X→World→Prop} {m:X→Nat} {t:TypeId} {s1 s2 s3:Nat} {R1 R2 R3:X→Array Value} {x:X} {s:Array Bool} {i:Nat}
theorem RgE.start (n:Nat) (x:X) (h0:G0 x { W with drawn:=W.drawn+1 }):RgE W j1 g1 j2 g2 j3 g3 j4 g4 G0 G1 G2 G3 G4 Fin m t s1 s2 s3 R1 R2 R3 x (Array.replicate n false) { W with drawn:=W.drawn+1 }:=
 ⟨fun _=>(Qb _ _).drew,fun _=>h0,fun h=>(by rw [Xa5] at h;cases h),fun h=>(by rw [Xa5] at h;cases h),fun h=>(by rw [Xa5] at h;cases h),fun h=>(by rw [Xa5] at h;cases h),fun h=>(by rw [Xa5] at h;cases h)⟩
theorem RgE.pure (h:RgE W j1 g1 j2 g2 j3 g3 j4 g4 G0 G1 G2 G3 G4 Fin m t s1 s2 s3 R1 R2 R3 x s w) (hd:i≠j1∧i≠j2∧i≠j3∧i≠s1∧i≠s2∧i≠s3∧i≠j4):RgE W j1 g1 j2 g2 j3 g3 j4 g4 G0 G1 G2 G3 G4 Fin m t s1 s2 s3 R1 R2 R3 x (s.setIfInBounds i true) w:=by
 obtain ⟨h1,h2,h3,h4,h5,h6,h7⟩:=hd
 refine ⟨?_,?_,?_,?_,?_,?_,?_⟩
 ·rw [getD_set_ne false h4];exact h.off
 ·rw [getD_set_ne false h4];exact h.inv
 ·rw [getD_set_ne false h1,getD_set_ne false h4];exact fun a b=>h.f1 a (Xaw b)
 ·rw [getD_set_ne false h2,getD_set_ne false h4];exact fun a b=>h.f2 a (Xaw b)
 ·rw [getD_set_ne false h3,getD_set_ne false h4];exact fun a b=>h.f3 a (Xaw b)
 ·rw [getD_set_ne false h7,getD_set_ne false h4];exact fun a b=>h.f4 a (Xaw b)
 ·rw [getD_set_ne false h4,getD_set_ne false h5,getD_set_ne false h6];exact h.on
theorem RgE.step (h:RgE W j1 g1 j2 g2 j3 g3 j4 g4 G0 G1 G2 G3 G4 Fin m t s1 s2 s3 R1 R2 R3 x s w) (hl:s.getD s1 false=false) (hb:Below W.heap.size W w') (hi:i≠s1) {x':X} (k0:G0 x w→G0 x' w')
 (k1:i=j1∨(s.getD j1 false=true∧s.getD g1 false=false∧G1 x w)→i≠g1→G1 x' w') (k2:i=j2∨(s.getD j2 false=true∧s.getD g2 false=false∧G2 x w)→i≠g2→G2 x' w') (k3:i=j3∨(s.getD j3 false=true∧s.getD g3 false=false∧G3 x w)→i≠g3→G3 x' w') (k4:i=j4∨(s.getD j4 false=true∧s.getD g4 false=false∧G4 x w)→i≠g4→G4 x' w') (hlt:i<s.size):
 RgE W j1 g1 j2 g2 j3 g3 j4 g4 G0 G1 G2 G3 G4 Fin m t s1 s2 s3 R1 R2 R3 x' (s.setIfInBounds i true) w':=by
 have aux:∀ {g:Nat},(s.setIfInBounds i true).getD g false=false→i≠g:=fun b e=>by subst e;rw [Xaz hlt] at b;cases b
 refine ⟨fun _=>hb,fun _=>k0 (h.inv hl),fun a b _=>k1 ?_ (aux b),fun a b _=>k2 ?_ (aux b),fun a b _=>k3 ?_ (aux b),fun a b _=>k4 ?_ (aux b),?_⟩
 ·exact (Xk3 a).imp id fun q=>⟨q,Xaw b,h.f1 q (Xaw b) hl⟩
 ·exact (Xk3 a).imp id fun q=>⟨q,Xaw b,h.f2 q (Xaw b) hl⟩
 ·exact (Xk3 a).imp id fun q=>⟨q,Xaw b,h.f3 q (Xaw b) hl⟩
 ·exact (Xk3 a).imp id fun q=>⟨q,Xaw b,h.f4 q (Xaw b) hl⟩
 ·rw [getD_set_ne false hi,hl]
  intro q
  cases q
theorem RgE.put1 (h:RgE W j1 g1 j2 g2 j3 g3 j4 g4 G0 G1 G2 G3 G4 Fin m t s1 s2 s3 R1 R2 R3 x s w) (hun:s.getD s1 true=false) (hf:Fin x w) (h2:s.getD s2 false=false) (h3:s.getD s3 false=false) (hd:s1≠s2∧s1≠s3)
 {cur:Array Value} (hg:w.heap[m x]? =some (.cells cur t (0,0))) {R:Array Value} (hR:R=R1 x):RgE W j1 g1 j2 g2 j3 g3 j4 g4 G0 G1 G2 G3 G4 Fin m t s1 s2 s3 R1 R2 R3 x (s.setIfInBounds s1 true) (w.setRow (m x) R):=by
 have e:=Xaz (Xc9 hun)
 have hl:s.getD s1 false=false:=Xam hun
 refine ⟨fun q=>(by rw [e] at q;cases q),fun q=>(by rw [e] at q;cases q),fun _ _ q=>(by rw [e] at q;cases q),fun _ _ q=>(by rw [e] at q;cases q),fun _ _ q=>(by rw [e] at q;cases q),fun _ _ q=>(by rw [e] at q;cases q),fun _=>⟨w,h.off hl,hf,Xao,?_⟩⟩
 rw [getD_set_ne false hd.1,getD_set_ne false hd.2,h2,h3,hR]
 exact setRow_heap w (m x) cur _ t (0,0) hg
theorem RgE.put2 (h:RgE W j1 g1 j2 g2 j3 g3 j4 g4 G0 G1 G2 G3 G4 Fin m t s1 s2 s3 R1 R2 R3 x s w) (hun:s.getD s2 true=false) (h1:s.getD s1 false=true) (h3:s.getD s3 false=false) (hd:s2≠s1∧s2≠s3) {R:Array Value} (hR:R=R2 x):
 RgE W j1 g1 j2 g2 j3 g3 j4 g4 G0 G1 G2 G3 G4 Fin m t s1 s2 s3 R1 R2 R3 x (s.setIfInBounds s2 true) (w.setRow (m x) R):=by
 have e:=Xaz (Xc9 hun)
 have e1:(s.setIfInBounds s2 true).getD s1 false=true:=by rw [getD_set_ne false hd.1];exact h1
 obtain ⟨wb,k1,k2,k4,k5⟩:=h.on h1
 refine ⟨fun q=>(by rw [e1] at q;cases q),fun q=>(by rw [e1] at q;cases q),fun _ _ q=>(by rw [e1] at q;cases q),fun _ _ q=>(by rw [e1] at q;cases q),fun _ _ q=>(by rw [e1] at q;cases q),fun _ _ q=>(by rw [e1] at q;cases q),fun _=>⟨wb,k1,k2,Xfq k4 (Xao),?_⟩⟩
 rw [getD_set_ne false hd.2,h3,e,hR]
 exact setRow_heap w (m x) _ _ t (0,0) k5
theorem RgE.put3 (h:RgE W j1 g1 j2 g2 j3 g3 j4 g4 G0 G1 G2 G3 G4 Fin m t s1 s2 s3 R1 R2 R3 x s w) (hun:s.getD s3 true=false) (h1:s.getD s1 false=true) (hd:s3≠s1) {R:Array Value} (hR:R=R3 x):
 RgE W j1 g1 j2 g2 j3 g3 j4 g4 G0 G1 G2 G3 G4 Fin m t s1 s2 s3 R1 R2 R3 x (s.setIfInBounds s3 true) (w.setRow (m x) R):=by
 have e:=Xaz (Xc9 hun)
 have e1:(s.setIfInBounds s3 true).getD s1 false=true:=by rw [getD_set_ne false hd];exact h1
 obtain ⟨wb,k1,k2,k4,k5⟩:=h.on h1
 refine ⟨fun q=>(by rw [e1] at q;cases q),fun q=>(by rw [e1] at q;cases q),fun _ _ q=>(by rw [e1] at q;cases q),fun _ _ q=>(by rw [e1] at q;cases q),fun _ _ q=>(by rw [e1] at q;cases q),fun _ _ q=>(by rw [e1] at q;cases q),fun _=>⟨wb,k1,k2,Xfq k4 (Xao),?_⟩⟩
 rw [e,hR]
 exact setRow_heap w (m x) _ _ t (0,0) k5
theorem RgE.row1 (h:RgE W j1 g1 j2 g2 j3 g3 j4 g4 G0 G1 G2 G3 G4 Fin m t s1 s2 s3 R1 R2 R3 x s w) (h1:s.getD s1 false=true) (h2:s.getD s2 false=false) (h3:s.getD s3 false=false):w.heap[m x]? =some (.cells (R1 x) t (0,0)):=by
 obtain ⟨wb,_,_,_,k5⟩:=h.on h1
 rw [h2,h3] at k5
 exact k5
theorem RgE.row2 (h:RgE W j1 g1 j2 g2 j3 g3 j4 g4 G0 G1 G2 G3 G4 Fin m t s1 s2 s3 R1 R2 R3 x s w) (h1:s.getD s1 false=true) (h2:s.getD s2 false=true) (h3:s.getD s3 false=false):w.heap[m x]? =some (.cells (R2 x) t (0,0)):=by
 obtain ⟨wb,_,_,_,k5⟩:=h.on h1
 rw [h2,h3] at k5
 exact k5
end
structure RgD (B:Nat) (W:World) (m1 m2:Nat) (t1 t2:TypeId) (Z1 R1 Z2 R2:Array Value) (s1 s2:Nat) (s:Array Bool) (w:World):Prop where
 bel:Below B W w
 keep:∀k,k<W.heap.size→k≠m1→k≠m2→w.heap[k]? =W.heap[k]?
 r1:w.heap[m1]? =some (.cells (if s.getD s1 false=true then R1 else Z1) t1 (0,0))
 r2:w.heap[m2]? =some (.cells (if s.getD s2 false=true then R2 else Z2) t2 (0,0))
section
variable {B:Nat} {W w w':World} {m1 m2:Nat} {t1 t2:TypeId} {Z1 R1 Z2 R2:Array Value} {s1 s2:Nat} {s:Array Bool} {i:Nat}
theorem RgD.start (n:Nat) (hB:B≤W.heap.size) (h1:W.heap[m1]? =some (.cells Z1 t1 (0,0))) (h2:W.heap[m2]? =some (.cells Z2 t2 (0,0))):RgD B W m1 m2 t1 t2 Z1 R1 Z2 R2 s1 s2 (Array.replicate n false) { W with drawn:=W.drawn+1 }:=
 ⟨((Qb _ _).drew).mono hB,fun _ _ _ _=>rfl,by rw [Xa5];exact h1,by rw [Xa5];exact h2⟩
theorem RgD.pure (h:RgD B W m1 m2 t1 t2 Z1 R1 Z2 R2 s1 s2 s w) (h1:i≠s1) (h2:i≠s2):RgD B W m1 m2 t1 t2 Z1 R1 Z2 R2 s1 s2 (s.setIfInBounds i true) w:=
 ⟨h.bel,h.keep,by rw [getD_set_ne false h1];exact h.r1,by rw [getD_set_ne false h2];exact h.r2⟩
theorem RgD.call (h:RgD B W m1 m2 t1 t2 Z1 R1 Z2 R2 s1 s2 s w) (hb:Below w.heap.size w w') (h1:i≠s1) (h2:i≠s2) (hB:B≤W.heap.size):RgD B W m1 m2 t1 t2 Z1 R1 Z2 R2 s1 s2 (s.setIfInBounds i true) w':=
 ⟨h.bel.trans (hb.mono (Nat.le_trans hB h.bel.size)),fun k hk a b=>(hb.block k (Nat.lt_of_lt_of_le hk h.bel.size)).trans (h.keep k hk a b),
   by rw [getD_set_ne false h1];exact (hb.block _ (Array.getElem?_eq_some_iff.1 h.r1).1).trans h.r1,by rw [getD_set_ne false h2];exact (hb.block _ (Array.getElem?_eq_some_iff.1 h.r2).1).trans h.r2⟩
theorem RgD.put1 (h:RgD B W m1 m2 t1 t2 Z1 R1 Z2 R2 s1 s2 s w) (hun:s.getD s1 true=false) (h12:s1≠s2) (hm:m1≠m2) (hB:B≤m1) {R:Array Value} (hR:R=R1):RgD B W m1 m2 t1 t2 Z1 R1 Z2 R2 s1 s2 (s.setIfInBounds s1 true) (w.setRow m1 R):=by
 have e:=Xaz (Xc9 hun)
 refine ⟨h.bel.grown (row:=some m1) Xao (by have:=(Array.getElem?_eq_some_iff.1 h.r1).1;omega) (fun k hk=>by cases hk;exact hB),fun k hk a b=>(setRow_other w m1 k R a).trans (h.keep k hk a b),?_,?_⟩
 ·rw [e,hR];exact setRow_heap w m1 _ _ t1 (0,0) h.r1
 ·rw [getD_set_ne false h12,setRow_other w m1 m2 R (Ne.symm hm)];exact h.r2
theorem RgD.put2 (h:RgD B W m1 m2 t1 t2 Z1 R1 Z2 R2 s1 s2 s w) (hun:s.getD s2 true=false) (h12:s2≠s1) (hm:m1≠m2) (hB:B≤m2) {R:Array Value} (hR:R=R2):RgD B W m1 m2 t1 t2 Z1 R1 Z2 R2 s1 s2 (s.setIfInBounds s2 true) (w.setRow m2 R):=by
 have e:=Xaz (Xc9 hun)
 refine ⟨h.bel.grown (row:=some m2) Xao (by have:=(Array.getElem?_eq_some_iff.1 h.r2).1;omega) (fun k hk=>by cases hk;exact hB),fun k hk a b=>(setRow_other w m2 k R b).trans (h.keep k hk a b),?_,?_⟩
 ·rw [getD_set_ne false h12,setRow_other w m2 m1 R hm];exact h.r1
 ·rw [e,hR];exact setRow_heap w m2 _ _ t2 (0,0) h.r2
end
def RecR (I:IH) (w:World) (p:Ent × Sto) (e:Ending) (w':World):Prop:=
 ∃va vx vk I',e= .returned (.tuple #[entV p.1 va vx,stoV p.2 vk,.int .i64 (entErr p.1)])∧Below w.heap.size w w'∧Ext w.heap.size I I'∧Ok I' w'∧RdS tAt I' va p.1.attrs∧RdS tXt I' vx p.1.exts∧RdS tCk I' vk p.2.cks
theorem Xcc {fn:Func} {p q u:Tmp} {ty tz:TypeId} (h:fn.results= #[.cell p ty,.cell q tz,.tmp u]) (tmps:Array Value) (P:Program) (w:World):
 (results fn tmps).run P w=
   ((asAddr (tmps.getD p undef)).run P w).andThen fun a w₁=>((loadVar ty a).run P w₁).andThen fun v w₂=>((asAddr (tmps.getD q undef)).run P w₂).andThen fun b w₃=>((loadVar tz b).run P w₃).andThen fun z w₄=> .ok (.tuple #[v,z,tmps.getD u undef]) w₄:=by
 simp only [results,h]
 simp [Sem.run_bind,Result.andThen]
abbrev rcL (n:Nat) (kind:Int) (path:Bytes) (ao:Option Addr) (le cap:Nat) (target:Bytes) (x:Nat × (Option Addr × Nat)):List (Option Tmp × Value):=
 [(some 8,.pointer (some ⟨n+1,0,none⟩)),(some 9,.int .i64 kind),(some 10,.pointer (some ⟨n+1,1,none⟩)),(some 11,S path),(some 12,.pointer (some ⟨n+1,2,none⟩)),(some 13,.slice ao le cap),(some 14,.slice x.2.1 le x.2.2),(some 15,.pointer (some ⟨n+1,3,none⟩)),(some 16,S target),(some 17,.agg #[.int .i64 kind,S path,.slice x.2.1 le x.2.2,S target,.int .i64 0,.string ⟨#[]⟩,.slice none 0 0]),(some 7,.pointer (some ⟨x.1,0,none⟩)),(none,undef)]
theorem Xcd {n:Nat} {kind:Int} {path:Bytes} {ao:Option Addr} {le cap:Nat} {target:Bytes} {x:Nat × (Option Addr × Nat)}:ApartF (rcL n kind path ao le cap target x):=by
 unfold ApartF
 simp
abbrev rdL (n m:Nat) (ct sm:Bytes) (x:Nat):List (Option Tmp × Value):=
 [(some 21,.pointer (some ⟨n+1,4,none⟩)),(some 22,S ct),(some 23,.int .i64 (ct.length:Int)),(some 24,.pointer (some ⟨n+1,4,none⟩)),(some 25,S ct),(some 26,.slice (some ⟨x,0,none⟩) 1 1),(some 27,S sm),(some 28,.pointer (some ⟨m,4,none⟩)),(none,undef),(some 29,.pointer (some ⟨m,5,none⟩)),(none,undef)]
theorem Xb1 {n m:Nat} {ct sm:Bytes} {x:Nat}:ApartF (rdL n m ct sm x):=by
 unfold ApartF
 simp
abbrev reL (m n:Nat) (e:Ent) (va vx vk:Value) (q:Sto):List (Option Tmp × Value):=
 [(some 43,entV e va vx),(some 44,stoV q vk),(some 45,entV e va vx),(some 46,.int .i64 (entErr e)),(none,undef),(none,undef),(some 6,.int .i64 (entErr e))]
theorem Xaq {m n:Nat} {e:Ent} {va vx vk:Value} {q:Sto}:ApartF (reL m n e va vx vk q):=by
 unfold ApartF
 simp
theorem Xky (w:World) (a b c d:Array Value) (ta tb tc td:TypeId) (W:World) (hW:(((w.alloc (.cells a ta)).alloc (.cells b tb)).alloc (.cells c tc)).alloc (.cells d td)=W):
 W.heap.size=w.heap.size+4∧W.heap[w.heap.size]? =some (.cells a ta (0,0))∧W.heap[w.heap.size+1]? =some (.cells b tb (0,0))∧W.heap[w.heap.size+2]? =some (.cells c tc (0,0))∧W.heap[w.heap.size+3]? =some (.cells d td (0,0)):=by
 subst hW
 have h1:=heap_alloc_new w (.cells a ta)
 have h2:=heap_alloc_new (w.alloc (.cells a ta)) (.cells b tb)
 have h3:=heap_alloc_new ((w.alloc (.cells a ta)).alloc (.cells b tb)) (.cells c tc)
 have h4:=heap_alloc_new (((w.alloc (.cells a ta)).alloc (.cells b tb)).alloc (.cells c tc)) (.cells d td)
 have e1:(w.alloc (.cells a ta)).heap.size=w.heap.size+1:=by simp
 have e2:((w.alloc (.cells a ta)).alloc (.cells b tb)).heap.size=w.heap.size+2:=by simp
 have e3:(((w.alloc (.cells a ta)).alloc (.cells b tb)).alloc (.cells c tc)).heap.size=w.heap.size+3:=by simp
 rw [e1] at h2
 rw [e2] at h3
 rw [e3] at h4
 refine ⟨by simp,?_,?_,?_,h4⟩
 ·exact (Below.heap_alloc _ _ _ (by omega)).trans ((Below.heap_alloc _ _ _ (by omega)).trans ((Below.heap_alloc _ _ _ (by omega)).trans h1))
 ·exact (Below.heap_alloc _ _ _ (by omega)).trans ((Below.heap_alloc _ _ _ (by omega)).trans h2)
 ·exact (Below.heap_alloc _ _ _ (by omega)).trans h3
set_option maxRecDepth 100000 in
set_option maxHeartbeats 8000000 in
theorem Xny (I:IH) (hI:Glob I) (q:Sto) (vk:Value) (hvk:RdS tCk I vk q.cks) (hq:StoW q) (hqn:q.cks.length≤10000000) (c:Chg) (va:Value) (hva:RdS tAt I va c.attrs) (hc:c.Wf) (hca:c.attrs.length≤1000000) (w:World) (hw:Ok I w):
 Calls Tryz.prog 67 #[stoV q vk,.agg #[.int .i64 c.kind,S c.path,va,S c.target,S c.content]] w (RecR I w (recP q c)):=by
 obtain ⟨ak,ck,rfl,_,_,_⟩:=id hvk
 obtain ⟨ao,cap,rfl,_,_,_⟩:=id hva
 have Hcl:=Qh (fun w hw=>Xmh I _ c.attrs hva w hw (by omega))
 have HG:=Qh hI
 have Hvk:=Qh hvk
 have Hq:=Qh hq
 have Hc:=Qh hc
 have Hi3:=Qh (show (Tryz.prog.info? 40).map (·.size)=some 3 by kernel_rfl)
 have Hi7:=Qh (show (Tryz.prog.info? 81).map (·.size)=some 7 by kernel_rfl)
 have hpl:=hc.path
 have htl:=hc.target
 have hcl:=hc.content
 obtain ⟨W4,hW4⟩:∃W4,((((w.alloc (.cells #[.slice ak q.cks.length ck,.int .i64 q.ses,S q.str] 40)).alloc (.cells #[.int .i64 c.kind,S c.path,.slice ao c.attrs.length cap,S c.target,S c.content] 25)).alloc (.cells #[.int .i64 0,.string ⟨#[]⟩,.slice none 0 0,.string ⟨#[]⟩,.int .i64 0,.string ⟨#[]⟩,.slice none 0 0] 81)).alloc (.cells #[.slice none 0 0,.int .i64 0,.string ⟨#[]⟩] 40))=W4:=⟨_,rfl⟩
 have hok4:Ok I W4:=by rw [←hW4];exact (((hw.alloc _).alloc _).alloc _).alloc _
 obtain ⟨hsz4,h40,h41,h42,h43⟩:=Xky w _ _ _ _ _ _ _ _ W4 hW4
 have hb4:Below w.heap.size w W4:=by rw [←hW4];exact ((((Qb _ _).alloc (Qn _) _).alloc (by simp) _).alloc (by simp;omega) _).alloc (by simp;omega) _
 have c0:W4.cell? ⟨w.heap.size+1,0,none⟩=some (.int .i64 c.kind):=(cell_of_row _ _ 0 _ _ _ h41).trans rfl
 have c1:W4.cell? ⟨w.heap.size+1,1,none⟩=some (S c.path):=(cell_of_row _ _ 1 _ _ _ h41).trans rfl
 have c2:W4.cell? ⟨w.heap.size+1,2,none⟩=some (.slice ao c.attrs.length cap):=(cell_of_row _ _ 2 _ _ _ h41).trans rfl
 have c3:W4.cell? ⟨w.heap.size+1,3,none⟩=some (S c.target):=(cell_of_row _ _ 3 _ _ _ h41).trans rfl
 have H40:=Qh h40
 have H41:=Qh h41
 have H42:=Qh h42
 have H43:=Qh h43
 have hIf:∀b,w.heap.size≤b→I b=none:=fun b hb=>hw.fresh hb
 have HsZ:=Qh hsz4
 clear hvk hva hq hc h40 h41 h42 h43 hsz4 hI
 go_enter Tryz.func67,Tryz.ntmps67
 go_wp2_with fail
 clear hW4
 refine Xak (X:=Nat × (Option Addr × Nat)) (rcL w.heap.size c.kind c.path ao c.attrs.length cap c.target) (RgE W4 6 233 10 234 225 235 226 236 (fun _ _=>True) (fun x w=>OwnS tAt 107 I w W4.heap.size (.slice x.2.1 c.attrs.length x.2.2) c.attrs) (fun x w=>w.heap[x.1]? =some (.cells zeroRow 81 (0,0))∧W4.heap.size≤x.1) (fun _ _=>True) (fun _ _=>True) (fun x w=>OwnS tAt 107 I w W4.heap.size (.slice x.2.1 c.attrs.length x.2.2) c.attrs∧(w.heap[x.1]? =some (.cells zeroRow 81 (0,0))∧W4.heap.size≤x.1)) (fun x=>x.1) 81 11 213 214 (fun x=> #[.int .i64 c.kind,S c.path,.slice x.2.1 c.attrs.length x.2.2,S c.target,.int .i64 0,.string ⟨#[]⟩,.slice none 0 0]) (fun x=> #[.int .i64 c.kind,S c.path,.slice x.2.1 c.attrs.length x.2.2,S c.target,.int .i64 0,.string ⟨#[]⟩,.slice none 0 0]) (fun x=> #[.int .i64 c.kind,S c.path,.slice x.2.1 c.attrs.length x.2.2,S c.target,.int .i64 0,.string ⟨#[]⟩,.slice none 0 0])) (by kernel_rfl) (by kernel_rfl) ?_ ?_ ?_
 ·exact ⟨(0,default),RgE.start _ _ trivial⟩
 ·rintro x s' a' w' i hsz hcl ha hC hi
  obtain ⟨hun,oi,hoi,hall⟩:=mem_ready.1 hi
  have ev:=Xg4 Xcd ha
  have hlt:=Xc9 hun
  rcases i with _|_|_|_|_|_|_|_|_|_|_|_|i
  rotate_left 12
  ·simp at hoi
  all_goals
   have hoj:=hoi
   simp at hoi
   subst hoi
   simp [Region.binds] at hall
   try have hl:=Xas 6 11 hcl (by decide +kernel) hun
   try have hbw:=hC.off hl
   try have c0:=Xaa hbw c0
   try have c1:=Xaa hbw c1
   try have c2:=Xaa hbw c2
   try have c3:=Xaa hbw c3
   refine wpOp_step hoj (fun K' hK=> ?_)
   rw [if_pos (by rfl)]
  rotate_left 6
  ·unfold Oper.wp
   simp [go_sem,ev,evF,hall,Oper.upon]
   refine (Hcl.out w' (hok4.below (Qn _) hbw)).mono ?_
   rintro r4 w4 ⟨v7,rfl,ho,hb4⟩
   obtain ⟨a7,k7,rfl⟩:=Xb9 ho
   have ha:=ha.trans (Xa3 (L:=rcL w.heap.size c.kind c.path ao c.attrs.length cap c.target x) (M:=rcL w.heap.size c.kind c.path ao c.attrs.length cap c.target (x.1,(a7,k7))) [6,9] rfl (fun j hne=>by
    rcases j with _|_|_|_|_|_|_|_|_|_|_|_|j<;>first|rfl|(exact absurd (by decide) hne)|simp) (List.forall_mem_cons.2 ⟨Xam hun,List.forall_mem_cons.2 ⟨Xas 6 9 hcl (by kernel_rfl) hun,List.forall_mem_nil _⟩⟩))
   exact hK _ _ ⟨(x.1,(a7,k7)),Xax Xcd ha rfl hun,hC.step hl (hbw.trans (hb4.mono hbw.size)) (by decide) (fun _=>trivial) (fun _ _=>ho.lower hbw.size) (fun h _=>h.elim (fun e=>absurd e (by decide)) (fun ⟨_,_,q⟩=>⟨(hb4.block _ (Array.getElem?_eq_some_iff.1 q.1).1).trans q.1,q.2⟩)) (fun _ _=>trivial) (fun _ _=>trivial) hlt⟩
  rotate_left 3
  ·unfold Oper.wp
   simp [go_sem,ev,evF,hall,Oper.upon,c0,c1,c2,c3]
   have ha:=ha.trans (Xa3 (L:=rcL w.heap.size c.kind c.path ao c.attrs.length cap c.target x) (M:=rcL w.heap.size c.kind c.path ao c.attrs.length cap c.target (w'.heap.size,x.2)) [10] rfl (fun j hne=>by
    rcases j with _|_|_|_|_|_|_|_|_|_|_|_|j<;>first|rfl|(exact absurd (by decide) hne)|simp) (List.forall_mem_cons.2 ⟨Xam hun,List.forall_mem_nil _⟩))
   exact hK _ _ ⟨(w'.heap.size,x.2),Xax Xcd ha rfl hun,hC.step hl (hbw.trans (((Qb _ _).alloc (Qn _) _).mono hbw.size)) (by decide) (fun _=>trivial) (fun h _=>h.elim (fun e=>absurd e (by decide)) (fun ⟨_,_,q⟩=>q.alloc _)) (fun _ _=>⟨heap_alloc_new _ _,hbw.size⟩) (fun _ _=>trivial) (fun _ _=>trivial) hlt⟩
  ·have hrow:w'.heap[x.1]? =some (.cells _ 81 (0,0)):=(hC.f2 (by first|simpa using hall|simp [hall]) (Xan (by simp [hsz])) hl).1
   refine Xag 81 _ _ rfl (x.1) 0 [.int .i64 c.kind,S c.path,.slice x.2.1 c.attrs.length x.2.2,S c.target,.int .i64 0,.string ⟨#[]⟩,.slice none 0 0] (.agg #[.int .i64 c.kind,S c.path,.slice x.2.1 c.attrs.length x.2.2,S c.target,.int .i64 0,.string ⟨#[]⟩,.slice none 0 0]) (by simp [Act.eval,ev,evF,hall]) (by simp [Act.eval,ev,evF,hall]) (by rfl) _ _ hrow (by simp) (by kernel_rfl) (by simp [Value.oneCell']) ?_
   exact hK _ _ ⟨x,Xac (d:=none) (v:=undef) Xcd ha rfl hun,hC.put1 hun ⟨hC.f1 (by first|simpa using hall|simp [hall]) (Xan (by simp [hsz])) hl,hC.f2 (by first|simpa using hall|simp [hall]) (Xan (by simp [hsz])) hl⟩ (Xan (by simp [hsz])) (Xan (by simp [hsz])) (by decide) hrow (by rfl)⟩
  all_goals
   unfold Oper.wp
   first
   |(simp [go_sem,ev,evF,hall,Oper.upon,c0,c1,c2,c3];exact hK _ _ ⟨x,Xax Xcd ha rfl hun,hC.pure (by decide)⟩)
   |(simp [go_sem,ev,evF,Oper.upon,c0,c1,c2,c3];exact hK _ _ ⟨x,Xax Xcd ha rfl hun,hC.pure (by decide)⟩)
 ·rintro x s' a' w8 hup ha hC
  obtain ⟨wb,hbW,hFin,hgr,hrow⟩:=hC.on (hup 11 (by decide))
  simp only [ite_self] at hrow
  rw [Xa6 _ _ _ _ (fun i hi=>by rw [Nat.zero_add];exact hup i (by simpa using hi))] at ha
  subst ha
  simp only [fillAll,Act.put,List.setIfInBounds_toArray,List.set_cons_succ,List.set_cons_zero]
  obtain ⟨m,ao7,k7⟩:=x
  dsimp only at hFin hgr hrow ⊢
  obtain ⟨hGc,hGa⟩:=hFin
  have hsz4:=HsZ.out
  have hne:=Xbg hGc hGa.1 (by decide)
  have ho8:=hGc.kept hgr (.inr hne)
  have hm:w.heap.size+4≤m:=by have:=hGa.2;omega
  have hok8:Ok I w8:=(hok4.below (Qn _) hbW).grown hgr (fun g e=>by cases e;exact hIf _ (by omega))
  have hb8:Below w.heap.size w w8:=(hb4.trans (hbW.mono hb4.size)).grown hgr (by have:=hbW.size;omega) (fun k e=>by cases e;omega)
  obtain ⟨J,hxJ,hokJ,hrJ,hJI⟩:=ho8.freeze hok8 (fun b hb=>hIf _ (by omega))
  have hkJ:=hxJ.keep hw (by omega)
  have hz:∀b,b<w.heap.size+4→w8.heap[b]? =W4.heap[b]? :=fun b hb=>(hgr.block _ (by have:=hbW.size;omega) (fun e=>by cases e;omega)).trans (hbW.block _ (by omega))
  have hJf:∀b,b<w.heap.size+4→w.heap.size≤b→J b=none:=fun b h1 h2=>(hxJ b (by omega)).trans (hIf b h2)
  have hJm:J m=none:=by rw [hJI m hne];exact hIf _ (by omega)
  have hxJ':=hxJ.mono (show w.heap.size≤W4.heap.size by omega)
  have HQ8:=Qh ((hz w.heap.size (by omega)).trans H40.out)
  have HC8:=Qh ((hz (w.heap.size+1) (by omega)).trans H41.out)
  have HX2:=Qh ((hz (w.heap.size+2) (by omega)).trans H42.out)
  have HX3:=Qh ((hz (w.heap.size+3) (by omega)).trans H43.out)
  have Hm8:=Qh hrow
  have hG2:Glob J:=HG.out.mono hkJ
  have Hvk2:=Qh (Hvk.out.mono hkJ)
  have k0:w8.cell? ⟨w.heap.size+1,0,none⟩=some (.int .i64 c.kind):=(cell_of_row _ _ 0 _ _ _ HC8.out).trans rfl
  clear hz hGc hGa hgr hrow hne ho8 hok8 hbW hC hup hxJ hJI hkJ c0 c1 c2 c3 H40 H41 H42 H43 Hcl hok4 hb4 hsz4
  by_cases hk:c.kind=1
  case neg=>
   have e1:(c.kind==1)=false:=by simpa using hk
   obtain ⟨e,he⟩:∃e:Ent,(⟨c.kind,c.path,c.attrs,c.target,0,[],[]⟩:Ent)=e:=⟨_,rfl⟩
   obtain ⟨q2,hq2⟩:∃q2,q2=q:=⟨_,rfl⟩
   have Hn:=Qh (show recP q c=(e,q2) by rw [recP,if_neg hk,he,hq2])
   subst hq2
   have hrx:RdS tXt J (.slice none e.exts.length 0) e.exts:=by rw [←he];exact RdS.nil _ _
   have hra:RdS tAt J (.slice ao7 e.attrs.length k7) e.attrs:=by rw [←he];exact hrJ
   have hwf:e.Wf:=by have:=Xn8 Hq.out Hc.out;rw [Hn.out] at this;exact this
   have Hchk:=Qh (fun w hw=>Xey J hG2 e _ _ hra hrx hwf (by rw [←he];exact hpl) (by rw [←he];exact htl) w hw)
   have HJ:=Qh (And.intro hxJ' (And.intro hra (And.intro hrx Hvk2.out)))
   have HJX:=Qh hokJ
   have HXm:=Qh (show w8.heap[m]? =some (.cells #[.int .i64 e.kind,S e.path,.slice ao7 e.attrs.length k7,S e.target,.int .i64 e.size,S e.digest,.slice none e.exts.length 0] 81 (0,0)) by rw [←he];exact Hm8.out)
   have HXq:=HQ8
   have hbX:=hb8
   have hJ2:=hJf (w.heap.size+2) (by omega) (by omega)
   have hJ3:=hJf (w.heap.size+3) (by omega) (by omega)
   clear hrx
   clear hk he hra hwf Hm8 HC8 HQ8 hb8 hokJ hrJ hJf
   go_wp2_with fail
   clear k0 e1
   have hBX:w.heap.size≤w8.heap.size:=hbX.size
   have hms:m≠w.heap.size+2:=by omega
   have hms3:m≠w.heap.size+3:=by omega
   refine Xak (X:=Nat) (fun _=>reL m w.heap.size e (.slice ao7 e.attrs.length k7) (.slice none e.exts.length 0) (.slice ak q2.cks.length ck) q2) (fun _=>RgD w.heap.size w8 (w.heap.size+2) (w.heap.size+3) 81 40 zeroRow (entRow e (.slice ao7 e.attrs.length k7) (.slice none e.exts.length 0)) #[.slice none 0 0,.int .i64 0,.string ⟨#[]⟩] #[.slice ak q2.cks.length ck,.int .i64 q2.ses,S q2.str] 4 5) (by kernel_rfl) (by kernel_rfl) ?_ ?_ ?_
   ·exact ⟨0,RgD.start _ hBX HX2.out HX3.out⟩
   ·rintro x s' a' w' i hsz hcl ha hC hi
    obtain ⟨hun,oi,hoi,hall⟩:=mem_ready.1 hi
    have Hm':=(hC.keep m (Array.getElem?_eq_some_iff.1 HXm.out).1 hms hms3).trans HXm.out
    have Hq':=(hC.keep w.heap.size (Array.getElem?_eq_some_iff.1 HXq.out).1 (by omega) (by omega)).trans HXq.out
    have hokw:Ok J w':=HJX.out.of_block fun b c hb=>hC.keep b (HJX.out.lt hb) (fun h=>by rw [h,hJ2] at hb;cases hb) (fun h=>by rw [h,hJ3] at hb;cases hb)
    rcases i with _|_|_|_|_|_|_|i
    rotate_left 7
    ·simp at hoi
    all_goals
     have hoj:=hoi
     simp at hoi
     subst hoi
     simp [Region.binds] at hall
    ·have e7:a'.tmps[7]?.getD undef= .pointer (some ⟨m,0,none⟩):=Xbe ha (by simp)
     have d0:w'.cell? ⟨m,0,none⟩=_:=(cell_of_row _ _ 0 _ _ _ Hm').trans rfl
     have d1:w'.cell? ⟨m,1,none⟩=_:=(cell_of_row _ _ 1 _ _ _ Hm').trans rfl
     have d2:w'.cell? ⟨m,2,none⟩=_:=(cell_of_row _ _ 2 _ _ _ Hm').trans rfl
     have d3:w'.cell? ⟨m,3,none⟩=_:=(cell_of_row _ _ 3 _ _ _ Hm').trans rfl
     have d4:w'.cell? ⟨m,4,none⟩=_:=(cell_of_row _ _ 4 _ _ _ Hm').trans rfl
     have d5:w'.cell? ⟨m,5,none⟩=_:=(cell_of_row _ _ 5 _ _ _ Hm').trans rfl
     have d6:w'.cell? ⟨m,6,none⟩=_:=(cell_of_row _ _ 6 _ _ _ Hm').trans rfl
     refine wpOp_step hoj (fun K' hK=> ?_)
     rw [if_pos (by rfl)]
     unfold Oper.wp
     simp [go_sem,e7,d0,d1,d2,d3,d4,d5,d6,Oper.upon]
     exact hK _ _ ⟨x,Xac (d:=some 43) (v:=entV e (.slice ao7 e.attrs.length k7) (.slice none e.exts.length 0)) Xaq ha rfl hun,hC.pure (by decide) (by decide)⟩
    ·have e2:a'.tmps[2]?.getD undef= .pointer (some ⟨w.heap.size,0,none⟩):=Xbe ha (by simp)
     have d0:w'.cell? ⟨w.heap.size,0,none⟩=_:=(cell_of_row _ _ 0 _ _ _ Hq').trans rfl
     have d1:w'.cell? ⟨w.heap.size,1,none⟩=_:=(cell_of_row _ _ 1 _ _ _ Hq').trans rfl
     have d2:w'.cell? ⟨w.heap.size,2,none⟩=_:=(cell_of_row _ _ 2 _ _ _ Hq').trans rfl
     refine wpOp_step hoj (fun K' hK=> ?_)
     rw [if_pos (by rfl)]
     unfold Oper.wp
     simp [go_sem,e2,d0,d1,d2,Oper.upon]
     exact hK _ _ ⟨x,Xac (d:=some 44) (v:=stoV q2 (.slice ak q2.cks.length ck)) Xaq ha rfl hun,hC.pure (by decide) (by decide)⟩
    ·have e7:a'.tmps[7]?.getD undef= .pointer (some ⟨m,0,none⟩):=Xbe ha (by simp)
     have d0:w'.cell? ⟨m,0,none⟩=_:=(cell_of_row _ _ 0 _ _ _ Hm').trans rfl
     have d1:w'.cell? ⟨m,1,none⟩=_:=(cell_of_row _ _ 1 _ _ _ Hm').trans rfl
     have d2:w'.cell? ⟨m,2,none⟩=_:=(cell_of_row _ _ 2 _ _ _ Hm').trans rfl
     have d3:w'.cell? ⟨m,3,none⟩=_:=(cell_of_row _ _ 3 _ _ _ Hm').trans rfl
     have d4:w'.cell? ⟨m,4,none⟩=_:=(cell_of_row _ _ 4 _ _ _ Hm').trans rfl
     have d5:w'.cell? ⟨m,5,none⟩=_:=(cell_of_row _ _ 5 _ _ _ Hm').trans rfl
     have d6:w'.cell? ⟨m,6,none⟩=_:=(cell_of_row _ _ 6 _ _ _ Hm').trans rfl
     refine wpOp_step hoj (fun K' hK=> ?_)
     rw [if_pos (by rfl)]
     unfold Oper.wp
     simp [go_sem,e7,d0,d1,d2,d3,d4,d5,d6,Oper.upon]
     exact hK _ _ ⟨x,Xac (d:=some 45) (v:=entV e (.slice ao7 e.attrs.length k7) (.slice none e.exts.length 0)) Xaq ha rfl hun,hC.pure (by decide) (by decide)⟩
    ·have e45:a'.tmps[45]?.getD undef=entV e (.slice ao7 e.attrs.length k7) (.slice none e.exts.length 0):=Xap (i:=2) Xaq ha rfl (by first|simpa using hall|simp [hall]) (by simp)
     refine wpOp_step hoj (fun K' hK=> ?_)
     rw [if_pos (by rfl)]
     unfold Oper.wp
     simp [go_sem,e45,Oper.upon]
     refine (Hchk.out w' hokw).mono ?_
     rintro r4 w4 ⟨rfl,hb4⟩
     exact hK _ _ ⟨x,Xac (d:=some 46) (v:= .int .i64 (entErr e)) Xaq ha rfl hun,hC.call hb4 (by decide) (by decide) hBX⟩
    ·have e4:a'.tmps[4]?.getD undef= .pointer (some ⟨w.heap.size+2,0,none⟩):=Xbe ha (by simp)
     have e43:a'.tmps[43]?.getD undef=entV e (.slice ao7 e.attrs.length k7) (.slice none e.exts.length 0):=Xap (i:=0) Xaq ha rfl (by first|simpa using hall|simp [hall]) (by simp)
     have hr1:=hC.r1
     rw [Xam hun] at hr1
     refine wpOp_step hoj (fun K' hK=> ?_)
     rw [if_pos (by rfl)]
     refine Xag 81 _ _ rfl (w.heap.size+2) 0 [.int .i64 e.kind,S e.path,.slice ao7 e.attrs.length k7,S e.target,.int .i64 e.size,S e.digest,.slice none e.exts.length 0] (entV e (.slice ao7 e.attrs.length k7) (.slice none e.exts.length 0)) (by simp [Act.eval,e4]) (by simp [Act.eval,e43]) (by rfl) zeroRow _ hr1 (by simp) (by kernel_rfl) (by simp [Value.oneCell']) ?_
     exact hK _ _ ⟨x,Xac (d:=none) (v:=undef) Xaq ha rfl hun,hC.put1 hun (by decide) (by omega) (by omega) (by rfl)⟩
    ·have e5:a'.tmps[5]?.getD undef= .pointer (some ⟨w.heap.size+3,0,none⟩):=Xbe ha (by simp)
     have e44:a'.tmps[44]?.getD undef=stoV q2 (.slice ak q2.cks.length ck):=Xap (i:=1) Xaq ha rfl (by first|simpa using hall|simp [hall]) (by simp)
     have hr2:=hC.r2
     rw [Xam hun] at hr2
     refine wpOp_step hoj (fun K' hK=> ?_)
     rw [if_pos (by rfl)]
     refine Xag 40 _ _ rfl (w.heap.size+3) 0 [.slice ak q2.cks.length ck,.int .i64 q2.ses,S q2.str] (stoV q2 (.slice ak q2.cks.length ck)) (by simp [Act.eval,e5]) (by simp [Act.eval,e44]) (by rfl) #[.slice none 0 0,.int .i64 0,.string ⟨#[]⟩] _ hr2 (by simp) (by kernel_rfl) (by simp [Value.oneCell']) ?_
     exact hK _ _ ⟨x,Xac (d:=none) (v:=undef) Xaq ha rfl hun,hC.put2 hun (by decide) (by omega) (by omega) (by rfl)⟩
    ·have e46:a'.tmps[46]?.getD undef= .int .i64 (entErr e):=Xap (i:=3) Xaq ha rfl (by first|simpa using hall|simp [hall]) (by simp)
     refine wpOp_step hoj (fun K' hK=> ?_)
     rw [if_pos (by rfl)]
     unfold Oper.wp
     simp [go_sem,e46,Oper.upon]
     exact hK _ _ ⟨x,Xac (d:=some 6) (v:= .int .i64 (entErr e)) Xaq ha rfl hun,hC.pure (by decide) (by decide)⟩
   ·rintro x s' a' w11 hup ha hC
    have hr1:=hC.r1
    have hr2:=hC.r2
    rw [hup 4 (by decide),if_pos rfl] at hr1
    rw [hup 5 (by decide),if_pos rfl] at hr2
    have Hr1:=Qh hr1
    have Hr2:=Qh hr2
    have hok11:Ok J w11:=HJX.out.of_block fun b c hb=>hC.keep b (HJX.out.lt hb) (fun h=>by rw [h,hJ2] at hb;cases hb) (fun h=>by rw [h,hJ3] at hb;cases hb)
    have hb11:=hbX.trans hC.bel
    rw [Xa6 _ _ _ _ (fun i hi=>by rw [Nat.zero_add];exact hup i (by simpa using hi))] at ha
    subst ha
    simp only [fillAll,Act.put]
    clear hC hup hr1 hr2 HX2 HX3 HXm HXq
    go_wp2
    refine bodyPost_ret (v:= .tuple #[entV e (.slice ao7 e.attrs.length k7) (.slice none e.exts.length 0),stoV q2 (.slice ak q2.cks.length ck),.int .i64 (entErr e)]) ?_ rfl ?_
    ·rw [Xcc rfl]
     simp [asAddr,run_loadVar_row w11 (w.heap.size+2) 81 81 _ (0,0) _ Hr1.out Tryz.underlying81 rfl Hi7.out,run_loadVar_row w11 (w.heap.size+3) 40 40 _ (0,0) _ Hr2.out Tryz.underlying40 rfl Hi3.out]
    ·rw [Hn.out]
     exact ⟨_,_,_,J,rfl,hb11,HJ.out.1,hok11,HJ.out.2.1,HJ.out.2.2.1,HJ.out.2.2.2⟩
  case pos=>
   have e1:(c.kind==1)=true:=by simpa using hk
   obtain ⟨sm,hsm⟩:∃sm,sumP c.content=sm:=⟨_,rfl⟩
   have Hsm:=Qh (fun (b:Nat) (W:World) (hc:W.cell? ⟨b,0,none⟩=some (S c.content)) (hb:b<W.heap.size)=>(by
    have:=Xl4 b 0 1 [c.content] c.content (by simp) (by omega) W (fun j x hj=>by
     rcases j with _|j
     ·simp at hj;subst hj;exact hc
     ·simp at hj) (by simp) hb (by simp)
    rwa [hsm] at this:Calls Tryz.prog 110 #[.slice (some ⟨b,0,none⟩) 1 1] W fun e w'=>e= .returned (S sm)∧Below W.heap.size W w'))
   have c4:w8.cell? ⟨w.heap.size+1,4,none⟩=some (S c.content):=(cell_of_row _ _ 4 _ _ _ HC8.out).trans rfl
   obtain ⟨q2,xs,pn,hpp⟩:∃q2 xs pn,putP q c.content=(q2,xs,pn):=⟨_,_,_,rfl⟩
   have hpn:pn=0:=by have:=(Xoe Hq.out hcl).2;rw [hpp] at this;exact this
   subst hpn
   have Hput:=Qh (fun w hw=>(by
    have hqq:=Hq.out
    have:=Xsd 4294901760 10000000 (by decide) (by decide) J q _ Hvk2.out ⟨by have:=hqq.s0;omega,by have:=hqq.s1;omega,hqq.str,hqn,fun k hk=>(hqq.cx k hk).x⟩ (fun k hk=>(hqq.cx k hk).d) c.content (by omega) w hw
    rwa [hpp] at this:Calls Tryz.prog 103 #[stoV q (.slice ak q.cks.length ck),S c.content] w (PutR J w (q2,xs,0))))
   have Hn0:=Qh (show recP q c=(⟨c.kind,c.path,c.attrs,c.target,(c.content.length:Nat),sm,xs⟩,q2) by rw [recP,if_pos hk,hpp,hsm])
   have Hwf:=Qh (show (⟨c.kind,c.path,c.attrs,c.target,(c.content.length:Nat),sm,xs⟩:Ent).Wf by have:=Xn8 Hq.out Hc.out;rw [Hn0.out] at this;exact this)
   have hmlt:m<w8.heap.size:=(Array.getElem?_eq_some_iff.1 Hm8.out).1
   have dle:decide ((c.content.length:Int)≤65536)=true:=Qt (by omega)
   clear hpp hsm hk
   go_wp2_with fail
   refine Xak (X:=Nat) (rdL w.heap.size m c.content sm) (RgE w8 5 232 223 233 224 234 225 235 (fun _ _=>True) (fun x w=>w.cell? ⟨x,0,none⟩=some (S c.content)) (fun _ _=>True) (fun _ _=>True) (fun _ _=>True) (fun _ _=>True) (fun x=>m) 81 8 10 212 (fun x=> #[.int .i64 c.kind,S c.path,.slice ao7 c.attrs.length k7,S c.target,.int .i64 (c.content.length:Int),.string ⟨#[]⟩,.slice none 0 0]) (fun x=> #[.int .i64 c.kind,S c.path,.slice ao7 c.attrs.length k7,S c.target,.int .i64 (c.content.length:Int),S sm,.slice none 0 0]) (fun x=> #[.int .i64 c.kind,S c.path,.slice ao7 c.attrs.length k7,S c.target,.int .i64 (c.content.length:Int),S sm,.slice none 0 0])) (by kernel_rfl) (by kernel_rfl) ?_ ?_ ?_
   ·exact ⟨0,RgE.start _ _ trivial⟩
   ·rintro x s' a' w' i hsz hcl ha hC hi
    obtain ⟨hun,oi,hoi,hall⟩:=mem_ready.1 hi
    have ev:=Xg4 Xb1 ha
    have hlt:=Xc9 hun
    rcases i with _|_|_|_|_|_|_|_|_|_|_|i
    rotate_left 11
    ·simp at hoi
    all_goals
     have hoj:=hoi
     simp at hoi
     subst hoi
     simp [Region.binds] at hall
     try have hl:=Xas 6 8 hcl (by decide +kernel) hun
     try have hbw:=hC.off hl
     try have c4:=Xaa hbw c4
     refine wpOp_step hoj (fun K' hK=> ?_)
     rw [if_pos (by rfl)]
    rotate_left 5
    ·unfold Oper.wp
     simp [go_sem,ev,evF,hall,Oper.upon,c4]
     have ha:=ha.trans (Xa3 (L:=rdL w.heap.size m c.content sm x) (M:=rdL w.heap.size m c.content sm w'.heap.size) [5] rfl (fun j hne=>by
      rcases j with _|_|_|_|_|_|_|_|_|_|_|j<;>first|rfl|(exact absurd (by decide) hne)|simp) (List.forall_mem_cons.2 ⟨Xam hun,List.forall_mem_nil _⟩))
     exact hK _ _ ⟨w'.heap.size,Xax Xb1 ha rfl hun,hC.step hl (hbw.trans (((Qb _ _).alloc (Qn _) _).mono hbw.size)) (by decide) (fun _=>trivial) (fun _ _=>by simp) (fun _ _=>trivial) (fun _ _=>trivial) (fun _ _=>trivial) hlt⟩
    ·have hcx:=hC.f1 (by first|simpa using hall|simp [hall]) (Xan (by simp [hsz])) hl
     unfold Oper.wp
     simp [go_sem,ev,evF,hall,Oper.upon]
     refine (Hsm.out x w' hcx (block_lt_of_cell hcx)).mono ?_
     rintro r4 w4 ⟨rfl,hb4⟩
     exact hK _ _ ⟨x,Xax Xb1 ha rfl hun,hC.step hl (hbw.trans (hb4.mono hbw.size)) (by decide) (fun _=>trivial) (fun h _=>h.elim (fun e=>absurd e (by decide)) (fun ⟨_,_,q⟩=>Xaa hb4 q)) (fun _ _=>trivial) (fun _ _=>trivial) (fun _ _=>trivial) hlt⟩
    rotate_left 1
    ·have hrow:w'.heap[m]? =some (.cells _ 81 (0,0)):=(hbw.block _ (Array.getElem?_eq_some_iff.1 Hm8.out).1).trans Hm8.out
     refine Xag 3 _ _ rfl (m) 4 [.int .i64 (c.content.length:Int)] (.int .i64 (c.content.length:Int)) (by simp [Act.eval,ev,evF,hall]) (by simp [Act.eval,ev,evF,hall]) (by rfl) _ _ hrow (by simp) (by kernel_rfl) (by simp [Value.oneCell']) ?_
     exact hK _ _ ⟨x,Xac (d:=none) (v:=undef) Xb1 ha rfl hun,hC.put1 hun trivial (Xas 6 10 hcl (by kernel_rfl) hun) (Xan (by simp [hsz])) (by decide) hrow (by rfl)⟩
    rotate_left 1
    ·have hrow:=hC.row1 (s1:=8) (by first|simpa using hall|simp [hall]) (Xam hun) (Xan (by simp [hsz]))
     refine Xag 9 _ _ rfl (m) 5 [S sm] (S sm) (by simp [Act.eval,ev,evF,hall]) (by simp [Act.eval,ev,evF,hall]) (by rfl) _ _ hrow (by simp) (by kernel_rfl) (by simp [Value.oneCell']) ?_
     exact hK _ _ ⟨x,Xac (d:=none) (v:=undef) Xb1 ha rfl hun,hC.put2 hun (by first|simpa using hall|simp [hall]) (Xan (by simp [hsz])) (by decide) (by rfl)⟩
    all_goals
     unfold Oper.wp
     first
     |(simp [go_sem,ev,evF,hall,Oper.upon,c4];exact hK _ _ ⟨x,Xax Xb1 ha rfl hun,hC.pure (by decide)⟩)
     |(simp [go_sem,ev,evF,Oper.upon,c4];exact hK _ _ ⟨x,Xax Xb1 ha rfl hun,hC.pure (by decide)⟩)
   ·rintro x s' a' w10 hup ha hC
    obtain ⟨wb,hbW,hFin,hgr,hrow⟩:=hC.on (hup 8 (by decide))
    rw [if_pos (hup 10 (by decide))] at hrow
    simp only [ite_self] at hrow
    rw [Xa6 _ _ _ _ (fun i hi=>by rw [Nat.zero_add];exact hup i (by simpa using hi))] at ha
    subst ha
    simp only [fillAll,Act.put,List.setIfInBounds_toArray,List.set_cons_succ,List.set_cons_zero]
    have hms8:=(Array.getElem?_eq_some_iff.1 hrow).1
    have hs8:=hbW.size
    have hok10:Ok J w10:=(hokJ.below (Qn _) hbW).grown hgr (fun g e=>by cases e;exact hJm)
    have hb10:Below w.heap.size w w10:=(hb8.trans (hbW.mono hb8.size)).grown hgr (by have:=hb8.size;omega) (fun k e=>by cases e;omega)
    have hz:∀b,b<w.heap.size+4→w10.heap[b]? =w8.heap[b]? :=fun b hb=>(hgr.block _ (by omega) (fun e=>by cases e;omega)).trans (hbW.block _ (by omega))
    have HQ9:=Qh ((hz w.heap.size (by omega)).trans HQ8.out)
    have HC9:=Qh ((hz (w.heap.size+1) (by omega)).trans HC8.out)
    have HX29:=Qh ((hz (w.heap.size+2) (by omega)).trans HX2.out)
    have HX39:=Qh ((hz (w.heap.size+3) (by omega)).trans HX3.out)
    have Hm9:=Qh hrow
    have k4:w10.cell? ⟨w.heap.size+1,4,none⟩=some (S c.content):=(cell_of_row _ _ 4 _ _ _ HC9.out).trans rfl
    have q0:w10.cell? ⟨w.heap.size,0,none⟩=some (.slice ak q.cks.length ck):=(cell_of_row _ _ 0 _ _ _ HQ9.out).trans rfl
    have q1:w10.cell? ⟨w.heap.size,1,none⟩=some (.int .i64 q.ses):=(cell_of_row _ _ 1 _ _ _ HQ9.out).trans rfl
    have q2':w10.cell? ⟨w.heap.size,2,none⟩=some (S q.str):=(cell_of_row _ _ 2 _ _ _ HQ9.out).trans rfl
    clear hz hgr hrow hbW hC hup HX2 HX3 Hm8 HC8 HQ8 c4 Hsm k0
    have hms10:m<w10.heap.size:=(Array.getElem?_eq_some_iff.1 Hm9.out).1
    go_wp2_with fail
    refine (Hput.out _ hok10).mono ?_
    rintro e12 w12 ⟨vk3,vx3,J,rfl,hb12,hx12,hok12,hrk,hrx0⟩
    obtain ⟨ak3,ck3,rfl,_,_,_⟩:=id hrk
    obtain ⟨ax3,cx3,rfl,_,_,_⟩:=id hrx0
    have hs12:=hb12.size
    have hn12:=(hb12.block _ (by omega)).trans HQ9.out
    have hm12:=(hb12.block _ hms10).trans Hm9.out
    clear q0 q1 q2' k4 e1 dle
    go_wp2_with (first
     |(refine Xab rfl rfl 40 _ _ rfl w.heap.size 0 [.slice ak3 q2.cks.length ck3,.int .i64 q2.ses,S q2.str] (stoV q2 (.slice ak3 q2.cks.length ck3)) (by simp [Act.eval]) (by simp [Act.eval]) (by rfl) _ 40 hn12 (by simp) (by kernel_rfl) (by simp [Value.oneCell']) #[.slice ak3 q2.cks.length ck3,.int .i64 q2.ses,S q2.str] (by rfl) ?_
       intro w13 hg13 hr13)
     |(refine Xab rfl rfl 79 _ _ rfl m 6 [.slice ax3 xs.length cx3] (.slice ax3 xs.length cx3) (by simp [Act.eval]) (by simp [Act.eval]) (by rfl) _ 81 ((hg13.block _ (by omega) (fun e=>by cases e;omega)).trans hm12) (by simp) (by kernel_rfl) (by simp [Value.oneCell']) #[.int .i64 c.kind,S c.path,.slice ao7 c.attrs.length k7,S c.target,.int .i64 (c.content.length:Int),S sm,.slice ax3 xs.length cx3] (by rfl) ?_
       intro w14 hg14 hr14))
    have hs13:=hg13.size
    have hs14:=hg14.size
    have hkp:=hx12.keep hok10 (Qn _)
    have hJ2:J (w.heap.size+2)=none:=(hx12 _ (by omega)).trans (hJf _ (by omega) (by omega))
    have hJ3:J (w.heap.size+3)=none:=(hx12 _ (by omega)).trans (hJf _ (by omega) (by omega))
    have hJn:J w.heap.size=none:=(hx12 _ (by omega)).trans (hJf _ (by omega) (by omega))
    have hJm':J m=none:=(hx12 _ hms10).trans hJm
    have hz:∀b,b<w.heap.size+4→b≠w.heap.size→w14.heap[b]? =w10.heap[b]? :=fun b hb hn=>((hg14.block _ (by omega) (fun e=>by cases e;omega)).trans (hg13.block _ (by omega) (fun e=>by cases e;omega))).trans (hb12.block _ (by omega))
    have HX2:=Qh ((hz (w.heap.size+2) (by omega) (by omega)).trans HX29.out)
    have HX3:=Qh ((hz (w.heap.size+3) (by omega) (by omega)).trans HX39.out)
    have HXq:=Qh ((hg14.block w.heap.size (by omega) (fun e=>by cases e;omega)).trans hr13)
    have HJX:=Qh ((hok12.grown hg13 (fun g e=>by cases e;exact hJn)).grown hg14 (fun g e=>by cases e;exact hJm'))
    have hbX:Below w.heap.size w w14:=((hb10.trans (hb12.mono hb10.size)).grown hg13 (by omega) (fun k e=>by cases e;omega)).grown hg14 (by omega) (fun k e=>by cases e;omega)
    obtain ⟨e,he⟩:∃e:Ent,(⟨c.kind,c.path,c.attrs,c.target,(c.content.length:Nat),sm,xs⟩:Ent)=e:=⟨_,rfl⟩
    have Hn:=Qh (show recP q c=(e,q2) by rw [Hn0.out,he])
    have hra:RdS tAt J (.slice ao7 e.attrs.length k7) e.attrs:=by rw [←he];exact hrJ.mono hkp
    have hrx:RdS tXt J (.slice ax3 e.exts.length cx3) e.exts:=by rw [←he];exact hrx0
    have hwf:e.Wf:=by rw [←he];exact Hwf.out
    have Hchk:=Qh (fun w hw=>Xey J (hG2.mono hkp) e _ _ hra hrx hwf (by rw [←he];exact hpl) (by rw [←he];exact htl) w hw)
    have HJ:=Qh (And.intro (hxJ'.trans (hx12.mono (show w.heap.size≤_ by omega)) (Qn _)) (And.intro hra (And.intro hrx hrk)))
    have HXm:=Qh (show w14.heap[m]? =some (.cells #[.int .i64 e.kind,S e.path,.slice ao7 e.attrs.length k7,S e.target,.int .i64 e.size,S e.digest,.slice ax3 e.exts.length cx3] 81 (0,0)) by rw [←he];exact hr14)
    clear he hra hwf hrx hrx0 Hwf Hn0 hr13 hr14 hg13 hg14 hz hkp hb12 hx12 hok12 hn12 hm12 hok10 hb10 HX29 HX39 HQ9 HC9 Hm9 Hput hrJ hrk hxJ' hJf hG2 hokJ hb8 hJn hJm' hJm
    have hBX:w.heap.size≤w14.heap.size:=hbX.size
    have hms:m≠w.heap.size+2:=by omega
    have hms3:m≠w.heap.size+3:=by omega
    refine Xak (X:=Nat) (fun _=>reL m w.heap.size e (.slice ao7 e.attrs.length k7) (.slice ax3 e.exts.length cx3) (.slice ak3 q2.cks.length ck3) q2) (fun _=>RgD w.heap.size w14 (w.heap.size+2) (w.heap.size+3) 81 40 zeroRow (entRow e (.slice ao7 e.attrs.length k7) (.slice ax3 e.exts.length cx3)) #[.slice none 0 0,.int .i64 0,.string ⟨#[]⟩] #[.slice ak3 q2.cks.length ck3,.int .i64 q2.ses,S q2.str] 4 5) (by kernel_rfl) (by kernel_rfl) ?_ ?_ ?_
    ·exact ⟨0,RgD.start _ hBX HX2.out HX3.out⟩
    ·rintro x s' a' w' i hsz hcl ha hC hi
     obtain ⟨hun,oi,hoi,hall⟩:=mem_ready.1 hi
     have Hm':=(hC.keep m (Array.getElem?_eq_some_iff.1 HXm.out).1 hms hms3).trans HXm.out
     have Hq':=(hC.keep w.heap.size (Array.getElem?_eq_some_iff.1 HXq.out).1 (by omega) (by omega)).trans HXq.out
     have hokw:Ok J w':=HJX.out.of_block fun b c hb=>hC.keep b (HJX.out.lt hb) (fun h=>by rw [h,hJ2] at hb;cases hb) (fun h=>by rw [h,hJ3] at hb;cases hb)
     rcases i with _|_|_|_|_|_|_|i
     rotate_left 7
     ·simp at hoi
     all_goals
      have hoj:=hoi
      simp at hoi
      subst hoi
      simp [Region.binds] at hall
     ·have e7:a'.tmps[7]?.getD undef= .pointer (some ⟨m,0,none⟩):=Xbe ha (by simp)
      have d0:w'.cell? ⟨m,0,none⟩=_:=(cell_of_row _ _ 0 _ _ _ Hm').trans rfl
      have d1:w'.cell? ⟨m,1,none⟩=_:=(cell_of_row _ _ 1 _ _ _ Hm').trans rfl
      have d2:w'.cell? ⟨m,2,none⟩=_:=(cell_of_row _ _ 2 _ _ _ Hm').trans rfl
      have d3:w'.cell? ⟨m,3,none⟩=_:=(cell_of_row _ _ 3 _ _ _ Hm').trans rfl
      have d4:w'.cell? ⟨m,4,none⟩=_:=(cell_of_row _ _ 4 _ _ _ Hm').trans rfl
      have d5:w'.cell? ⟨m,5,none⟩=_:=(cell_of_row _ _ 5 _ _ _ Hm').trans rfl
      have d6:w'.cell? ⟨m,6,none⟩=_:=(cell_of_row _ _ 6 _ _ _ Hm').trans rfl
      refine wpOp_step hoj (fun K' hK=> ?_)
      rw [if_pos (by rfl)]
      unfold Oper.wp
      simp [go_sem,e7,d0,d1,d2,d3,d4,d5,d6,Oper.upon]
      exact hK _ _ ⟨x,Xac (d:=some 43) (v:=entV e (.slice ao7 e.attrs.length k7) (.slice ax3 e.exts.length cx3)) Xaq ha rfl hun,hC.pure (by decide) (by decide)⟩
     ·have e2:a'.tmps[2]?.getD undef= .pointer (some ⟨w.heap.size,0,none⟩):=Xbe ha (by simp)
      have d0:w'.cell? ⟨w.heap.size,0,none⟩=_:=(cell_of_row _ _ 0 _ _ _ Hq').trans rfl
      have d1:w'.cell? ⟨w.heap.size,1,none⟩=_:=(cell_of_row _ _ 1 _ _ _ Hq').trans rfl
      have d2:w'.cell? ⟨w.heap.size,2,none⟩=_:=(cell_of_row _ _ 2 _ _ _ Hq').trans rfl
      refine wpOp_step hoj (fun K' hK=> ?_)
      rw [if_pos (by rfl)]
      unfold Oper.wp
      simp [go_sem,e2,d0,d1,d2,Oper.upon]
      exact hK _ _ ⟨x,Xac (d:=some 44) (v:=stoV q2 (.slice ak3 q2.cks.length ck3)) Xaq ha rfl hun,hC.pure (by decide) (by decide)⟩
     ·have e7:a'.tmps[7]?.getD undef= .pointer (some ⟨m,0,none⟩):=Xbe ha (by simp)
      have d0:w'.cell? ⟨m,0,none⟩=_:=(cell_of_row _ _ 0 _ _ _ Hm').trans rfl
      have d1:w'.cell? ⟨m,1,none⟩=_:=(cell_of_row _ _ 1 _ _ _ Hm').trans rfl
      have d2:w'.cell? ⟨m,2,none⟩=_:=(cell_of_row _ _ 2 _ _ _ Hm').trans rfl
      have d3:w'.cell? ⟨m,3,none⟩=_:=(cell_of_row _ _ 3 _ _ _ Hm').trans rfl
      have d4:w'.cell? ⟨m,4,none⟩=_:=(cell_of_row _ _ 4 _ _ _ Hm').trans rfl
      have d5:w'.cell? ⟨m,5,none⟩=_:=(cell_of_row _ _ 5 _ _ _ Hm').trans rfl
      have d6:w'.cell? ⟨m,6,none⟩=_:=(cell_of_row _ _ 6 _ _ _ Hm').trans rfl
      refine wpOp_step hoj (fun K' hK=> ?_)
      rw [if_pos (by rfl)]
      unfold Oper.wp
      simp [go_sem,e7,d0,d1,d2,d3,d4,d5,d6,Oper.upon]
      exact hK _ _ ⟨x,Xac (d:=some 45) (v:=entV e (.slice ao7 e.attrs.length k7) (.slice ax3 e.exts.length cx3)) Xaq ha rfl hun,hC.pure (by decide) (by decide)⟩
     ·have e45:a'.tmps[45]?.getD undef=entV e (.slice ao7 e.attrs.length k7) (.slice ax3 e.exts.length cx3):=Xap (i:=2) Xaq ha rfl (by first|simpa using hall|simp [hall]) (by simp)
      refine wpOp_step hoj (fun K' hK=> ?_)
      rw [if_pos (by rfl)]
      unfold Oper.wp
      simp [go_sem,e45,Oper.upon]
      refine (Hchk.out w' hokw).mono ?_
      rintro r4 w4 ⟨rfl,hb4⟩
      exact hK _ _ ⟨x,Xac (d:=some 46) (v:= .int .i64 (entErr e)) Xaq ha rfl hun,hC.call hb4 (by decide) (by decide) hBX⟩
     ·have e4:a'.tmps[4]?.getD undef= .pointer (some ⟨w.heap.size+2,0,none⟩):=Xbe ha (by simp)
      have e43:a'.tmps[43]?.getD undef=entV e (.slice ao7 e.attrs.length k7) (.slice ax3 e.exts.length cx3):=Xap (i:=0) Xaq ha rfl (by first|simpa using hall|simp [hall]) (by simp)
      have hr1:=hC.r1
      rw [Xam hun] at hr1
      refine wpOp_step hoj (fun K' hK=> ?_)
      rw [if_pos (by rfl)]
      refine Xag 81 _ _ rfl (w.heap.size+2) 0 [.int .i64 e.kind,S e.path,.slice ao7 e.attrs.length k7,S e.target,.int .i64 e.size,S e.digest,.slice ax3 e.exts.length cx3] (entV e (.slice ao7 e.attrs.length k7) (.slice ax3 e.exts.length cx3)) (by simp [Act.eval,e4]) (by simp [Act.eval,e43]) (by rfl) zeroRow _ hr1 (by simp) (by kernel_rfl) (by simp [Value.oneCell']) ?_
      exact hK _ _ ⟨x,Xac (d:=none) (v:=undef) Xaq ha rfl hun,hC.put1 hun (by decide) (by omega) (by omega) (by rfl)⟩
     ·have e5:a'.tmps[5]?.getD undef= .pointer (some ⟨w.heap.size+3,0,none⟩):=Xbe ha (by simp)
      have e44:a'.tmps[44]?.getD undef=stoV q2 (.slice ak3 q2.cks.length ck3):=Xap (i:=1) Xaq ha rfl (by first|simpa using hall|simp [hall]) (by simp)
      have hr2:=hC.r2
      rw [Xam hun] at hr2
      refine wpOp_step hoj (fun K' hK=> ?_)
      rw [if_pos (by rfl)]
      refine Xag 40 _ _ rfl (w.heap.size+3) 0 [.slice ak3 q2.cks.length ck3,.int .i64 q2.ses,S q2.str] (stoV q2 (.slice ak3 q2.cks.length ck3)) (by simp [Act.eval,e5]) (by simp [Act.eval,e44]) (by rfl) #[.slice none 0 0,.int .i64 0,.string ⟨#[]⟩] _ hr2 (by simp) (by kernel_rfl) (by simp [Value.oneCell']) ?_
      exact hK _ _ ⟨x,Xac (d:=none) (v:=undef) Xaq ha rfl hun,hC.put2 hun (by decide) (by omega) (by omega) (by rfl)⟩
     ·have e46:a'.tmps[46]?.getD undef= .int .i64 (entErr e):=Xap (i:=3) Xaq ha rfl (by first|simpa using hall|simp [hall]) (by simp)
      refine wpOp_step hoj (fun K' hK=> ?_)
      rw [if_pos (by rfl)]
      unfold Oper.wp
      simp [go_sem,e46,Oper.upon]
      exact hK _ _ ⟨x,Xac (d:=some 6) (v:= .int .i64 (entErr e)) Xaq ha rfl hun,hC.pure (by decide) (by decide)⟩
    ·rintro x s' a' w11 hup ha hC
     have hr1:=hC.r1
     have hr2:=hC.r2
     rw [hup 4 (by decide),if_pos rfl] at hr1
     rw [hup 5 (by decide),if_pos rfl] at hr2
     have Hr1:=Qh hr1
     have Hr2:=Qh hr2
     have hok11:Ok J w11:=HJX.out.of_block fun b c hb=>hC.keep b (HJX.out.lt hb) (fun h=>by rw [h,hJ2] at hb;cases hb) (fun h=>by rw [h,hJ3] at hb;cases hb)
     have hb11:=hbX.trans hC.bel
     rw [Xa6 _ _ _ _ (fun i hi=>by rw [Nat.zero_add];exact hup i (by simpa using hi))] at ha
     subst ha
     simp only [fillAll,Act.put]
     clear hC hup hr1 hr2 HX2 HX3 HXm HXq
     go_wp2
     refine bodyPost_ret (v:= .tuple #[entV e (.slice ao7 e.attrs.length k7) (.slice ax3 e.exts.length cx3),stoV q2 (.slice ak3 q2.cks.length ck3),.int .i64 (entErr e)]) ?_ rfl ?_
     ·rw [Xcc rfl]
      simp [asAddr,run_loadVar_row w11 (w.heap.size+2) 81 81 _ (0,0) _ Hr1.out Tryz.underlying81 rfl Hi7.out,run_loadVar_row w11 (w.heap.size+3) 40 40 _ (0,0) _ Hr2.out Tryz.underlying40 rfl Hi3.out]
     ·rw [Hn.out]
      exact ⟨_,_,_,J,rfl,hb11,HJ.out.1,hok11,HJ.out.2.1,HJ.out.2.2.1,HJ.out.2.2.2⟩
abbrev chgCs (c:Chg) (va:Value):List Value:= [.int .i64 c.kind,S c.path,va,S c.target,S c.content]
abbrev chgV (c:Chg) (va:Value):Value:= .agg #[.int .i64 c.kind,S c.path,va,S c.target,S c.content]
def tChg:Ty Chg where
 size:=5
 rd:=fun I cs c=> ∃va,cs=chgCs c va∧RdS tAt I va c.attrs
 len:=fun ⟨_,h,_⟩=>by rw [h];rfl
 one:=fun ⟨va,h,h1⟩ u hu=>by
  rw [h] at hu
  simp at hu
  rcases hu with rfl|rfl|rfl|rfl|rfl<;>first|rfl|exact h1.one
 mono:=fun hI ⟨va,h,h1⟩=>⟨va,h,h1.mono hI⟩
structure ChgAt (w:World) (b o:Nat) (c:Chg) (va:Value):Prop where
 c0:w.cell? ⟨b,o,none⟩=some (.int .i64 c.kind)
 c1:w.cell? ⟨b,o+1,none⟩=some (S c.path)
 c2:w.cell? ⟨b,o+2,none⟩=some va
 c3:w.cell? ⟨b,o+3,none⟩=some (S c.target)
 c4:w.cell? ⟨b,o+4,none⟩=some (S c.content)
theorem Xun {I:IH} {v:Value} {l:List Chg} {w:World} (h:RdS tChg I v l) (hw:Ok I w) (i:Nat) (hi:i<l.length):∃x va b off cap,l[i]=x∧v= .slice (some ⟨b,off,none⟩) l.length cap∧
 ChgAt w b (off+i*5) x va∧RdS tAt I va x.attrs:=by
 obtain ⟨b,off,cap,cs,hv,⟨va,hcs,h1⟩,hc⟩:=h.at_ hw hi
 subst hcs
 exact ⟨_,va,b,off,cap,rfl,hv,⟨hc 0 _ rfl,hc 1 _ rfl,hc 2 _ rfl,hc 3 _ rfl,hc 4 _ rfl⟩,h1⟩
structure ChgB (w:World) (n:Nat) (c:Chg) (va:Value):Prop where
 c0:w.cell? ⟨n,0,none⟩=some (.int .i64 c.kind)
 c1:w.cell? ⟨n,1,none⟩=some (S c.path)
 c2:w.cell? ⟨n,2,none⟩=some va
 c3:w.cell? ⟨n,3,none⟩=some (S c.target)
 c4:w.cell? ⟨n,4,none⟩=some (S c.content)
theorem ChgB.thru {w w':World} {b:Nat} {c:Chg} {va:Value} (h:ChgB w b c va) (hb:Below w.heap.size w w'):ChgB w' b c va:=
 ⟨Xaa hb h.c0,Xaa hb h.c1,Xaa hb h.c2,Xaa hb h.c3,Xaa hb h.c4⟩
theorem chgB_row {w:World} {b:Nat} {c:Chg} {va:Value} {t:TypeId} (h:w.heap[b]? =some (.cells #[.int .i64 c.kind,S c.path,va,S c.target,S c.content] t (0,0))):ChgB w b c va:=
 ⟨(cell_of_row _ _ 0 _ _ _ h).trans rfl,(cell_of_row _ _ 1 _ _ _ h).trans rfl,(cell_of_row _ _ 2 _ _ _ h).trans rfl,(cell_of_row _ _ 3 _ _ _ h).trans rfl,(cell_of_row _ _ 4 _ _ _ h).trans rfl⟩
structure Bat where
 date:Int
 chgs:List Chg
def tBat:Ty Bat where
 size:=2
 rd:=fun I cs b=> ∃vc,cs= [.int .i64 b.date,vc]∧RdS tChg I vc b.chgs
 len:=fun ⟨_,h,_⟩=>by rw [h];rfl
 one:=fun ⟨vc,h,h1⟩ u hu=>by
  rw [h] at hu
  simp at hu
  rcases hu with rfl|rfl<;>first|rfl|exact h1.one
 mono:=fun hI ⟨vc,h,h1⟩=>⟨vc,h,h1.mono hI⟩
def bigAt (x:At):Bool:=decide (80<x.k.length) || decide (80<x.v.length)
def bigC (c:Chg):Bool:=decide (250<c.path.length) || decide (250<c.target.length) || decide (20<c.attrs.length) || decide (600<c.content.length) || c.attrs.any bigAt
def totC (l:List Bat):Nat:=(l.map fun b=>b.chgs.length).sum
def gr39 (l:List Bat):Bool:=(l.any fun b=>b.chgs.any bigC) || decide (10<totC l) || decide (4<l.length)
def gr39I (l:List Bat):Int:=if gr39 l then 1 else 0
structure Chg.Sm (c:Chg):Prop where
 k0: -9223372036854775808≤c.kind
 k1:c.kind≤9223372036854775807
 path:c.path.length≤250
 target:c.target.length≤250
 nattrs:c.attrs.length≤20
 content:c.content.length≤600
 attrs:∀x∈c.attrs,x.k.length≤80∧x.v.length≤80
structure Chg.In (c:Chg):Prop where
 k0: -9223372036854775808≤c.kind
 k1:c.kind≤9223372036854775807
structure Bat.In (b:Bat):Prop where
 d0: -9223372036854775808≤b.date
 d1:b.date≤9223372036854775807
 chgs:∀c∈b.chgs,c.In
def wrtsP (L:List Ses) (l:List Bat):List Ses:=l.foldl (fun L b=>(wrtP L b.date b.chgs).1) L
end Go.Proofs.YtmdfjnhfhidmhaaGreatDoor
