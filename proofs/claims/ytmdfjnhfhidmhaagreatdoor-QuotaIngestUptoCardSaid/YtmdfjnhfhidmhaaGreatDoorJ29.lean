/- Lemmas for the claim's theorem;conditions: as each says. -/
import Derived.Test.YtmdfjnhfhidmhaaGreatDoorJ24
import Derived.Test.YtmdfjnhfhidmhaaGreatDoorJ27
import Derived.Test.YtmdfjnhfhidmhaaGreatDoorJ28
set_option maxHeartbeats 0
set_option maxRecDepth 100000
set_option linter.all false
namespace Go.Proofs.YtmdfjnhfhidmhaaGreatDoor
open Go.RowKit
variable{s:Array Bool}{R:Array Value}{w:World}{i:Nat}{ops:Array Oper}{a:Act}{n:Nat}{va:Value}{L:List (Option Tmp×Value)}{a':Act}{v:Value}{m b:Nat}{c:jK}
theorem kC{P:Program}{rest:List Oper}{o:Oper}{Q:Exit→Act→World→Prop}(yg:o.guard=none)(hd:o.dst=none)(ty:TypeId)(x y:Operand)(ho:o.op= .store ty x y)
 (g off:Nat) (cs:List Value) (v:Value) (hx:a.eval x= .pointer (some ⟨g,off,none⟩)) (hy:a.eval y=v) (hv:v.cells=cs.toArray) (cur:Array Value) (tt:TypeId)
 (hg:w.heap[g]?=some (.cells cur tt (0,0))) (nN:off+cs.length≤cur.size) (hi:(P.info? ty).map (·.size)=some cs.length) (h1:∀v∈cs,v.oneCell'=true) (R:Array Value) (hR:over cur off cs=R)
 (h:∀w',w.grownBy w' (some g)→w'.heap[g]?=some (.cells R tt (0,0))→wpList P ops Q rest a w'):wpList P ops Q (o::rest) a w:=by
 refine wpList_plain yg fun _ hK=> ?_;exact wE ty x y ho g off cs v hx hy hv cur tt hg nN hi h1 (hK _ _ (by rw[hd];exact h _ Al (by rw[←hR];exact setRow_heap w g cur _ tt (0,0) hg)))
def ik:List (Option Tmp×Value)→Nat→Array Bool→Tmp→Value→Value
 | [],_,_,_,d=>d
 |(e,u)::l,k,s,t,d=>if e=some t then(if s.getD k false=true then u else d)else ik l (k+1) s t d
theorem Z4:∀(l:List (Option Tmp×Value)) (k:Nat) (s:Array Bool) (a:Act) (t:Tmp),cO l→t<a.tmps.size→(df l k s a).eval (.tmp t)=ik l k s t (a.eval (.tmp t))
 | [],_,_,_,_,_,_=>rfl
 |(e,u)::l,k,s,a,t,hp,ht=>by
  obtain⟨h1,h2⟩:=List.pairwise_cons.1 hp;rw[df,ik];by_cases he:e=some t
  ·subst he;rw[if_pos rfl,Vb l _ _ _ _ fun p hp=>h1 p hp t rfl];split
   ·simp[Act.eval,Act.put,ht]
   ·rfl
  ·rw[if_neg he];by_cases hs:s.getD k false=true
   ·rw[if_pos hs,Z4 l _ _ _ _ h2 (by rw[Xn1];exact ht),Xhc a u he]
   ·rw[if_neg hs];exact Z4 l _ _ _ _ h2 ht
theorem Je(hp:cO L)(ha:a'=df L 0 s a)(t:Tmp)(ht:t<a.tmps.size):a'.tmps[t]?.getD undef=ik L 0 s t (a.tmps[t]?.getD undef):=by
 have h:=Z4 L 0 s a t hp ht;rw[←ha]at h;simpa[Act.eval]using h
theorem mF{d:Tmp}(hp:cO L)(ha:a'=df L 0 s a)(hi:L[i]?=some (some d,v))(aN:s.getD i true=false):
 ({tmps:=a'.tmps.setIfInBounds d v,defers:=a'.defers}:Act)=df L 0 (s.setIfInBounds i true) a:=eO (d:=some d) hp ha hi aN
def vF(ops:Array Oper):Nat→Nat→Nat→Bool
 |0,k,i=>k==i
 |f+1,k,i=>k==i || (match ops[k]? with|some o=>o.after.any fun e=>Region.binds .any e&&vF ops f e.on i|none=>false)
theorem Xn0(h:IV ops s):∀(f k i:Nat),vF ops f k i=true→s.getD k false=true→s.getD i false=true
 |0,k,i,hr,hk=>by
  have:k=i:=by simpa[vF]using hr
  subst this;exact hk
 |f+1,k,i,hr,hk=>by
  rw[vF,Bool.or_eq_true]at hr;rcases hr with hr|hr
  ·have:k=i:=by simpa using hr
   subst this;exact hk
  ·cases ho:ops[k]? with
   |none=>rw[ho]at hr;cases hr
   |some o=>
    rw[ho]at hr;simp only[Array.any_eq_true,Bool.and_eq_true]at hr;obtain⟨n,hn,h3,h4⟩:=hr;exact Xn0 h f _ i h4 (h k o ho hk _ (Array.getElem_mem hn) h3)
theorem tO(f k:Nat)(h:IV ops s)(hp:vF ops f k i=true)(aN:s.getD i true=false):s.getD k false=false:=by
 cases hk:s.getD k false with
 |false=>rfl
 |true=>have:=Xn0 h f k i hp hk;rw[jZ aN]at this;cases this
theorem Ef{g:Nat}(h:(s.setIfInBounds i true).getD g false=false):s.getD g false=false:=by
 by_cases e:i=g
 ·subst e;cases hg:s.getD i false with
  |false=>rfl
  |true=>
   have hlt:i<s.size:=by
    rcases Nat.lt_or_ge i s.size with h'|h'
    ·exact h'
    ·rw[mI h']at hg;cases hg
   rw[zY hlt]at h;cases h
 ·rwa[getD_set_ne false e]at h
theorem VF{j:Nat}(h:(s.setIfInBounds i true).getD j false=true):i=j∨s.getD j false=true:=by
 by_cases e:i=j
 ·exact .inl e
 ·rw[getD_set_ne false e]at h;exact .inr h
structure nL {X:Type} (W:World) (j1 g1 j2 g2 j3 g3 j4 g4:Nat) (G0 G1 G2 G3 G4 Fin:X→World→Prop) (m:X→Nat) (t:TypeId) (s1 s2 s3:Nat) (R1 R2 R3:X→Array Value) (x:X) (s:Array Bool) (w:World):Prop where
 off:s.getD s1 false=false→Below W.heap.size W w
 inv:s.getD s1 false=false→G0 x w
 f1:s.getD j1 false=true→s.getD g1 false=false→s.getD s1 false=false→G1 x w
 f2:s.getD j2 false=true→s.getD g2 false=false→s.getD s1 false=false→G2 x w
 f3:s.getD j3 false=true→s.getD g3 false=false→s.getD s1 false=false→G3 x w
 f4:s.getD j4 false=true→s.getD g4 false=false→s.getD s1 false=false→G4 x w
 on:s.getD s1 false=true→ ∃wb,Below W.heap.size W wb∧Fin x wb∧wb.grownBy w (some (m x))∧
  w.heap[m x]?=some (.cells (if s.getD s3 false=true then R3 x else if s.getD s2 false=true then R2 x else R1 x) t (0,0))
section
variable {X:Type} {W w w':World} {j1 g1 j2 g2 j3 g3 j4 g4:Nat} {G0 G1 G2 G3 G4 Fin:X→World→Prop} {m:X→Nat} {t:TypeId} {s1 s2 s3:Nat} {R1 R2 R3:X→Array Value} {x:X} {s:Array Bool} {i:Nat}
theorem nL.start(n:Nat)(x:X)(h0:G0 x {W with drawn:=W.drawn+1}):nL W j1 g1 j2 g2 j3 g3 j4 g4 G0 G1 G2 G3 G4 Fin m t s1 s2 s3 R1 R2 R3 x (Array.replicate n false) {W with drawn:=W.drawn+1}:=
 ⟨fun _=>(Qb _ _).drew,fun _=>h0,fun h=>(by rw[zf]at h;cases h),fun h=>(by rw[zf]at h;cases h),fun h=>(by rw[zf]at h;cases h),fun h=>(by rw[zf]at h;cases h),fun h=>(by rw[zf]at h;cases h)⟩
theorem nL.pure(h:nL W j1 g1 j2 g2 j3 g3 j4 g4 G0 G1 G2 G3 G4 Fin m t s1 s2 s3 R1 R2 R3 x s w)(hd:i≠j1∧i≠j2∧i≠j3∧i≠s1∧i≠s2∧i≠s3∧i≠j4):nL W j1 g1 j2 g2 j3 g3 j4 g4 G0 G1 G2 G3 G4 Fin m t s1 s2 s3 R1 R2 R3 x (s.setIfInBounds i true) w:=by
 obtain⟨h1,h2,h3,h4,h5,h6,h7⟩:=hd;refine⟨?_,?_,?_,?_,?_,?_,?_⟩
 ·rw[getD_set_ne false h4];exact h.off
 ·rw[getD_set_ne false h4];exact h.inv
 ·rw[getD_set_ne false h1,getD_set_ne false h4];exact fun a b=>h.f1 a (Ef b)
 ·rw[getD_set_ne false h2,getD_set_ne false h4];exact fun a b=>h.f2 a (Ef b)
 ·rw[getD_set_ne false h3,getD_set_ne false h4];exact fun a b=>h.f3 a (Ef b)
 ·rw[getD_set_ne false h7,getD_set_ne false h4];exact fun a b=>h.f4 a (Ef b)
 ·rw[getD_set_ne false h4,getD_set_ne false h5,getD_set_ne false h6];exact h.on
theorem nL.step(h:nL W j1 g1 j2 g2 j3 g3 j4 g4 G0 G1 G2 G3 G4 Fin m t s1 s2 s3 R1 R2 R3 x s w)(hl:s.getD s1 false=false)(hb:Below W.heap.size W w')(hi:i≠s1){x':X}(k0:G0 x w→G0 x' w')
 (k1:i=j1∨(s.getD j1 false=true∧s.getD g1 false=false∧G1 x w)→i≠g1→G1 x' w') (k2:i=j2∨(s.getD j2 false=true∧s.getD g2 false=false∧G2 x w)→i≠g2→G2 x' w') (k3:i=j3∨(s.getD j3 false=true∧s.getD g3 false=false∧G3 x w)→i≠g3→G3 x' w') (k4:i=j4∨(s.getD j4 false=true∧s.getD g4 false=false∧G4 x w)→i≠g4→G4 x' w') (hlt:i<s.size):
 nL W j1 g1 j2 g2 j3 g3 j4 g4 G0 G1 G2 G3 G4 Fin m t s1 s2 s3 R1 R2 R3 x' (s.setIfInBounds i true) w':=by
 have aux:∀{g:Nat},(s.setIfInBounds i true).getD g false=false→i≠g:=fun b e=>by subst e;rw[zY hlt]at b;cases b
 refine⟨fun _=>hb,fun _=>k0 (h.inv hl),fun a b _=>k1 ?_ (aux b),fun a b _=>k2 ?_ (aux b),fun a b _=>k3 ?_ (aux b),fun a b _=>k4 ?_ (aux b),?_⟩
 ·exact(VF a).imp id fun q=>⟨q,Ef b,h.f1 q (Ef b) hl⟩
 ·exact(VF a).imp id fun q=>⟨q,Ef b,h.f2 q (Ef b) hl⟩
 ·exact(VF a).imp id fun q=>⟨q,Ef b,h.f3 q (Ef b) hl⟩
 ·exact(VF a).imp id fun q=>⟨q,Ef b,h.f4 q (Ef b) hl⟩
 ·rw[getD_set_ne false hi,hl];intro q;cases q
theorem nL.pQ(h:nL W j1 g1 j2 g2 j3 g3 j4 g4 G0 G1 G2 G3 G4 Fin m t s1 s2 s3 R1 R2 R3 x s w)(aN:s.getD s1 true=false)(hf:Fin x w)(h2:s.getD s2 false=false)(h3:s.getD s3 false=false)(hd:s1≠s2∧s1≠s3)
 {cur:Array Value} (hg:w.heap[m x]?=some (.cells cur t (0,0)))  (hR:R=R1 x):nL W j1 g1 j2 g2 j3 g3 j4 g4 G0 G1 G2 G3 G4 Fin m t s1 s2 s3 R1 R2 R3 x (s.setIfInBounds s1 true) (w.setRow (m x) R):=by
 have e:=zY (u6 aN);have hl:s.getD s1 false=false:=jZ aN;refine⟨fun q=>(by rw[e]at q;cases q),fun q=>(by rw[e]at q;cases q),fun _ _ q=>(by rw[e]at q;cases q),fun _ _ q=>(by rw[e]at q;cases q),fun _ _ q=>(by rw[e]at q;cases q),fun _ _ q=>(by rw[e]at q;cases q),fun _=>⟨w,h.off hl,hf,Al,?_⟩⟩;rw[getD_set_ne false hd.1,getD_set_ne false hd.2,h2,h3,hR];exact setRow_heap w (m x) cur _ t (0,0) hg
theorem nL.Dv(h:nL W j1 g1 j2 g2 j3 g3 j4 g4 G0 G1 G2 G3 G4 Fin m t s1 s2 s3 R1 R2 R3 x s w)(aN:s.getD s2 true=false)(h1:s.getD s1 false=true)(h3:s.getD s3 false=false)(hd:s2≠s1∧s2≠s3)(hR:R=R2 x):
 nL W j1 g1 j2 g2 j3 g3 j4 g4 G0 G1 G2 G3 G4 Fin m t s1 s2 s3 R1 R2 R3 x (s.setIfInBounds s2 true) (w.setRow (m x) R):=by
 have e:=zY (u6 aN);have e1:(s.setIfInBounds s2 true).getD s1 false=true:=by rw[getD_set_ne false hd.1];exact h1
 obtain⟨wb,k1,k2,k4,k5⟩:=h.on h1;refine⟨fun q=>(by rw[e1]at q;cases q),fun q=>(by rw[e1]at q;cases q),fun _ _ q=>(by rw[e1]at q;cases q),fun _ _ q=>(by rw[e1]at q;cases q),fun _ _ q=>(by rw[e1]at q;cases q),fun _ _ q=>(by rw[e1]at q;cases q),fun _=>⟨wb,k1,k2,Xht k4 (Al),?_⟩⟩;rw[getD_set_ne false hd.2,h3,e,hR];exact setRow_heap w (m x) _ _ t (0,0) k5
theorem nL.Z5(h:nL W j1 g1 j2 g2 j3 g3 j4 g4 G0 G1 G2 G3 G4 Fin m t s1 s2 s3 R1 R2 R3 x s w)(aN:s.getD s3 true=false)(h1:s.getD s1 false=true)(hd:s3≠s1)(hR:R=R3 x):
 nL W j1 g1 j2 g2 j3 g3 j4 g4 G0 G1 G2 G3 G4 Fin m t s1 s2 s3 R1 R2 R3 x (s.setIfInBounds s3 true) (w.setRow (m x) R):=by
 have e:=zY (u6 aN);have e1:(s.setIfInBounds s3 true).getD s1 false=true:=by rw[getD_set_ne false hd];exact h1
 obtain⟨wb,k1,k2,k4,k5⟩:=h.on h1;refine⟨fun q=>(by rw[e1]at q;cases q),fun q=>(by rw[e1]at q;cases q),fun _ _ q=>(by rw[e1]at q;cases q),fun _ _ q=>(by rw[e1]at q;cases q),fun _ _ q=>(by rw[e1]at q;cases q),fun _ _ q=>(by rw[e1]at q;cases q),fun _=>⟨wb,k1,k2,Xht k4 (Al),?_⟩⟩;rw[e,hR];exact setRow_heap w (m x) _ _ t (0,0) k5
theorem nL.MV(h:nL W j1 g1 j2 g2 j3 g3 j4 g4 G0 G1 G2 G3 G4 Fin m t s1 s2 s3 R1 R2 R3 x s w)(h1:s.getD s1 false=true)(h2:s.getD s2 false=false)(h3:s.getD s3 false=false):w.heap[m x]?=some (.cells (R1 x) t (0,0)):=by
 obtain⟨wb,_,_,_,k5⟩:=h.on h1;rw[h2,h3]at k5;exact k5
theorem nL.jF(h:nL W j1 g1 j2 g2 j3 g3 j4 g4 G0 G1 G2 G3 G4 Fin m t s1 s2 s3 R1 R2 R3 x s w)(h1:s.getD s1 false=true)(h2:s.getD s2 false=true)(h3:s.getD s3 false=false):w.heap[m x]?=some (.cells (R2 x) t (0,0)):=by
 obtain⟨wb,_,_,_,k5⟩:=h.on h1;rw[h2,h3]at k5;exact k5
end
structure yB (B:Nat) (W:World) (m1 m2:Nat) (t1 t2:TypeId) (Z1 R1 Z2 R2:Array Value) (s1 s2:Nat) (s:Array Bool) (w:World):Prop where
 eY:Below B W w
 keep:∀k,k<W.heap.size→k≠m1→k≠m2→w.heap[k]?=W.heap[k]?
 r1:w.heap[m1]?=some (.cells (if s.getD s1 false=true then R1 else Z1) t1 (0,0))
 r2:w.heap[m2]?=some (.cells (if s.getD s2 false=true then R2 else Z2) t2 (0,0))
section
variable {B:Nat} {W w w':World} {m1 m2:Nat} {t1 t2:TypeId} {Z1 R1 Z2 R2:Array Value} {s1 s2:Nat} {s:Array Bool} {i:Nat}
theorem yB.start(n:Nat)(hB:B≤W.heap.size)(h1:W.heap[m1]?=some (.cells Z1 t1 (0,0)))(h2:W.heap[m2]?=some (.cells Z2 t2 (0,0))):yB B W m1 m2 t1 t2 Z1 R1 Z2 R2 s1 s2 (Array.replicate n false) {W with drawn:=W.drawn+1}:=
 ⟨((Qb _ _).drew).mono hB,fun _ _ _ _=>rfl,by rw[zf];exact h1,by rw[zf];exact h2⟩
theorem yB.pure(h:yB B W m1 m2 t1 t2 Z1 R1 Z2 R2 s1 s2 s w)(h1:i≠s1)(h2:i≠s2):yB B W m1 m2 t1 t2 Z1 R1 Z2 R2 s1 s2 (s.setIfInBounds i true) w:=
 ⟨h.eY,h.keep,by rw[getD_set_ne false h1];exact h.r1,by rw[getD_set_ne false h2];exact h.r2⟩
theorem yB.call(h:yB B W m1 m2 t1 t2 Z1 R1 Z2 R2 s1 s2 s w)(hb:Below w.heap.size w w')(h1:i≠s1)(h2:i≠s2)(hB:B≤W.heap.size):yB B W m1 m2 t1 t2 Z1 R1 Z2 R2 s1 s2 (s.setIfInBounds i true) w':=
 ⟨h.eY.trans (hb.mono (Nat.le_trans hB h.eY.size)),fun k hk a b=>(hb.block k (Nat.lt_of_lt_of_le hk h.eY.size)).trans (h.keep k hk a b),
   by rw[getD_set_ne false h1];exact(hb.block _ (Qg h.r1)).trans h.r1,by rw[getD_set_ne false h2];exact(hb.block _ (Qg h.r2)).trans h.r2⟩
theorem yB.pQ(h:yB B W m1 m2 t1 t2 Z1 R1 Z2 R2 s1 s2 s w)(aN:s.getD s1 true=false)(h12:s1≠s2)(hm:m1≠m2)(hB:B≤m1)(hR:R=R1):yB B W m1 m2 t1 t2 Z1 R1 Z2 R2 s1 s2 (s.setIfInBounds s1 true) (w.setRow m1 R):=by
 have e:=zY (u6 aN);refine⟨h.eY.grown (row:=some m1) Al (by have:=(Qg h.r1);omega) (fun k hk=>by cases hk;exact hB),fun k hk a b=>(setRow_other w m1 k R a).trans (h.keep k hk a b),?_,?_⟩
 ·rw[e,hR];exact setRow_heap w m1 _ _ t1 (0,0) h.r1
 ·rw[getD_set_ne false h12,setRow_other w m1 m2 R (Ne.symm hm)];exact h.r2
theorem yB.Dv(h:yB B W m1 m2 t1 t2 Z1 R1 Z2 R2 s1 s2 s w)(aN:s.getD s2 true=false)(h12:s2≠s1)(hm:m1≠m2)(hB:B≤m2)(hR:R=R2):yB B W m1 m2 t1 t2 Z1 R1 Z2 R2 s1 s2 (s.setIfInBounds s2 true) (w.setRow m2 R):=by
 have e:=zY (u6 aN);refine⟨h.eY.grown (row:=some m2) Al (by have:=(Qg h.r2);omega) (fun k hk=>by cases hk;exact hB),fun k hk a b=>(setRow_other w m2 k R b).trans (h.keep k hk a b),?_,?_⟩
 ·rw[getD_set_ne false h12,setRow_other w m2 m1 R hm];exact h.r1
 ·rw[e,hR];exact setRow_heap w m2 _ _ t2 (0,0) h.r2
end
def Z7(I:IH)(w:World)(p:aT×fM)(e:Ending)(w':World):Prop:=
 ∃va vx vk I',e= .returned (.tuple #[gN p.1 va vx,fH p.2 vk,.int .i64 (aP p.1)])∧Below w.heap.size w w'∧Ext w.heap.size I I'∧Ok I' w'∧aZ lD I' va p.1.aj∧aZ lY I' vx p.1.aA∧aZ qf I' vk p.2.aJ
theorem Xc1{fn:Func}{p q u:Tmp}{ty tz:TypeId}(h:fn.results=#[.cell p ty,.cell q tz,.tmp u])(tmps:Array Value)(P:Program)(w:World):
 (results fn tmps).run P w=
   ((asAddr (tmps.getD p undef)).run P w).andThen fun a w₁=>((loadVar ty a).run P w₁).andThen fun v w₂=>((asAddr (tmps.getD q undef)).run P w₂).andThen fun b w₃=>((loadVar tz b).run P w₃).andThen fun z w₄=> .ok (.tuple #[v,z,tmps.getD u undef]) w₄:=by
 simp only[results,h];simp[Sem.run_bind,Result.andThen]
abbrev Pp(n:Nat)(au:Int)(ag:af)(ao:Option Addr)(le cap:Nat)(target:af)(x:Nat×(Option Addr×Nat)):List (Option Tmp×Value):=
 [(some 8,.pointer (some ⟨n+1,0,none⟩)),(some 9,.int .i64 au),(some 10,.pointer (some ⟨n+1,1,none⟩)),(some 11,S ag),(some 12,.pointer (some ⟨n+1,2,none⟩)),(some 13,.slice ao le cap),(some 14,.slice x.2.1 le x.2.2),(some 15,.pointer (some ⟨n+1,3,none⟩)),(some 16,S target),(some 17,.agg #[.int .i64 au,S ag,.slice x.2.1 le x.2.2,S target,.int .i64 0,.string ⟨#[]⟩,.slice none 0 0]),(some 7,.pointer (some ⟨x.1,0,none⟩)),(none,undef)]
theorem Pq{au:Int}{ag:af}{ao:Option Addr}{le cap:Nat}{target:af}{x:Nat×(Option Addr×Nat)}:cO (Pp n au ag ao le cap target x):=by
 unfold cO;simp
abbrev VG(n m:Nat)(ct sm:af)(x:Nat):List (Option Tmp×Value):=
 [(some 21,.pointer (some ⟨n+1,4,none⟩)),(some 22,S ct),(some 23,.int .i64 (ct.length:Int)),(some 24,.pointer (some ⟨n+1,4,none⟩)),(some 25,S ct),(some 26,.slice (some ⟨x,0,none⟩) 1 1),(some 27,S sm),(some 28,.pointer (some ⟨m,4,none⟩)),(none,undef),(some 29,.pointer (some ⟨m,5,none⟩)),(none,undef)]
theorem MW{ct sm:af}{x:Nat}:cO (VG n m ct sm x):=by
 unfold cO;simp
abbrev Z8(m n:Nat)(e:aT)(va vx vk:Value)(q:fM):List (Option Tmp×Value):=
 [(some 43,gN e va vx),(some 44,fH q vk),(some 45,gN e va vx),(some 46,.int .i64 (aP e)),(none,undef),(none,undef),(some 6,.int .i64 (aP e))]
theorem vR{e:aT}{vx vk:Value}{q:fM}:cO (Z8 m n e va vx vk q):=by
 unfold cO;simp
theorem Xno(w:World)(a b c d:Array Value)(ta tb tc td:TypeId)(W:World)(hW:(((w.alloc (.cells a ta)).alloc (.cells b tb)).alloc (.cells c tc)).alloc (.cells d td)=W):
 W.heap.size=w.heap.size+4∧W.heap[w.heap.size]?=some (.cells a ta (0,0))∧W.heap[w.heap.size+1]?=some (.cells b tb (0,0))∧W.heap[w.heap.size+2]?=some (.cells c tc (0,0))∧W.heap[w.heap.size+3]?=some (.cells d td (0,0)):=by
 subst hW;have h1:=heap_alloc_new w (.cells a ta);have h2:=heap_alloc_new (w.alloc (.cells a ta)) (.cells b tb);have h3:=heap_alloc_new ((w.alloc (.cells a ta)).alloc (.cells b tb)) (.cells c tc);have h4:=heap_alloc_new (((w.alloc (.cells a ta)).alloc (.cells b tb)).alloc (.cells c tc)) (.cells d td);have e1:(w.alloc (.cells a ta)).heap.size=w.heap.size+1:=by simp
 have e2:((w.alloc (.cells a ta)).alloc (.cells b tb)).heap.size=w.heap.size+2:=by simp
 have e3:(((w.alloc (.cells a ta)).alloc (.cells b tb)).alloc (.cells c tc)).heap.size=w.heap.size+3:=by simp
 rw[e1]at h2;rw[e2]at h3;rw[e3]at h4;refine⟨by simp,?_,?_,?_,h4⟩
 ·exact(Below.heap_alloc _ _ _ (by omega)).trans ((Below.heap_alloc _ _ _ (by omega)).trans ((Below.heap_alloc _ _ _ (by omega)).trans h1))
 ·exact(Below.heap_alloc _ _ _ (by omega)).trans ((Below.heap_alloc _ _ _ (by omega)).trans h2)
 ·exact(Below.heap_alloc _ _ _ (by omega)).trans h3
theorem Xqq(I:IH)(hI:eG I)(q:fM)(vk:Value)(Ev:aZ qf I vk q.aJ)(hq:wD q)(hqn:q.aJ.length≤10000000)(c:jK)(va:Value)(fq:aZ lD I va c.aj)(hc:c.Wf)(Ap:c.aj.length≤1000000)(w:World)(hw:Ok I w):
 Calls Tryz.prog 67 #[fH q vk,.agg #[.int .i64 c.au,S c.ag,va,S c.target,S c.aF]] w (Z7 I w (fI q c)):=by
 obtain⟨ak,ck,rfl,_,_,_⟩:=id Ev;obtain⟨ao,cap,rfl,_,_,_⟩:=id fq;have qO:=Qh (fun w hw=>Xo3 I _ c.aj fq w hw (by omega));have HG:=Qh hI;have RF:=Qh Ev;have Hq:=Qh hq;have Hc:=Qh hc;have wR:=Qh (show(Tryz.prog.info? 40).map (·.size)=some 3 by kernel_rfl);have Kr:=Qh (show(Tryz.prog.info? 81).map (·.size)=some 7 by kernel_rfl);have nV:=hc.ag;have xh:=hc.target;have dC:=hc.aF;obtain⟨W4,VH⟩:∃W4,((((w.alloc (.cells #[.slice ak q.aJ.length ck,.int .i64 q.aV,S q.str] 40)).alloc (.cells #[.int .i64 c.au,S c.ag,.slice ao c.aj.length cap,S c.target,S c.aF] 25)).alloc (.cells #[.int .i64 0,.string ⟨#[]⟩,.slice none 0 0,.string ⟨#[]⟩,.int .i64 0,.string ⟨#[]⟩,.slice none 0 0] 81)).alloc (.cells #[.slice none 0 0,.int .i64 0,.string ⟨#[]⟩] 40))=W4:=⟨_,rfl⟩;have bU:Ok I W4:=by rw[←VH];exact(((hw.alloc _).alloc _).alloc _).alloc _
 obtain⟨dJ,h40,Ps,h42,h43⟩:=Xno w _ _ _ _ _ _ _ _ W4 VH;have aR:Below w.heap.size w W4:=by rw[←VH];exact((((Qb _ _).alloc (Qn _) _).alloc (by simp) _).alloc (by simp;omega) _).alloc (by simp;omega) _
 have c0:W4.cell? ⟨w.heap.size+1,0,none⟩=some (.int .i64 c.au):=(cell_of_row _ _ 0 _ _ _ Ps).trans rfl;have c1:W4.cell? ⟨w.heap.size+1,1,none⟩=some (S c.ag):=(cell_of_row _ _ 1 _ _ _ Ps).trans rfl;have c2:W4.cell? ⟨w.heap.size+1,2,none⟩=some (.slice ao c.aj.length cap):=(cell_of_row _ _ 2 _ _ _ Ps).trans rfl;have c3:W4.cell? ⟨w.heap.size+1,3,none⟩=some (S c.target):=(cell_of_row _ _ 3 _ _ _ Ps).trans rfl;have H40:=Qh h40;have H41:=Qh Ps;have H42:=Qh h42;have H43:=Qh h43;have FH:∀b,w.heap.size≤b→I b=none:=fun b hb=>hw.fresh hb;have HsZ:=Qh dJ;clear Ev fq hq hc h40 Ps h42 h43 dJ hI;go_enter Tryz.func67,Tryz.ntmps67
 go_wp2_with fail
 clear VH;refine yz (X:=Nat×(Option Addr×Nat)) (Pp w.heap.size c.au c.ag ao c.aj.length cap c.target) (nL W4 6 233 10 234 225 235 226 236 (fun _ _=>True) (fun x w=>aK lD 107 I w W4.heap.size (.slice x.2.1 c.aj.length x.2.2) c.aj) (fun x w=>w.heap[x.1]?=some (.cells bH 81 (0,0))∧W4.heap.size≤x.1) (fun _ _=>True) (fun _ _=>True) (fun x w=>aK lD 107 I w W4.heap.size (.slice x.2.1 c.aj.length x.2.2) c.aj∧(w.heap[x.1]?=some (.cells bH 81 (0,0))∧W4.heap.size≤x.1)) (fun x=>x.1) 81 11 213 214 (fun x=> #[.int .i64 c.au,S c.ag,.slice x.2.1 c.aj.length x.2.2,S c.target,.int .i64 0,.string ⟨#[]⟩,.slice none 0 0]) (fun x=> #[.int .i64 c.au,S c.ag,.slice x.2.1 c.aj.length x.2.2,S c.target,.int .i64 0,.string ⟨#[]⟩,.slice none 0 0]) (fun x=> #[.int .i64 c.au,S c.ag,.slice x.2.1 c.aj.length x.2.2,S c.target,.int .i64 0,.string ⟨#[]⟩,.slice none 0 0])) (by kernel_rfl) (by kernel_rfl) ?_ ?_ ?_
 ·exact⟨(0,default),nL.start _ _ trivial⟩
 ·rintro x s' a' w' i dM dC ha hC hi;obtain⟨aN,oi,fP,aC⟩:=mem_ready.1 hi;have ev:=Je Pq ha;have hlt:=u6 aN;rcases i with _|_|_|_|_|_|_|_|_|_|_|_|i
  rotate_left 12
  ·simp at fP
  all_goals
   have dV:=fP;simp at fP;subst fP;simp[Region.binds]at aC;try have hl:=tO 6 11 dC (by decide+kernel) aN
   try have cu:=hC.off hl
   try have c0:=bK cu c0
   try have c1:=bK cu c1
   try have c2:=bK cu c2
   try have c3:=bK cu c3
   refine wpOp_step dV (fun K' hK=> ?_);rw[if_pos (by rfl)]
  rotate_left 6
  ·unfold Oper.wp;simp[go_sem,ev,ik,aC,Oper.upon];refine(qO.O w' (bU.below (Qn _) cu)).mono ?_;rintro r4 w4 ⟨v7,rfl,ho,aR⟩;obtain⟨a7,k7,rfl⟩:=Dk ho;have ha:=ha.trans (uq (L:=Pp w.heap.size c.au c.ag ao c.aj.length cap c.target x) (M:=Pp w.heap.size c.au c.ag ao c.aj.length cap c.target (x.1,(a7,k7))) [6,9] rfl (fun j bn=>by
    rcases j with _|_|_|_|_|_|_|_|_|_|_|_|j<;>first|rfl|(exact absurd (by decide) bn)|simp) (List.forall_mem_cons.2 ⟨jZ aN,List.forall_mem_cons.2 ⟨tO 6 9 dC (by kernel_rfl) aN,List.forall_mem_nil _⟩⟩))
   exact hK _ _ ⟨(x.1,(a7,k7)),mF Pq ha rfl aN,hC.step hl (cu.trans (aR.mono cu.size)) (by decide) (fun _=>trivial) (fun _ _=>ho.lower cu.size) (fun h _=>h.elim (fun e=>absurd e (by decide)) (fun⟨_,_,q⟩=>⟨(aR.block _ (Qg q.1)).trans q.1,q.2⟩)) (fun _ _=>trivial) (fun _ _=>trivial) hlt⟩
  rotate_left 3
  ·unfold Oper.wp;simp[go_sem,ev,ik,aC,Oper.upon,c0,c1,c2,c3];have ha:=ha.trans (uq (L:=Pp w.heap.size c.au c.ag ao c.aj.length cap c.target x) (M:=Pp w.heap.size c.au c.ag ao c.aj.length cap c.target (w'.heap.size,x.2)) [10] rfl (fun j bn=>by
    rcases j with _|_|_|_|_|_|_|_|_|_|_|_|j<;>first|rfl|(exact absurd (by decide) bn)|simp) (List.forall_mem_cons.2 ⟨jZ aN,List.forall_mem_nil _⟩))
   exact hK _ _ ⟨(w'.heap.size,x.2),mF Pq ha rfl aN,hC.step hl (cu.trans (((Qb _ _).alloc (Qn _) _).mono cu.size)) (by decide) (fun _=>trivial) (fun h _=>h.elim (fun e=>absurd e (by decide)) (fun⟨_,_,q⟩=>q.alloc _)) (fun _ _=>⟨heap_alloc_new _ _,cu.size⟩) (fun _ _=>trivial) (fun _ _=>trivial) hlt⟩
  ·have aS:w'.heap[x.1]?=some (.cells _ 81 (0,0)):=(hC.f2 (by first|simpa using aC|simp[aC]) (mI (by simp[dM])) hl).1;refine wE 81 _ _ rfl (x.1) 0 [.int .i64 c.au,S c.ag,.slice x.2.1 c.aj.length x.2.2,S c.target,.int .i64 0,.string ⟨#[]⟩,.slice none 0 0] (.agg #[.int .i64 c.au,S c.ag,.slice x.2.1 c.aj.length x.2.2,S c.target,.int .i64 0,.string ⟨#[]⟩,.slice none 0 0]) (by simp[Act.eval,ev,ik,aC]) (by simp[Act.eval,ev,ik,aC]) (by rfl) _ _ aS (by simp) (by kernel_rfl) (by simp[Value.oneCell']) ?_;exact hK _ _ ⟨x,eO (d:=none) (v:=undef) Pq ha rfl aN,hC.pQ aN ⟨hC.f1 (by first|simpa using aC|simp[aC]) (mI (by simp[dM])) hl,hC.f2 (by first|simpa using aC|simp[aC]) (mI (by simp[dM])) hl⟩ (mI (by simp[dM])) (mI (by simp[dM])) (by decide) aS (by rfl)⟩
  all_goals
   unfold Oper.wp;first
   |(simp[go_sem,ev,ik,aC,Oper.upon,c0,c1,c2,c3];exact hK _ _ ⟨x,mF Pq ha rfl aN,hC.pure (by decide)⟩)
   |(simp[go_sem,ev,ik,Oper.upon,c0,c1,c2,c3];exact hK _ _ ⟨x,mF Pq ha rfl aN,hC.pure (by decide)⟩)
 ·rintro x s' a' w8 gz ha hC;obtain⟨wb,gV,kr,gI,aS⟩:=hC.on (gz 11 (by decide));simp only[ite_self]at aS;rw[xL _ _ _ _ (fun i hi=>by rw[Nat.zero_add];exact gz i (by simpa using hi))]at ha;subst ha;simp only[eH,Act.put,List.setIfInBounds_toArray,List.set_cons_succ,List.set_cons_zero];obtain⟨m,kN,k7⟩:=x;dsimp only at kr gI aS ⊢;obtain⟨wG,wF⟩:=kr;have dJ:=HsZ.O;have bn:=zm wG wF.1 (by decide);have uM:=wG.kept gI (.inr bn);have hm:w.heap.size+4≤m:=by have:=wF.2;omega
  have kL:Ok I w8:=(bU.below (Qn _) gV).grown gI (fun g e=>by cases e;exact FH _ (by omega));have mR:Below w.heap.size w w8:=(aR.trans (gV.mono aR.size)).grown gI (by have:=gV.size;omega) (fun k e=>by cases e;omega);obtain⟨J,yA,nJ,Dl,Kz⟩:=uM.freeze kL (fun b hb=>FH _ (by omega));have Z9:=yA.keep hw (by omega);have hz:∀b,b<w.heap.size+4→w8.heap[b]?=W4.heap[b]? :=fun b hb=>(gI.block _ (by have:=gV.size;omega) (fun e=>by cases e;omega)).trans (gV.block _ (by omega));have MX:∀b,b<w.heap.size+4→w.heap.size≤b→J b=none:=fun b h1 h2=>(yA b (by omega)).trans (FH b h2);have Fj:J m=none:=by rw[Kz m bn];exact FH _ (by omega)
  have MZ:=yA.mono (show w.heap.size≤W4.heap.size by omega);have VI:=Qh ((hz w.heap.size (by omega)).trans H40.O);have R8:=Qh ((hz (w.heap.size+1) (by omega)).trans H41.O);have Na:=Qh ((hz (w.heap.size+2) (by omega)).trans H42.O);have Nb:=Qh ((hz (w.heap.size+3) (by omega)).trans H43.O);have Ed:=Qh aS;have hG2:eG J:=HG.O.mono Z9;have R9:=Qh (RF.O.mono Z9);have k0:w8.cell? ⟨w.heap.size+1,0,none⟩=some (.int .i64 c.au):=(cell_of_row _ _ 0 _ _ _ R8.O).trans rfl;clear hz wG wF gI aS bn uM kL gV hC gz yA Kz Z9 c0 c1 c2 c3 H40 H41 H42 H43 qO bU aR dJ;by_cases hk:c.au=1;case neg=>
   have e1:(c.au==1)=false:=by simpa using hk
   obtain⟨e,he⟩:∃e:aT,(⟨c.au,c.ag,c.aj,c.target,0,[],[]⟩:aT)=e:=⟨_,rfl⟩;obtain⟨q2,TD⟩:∃q2,q2=q:=⟨_,rfl⟩;have Hn:=Qh (show fI q c=(e,q2) by rw[fI,if_neg hk,he,TD]);subst TD;have G6:aZ lY J (.slice none e.aA.length 0) e.aA:=by rw[←he];exact aZ.nil _ _
   have Eu:aZ lD J (.slice kN e.aj.length k7) e.aj:=by rw[←he];exact Dl
   have l7:e.Wf:=by have:=Vg Hq.O Hc.O;rw[Hn.O]at this;exact this
   have su:=Qh (fun w hw=>U4 J hG2 e _ _ Eu G6 l7 (by rw[←he];exact nV) (by rw[←he];exact xh) w hw);have HJ:=Qh (And.intro MZ (And.intro Eu (And.intro G6 R9.O)));have Jf:=Qh nJ;have Nc:=Qh (show w8.heap[m]?=some (.cells #[.int .i64 e.au,S e.ag,.slice kN e.aj.length k7,S e.target,.int .i64 e.size,S e.av,.slice none e.aA.length 0] 81 (0,0)) by rw[←he];exact Ed.O);have Nf:=VI;have Uc:=mR;have OL:=MX (w.heap.size+2) (by omega) (by omega);have DW:=MX (w.heap.size+3) (by omega) (by omega);clear G6;clear hk he Eu l7 Ed R8 VI mR nJ Dl MX;go_wp2_with fail
   clear k0 e1;have Sa:w.heap.size≤w8.heap.size:=Uc.size;have BJ:m≠w.heap.size+2:=by omega
   have Ng:m≠w.heap.size+3:=by omega
   refine yz (X:=Nat) (fun _=>Z8 m w.heap.size e (.slice kN e.aj.length k7) (.slice none e.aA.length 0) (.slice ak q2.aJ.length ck) q2) (fun _=>yB w.heap.size w8 (w.heap.size+2) (w.heap.size+3) 81 40 bH (jQ e (.slice kN e.aj.length k7) (.slice none e.aA.length 0)) #[.slice none 0 0,.int .i64 0,.string ⟨#[]⟩] #[.slice ak q2.aJ.length ck,.int .i64 q2.aV,S q2.str] 4 5) (by kernel_rfl) (by kernel_rfl) ?_ ?_ ?_
   ·exact⟨0,yB.start _ Sa Na.O Nb.O⟩
   ·rintro x s' a' w' i dM dC ha hC hi;obtain⟨aN,oi,fP,aC⟩:=mem_ready.1 hi;have rO:=(hC.keep m (Qg Nc.O) BJ Ng).trans Nc.O;have Nh:=(hC.keep w.heap.size (Qg Nf.O) (by omega) (by omega)).trans Nf.O;have pR:Ok J w':=Jf.O.of_block fun b c hb=>hC.keep b (Jf.O.lt hb) (fun h=>by rw[h,OL]at hb;cases hb) (fun h=>by rw[h,DW]at hb;cases hb);rcases i with _|_|_|_|_|_|_|i
    rotate_left 7
    ·simp at fP
    all_goals
     have dV:=fP;simp at fP;subst fP;simp[Region.binds]at aC
    ·have e7:a'.tmps[7]?.getD undef= .pointer (some ⟨m,0,none⟩):=oD ha (by simp);have d0:w'.cell? ⟨m,0,none⟩=_:=(cell_of_row _ _ 0 _ _ _ rO).trans rfl;have d1:w'.cell? ⟨m,1,none⟩=_:=(cell_of_row _ _ 1 _ _ _ rO).trans rfl;have d2:w'.cell? ⟨m,2,none⟩=_:=(cell_of_row _ _ 2 _ _ _ rO).trans rfl;have d3:w'.cell? ⟨m,3,none⟩=_:=(cell_of_row _ _ 3 _ _ _ rO).trans rfl;have d4:w'.cell? ⟨m,4,none⟩=_:=(cell_of_row _ _ 4 _ _ _ rO).trans rfl;have d5:w'.cell? ⟨m,5,none⟩=_:=(cell_of_row _ _ 5 _ _ _ rO).trans rfl;have d6:w'.cell? ⟨m,6,none⟩=_:=(cell_of_row _ _ 6 _ _ _ rO).trans rfl;refine wpOp_step dV (fun K' hK=> ?_);rw[if_pos (by rfl)];unfold Oper.wp;simp[go_sem,e7,d0,d1,d2,d3,d4,d5,d6,Oper.upon];exact hK _ _ ⟨x,eO (d:=some 43) (v:=gN e (.slice kN e.aj.length k7) (.slice none e.aA.length 0)) vR ha rfl aN,hC.pure (by decide) (by decide)⟩
    ·have e2:a'.tmps[2]?.getD undef= .pointer (some ⟨w.heap.size,0,none⟩):=oD ha (by simp);have d0:w'.cell? ⟨w.heap.size,0,none⟩=_:=(cell_of_row _ _ 0 _ _ _ Nh).trans rfl;have d1:w'.cell? ⟨w.heap.size,1,none⟩=_:=(cell_of_row _ _ 1 _ _ _ Nh).trans rfl;have d2:w'.cell? ⟨w.heap.size,2,none⟩=_:=(cell_of_row _ _ 2 _ _ _ Nh).trans rfl;refine wpOp_step dV (fun K' hK=> ?_);rw[if_pos (by rfl)];unfold Oper.wp;simp[go_sem,e2,d0,d1,d2,Oper.upon];exact hK _ _ ⟨x,eO (d:=some 44) (v:=fH q2 (.slice ak q2.aJ.length ck)) vR ha rfl aN,hC.pure (by decide) (by decide)⟩
    ·have e7:a'.tmps[7]?.getD undef= .pointer (some ⟨m,0,none⟩):=oD ha (by simp);have d0:w'.cell? ⟨m,0,none⟩=_:=(cell_of_row _ _ 0 _ _ _ rO).trans rfl;have d1:w'.cell? ⟨m,1,none⟩=_:=(cell_of_row _ _ 1 _ _ _ rO).trans rfl;have d2:w'.cell? ⟨m,2,none⟩=_:=(cell_of_row _ _ 2 _ _ _ rO).trans rfl;have d3:w'.cell? ⟨m,3,none⟩=_:=(cell_of_row _ _ 3 _ _ _ rO).trans rfl;have d4:w'.cell? ⟨m,4,none⟩=_:=(cell_of_row _ _ 4 _ _ _ rO).trans rfl;have d5:w'.cell? ⟨m,5,none⟩=_:=(cell_of_row _ _ 5 _ _ _ rO).trans rfl;have d6:w'.cell? ⟨m,6,none⟩=_:=(cell_of_row _ _ 6 _ _ _ rO).trans rfl;refine wpOp_step dV (fun K' hK=> ?_);rw[if_pos (by rfl)];unfold Oper.wp;simp[go_sem,e7,d0,d1,d2,d3,d4,d5,d6,Oper.upon];exact hK _ _ ⟨x,eO (d:=some 45) (v:=gN e (.slice kN e.aj.length k7) (.slice none e.aA.length 0)) vR ha rfl aN,hC.pure (by decide) (by decide)⟩
    ·have e45:a'.tmps[45]?.getD undef=gN e (.slice kN e.aj.length k7) (.slice none e.aA.length 0):=gT (i:=2) vR ha rfl (by first|simpa using aC|simp[aC]) (by simp);refine wpOp_step dV (fun K' hK=> ?_);rw[if_pos (by rfl)];unfold Oper.wp;simp[go_sem,e45,Oper.upon];refine(su.O w' pR).mono ?_;rintro r4 w4 ⟨rfl,aR⟩;exact hK _ _ ⟨x,eO (d:=some 46) (v:= .int .i64 (aP e)) vR ha rfl aN,hC.call aR (by decide) (by decide) Sa⟩
    ·have e4:a'.tmps[4]?.getD undef= .pointer (some ⟨w.heap.size+2,0,none⟩):=oD ha (by simp);have e43:a'.tmps[43]?.getD undef=gN e (.slice kN e.aj.length k7) (.slice none e.aA.length 0):=gT (i:=0) vR ha rfl (by first|simpa using aC|simp[aC]) (by simp);have gy:=hC.r1;rw[jZ aN]at gy;refine wpOp_step dV (fun K' hK=> ?_);rw[if_pos (by rfl)];refine wE 81 _ _ rfl (w.heap.size+2) 0 [.int .i64 e.au,S e.ag,.slice kN e.aj.length k7,S e.target,.int .i64 e.size,S e.av,.slice none e.aA.length 0] (gN e (.slice kN e.aj.length k7) (.slice none e.aA.length 0)) (by simp[Act.eval,e4]) (by simp[Act.eval,e43]) (by rfl) bH _ gy (by simp) (by kernel_rfl) (by simp[Value.oneCell']) ?_;exact hK _ _ ⟨x,eO (d:=none) (v:=undef) vR ha rfl aN,hC.pQ aN (by decide) (by omega) (by omega) (by rfl)⟩
    ·have e5:a'.tmps[5]?.getD undef= .pointer (some ⟨w.heap.size+3,0,none⟩):=oD ha (by simp);have e44:a'.tmps[44]?.getD undef=fH q2 (.slice ak q2.aJ.length ck):=gT (i:=1) vR ha rfl (by first|simpa using aC|simp[aC]) (by simp);have kD:=hC.r2;rw[jZ aN]at kD;refine wpOp_step dV (fun K' hK=> ?_);rw[if_pos (by rfl)];refine wE 40 _ _ rfl (w.heap.size+3) 0 [.slice ak q2.aJ.length ck,.int .i64 q2.aV,S q2.str] (fH q2 (.slice ak q2.aJ.length ck)) (by simp[Act.eval,e5]) (by simp[Act.eval,e44]) (by rfl) #[.slice none 0 0,.int .i64 0,.string ⟨#[]⟩] _ kD (by simp) (by kernel_rfl) (by simp[Value.oneCell']) ?_;exact hK _ _ ⟨x,eO (d:=none) (v:=undef) vR ha rfl aN,hC.Dv aN (by decide) (by omega) (by omega) (by rfl)⟩
    ·have e46:a'.tmps[46]?.getD undef= .int .i64 (aP e):=gT (i:=3) vR ha rfl (by first|simpa using aC|simp[aC]) (by simp);refine wpOp_step dV (fun K' hK=> ?_);rw[if_pos (by rfl)];unfold Oper.wp;simp[go_sem,e46,Oper.upon];exact hK _ _ ⟨x,eO (d:=some 6) (v:= .int .i64 (aP e)) vR ha rfl aN,hC.pure (by decide) (by decide)⟩
   ·rintro x s' a' wJ gz ha hC;have gy:=hC.r1;have kD:=hC.r2;rw[gz 4 (by decide),if_pos rfl]at gy;rw[gz 5 (by decide),if_pos rfl]at kD;have uz:=Qh gy;have H9:=Qh kD;have qi:Ok J wJ:=Jf.O.of_block fun b c hb=>hC.keep b (Jf.O.lt hb) (fun h=>by rw[h,OL]at hb;cases hb) (fun h=>by rw[h,DW]at hb;cases hb);have oO:=Uc.trans hC.eY;rw[xL _ _ _ _ (fun i hi=>by rw[Nat.zero_add];exact gz i (by simpa using hi))]at ha;subst ha;simp only[eH,Act.put];clear hC gz gy kD Na Nb Nc Nf;go_wp2;refine bodyPost_ret (v:= .tuple #[gN e (.slice kN e.aj.length k7) (.slice none e.aA.length 0),fH q2 (.slice ak q2.aJ.length ck),.int .i64 (aP e)]) ?_ rfl ?_
    ·rw[Xc1 rfl];simp[asAddr,run_loadVar_row wJ (w.heap.size+2) 81 81 _ (0,0) _ uz.O Tryz.underlying81 rfl Kr.O,run_loadVar_row wJ (w.heap.size+3) 40 40 _ (0,0) _ H9.O Tryz.underlying40 rfl wR.O]
    ·rw[Hn.O];exact⟨_,_,_,J,rfl,oO,HJ.O.1,qi,HJ.O.2.1,HJ.O.2.2.1,HJ.O.2.2.2⟩
  case pos=>
   have e1:(c.au==1)=true:=by simpa using hk
   obtain⟨sm,zM⟩:∃sm,fA c.aF=sm:=⟨_,rfl⟩;have zN:=Qh (fun(b:Nat) (W:World) (hc:W.cell? ⟨b,0,none⟩=some (S c.aF)) (hb:b<W.heap.size)=>(by
    have:=Xot b 0 1 [c.aF] c.aF (by simp) (by omega) W (fun j x hj=>by
     rcases j with _|j
     ·simp at hj;subst hj;exact hc
     ·simp at hj) (by simp) hb (by simp)
    rwa[zM]at this:Calls Tryz.prog 110 #[.slice (some ⟨b,0,none⟩) 1 1] W fun e w'=>e= .returned (S sm)∧Below W.heap.size W w'))
   have c4:w8.cell? ⟨w.heap.size+1,4,none⟩=some (S c.aF):=(cell_of_row _ _ 4 _ _ _ R8.O).trans rfl;obtain⟨q2,xs,pn,zV⟩:∃q2 xs pn,jL q c.aF=(q2,xs,pn):=⟨_,_,_,rfl⟩;have TN:pn=0:=by have:=(Vf Hq.O dC).2;rw[zV]at this;exact this
   subst TN;have uW:=Qh (fun w hw=>(by
    have Gh:=Hq.O;have:=Xvi 4294901760 10000000 (by decide) (by decide) J q _ R9.O ⟨by have:=Gh.s0;omega,by have:=Gh.s1;omega,Gh.str,hqn,fun k hk=>(Gh.cx k hk).x⟩ (fun k hk=>(Gh.cx k hk).d) c.aF (by omega) w hw;rwa[zV]at this:Calls Tryz.prog 103 #[fH q (.slice ak q.aJ.length ck),S c.aF] w (Fy J w (q2,xs,0))))
   have Cy:=Qh (show fI q c=(⟨c.au,c.ag,c.aj,c.target,(c.aF.length:Nat),sm,xs⟩,q2) by rw[fI,if_pos hk,zV,zM]);have Jg:=Qh (show(⟨c.au,c.ag,c.aj,c.target,(c.aF.length:Nat),sm,xs⟩:aT).Wf by have:=Vg Hq.O Hc.O;rw[Cy.O]at this;exact this);have MS:m<w8.heap.size:=(Qg Ed.O);have dle:decide ((c.aF.length:Int)≤65536)=true:=Qt (by omega);clear zV zM hk;go_wp2_with fail
   refine yz (X:=Nat) (VG w.heap.size m c.aF sm) (nL w8 5 232 223 233 224 234 225 235 (fun _ _=>True) (fun x w=>w.cell? ⟨x,0,none⟩=some (S c.aF)) (fun _ _=>True) (fun _ _=>True) (fun _ _=>True) (fun _ _=>True) (fun x=>m) 81 8 10 212 (fun x=> #[.int .i64 c.au,S c.ag,.slice kN c.aj.length k7,S c.target,.int .i64 (c.aF.length:Int),.string ⟨#[]⟩,.slice none 0 0]) (fun x=> #[.int .i64 c.au,S c.ag,.slice kN c.aj.length k7,S c.target,.int .i64 (c.aF.length:Int),S sm,.slice none 0 0]) (fun x=> #[.int .i64 c.au,S c.ag,.slice kN c.aj.length k7,S c.target,.int .i64 (c.aF.length:Int),S sm,.slice none 0 0])) (by kernel_rfl) (by kernel_rfl) ?_ ?_ ?_
   ·exact⟨0,nL.start _ _ trivial⟩
   ·rintro x s' a' w' i dM dC ha hC hi;obtain⟨aN,oi,fP,aC⟩:=mem_ready.1 hi;have ev:=Je MW ha;have hlt:=u6 aN;rcases i with _|_|_|_|_|_|_|_|_|_|_|i
    rotate_left 11
    ·simp at fP
    all_goals
     have dV:=fP;simp at fP;subst fP;simp[Region.binds]at aC;try have hl:=tO 6 8 dC (by decide+kernel) aN
     try have cu:=hC.off hl
     try have c4:=bK cu c4
     refine wpOp_step dV (fun K' hK=> ?_);rw[if_pos (by rfl)]
    rotate_left 5
    ·unfold Oper.wp;simp[go_sem,ev,ik,aC,Oper.upon,c4];have ha:=ha.trans (uq (L:=VG w.heap.size m c.aF sm x) (M:=VG w.heap.size m c.aF sm w'.heap.size) [5] rfl (fun j bn=>by
      rcases j with _|_|_|_|_|_|_|_|_|_|_|j<;>first|rfl|(exact absurd (by decide) bn)|simp) (List.forall_mem_cons.2 ⟨jZ aN,List.forall_mem_nil _⟩))
     exact hK _ _ ⟨w'.heap.size,mF MW ha rfl aN,hC.step hl (cu.trans (((Qb _ _).alloc (Qn _) _).mono cu.size)) (by decide) (fun _=>trivial) (fun _ _=>by simp) (fun _ _=>trivial) (fun _ _=>trivial) (fun _ _=>trivial) hlt⟩
    ·have PM:=hC.f1 (by first|simpa using aC|simp[aC]) (mI (by simp[dM])) hl;unfold Oper.wp;simp[go_sem,ev,ik,aC,Oper.upon];refine(zN.O x w' PM (block_lt_of_cell PM)).mono ?_;rintro r4 w4 ⟨rfl,aR⟩;exact hK _ _ ⟨x,mF MW ha rfl aN,hC.step hl (cu.trans (aR.mono cu.size)) (by decide) (fun _=>trivial) (fun h _=>h.elim (fun e=>absurd e (by decide)) (fun⟨_,_,q⟩=>bK aR q)) (fun _ _=>trivial) (fun _ _=>trivial) (fun _ _=>trivial) hlt⟩
    rotate_left 1
    ·have aS:w'.heap[m]?=some (.cells _ 81 (0,0)):=(cu.block _ (Qg Ed.O)).trans Ed.O;refine wE 3 _ _ rfl (m) 4 [.int .i64 (c.aF.length:Int)] (.int .i64 (c.aF.length:Int)) (by simp[Act.eval,ev,ik,aC]) (by simp[Act.eval,ev,ik,aC]) (by rfl) _ _ aS (by simp) (by kernel_rfl) (by simp[Value.oneCell']) ?_;exact hK _ _ ⟨x,eO (d:=none) (v:=undef) MW ha rfl aN,hC.pQ aN trivial (tO 6 10 dC (by kernel_rfl) aN) (mI (by simp[dM])) (by decide) aS (by rfl)⟩
    rotate_left 1
    ·have aS:=hC.MV (s1:=8) (by first|simpa using aC|simp[aC]) (jZ aN) (mI (by simp[dM]));refine wE 9 _ _ rfl (m) 5 [S sm] (S sm) (by simp[Act.eval,ev,ik,aC]) (by simp[Act.eval,ev,ik,aC]) (by rfl) _ _ aS (by simp) (by kernel_rfl) (by simp[Value.oneCell']) ?_;exact hK _ _ ⟨x,eO (d:=none) (v:=undef) MW ha rfl aN,hC.Dv aN (by first|simpa using aC|simp[aC]) (mI (by simp[dM])) (by decide) (by rfl)⟩
    all_goals
     unfold Oper.wp;first
     |(simp[go_sem,ev,ik,aC,Oper.upon,c4];exact hK _ _ ⟨x,mF MW ha rfl aN,hC.pure (by decide)⟩)
     |(simp[go_sem,ev,ik,Oper.upon,c4];exact hK _ _ ⟨x,mF MW ha rfl aN,hC.pure (by decide)⟩)
   ·rintro x s' a' oF gz ha hC;obtain⟨wb,gV,kr,gI,aS⟩:=hC.on (gz 8 (by decide));rw[if_pos (gz 10 (by decide))]at aS;simp only[ite_self]at aS;rw[xL _ _ _ _ (fun i hi=>by rw[Nat.zero_add];exact gz i (by simpa using hi))]at ha;subst ha;simp only[eH,Act.put,List.setIfInBounds_toArray,List.set_cons_succ,List.set_cons_zero];have ao9:=(Qg aS);have O0:=gV.size;have rM:Ok J oF:=(nJ.below (Qn _) gV).grown gI (fun g e=>by cases e;exact Fj);have mE:Below w.heap.size w oF:=(mR.trans (gV.mono mR.size)).grown gI (by have:=mR.size;omega) (fun k e=>by cases e;omega);have hz:∀b,b<w.heap.size+4→oF.heap[b]?=w8.heap[b]? :=fun b hb=>(gI.block _ (by omega) (fun e=>by cases e;omega)).trans (gV.block _ (by omega));have Sb:=Qh ((hz w.heap.size (by omega)).trans VI.O);have HC9:=Qh ((hz (w.heap.size+1) (by omega)).trans R8.O);have Sc:=Qh ((hz (w.heap.size+2) (by omega)).trans Na.O);have Sd:=Qh ((hz (w.heap.size+3) (by omega)).trans Nb.O);have MJ:=Qh aS;have k4:oF.cell? ⟨w.heap.size+1,4,none⟩=some (S c.aF):=(cell_of_row _ _ 4 _ _ _ HC9.O).trans rfl;have q0:oF.cell? ⟨w.heap.size,0,none⟩=some (.slice ak q.aJ.length ck):=(cell_of_row _ _ 0 _ _ _ Sb.O).trans rfl;have q1:oF.cell? ⟨w.heap.size,1,none⟩=some (.int .i64 q.aV):=(cell_of_row _ _ 1 _ _ _ Sb.O).trans rfl;have q2':oF.cell? ⟨w.heap.size,2,none⟩=some (S q.str):=(cell_of_row _ _ 2 _ _ _ Sb.O).trans rfl;clear hz gI aS gV hC gz Na Nb Ed R8 VI c4 zN k0;have KJ:m<oF.heap.size:=(Qg MJ.O);go_wp2_with fail
    refine(uW.O _ rM).mono ?_;rintro e12 VJ ⟨vk3,vx3,J,rfl,xZ,Bb,KL,Gz,Ni⟩;obtain⟨Bc,Bd,rfl,_,_,_⟩:=id Gz;obtain⟨x8,x9,rfl,_,_,_⟩:=id Ni;have Si:=xZ.size;have Sj:=(xZ.block _ (by omega)).trans Sb.O;have Sk:=(xZ.block _ KJ).trans MJ.O;clear q0 q1 q2' k4 e1 dle
    go_wp2_with (first
     |(refine kC rfl rfl 40 _ _ rfl w.heap.size 0 [.slice Bc q2.aJ.length Bd,.int .i64 q2.aV,S q2.str] (fH q2 (.slice Bc q2.aJ.length Bd)) (by simp[Act.eval]) (by simp[Act.eval]) (by rfl) _ 40 Sj (by simp) (by kernel_rfl) (by simp[Value.oneCell']) #[.slice Bc q2.aJ.length Bd,.int .i64 q2.aV,S q2.str] (by rfl) ?_
       intro w13 oo Dw)
     |(refine kC rfl rfl 79 _ _ rfl m 6 [.slice x8 xs.length x9] (.slice x8 xs.length x9) (by simp[Act.eval]) (by simp[Act.eval]) (by rfl) _ 81 ((oo.block _ (by omega) (fun e=>by cases e;omega)).trans Sk) (by simp) (by kernel_rfl) (by simp[Value.oneCell']) #[.int .i64 c.au,S c.ag,.slice kN c.aj.length k7,S c.target,.int .i64 (c.aF.length:Int),S sm,.slice x8 xs.length x9] (by rfl) ?_
       intro Nj oq Dx))
    have Sl:=oo.size;have Sn:=oq.size;have PR:=Bb.keep rM (Qn _);have OL:J (w.heap.size+2)=none:=(Bb _ (by omega)).trans (MX _ (by omega) (by omega));have DW:J (w.heap.size+3)=none:=(Bb _ (by omega)).trans (MX _ (by omega) (by omega));have VK:J w.heap.size=none:=(Bb _ (by omega)).trans (MX _ (by omega) (by omega));have Sq:J m=none:=(Bb _ KJ).trans Fj;have hz:∀b,b<w.heap.size+4→b≠w.heap.size→Nj.heap[b]?=oF.heap[b]? :=fun b hb hn=>((oq.block _ (by omega) (fun e=>by cases e;omega)).trans (oo.block _ (by omega) (fun e=>by cases e;omega))).trans (xZ.block _ (by omega));have Na:=Qh ((hz (w.heap.size+2) (by omega) (by omega)).trans Sc.O);have Nb:=Qh ((hz (w.heap.size+3) (by omega) (by omega)).trans Sd.O);have Nf:=Qh ((oq.block w.heap.size (by omega) (fun e=>by cases e;omega)).trans Dw);have Jf:=Qh ((KL.grown oo (fun g e=>by cases e;exact VK)).grown oq (fun g e=>by cases e;exact Sq));have Uc:Below w.heap.size w Nj:=((mE.trans (xZ.mono mE.size)).grown oo (by omega) (fun k e=>by cases e;omega)).grown oq (by omega) (fun k e=>by cases e;omega);obtain⟨e,he⟩:∃e:aT,(⟨c.au,c.ag,c.aj,c.target,(c.aF.length:Nat),sm,xs⟩:aT)=e:=⟨_,rfl⟩;have Hn:=Qh (show fI q c=(e,q2) by rw[Cy.O,he]);have Eu:aZ lD J (.slice kN e.aj.length k7) e.aj:=by rw[←he];exact Dl.mono PR
    have G6:aZ lY J (.slice x8 e.aA.length x9) e.aA:=by rw[←he];exact Ni
    have l7:e.Wf:=by rw[←he];exact Jg.O
    have su:=Qh (fun w hw=>U4 J (hG2.mono PR) e _ _ Eu G6 l7 (by rw[←he];exact nV) (by rw[←he];exact xh) w hw);have HJ:=Qh (And.intro (MZ.trans (Bb.mono (show w.heap.size≤_ by omega)) (Qn _)) (And.intro Eu (And.intro G6 Gz)));have Nc:=Qh (show Nj.heap[m]?=some (.cells #[.int .i64 e.au,S e.ag,.slice kN e.aj.length k7,S e.target,.int .i64 e.size,S e.av,.slice x8 e.aA.length x9] 81 (0,0)) by rw[←he];exact Dx);clear he Eu l7 G6 Ni Jg Cy Dw Dx oo oq hz PR xZ Bb KL Sj Sk rM mE Sc Sd Sb HC9 MJ uW Dl Gz MZ MX hG2 nJ mR VK Sq Fj;have Sa:w.heap.size≤Nj.heap.size:=Uc.size;have BJ:m≠w.heap.size+2:=by omega
    have Ng:m≠w.heap.size+3:=by omega
    refine yz (X:=Nat) (fun _=>Z8 m w.heap.size e (.slice kN e.aj.length k7) (.slice x8 e.aA.length x9) (.slice Bc q2.aJ.length Bd) q2) (fun _=>yB w.heap.size Nj (w.heap.size+2) (w.heap.size+3) 81 40 bH (jQ e (.slice kN e.aj.length k7) (.slice x8 e.aA.length x9)) #[.slice none 0 0,.int .i64 0,.string ⟨#[]⟩] #[.slice Bc q2.aJ.length Bd,.int .i64 q2.aV,S q2.str] 4 5) (by kernel_rfl) (by kernel_rfl) ?_ ?_ ?_
    ·exact⟨0,yB.start _ Sa Na.O Nb.O⟩
    ·rintro x s' a' w' i dM dC ha hC hi;obtain⟨aN,oi,fP,aC⟩:=mem_ready.1 hi;have rO:=(hC.keep m (Qg Nc.O) BJ Ng).trans Nc.O;have Nh:=(hC.keep w.heap.size (Qg Nf.O) (by omega) (by omega)).trans Nf.O;have pR:Ok J w':=Jf.O.of_block fun b c hb=>hC.keep b (Jf.O.lt hb) (fun h=>by rw[h,OL]at hb;cases hb) (fun h=>by rw[h,DW]at hb;cases hb);rcases i with _|_|_|_|_|_|_|i
     rotate_left 7
     ·simp at fP
     all_goals
      have dV:=fP;simp at fP;subst fP;simp[Region.binds]at aC
     ·have e7:a'.tmps[7]?.getD undef= .pointer (some ⟨m,0,none⟩):=oD ha (by simp);have d0:w'.cell? ⟨m,0,none⟩=_:=(cell_of_row _ _ 0 _ _ _ rO).trans rfl;have d1:w'.cell? ⟨m,1,none⟩=_:=(cell_of_row _ _ 1 _ _ _ rO).trans rfl;have d2:w'.cell? ⟨m,2,none⟩=_:=(cell_of_row _ _ 2 _ _ _ rO).trans rfl;have d3:w'.cell? ⟨m,3,none⟩=_:=(cell_of_row _ _ 3 _ _ _ rO).trans rfl;have d4:w'.cell? ⟨m,4,none⟩=_:=(cell_of_row _ _ 4 _ _ _ rO).trans rfl;have d5:w'.cell? ⟨m,5,none⟩=_:=(cell_of_row _ _ 5 _ _ _ rO).trans rfl;have d6:w'.cell? ⟨m,6,none⟩=_:=(cell_of_row _ _ 6 _ _ _ rO).trans rfl;refine wpOp_step dV (fun K' hK=> ?_);rw[if_pos (by rfl)];unfold Oper.wp;simp[go_sem,e7,d0,d1,d2,d3,d4,d5,d6,Oper.upon];exact hK _ _ ⟨x,eO (d:=some 43) (v:=gN e (.slice kN e.aj.length k7) (.slice x8 e.aA.length x9)) vR ha rfl aN,hC.pure (by decide) (by decide)⟩
     ·have e2:a'.tmps[2]?.getD undef= .pointer (some ⟨w.heap.size,0,none⟩):=oD ha (by simp);have d0:w'.cell? ⟨w.heap.size,0,none⟩=_:=(cell_of_row _ _ 0 _ _ _ Nh).trans rfl;have d1:w'.cell? ⟨w.heap.size,1,none⟩=_:=(cell_of_row _ _ 1 _ _ _ Nh).trans rfl;have d2:w'.cell? ⟨w.heap.size,2,none⟩=_:=(cell_of_row _ _ 2 _ _ _ Nh).trans rfl;refine wpOp_step dV (fun K' hK=> ?_);rw[if_pos (by rfl)];unfold Oper.wp;simp[go_sem,e2,d0,d1,d2,Oper.upon];exact hK _ _ ⟨x,eO (d:=some 44) (v:=fH q2 (.slice Bc q2.aJ.length Bd)) vR ha rfl aN,hC.pure (by decide) (by decide)⟩
     ·have e7:a'.tmps[7]?.getD undef= .pointer (some ⟨m,0,none⟩):=oD ha (by simp);have d0:w'.cell? ⟨m,0,none⟩=_:=(cell_of_row _ _ 0 _ _ _ rO).trans rfl;have d1:w'.cell? ⟨m,1,none⟩=_:=(cell_of_row _ _ 1 _ _ _ rO).trans rfl;have d2:w'.cell? ⟨m,2,none⟩=_:=(cell_of_row _ _ 2 _ _ _ rO).trans rfl;have d3:w'.cell? ⟨m,3,none⟩=_:=(cell_of_row _ _ 3 _ _ _ rO).trans rfl;have d4:w'.cell? ⟨m,4,none⟩=_:=(cell_of_row _ _ 4 _ _ _ rO).trans rfl;have d5:w'.cell? ⟨m,5,none⟩=_:=(cell_of_row _ _ 5 _ _ _ rO).trans rfl;have d6:w'.cell? ⟨m,6,none⟩=_:=(cell_of_row _ _ 6 _ _ _ rO).trans rfl;refine wpOp_step dV (fun K' hK=> ?_);rw[if_pos (by rfl)];unfold Oper.wp;simp[go_sem,e7,d0,d1,d2,d3,d4,d5,d6,Oper.upon];exact hK _ _ ⟨x,eO (d:=some 45) (v:=gN e (.slice kN e.aj.length k7) (.slice x8 e.aA.length x9)) vR ha rfl aN,hC.pure (by decide) (by decide)⟩
     ·have e45:a'.tmps[45]?.getD undef=gN e (.slice kN e.aj.length k7) (.slice x8 e.aA.length x9):=gT (i:=2) vR ha rfl (by first|simpa using aC|simp[aC]) (by simp);refine wpOp_step dV (fun K' hK=> ?_);rw[if_pos (by rfl)];unfold Oper.wp;simp[go_sem,e45,Oper.upon];refine(su.O w' pR).mono ?_;rintro r4 w4 ⟨rfl,aR⟩;exact hK _ _ ⟨x,eO (d:=some 46) (v:= .int .i64 (aP e)) vR ha rfl aN,hC.call aR (by decide) (by decide) Sa⟩
     ·have e4:a'.tmps[4]?.getD undef= .pointer (some ⟨w.heap.size+2,0,none⟩):=oD ha (by simp);have e43:a'.tmps[43]?.getD undef=gN e (.slice kN e.aj.length k7) (.slice x8 e.aA.length x9):=gT (i:=0) vR ha rfl (by first|simpa using aC|simp[aC]) (by simp);have gy:=hC.r1;rw[jZ aN]at gy;refine wpOp_step dV (fun K' hK=> ?_);rw[if_pos (by rfl)];refine wE 81 _ _ rfl (w.heap.size+2) 0 [.int .i64 e.au,S e.ag,.slice kN e.aj.length k7,S e.target,.int .i64 e.size,S e.av,.slice x8 e.aA.length x9] (gN e (.slice kN e.aj.length k7) (.slice x8 e.aA.length x9)) (by simp[Act.eval,e4]) (by simp[Act.eval,e43]) (by rfl) bH _ gy (by simp) (by kernel_rfl) (by simp[Value.oneCell']) ?_;exact hK _ _ ⟨x,eO (d:=none) (v:=undef) vR ha rfl aN,hC.pQ aN (by decide) (by omega) (by omega) (by rfl)⟩
     ·have e5:a'.tmps[5]?.getD undef= .pointer (some ⟨w.heap.size+3,0,none⟩):=oD ha (by simp);have e44:a'.tmps[44]?.getD undef=fH q2 (.slice Bc q2.aJ.length Bd):=gT (i:=1) vR ha rfl (by first|simpa using aC|simp[aC]) (by simp);have kD:=hC.r2;rw[jZ aN]at kD;refine wpOp_step dV (fun K' hK=> ?_);rw[if_pos (by rfl)];refine wE 40 _ _ rfl (w.heap.size+3) 0 [.slice Bc q2.aJ.length Bd,.int .i64 q2.aV,S q2.str] (fH q2 (.slice Bc q2.aJ.length Bd)) (by simp[Act.eval,e5]) (by simp[Act.eval,e44]) (by rfl) #[.slice none 0 0,.int .i64 0,.string ⟨#[]⟩] _ kD (by simp) (by kernel_rfl) (by simp[Value.oneCell']) ?_;exact hK _ _ ⟨x,eO (d:=none) (v:=undef) vR ha rfl aN,hC.Dv aN (by decide) (by omega) (by omega) (by rfl)⟩
     ·have e46:a'.tmps[46]?.getD undef= .int .i64 (aP e):=gT (i:=3) vR ha rfl (by first|simpa using aC|simp[aC]) (by simp);refine wpOp_step dV (fun K' hK=> ?_);rw[if_pos (by rfl)];unfold Oper.wp;simp[go_sem,e46,Oper.upon];exact hK _ _ ⟨x,eO (d:=some 6) (v:= .int .i64 (aP e)) vR ha rfl aN,hC.pure (by decide) (by decide)⟩
    ·rintro x s' a' wJ gz ha hC;have gy:=hC.r1;have kD:=hC.r2;rw[gz 4 (by decide),if_pos rfl]at gy;rw[gz 5 (by decide),if_pos rfl]at kD;have uz:=Qh gy;have H9:=Qh kD;have qi:Ok J wJ:=Jf.O.of_block fun b c hb=>hC.keep b (Jf.O.lt hb) (fun h=>by rw[h,OL]at hb;cases hb) (fun h=>by rw[h,DW]at hb;cases hb);have oO:=Uc.trans hC.eY;rw[xL _ _ _ _ (fun i hi=>by rw[Nat.zero_add];exact gz i (by simpa using hi))]at ha;subst ha;simp only[eH,Act.put];clear hC gz gy kD Na Nb Nc Nf;go_wp2;refine bodyPost_ret (v:= .tuple #[gN e (.slice kN e.aj.length k7) (.slice x8 e.aA.length x9),fH q2 (.slice Bc q2.aJ.length Bd),.int .i64 (aP e)]) ?_ rfl ?_
     ·rw[Xc1 rfl];simp[asAddr,run_loadVar_row wJ (w.heap.size+2) 81 81 _ (0,0) _ uz.O Tryz.underlying81 rfl Kr.O,run_loadVar_row wJ (w.heap.size+3) 40 40 _ (0,0) _ H9.O Tryz.underlying40 rfl wR.O]
     ·rw[Hn.O];exact⟨_,_,_,J,rfl,oO,HJ.O.1,qi,HJ.O.2.1,HJ.O.2.2.1,HJ.O.2.2.2⟩
abbrev KM(c:jK)(va:Value):List Value:=[.int .i64 c.au,S c.ag,va,S c.target,S c.aF]
abbrev Be(c:jK)(va:Value):Value:= .agg #[.int .i64 c.au,S c.ag,va,S c.target,S c.aF]
def Jh:Ty jK where
 size:=5
 rd:=fun I cs c=> ∃va,cs=KM c va∧aZ lD I va c.aj
 len:=fun⟨_,h,_⟩=>by rw[h];rfl
 one:=fun⟨va,h,h1⟩ u hu=>by
  rw[h]at hu;simp at hu;rcases hu with rfl|rfl|rfl|rfl|rfl<;>first|rfl|exact h1.one
 mono:=fun hI ⟨va,h,h1⟩=>⟨va,h,h1.mono hI⟩
structure Sr (w:World) (b o:Nat) (c:jK) (va:Value):Prop where
 c0:w.cell? ⟨b,o,none⟩=some (.int .i64 c.au)
 c1:w.cell? ⟨b,o+1,none⟩=some (S c.ag)
 c2:w.cell? ⟨b,o+2,none⟩=some va
 c3:w.cell? ⟨b,o+3,none⟩=some (S c.target)
 c4:w.cell? ⟨b,o+4,none⟩=some (S c.aF)
theorem Xx1{I:IH}{l:List jK}(h:aZ Jh I v l)(hw:Ok I w)(i:Nat)(hi:i<l.length):∃x va b off cap,l[i]=x∧v= .slice (some ⟨b,off,none⟩) l.length cap∧
 Sr w b (off+i*5) x va∧aZ lD I va x.aj:=by
 obtain⟨b,off,cap,cs,hv,⟨va,fE,h1⟩,hc⟩:=h.at_ hw hi;subst fE;exact⟨_,va,b,off,cap,rfl,hv,⟨hc 0 _ rfl,hc 1 _ rfl,hc 2 _ rfl,hc 3 _ rfl,hc 4 _ rfl⟩,h1⟩
structure FJ (w:World) (n:Nat) (c:jK) (va:Value):Prop where
 c0:w.cell? ⟨n,0,none⟩=some (.int .i64 c.au)
 c1:w.cell? ⟨n,1,none⟩=some (S c.ag)
 c2:w.cell? ⟨n,2,none⟩=some va
 c3:w.cell? ⟨n,3,none⟩=some (S c.target)
 c4:w.cell? ⟨n,4,none⟩=some (S c.aF)
theorem FJ.aQ{w':World}(h:FJ w b c va)(hb:Below w.heap.size w w'):FJ w' b c va:=
 ⟨bK hb h.c0,bK hb h.c1,bK hb h.c2,bK hb h.c3,bK hb h.c4⟩
theorem chgB_row{t:TypeId}(h:w.heap[b]?=some (.cells #[.int .i64 c.au,S c.ag,va,S c.target,S c.aF] t (0,0))):FJ w b c va:=
 ⟨(cell_of_row _ _ 0 _ _ _ h).trans rfl,(cell_of_row _ _ 1 _ _ _ h).trans rfl,(cell_of_row _ _ 2 _ _ _ h).trans rfl,(cell_of_row _ _ 3 _ _ _ h).trans rfl,(cell_of_row _ _ 4 _ _ _ h).trans rfl⟩
structure Nk where
 aG:Int
 Dy:List jK
def apb:Ty Nk where
 size:=2
 rd:=fun I cs b=> ∃vc,cs=[.int .i64 b.aG,vc]∧aZ Jh I vc b.Dy
 len:=fun⟨_,h,_⟩=>by rw[h];rfl
 one:=fun⟨vc,h,h1⟩ u hu=>by
  rw[h]at hu;simp at hu;rcases hu with rfl|rfl<;>first|rfl|exact h1.one
 mono:=fun hI ⟨vc,h,h1⟩=>⟨vc,h,h1.mono hI⟩
def Su(x:At):Bool:=decide (80<x.k.length) || decide (80<x.v.length)
def aaa(c:jK):Bool:=decide (250<c.ag.length) || decide (250<c.target.length) || decide (20<c.aj.length) || decide (600<c.aF.length) || c.aj.any Su
def aab(l:List Nk):Nat:=(l.map fun b=>b.Dy.length).sum
def aac(l:List Nk):Bool:=(l.any fun b=>b.Dy.any aaa) || decide (10<aab l) || decide (4<l.length)
def agw(l:List Nk):Int:=if aac l then 1 else 0
structure jK.Sm (c:jK):Prop where
 k0: -9223372036854775808≤c.au
 k1:c.au≤9223372036854775807
 ag:c.ag.length≤250
 target:c.target.length≤250
 Bf:c.aj.length≤20
 aF:c.aF.length≤600
 aj:∀x∈c.aj,x.k.length≤80∧x.v.length≤80
structure jK.In (c:jK):Prop where
 k0: -9223372036854775808≤c.au
 k1:c.au≤9223372036854775807
structure Nk.In (b:Nk):Prop where
 d0: -9223372036854775808≤b.aG
 d1:b.aG≤9223372036854775807
 Dy:∀c∈b.Dy,c.In
def agx(L:List dK)(l:List Nk):List dK:=l.foldl (fun L b=>(YQ L b.aG b.Dy).1) L
