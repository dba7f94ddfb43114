/- Lemmas for the claim's theorem;conditions: as each says. -/
import Derived.Test.YtmdfjnhfhidmhaaGreatDoorQ27
import Derived.Test.YtmdfjnhfhidmhaaGreatDoorQ28
set_option maxHeartbeats 0
set_option maxRecDepth 100000
set_option linter.all false
namespace Go.Proofs.YtmdfjnhfhidmhaaGreatDoor
open Go.RowKit
variable{w:World}{s:Array Bool}{R:Array Value}{c:gy}{i:Nat}{va:Value}{ops:Array Oper}{a:Act}{v:Value}{n b:Nat}{L:List (Option Tmp×Value)}{a':Act}{m:Nat}{w':World}{I:IH}{k:Nat}
theorem jy{P:Program}{rest:List Oper}{o:Oper}{Q:Exit→Act→World→Prop}(yf:o.guard=none)(hd:o.dst=none)(ty:TypeId)(x y:Operand)(ho:o.op= .store ty x y)
 (g off:Nat) (cs:List Value) (v:Value) (hx:a.eval x= .pointer (some ⟨g,off,none⟩)) (hy:a.eval y=v) (hv:v.cells=cs.toArray) (cur:Array Value) (tt:TypeId)
 (hg:w.heap[g]?=some (.cells cur tt (0,0))) (j5:off+cs.length≤cur.size) (hi:(P.info? ty).map (·.size)=some cs.length) (h1:∀v∈cs,v.oneCell'=true) (R:Array Value) (hR:over cur off cs=R)
 (h:∀w',w.grownBy w' (some g)→w'.heap[g]?=some (.cells R tt (0,0))→wpList P ops Q rest a w'):wpList P ops Q (o::rest) a w:=by
 refine wpList_plain yf fun _ hK=> ?_;exact qU ty x y ho g off cs v hx hy hv cur tt hg j5 hi h1 (hK _ _ (by rw[hd];exact h _ vE (by rw[←hR];exact setRow_heap w g cur _ tt (0,0) hg)))
def eZ:List (Option Tmp×Value)→Nat→Array Bool→Tmp→Value→Value
 | [],_,_,_,d=>d
 |(e,u)::l,k,s,t,d=>if e=some t then(if s.getD k false=true then u else d)else eZ l (k+1) s t d
theorem SN:∀(l:List (Option Tmp×Value)) (k:Nat) (s:Array Bool) (a:Act) (t:Tmp),bE l→t<a.tmps.size→(bH l k s a).eval (.tmp t)=eZ l k s t (a.eval (.tmp t))
 | [],_,_,_,_,_,_=>rfl
 |(e,u)::l,k,s,a,t,hp,ht=>by
  obtain⟨h1,h2⟩:=List.pairwise_cons.1 hp;rw[bH,eZ];by_cases he:e=some t
  ·subst he;rw[if_pos rfl,NR l _ _ _ _ fun p hp=>h1 p hp t rfl];split
   ·simp[Act.eval,Act.put,ht]
   ·rfl
  ·rw[if_neg he];by_cases hs:s.getD k false=true
   ·rw[if_pos hs,SN l _ _ _ _ h2 (by rw[Yc];exact ht),Yb a u he]
   ·rw[if_neg hs];exact SN l _ _ _ _ h2 ht
theorem A8(hp:bE L)(ha:a'=bH L 0 s a)(t:Tmp)(ht:t<a.tmps.size):a'.tmps[t]?.getD undef=eZ L 0 s t (a.tmps[t]?.getD undef):=by
 have h:=SN L 0 s a t hp ht;rw[←ha]at h;simpa[Act.eval]using h
theorem jQ{d:Tmp}(hp:bE L)(ha:a'=bH L 0 s a)(hi:L[i]?=some (some d,v))(aJ:s.getD i true=false):
 ({tmps:=a'.tmps.setIfInBounds d v,defers:=a'.defers}:Act)=bH L 0 (s.setIfInBounds i true) a:=dF (d:=some d) hp ha hi aJ
def qh(ops:Array Oper):Nat→Nat→Nat→Bool
 |0,k,i=>k==i
 |f+1,k,i=>k==i || (match ops[k]? with|some o=>o.after.any fun e=>Region.binds .any e&&qh ops f e.on i|none=>false)
theorem ZM(h:BN ops s):∀(f k i:Nat),qh ops f k i=true→s.getD k false=true→s.getD i false=true
 |0,k,i,hr,hk=>by
  have:k=i:=by simpa[qh]using hr
  subst this;exact hk
 |f+1,k,i,hr,hk=>by
  rw[qh,Bool.or_eq_true]at hr;rcases hr with hr|hr
  ·have:k=i:=by simpa using hr
   subst this;exact hk
  ·cases ho:ops[k]? with
   |none=>rw[ho]at hr;cases hr
   |some o=>
    rw[ho]at hr;simp only[Array.any_eq_true,Bool.and_eq_true]at hr;obtain⟨n,hn,h3,h4⟩:=hr;exact ZM h f _ i h4 (h k o ho hk _ (Array.getElem_mem hn) h3)
theorem qH(f k:Nat)(h:BN ops s)(hp:qh ops f k i=true)(aJ:s.getD i true=false):s.getD k false=false:=by
 cases hk:s.getD k false with
 |false=>rfl
 |true=>have:=ZM h f k i hp hk;rw[jl aJ]at this;cases this
theorem yJ{g:Nat}(h:(s.setIfInBounds i true).getD g false=false):s.getD g false=false:=by
 by_cases e:i=g
 ·subst e;cases hg:s.getD i false with
  |false=>rfl
  |true=>
   have hlt:i<s.size:=by
    rcases Nat.lt_or_ge i s.size with h'|h'
    ·exact h'
    ·rw[kz h']at hg;cases hg
   rw[zH hlt]at h;cases h
 ·rwa[getD_set_ne false e]at h
theorem DN{j:Nat}(h:(s.setIfInBounds i true).getD j false=true):i=j∨s.getD j false=true:=by
 by_cases e:i=j
 ·exact .inl e
 ·rw[getD_set_ne false e]at h;exact .inr h
structure jZ {X:Type} (W:World) (j1 g1 j2 g2 j3 g3 j4 g4:Nat) (G0 G1 G2 G3 G4 Fin:X→World→Prop) (m:X→Nat) (t:TypeId) (s1 s2 s3:Nat) (R1 R2 R3:X→Array Value) (x:X) (s:Array Bool) (w:World):Prop where
 off:s.getD s1 false=false→Below W.heap.size W w
 inv:s.getD s1 false=false→G0 x w
 f1:s.getD j1 false=true→s.getD g1 false=false→s.getD s1 false=false→G1 x w
 f2:s.getD j2 false=true→s.getD g2 false=false→s.getD s1 false=false→G2 x w
 f3:s.getD j3 false=true→s.getD g3 false=false→s.getD s1 false=false→G3 x w
 f4:s.getD j4 false=true→s.getD g4 false=false→s.getD s1 false=false→G4 x w
 on:s.getD s1 false=true→ ∃wb,Below W.heap.size W wb∧Fin x wb∧wb.grownBy w (some (m x))∧
  w.heap[m x]?=some (.cells (if s.getD s3 false=true then R3 x else if s.getD s2 false=true then R2 x else R1 x) t (0,0))
section
variable {X:Type} {W w w':World} {j1 g1 j2 g2 j3 g3 j4 g4:Nat} {G0 G1 G2 G3 G4 Fin:X→World→Prop} {m:X→Nat} {t:TypeId} {s1 s2 s3:Nat} {R1 R2 R3:X→Array Value} {x:X} {s:Array Bool} {i:Nat}
theorem jZ.start(n:Nat)(x:X)(h0:G0 x {W with drawn:=W.drawn+1}):jZ W j1 g1 j2 g2 j3 g3 j4 g4 G0 G1 G2 G3 G4 Fin m t s1 s2 s3 R1 R2 R3 x (Array.replicate n false) {W with drawn:=W.drawn+1}:=
 ⟨fun _=>(Qb _ _).drew,fun _=>h0,fun h=>(by rw[sw]at h;cases h),fun h=>(by rw[sw]at h;cases h),fun h=>(by rw[sw]at h;cases h),fun h=>(by rw[sw]at h;cases h),fun h=>(by rw[sw]at h;cases h)⟩
theorem jZ.pure(h:jZ W j1 g1 j2 g2 j3 g3 j4 g4 G0 G1 G2 G3 G4 Fin m t s1 s2 s3 R1 R2 R3 x s w)(hd:i≠j1∧i≠j2∧i≠j3∧i≠s1∧i≠s2∧i≠s3∧i≠j4):jZ W j1 g1 j2 g2 j3 g3 j4 g4 G0 G1 G2 G3 G4 Fin m t s1 s2 s3 R1 R2 R3 x (s.setIfInBounds i true) w:=by
 obtain⟨h1,h2,h3,h4,h5,h6,h7⟩:=hd;refine⟨?_,?_,?_,?_,?_,?_,?_⟩
 ·rw[getD_set_ne false h4];exact h.off
 ·rw[getD_set_ne false h4];exact h.inv
 ·rw[getD_set_ne false h1,getD_set_ne false h4];exact fun a b=>h.f1 a (yJ b)
 ·rw[getD_set_ne false h2,getD_set_ne false h4];exact fun a b=>h.f2 a (yJ b)
 ·rw[getD_set_ne false h3,getD_set_ne false h4];exact fun a b=>h.f3 a (yJ b)
 ·rw[getD_set_ne false h7,getD_set_ne false h4];exact fun a b=>h.f4 a (yJ b)
 ·rw[getD_set_ne false h4,getD_set_ne false h5,getD_set_ne false h6];exact h.on
theorem jZ.step(h:jZ W j1 g1 j2 g2 j3 g3 j4 g4 G0 G1 G2 G3 G4 Fin m t s1 s2 s3 R1 R2 R3 x s w)(hl:s.getD s1 false=false)(hb:Below W.heap.size W w')(hi:i≠s1){x':X}(k0:G0 x w→G0 x' w')
 (k1:i=j1∨(s.getD j1 false=true∧s.getD g1 false=false∧G1 x w)→i≠g1→G1 x' w') (k2:i=j2∨(s.getD j2 false=true∧s.getD g2 false=false∧G2 x w)→i≠g2→G2 x' w') (k3:i=j3∨(s.getD j3 false=true∧s.getD g3 false=false∧G3 x w)→i≠g3→G3 x' w') (k4:i=j4∨(s.getD j4 false=true∧s.getD g4 false=false∧G4 x w)→i≠g4→G4 x' w') (hlt:i<s.size):
 jZ W j1 g1 j2 g2 j3 g3 j4 g4 G0 G1 G2 G3 G4 Fin m t s1 s2 s3 R1 R2 R3 x' (s.setIfInBounds i true) w':=by
 have aux:∀{g:Nat},(s.setIfInBounds i true).getD g false=false→i≠g:=fun b e=>by subst e;rw[zH hlt]at b;cases b
 refine⟨fun _=>hb,fun _=>k0 (h.inv hl),fun a b _=>k1 ?_ (aux b),fun a b _=>k2 ?_ (aux b),fun a b _=>k3 ?_ (aux b),fun a b _=>k4 ?_ (aux b),?_⟩
 ·exact(DN a).imp id fun q=>⟨q,yJ b,h.f1 q (yJ b) hl⟩
 ·exact(DN a).imp id fun q=>⟨q,yJ b,h.f2 q (yJ b) hl⟩
 ·exact(DN a).imp id fun q=>⟨q,yJ b,h.f3 q (yJ b) hl⟩
 ·exact(DN a).imp id fun q=>⟨q,yJ b,h.f4 q (yJ b) hl⟩
 ·rw[getD_set_ne false hi,hl];intro q;cases q
theorem jZ.lH(h:jZ W j1 g1 j2 g2 j3 g3 j4 g4 G0 G1 G2 G3 G4 Fin m t s1 s2 s3 R1 R2 R3 x s w)(aJ:s.getD s1 true=false)(hf:Fin x w)(h2:s.getD s2 false=false)(h3:s.getD s3 false=false)(hd:s1≠s2∧s1≠s3)
 {cur:Array Value} (hg:w.heap[m x]?=some (.cells cur t (0,0)))  (hR:R=R1 x):jZ W j1 g1 j2 g2 j3 g3 j4 g4 G0 G1 G2 G3 G4 Fin m t s1 s2 s3 R1 R2 R3 x (s.setIfInBounds s1 true) (w.setRow (m x) R):=by
 have e:=zH (tJ aJ);have hl:s.getD s1 false=false:=jl aJ;refine⟨fun q=>(by rw[e]at q;cases q),fun q=>(by rw[e]at q;cases q),fun _ _ q=>(by rw[e]at q;cases q),fun _ _ q=>(by rw[e]at q;cases q),fun _ _ q=>(by rw[e]at q;cases q),fun _ _ q=>(by rw[e]at q;cases q),fun _=>⟨w,h.off hl,hf,vE,?_⟩⟩;rw[getD_set_ne false hd.1,getD_set_ne false hd.2,h2,h3,hR];exact setRow_heap w (m x) cur _ t (0,0) hg
theorem jZ.xW(h:jZ W j1 g1 j2 g2 j3 g3 j4 g4 G0 G1 G2 G3 G4 Fin m t s1 s2 s3 R1 R2 R3 x s w)(aJ:s.getD s2 true=false)(h1:s.getD s1 false=true)(h3:s.getD s3 false=false)(hd:s2≠s1∧s2≠s3)(hR:R=R2 x):
 jZ W j1 g1 j2 g2 j3 g3 j4 g4 G0 G1 G2 G3 G4 Fin m t s1 s2 s3 R1 R2 R3 x (s.setIfInBounds s2 true) (w.setRow (m x) R):=by
 have e:=zH (tJ aJ);have e1:(s.setIfInBounds s2 true).getD s1 false=true:=by rw[getD_set_ne false hd.1];exact h1
 obtain⟨wb,k1,k2,k4,k5⟩:=h.on h1;refine⟨fun q=>(by rw[e1]at q;cases q),fun q=>(by rw[e1]at q;cases q),fun _ _ q=>(by rw[e1]at q;cases q),fun _ _ q=>(by rw[e1]at q;cases q),fun _ _ q=>(by rw[e1]at q;cases q),fun _ _ q=>(by rw[e1]at q;cases q),fun _=>⟨wb,k1,k2,YK k4 (vE),?_⟩⟩;rw[getD_set_ne false hd.2,h3,e,hR];exact setRow_heap w (m x) _ _ t (0,0) k5
theorem jZ.SQ(h:jZ W j1 g1 j2 g2 j3 g3 j4 g4 G0 G1 G2 G3 G4 Fin m t s1 s2 s3 R1 R2 R3 x s w)(aJ:s.getD s3 true=false)(h1:s.getD s1 false=true)(hd:s3≠s1)(hR:R=R3 x):
 jZ W j1 g1 j2 g2 j3 g3 j4 g4 G0 G1 G2 G3 G4 Fin m t s1 s2 s3 R1 R2 R3 x (s.setIfInBounds s3 true) (w.setRow (m x) R):=by
 have e:=zH (tJ aJ);have e1:(s.setIfInBounds s3 true).getD s1 false=true:=by rw[getD_set_ne false hd];exact h1
 obtain⟨wb,k1,k2,k4,k5⟩:=h.on h1;refine⟨fun q=>(by rw[e1]at q;cases q),fun q=>(by rw[e1]at q;cases q),fun _ _ q=>(by rw[e1]at q;cases q),fun _ _ q=>(by rw[e1]at q;cases q),fun _ _ q=>(by rw[e1]at q;cases q),fun _ _ q=>(by rw[e1]at q;cases q),fun _=>⟨wb,k1,k2,YK k4 (vE),?_⟩⟩;rw[e,hR];exact setRow_heap w (m x) _ _ t (0,0) k5
theorem jZ.Fx(h:jZ W j1 g1 j2 g2 j3 g3 j4 g4 G0 G1 G2 G3 G4 Fin m t s1 s2 s3 R1 R2 R3 x s w)(h1:s.getD s1 false=true)(h2:s.getD s2 false=false)(h3:s.getD s3 false=false):w.heap[m x]?=some (.cells (R1 x) t (0,0)):=by
 obtain⟨wb,_,_,_,k5⟩:=h.on h1;rw[h2,h3]at k5;exact k5
theorem jZ.gB(h:jZ W j1 g1 j2 g2 j3 g3 j4 g4 G0 G1 G2 G3 G4 Fin m t s1 s2 s3 R1 R2 R3 x s w)(h1:s.getD s1 false=true)(h2:s.getD s2 false=true)(h3:s.getD s3 false=false):w.heap[m x]?=some (.cells (R2 x) t (0,0)):=by
 obtain⟨wb,_,_,_,k5⟩:=h.on h1;rw[h2,h3]at k5;exact k5
end
structure tN (B:Nat) (W:World) (m1 m2:Nat) (t1 t2:TypeId) (Z1 R1 Z2 R2:Array Value) (s1 s2:Nat) (s:Array Bool) (w:World):Prop where
 eD:Below B W w
 keep:∀k,k<W.heap.size→k≠m1→k≠m2→w.heap[k]?=W.heap[k]?
 r1:w.heap[m1]?=some (.cells (if s.getD s1 false=true then R1 else Z1) t1 (0,0))
 r2:w.heap[m2]?=some (.cells (if s.getD s2 false=true then R2 else Z2) t2 (0,0))
section
variable {B:Nat} {W w w':World} {m1 m2:Nat} {t1 t2:TypeId} {Z1 R1 Z2 R2:Array Value} {s1 s2:Nat} {s:Array Bool} {i:Nat}
theorem tN.start(n:Nat)(hB:B≤W.heap.size)(h1:W.heap[m1]?=some (.cells Z1 t1 (0,0)))(h2:W.heap[m2]?=some (.cells Z2 t2 (0,0))):tN B W m1 m2 t1 t2 Z1 R1 Z2 R2 s1 s2 (Array.replicate n false) {W with drawn:=W.drawn+1}:=
 ⟨((Qb _ _).drew).mono hB,fun _ _ _ _=>rfl,by rw[sw];exact h1,by rw[sw];exact h2⟩
theorem tN.pure(h:tN B W m1 m2 t1 t2 Z1 R1 Z2 R2 s1 s2 s w)(h1:i≠s1)(h2:i≠s2):tN B W m1 m2 t1 t2 Z1 R1 Z2 R2 s1 s2 (s.setIfInBounds i true) w:=
 ⟨h.eD,h.keep,by rw[getD_set_ne false h1];exact h.r1,by rw[getD_set_ne false h2];exact h.r2⟩
theorem tN.call(h:tN B W m1 m2 t1 t2 Z1 R1 Z2 R2 s1 s2 s w)(hb:Below w.heap.size w w')(h1:i≠s1)(h2:i≠s2)(hB:B≤W.heap.size):tN B W m1 m2 t1 t2 Z1 R1 Z2 R2 s1 s2 (s.setIfInBounds i true) w':=
 ⟨h.eD.trans (hb.mono (Nat.le_trans hB h.eD.size)),fun k hk a b=>(hb.block k (Nat.lt_of_lt_of_le hk h.eD.size)).trans (h.keep k hk a b),
   by rw[getD_set_ne false h1];exact(hb.block _ (Qg h.r1)).trans h.r1,by rw[getD_set_ne false h2];exact(hb.block _ (Qg h.r2)).trans h.r2⟩
theorem tN.lH(h:tN B W m1 m2 t1 t2 Z1 R1 Z2 R2 s1 s2 s w)(aJ:s.getD s1 true=false)(Vm:s1≠s2)(hm:m1≠m2)(hB:B≤m1)(hR:R=R1):tN B W m1 m2 t1 t2 Z1 R1 Z2 R2 s1 s2 (s.setIfInBounds s1 true) (w.setRow m1 R):=by
 have e:=zH (tJ aJ);refine⟨h.eD.grown (row:=some m1) vE (by have:=(Qg h.r1);omega) (fun k hk=>by cases hk;exact hB),fun k hk a b=>(setRow_other w m1 k R a).trans (h.keep k hk a b),?_,?_⟩
 ·rw[e,hR];exact setRow_heap w m1 _ _ t1 (0,0) h.r1
 ·rw[getD_set_ne false Vm,setRow_other w m1 m2 R (Ne.symm hm)];exact h.r2
theorem tN.xW(h:tN B W m1 m2 t1 t2 Z1 R1 Z2 R2 s1 s2 s w)(aJ:s.getD s2 true=false)(Vm:s2≠s1)(hm:m1≠m2)(hB:B≤m2)(hR:R=R2):tN B W m1 m2 t1 t2 Z1 R1 Z2 R2 s1 s2 (s.setIfInBounds s2 true) (w.setRow m2 R):=by
 have e:=zH (tJ aJ);refine⟨h.eD.grown (row:=some m2) vE (by have:=(Qg h.r2);omega) (fun k hk=>by cases hk;exact hB),fun k hk a b=>(setRow_other w m2 k R b).trans (h.keep k hk a b),?_,?_⟩
 ·rw[getD_set_ne false Vm,setRow_other w m2 m1 R hm];exact h.r1
 ·rw[e,hR];exact setRow_heap w m2 _ _ t2 (0,0) h.r2
end
def SS(I:IH)(w:World)(p:aQ×dX)(e:Ending)(w':World):Prop:=
 ∃va vx vk I',e= .returned (.tuple #[fG p.1 va vx,fI p.2 vk,.int .i64 (aL p.1)])∧Below w.heap.size w w'∧Ext w.heap.size I I'∧Ok I' w'∧aY lv I' va p.1.au∧aY kQ I' vx p.1.aD∧aY pY I' vk p.2.aM
theorem ZN{fn:Func}{p q u:Tmp}{ty tz:TypeId}(h:fn.results=#[.cell p ty,.cell q tz,.tmp u])(tmps:Array Value)(P:Program)(w:World):
 (results fn tmps).run P w=
   ((asAddr (tmps.getD p undef)).run P w).andThen fun a w₁=>((loadVar ty a).run P w₁).andThen fun v w₂=>((asAddr (tmps.getD q undef)).run P w₂).andThen fun b w₃=>((loadVar tz b).run P w₃).andThen fun z w₄=> .ok (.tuple #[v,z,tmps.getD u undef]) w₄:=by
 simp only[results,h];simp[Sem.run_bind,Result.andThen]
abbrev Ip(n:Nat)(aj:Int)(ag:af)(ao:Option Addr)(le cap:Nat)(av:af)(x:Nat×(Option Addr×Nat)):List (Option Tmp×Value):=
 [(some 8,.pointer (some ⟨n+1,0,none⟩)),(some 9,.int .i64 aj),(some 10,.pointer (some ⟨n+1,1,none⟩)),(some 11,S ag),(some 12,.pointer (some ⟨n+1,2,none⟩)),(some 13,.slice ao le cap),(some 14,.slice x.2.1 le x.2.2),(some 15,.pointer (some ⟨n+1,3,none⟩)),(some 16,S av),(some 17,.agg #[.int .i64 aj,S ag,.slice x.2.1 le x.2.2,S av,.int .i64 0,.string ⟨#[]⟩,.slice none 0 0]),(some 7,.pointer (some ⟨x.1,0,none⟩)),(none,undef)]
theorem Iq{aj:Int}{ag:af}{ao:Option Addr}{le cap:Nat}{av:af}{x:Nat×(Option Addr×Nat)}:bE (Ip n aj ag ao le cap av x):=by
 unfold bE;simp
abbrev Oz(n m:Nat)(ct sm:af)(x:Nat):List (Option Tmp×Value):=
 [(some 21,.pointer (some ⟨n+1,4,none⟩)),(some 22,S ct),(some 23,.int .i64 (ct.length:Int)),(some 24,.pointer (some ⟨n+1,4,none⟩)),(some 25,S ct),(some 26,.slice (some ⟨x,0,none⟩) 1 1),(some 27,S sm),(some 28,.pointer (some ⟨m,4,none⟩)),(none,undef),(some 29,.pointer (some ⟨m,5,none⟩)),(none,undef)]
theorem Fy{ct sm:af}{x:Nat}:bE (Oz n m ct sm x):=by
 unfold bE;simp
abbrev SV(m n:Nat)(e:aQ)(va vx vk:Value)(q:dX):List (Option Tmp×Value):=
 [(some 43,fG e va vx),(some 44,fI q vk),(some 45,fG e va vx),(some 46,.int .i64 (aL e)),(none,undef),(none,undef),(some 6,.int .i64 (aL e))]
theorem qI{e:aQ}{vx vk:Value}{q:dX}:bE (SV m n e va vx vk q):=by
 unfold bE;simp
theorem Xkm(w:World)(a b c d:Array Value)(ta tb tc td:TypeId)(W:World)(hW:(((w.alloc (.cells a ta)).alloc (.cells b tb)).alloc (.cells c tc)).alloc (.cells d td)=W):
 W.heap.size=w.heap.size+4∧W.heap[w.heap.size]?=some (.cells a ta (0,0))∧W.heap[w.heap.size+1]?=some (.cells b tb (0,0))∧W.heap[w.heap.size+2]?=some (.cells c tc (0,0))∧W.heap[w.heap.size+3]?=some (.cells d td (0,0)):=by
 subst hW;have h1:=heap_alloc_new w (.cells a ta);have h2:=heap_alloc_new (w.alloc (.cells a ta)) (.cells b tb);have h3:=heap_alloc_new ((w.alloc (.cells a ta)).alloc (.cells b tb)) (.cells c tc);have h4:=heap_alloc_new (((w.alloc (.cells a ta)).alloc (.cells b tb)).alloc (.cells c tc)) (.cells d td);have e1:(w.alloc (.cells a ta)).heap.size=w.heap.size+1:=by simp
 have e2:((w.alloc (.cells a ta)).alloc (.cells b tb)).heap.size=w.heap.size+2:=by simp
 have e3:(((w.alloc (.cells a ta)).alloc (.cells b tb)).alloc (.cells c tc)).heap.size=w.heap.size+3:=by simp
 rw[e1]at h2;rw[e2]at h3;rw[e3]at h4;refine⟨by simp,?_,?_,?_,h4⟩
 ·exact(Below.heap_alloc _ _ _ (by omega)).trans ((Below.heap_alloc _ _ _ (by omega)).trans ((Below.heap_alloc _ _ _ (by omega)).trans h1))
 ·exact(Below.heap_alloc _ _ _ (by omega)).trans ((Below.heap_alloc _ _ _ (by omega)).trans h2)
 ·exact(Below.heap_alloc _ _ _ (by omega)).trans h3
theorem Xm8(I:IH)(hI:cB I)(q:dX)(vk:Value)(Jc:aY pY I vk q.aM)(hq:qW q)(hqn:q.aM.length≤10000000)(c:gy)(va:Value)(gW:aY lv I va c.au)(hc:c.Wf)(zm:c.au.length≤1000000)(w:World)(hw:Ok I w):
 Calls Tryz.prog 67 #[fI q vk,.agg #[.int .i64 c.aj,S c.ag,va,S c.av,S c.aF]] w (SS I w (dw q c)):=by
 obtain⟨ak,ck,rfl,_,_,_⟩:=id Jc;obtain⟨ao,cap,rfl,_,_,_⟩:=id gW;have mh:=Qh (fun w hw=>Xl0 I _ c.au gW w hw (by omega));have HG:=Qh hI;have Hvk:=Qh Jc;have Hq:=Qh hq;have Hc:=Qh hc;have yH:=Qh (show(Tryz.prog.info? 40).map (·.size)=some 3 by kernel_rfl);have Du:=Qh (show(Tryz.prog.info? 81).map (·.size)=some 7 by kernel_rfl);have nO:=hc.ag;have sO:=hc.av;have bU:=hc.aF;obtain⟨W4,OA⟩:∃W4,((((w.alloc (.cells #[.slice ak q.aM.length ck,.int .i64 q.aW,S q.str] 40)).alloc (.cells #[.int .i64 c.aj,S c.ag,.slice ao c.au.length cap,S c.av,S c.aF] 25)).alloc (.cells #[.int .i64 0,.string ⟨#[]⟩,.slice none 0 0,.string ⟨#[]⟩,.int .i64 0,.string ⟨#[]⟩,.slice none 0 0] 81)).alloc (.cells #[.slice none 0 0,.int .i64 0,.string ⟨#[]⟩] 40))=W4:=⟨_,rfl⟩;have cK:Ok I W4:=by rw[←OA];exact(((hw.alloc _).alloc _).alloc _).alloc _
 obtain⟨kU,ZO,Ir,ZP,h43⟩:=Xkm w _ _ _ _ _ _ _ _ W4 OA;have bA:Below w.heap.size w W4:=by rw[←OA];exact((((Qb _ _).alloc (Qn _) _).alloc (by simp) _).alloc (by simp;omega) _).alloc (by simp;omega) _
 have c0:W4.cell? ⟨w.heap.size+1,0,none⟩=some (.int .i64 c.aj):=(cell_of_row _ _ 0 _ _ _ Ir).trans rfl;have c1:W4.cell? ⟨w.heap.size+1,1,none⟩=some (S c.ag):=(cell_of_row _ _ 1 _ _ _ Ir).trans rfl;have c2:W4.cell? ⟨w.heap.size+1,2,none⟩=some (.slice ao c.au.length cap):=(cell_of_row _ _ 2 _ _ _ Ir).trans rfl;have c3:W4.cell? ⟨w.heap.size+1,3,none⟩=some (S c.av):=(cell_of_row _ _ 3 _ _ _ Ir).trans rfl;have ZQ:=Qh ZO;have ZR:=Qh Ir;have ZT:=Qh ZP;have ZU:=Qh h43;have KV:∀b,w.heap.size≤b→I b=none:=fun b hb=>hw.fresh hb;have HsZ:=Qh kU;clear Jc gW hq hc ZO Ir ZP h43 kU hI;go_enter Tryz.func67,Tryz.ntmps67
 go_wp2_with fail
 clear OA;refine tK (X:=Nat×(Option Addr×Nat)) (Ip w.heap.size c.aj c.ag ao c.au.length cap c.av) (jZ W4 6 233 10 234 225 235 226 236 (fun _ _=>True) (fun x w=>aN lv 107 I w W4.heap.size (.slice x.2.1 c.au.length x.2.2) c.au) (fun x w=>w.heap[x.1]?=some (.cells bF 81 (0,0))∧W4.heap.size≤x.1) (fun _ _=>True) (fun _ _=>True) (fun x w=>aN lv 107 I w W4.heap.size (.slice x.2.1 c.au.length x.2.2) c.au∧(w.heap[x.1]?=some (.cells bF 81 (0,0))∧W4.heap.size≤x.1)) (fun x=>x.1) 81 11 213 214 (fun x=> #[.int .i64 c.aj,S c.ag,.slice x.2.1 c.au.length x.2.2,S c.av,.int .i64 0,.string ⟨#[]⟩,.slice none 0 0]) (fun x=> #[.int .i64 c.aj,S c.ag,.slice x.2.1 c.au.length x.2.2,S c.av,.int .i64 0,.string ⟨#[]⟩,.slice none 0 0]) (fun x=> #[.int .i64 c.aj,S c.ag,.slice x.2.1 c.au.length x.2.2,S c.av,.int .i64 0,.string ⟨#[]⟩,.slice none 0 0])) (by kernel_rfl) (by kernel_rfl) ?_ ?_ ?_
 ·exact⟨(0,default),jZ.start _ _ trivial⟩
 ·rintro x s' a' w' i cu bU ha hC hi;obtain⟨aJ,oi,dN,aA⟩:=mem_ready.1 hi;have ev:=A8 Iq ha;have hlt:=tJ aJ;rcases i with _|_|_|_|_|_|_|_|_|_|_|_|i
  rotate_left 12
  ·simp at dN
  all_goals
   have bY:=dN;simp at dN;subst dN;simp[Region.binds]at aA;try have hl:=qH 6 11 bU (by decide+kernel) aJ
   try have bQ:=hC.off hl
   try have c0:=bI bQ c0
   try have c1:=bI bQ c1
   try have c2:=bI bQ c2
   try have c3:=bI bQ c3
   refine wpOp_step bY (fun K' hK=> ?_);rw[if_pos (by rfl)]
  rotate_left 6
  ·unfold Oper.wp;simp[go_sem,ev,eZ,aA,Oper.upon];refine(mh.q w' (cK.below (Qn _) bQ)).mono ?_;rintro r4 w4 ⟨v7,rfl,ho,bA⟩;obtain⟨a7,k7,rfl⟩:=wP ho;have ha:=ha.trans (qF (L:=Ip w.heap.size c.aj c.ag ao c.au.length cap c.av x) (M:=Ip w.heap.size c.aj c.ag ao c.au.length cap c.av (x.1,(a7,k7))) [6,9] rfl (fun j aZ=>by
    rcases j with _|_|_|_|_|_|_|_|_|_|_|_|j<;>first|rfl|(exact absurd (by decide) aZ)|simp) (List.forall_mem_cons.2 ⟨jl aJ,List.forall_mem_cons.2 ⟨qH 6 9 bU (by kernel_rfl) aJ,List.forall_mem_nil _⟩⟩))
   exact hK _ _ ⟨(x.1,(a7,k7)),jQ Iq ha rfl aJ,hC.step hl (bQ.trans (bA.mono bQ.size)) (by decide) (fun _=>trivial) (fun _ _=>ho.lower bQ.size) (fun h _=>h.elim (fun e=>absurd e (by decide)) (fun⟨_,_,q⟩=>⟨(bA.block _ (Qg q.1)).trans q.1,q.2⟩)) (fun _ _=>trivial) (fun _ _=>trivial) hlt⟩
  rotate_left 3
  ·unfold Oper.wp;simp[go_sem,ev,eZ,aA,Oper.upon,c0,c1,c2,c3];have ha:=ha.trans (qF (L:=Ip w.heap.size c.aj c.ag ao c.au.length cap c.av x) (M:=Ip w.heap.size c.aj c.ag ao c.au.length cap c.av (w'.heap.size,x.2)) [10] rfl (fun j aZ=>by
    rcases j with _|_|_|_|_|_|_|_|_|_|_|_|j<;>first|rfl|(exact absurd (by decide) aZ)|simp) (List.forall_mem_cons.2 ⟨jl aJ,List.forall_mem_nil _⟩))
   exact hK _ _ ⟨(w'.heap.size,x.2),jQ Iq ha rfl aJ,hC.step hl (bQ.trans (((Qb _ _).alloc (Qn _) _).mono bQ.size)) (by decide) (fun _=>trivial) (fun h _=>h.elim (fun e=>absurd e (by decide)) (fun⟨_,_,q⟩=>q.alloc _)) (fun _ _=>⟨heap_alloc_new _ _,bQ.size⟩) (fun _ _=>trivial) (fun _ _=>trivial) hlt⟩
  ·have aU:w'.heap[x.1]?=some (.cells _ 81 (0,0)):=(hC.f2 (by first|simpa using aA|simp[aA]) (kz (by simp[cu])) hl).1;refine qU 81 _ _ rfl (x.1) 0 [.int .i64 c.aj,S c.ag,.slice x.2.1 c.au.length x.2.2,S c.av,.int .i64 0,.string ⟨#[]⟩,.slice none 0 0] (.agg #[.int .i64 c.aj,S c.ag,.slice x.2.1 c.au.length x.2.2,S c.av,.int .i64 0,.string ⟨#[]⟩,.slice none 0 0]) (by simp[Act.eval,ev,eZ,aA]) (by simp[Act.eval,ev,eZ,aA]) (by rfl) _ _ aU (by simp) (by kernel_rfl) (by simp[Value.oneCell']) ?_;exact hK _ _ ⟨x,dF (d:=none) (v:=undef) Iq ha rfl aJ,hC.lH aJ ⟨hC.f1 (by first|simpa using aA|simp[aA]) (kz (by simp[cu])) hl,hC.f2 (by first|simpa using aA|simp[aA]) (kz (by simp[cu])) hl⟩ (kz (by simp[cu])) (kz (by simp[cu])) (by decide) aU (by rfl)⟩
  all_goals
   unfold Oper.wp;first
   |(simp[go_sem,ev,eZ,aA,Oper.upon,c0,c1,c2,c3];exact hK _ _ ⟨x,jQ Iq ha rfl aJ,hC.pure (by decide)⟩)
   |(simp[go_sem,ev,eZ,Oper.upon,c0,c1,c2,c3];exact hK _ _ ⟨x,jQ Iq ha rfl aJ,hC.pure (by decide)⟩)
 ·rintro x s' a' w8 eX ha hC;obtain⟨wb,gQ,gU,fF,aU⟩:=hC.on (eX 11 (by decide));simp only[ite_self]at aU;rw[su _ _ _ _ (fun i hi=>by rw[Nat.zero_add];exact eX i (by simpa using hi))]at ha;subst ha;simp only[df,Act.put,List.setIfInBounds_toArray,List.set_cons_succ,List.set_cons_zero];obtain⟨m,jm,k7⟩:=x;dsimp only at gU fF aU ⊢;obtain⟨uJ,uI⟩:=gU;have kU:=HsZ.q;have aZ:=vN uJ uI.1 (by decide);have si:=uJ.kept fF (.inr aZ);have hm:w.heap.size+4≤m:=by have:=uI.2;omega
  have iC:Ok I w8:=(cK.below (Qn _) gQ).grown fF (fun g e=>by cases e;exact KV _ (by omega));have oQ:Below w.heap.size w w8:=(bA.trans (gQ.mono bA.size)).grown fF (by have:=gQ.size;omega) (fun k e=>by cases e;omega);obtain⟨J,wQ,oJ,yG,KE⟩:=si.freeze iC (fun b hb=>KV _ (by omega));have SX:=wQ.keep hw (by omega);have hz:∀b,b<w.heap.size+4→w8.heap[b]?=W4.heap[b]? :=fun b hb=>(fF.block _ (by have:=gQ.size;omega) (fun e=>by cases e;omega)).trans (gQ.block _ (by omega));have Fz:∀b,b<w.heap.size+4→w.heap.size≤b→J b=none:=fun b h1 h2=>(wQ b (by omega)).trans (KV b h2);have Ig:J m=none:=by rw[KE m aZ];exact KV _ (by omega)
  have FB:=wQ.mono (show w.heap.size≤W4.heap.size by omega);have OB:=Qh ((hz w.heap.size (by omega)).trans ZQ.q);have K7:=Qh ((hz (w.heap.size+1) (by omega)).trans ZR.q);have FC:=Qh ((hz (w.heap.size+2) (by omega)).trans ZT.q);have FD:=Qh ((hz (w.heap.size+3) (by omega)).trans ZU.q);have Iu:=Qh aU;have Vn:cB J:=HG.q.mono SX;have K8:=Qh (Hvk.q.mono SX);have k0:w8.cell? ⟨w.heap.size+1,0,none⟩=some (.int .i64 c.aj):=(cell_of_row _ _ 0 _ _ _ K7.q).trans rfl;clear hz uJ uI fF aU aZ si iC gQ hC eX wQ KE SX c0 c1 c2 c3 ZQ ZR ZT ZU mh cK bA kU;by_cases hk:c.aj=1;case neg=>
   have e1:(c.aj==1)=false:=by simpa using hk
   obtain⟨e,he⟩:∃e:aQ,(⟨c.aj,c.ag,c.au,c.av,0,[],[]⟩:aQ)=e:=⟨_,rfl⟩;obtain⟨q2,Mi⟩:∃q2,q2=q:=⟨_,rfl⟩;have Hn:=Qh (show dw q c=(e,q2) by rw[dw,if_neg hk,he,Mi]);subst Mi;have GK:aY kQ J (.slice none e.aD.length 0) e.aD:=by rw[←he];exact aY.nil _ _
   have CL:aY lv J (.slice jm e.au.length k7) e.au:=by rw[←he];exact yG
   have lu:e.Wf:=by have:=Sb Hq.q Hc.q;rw[Hn.q]at this;exact this
   have uk:=Qh (fun w hw=>JP J Vn e _ _ CL GK lu (by rw[←he];exact nO) (by rw[←he];exact sO) w hw);have HJ:=Qh (And.intro FB (And.intro CL (And.intro GK K8.q)));have Cq:=Qh oJ;have FE:=Qh (show w8.heap[m]?=some (.cells #[.int .i64 e.aj,S e.ag,.slice jm e.au.length k7,S e.av,.int .i64 e.size,S e.aI,.slice none e.aD.length 0] 81 (0,0)) by rw[←he];exact Iu.q);have FH:=OB;have MO:=oQ;have GJ:=Fz (w.heap.size+2) (by omega) (by omega);have yt:=Fz (w.heap.size+3) (by omega) (by omega);clear GK;clear hk he CL lu Iu K7 OB oQ oJ yG Fz;go_wp2_with fail
   clear k0 e1;have La:w.heap.size≤w8.heap.size:=MO.size;have Av:m≠w.heap.size+2:=by omega
   have FI:m≠w.heap.size+3:=by omega
   refine tK (X:=Nat) (fun _=>SV m w.heap.size e (.slice jm e.au.length k7) (.slice none e.aD.length 0) (.slice ak q2.aM.length ck) q2) (fun _=>tN w.heap.size w8 (w.heap.size+2) (w.heap.size+3) 81 40 bF (jB e (.slice jm e.au.length k7) (.slice none e.aD.length 0)) #[.slice none 0 0,.int .i64 0,.string ⟨#[]⟩] #[.slice ak q2.aM.length ck,.int .i64 q2.aW,S q2.str] 4 5) (by kernel_rfl) (by kernel_rfl) ?_ ?_ ?_
   ·exact⟨0,tN.start _ La FC.q FD.q⟩
   ·rintro x s' a' w' i cu bU ha hC hi;obtain⟨aJ,oi,dN,aA⟩:=mem_ready.1 hi;have nG:=(hC.keep m (Qg FE.q) Av FI).trans FE.q;have FJ:=(hC.keep w.heap.size (Qg FH.q) (by omega) (by omega)).trans FH.q;have nD:Ok J w':=Cq.q.of_block fun b c hb=>hC.keep b (Cq.q.lt hb) (fun h=>by rw[h,GJ]at hb;cases hb) (fun h=>by rw[h,yt]at hb;cases hb);rcases i with _|_|_|_|_|_|_|i
    rotate_left 7
    ·simp at dN
    all_goals
     have bY:=dN;simp at dN;subst dN;simp[Region.binds]at aA
    ·have e7:a'.tmps[7]?.getD undef= .pointer (some ⟨m,0,none⟩):=lT ha (by simp);have d0:w'.cell? ⟨m,0,none⟩=_:=(cell_of_row _ _ 0 _ _ _ nG).trans rfl;have d1:w'.cell? ⟨m,1,none⟩=_:=(cell_of_row _ _ 1 _ _ _ nG).trans rfl;have d2:w'.cell? ⟨m,2,none⟩=_:=(cell_of_row _ _ 2 _ _ _ nG).trans rfl;have d3:w'.cell? ⟨m,3,none⟩=_:=(cell_of_row _ _ 3 _ _ _ nG).trans rfl;have d4:w'.cell? ⟨m,4,none⟩=_:=(cell_of_row _ _ 4 _ _ _ nG).trans rfl;have d5:w'.cell? ⟨m,5,none⟩=_:=(cell_of_row _ _ 5 _ _ _ nG).trans rfl;have d6:w'.cell? ⟨m,6,none⟩=_:=(cell_of_row _ _ 6 _ _ _ nG).trans rfl;refine wpOp_step bY (fun K' hK=> ?_);rw[if_pos (by rfl)];unfold Oper.wp;simp[go_sem,e7,d0,d1,d2,d3,d4,d5,d6,Oper.upon];exact hK _ _ ⟨x,dF (d:=some 43) (v:=fG e (.slice jm e.au.length k7) (.slice none e.aD.length 0)) qI ha rfl aJ,hC.pure (by decide) (by decide)⟩
    ·have e2:a'.tmps[2]?.getD undef= .pointer (some ⟨w.heap.size,0,none⟩):=lT ha (by simp);have d0:w'.cell? ⟨w.heap.size,0,none⟩=_:=(cell_of_row _ _ 0 _ _ _ FJ).trans rfl;have d1:w'.cell? ⟨w.heap.size,1,none⟩=_:=(cell_of_row _ _ 1 _ _ _ FJ).trans rfl;have d2:w'.cell? ⟨w.heap.size,2,none⟩=_:=(cell_of_row _ _ 2 _ _ _ FJ).trans rfl;refine wpOp_step bY (fun K' hK=> ?_);rw[if_pos (by rfl)];unfold Oper.wp;simp[go_sem,e2,d0,d1,d2,Oper.upon];exact hK _ _ ⟨x,dF (d:=some 44) (v:=fI q2 (.slice ak q2.aM.length ck)) qI ha rfl aJ,hC.pure (by decide) (by decide)⟩
    ·have e7:a'.tmps[7]?.getD undef= .pointer (some ⟨m,0,none⟩):=lT ha (by simp);have d0:w'.cell? ⟨m,0,none⟩=_:=(cell_of_row _ _ 0 _ _ _ nG).trans rfl;have d1:w'.cell? ⟨m,1,none⟩=_:=(cell_of_row _ _ 1 _ _ _ nG).trans rfl;have d2:w'.cell? ⟨m,2,none⟩=_:=(cell_of_row _ _ 2 _ _ _ nG).trans rfl;have d3:w'.cell? ⟨m,3,none⟩=_:=(cell_of_row _ _ 3 _ _ _ nG).trans rfl;have d4:w'.cell? ⟨m,4,none⟩=_:=(cell_of_row _ _ 4 _ _ _ nG).trans rfl;have d5:w'.cell? ⟨m,5,none⟩=_:=(cell_of_row _ _ 5 _ _ _ nG).trans rfl;have d6:w'.cell? ⟨m,6,none⟩=_:=(cell_of_row _ _ 6 _ _ _ nG).trans rfl;refine wpOp_step bY (fun K' hK=> ?_);rw[if_pos (by rfl)];unfold Oper.wp;simp[go_sem,e7,d0,d1,d2,d3,d4,d5,d6,Oper.upon];exact hK _ _ ⟨x,dF (d:=some 45) (v:=fG e (.slice jm e.au.length k7) (.slice none e.aD.length 0)) qI ha rfl aJ,hC.pure (by decide) (by decide)⟩
    ·have e45:a'.tmps[45]?.getD undef=fG e (.slice jm e.au.length k7) (.slice none e.aD.length 0):=fD (i:=2) qI ha rfl (by first|simpa using aA|simp[aA]) (by simp);refine wpOp_step bY (fun K' hK=> ?_);rw[if_pos (by rfl)];unfold Oper.wp;simp[go_sem,e45,Oper.upon];refine(uk.q w' nD).mono ?_;rintro r4 w4 ⟨rfl,bA⟩;exact hK _ _ ⟨x,dF (d:=some 46) (v:= .int .i64 (aL e)) qI ha rfl aJ,hC.call bA (by decide) (by decide) La⟩
    ·have e4:a'.tmps[4]?.getD undef= .pointer (some ⟨w.heap.size+2,0,none⟩):=lT ha (by simp);have e43:a'.tmps[43]?.getD undef=fG e (.slice jm e.au.length k7) (.slice none e.aD.length 0):=fD (i:=0) qI ha rfl (by first|simpa using aA|simp[aA]) (by simp);have fE:=hC.r1;rw[jl aJ]at fE;refine wpOp_step bY (fun K' hK=> ?_);rw[if_pos (by rfl)];refine qU 81 _ _ rfl (w.heap.size+2) 0 [.int .i64 e.aj,S e.ag,.slice jm e.au.length k7,S e.av,.int .i64 e.size,S e.aI,.slice none e.aD.length 0] (fG e (.slice jm e.au.length k7) (.slice none e.aD.length 0)) (by simp[Act.eval,e4]) (by simp[Act.eval,e43]) (by rfl) bF _ fE (by simp) (by kernel_rfl) (by simp[Value.oneCell']) ?_;exact hK _ _ ⟨x,dF (d:=none) (v:=undef) qI ha rfl aJ,hC.lH aJ (by decide) (by omega) (by omega) (by rfl)⟩
    ·have e5:a'.tmps[5]?.getD undef= .pointer (some ⟨w.heap.size+3,0,none⟩):=lT ha (by simp);have e44:a'.tmps[44]?.getD undef=fI q2 (.slice ak q2.aM.length ck):=fD (i:=1) qI ha rfl (by first|simpa using aA|simp[aA]) (by simp);have iA:=hC.r2;rw[jl aJ]at iA;refine wpOp_step bY (fun K' hK=> ?_);rw[if_pos (by rfl)];refine qU 40 _ _ rfl (w.heap.size+3) 0 [.slice ak q2.aM.length ck,.int .i64 q2.aW,S q2.str] (fI q2 (.slice ak q2.aM.length ck)) (by simp[Act.eval,e5]) (by simp[Act.eval,e44]) (by rfl) #[.slice none 0 0,.int .i64 0,.string ⟨#[]⟩] _ iA (by simp) (by kernel_rfl) (by simp[Value.oneCell']) ?_;exact hK _ _ ⟨x,dF (d:=none) (v:=undef) qI ha rfl aJ,hC.xW aJ (by decide) (by omega) (by omega) (by rfl)⟩
    ·have e46:a'.tmps[46]?.getD undef= .int .i64 (aL e):=fD (i:=3) qI ha rfl (by first|simpa using aA|simp[aA]) (by simp);refine wpOp_step bY (fun K' hK=> ?_);rw[if_pos (by rfl)];unfold Oper.wp;simp[go_sem,e46,Oper.upon];exact hK _ _ ⟨x,dF (d:=some 6) (v:= .int .i64 (aL e)) qI ha rfl aJ,hC.pure (by decide) (by decide)⟩
   ·rintro x s' a' xU eX ha hC;have fE:=hC.r1;have iA:=hC.r2;rw[eX 4 (by decide),if_pos rfl]at fE;rw[eX 5 (by decide),if_pos rfl]at iA;have rA:=Qh fE;have Ju:=Qh iA;have oG:Ok J xU:=Cq.q.of_block fun b c hb=>hC.keep b (Cq.q.lt hb) (fun h=>by rw[h,GJ]at hb;cases hb) (fun h=>by rw[h,yt]at hb;cases hb);have oL:=MO.trans hC.eD;rw[su _ _ _ _ (fun i hi=>by rw[Nat.zero_add];exact eX i (by simpa using hi))]at ha;subst ha;simp only[df,Act.put];clear hC eX fE iA FC FD FE FH;go_wp2;refine bodyPost_ret (v:= .tuple #[fG e (.slice jm e.au.length k7) (.slice none e.aD.length 0),fI q2 (.slice ak q2.aM.length ck),.int .i64 (aL e)]) ?_ rfl ?_
    ·rw[ZN rfl];simp[asAddr,run_loadVar_row xU (w.heap.size+2) 81 81 _ (0,0) _ rA.q Tryz.underlying81 rfl Du.q,run_loadVar_row xU (w.heap.size+3) 40 40 _ (0,0) _ Ju.q Tryz.underlying40 rfl yH.q]
    ·rw[Hn.q];exact⟨_,_,_,J,rfl,oL,HJ.q.1,oG,HJ.q.2.1,HJ.q.2.2.1,HJ.q.2.2.2⟩
  case pos=>
   have e1:(c.aj==1)=true:=by simpa using hk
   obtain⟨sm,yT⟩:∃sm,dA c.aF=sm:=⟨_,rfl⟩;have Aj:=Qh (fun(b:Nat) (W:World) (hc:W.cell? ⟨b,0,none⟩=some (S c.aF)) (hb:b<W.heap.size)=>(by
    have:=XQ b 0 1 [c.aF] c.aF (by simp) (by omega) W (fun j x hj=>by
     rcases j with _|j
     ·simp at hj;subst hj;exact hc
     ·simp at hj) (by simp) hb (by simp)
    rwa[yT]at this:Calls Tryz.prog 110 #[.slice (some ⟨b,0,none⟩) 1 1] W fun e w'=>e= .returned (S sm)∧Below W.heap.size W w'))
   have c4:w8.cell? ⟨w.heap.size+1,4,none⟩=some (S c.aF):=(cell_of_row _ _ 4 _ _ _ K7.q).trans rfl;obtain⟨q2,xs,pn,Dt⟩:∃q2 xs pn,jE q c.aF=(q2,xs,pn):=⟨_,_,_,rfl⟩;have Vb:pn=0:=by have:=(R7 Hq.q bU).2;rw[Dt]at this;exact this
   subst Vb;have uz:=Qh (fun w hw=>(by
    have Aw:=Hq.q;have:=Zw 4294901760 10000000 (by decide) (by decide) J q _ K8.q ⟨by have:=Aw.s0;omega,by have:=Aw.s1;omega,Aw.str,hqn,fun k hk=>(Aw.cx k hk).x⟩ (fun k hk=>(Aw.cx k hk).d) c.aF (by omega) w hw;rwa[Dt]at this:Calls Tryz.prog 103 #[fI q (.slice ak q.aM.length ck),S c.aF] w (Fj J w (q2,xs,0))))
   have SY:=Qh (show dw q c=(⟨c.aj,c.ag,c.au,c.av,(c.aF.length:Nat),sm,xs⟩,q2) by rw[dw,if_pos hk,Dt,yT]);have ZV:=Qh (show(⟨c.aj,c.ag,c.au,c.av,(c.aF.length:Nat),sm,xs⟩:aQ).Wf by have:=Sb Hq.q Hc.q;rw[SY.q]at this;exact this);have Fq:m<w8.heap.size:=(Qg Iu.q);have dle:decide ((c.aF.length:Int)≤65536)=true:=Qt (by omega);clear Dt yT hk;go_wp2_with fail
   refine tK (X:=Nat) (Oz w.heap.size m c.aF sm) (jZ w8 5 232 223 233 224 234 225 235 (fun _ _=>True) (fun x w=>w.cell? ⟨x,0,none⟩=some (S c.aF)) (fun _ _=>True) (fun _ _=>True) (fun _ _=>True) (fun _ _=>True) (fun x=>m) 81 8 10 212 (fun x=> #[.int .i64 c.aj,S c.ag,.slice jm c.au.length k7,S c.av,.int .i64 (c.aF.length:Int),.string ⟨#[]⟩,.slice none 0 0]) (fun x=> #[.int .i64 c.aj,S c.ag,.slice jm c.au.length k7,S c.av,.int .i64 (c.aF.length:Int),S sm,.slice none 0 0]) (fun x=> #[.int .i64 c.aj,S c.ag,.slice jm c.au.length k7,S c.av,.int .i64 (c.aF.length:Int),S sm,.slice none 0 0])) (by kernel_rfl) (by kernel_rfl) ?_ ?_ ?_
   ·exact⟨0,jZ.start _ _ trivial⟩
   ·rintro x s' a' w' i cu bU ha hC hi;obtain⟨aJ,oi,dN,aA⟩:=mem_ready.1 hi;have ev:=A8 Fy ha;have hlt:=tJ aJ;rcases i with _|_|_|_|_|_|_|_|_|_|_|i
    rotate_left 11
    ·simp at dN
    all_goals
     have bY:=dN;simp at dN;subst dN;simp[Region.binds]at aA;try have hl:=qH 6 8 bU (by decide+kernel) aJ
     try have bQ:=hC.off hl
     try have c4:=bI bQ c4
     refine wpOp_step bY (fun K' hK=> ?_);rw[if_pos (by rfl)]
    rotate_left 5
    ·unfold Oper.wp;simp[go_sem,ev,eZ,aA,Oper.upon,c4];have ha:=ha.trans (qF (L:=Oz w.heap.size m c.aF sm x) (M:=Oz w.heap.size m c.aF sm w'.heap.size) [5] rfl (fun j aZ=>by
      rcases j with _|_|_|_|_|_|_|_|_|_|_|j<;>first|rfl|(exact absurd (by decide) aZ)|simp) (List.forall_mem_cons.2 ⟨jl aJ,List.forall_mem_nil _⟩))
     exact hK _ _ ⟨w'.heap.size,jQ Fy ha rfl aJ,hC.step hl (bQ.trans (((Qb _ _).alloc (Qn _) _).mono bQ.size)) (by decide) (fun _=>trivial) (fun _ _=>by simp) (fun _ _=>trivial) (fun _ _=>trivial) (fun _ _=>trivial) hlt⟩
    ·have Ai:=hC.f1 (by first|simpa using aA|simp[aA]) (kz (by simp[cu])) hl;unfold Oper.wp;simp[go_sem,ev,eZ,aA,Oper.upon];refine(Aj.q x w' Ai (block_lt_of_cell Ai)).mono ?_;rintro r4 w4 ⟨rfl,bA⟩;exact hK _ _ ⟨x,jQ Fy ha rfl aJ,hC.step hl (bQ.trans (bA.mono bQ.size)) (by decide) (fun _=>trivial) (fun h _=>h.elim (fun e=>absurd e (by decide)) (fun⟨_,_,q⟩=>bI bA q)) (fun _ _=>trivial) (fun _ _=>trivial) (fun _ _=>trivial) hlt⟩
    rotate_left 1
    ·have aU:w'.heap[m]?=some (.cells _ 81 (0,0)):=(bQ.block _ (Qg Iu.q)).trans Iu.q;refine qU 3 _ _ rfl (m) 4 [.int .i64 (c.aF.length:Int)] (.int .i64 (c.aF.length:Int)) (by simp[Act.eval,ev,eZ,aA]) (by simp[Act.eval,ev,eZ,aA]) (by rfl) _ _ aU (by simp) (by kernel_rfl) (by simp[Value.oneCell']) ?_;exact hK _ _ ⟨x,dF (d:=none) (v:=undef) Fy ha rfl aJ,hC.lH aJ trivial (qH 6 10 bU (by kernel_rfl) aJ) (kz (by simp[cu])) (by decide) aU (by rfl)⟩
    rotate_left 1
    ·have aU:=hC.Fx (s1:=8) (by first|simpa using aA|simp[aA]) (jl aJ) (kz (by simp[cu]));refine qU 9 _ _ rfl (m) 5 [S sm] (S sm) (by simp[Act.eval,ev,eZ,aA]) (by simp[Act.eval,ev,eZ,aA]) (by rfl) _ _ aU (by simp) (by kernel_rfl) (by simp[Value.oneCell']) ?_;exact hK _ _ ⟨x,dF (d:=none) (v:=undef) Fy ha rfl aJ,hC.xW aJ (by first|simpa using aA|simp[aA]) (kz (by simp[cu])) (by decide) (by rfl)⟩
    all_goals
     unfold Oper.wp;first
     |(simp[go_sem,ev,eZ,aA,Oper.upon,c4];exact hK _ _ ⟨x,jQ Fy ha rfl aJ,hC.pure (by decide)⟩)
     |(simp[go_sem,ev,eZ,Oper.upon,c4];exact hK _ _ ⟨x,jQ Fy ha rfl aJ,hC.pure (by decide)⟩)
   ·rintro x s' a' qi eX ha hC;obtain⟨wb,gQ,gU,fF,aU⟩:=hC.on (eX 8 (by decide));rw[if_pos (eX 10 (by decide))]at aU;simp only[ite_self]at aU;rw[su _ _ _ _ (fun i hi=>by rw[Nat.zero_add];exact eX i (by simpa using hi))]at ha;subst ha;simp only[df,Act.put,List.setIfInBounds_toArray,List.set_cons_succ,List.set_cons_zero];have ah3:=(Qg aU);have PU:=gQ.size;have zS:Ok J qi:=(oJ.below (Qn _) gQ).grown fF (fun g e=>by cases e;exact Ig);have nZ:Below w.heap.size w qi:=(oQ.trans (gQ.mono oQ.size)).grown fF (by have:=oQ.size;omega) (fun k e=>by cases e;omega);have hz:∀b,b<w.heap.size+4→qi.heap[b]?=w8.heap[b]? :=fun b hb=>(fF.block _ (by omega) (fun e=>by cases e;omega)).trans (gQ.block _ (by omega));have Lb:=Qh ((hz w.heap.size (by omega)).trans OB.q);have ZW:=Qh ((hz (w.heap.size+1) (by omega)).trans K7.q);have Lc:=Qh ((hz (w.heap.size+2) (by omega)).trans FC.q);have Ld:=Qh ((hz (w.heap.size+3) (by omega)).trans FD.q);have S9:=Qh aU;have k4:qi.cell? ⟨w.heap.size+1,4,none⟩=some (S c.aF):=(cell_of_row _ _ 4 _ _ _ ZW.q).trans rfl;have q0:qi.cell? ⟨w.heap.size,0,none⟩=some (.slice ak q.aM.length ck):=(cell_of_row _ _ 0 _ _ _ Lb.q).trans rfl;have q1:qi.cell? ⟨w.heap.size,1,none⟩=some (.int .i64 q.aW):=(cell_of_row _ _ 1 _ _ _ Lb.q).trans rfl;have q2':qi.cell? ⟨w.heap.size,2,none⟩=some (S q.str):=(cell_of_row _ _ 2 _ _ _ Lb.q).trans rfl;clear hz fF aU gQ hC eX FC FD Iu K7 OB c4 Aj k0;have DR:m<qi.heap.size:=(Qg S9.q);go_wp2_with fail
    refine(uz.q _ zS).mono ?_;rintro e12 ZX ⟨vk3,vx3,J,rfl,xX,vS,DT,FK,FL⟩;obtain⟨A9,Ba,rfl,_,_,_⟩:=id FK;obtain⟨wY,wZ,rfl,_,_,_⟩:=id FL;have Ta:=xX.size;have Le:=(xX.block _ (by omega)).trans Lb.q;have Lf:=(xX.block _ DR).trans S9.q;clear q0 q1 q2' k4 e1 dle
    go_wp2_with (first
     |(refine jy rfl rfl 40 _ _ rfl w.heap.size 0 [.slice A9 q2.aM.length Ba,.int .i64 q2.aW,S q2.str] (fI q2 (.slice A9 q2.aM.length Ba)) (by simp[Act.eval]) (by simp[Act.eval]) (by rfl) _ 40 Le (by simp) (by kernel_rfl) (by simp[Value.oneCell']) #[.slice A9 q2.aM.length Ba,.int .i64 q2.aW,S q2.str] (by rfl) ?_
       intro w13 oM Cr)
     |(refine jy rfl rfl 79 _ _ rfl m 6 [.slice wY xs.length wZ] (.slice wY xs.length wZ) (by simp[Act.eval]) (by simp[Act.eval]) (by rfl) _ 81 ((oM.block _ (by omega) (fun e=>by cases e;omega)).trans Lf) (by simp) (by kernel_rfl) (by simp[Value.oneCell']) #[.int .i64 c.aj,S c.ag,.slice jm c.au.length k7,S c.av,.int .i64 (c.aF.length:Int),S sm,.slice wY xs.length wZ] (by rfl) ?_
       intro Iw oN Cs))
    have Tc:=oM.size;have Td:=oN.size;have GL:=vS.keep zS (Qn _);have GJ:J (w.heap.size+2)=none:=(vS _ (by omega)).trans (Fz _ (by omega) (by omega));have yt:J (w.heap.size+3)=none:=(vS _ (by omega)).trans (Fz _ (by omega) (by omega));have OC:J w.heap.size=none:=(vS _ (by omega)).trans (Fz _ (by omega) (by omega));have Lg:J m=none:=(vS _ DR).trans Ig;have hz:∀b,b<w.heap.size+4→b≠w.heap.size→Iw.heap[b]?=qi.heap[b]? :=fun b hb hn=>((oN.block _ (by omega) (fun e=>by cases e;omega)).trans (oM.block _ (by omega) (fun e=>by cases e;omega))).trans (xX.block _ (by omega));have FC:=Qh ((hz (w.heap.size+2) (by omega) (by omega)).trans Lc.q);have FD:=Qh ((hz (w.heap.size+3) (by omega) (by omega)).trans Ld.q);have FH:=Qh ((oN.block w.heap.size (by omega) (fun e=>by cases e;omega)).trans Cr);have Cq:=Qh ((DT.grown oM (fun g e=>by cases e;exact OC)).grown oN (fun g e=>by cases e;exact Lg));have MO:Below w.heap.size w Iw:=((nZ.trans (xX.mono nZ.size)).grown oM (by omega) (fun k e=>by cases e;omega)).grown oN (by omega) (fun k e=>by cases e;omega);obtain⟨e,he⟩:∃e:aQ,(⟨c.aj,c.ag,c.au,c.av,(c.aF.length:Nat),sm,xs⟩:aQ)=e:=⟨_,rfl⟩;have Hn:=Qh (show dw q c=(e,q2) by rw[SY.q,he]);have CL:aY lv J (.slice jm e.au.length k7) e.au:=by rw[←he];exact yG.mono GL
    have GK:aY kQ J (.slice wY e.aD.length wZ) e.aD:=by rw[←he];exact FL
    have lu:e.Wf:=by rw[←he];exact ZV.q
    have uk:=Qh (fun w hw=>JP J (Vn.mono GL) e _ _ CL GK lu (by rw[←he];exact nO) (by rw[←he];exact sO) w hw);have HJ:=Qh (And.intro (FB.trans (vS.mono (show w.heap.size≤_ by omega)) (Qn _)) (And.intro CL (And.intro GK FK)));have FE:=Qh (show Iw.heap[m]?=some (.cells #[.int .i64 e.aj,S e.ag,.slice jm e.au.length k7,S e.av,.int .i64 e.size,S e.aI,.slice wY e.aD.length wZ] 81 (0,0)) by rw[←he];exact Cs);clear he CL lu GK FL ZV SY Cr Cs oM oN hz GL xX vS DT Le Lf zS nZ Lc Ld Lb ZW S9 uz yG FK FB Fz Vn oJ oQ OC Lg Ig;have La:w.heap.size≤Iw.heap.size:=MO.size;have Av:m≠w.heap.size+2:=by omega
    have FI:m≠w.heap.size+3:=by omega
    refine tK (X:=Nat) (fun _=>SV m w.heap.size e (.slice jm e.au.length k7) (.slice wY e.aD.length wZ) (.slice A9 q2.aM.length Ba) q2) (fun _=>tN w.heap.size Iw (w.heap.size+2) (w.heap.size+3) 81 40 bF (jB e (.slice jm e.au.length k7) (.slice wY e.aD.length wZ)) #[.slice none 0 0,.int .i64 0,.string ⟨#[]⟩] #[.slice A9 q2.aM.length Ba,.int .i64 q2.aW,S q2.str] 4 5) (by kernel_rfl) (by kernel_rfl) ?_ ?_ ?_
    ·exact⟨0,tN.start _ La FC.q FD.q⟩
    ·rintro x s' a' w' i cu bU ha hC hi;obtain⟨aJ,oi,dN,aA⟩:=mem_ready.1 hi;have nG:=(hC.keep m (Qg FE.q) Av FI).trans FE.q;have FJ:=(hC.keep w.heap.size (Qg FH.q) (by omega) (by omega)).trans FH.q;have nD:Ok J w':=Cq.q.of_block fun b c hb=>hC.keep b (Cq.q.lt hb) (fun h=>by rw[h,GJ]at hb;cases hb) (fun h=>by rw[h,yt]at hb;cases hb);rcases i with _|_|_|_|_|_|_|i
     rotate_left 7
     ·simp at dN
     all_goals
      have bY:=dN;simp at dN;subst dN;simp[Region.binds]at aA
     ·have e7:a'.tmps[7]?.getD undef= .pointer (some ⟨m,0,none⟩):=lT ha (by simp);have d0:w'.cell? ⟨m,0,none⟩=_:=(cell_of_row _ _ 0 _ _ _ nG).trans rfl;have d1:w'.cell? ⟨m,1,none⟩=_:=(cell_of_row _ _ 1 _ _ _ nG).trans rfl;have d2:w'.cell? ⟨m,2,none⟩=_:=(cell_of_row _ _ 2 _ _ _ nG).trans rfl;have d3:w'.cell? ⟨m,3,none⟩=_:=(cell_of_row _ _ 3 _ _ _ nG).trans rfl;have d4:w'.cell? ⟨m,4,none⟩=_:=(cell_of_row _ _ 4 _ _ _ nG).trans rfl;have d5:w'.cell? ⟨m,5,none⟩=_:=(cell_of_row _ _ 5 _ _ _ nG).trans rfl;have d6:w'.cell? ⟨m,6,none⟩=_:=(cell_of_row _ _ 6 _ _ _ nG).trans rfl;refine wpOp_step bY (fun K' hK=> ?_);rw[if_pos (by rfl)];unfold Oper.wp;simp[go_sem,e7,d0,d1,d2,d3,d4,d5,d6,Oper.upon];exact hK _ _ ⟨x,dF (d:=some 43) (v:=fG e (.slice jm e.au.length k7) (.slice wY e.aD.length wZ)) qI ha rfl aJ,hC.pure (by decide) (by decide)⟩
     ·have e2:a'.tmps[2]?.getD undef= .pointer (some ⟨w.heap.size,0,none⟩):=lT ha (by simp);have d0:w'.cell? ⟨w.heap.size,0,none⟩=_:=(cell_of_row _ _ 0 _ _ _ FJ).trans rfl;have d1:w'.cell? ⟨w.heap.size,1,none⟩=_:=(cell_of_row _ _ 1 _ _ _ FJ).trans rfl;have d2:w'.cell? ⟨w.heap.size,2,none⟩=_:=(cell_of_row _ _ 2 _ _ _ FJ).trans rfl;refine wpOp_step bY (fun K' hK=> ?_);rw[if_pos (by rfl)];unfold Oper.wp;simp[go_sem,e2,d0,d1,d2,Oper.upon];exact hK _ _ ⟨x,dF (d:=some 44) (v:=fI q2 (.slice A9 q2.aM.length Ba)) qI ha rfl aJ,hC.pure (by decide) (by decide)⟩
     ·have e7:a'.tmps[7]?.getD undef= .pointer (some ⟨m,0,none⟩):=lT ha (by simp);have d0:w'.cell? ⟨m,0,none⟩=_:=(cell_of_row _ _ 0 _ _ _ nG).trans rfl;have d1:w'.cell? ⟨m,1,none⟩=_:=(cell_of_row _ _ 1 _ _ _ nG).trans rfl;have d2:w'.cell? ⟨m,2,none⟩=_:=(cell_of_row _ _ 2 _ _ _ nG).trans rfl;have d3:w'.cell? ⟨m,3,none⟩=_:=(cell_of_row _ _ 3 _ _ _ nG).trans rfl;have d4:w'.cell? ⟨m,4,none⟩=_:=(cell_of_row _ _ 4 _ _ _ nG).trans rfl;have d5:w'.cell? ⟨m,5,none⟩=_:=(cell_of_row _ _ 5 _ _ _ nG).trans rfl;have d6:w'.cell? ⟨m,6,none⟩=_:=(cell_of_row _ _ 6 _ _ _ nG).trans rfl;refine wpOp_step bY (fun K' hK=> ?_);rw[if_pos (by rfl)];unfold Oper.wp;simp[go_sem,e7,d0,d1,d2,d3,d4,d5,d6,Oper.upon];exact hK _ _ ⟨x,dF (d:=some 45) (v:=fG e (.slice jm e.au.length k7) (.slice wY e.aD.length wZ)) qI ha rfl aJ,hC.pure (by decide) (by decide)⟩
     ·have e45:a'.tmps[45]?.getD undef=fG e (.slice jm e.au.length k7) (.slice wY e.aD.length wZ):=fD (i:=2) qI ha rfl (by first|simpa using aA|simp[aA]) (by simp);refine wpOp_step bY (fun K' hK=> ?_);rw[if_pos (by rfl)];unfold Oper.wp;simp[go_sem,e45,Oper.upon];refine(uk.q w' nD).mono ?_;rintro r4 w4 ⟨rfl,bA⟩;exact hK _ _ ⟨x,dF (d:=some 46) (v:= .int .i64 (aL e)) qI ha rfl aJ,hC.call bA (by decide) (by decide) La⟩
     ·have e4:a'.tmps[4]?.getD undef= .pointer (some ⟨w.heap.size+2,0,none⟩):=lT ha (by simp);have e43:a'.tmps[43]?.getD undef=fG e (.slice jm e.au.length k7) (.slice wY e.aD.length wZ):=fD (i:=0) qI ha rfl (by first|simpa using aA|simp[aA]) (by simp);have fE:=hC.r1;rw[jl aJ]at fE;refine wpOp_step bY (fun K' hK=> ?_);rw[if_pos (by rfl)];refine qU 81 _ _ rfl (w.heap.size+2) 0 [.int .i64 e.aj,S e.ag,.slice jm e.au.length k7,S e.av,.int .i64 e.size,S e.aI,.slice wY e.aD.length wZ] (fG e (.slice jm e.au.length k7) (.slice wY e.aD.length wZ)) (by simp[Act.eval,e4]) (by simp[Act.eval,e43]) (by rfl) bF _ fE (by simp) (by kernel_rfl) (by simp[Value.oneCell']) ?_;exact hK _ _ ⟨x,dF (d:=none) (v:=undef) qI ha rfl aJ,hC.lH aJ (by decide) (by omega) (by omega) (by rfl)⟩
     ·have e5:a'.tmps[5]?.getD undef= .pointer (some ⟨w.heap.size+3,0,none⟩):=lT ha (by simp);have e44:a'.tmps[44]?.getD undef=fI q2 (.slice A9 q2.aM.length Ba):=fD (i:=1) qI ha rfl (by first|simpa using aA|simp[aA]) (by simp);have iA:=hC.r2;rw[jl aJ]at iA;refine wpOp_step bY (fun K' hK=> ?_);rw[if_pos (by rfl)];refine qU 40 _ _ rfl (w.heap.size+3) 0 [.slice A9 q2.aM.length Ba,.int .i64 q2.aW,S q2.str] (fI q2 (.slice A9 q2.aM.length Ba)) (by simp[Act.eval,e5]) (by simp[Act.eval,e44]) (by rfl) #[.slice none 0 0,.int .i64 0,.string ⟨#[]⟩] _ iA (by simp) (by kernel_rfl) (by simp[Value.oneCell']) ?_;exact hK _ _ ⟨x,dF (d:=none) (v:=undef) qI ha rfl aJ,hC.xW aJ (by decide) (by omega) (by omega) (by rfl)⟩
     ·have e46:a'.tmps[46]?.getD undef= .int .i64 (aL e):=fD (i:=3) qI ha rfl (by first|simpa using aA|simp[aA]) (by simp);refine wpOp_step bY (fun K' hK=> ?_);rw[if_pos (by rfl)];unfold Oper.wp;simp[go_sem,e46,Oper.upon];exact hK _ _ ⟨x,dF (d:=some 6) (v:= .int .i64 (aL e)) qI ha rfl aJ,hC.pure (by decide) (by decide)⟩
    ·rintro x s' a' xU eX ha hC;have fE:=hC.r1;have iA:=hC.r2;rw[eX 4 (by decide),if_pos rfl]at fE;rw[eX 5 (by decide),if_pos rfl]at iA;have rA:=Qh fE;have Ju:=Qh iA;have oG:Ok J xU:=Cq.q.of_block fun b c hb=>hC.keep b (Cq.q.lt hb) (fun h=>by rw[h,GJ]at hb;cases hb) (fun h=>by rw[h,yt]at hb;cases hb);have oL:=MO.trans hC.eD;rw[su _ _ _ _ (fun i hi=>by rw[Nat.zero_add];exact eX i (by simpa using hi))]at ha;subst ha;simp only[df,Act.put];clear hC eX fE iA FC FD FE FH;go_wp2;refine bodyPost_ret (v:= .tuple #[fG e (.slice jm e.au.length k7) (.slice wY e.aD.length wZ),fI q2 (.slice A9 q2.aM.length Ba),.int .i64 (aL e)]) ?_ rfl ?_
     ·rw[ZN rfl];simp[asAddr,run_loadVar_row xU (w.heap.size+2) 81 81 _ (0,0) _ rA.q Tryz.underlying81 rfl Du.q,run_loadVar_row xU (w.heap.size+3) 40 40 _ (0,0) _ Ju.q Tryz.underlying40 rfl yH.q]
     ·rw[Hn.q];exact⟨_,_,_,J,rfl,oL,HJ.q.1,oG,HJ.q.2.1,HJ.q.2.2.1,HJ.q.2.2.2⟩
abbrev zT(c:gy)(va:Value):List Value:=[.int .i64 c.aj,S c.ag,va,S c.av,S c.aF]
abbrev FM(c:gy)(va:Value):Value:= .agg #[.int .i64 c.aj,S c.ag,va,S c.av,S c.aF]
def xY:Ty gy where
 size:=5
 rd:=fun I cs c=> ∃va,cs=zT c va∧aY lv I va c.au
 len:=fun⟨_,h,_⟩=>by rw[h];rfl
 one:=fun⟨va,h,h1⟩ u hu=>by
  rw[h]at hu;simp at hu;rcases hu with rfl|rfl|rfl|rfl|rfl<;>first|rfl|exact h1.one
 mono:=fun hI ⟨va,h,h1⟩=>⟨va,h,h1.mono hI⟩
structure xe (w:World) (b o:Nat) (c:gy) (va:Value):Prop where
 c0:w.cell? ⟨b,o,none⟩=some (.int .i64 c.aj)
 c1:w.cell? ⟨b,o+1,none⟩=some (S c.ag)
 c2:w.cell? ⟨b,o+2,none⟩=some va
 c3:w.cell? ⟨b,o+3,none⟩=some (S c.av)
 c4:w.cell? ⟨b,o+4,none⟩=some (S c.aF)
theorem xe.aX{o:Nat}(h:xe w b o c va)(hb:Below w.heap.size w w'):xe w' b o c va:=
 ⟨bI hb h.c0,bI hb h.c1,bI hb h.c2,bI hb h.c3,bI hb h.c4⟩
theorem ZY{l:List gy}(h:aY xY I v l)(hw:Ok I w)(i:Nat)(hi:i<l.length):∃x va b off cap,l[i]=x∧v= .slice (some ⟨b,off,none⟩) l.length cap∧
 xe w b (off+i*5) x va∧aY lv I va x.au:=by
 obtain⟨b,off,cap,cs,hv,⟨va,fK,h1⟩,hc⟩:=h.at_ hw hi;subst fK;exact⟨_,va,b,off,cap,rfl,hv,⟨hc 0 _ rfl,hc 1 _ rfl,hc 2 _ rfl,hc 3 _ rfl,hc 4 _ rfl⟩,h1⟩
structure vT (w:World) (n:Nat) (c:gy) (va:Value):Prop where
 c0:w.cell? ⟨n,0,none⟩=some (.int .i64 c.aj)
 c1:w.cell? ⟨n,1,none⟩=some (S c.ag)
 c2:w.cell? ⟨n,2,none⟩=some va
 c3:w.cell? ⟨n,3,none⟩=some (S c.av)
 c4:w.cell? ⟨n,4,none⟩=some (S c.aF)
theorem vT.aX(h:vT w b c va)(hb:Below w.heap.size w w'):vT w' b c va:=
 ⟨bI hb h.c0,bI hb h.c1,bI hb h.c2,bI hb h.c3,bI hb h.c4⟩
theorem chgB_row{t:TypeId}(h:w.heap[b]?=some (.cells #[.int .i64 c.aj,S c.ag,va,S c.av,S c.aF] t (0,0))):vT w b c va:=
 ⟨(cell_of_row _ _ 0 _ _ _ h).trans rfl,(cell_of_row _ _ 1 _ _ _ h).trans rfl,(cell_of_row _ _ 2 _ _ _ h).trans rfl,(cell_of_row _ _ 3 _ _ _ h).trans rfl,(cell_of_row _ _ 4 _ _ _ h).trans rfl⟩
structure mF where
 az:Int
 fJ:List gy
variable{l:List mF}{x:mF}
def zU:Ty mF where
 size:=2
 rd:=fun I cs b=> ∃vc,cs=[.int .i64 b.az,vc]∧aY xY I vc b.fJ
 len:=fun⟨_,h,_⟩=>by rw[h];rfl
 one:=fun⟨vc,h,h1⟩ u hu=>by
  rw[h]at hu;simp at hu;rcases hu with rfl|rfl<;>first|rfl|exact h1.one
 mono:=fun hI ⟨vc,h,h1⟩=>⟨vc,h,h1.mono hI⟩
theorem Z0(h:aY zU I v l)(hw:Ok I w)(i:Nat)(hi:i<l.length):∃x vc b off cap,l[i]=x∧v= .slice (some ⟨b,off,none⟩) l.length cap∧
 w.cell? ⟨b,off+i*2,none⟩=some (.int .i64 x.az)∧w.cell? ⟨b,off+i*2+1,none⟩=some vc∧aY xY I vc x.fJ:=by
 obtain⟨b,off,cap,cs,hv,⟨vc,fK,h1⟩,hc⟩:=h.at_ hw hi;subst fK;exact⟨_,vc,b,off,cap,rfl,hv,hc 0 _ rfl,hc 1 _ rfl,h1⟩
def lW(x:At):Bool:=decide (80<x.k.length) || decide (80<x.v.length)
def jd(c:gy):Bool:=decide (250<c.ag.length) || decide (250<c.av.length) || decide (20<c.au.length) || decide (600<c.aF.length) || c.au.any lW
def iQ(l:List mF):Nat:=(l.map fun b=>b.fJ.length).sum
def uL(l:List mF):Bool:=(l.any fun b=>b.fJ.any jd) || decide (10<iQ l) || decide (4<l.length)
def gJ(l:List mF):Int:=if uL l then 1 else 0
structure gy.Sm (c:gy):Prop where
 k0: -9223372036854775808≤c.aj
 k1:c.aj≤9223372036854775807
 ag:c.ag.length≤250
 av:c.av.length≤250
 FN:c.au.length≤20
 aF:c.aF.length≤600
 au:∀x∈c.au,x.k.length≤80∧x.v.length≤80
theorem gy.Sm.wf(h:c.Sm):c.Wf:=
 ⟨h.k0,h.k1,by have:=h.ag;omega,fun x hx=>by have:=h.au x hx;exact⟨by omega,by omega⟩,by have:=h.av;omega,by have:=h.aF;omega⟩
structure gy.In (c:gy):Prop where
 k0: -9223372036854775808≤c.aj
 k1:c.aj≤9223372036854775807
structure mF.In (b:mF):Prop where
 d0: -9223372036854775808≤b.az
 d1:b.az≤9223372036854775807
 fJ:∀c∈b.fJ,c.In
theorem Xsx(hi:c.In)(h:jd c=false):c.Sm:=by
 unfold jd at h;simp only[Bool.or_eq_false_iff,decide_eq_false_iff_not]at h;obtain⟨⟨⟨⟨h1,h2⟩,h3⟩,h4⟩,h5⟩:=h;refine⟨hi.k0,hi.k1,by omega,by omega,by omega,by omega,fun x hx=> ?_⟩;have:=(List.any_eq_false.1 h5) x hx;unfold lW at this;simp at this;omega
theorem Xsb(hi:∀b∈l,b.In)(h:uL l=false):(∀b∈l,∀c∈b.fJ,c.Sm)∧iQ l≤10∧l.length≤4:=by
 unfold uL at h;simp only[Bool.or_eq_false_iff,decide_eq_false_iff_not]at h;obtain⟨⟨h1,h2⟩,h3⟩:=h;refine⟨fun b hb c hc=> ?_,by omega,by omega⟩;have h4:=(List.any_eq_false.1 h1) b hb;have h5:b.fJ.any jd=false:=by simpa using h4
 have h6:=(List.any_eq_false.1 h5) c hc;exact Xsx ((hi b hb).fJ c hc) (by simpa using h6)
theorem Z4(a b:List mF):iQ (a++b)=iQ a+iQ b:=by unfold iQ;rw[List.map_append,List.sum_append]
theorem OD(hk:k<l.length)(hx:l[k]=x):iQ (l.take (k+1))=iQ (l.take k)+x.fJ.length:=by
 rw[List.take_succ_eq_append_getElem hk,hx,Z4];simp[iQ]
theorem Te(l:List mF)(k:Nat):iQ (l.take k)≤iQ l:=by
 have h:=Z4 (l.take k) (l.drop k);rw[List.take_append_drop]at h;omega
def gY(L:List bu)(l:List mF):List bu:=l.foldl (fun L b=>(lI L b.az b.fJ).1) L
theorem Z5(L:List bu)(l:List mF)(hk:k<l.length)(hx:l[k]=x):gY L (l.take (k+1))=(lI (gY L (l.take k)) x.az x.fJ).1:=by
 unfold gY;rw[List.take_succ_eq_append_getElem hk,hx,List.foldl_append];rfl
theorem Tf(hc:∀b∈l,∀c∈b.fJ,c.aF.length≤1000)(ht:iQ l≤1000)(hl:l.length≤200):∀k,k≤l.length→cO (iQ (l.take k)) k (gY [] (l.take k))
 |0,_=>by rw[List.take_zero];exact Zf
 |k+1,hk=>by
  have ih:=Tf hc ht hl k (by omega);obtain⟨x,hx⟩:∃x,l[k]=x:=⟨_,rfl⟩;have hm:x∈l:=by rw[←hx];exact List.getElem_mem _
  have h1:=OD (by omega:k<l.length) hx;have h2:=Te l (k+1);rw[Z5 [] l (by omega) hx,h1];exact Xmu ih (by omega) (by omega) (hc x hm)
theorem Xpa(hc:∀b∈l,∀c∈b.fJ,c.aF.length≤1000)(ht:iQ l≤1000)(hl:l.length≤200):cO (iQ l) l.length (gY [] l):=by
 have h:=Tf hc ht hl l.length (Qn _);rwa[List.take_length]at h
