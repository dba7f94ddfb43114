/-
  Walks and laws that the claim's theorem uses: texts EdI RfF RfG RfH, joined; comments out. Conditions: as each theorem says.
-/
import Derived.Test.YtdodihnehppnmaaGreatDoorTO16
set_option linter.all false
namespace Go.Proofs.YtdodihnehppnmaaGreatDoor
def rfX1 (s:Bytes) (a:Nat) (e:Int):Xt × Nat × Int:=
 let p:=rfT 0 (rdNum s a) a e
 let q:=rfT 0 (rdNum s p.2.1) p.2.1 p.2.2
 let r:=rfT 0 (rdNum s q.2.1) q.2.1 q.2.2
 (⟨p.1,q.1,r.1⟩,r.2.1,r.2.2)
def rfX (s:Bytes):Nat→Nat→Int→List Xt→List Xt × Nat × Int
 |0,a,e,acc=>(acc,a,e)
 |n+1,a,e,acc=>if e≠0 then (acc,a,e) else rfX s n (rfX1 s a e).2.1 (rfX1 s a e).2.2 (acc++ [(rfX1 s a e).1])
theorem Xf9 (s:Bytes) (n a:Nat) {e:Int} (h:e≠0) (acc:List Xt):rfX s n a e acc=(acc,a,e):=by
 cases n with
 |zero=>rfl
 |succ n=>rw [rfX,if_pos h]
theorem Xvk (s:Bytes):∀(n a:Nat) (acc:List Xt),(∀l b,rdXts s n a acc= .ok (l,b)→rfX s n a 0 acc=(l,b,0))∧(∀z,rdXts s n a acc= .error z→(rfX s n a 0 acc).2.2=z∧(z != 0)=true)
 |0,a,acc=>by
  refine ⟨fun l b h=> ?_,fun z h=> ?_⟩
  ·rw [rdXts] at h
   injection h with h
   injection h with h1 h2
   subst h1 h2
   rfl
  ·rw [rdXts] at h;cases h
 |n+1,a,acc=>by
  rw [rdXts,rfX,if_neg (by simp)]
  unfold rfX1
  cases h1:rdNum s a with
  |error c=>
   have hc:=Xa9 h1
   have hc':c≠0:=by simpa using hc
   simp only [Xcj,Xck _ _ _ hc',Rb_err,Xf9 _ _ _ hc']
   exact ⟨fun l b h=>(by cases h),fun z h=>(by injection h with h;subst h;exact ⟨rfl,hc⟩)⟩
  |ok p=>
   simp only [Xbx,Rb_ok]
   cases h2:rdNum s p.2 with
   |error c=>
    have hc:=Xa9 h2
    have hc':c≠0:=by simpa using hc
    simp only [Xcj,Xck _ _ _ hc',Rb_err,Xf9 _ _ _ hc']
    exact ⟨fun l b h=>(by cases h),fun z h=>(by injection h with h;subst h;exact ⟨rfl,hc⟩)⟩
   |ok q=>
    simp only [Xbx,Rb_ok]
    cases h3:rdNum s q.2 with
    |error c=>
     have hc:=Xa9 h3
     have hc':c≠0:=by simpa using hc
     simp only [Xcj,Rb_err,Xf9 _ _ _ hc']
     exact ⟨fun l b h=>(by cases h),fun z h=>(by injection h with h;subst h;exact ⟨rfl,hc⟩)⟩
    |ok r=>
     simp only [Xbx,Rb_ok]
     exact Xvk s n r.2 _
def rfE0 (t:Bytes × Nat × Int):Ent × Int:=if t.2.2=0 then rfHd t.1 else (⟨0,[],[],[],0,[],[]⟩,t.2.2)
def rfE (s:Bytes):Ent × Nat × Int:=
 let t:=rfT [] (rdStr s 0) 0 0
 let e:=rfE0 t
 let z:=rfT 0 (rdNum s t.2.1) t.2.1 e.2
 let d:=rfT [] (rdStr s z.2.1) z.2.1 z.2.2
 let n:=rfC 65536 s d.2.1 d.2.2
 let l:=rfX s n.1.toNat n.2.1 n.2.2 []
 (entOn e.1 z.1 d.1 l.1,l.2.1,l.2.2)
def rdE0 (s:Bytes):Rd Ent:=
 Rb (rdStr s 0) fun h=>Rb (rdHead h.1) fun e=>Rb (rdNum s h.2) fun z=>Rb (rdStr s z.2) fun d=>Rb (rdCnt 65536 s d.2) fun n=>Rb (rdXts s n.1.toNat n.2 []) fun l=>
 .ok (entOn e z.1 d.1 l.1,l.2)
theorem Xvh {α β γ:Type} (r:Except Int α) (f:α→Except Int β) (g:β→Except Int γ):Rb (Rb r f) g=Rb r fun x=>Rb (f x) g:=by
 cases r<;>rfl
theorem Xt1 (s:Bytes):rdEnt s 0=Rb (rdE0 s) fun p=>entEnd p.1 p.2:=by
 unfold rdEnt rdE0
 simp only [Xvh,Rb_ok]
theorem Xxg (s:Bytes):(∀x b,rdE0 s= .ok (x,b)→rfE s=(x,b,0))∧ ∀z,rdE0 s= .error z→(rfE s).2.2=z∧(z != 0)=true:=by
 unfold rdE0 rfE rfE0
 cases h1:rdStr s 0 with
 |error c=>
  have hc:=Xav h1
  have hc':c≠0:=by simpa using hc
  simp only [Xcj,Rb_err]
  rw [if_neg hc']
  simp only [Xck _ _ _ hc',Xhm _ _ _ hc',Xf9 _ _ _ hc']
  exact ⟨fun x b h=>(by cases h),fun z h=>(by injection h with h;subst h;exact ⟨rfl,hc⟩)⟩
 |ok t=>
  simp only [Xbx,Rb_ok,if_true]
  obtain ⟨k1,k2⟩:=Xvx t.1
  cases h2:rdHead t.1 with
  |error c=>
   obtain ⟨e1,hc⟩:=k2 c h2
   have hc':(rfHd t.1).2≠0:=by rw [e1];simpa using hc
   simp only [Rb_err,Xck _ _ _ hc',Xhm _ _ _ hc',Xf9 _ _ _ hc']
   exact ⟨fun x b h=>(by cases h),fun z h=>(by injection h with h;subst h;exact ⟨e1,hc⟩)⟩
  |ok e=>
   rw [k1 e h2]
   simp only [Rb_ok]
   cases h3:rdNum s t.2 with
   |error c=>
    have hc:=Xa9 h3
    have hc':c≠0:=by simpa using hc
    simp only [Xcj,Rb_err,Xck _ _ _ hc',Xhm _ _ _ hc',Xf9 _ _ _ hc']
    exact ⟨fun x b h=>(by cases h),fun z h=>(by injection h with h;subst h;exact ⟨rfl,hc⟩)⟩
   |ok z=>
    simp only [Xbx,Rb_ok]
    cases h4:rdStr s z.2 with
    |error c=>
     have hc:=Xav h4
     have hc':c≠0:=by simpa using hc
     simp only [Xcj,Rb_err,Xhm _ _ _ hc',Xf9 _ _ _ hc']
     exact ⟨fun x b h=>(by cases h),fun z h=>(by injection h with h;subst h;exact ⟨rfl,hc⟩)⟩
    |ok d=>
     simp only [Xbx,Rb_ok]
     cases h5:rdCnt 65536 s d.2 with
     |error c=>
      have hc:=Xhq h5
      have hc':c≠0:=by simpa using hc
      obtain ⟨e1,e2⟩:=Xvm h5
      have hcc:(rfC 65536 s d.2 0).2.2≠0:=by rw [e1];exact hc'
      simp only [Rb_err,Xf9 _ _ _ hcc]
      exact ⟨fun x b h=>(by cases h),fun z h=>(by injection h with h;subst h;exact ⟨e1,hc⟩)⟩
     |ok n=>
      rw [Xvl (x:=n.1) (b:=n.2) h5]
      simp only [Rb_ok]
      obtain ⟨k1,k2⟩:=Xvk s n.1.toNat n.2 []
      cases h6:rdXts s n.1.toNat n.2 [] with
      |error c=>
       obtain ⟨e1,hc⟩:=k2 c h6
       simp only [Rb_err]
       exact ⟨fun x b h=>(by cases h),fun z h=>(by injection h with h;subst h;exact ⟨e1,hc⟩)⟩
      |ok l=>
       rw [k1 l.1 l.2 h6]
       simp only [Rb_ok]
       exact ⟨fun x b h=>(by injection h with h;injection h with h1 h2;subst h1 h2;rfl),fun z h=>(by cases h)⟩
end Go.Proofs.YtdodihnehppnmaaGreatDoor
namespace Go.Proofs.YtdodihnehppnmaaGreatDoor
open Go.RowKit
def evF:List (Option Tmp × Value)→Nat→Array Bool→Tmp→Value→Value
 | [],_,_,_,d=>d
 |(e,u)::l,k,s,t,d=>if e=some t then (if s.getD k false=true then u else d) else evF l (k+1) s t d
theorem Xj8:∀(l:List (Option Tmp × Value)) (k:Nat) (s:Array Bool) (a:Act) (t:Tmp),ApartF l→t<a.tmps.size→(fillA l k s a).eval (.tmp t)=evF l k s t (a.eval (.tmp t))
 | [],_,_,_,_,_,_=>rfl
 |(e,u)::l,k,s,a,t,hp,ht=>by
  obtain ⟨h1,h2⟩:=List.pairwise_cons.1 hp
  rw [fillA,evF]
  by_cases he:e=some t
  ·subst he
   rw [if_pos rfl,Xcz l _ _ _ _ fun p hp=>h1 p hp t rfl]
   split
   ·simp [Act.eval,Act.put,ht]
   ·rfl
  ·rw [if_neg he]
   by_cases hs:s.getD k false=true
   ·rw [if_pos hs,Xj8 l _ _ _ _ h2 (by rw [Xom];exact ht),Xhr a u he]
   ·rw [if_neg hs];exact Xj8 l _ _ _ _ h2 ht
theorem Xgk {L:List (Option Tmp × Value)} {s:Array Bool} {a a':Act} (hp:ApartF L) (ha:a'=fillA L 0 s a) (t:Tmp) (ht:t<a.tmps.size):a'.tmps[t]?.getD undef=evF L 0 s t (a.tmps[t]?.getD undef):=by
 have h:=Xj8 L 0 s a t hp ht
 rw [←ha] at h
 simpa [Act.eval] using h
theorem Xam {L:List (Option Tmp × Value)} {s:Array Bool} {a a':Act} {i:Nat} {d:Tmp} {v:Value} (hp:ApartF L) (ha:a'=fillA L 0 s a) (hi:L[i]? =some (some d,v)) (hun:s.getD i true=false):
 ({ tmps:=a'.tmps.setIfInBounds d v,defers:=a'.defers }:Act)=fillA L 0 (s.setIfInBounds i true) a:=Xak (d:=some d) hp ha hi hun
def reachB (ops:Array Oper):Nat→Nat→Nat→Bool
 |0,k,i=>k==i
 |f+1,k,i=>k==i || (match ops[k]? with|some o=>o.after.any fun e=>Region.binds .any e&&reachB ops f e.on i|none=>false)
theorem Xog {ops:Array Oper} {s:Array Bool} (h:Clo ops s):∀(f k i:Nat),reachB ops f k i=true→s.getD k false=true→s.getD i false=true
 |0,k,i,hr,hk=>by
  have:k=i:=by simpa [reachB] using hr
  subst this;exact hk
 |f+1,k,i,hr,hk=>by
  rw [reachB,Bool.or_eq_true] at hr
  rcases hr with hr|hr
  ·have:k=i:=by simpa using hr
   subst this;exact hk
  ·cases ho:ops[k]? with
   |none=>rw [ho] at hr;cases hr
   |some o=>
    rw [ho] at hr
    simp only [Array.any_eq_true,Bool.and_eq_true] at hr
    obtain ⟨n,hn,h3,h4⟩:=hr
    exact Xog h f _ i h4 (h k o ho hk _ (Array.getElem_mem hn) h3)
theorem Xd0 {ops:Array Oper} {s:Array Bool} (f k:Nat) {i:Nat} (h:Clo ops s) (hp:reachB ops f k i=true) (hun:s.getD i true=false):s.getD k false=false:=by
 cases hk:s.getD k false with
 |false=>rfl
 |true=>have:=Xog h f k i hp hk;rw [Xco hun] at this;cases this
theorem Xcx {s:Array Bool} {i g:Nat} (h:(s.setIfInBounds i true).getD g false=false):s.getD g false=false:=by
 by_cases e:i=g
 ·subst e
  cases hg:s.getD i false with
  |false=>rfl
  |true=>
   have hlt:i<s.size:=by
    rcases Nat.lt_or_ge i s.size with h'|h'
    ·exact h'
    ·rw [Xbr h'] at hg;cases hg
   rw [Xcp hlt] at h;cases h
 ·rwa [Go.getD_set_ne false e] at h
theorem Xob {s:Array Bool} {i j:Nat} (h:(s.setIfInBounds i true).getD j false=true):i=j∨s.getD j false=true:=by
 by_cases e:i=j
 ·exact .inl e
 ·rw [Go.getD_set_ne false e] at h;exact .inr h
structure RgE {X:Type} (W:World) (j1 g1 j2 g2 j3 g3 j4 g4:Nat) (G0 G1 G2 G3 G4 Fin:X→World→Prop) (m:X→Nat) (t:TypeId) (s1 s2 s3:Nat) (R1 R2 R3:X→Array Value) (x:X) (s:Array Bool) (w:World):Prop where
 off:s.getD s1 false=false→Below W.heap.size W w
 inv:s.getD s1 false=false→G0 x w
 f1:s.getD j1 false=true→s.getD g1 false=false→s.getD s1 false=false→G1 x w
 f2:s.getD j2 false=true→s.getD g2 false=false→s.getD s1 false=false→G2 x w
 f3:s.getD j3 false=true→s.getD g3 false=false→s.getD s1 false=false→G3 x w
 f4:s.getD j4 false=true→s.getD g4 false=false→s.getD s1 false=false→G4 x w
 on:s.getD s1 false=true→ ∃wb,Below W.heap.size W wb∧Fin x wb∧wb.grownBy w (some (m x))∧
  w.heap[m x]? =some (.cells (if s.getD s3 false=true then R3 x else if s.getD s2 false=true then R2 x else R1 x) t (0,0))
section
variable {X:Type} {W w w':World} {j1 g1 j2 g2 j3 g3 j4 g4:Nat} {G0 G1 G2 G3 G4 Fin:X→World→Prop} {m:X→Nat} {t:TypeId} {s1 s2 s3:Nat} {R1 R2 R3:X→Array Value} {x:X} {s:Array Bool} {i:Nat}
theorem RgE.start (n:Nat) (x:X) (h0:G0 x { W with drawn:=W.drawn+1 }):RgE W j1 g1 j2 g2 j3 g3 j4 g4 G0 G1 G2 G3 G4 Fin m t s1 s2 s3 R1 R2 R3 x (Array.replicate n false) { W with drawn:=W.drawn+1 }:=
 ⟨fun _=>(Qb _ _).drew,fun _=>h0,fun h=>(by rw [Xa8] at h;cases h),fun h=>(by rw [Xa8] at h;cases h),fun h=>(by rw [Xa8] at h;cases h),fun h=>(by rw [Xa8] at h;cases h),fun h=>(by rw [Xa8] at h;cases h)⟩
theorem RgE.pure (h:RgE W j1 g1 j2 g2 j3 g3 j4 g4 G0 G1 G2 G3 G4 Fin m t s1 s2 s3 R1 R2 R3 x s w) (hd:i≠j1∧i≠j2∧i≠j3∧i≠s1∧i≠s2∧i≠s3∧i≠j4):RgE W j1 g1 j2 g2 j3 g3 j4 g4 G0 G1 G2 G3 G4 Fin m t s1 s2 s3 R1 R2 R3 x (s.setIfInBounds i true) w:=by
 obtain ⟨h1,h2,h3,h4,h5,h6,h7⟩:=hd
 refine ⟨?_,?_,?_,?_,?_,?_,?_⟩
 ·rw [Go.getD_set_ne false h4];exact h.off
 ·rw [Go.getD_set_ne false h4];exact h.inv
 ·rw [Go.getD_set_ne false h1,Go.getD_set_ne false h4];exact fun a b=>h.f1 a (Xcx b)
 ·rw [Go.getD_set_ne false h2,Go.getD_set_ne false h4];exact fun a b=>h.f2 a (Xcx b)
 ·rw [Go.getD_set_ne false h3,Go.getD_set_ne false h4];exact fun a b=>h.f3 a (Xcx b)
 ·rw [Go.getD_set_ne false h7,Go.getD_set_ne false h4];exact fun a b=>h.f4 a (Xcx b)
 ·rw [Go.getD_set_ne false h4,Go.getD_set_ne false h5,Go.getD_set_ne false h6];exact h.on
theorem RgE.put1 (h:RgE W j1 g1 j2 g2 j3 g3 j4 g4 G0 G1 G2 G3 G4 Fin m t s1 s2 s3 R1 R2 R3 x s w) (hun:s.getD s1 true=false) (hf:Fin x w) (h2:s.getD s2 false=false) (h3:s.getD s3 false=false) (hd:s1≠s2∧s1≠s3)
 {cur:Array Value} (hg:w.heap[m x]? =some (.cells cur t (0,0))) {R:Array Value} (hR:R=R1 x):RgE W j1 g1 j2 g2 j3 g3 j4 g4 G0 G1 G2 G3 G4 Fin m t s1 s2 s3 R1 R2 R3 x (s.setIfInBounds s1 true) (w.setRow (m x) R):=by
 have e:=Xcp (Xjp hun)
 have hl:s.getD s1 false=false:=Xco hun
 refine ⟨fun q=>(by rw [e] at q;cases q),fun q=>(by rw [e] at q;cases q),fun _ _ q=>(by rw [e] at q;cases q),fun _ _ q=>(by rw [e] at q;cases q),fun _ _ q=>(by rw [e] at q;cases q),fun _ _ q=>(by rw [e] at q;cases q),fun _=>⟨w,h.off hl,hf,Xat,?_⟩⟩
 rw [Go.getD_set_ne false hd.1,Go.getD_set_ne false hd.2,h2,h3,hR]
 exact setRow_heap w (m x) cur _ t (0,0) hg
end
structure RgF {X:Type} (W:World) (j1 j2 j3 j4:Nat) (G1 G2 G3 G4:X→World→Prop) (x:X) (s:Array Bool) (w:World):Prop where
 off:Below W.heap.size W w
 f1:s.getD j1 false=true→G1 x w
 f2:s.getD j2 false=true→G2 x w
 f3:s.getD j3 false=true→G3 x w
 f4:s.getD j4 false=true→G4 x w
section
variable {X:Type} {W w w':World} {j1 j2 j3 j4:Nat} {G1 G2 G3 G4:X→World→Prop} {x:X} {s:Array Bool} {i:Nat}
theorem RgF.start (n:Nat) (x:X):RgF W j1 j2 j3 j4 G1 G2 G3 G4 x (Array.replicate n false) { W with drawn:=W.drawn+1 }:=
 ⟨(Qb _ _).drew,fun h=>(by rw [Xa8] at h;cases h),fun h=>(by rw [Xa8] at h;cases h),fun h=>(by rw [Xa8] at h;cases h),fun h=>(by rw [Xa8] at h;cases h)⟩
theorem RgF.pure (h:RgF W j1 j2 j3 j4 G1 G2 G3 G4 x s w) (hd:i≠j1∧i≠j2∧i≠j3∧i≠j4):RgF W j1 j2 j3 j4 G1 G2 G3 G4 x (s.setIfInBounds i true) w:=by
 obtain ⟨h1,h2,h3,h4⟩:=hd
 refine ⟨h.off,?_,?_,?_,?_⟩
 ·rw [Go.getD_set_ne false h1];exact h.f1
 ·rw [Go.getD_set_ne false h2];exact h.f2
 ·rw [Go.getD_set_ne false h3];exact h.f3
 ·rw [Go.getD_set_ne false h4];exact h.f4
theorem RgF.step (h:RgF W j1 j2 j3 j4 G1 G2 G3 G4 x s w) (hb:Below W.heap.size W w') {x':X}
 (k1:i=j1∨(s.getD j1 false=true∧G1 x w)→G1 x' w') (k2:i=j2∨(s.getD j2 false=true∧G2 x w)→G2 x' w') (k3:i=j3∨(s.getD j3 false=true∧G3 x w)→G3 x' w') (k4:i=j4∨(s.getD j4 false=true∧G4 x w)→G4 x' w'):
 RgF W j1 j2 j3 j4 G1 G2 G3 G4 x' (s.setIfInBounds i true) w':=
 ⟨hb,fun a=>k1 ((Xob a).imp id fun q=>⟨q,h.f1 q⟩),fun a=>k2 ((Xob a).imp id fun q=>⟨q,h.f2 q⟩),fun a=>k3 ((Xob a).imp id fun q=>⟨q,h.f3 q⟩),fun a=>k4 ((Xob a).imp id fun q=>⟨q,h.f4 q⟩)⟩
end
structure Pt2 (W:World) (m1 m2:Nat) (R1 R2:Array Value) (s:Array Bool) (w:World):Prop where
 eq:w=if s.getD 3 false=true then (({ W with drawn:=W.drawn+1 }:World).setRow m1 R1).setRow m2 R2 else if s.getD 2 false=true then ({ W with drawn:=W.drawn+1 }:World).setRow m1 R1 else { W with drawn:=W.drawn+1 }
section
variable {W w:World} {m1 m2:Nat} {R1 R2:Array Value} {s:Array Bool} {i:Nat}
end
theorem one_row {α:Type} {T:Ty α} {E:TypeId} {J:IH} {W:World} {g:Nat} {cs:List Value} {x:α} (hw:Ok J W) (hg:W.heap[g]? =some (.cells cs.toArray E (0,0))) (hn:J g=none) (hx:T.rd J cs x):
 ∃J',(∀b c,J b=some c→J' b=some c)∧Ext g J J'∧Ok J' W∧(∀b,b≠g→J' b=J b)∧RdS T J' (.slice (some ⟨g,0,none⟩) 1 1) [x]:=by
 have hkeep:∀b c,J b=some c→(J.add g cs.toArray) b=some c:=fun b c hc=>by
  unfold IH.add
  by_cases e:b=g
  ·subst e;rw [hn] at hc;cases hc
  ·rw [if_neg e];exact hc
 refine ⟨J.add g cs.toArray,hkeep,Ext.add (Qn _) J _,hw.add hg,fun b hb=>by simp [IH.add,hb],⟨_,1,rfl,Qn _,by unfold maxLen;omega,fun _=>⟨g,0,cs.toArray,rfl,by simp [IH.add],fun i hi=> ?_⟩⟩⟩
 have h0:i=0:=by simp at hi;omega
 subst h0
 refine ⟨cs,T.mono hkeep hx,fun j u hu=> ?_⟩
 simpa using hu
theorem Xa0 {ops:Array Oper} {tmps:Array Value} {j:Nat} {t:Tmp} {b:Bool} (ho:(ops[j]?).bind (·.dst)=some t) (h:tmps[t]?.getD undef= .bool b):yielded ops tmps j=some b:=by
 unfold yielded
 rw [ho]
 cases ht:tmps[t]? with
 |none=>rw [ht] at h;cases h
 |some v=>rw [ht] at h;have h:v= .bool b:=h;subst h;simp [ht]
section
variable {X:Type} {W w w':World} {j1 g1 j2 g2 j3 g3 j4 g4:Nat} {G0 G1 G2 G3 G4 Fin:X→World→Prop} {m:X→Nat} {t:TypeId} {s1 s2 s3:Nat} {R1 R2 R3:X→Array Value} {x:X} {s:Array Bool}
theorem RgE.cell (h:RgE W j1 g1 j2 g2 j3 g3 j4 g4 G0 G1 G2 G3 G4 Fin m t s1 s2 s3 R1 R2 R3 x s w) {a:Addr} {v:Value} (hc:W.cell? a=some v) (hne:m x≠a.block):w.cell? a=some v:=by
 cases hs:s.getD s1 false with
 |false=>exact Xaa (h.off hs) hc
 |true=>
  obtain ⟨wb,hb,_,hg,_⟩:=h.on hs
  exact Xay hg (fun q=>hne (by injection q)) (Xaa hb hc)
end
theorem Xft {ops:Array Oper} {tmps:Array Value} {j:Nat} {t:Tmp} (ho:(ops[j]?).bind (·.dst)=some t) (h:tmps[t]?.getD undef=undef):yielded ops tmps j=none:=by
 unfold yielded
 rw [ho]
 cases ht:tmps[t]? with
 |none=>simp [ht]
 |some v=>rw [ht] at h;have h:v=undef:=h;subst h;simp [ht,undef]
structure TwB (W:World) (i1 i2 s1 s2:Nat) (t:TypeId) (Z R1 R2:Array Value) (x:Nat × Nat) (s:Array Bool) (w:World):Prop where
 bel:Below W.heap.size W w
 b1:s.getD i1 false=true→W.heap.size≤x.1∧w.heap[x.1]? =some (.cells (if s.getD s1 false=true then R1 else Z) t (0,0))
 b2:s.getD i2 false=true→W.heap.size≤x.2∧w.heap[x.2]? =some (.cells (if s.getD s2 false=true then R2 else Z) t (0,0))
 ne:s.getD i1 false=true→s.getD i2 false=true→x.1≠x.2
section
variable {W w:World} {i1 i2 s1 s2:Nat} {t:TypeId} {Z R1 R2:Array Value} {x:Nat × Nat} {s:Array Bool} {i:Nat}
end
end Go.Proofs.YtdodihnehppnmaaGreatDoor
