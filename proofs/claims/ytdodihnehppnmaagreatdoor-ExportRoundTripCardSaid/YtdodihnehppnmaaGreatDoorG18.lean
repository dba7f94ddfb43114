/- Lemmas for the claim's theorem;conditions: as each says. -/
import Derived.Test.YtdodihnehppnmaaGreatDoorG16
set_option linter.all false
namespace Go.Proofs.YtdodihnehppnmaaGreatDoor
variable{s:Array Bool}{i:Nat}{ops:Array Oper}{α:Type}{v:Value}{g j:Nat}{R:Array Value}{L:List (Option Tmp×Value)}{a a':Act}{T:Ty α}{J:IH}{W:World}{I:IH}{tmps:Array Value}{t:Tmp}
def GI(s:ae)(a:Nat)(e:Int):Xt×Nat×Int:=
 let p:=mI 0 (rdNum s a) a e
 let q:=mI 0 (rdNum s p.2.1) p.2.1 p.2.2
 let r:=mI 0 (rdNum s q.2.1) q.2.1 q.2.2
 (⟨p.1,q.1,r.1⟩,r.2.1,r.2.2)
def I7(s:ae):Nat→Nat→Int→List Xt→List Xt×Nat×Int
 |0,a,e,acc=>(acc,a,e)
 |n+1,a,e,acc=>if e≠0 then(acc,a,e)else I7 s n (GI s a e).2.1 (GI s a e).2.2 (acc++[(GI s a e).1])
theorem I8(s:ae)(n a:Nat){e:Int}(h:e≠0)(acc:List Xt):I7 s n a e acc=(acc,a,e):=by
 cases n with
 |zero=>rfl
 |succ n=>rw[I7,if_pos h]
theorem Xx3(s:ae):∀(n a:Nat) (acc:List Xt),(∀l b,ji s n a acc= .ok (l,b)→I7 s n a 0 acc=(l,b,0))∧(∀z,ji s n a acc= .error z→(I7 s n a 0 acc).2.2=z∧(z !=0)=true)
 |0,a,acc=>by
  refine⟨fun l b h=> ?_,fun z h=> ?_⟩
  ·rw[ji]at h;injection h with h
   injection h with h1 h2
   subst h1 h2;rfl
  ·rw[ji]at h;cases h
 |n+1,a,acc=>by
  rw[ji,I7,if_neg (by simp)];unfold GI;cases h1:rdNum s a with
  |error c=>
   have hc:=DC h1;have kF:c≠0:=by simpa using hc
   simp only[zP,zO _ _ _ kF,dK,I8 _ _ _ kF];exact⟨fun l b h=>(by cases h),fun z h=>(by injection h with h;subst h;exact⟨rfl,hc⟩)⟩
  |ok p=>
   simp only[BM,aR];cases h2:rdNum s p.2 with
   |error c=>
    have hc:=DC h2;have kF:c≠0:=by simpa using hc
    simp only[zP,zO _ _ _ kF,dK,I8 _ _ _ kF];exact⟨fun l b h=>(by cases h),fun z h=>(by injection h with h;subst h;exact⟨rfl,hc⟩)⟩
   |ok q=>
    simp only[BM,aR];cases h3:rdNum s q.2 with
    |error c=>
     have hc:=DC h3;have kF:c≠0:=by simpa using hc
     simp only[zP,dK,I8 _ _ _ kF];exact⟨fun l b h=>(by cases h),fun z h=>(by injection h with h;subst h;exact⟨rfl,hc⟩)⟩
    |ok r=>
     simp only[BM,aR];exact Xx3 s n r.2 _
def P5(t:ae×Nat×Int):ay×Int:=if t.2.2=0 then DY t.1 else(⟨0,[],[],[],0,[],[]⟩,t.2.2)
def Xy(s:ae):ay×Nat×Int:=
 let t:=mI [] (rdStr s 0) 0 0
 let e:=P5 t
 let z:=mI 0 (rdNum s t.2.1) t.2.1 e.2
 let d:=mI [] (rdStr s z.2.1) z.2.1 z.2.2
 let n:=BL 65536 s d.2.1 d.2.2
 let l:=I7 s n.1.toNat n.2.1 n.2.2 []
 (bW e.1 z.1 d.1 l.1,l.2.1,l.2.2)
def BN(s:ae):Rd ay:=
 Rb (rdStr s 0) fun h=>Rb (ek h.1) fun e=>Rb (rdNum s h.2) fun z=>Rb (rdStr s z.2) fun d=>Rb (gW 65536 s d.2) fun n=>Rb (ji s n.1.toNat n.2 []) fun l=>
 .ok (bW e z.1 d.1 l.1,l.2)
theorem Xx1{β γ:Type}(r:Except Int α)(f:α→Except Int β)(g:β→Except Int γ):Rb (Rb r f) g=Rb r fun x=>Rb (f x) g:=by
 cases r<;>rfl
theorem Xwc(s:ae):jB s 0=Rb (BN s) fun p=>jV p.1 p.2:=by
 unfold jB BN;simp only[Xx1,aR]
theorem X0c(s:ae):(∀x b,BN s= .ok (x,b)→Xy s=(x,b,0))∧ ∀z,BN s= .error z→(Xy s).2.2=z∧(z !=0)=true:=by
 unfold BN Xy P5;cases h1:rdStr s 0 with
 |error c=>
  have hc:=ze h1;have kF:c≠0:=by simpa using hc
  simp only[zP,dK];rw[if_neg kF];simp only[zO _ _ _ kF,KR _ _ _ kF,I8 _ _ _ kF];exact⟨fun x b h=>(by cases h),fun z h=>(by injection h with h;subst h;exact⟨rfl,hc⟩)⟩
 |ok t=>
  simp only[BM,aR,if_true];obtain⟨k1,k2⟩:=Xyk t.1;cases h2:ek t.1 with
  |error c=>
   obtain⟨e1,hc⟩:=k2 c h2;have kF:(DY t.1).2≠0:=by rw[e1];simpa using hc
   simp only[dK,zO _ _ _ kF,KR _ _ _ kF,I8 _ _ _ kF];exact⟨fun x b h=>(by cases h),fun z h=>(by injection h with h;subst h;exact⟨e1,hc⟩)⟩
  |ok e=>
   rw[k1 e h2];simp only[aR];cases h3:rdNum s t.2 with
   |error c=>
    have hc:=DC h3;have kF:c≠0:=by simpa using hc
    simp only[zP,dK,zO _ _ _ kF,KR _ _ _ kF,I8 _ _ _ kF];exact⟨fun x b h=>(by cases h),fun z h=>(by injection h with h;subst h;exact⟨rfl,hc⟩)⟩
   |ok z=>
    simp only[BM,aR];cases h4:rdStr s z.2 with
    |error c=>
     have hc:=ze h4;have kF:c≠0:=by simpa using hc
     simp only[zP,dK,KR _ _ _ kF,I8 _ _ _ kF];exact⟨fun x b h=>(by cases h),fun z h=>(by injection h with h;subst h;exact⟨rfl,hc⟩)⟩
    |ok d=>
     simp only[BM,aR];cases h5:gW 65536 s d.2 with
     |error c=>
      have hc:=WG h5;have kF:c≠0:=by simpa using hc
      obtain⟨e1,e2⟩:=Xx5 h5;have hcc:(BL 65536 s d.2 0).2.2≠0:=by rw[e1];exact kF
      simp only[dK,I8 _ _ _ hcc];exact⟨fun x b h=>(by cases h),fun z h=>(by injection h with h;subst h;exact⟨e1,hc⟩)⟩
     |ok n=>
      rw[Xx4 (x:=n.1) (b:=n.2) h5];simp only[aR];obtain⟨k1,k2⟩:=Xx3 s n.1.toNat n.2 [];cases h6:ji s n.1.toNat n.2 []with
      |error c=>
       obtain⟨e1,hc⟩:=k2 c h6;simp only[dK];exact⟨fun x b h=>(by cases h),fun z h=>(by injection h with h;subst h;exact⟨e1,hc⟩)⟩
      |ok l=>
       rw[k1 l.1 l.2 h6];simp only[aR];exact⟨fun x b h=>(by injection h with h;injection h with h1 h2;subst h1 h2;rfl),fun z h=>(by cases h)⟩
open Go.RowKit
def jL:List (Option Tmp×Value)→Nat→Array Bool→Tmp→Value→Value
 | [],_,_,_,d=>d
 |(e,u)::l,k,s,t,d=>if e=some t then(if s.getD k false=true then u else d)else jL l (k+1) s t d
theorem Xz:∀(l:List (Option Tmp×Value)) (k:Nat) (s:Array Bool) (a:Act) (t:Tmp),dL l→t<a.tmps.size→(cZ l k s a).eval (.tmp t)=jL l k s t (a.eval (.tmp t))
 | [],_,_,_,_,_,_=>rfl
 |(e,u)::l,k,s,a,t,hp,ht=>by
  obtain⟨h1,h2⟩:=List.pairwise_cons.1 hp;rw[cZ,jL];by_cases he:e=some t
  ·subst he;rw[if_pos rfl,Tu l _ _ _ _ fun p hp=>h1 p hp t rfl];split
   ·simp[Act.eval,Act.put,ht]
   ·rfl
  ·rw[if_neg he];by_cases hs:s.getD k false=true
   ·rw[if_pos hs,Xz l _ _ _ _ h2 (by rw[Xpw];exact ht),Xie a u he]
   ·rw[if_neg hs];exact Xz l _ _ _ _ h2 ht
theorem KS(hp:dL L)(ha:a'=cZ L 0 s a)(t:Tmp)(ht:t<a.tmps.size):a'.tmps[t]?.getD undef=jL L 0 s t (a.tmps[t]?.getD undef):=by
 have h:=Xz L 0 s a t hp ht;rw[←ha]at h;simpa[Act.eval]using h
theorem o6{d:Tmp}(hp:dL L)(ha:a'=cZ L 0 s a)(hi:L[i]?=some (some d,v))(bO:s.getD i true=false):
 ({tmps:=a'.tmps.setIfInBounds d v,defers:=a'.defers}:Act)=cZ L 0 (s.setIfInBounds i true) a:=jK (d:=some d) hp ha hi bO
def uy(ops:Array Oper):Nat→Nat→Nat→Bool
 |0,k,i=>k==i
 |f+1,k,i=>k==i || (match ops[k]? with|some o=>o.after.any fun e=>Region.binds .any e&&uy ops f e.on i|none=>false)
theorem Xpq(h:Gs ops s):∀(f k i:Nat),uy ops f k i=true→s.getD k false=true→s.getD i false=true
 |0,k,i,hr,hk=>by
  have:k=i:=by simpa[uy]using hr
  subst this;exact hk
 |f+1,k,i,hr,hk=>by
  rw[uy,Bool.or_eq_true]at hr;rcases hr with hr|hr
  ·have:k=i:=by simpa using hr
   subst this;exact hk
  ·cases ho:ops[k]? with
   |none=>rw[ho]at hr;cases hr
   |some o=>
    rw[ho]at hr;simp only[Array.any_eq_true,Bool.and_eq_true]at hr;obtain⟨n,hn,h3,h4⟩:=hr;exact Xpq h f _ i h4 (h k o ho hk _ (Array.getElem_mem hn) h3)
theorem FC(f k:Nat)(h:Gs ops s)(hp:uy ops f k i=true)(bO:s.getD i true=false):s.getD k false=false:=by
 cases hk:s.getD k false with
 |false=>rfl
 |true=>have:=Xpq h f k i hp hk;rw[CO bO]at this;cases this
theorem CW(h:(s.setIfInBounds i true).getD g false=false):s.getD g false=false:=by
 by_cases e:i=g
 ·subst e;cases hg:s.getD i false with
  |false=>rfl
  |true=>
   have hlt:i<s.size:=by
    rcases Nat.lt_or_ge i s.size with h'|h'
    ·exact h'
    ·rw[CQ h']at hg;cases hg
   rw[IQ hlt]at h;cases h
 ·rwa[Go.getD_set_ne false e]at h
theorem I9(h:(s.setIfInBounds i true).getD j false=true):i=j∨s.getD j false=true:=by
 by_cases e:i=j
 ·exact .inl e
 ·rw[Go.getD_set_ne false e]at h;exact .inr h
structure nT {X:Type} (W:World) (j1 g1 j2 g2 j3 g3 j4 g4:Nat) (G0 G1 G2 G3 G4 Fin:X→World→Prop) (m:X→Nat) (t:TypeId) (s1 s2 s3:Nat) (R1 R2 R3:X→Array Value) (x:X) (s:Array Bool) (w:World):Prop where
 off:s.getD s1 false=false→Below W.heap.size W w
 inv:s.getD s1 false=false→G0 x w
 f1:s.getD j1 false=true→s.getD g1 false=false→s.getD s1 false=false→G1 x w
 f2:s.getD j2 false=true→s.getD g2 false=false→s.getD s1 false=false→G2 x w
 f3:s.getD j3 false=true→s.getD g3 false=false→s.getD s1 false=false→G3 x w
 f4:s.getD j4 false=true→s.getD g4 false=false→s.getD s1 false=false→G4 x w
 on:s.getD s1 false=true→ ∃wb,Below W.heap.size W wb∧Fin x wb∧wb.grownBy w (some (m x))∧
  w.heap[m x]?=some (.cells (if s.getD s3 false=true then R3 x else if s.getD s2 false=true then R2 x else R1 x) t (0,0))
section
variable {X:Type} {W w w':World} {j1 g1 j2 g2 j3 g3 j4 g4:Nat} {G0 G1 G2 G3 G4 Fin:X→World→Prop} {m:X→Nat} {t:TypeId} {s1 s2 s3:Nat} {R1 R2 R3:X→Array Value} {x:X} {s:Array Bool} {i:Nat}
theorem nT.start(n:Nat)(x:X)(h0:G0 x {W with drawn:=W.drawn+1}):nT W j1 g1 j2 g2 j3 g3 j4 g4 G0 G1 G2 G3 G4 Fin m t s1 s2 s3 R1 R2 R3 x (Array.replicate n false) {W with drawn:=W.drawn+1}:=
 ⟨fun _=>(Qb _ _).drew,fun _=>h0,fun h=>(by rw[AR]at h;cases h),fun h=>(by rw[AR]at h;cases h),fun h=>(by rw[AR]at h;cases h),fun h=>(by rw[AR]at h;cases h),fun h=>(by rw[AR]at h;cases h)⟩
theorem nT.pure(h:nT W j1 g1 j2 g2 j3 g3 j4 g4 G0 G1 G2 G3 G4 Fin m t s1 s2 s3 R1 R2 R3 x s w)(hd:i≠j1∧i≠j2∧i≠j3∧i≠s1∧i≠s2∧i≠s3∧i≠j4):nT W j1 g1 j2 g2 j3 g3 j4 g4 G0 G1 G2 G3 G4 Fin m t s1 s2 s3 R1 R2 R3 x (s.setIfInBounds i true) w:=by
 obtain⟨h1,h2,h3,h4,h5,h6,h7⟩:=hd;refine⟨?_,?_,?_,?_,?_,?_,?_⟩
 ·rw[Go.getD_set_ne false h4];exact h.off
 ·rw[Go.getD_set_ne false h4];exact h.inv
 ·rw[Go.getD_set_ne false h1,Go.getD_set_ne false h4];exact fun a b=>h.f1 a (CW b)
 ·rw[Go.getD_set_ne false h2,Go.getD_set_ne false h4];exact fun a b=>h.f2 a (CW b)
 ·rw[Go.getD_set_ne false h3,Go.getD_set_ne false h4];exact fun a b=>h.f3 a (CW b)
 ·rw[Go.getD_set_ne false h7,Go.getD_set_ne false h4];exact fun a b=>h.f4 a (CW b)
 ·rw[Go.getD_set_ne false h4,Go.getD_set_ne false h5,Go.getD_set_ne false h6];exact h.on
theorem nT.step(h:nT W j1 g1 j2 g2 j3 g3 j4 g4 G0 G1 G2 G3 G4 Fin m t s1 s2 s3 R1 R2 R3 x s w)(hl:s.getD s1 false=false)(hb:Below W.heap.size W w')(hi:i≠s1){x':X}(k0:G0 x w→G0 x' w')
 (k1:i=j1∨(s.getD j1 false=true∧s.getD g1 false=false∧G1 x w)→i≠g1→G1 x' w') (k2:i=j2∨(s.getD j2 false=true∧s.getD g2 false=false∧G2 x w)→i≠g2→G2 x' w') (k3:i=j3∨(s.getD j3 false=true∧s.getD g3 false=false∧G3 x w)→i≠g3→G3 x' w') (k4:i=j4∨(s.getD j4 false=true∧s.getD g4 false=false∧G4 x w)→i≠g4→G4 x' w') (hlt:i<s.size):
 nT W j1 g1 j2 g2 j3 g3 j4 g4 G0 G1 G2 G3 G4 Fin m t s1 s2 s3 R1 R2 R3 x' (s.setIfInBounds i true) w':=by
 have aux:∀{g:Nat},(s.setIfInBounds i true).getD g false=false→i≠g:=fun b e=>by subst e;rw[IQ hlt]at b;cases b
 refine⟨fun _=>hb,fun _=>k0 (h.inv hl),fun a b _=>k1 ?_ (aux b),fun a b _=>k2 ?_ (aux b),fun a b _=>k3 ?_ (aux b),fun a b _=>k4 ?_ (aux b),?_⟩
 ·exact(I9 a).imp id fun q=>⟨q,CW b,h.f1 q (CW b) hl⟩
 ·exact(I9 a).imp id fun q=>⟨q,CW b,h.f2 q (CW b) hl⟩
 ·exact(I9 a).imp id fun q=>⟨q,CW b,h.f3 q (CW b) hl⟩
 ·exact(I9 a).imp id fun q=>⟨q,CW b,h.f4 q (CW b) hl⟩
 ·rw[Go.getD_set_ne false hi,hl];intro q;cases q
theorem nT.BO(h:nT W j1 g1 j2 g2 j3 g3 j4 g4 G0 G1 G2 G3 G4 Fin m t s1 s2 s3 R1 R2 R3 x s w)(bO:s.getD s1 true=false)(hf:Fin x w)(h2:s.getD s2 false=false)(h3:s.getD s3 false=false)(hd:s1≠s2∧s1≠s3)
 {cur:Array Value} (hg:w.heap[m x]?=some (.cells cur t (0,0)))  (hR:R=R1 x):nT W j1 g1 j2 g2 j3 g3 j4 g4 G0 G1 G2 G3 G4 Fin m t s1 s2 s3 R1 R2 R3 x (s.setIfInBounds s1 true) (w.setRow (m x) R):=by
 have e:=IQ (CP bO);have hl:s.getD s1 false=false:=CO bO;refine⟨fun q=>(by rw[e]at q;cases q),fun q=>(by rw[e]at q;cases q),fun _ _ q=>(by rw[e]at q;cases q),fun _ _ q=>(by rw[e]at q;cases q),fun _ _ q=>(by rw[e]at q;cases q),fun _ _ q=>(by rw[e]at q;cases q),fun _=>⟨w,h.off hl,hf,Bp,?_⟩⟩;rw[Go.getD_set_ne false hd.1,Go.getD_set_ne false hd.2,h2,h3,hR];exact setRow_heap w (m x) cur _ t (0,0) hg
theorem nT.XC(h:nT W j1 g1 j2 g2 j3 g3 j4 g4 G0 G1 G2 G3 G4 Fin m t s1 s2 s3 R1 R2 R3 x s w)(bO:s.getD s2 true=false)(h1:s.getD s1 false=true)(h3:s.getD s3 false=false)(hd:s2≠s1∧s2≠s3)(hR:R=R2 x):
 nT W j1 g1 j2 g2 j3 g3 j4 g4 G0 G1 G2 G3 G4 Fin m t s1 s2 s3 R1 R2 R3 x (s.setIfInBounds s2 true) (w.setRow (m x) R):=by
 have e:=IQ (CP bO);have e1:(s.setIfInBounds s2 true).getD s1 false=true:=by rw[Go.getD_set_ne false hd.1];exact h1
 obtain⟨wb,k1,k2,k4,k5⟩:=h.on h1;refine⟨fun q=>(by rw[e1]at q;cases q),fun q=>(by rw[e1]at q;cases q),fun _ _ q=>(by rw[e1]at q;cases q),fun _ _ q=>(by rw[e1]at q;cases q),fun _ _ q=>(by rw[e1]at q;cases q),fun _ _ q=>(by rw[e1]at q;cases q),fun _=>⟨wb,k1,k2,Xip k4 (Bp),?_⟩⟩;rw[Go.getD_set_ne false hd.2,h3,e,hR];exact setRow_heap w (m x) _ _ t (0,0) k5
theorem nT.XD(h:nT W j1 g1 j2 g2 j3 g3 j4 g4 G0 G1 G2 G3 G4 Fin m t s1 s2 s3 R1 R2 R3 x s w)(bO:s.getD s3 true=false)(h1:s.getD s1 false=true)(hd:s3≠s1)(hR:R=R3 x):
 nT W j1 g1 j2 g2 j3 g3 j4 g4 G0 G1 G2 G3 G4 Fin m t s1 s2 s3 R1 R2 R3 x (s.setIfInBounds s3 true) (w.setRow (m x) R):=by
 have e:=IQ (CP bO);have e1:(s.setIfInBounds s3 true).getD s1 false=true:=by rw[Go.getD_set_ne false hd];exact h1
 obtain⟨wb,k1,k2,k4,k5⟩:=h.on h1;refine⟨fun q=>(by rw[e1]at q;cases q),fun q=>(by rw[e1]at q;cases q),fun _ _ q=>(by rw[e1]at q;cases q),fun _ _ q=>(by rw[e1]at q;cases q),fun _ _ q=>(by rw[e1]at q;cases q),fun _ _ q=>(by rw[e1]at q;cases q),fun _=>⟨wb,k1,k2,Xip k4 (Bp),?_⟩⟩;rw[e,hR];exact setRow_heap w (m x) _ _ t (0,0) k5
theorem nT.XE(h:nT W j1 g1 j2 g2 j3 g3 j4 g4 G0 G1 G2 G3 G4 Fin m t s1 s2 s3 R1 R2 R3 x s w)(h1:s.getD s1 false=true)(h2:s.getD s2 false=false)(h3:s.getD s3 false=false):w.heap[m x]?=some (.cells (R1 x) t (0,0)):=by
 obtain⟨wb,_,_,_,k5⟩:=h.on h1;rw[h2,h3]at k5;exact k5
theorem nT.jr(h:nT W j1 g1 j2 g2 j3 g3 j4 g4 G0 G1 G2 G3 G4 Fin m t s1 s2 s3 R1 R2 R3 x s w)(h1:s.getD s1 false=true)(h2:s.getD s2 false=true)(h3:s.getD s3 false=false):w.heap[m x]?=some (.cells (R2 x) t (0,0)):=by
 obtain⟨wb,_,_,_,k5⟩:=h.on h1;rw[h2,h3]at k5;exact k5
end
structure FD {X:Type} (W:World) (j1 j2 j3 j4:Nat) (G1 G2 G3 G4:X→World→Prop) (x:X) (s:Array Bool) (w:World):Prop where
 off:Below W.heap.size W w
 f1:s.getD j1 false=true→G1 x w
 f2:s.getD j2 false=true→G2 x w
 f3:s.getD j3 false=true→G3 x w
 f4:s.getD j4 false=true→G4 x w
section
variable {X:Type} {W w w':World} {j1 j2 j3 j4:Nat} {G1 G2 G3 G4:X→World→Prop} {x:X} {s:Array Bool} {i:Nat}
theorem FD.start(n:Nat)(x:X):FD W j1 j2 j3 j4 G1 G2 G3 G4 x (Array.replicate n false) {W with drawn:=W.drawn+1}:=
 ⟨(Qb _ _).drew,fun h=>(by rw[AR]at h;cases h),fun h=>(by rw[AR]at h;cases h),fun h=>(by rw[AR]at h;cases h),fun h=>(by rw[AR]at h;cases h)⟩
theorem FD.pure(h:FD W j1 j2 j3 j4 G1 G2 G3 G4 x s w)(hd:i≠j1∧i≠j2∧i≠j3∧i≠j4):FD W j1 j2 j3 j4 G1 G2 G3 G4 x (s.setIfInBounds i true) w:=by
 obtain⟨h1,h2,h3,h4⟩:=hd;refine⟨h.off,?_,?_,?_,?_⟩
 ·rw[Go.getD_set_ne false h1];exact h.f1
 ·rw[Go.getD_set_ne false h2];exact h.f2
 ·rw[Go.getD_set_ne false h3];exact h.f3
 ·rw[Go.getD_set_ne false h4];exact h.f4
theorem FD.step(h:FD W j1 j2 j3 j4 G1 G2 G3 G4 x s w)(hb:Below W.heap.size W w'){x':X}
 (k1:i=j1∨(s.getD j1 false=true∧G1 x w)→G1 x' w') (k2:i=j2∨(s.getD j2 false=true∧G2 x w)→G2 x' w') (k3:i=j3∨(s.getD j3 false=true∧G3 x w)→G3 x' w') (k4:i=j4∨(s.getD j4 false=true∧G4 x w)→G4 x' w'):
 FD W j1 j2 j3 j4 G1 G2 G3 G4 x' (s.setIfInBounds i true) w':=
 ⟨hb,fun a=>k1 ((I9 a).imp id fun q=>⟨q,h.f1 q⟩),fun a=>k2 ((I9 a).imp id fun q=>⟨q,h.f2 q⟩),fun a=>k3 ((I9 a).imp id fun q=>⟨q,h.f3 q⟩),fun a=>k4 ((I9 a).imp id fun q=>⟨q,h.f4 q⟩)⟩
end
structure Pt2 (W:World) (m1 m2:Nat) (R1 R2:Array Value) (s:Array Bool) (w:World):Prop where
 eq:w=if s.getD 3 false=true then(({W with drawn:=W.drawn+1}:World).setRow m1 R1).setRow m2 R2 else if s.getD 2 false=true then({W with drawn:=W.drawn+1}:World).setRow m1 R1 else{W with drawn:=W.drawn+1}
section
variable {W w:World} {m1 m2:Nat} {R1 R2:Array Value} {s:Array Bool} {i:Nat}
end
theorem one_row{E:TypeId}{cs:List Value}{x:α}(hw:Ok J W)(hg:W.heap[g]?=some (.cells cs.toArray E (0,0)))(hn:J g=none)(hx:T.rd J cs x):
 ∃J',(∀b c,J b=some c→J' b=some c)∧Ext g J J'∧Ok J' W∧(∀b,b≠g→J' b=J b)∧bf T J' (.slice (some ⟨g,0,none⟩) 1 1) [x]:=by
 have uE:∀b c,J b=some c→(J.add g cs.toArray) b=some c:=fun b c hc=>by
  unfold IH.add;by_cases e:b=g
  ·subst e;rw[hn]at hc;cases hc
  ·rw[if_neg e];exact hc
 refine⟨J.add g cs.toArray,uE,Ext.add (Qn _) J _,hw.add hg,fun b hb=>by simp[IH.add,hb],⟨_,1,rfl,Qn _,by unfold maxLen;omega,fun _=>⟨g,0,cs.toArray,rfl,by simp[IH.add],fun i hi=> ?_⟩⟩⟩;have h0:i=0:=by simp at hi;omega
 subst h0;refine⟨cs,T.mono uE hx,fun j u hu=> ?_⟩;simpa using hu
theorem lT.own{w0 W':World}(h:lT I w0 J W)(hg:W.grownBy W' (some g))(hn:J g=none)(hl:w0.heap.size≤g):lT I w0 J W':=
 ⟨h.ok.grown hg (fun k e=>by injection e with e;subst e;exact hn),h.keep,h.fA.grown hg h.size (fun k e=>by injection e with e;omega)⟩
theorem X0d{l:List α}{n:Nat}(h:bf T I v l)(hn:l.length=n):∃ao cap,v= .slice ao n cap:=by
 obtain⟨ao,cap,e,_⟩:=h;exact⟨ao,cap,by rw[e,hn]⟩
theorem zg{b:Bool}(ho:(ops[j]?).bind (·.dst)=some t)(h:tmps[t]?.getD undef= .bool b):yielded ops tmps j=some b:=by
 unfold yielded;rw[ho];cases ht:tmps[t]? with
 |none=>rw[ht]at h;cases h
 |some v=>rw[ht]at h;have h:v= .bool b:=h;subst h;simp[ht]
section
variable {X:Type} {W w w':World} {j1 g1 j2 g2 j3 g3 j4 g4:Nat} {G0 G1 G2 G3 G4 Fin:X→World→Prop} {m:X→Nat} {t:TypeId} {s1 s2 s3:Nat} {R1 R2 R3:X→Array Value} {x:X} {s:Array Bool}
theorem nT.cell(h:nT W j1 g1 j2 g2 j3 g3 j4 g4 G0 G1 G2 G3 G4 Fin m t s1 s2 s3 R1 R2 R3 x s w){a:Addr}(hc:W.cell? a=some v)(cK:m x≠a.block):w.cell? a=some v:=by
 cases hs:s.getD s1 false with
 |false=>exact dQ (h.off hs) hc
 |true=>
  obtain⟨wb,hb,_,hg,_⟩:=h.on hs;exact xz hg (fun q=>cK (by injection q)) (dQ hb hc)
end
theorem XF(ho:(ops[j]?).bind (·.dst)=some t)(h:tmps[t]?.getD undef=undef):yielded ops tmps j=none:=by
 unfold yielded;rw[ho];cases ht:tmps[t]? with
 |none=>simp[ht]
 |some v=>rw[ht]at h;have h:v=undef:=h;subst h;simp[ht,undef]
structure TwB (W:World) (i1 i2 s1 s2:Nat) (t:TypeId) (Z R1 R2:Array Value) (x:Nat×Nat) (s:Array Bool) (w:World):Prop where
 fA:Below W.heap.size W w
 b1:s.getD i1 false=true→W.heap.size≤x.1∧w.heap[x.1]?=some (.cells (if s.getD s1 false=true then R1 else Z) t (0,0))
 b2:s.getD i2 false=true→W.heap.size≤x.2∧w.heap[x.2]?=some (.cells (if s.getD s2 false=true then R2 else Z) t (0,0))
 ne:s.getD i1 false=true→s.getD i2 false=true→x.1≠x.2
section
variable {W w:World} {i1 i2 s1 s2:Nat} {t:TypeId} {Z R1 R2:Array Value} {x:Nat×Nat} {s:Array Bool} {i:Nat}
end
