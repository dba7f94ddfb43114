/-
  Walks and laws that the claim's theorem uses: texts BmR BmT, joined; comments out. Conditions: as each theorem says.
-/
import Derived.Test.YtjdednajelommaaGreatDoorQ14
namespace Go.Proofs.YtjdednajelommaaGreatDoor
open Go.RowKit
def four (l:List Int) (a b c d:Nat) (va vb vc vd:Int):List Int:=(((l.set a va).set b vb).set c vc).set d vd
theorem Xhp (l:List Int) (a b c d:Nat) (va vb vc vd:Int):(four l a b c d va vb vc vd).length=l.length:=by simp [four]
theorem Xrp (l:List Int) (a b c d:Nat) (ha:a<l.length) (hb:b<l.length) (hc:c<l.length) (hd:d<l.length):four l a b c d (l.getD a 0) (l.getD b 0) (l.getD c 0) (l.getD d 0)=l:=by
 simp [four,List.getD,ha,hb,hc,hd]
structure Apart (n a b c d:Nat):Prop where
 la:a<n
 lb:b<n
 lc:c<n
 ld:d<n
 ab:a≠b
 ac:a≠c
 ad:a≠d
 bc:b≠c
 bd:b≠d
 cd:c≠d
section
variable {l:List Int} {a b c d:Nat} {va vb vc vd:Int}
theorem Xro (h:Apart l.length a b c d) (x:Int):(four l a b c d va vb vc vd).set a x=four l a b c d x vb vc vd:=by
 unfold four
 rw [List.set_comm _ _ h.ad.symm,List.set_comm _ _ h.ac.symm,List.set_comm _ _ h.ab.symm,List.set_set]
theorem Xrn (h:Apart l.length a b c d) (x:Int):(four l a b c d va vb vc vd).set b x=four l a b c d va x vc vd:=by
 unfold four
 rw [List.set_comm _ _ h.bd.symm,List.set_comm _ _ h.bc.symm,List.set_set]
theorem Xrm (h:Apart l.length a b c d) (x:Int):(four l a b c d va vb vc vd).set c x=four l a b c d va vb x vd:=by
 unfold four
 rw [List.set_comm _ _ h.cd.symm,List.set_set]
theorem Xrl (_h:Apart l.length a b c d) (x:Int):(four l a b c d va vb vc vd).set d x=four l a b c d va vb vc x:=by
 unfold four
 rw [List.set_set]
theorem Xbt {l:List Int} {i j:Nat} (h:i≠j) (x:Int):(l.set i x).getD j 0=l.getD j 0:=by
 simp [List.getD,List.getElem?_set_ne h]
theorem Xct {l:List Int} {i:Nat} (h:i<l.length) (x:Int):(l.set i x).getD i 0=x:=by
 simp [List.getD,h]
theorem Xxz (h:Apart l.length a b c d):(four l a b c d va vb vc vd).getD a 0=va:=by
 unfold four
 rw [Xbt h.ad.symm,Xbt h.ac.symm,Xbt h.ab.symm,Xct h.la]
theorem Xxy (h:Apart l.length a b c d):(four l a b c d va vb vc vd).getD b 0=vb:=by
 unfold four
 rw [Xbt h.bd.symm,Xbt h.bc.symm,Xct (by simpa using h.lb)]
theorem Xxx (h:Apart l.length a b c d):(four l a b c d va vb vc vd).getD c 0=vc:=by
 unfold four
 rw [Xbt h.cd.symm,Xct (by simpa using h.lc)]
theorem Xxw (h:Apart l.length a b c d):(four l a b c d va vb vc vd).getD d 0=vd:=by
 unfold four
 rw [Xct (by simpa using h.ld)]
end
structure MixM (w:World) (t:TypeId) (l:List Int) (a b c d:Nat) (va vb vc vd:Int) (X:World):Prop where
 row_:X.heap[w.heap.size]? =some (.cells (row (four l a b c d va vb vc vd)) t (0,0))
 zero:X.heap[w.heap.size+1]? =some (.cells (row (List.replicate 16 0)) t (0,0))
 below:Below w.heap.size w X
section
variable {w X X':World} {t:TypeId} {l:List Int} {a b c d:Nat} {va vb vc vd:Int}
theorem MixM.lt (h:MixM w t l a b c d va vb vc vd X):w.heap.size+1<X.heap.size:=(Array.getElem?_eq_some_iff.1 h.zero).1
theorem MixM.pass (h:MixM w t l a b c d va vb vc vd X) (hb:Below X.heap.size X X'):MixM w t l a b c d va vb vc vd X':=
 ⟨(hb.block _ (by have:=h.lt;omega)).trans h.row_,(hb.block _ h.lt).trans h.zero,h.below.trans (hb.mono h.below.size)⟩
theorem MixM.cell (h:MixM w t l a b c d va vb vc vd X) (q:Nat) (hq:q<l.length):X.cell? ⟨w.heap.size,q,none⟩=some (.int .u32 ((four l a b c d va vb vc vd).getD q 0)):=
 (cell_of_row X _ q _ _ _ h.row_).trans (Xa8 (by rw [Xhp];exact hq))
theorem MixM.ca (h:MixM w t l a b c d va vb vc vd X) (k:Apart l.length a b c d):X.cell? ⟨w.heap.size,a,none⟩=some (.int .u32 va):=by rw [h.cell a k.la,Xxz k]
theorem MixM.cb (h:MixM w t l a b c d va vb vc vd X) (k:Apart l.length a b c d):X.cell? ⟨w.heap.size,b,none⟩=some (.int .u32 vb):=by rw [h.cell b k.lb,Xxy k]
theorem MixM.cc (h:MixM w t l a b c d va vb vc vd X) (k:Apart l.length a b c d):X.cell? ⟨w.heap.size,c,none⟩=some (.int .u32 vc):=by rw [h.cell c k.lc,Xxx k]
theorem MixM.cd (h:MixM w t l a b c d va vb vc vd X) (k:Apart l.length a b c d):X.cell? ⟨w.heap.size,d,none⟩=some (.int .u32 vd):=by rw [h.cell d k.ld,Xxw k]
theorem MixM.fr (h:MixM w t l a b c d va vb vc vd X) (q:Nat):X.frozen? ⟨w.heap.size,q,none⟩=false:=frozen_of_row X _ q _ _ h.row_
theorem MixM.put (h:MixM w t l a b c d va vb vc vd X) (q:Nat) (x:Int) {L:List Int} (hL:(four l a b c d va vb vc vd).set q x=L) {va' vb' vc' vd':Int} (hL':L=four l a b c d va' vb' vc' vd'):MixM w t l a b c d va' vb' vc' vd' (X.setCell ⟨w.heap.size,q,none⟩ (.int .u32 x)):=by
 subst hL'
 refine ⟨?_,?_,h.below.setCell (p:=⟨w.heap.size,q,none⟩) (Qn _) _⟩
 ·rw [←hL];exact heap_setCell x h.row_
 ·rw [Below.heap_setCell _ _ _ _ (by simp)];exact h.zero
theorem MixM.pa (h:MixM w t l a b c d va vb vc vd X) (k:Apart l.length a b c d) (x:Int):MixM w t l a b c d x vb vc vd (X.setCell ⟨w.heap.size,a,none⟩ (.int .u32 x)):=h.put a x (Xro k x) rfl
theorem MixM.pb (h:MixM w t l a b c d va vb vc vd X) (k:Apart l.length a b c d) (x:Int):MixM w t l a b c d va x vc vd (X.setCell ⟨w.heap.size,b,none⟩ (.int .u32 x)):=h.put b x (Xrn k x) rfl
theorem MixM.pc (h:MixM w t l a b c d va vb vc vd X) (k:Apart l.length a b c d) (x:Int):MixM w t l a b c d va vb x vd (X.setCell ⟨w.heap.size,c,none⟩ (.int .u32 x)):=h.put c x (Xrm k x) rfl
theorem MixM.pd (h:MixM w t l a b c d va vb vc vd X) (k:Apart l.length a b c d) (x:Int):MixM w t l a b c d va vb vc x (X.setCell ⟨w.heap.size,d,none⟩ (.int .u32 x)):=h.put d x (Xrl k x) rfl
end
theorem Xb1 (x:Int) (k d m:Int) (hk:RotAt k d m) (w:World):
 Calls Tryz.prog 251 #[.int .u32 x,.int .u64 k] w fun e w'=>e= .returned (.int .u32 (rotr d m x))∧Below w.heap.size w w':=
 (Xkk x k d m hk w).mono fun _ _ ⟨h1,h2⟩=>⟨h1,by rw [h2];exact Qb _ _⟩
theorem Xv7:RotAt 16 65536 65536:= .inl ⟨rfl,rfl,rfl⟩
theorem Xv8:RotAt 12 4096 1048576:= .inr (.inl ⟨rfl,rfl,rfl⟩)
theorem Xxo:RotAt 8 256 16777216:= .inr (.inr (.inl ⟨rfl,rfl,rfl⟩))
theorem Xxp:RotAt 7 128 33554432:= .inr (.inr (.inr ⟨rfl,rfl,rfl⟩))
theorem Xxv {α:Type}:∀ {l:List α},l.length=16→ ∃a b c d e f g h i j k m n o p q,l= [a,b,c,d,e,f,g,h,i,j,k,m,n,o,p,q]
 | [a,b,c,d,e,f,g,h,i,j,k,m,n,o,p,q],_=>⟨a,b,c,d,e,f,g,h,i,j,k,m,n,o,p,q,rfl⟩
set_option maxRecDepth 100000 in
set_option maxHeartbeats 2000000 in
theorem Xkl (l:List Int) (hl:l.length=16) (qa qb qc qd:Nat) (x y:Int) (w:World) (hap:Apart 16 qa qb qc qd):
 Calls Tryz.prog 211 #[.agg (row l),.int .i64 qa,.int .i64 qb,.int .i64 qc,.int .i64 qd,.int .u32 x,.int .u32 y] w fun e w'=>e= .returned (.agg (row (mixP l qa qb qc qd x y)))∧Below w.heap.size w w':=by
 have Hap:Hid (Apart l.length qa qb qc qd):=Qh (by rw [hl];exact hap)
 have hM0:MixM w 222 l qa qb qc qd (l.getD qa 0) (l.getD qb 0) (l.getD qc 0) (l.getD qd 0) ((w.alloc (.cells (row l) 222)).alloc (.cells (row (List.replicate 16 0)) 222)):=
  ⟨by rw [Xrp _ _ _ _ _ Hap.out.la Hap.out.lb Hap.out.lc Hap.out.ld];exact (Below.heap_alloc (w.alloc (.cells (row l) 222)) (.cells (row (List.replicate 16 0)) 222) w.heap.size (by simp)).trans (heap_alloc_new w (.cells (row l) 222)),
    (by have h:=heap_alloc_new (w.alloc (.cells (row l) 222)) (.cells (row (List.replicate 16 0)) 222);rwa [show (w.alloc (.cells (row l) 222)).heap.size=w.heap.size+1 by simp] at h),
    ((Qb w.heap.size w).alloc (Qn _) (.cells (row l) 222)).alloc (by simp) (.cells (row (List.replicate 16 0)) 222)⟩
 obtain ⟨va,eva⟩:∃va,l.getD qa 0=va:=⟨_,rfl⟩
 obtain ⟨vb,evb⟩:∃vb,l.getD qb 0=vb:=⟨_,rfl⟩
 obtain ⟨vc,evc⟩:∃vc,l.getD qc 0=vc:=⟨_,rfl⟩
 obtain ⟨vd,evd⟩:∃vd,l.getD qd 0=vd:=⟨_,rfl⟩
 have Hm:=Qh (show mixP l qa qb qc qd x y=four l qa qb qc qd (mixW va vb vc vd x y).1 (mixW va vb vc vd x y).2.1 (mixW va vb vc vd x y).2.2.1 (mixW va vb vc vd x y).2.2.2 by rw [mixP,eva,evb,evc,evd,four])
 rw [eva,evb,evc,evd] at hM0
 clear eva evb evc evd
 have HM:=Qh hM0
 clear hM0
 have n1:(qa:Int)<16:=by have:=hap.la;omega
 have n2:(qb:Int)<16:=by have:=hap.lb;omega
 have n3:(qc:Int)<16:=by have:=hap.lc;omega
 have n4:(qd:Int)<16:=by have:=hap.ld;omega
 clear hap
 obtain ⟨v0,v1,v2,v3,v4,v5,v6,v7,v8,v9,v10,v11,v12,v13,v14,v15,hll⟩:=Xxv hl
 have hrow:row l= #[.int .u32 v0,.int .u32 v1,.int .u32 v2,.int .u32 v3,.int .u32 v4,.int .u32 v5,.int .u32 v6,.int .u32 v7,.int .u32 v8,.int .u32 v9,.int .u32 v10,.int .u32 v11,.int .u32 v12,.int .u32 v13,.int .u32 v14,.int .u32 v15]:=by rw [hll];rfl
 have Hll:=Qh hll
 have Hrow:=Qh hrow
 have Hlen:=Qh hl
 clear hll hrow hl
 rw [Hrow.out]
 go_enter Tryz.func211,Tryz.ntmps211
 go_wp2_with fail
 rw [←Hrow.out]
 rw [show (#[.int .u32 0,.int .u32 0,.int .u32 0,.int .u32 0,.int .u32 0,.int .u32 0,.int .u32 0,.int .u32 0,.int .u32 0,.int .u32 0,.int .u32 0,.int .u32 0,.int .u32 0,.int .u32 0,.int .u32 0,.int .u32 0]:Array Value)=row (List.replicate 16 0) from rfl]
 generalize (w.alloc (.cells (row l) 222)).alloc (.cells (row (List.replicate 16 0)) 222)=X at HM ⊢
 clear Hrow Hll
 have g1:=cell_regrown (HM.out.ca Hap.out)
 have g2:=cell_regrown (HM.out.cb Hap.out)
 refine Xaf 11 (by kernel_rfl) (by kernel_rfl) ?_
 simp only [List.take_succ_cons,List.take_zero,List.drop_succ_cons,List.drop_zero]
 repeat (go_big_quiet_step ((fail)))
 refine wpQuiet_nil ?_
 intro X1 hwq
 have hbt:Below (X).heap.size (X) X1:=by
  obtain ⟨pq,rfl⟩:=hwq
  exact below_regrown _ _ _
 clear hwq
 have hMt:=HM.out.pass hbt
 clear g1 g2 hbt HM
 have HM:=Qh hMt
 have g1:=hMt.ca Hap.out
 have g2:=fun q=>hMt.fr q
 clear hMt
 go_wp2_with fail
 have hMt:=HM.out.pa Hap.out ((va+vb+x)%4294967296)
 clear HM g1 g2
 obtain ⟨a1,ha1⟩:∃a1,(va+vb+x)%4294967296=a1:=⟨_,rfl⟩
 rw [ha1] at hMt ⊢
 have Ha1:=Qh ha1
 clear ha1
 have HM:=Qh hMt
 clear hMt
 generalize X1.setCell _ _=X at HM ⊢
 have g1:=cell_regrown (HM.out.cd Hap.out)
 have g2:=cell_regrown (HM.out.ca Hap.out)
 refine Xaf 10 (by kernel_rfl) (by kernel_rfl) ?_
 simp only [List.take_succ_cons,List.take_zero,List.drop_succ_cons,List.drop_zero]
 repeat (go_big_quiet_step ((exact Calls.regrown_of (Xb1 _ _ _ _ Xv7 _))))
 refine wpQuiet_nil ?_
 intro X1 hwq
 have hbt:Below (X).heap.size (X) X1:=by
  obtain ⟨pq,rfl⟩:=hwq
  exact below_regrown _ _ _
 clear hwq
 have hMt:=HM.out.pass hbt
 clear g1 g2 hbt HM
 have HM:=Qh hMt
 have g1:=hMt.cd Hap.out
 have g2:=fun q=>hMt.fr q
 clear hMt
 go_wp2_with fail
 have hMt:=HM.out.pd Hap.out (rotr 65536 65536 (bits .xor .u32 vd a1))
 clear HM g1 g2
 obtain ⟨d1,hd1⟩:∃d1,rotr 65536 65536 (bits .xor .u32 vd a1)=d1:=⟨_,rfl⟩
 rw [hd1] at hMt ⊢
 have Hd1:=Qh hd1
 clear hd1
 have HM:=Qh hMt
 clear hMt
 generalize X1.setCell _ _=X at HM ⊢
 have g1:=cell_regrown (HM.out.cc Hap.out)
 have g2:=cell_regrown (HM.out.cd Hap.out)
 refine Xaf 9 (by kernel_rfl) (by kernel_rfl) ?_
 simp only [List.take_succ_cons,List.take_zero,List.drop_succ_cons,List.drop_zero]
 repeat (go_big_quiet_step ((fail)))
 refine wpQuiet_nil ?_
 intro X1 hwq
 have hbt:Below (X).heap.size (X) X1:=by
  obtain ⟨pq,rfl⟩:=hwq
  exact below_regrown _ _ _
 clear hwq
 have hMt:=HM.out.pass hbt
 clear g1 g2 hbt HM
 have HM:=Qh hMt
 have g1:=hMt.cc Hap.out
 have g2:=fun q=>hMt.fr q
 clear hMt
 go_wp2_with fail
 have hMt:=HM.out.pc Hap.out ((vc+d1)%4294967296)
 clear HM g1 g2
 obtain ⟨c1,hc1⟩:∃c1,(vc+d1)%4294967296=c1:=⟨_,rfl⟩
 rw [hc1] at hMt ⊢
 have Hc1:=Qh hc1
 clear hc1
 have HM:=Qh hMt
 clear hMt
 generalize X1.setCell _ _=X at HM ⊢
 have g1:=cell_regrown (HM.out.cb Hap.out)
 have g2:=cell_regrown (HM.out.cc Hap.out)
 refine Xaf 10 (by kernel_rfl) (by kernel_rfl) ?_
 simp only [List.take_succ_cons,List.take_zero,List.drop_succ_cons,List.drop_zero]
 repeat (go_big_quiet_step ((exact Calls.regrown_of (Xb1 _ _ _ _ Xv8 _))))
 refine wpQuiet_nil ?_
 intro X1 hwq
 have hbt:Below (X).heap.size (X) X1:=by
  obtain ⟨pq,rfl⟩:=hwq
  exact below_regrown _ _ _
 clear hwq
 have hMt:=HM.out.pass hbt
 clear g1 g2 hbt HM
 have HM:=Qh hMt
 have g1:=hMt.cb Hap.out
 have g2:=fun q=>hMt.fr q
 clear hMt
 go_wp2_with fail
 have hMt:=HM.out.pb Hap.out (rotr 4096 1048576 (bits .xor .u32 vb c1))
 clear HM g1 g2
 obtain ⟨b1,hb1⟩:∃b1,rotr 4096 1048576 (bits .xor .u32 vb c1)=b1:=⟨_,rfl⟩
 rw [hb1] at hMt ⊢
 have Hb1:=Qh hb1
 clear hb1
 have HM:=Qh hMt
 clear hMt
 generalize X1.setCell _ _=X at HM ⊢
 have g1:=cell_regrown (HM.out.ca Hap.out)
 have g2:=cell_regrown (HM.out.cb Hap.out)
 refine Xaf 11 (by kernel_rfl) (by kernel_rfl) ?_
 simp only [List.take_succ_cons,List.take_zero,List.drop_succ_cons,List.drop_zero]
 repeat (go_big_quiet_step ((fail)))
 refine wpQuiet_nil ?_
 intro X1 hwq
 have hbt:Below (X).heap.size (X) X1:=by
  obtain ⟨pq,rfl⟩:=hwq
  exact below_regrown _ _ _
 clear hwq
 have hMt:=HM.out.pass hbt
 clear g1 g2 hbt HM
 have HM:=Qh hMt
 have g1:=hMt.ca Hap.out
 have g2:=fun q=>hMt.fr q
 clear hMt
 go_wp2_with fail
 have hMt:=HM.out.pa Hap.out ((a1+b1+y)%4294967296)
 clear HM g1 g2
 obtain ⟨a2,ha2⟩:∃a2,(a1+b1+y)%4294967296=a2:=⟨_,rfl⟩
 rw [ha2] at hMt ⊢
 have Ha2:=Qh ha2
 clear ha2
 have HM:=Qh hMt
 clear hMt
 generalize X1.setCell _ _=X at HM ⊢
 have g1:=cell_regrown (HM.out.cd Hap.out)
 have g2:=cell_regrown (HM.out.ca Hap.out)
 refine Xaf 10 (by kernel_rfl) (by kernel_rfl) ?_
 simp only [List.take_succ_cons,List.take_zero,List.drop_succ_cons,List.drop_zero]
 repeat (go_big_quiet_step ((exact Calls.regrown_of (Xb1 _ _ _ _ Xxo _))))
 refine wpQuiet_nil ?_
 intro X1 hwq
 have hbt:Below (X).heap.size (X) X1:=by
  obtain ⟨pq,rfl⟩:=hwq
  exact below_regrown _ _ _
 clear hwq
 have hMt:=HM.out.pass hbt
 clear g1 g2 hbt HM
 have HM:=Qh hMt
 have g1:=hMt.cd Hap.out
 have g2:=fun q=>hMt.fr q
 clear hMt
 go_wp2_with fail
 have hMt:=HM.out.pd Hap.out (rotr 256 16777216 (bits .xor .u32 d1 a2))
 clear HM g1 g2
 obtain ⟨d2,hd2⟩:∃d2,rotr 256 16777216 (bits .xor .u32 d1 a2)=d2:=⟨_,rfl⟩
 rw [hd2] at hMt ⊢
 have Hd2:=Qh hd2
 clear hd2
 have HM:=Qh hMt
 clear hMt
 generalize X1.setCell _ _=X at HM ⊢
 have g1:=cell_regrown (HM.out.cc Hap.out)
 have g2:=cell_regrown (HM.out.cd Hap.out)
 refine Xaf 9 (by kernel_rfl) (by kernel_rfl) ?_
 simp only [List.take_succ_cons,List.take_zero,List.drop_succ_cons,List.drop_zero]
 repeat (go_big_quiet_step ((fail)))
 refine wpQuiet_nil ?_
 intro X1 hwq
 have hbt:Below (X).heap.size (X) X1:=by
  obtain ⟨pq,rfl⟩:=hwq
  exact below_regrown _ _ _
 clear hwq
 have hMt:=HM.out.pass hbt
 clear g1 g2 hbt HM
 have HM:=Qh hMt
 have g1:=hMt.cc Hap.out
 have g2:=fun q=>hMt.fr q
 clear hMt
 go_wp2_with fail
 have hMt:=HM.out.pc Hap.out ((c1+d2)%4294967296)
 clear HM g1 g2
 obtain ⟨c2,hc2⟩:∃c2,(c1+d2)%4294967296=c2:=⟨_,rfl⟩
 rw [hc2] at hMt ⊢
 have Hc2:=Qh hc2
 clear hc2
 have HM:=Qh hMt
 clear hMt
 generalize X1.setCell _ _=X at HM ⊢
 have g1:=cell_regrown (HM.out.cb Hap.out)
 have g2:=cell_regrown (HM.out.cc Hap.out)
 refine Xaf 10 (by kernel_rfl) (by kernel_rfl) ?_
 simp only [List.take_succ_cons,List.take_zero,List.drop_succ_cons,List.drop_zero]
 repeat (go_big_quiet_step ((exact Calls.regrown_of (Xb1 _ _ _ _ Xxp _))))
 refine wpQuiet_nil ?_
 intro X1 hwq
 have hbt:Below (X).heap.size (X) X1:=by
  obtain ⟨pq,rfl⟩:=hwq
  exact below_regrown _ _ _
 clear hwq
 have hMt:=HM.out.pass hbt
 clear g1 g2 hbt HM
 have HM:=Qh hMt
 have g1:=hMt.cb Hap.out
 have g2:=fun q=>hMt.fr q
 clear hMt
 have hMt:=HM.out.pb Hap.out (rotr 128 33554432 (bits .xor .u32 b1 c2))
 have hfin:mixP l qa qb qc qd x y=four l qa qb qc qd a2 (rotr 128 33554432 (bits .xor .u32 b1 c2)) c2 d2:=by
  rw [Hm.out]
  simp only [mixW,←Int.add_assoc,Ha1.out,Hd1.out,Hc1.out,Hb1.out,Ha2.out,Hd2.out,Hc2.out]
 clear Ha1 Hd1 Hc1 Hb1 Ha2 Hd2 Hc2 Hm
 have h0:=hMt.row_
 have h1:=hMt.zero
 have hbw:=hMt.below
 have hlen:(four l qa qb qc qd a2 (rotr 128 33554432 (bits .xor .u32 b1 c2)) c2 d2).length=16:=by rw [Xhp,Hlen.out]
 generalize four l qa qb qc qd a2 (rotr 128 33554432 (bits .xor .u32 b1 c2)) c2 d2=F at h0 hlen hfin
 have Hfin:=Qh hfin
 clear hfin
 clear hMt HM
 have hi16:(Tryz.prog.info? 222).map (·.size)=some (row F).size:=by rw [row_size,hlen];kernel_rfl
 have hz16:(row (List.replicate 16 0)).size=(row F).size:=by rw [row_size,row_size,hlen];rfl
 have ho16:(row F).all (·.oneCell')=true:=by simp [row,Value.oneCell']
 clear hlen
 go_wp2_with (first
  |(refine wpList_load_row rfl 222 _ rfl w.heap.size rfl 222 (row F) (0,0) _ h0 Tryz.underlying222 rfl hi16 ?_)
  |(refine wpList_store_row rfl 222 _ _ rfl (w.heap.size+1) (row F) rfl rfl 222 (row (List.replicate 16 0)) h1 hi16 hz16 ho16 ?_))
 refine bodyPost_ret (results_cell_row rfl _ _ (w.heap.size+1) _ (row F) (0,0) _ rfl (setRow_heap _ _ _ _ _ _ h1) Tryz.underlying222 rfl hi16) rfl ⟨by rw [Hfin.out],below_setRow hbw (by omega) _⟩
theorem Xgp (a b c:Int):bits .xor .u32 (bits .xor .u32 a b) c=bits .xor .u32 a (bits .xor .u32 b c):=by
 have hr:∀x:BitVec 32,BitVec.ofInt 32 (x.toNat:Int)=x:=fun x=>by
  apply BitVec.eq_of_toNat_eq
  simp
 have hb:∀x y:Int,bits .xor .u32 x y=((BitVec.ofInt 32 x ^^^ BitVec.ofInt 32 y).toNat:Int):=fun x y=>by
  have:=(BitVec.ofInt 32 x ^^^ BitVec.ofInt 32 y).isLt
  simp only [bits,IntKind.wrap,IntKind.bits,IntKind.signed]
  exact Int.emod_eq_of_lt (by omega) (by omega)
 rw [hb,hb a b,hb a,hb b c,hr,hr,BitVec.xor_assoc]
theorem Xq5 (a:Int) (h0:0≤a) (h1:a<4294967296):bits .or .u32 0 a=a:=by
 have hb:bits .or .u32 0 a=((BitVec.ofInt 32 0 ||| BitVec.ofInt 32 a).toNat:Int):=by
  have:=(BitVec.ofInt 32 0 ||| BitVec.ofInt 32 a).isLt
  simp only [bits,IntKind.wrap,IntKind.bits,IntKind.signed]
  exact Int.emod_eq_of_lt (by omega) (by omega)
 rw [hb]
 simp
 omega
def pW (s:Bytes) (j:Nat):Nat→Int
 |0=>0
 |1=>byteI s (4*j)
 |2=>bits .or .u32 (byteI s (4*j)) (byteI s (4*j+1)*256%4294967296)
 |3=>bits .or .u32 (bits .or .u32 (byteI s (4*j)) (byteI s (4*j+1)*256%4294967296)) (byteI s (4*j+2)*65536%4294967296)
 |_=>wordAt s j
def refW (s:Bytes) (k:Nat):List Int:=(List.range 16).map fun j=>pW s j (k-4*j)
theorem Xml (s:Bytes) (k:Nat):(refW s k).length=16:=by simp [refW]
theorem Xqr (s:Bytes):refW s 0=List.replicate 16 0:=by
 simp [refW,pW,List.map_const']
theorem Xmw (s:Bytes) (j n:Nat) (h:4≤n):pW s j n=wordAt s j:=by
 match n,h with
 |n+4,_=>rfl
theorem Xs6 (s:Bytes):refW s 64=words s:=by
 apply List.map_congr_left
 intro j hj
 have:=List.mem_range.1 hj
 exact Xmw s j _ (by omega)
theorem Xv9 (s:Bytes) (q r:Nat) (hq:q<16) (_hr:r<4):(refW s (4*q+r)).getD q 0=pW s q r:=by
 simp [refW,List.getD,hq]
theorem Xqs (s:Bytes) (q r:Nat) (_hq:q<16) (hr:r<4):(refW s (4*q+r)).set q (pW s q (r+1))=refW s (4*q+r+1):=by
 apply List.ext_getElem
 ·simp [refW]
 ·intro j h1 h2
  simp only [refW,List.getElem_set,List.getElem_map,List.getElem_range]
  by_cases h:q=j
  ·subst h
   rw [if_pos rfl,show 4*q+r+1-4*q=r+1 by omega]
  ·rw [if_neg h]
   rcases Nat.lt_or_ge j q with hj|hj
   ·rw [Xmw s j _ (by omega),Xmw s j _ (by omega)]
   ·rw [show 4*q+r-4*j=0 by omega,show 4*q+r+1-4*j=0 by omega]
theorem Xh0 (s:Bytes) (i:Nat):0≤byteI s i∧byteI s i<4294967296:=by unfold byteI;omega
theorem Xfi (s:Bytes) (k:Nat) (h:k<s.length):(s[k].toNat:Int)%4294967296=byteI s k:=by simp [byteI,h]
theorem pW_0 (s:Bytes) (q k:Nat) (hk:k=4*q+0) (h:k<s.length):bits .or .u32 (pW s q 0) ((s[k].toNat:Int)%4294967296)=pW s q 1:=by
 rw [Xfi s k h,hk]
 exact Xq5 _ (Xh0 _ _).1 (Xh0 _ _).2
theorem pW_1 (s:Bytes) (q k:Nat) (hk:k=4*q+1) (h:k<s.length):bits .or .u32 (pW s q 1) ((s[k].toNat:Int)%4294967296*256%4294967296)=pW s q 2:=by
 rw [Xfi s k h,hk];rfl
theorem pW_2 (s:Bytes) (q k:Nat) (hk:k=4*q+2) (h:k<s.length):bits .or .u32 (pW s q 2) ((s[k].toNat:Int)%4294967296*65536%4294967296)=pW s q 3:=by
 rw [Xfi s k h,hk];rfl
theorem pW_3 (s:Bytes) (q k:Nat) (hk:k=4*q+3) (h:k<s.length):bits .or .u32 (pW s q 3) ((s[k].toNat:Int)%4294967296*16777216%4294967296)=pW s q 4:=by
 rw [Xfi s k h,hk];rfl
def vFill (hs:List Int) (k:Nat):List Int:=(List.range 16).map fun j=>if j<8 then (if j<k then hs.getD j 0 else 0) else (if j-8<k then blkIV.getD (j-8) 0 else 0)
theorem Xf1 (hs:List Int) (k:Nat):(vFill hs k).length=16:=by simp [vFill]
theorem Xov (hs:List Int):vFill hs 0=List.replicate 16 0:=by simp [vFill,List.map_const']
theorem Xow (hs:List Int) (k:Nat) (hk:k<8):((vFill hs k).set k (hs.getD k 0)).set (k+8) (blkIV.getD k 0)=vFill hs (k+1):=by
 apply List.ext_getElem
 ·simp [vFill]
 ·intro j h1 h2
  simp only [vFill,List.getElem_set,List.getElem_map,List.getElem_range]
  by_cases h:k+8=j
  ·subst h
   rw [if_pos rfl,if_neg (by omega),if_pos (by omega),show k+8-8=k by omega]
  ·rw [if_neg h]
   by_cases h':k=j
   ·subst h'
    rw [if_pos rfl,if_pos hk,if_pos (by omega)]
   ·rw [if_neg h']
    by_cases hj:j<8
    ·rw [if_pos hj,if_pos hj]
     by_cases hjk:j<k
     ·rw [if_pos hjk,if_pos (by omega)]
     ·rw [if_neg hjk,if_neg (by omega)]
    ·rw [if_neg hj,if_neg hj]
     by_cases hjk:j-8<k
     ·rw [if_pos hjk,if_pos (by omega)]
     ·rw [if_neg hjk,if_neg (by omega)]
theorem Xp4 (hs:List Int) (h:hs.length=8):vFill hs 8=hs++blkIV:=by
 obtain ⟨a,b,c,d,e,f,g,i,rfl⟩:=Xmy h
 rfl
def refPerms:List Bytes:= [[48,49,50,51,52,53,54,55,56,57,97,98,99,100,101,102],[101,97,52,56,57,102,100,54,49,99,48,50,98,55,53,51],[98,56,99,48,53,50,102,100,97,101,51,54,55,49,57,52],[55,57,51,49,100,99,98,101,50,54,53,97,52,48,102,56],[57,48,53,55,50,52,97,102,101,49,98,99,54,56,51,100],[50,99,54,97,48,98,56,51,52,100,55,53,102,101,49,57],[99,53,49,102,101,100,52,97,48,55,54,51,57,50,56,98],[100,98,55,101,99,49,51,57,53,48,102,52,56,54,50,97],[54,102,101,57,98,51,48,56,99,50,100,55,49,52,97,53],[97,50,56,52,55,54,49,53,102,98,57,101,51,99,100,48]]
def refPerm (r:Nat):Bytes:=refPerms.getD r []
def digitP (c:Nat):Nat:=if 97≤c then c-87 else c-48
theorem Xej (r:Nat) (h:r<10):(refPerm r).length=16:=by revert r;decide
theorem Xln (r i:Nat) (hr:r<10) (hi:i<16):digitP ((refPerm r).getD i 0).toNat=sigma r i∧48≤((refPerm r).getD i 0).toNat∧((refPerm r).getD i 0).toNat≤102:=by
 revert i;revert r;decide
set_option maxRecDepth 100000 in
theorem Xc3 (r:Nat) (hr:r<10) (w:World):Calls Tryz.prog 209 #[.int .i64 r] w fun e w'=>e= .returned (S (refPerm r))∧Below w.heap.size w w':=by
 match r,hr with
 |0,_=>go_enter Tryz.func209,Tryz.ntmps209;go_wp2;go_ret;exact ⟨rfl,Qb _ _⟩
 |1,_=>go_enter Tryz.func209,Tryz.ntmps209;go_wp2;go_ret;exact ⟨rfl,Qb _ _⟩
 |2,_=>go_enter Tryz.func209,Tryz.ntmps209;go_wp2;go_ret;exact ⟨rfl,Qb _ _⟩
 |3,_=>go_enter Tryz.func209,Tryz.ntmps209;go_wp2;go_ret;exact ⟨rfl,Qb _ _⟩
 |4,_=>go_enter Tryz.func209,Tryz.ntmps209;go_wp2;go_ret;exact ⟨rfl,Qb _ _⟩
 |5,_=>go_enter Tryz.func209,Tryz.ntmps209;go_wp2;go_ret;exact ⟨rfl,Qb _ _⟩
 |6,_=>go_enter Tryz.func209,Tryz.ntmps209;go_wp2;go_ret;exact ⟨rfl,Qb _ _⟩
 |7,_=>go_enter Tryz.func209,Tryz.ntmps209;go_wp2;go_ret;exact ⟨rfl,Qb _ _⟩
 |8,_=>go_enter Tryz.func209,Tryz.ntmps209;go_wp2;go_ret;exact ⟨rfl,Qb _ _⟩
 |9,_=>go_enter Tryz.func209,Tryz.ntmps209;go_wp2;go_ret;exact ⟨rfl,Qb _ _⟩
set_option maxRecDepth 100000 in
theorem Xdh (c:Nat) (h0:48≤c) (h1:c≤102) (w:World):Calls Tryz.prog 212 #[.int .u8 c] w fun e w'=>e= .returned (.int .i64 (digitP c:Nat))∧Below w.heap.size w w':=by
 have hw1:IntKind.i64.wrap (c:Int)=c:=IntWalk.i64_in _ (by omega)
 by_cases h:97≤c
 ·have hd:decide (97≤(c:Int))=true:=by simp;omega
  have Hp:=Qh (show (digitP c:Int)=(c:Int)-87 by rw [digitP,if_pos h];omega)
  go_enter Tryz.func212,Tryz.ntmps212
  go_wp2
  go_ret
  exact ⟨Xal Hp.out.symm,Qb _ _⟩
 ·have hd:decide (97≤(c:Int))=false:=by simp;omega
  have Hp:=Qh (show (digitP c:Int)=(c:Int)-48 by rw [digitP,if_neg h];omega)
  go_enter Tryz.func212,Tryz.ntmps212
  go_wp2
  go_ret
  exact ⟨Xal Hp.out.symm,Qb _ _⟩
set_option maxRecDepth 100000 in
theorem Xe7 (w:World):Calls Tryz.prog 154 #[] w fun e w'=>e= .returned (.agg (row blkIV))∧Below w.heap.size w w':=by
 go_enter Tryz.func154,Tryz.ntmps154
 go_wp2
 refine bodyPost_ret (results_cell_row rfl _ _ w.heap.size _ (row blkIV) (0,0) _ rfl (heap_alloc_new w (.cells (row blkIV) 184)) Tryz.underlying184 rfl (by kernel_rfl)) rfl ⟨rfl,?_⟩
 exact (Qb _ _).alloc (Qn _) _
def quadZ:Array Value:= #[.int .i64 0,.int .i64 0,.int .i64 0,.int .i64 0]
theorem Xpd (k:Nat) (h:k<4):quad k=(k,k+4,k+8,k+12):=by revert k;decide
theorem Xpe (k:Nat) (h:k<4):quad (k+4)=(k,4+(k+1)%4,8+(k+2)%4,12+(k+3)%4):=by revert k;decide
set_option maxRecDepth 100000 in
set_option maxHeartbeats 400000 in
theorem Xe6 (k:Nat) (hk:k<8) (w:World):Calls Tryz.prog 210 #[.int .i64 k] w fun e w'=>e= .returned (quadV (quad k))∧Below w.heap.size w w':=by
 by_cases h:k<4
 ·have Hq:=Qh (Xpd k h)
  have hz:=heap_alloc_new w (.cells quadZ 226)
  have hi4:(Tryz.prog.info? 226).map (·.size)=some (#[.int .i64 k,.int .i64 ((k:Int)+4),.int .i64 ((k:Int)+8),.int .i64 ((k:Int)+12)]:Array Value).size:=by kernel_rfl
  have ho4:(#[.int .i64 k,.int .i64 ((k:Int)+4),.int .i64 ((k:Int)+8),.int .i64 ((k:Int)+12)]:Array Value).all (·.oneCell')=true:=by simp [Value.oneCell']
  go_enter Tryz.func210,Tryz.ntmps210
  go_wp2_with (refine wpList_store_row rfl 226 _ _ rfl w.heap.size #[.int .i64 k,.int .i64 ((k:Int)+4),.int .i64 ((k:Int)+8),.int .i64 ((k:Int)+12)] rfl rfl 226 quadZ hz hi4 rfl ho4 ?_)
  refine bodyPost_ret (results_cell_row rfl _ _ w.heap.size _ #[.int .i64 k,.int .i64 ((k:Int)+4),.int .i64 ((k:Int)+8),.int .i64 ((k:Int)+12)] (0,0) _ rfl (setRow_heap _ _ _ _ _ _ hz) Tryz.underlying226 rfl hi4) rfl ⟨by rw [Hq.out];rfl,below_setRow ((Qb _ _).alloc (Qn _) _) (Qn _) _⟩
 ·obtain ⟨q,rfl⟩:∃q,k=q+4:=⟨k-4,by omega⟩
  have Hq:=Qh (Xpe q (by omega))
  have hz:=heap_alloc_new w (.cells quadZ 226)
  have hs:((q+4:Nat):Int)=(q:Int)+4:=by omega
  rw [hs]
  clear hs
  have hi4:(Tryz.prog.info? 226).map (·.size)=some (#[.int .i64 q,.int .i64 (4+((q:Int)+1)%4),.int .i64 (8+((q:Int)+2)%4),.int .i64 (12+((q:Int)+3)%4)]:Array Value).size:=by kernel_rfl
  have ho4:(#[.int .i64 q,.int .i64 (4+((q:Int)+1)%4),.int .i64 (8+((q:Int)+2)%4),.int .i64 (12+((q:Int)+3)%4)]:Array Value).all (·.oneCell')=true:=by simp [Value.oneCell']
  go_enter Tryz.func210,Tryz.ntmps210
  go_wp2_with (refine wpList_store_row rfl 226 _ _ rfl w.heap.size #[.int .i64 q,.int .i64 (4+((q:Int)+1)%4),.int .i64 (8+((q:Int)+2)%4),.int .i64 (12+((q:Int)+3)%4)] rfl rfl 226 quadZ hz hi4 rfl ho4 ?_)
  refine bodyPost_ret (results_cell_row rfl _ _ w.heap.size _ #[.int .i64 q,.int .i64 (4+((q:Int)+1)%4),.int .i64 (8+((q:Int)+2)%4),.int .i64 (12+((q:Int)+3)%4)] (0,0) _ rfl (setRow_heap _ _ _ _ _ _ hz) Tryz.underlying226 rfl hi4) rfl ⟨by rw [Hq.out];rfl,below_setRow ((Qb _ _).alloc (Qn _) _) (Qn _) _⟩
end Go.Proofs.YtjdednajelommaaGreatDoor
