/- Lemmas for the claim's theorem;conditions: as each says. -/
import Derived.Test.YtmdfjnhfhidmhaaGreatDoorJ08
set_option maxHeartbeats 0
set_option maxRecDepth 100000
set_option linter.all false
namespace Go.Proofs.YtmdfjnhfhidmhaaGreatDoor
open Go.RowKit
def four(l:List Int)(a b c d:Nat)(va vb vc vd:Int):List Int:=(((l.set a va).set b vb).set c vc).set d vd
theorem Xhw(l:List Int)(a b c d:Nat)(va vb vc vd:Int):(four l a b c d va vb vc vd).length=l.length:=by simp[four]
theorem Xsb(l:List Int)(a b c d:Nat)(ha:a<l.length)(hb:b<l.length)(hc:c<l.length)(hd:d<l.length):four l a b c d (l.getD a 0) (l.getD b 0) (l.getD c 0) (l.getD d 0)=l:=by
 simp[four,List.getD,ha,hb,hc,hd]
structure Apart (n a b c d:Nat):Prop where
 la:a<n
 lb:b<n
 lc:c<n
 ld:d<n
 ab:a≠b
 ac:a≠c
 ad:a≠d
 bc:b≠c
 bd:b≠d
 cd:c≠d
section
variable {l:List Int} {a b c d:Nat} {va vb vc vd:Int}
theorem Xsa(h:Apart l.length a b c d)(x:Int):(four l a b c d va vb vc vd).set a x=four l a b c d x vb vc vd:=by
 unfold four;rw[List.set_comm _ _ h.ad.symm,List.set_comm _ _ h.ac.symm,List.set_comm _ _ h.ab.symm,List.set_set]
theorem Xr9(h:Apart l.length a b c d)(x:Int):(four l a b c d va vb vc vd).set b x=four l a b c d va x vc vd:=by
 unfold four;rw[List.set_comm _ _ h.bd.symm,List.set_comm _ _ h.bc.symm,List.set_set]
theorem Xr8(h:Apart l.length a b c d)(x:Int):(four l a b c d va vb vc vd).set c x=four l a b c d va vb x vd:=by
 unfold four;rw[List.set_comm _ _ h.cd.symm,List.set_set]
theorem Xr7(_h:Apart l.length a b c d)(x:Int):(four l a b c d va vb vc vd).set d x=four l a b c d va vb vc x:=by
 unfold four;rw[List.set_set]
theorem Pg{l:List Int}{i j:Nat}(h:i≠j)(x:Int):(l.set i x).getD j 0=l.getD j 0:=by
 simp[List.getD,List.getElem?_set_ne h]
theorem Vs{l:List Int}{i:Nat}(h:i<l.length)(x:Int):(l.set i x).getD i 0=x:=by
 simp[List.getD,h]
theorem Xxl(h:Apart l.length a b c d):(four l a b c d va vb vc vd).getD a 0=va:=by
 unfold four;rw[Pg h.ad.symm,Pg h.ac.symm,Pg h.ab.symm,Vs h.la]
theorem Xxk(h:Apart l.length a b c d):(four l a b c d va vb vc vd).getD b 0=vb:=by
 unfold four;rw[Pg h.bd.symm,Pg h.bc.symm,Vs (by simpa using h.lb)]
theorem Xxj(h:Apart l.length a b c d):(four l a b c d va vb vc vd).getD c 0=vc:=by
 unfold four;rw[Pg h.cd.symm,Vs (by simpa using h.lc)]
theorem Xxi(h:Apart l.length a b c d):(four l a b c d va vb vc vd).getD d 0=vd:=by
 unfold four;rw[Vs (by simpa using h.ld)]
end
structure jg (w:World) (t:TypeId) (l:List Int) (a b c d:Nat) (va vb vc vd:Int) (X:World):Prop where
 nG:X.heap[w.heap.size]?=some (.cells (row (four l a b c d va vb vc vd)) t (0,0))
 zero:X.heap[w.heap.size+1]?=some (.cells (row (List.replicate 16 0)) t (0,0))
 below:Below w.heap.size w X
section
variable {w X X':World} {t:TypeId} {l:List Int} {a b c d:Nat} {va vb vc vd:Int}
theorem jg.lt(h:jg w t l a b c d va vb vc vd X):w.heap.size+1<X.heap.size:=(Qg h.zero)
theorem jg.pass(h:jg w t l a b c d va vb vc vd X)(hb:Below X.heap.size X X'):jg w t l a b c d va vb vc vd X':=
 ⟨(hb.block _ (by have:=h.lt;omega)).trans h.nG,(hb.block _ h.lt).trans h.zero,h.below.trans (hb.mono h.below.size)⟩
theorem jg.cell(h:jg w t l a b c d va vb vc vd X)(q:Nat)(hq:q<l.length):X.cell? ⟨w.heap.size,q,none⟩=some (.int .u32 ((four l a b c d va vb vc vd).getD q 0)):=
 (cell_of_row X _ q _ _ _ h.nG).trans (pG (by rw[Xhw];exact hq))
theorem jg.ca(h:jg w t l a b c d va vb vc vd X)(k:Apart l.length a b c d):X.cell? ⟨w.heap.size,a,none⟩=some (.int .u32 va):=by rw[h.cell a k.la,Xxl k]
theorem jg.cb(h:jg w t l a b c d va vb vc vd X)(k:Apart l.length a b c d):X.cell? ⟨w.heap.size,b,none⟩=some (.int .u32 vb):=by rw[h.cell b k.lb,Xxk k]
theorem jg.cc(h:jg w t l a b c d va vb vc vd X)(k:Apart l.length a b c d):X.cell? ⟨w.heap.size,c,none⟩=some (.int .u32 vc):=by rw[h.cell c k.lc,Xxj k]
theorem jg.cd(h:jg w t l a b c d va vb vc vd X)(k:Apart l.length a b c d):X.cell? ⟨w.heap.size,d,none⟩=some (.int .u32 vd):=by rw[h.cell d k.ld,Xxi k]
theorem jg.fr(h:jg w t l a b c d va vb vc vd X)(q:Nat):X.frozen? ⟨w.heap.size,q,none⟩=false:=frozen_of_row X _ q _ _ h.nG
theorem jg.put(h:jg w t l a b c d va vb vc vd X)(q:Nat)(x:Int){L:List Int}(hL:(four l a b c d va vb vc vd).set q x=L){IM vb' ww vd':Int}(hL':L=four l a b c d IM vb' ww vd'):jg w t l a b c d IM vb' ww vd' (X.setCell ⟨w.heap.size,q,none⟩ (.int .u32 x)):=by
 subst hL';refine⟨?_,?_,h.below.setCell (p:=⟨w.heap.size,q,none⟩) (Qn _) _⟩
 ·rw[←hL];exact heap_setCell x h.nG
 ·rw[Below.heap_setCell _ _ _ _ (by simp)];exact h.zero
theorem jg.pa(h:jg w t l a b c d va vb vc vd X)(k:Apart l.length a b c d)(x:Int):jg w t l a b c d x vb vc vd (X.setCell ⟨w.heap.size,a,none⟩ (.int .u32 x)):=h.put a x (Xsa k x) rfl
theorem jg.pb(h:jg w t l a b c d va vb vc vd X)(k:Apart l.length a b c d)(x:Int):jg w t l a b c d va x vc vd (X.setCell ⟨w.heap.size,b,none⟩ (.int .u32 x)):=h.put b x (Xr9 k x) rfl
theorem jg.pc(h:jg w t l a b c d va vb vc vd X)(k:Apart l.length a b c d)(x:Int):jg w t l a b c d va vb x vd (X.setCell ⟨w.heap.size,c,none⟩ (.int .u32 x)):=h.put c x (Xr8 k x) rfl
theorem jg.pd(h:jg w t l a b c d va vb vc vd X)(k:Apart l.length a b c d)(x:Int):jg w t l a b c d va vb vc x (X.setCell ⟨w.heap.size,d,none⟩ (.int .u32 x)):=h.put d x (Xr7 k x) rfl
end
theorem Vt(x:Int)(k d m:Int)(hk:uK k d m)(w:World):
 Calls Tryz.prog 249 #[.int .u32 x,.int .u64 k] w fun e w'=>e= .returned (.int .u32 (mo d m x))∧Below w.heap.size w w':=
 (Xk0 x k d m hk w).mono fun _ _ ⟨h1,h2⟩=>⟨h1,by rw[h2];exact Qb _ _⟩
theorem Xvx:uK 16 65536 65536:= .inl ⟨rfl,rfl,rfl⟩
theorem Xvy:uK 12 4096 1048576:= .inr (.inl ⟨rfl,rfl,rfl⟩)
theorem Xw8:uK 8 256 16777216:= .inr (.inr (.inl ⟨rfl,rfl,rfl⟩))
theorem Xw9:uK 7 128 33554432:= .inr (.inr (.inr ⟨rfl,rfl,rfl⟩))
theorem Xxd{α:Type}:∀{l:List α},l.length=16→ ∃a b c d e f g h i j k m n o p q,l=[a,b,c,d,e,f,g,h,i,j,k,m,n,o,p,q]
 | [a,b,c,d,e,f,g,h,i,j,k,m,n,o,p,q],_=>⟨a,b,c,d,e,f,g,h,i,j,k,m,n,o,p,q,rfl⟩
theorem Xk1(l:List Int)(hl:l.length=16)(qa qb qc qd:Nat)(x y:Int)(w:World)(Le:Apart 16 qa qb qc qd):
 Calls Tryz.prog 214 #[.agg (row l),.int .i64 qa,.int .i64 qb,.int .i64 qc,.int .i64 qd,.int .u32 x,.int .u32 y] w fun e w'=>e= .returned (.agg (row (oh l qa qb qc qd x y)))∧Below w.heap.size w w':=by
 have kK:Hid (Apart l.length qa qb qc qd):=Qh (by rw[hl];exact Le);have Wv:jg w 235 l qa qb qc qd (l.getD qa 0) (l.getD qb 0) (l.getD qc 0) (l.getD qd 0) ((w.alloc (.cells (row l) 235)).alloc (.cells (row (List.replicate 16 0)) 235)):=
  ⟨by rw[Xsb _ _ _ _ _ kK.O.la kK.O.lb kK.O.lc kK.O.ld];exact(Below.heap_alloc (w.alloc (.cells (row l) 235)) (.cells (row (List.replicate 16 0)) 235) w.heap.size (by simp)).trans (heap_alloc_new w (.cells (row l) 235)),
    (by have h:=heap_alloc_new (w.alloc (.cells (row l) 235)) (.cells (row (List.replicate 16 0)) 235);rwa[show(w.alloc (.cells (row l) 235)).heap.size=w.heap.size+1 by simp]at h),
    ((Qb w.heap.size w).alloc (Qn _) (.cells (row l) 235)).alloc (by simp) (.cells (row (List.replicate 16 0)) 235)⟩
 obtain⟨va,LA⟩:∃va,l.getD qa 0=va:=⟨_,rfl⟩;obtain⟨vb,LB⟩:∃vb,l.getD qb 0=vb:=⟨_,rfl⟩;obtain⟨vc,LC⟩:∃vc,l.getD qc 0=vc:=⟨_,rfl⟩;obtain⟨vd,LD⟩:∃vd,l.getD qd 0=vd:=⟨_,rfl⟩;have Hm:=Qh (show oh l qa qb qc qd x y=four l qa qb qc qd (tZ va vb vc vd x y).1 (tZ va vb vc vd x y).2.1 (tZ va vb vc vd x y).2.2.1 (tZ va vb vc vd x y).2.2.2 by rw[oh,LA,LB,LC,LD,four]);rw[LA,LB,LC,LD]at Wv;clear LA LB LC LD;have HM:=Qh Wv;clear Wv;have n1:(qa:Int)<16:=by have:=Le.la;omega
 have n2:(qb:Int)<16:=by have:=Le.lb;omega
 have n3:(qc:Int)<16:=by have:=Le.lc;omega
 have n4:(qd:Int)<16:=by have:=Le.ld;omega
 clear Le;obtain⟨v0,v1,v2,v3,v4,v5,v6,v7,v8,v9,v10,v11,v12,v13,v14,v15,Br⟩:=Xxd hl;have aS:row l=#[.int .u32 v0,.int .u32 v1,.int .u32 v2,.int .u32 v3,.int .u32 v4,.int .u32 v5,.int .u32 v6,.int .u32 v7,.int .u32 v8,.int .u32 v9,.int .u32 v10,.int .u32 v11,.int .u32 v12,.int .u32 v13,.int .u32 v14,.int .u32 v15]:=by rw[Br];rfl
 have Gq:=Qh Br;have kg:=Qh aS;have yo:=Qh hl;clear Br aS hl;rw[kg.O];go_enter Tryz.func214,Tryz.ntmps214
 go_wp2_with fail
 rw[←kg.O];rw[show(#[.int .u32 0,.int .u32 0,.int .u32 0,.int .u32 0,.int .u32 0,.int .u32 0,.int .u32 0,.int .u32 0,.int .u32 0,.int .u32 0,.int .u32 0,.int .u32 0,.int .u32 0,.int .u32 0,.int .u32 0,.int .u32 0]:Array Value)=row (List.replicate 16 0)from rfl];generalize(w.alloc (.cells (row l) 235)).alloc (.cells (row (List.replicate 16 0)) 235)=X at HM ⊢;clear kg Gq;have g1:=cell_regrown (HM.O.ca kK.O);have g2:=cell_regrown (HM.O.cb kK.O);refine xy 11 (by kernel_rfl) (by kernel_rfl) ?_;simp only[List.take_succ_cons,List.take_zero,List.drop_succ_cons,List.drop_zero];repeat(go_big_quiet_step ((fail)))
 refine wpQuiet_nil ?_;intro X1 bq;have nO:Below (X).heap.size (X) X1:=by
  obtain⟨pq,rfl⟩:=bq;exact below_regrown _ _ _
 clear bq;have fV:=HM.O.pass nO;clear g1 g2 nO HM;have HM:=Qh fV;have g1:=fV.ca kK.O;have g2:=fun q=>fV.fr q;clear fV;go_wp2_with fail
 have fV:=HM.O.pa kK.O ((va+vb+x)%4294967296);clear HM g1 g2;obtain⟨a1,GZ⟩:∃a1,(va+vb+x)%4294967296=a1:=⟨_,rfl⟩;rw[GZ]at fV ⊢;have Mk:=Qh GZ;clear GZ;have HM:=Qh fV;clear fV;generalize X1.setCell _ _=X at HM ⊢;have g1:=cell_regrown (HM.O.cd kK.O);have g2:=cell_regrown (HM.O.ca kK.O);refine xy 10 (by kernel_rfl) (by kernel_rfl) ?_;simp only[List.take_succ_cons,List.take_zero,List.drop_succ_cons,List.drop_zero];repeat(go_big_quiet_step ((exact Calls.regrown_of (Vt _ _ _ _ Xvx _))))
 refine wpQuiet_nil ?_;intro X1 bq;have nO:Below (X).heap.size (X) X1:=by
  obtain⟨pq,rfl⟩:=bq;exact below_regrown _ _ _
 clear bq;have fV:=HM.O.pass nO;clear g1 g2 nO HM;have HM:=Qh fV;have g1:=fV.cd kK.O;have g2:=fun q=>fV.fr q;clear fV;go_wp2_with fail
 have fV:=HM.O.pd kK.O (mo 65536 65536 (bits .xor .u32 vd a1));clear HM g1 g2;obtain⟨d1,ng⟩:∃d1,mo 65536 65536 (bits .xor .u32 vd a1)=d1:=⟨_,rfl⟩;rw[ng]at fV ⊢;have Hd1:=Qh ng;clear ng;have HM:=Qh fV;clear fV;generalize X1.setCell _ _=X at HM ⊢;have g1:=cell_regrown (HM.O.cc kK.O);have g2:=cell_regrown (HM.O.cd kK.O);refine xy 9 (by kernel_rfl) (by kernel_rfl) ?_;simp only[List.take_succ_cons,List.take_zero,List.drop_succ_cons,List.drop_zero];repeat(go_big_quiet_step ((fail)))
 refine wpQuiet_nil ?_;intro X1 bq;have nO:Below (X).heap.size (X) X1:=by
  obtain⟨pq,rfl⟩:=bq;exact below_regrown _ _ _
 clear bq;have fV:=HM.O.pass nO;clear g1 g2 nO HM;have HM:=Qh fV;have g1:=fV.cc kK.O;have g2:=fun q=>fV.fr q;clear fV;go_wp2_with fail
 have fV:=HM.O.pc kK.O ((vc+d1)%4294967296);clear HM g1 g2;obtain⟨c1,uG⟩:∃c1,(vc+d1)%4294967296=c1:=⟨_,rfl⟩;rw[uG]at fV ⊢;have Hc1:=Qh uG;clear uG;have HM:=Qh fV;clear fV;generalize X1.setCell _ _=X at HM ⊢;have g1:=cell_regrown (HM.O.cb kK.O);have g2:=cell_regrown (HM.O.cc kK.O);refine xy 10 (by kernel_rfl) (by kernel_rfl) ?_;simp only[List.take_succ_cons,List.take_zero,List.drop_succ_cons,List.drop_zero];repeat(go_big_quiet_step ((exact Calls.regrown_of (Vt _ _ _ _ Xvy _))))
 refine wpQuiet_nil ?_;intro X1 bq;have nO:Below (X).heap.size (X) X1:=by
  obtain⟨pq,rfl⟩:=bq;exact below_regrown _ _ _
 clear bq;have fV:=HM.O.pass nO;clear g1 g2 nO HM;have HM:=Qh fV;have g1:=fV.cb kK.O;have g2:=fun q=>fV.fr q;clear fV;go_wp2_with fail
 have fV:=HM.O.pb kK.O (mo 4096 1048576 (bits .xor .u32 vb c1));clear HM g1 g2;obtain⟨b1,aD⟩:∃b1,mo 4096 1048576 (bits .xor .u32 vb c1)=b1:=⟨_,rfl⟩;rw[aD]at fV ⊢;have Hb1:=Qh aD;clear aD;have HM:=Qh fV;clear fV;generalize X1.setCell _ _=X at HM ⊢;have g1:=cell_regrown (HM.O.ca kK.O);have g2:=cell_regrown (HM.O.cb kK.O);refine xy 11 (by kernel_rfl) (by kernel_rfl) ?_;simp only[List.take_succ_cons,List.take_zero,List.drop_succ_cons,List.drop_zero];repeat(go_big_quiet_step ((fail)))
 refine wpQuiet_nil ?_;intro X1 bq;have nO:Below (X).heap.size (X) X1:=by
  obtain⟨pq,rfl⟩:=bq;exact below_regrown _ _ _
 clear bq;have fV:=HM.O.pass nO;clear g1 g2 nO HM;have HM:=Qh fV;have g1:=fV.ca kK.O;have g2:=fun q=>fV.fr q;clear fV;go_wp2_with fail
 have fV:=HM.O.pa kK.O ((a1+b1+y)%4294967296);clear HM g1 g2;obtain⟨a2,Bu⟩:∃a2,(a1+b1+y)%4294967296=a2:=⟨_,rfl⟩;rw[Bu]at fV ⊢;have Ci:=Qh Bu;clear Bu;have HM:=Qh fV;clear fV;generalize X1.setCell _ _=X at HM ⊢;have g1:=cell_regrown (HM.O.cd kK.O);have g2:=cell_regrown (HM.O.ca kK.O);refine xy 10 (by kernel_rfl) (by kernel_rfl) ?_;simp only[List.take_succ_cons,List.take_zero,List.drop_succ_cons,List.drop_zero];repeat(go_big_quiet_step ((exact Calls.regrown_of (Vt _ _ _ _ Xw8 _))))
 refine wpQuiet_nil ?_;intro X1 bq;have nO:Below (X).heap.size (X) X1:=by
  obtain⟨pq,rfl⟩:=bq;exact below_regrown _ _ _
 clear bq;have fV:=HM.O.pass nO;clear g1 g2 nO HM;have HM:=Qh fV;have g1:=fV.cd kK.O;have g2:=fun q=>fV.fr q;clear fV;go_wp2_with fail
 have fV:=HM.O.pd kK.O (mo 256 16777216 (bits .xor .u32 d1 a2));clear HM g1 g2;obtain⟨d2,rR⟩:∃d2,mo 256 16777216 (bits .xor .u32 d1 a2)=d2:=⟨_,rfl⟩;rw[rR]at fV ⊢;have Hd2:=Qh rR;clear rR;have HM:=Qh fV;clear fV;generalize X1.setCell _ _=X at HM ⊢;have g1:=cell_regrown (HM.O.cc kK.O);have g2:=cell_regrown (HM.O.cd kK.O);refine xy 9 (by kernel_rfl) (by kernel_rfl) ?_;simp only[List.take_succ_cons,List.take_zero,List.drop_succ_cons,List.drop_zero];repeat(go_big_quiet_step ((fail)))
 refine wpQuiet_nil ?_;intro X1 bq;have nO:Below (X).heap.size (X) X1:=by
  obtain⟨pq,rfl⟩:=bq;exact below_regrown _ _ _
 clear bq;have fV:=HM.O.pass nO;clear g1 g2 nO HM;have HM:=Qh fV;have g1:=fV.cc kK.O;have g2:=fun q=>fV.fr q;clear fV;go_wp2_with fail
 have fV:=HM.O.pc kK.O ((c1+d2)%4294967296);clear HM g1 g2;obtain⟨c2,yj⟩:∃c2,(c1+d2)%4294967296=c2:=⟨_,rfl⟩;rw[yj]at fV ⊢;have O4:=Qh yj;clear yj;have HM:=Qh fV;clear fV;generalize X1.setCell _ _=X at HM ⊢;have g1:=cell_regrown (HM.O.cb kK.O);have g2:=cell_regrown (HM.O.cc kK.O);refine xy 10 (by kernel_rfl) (by kernel_rfl) ?_;simp only[List.take_succ_cons,List.take_zero,List.drop_succ_cons,List.drop_zero];repeat(go_big_quiet_step ((exact Calls.regrown_of (Vt _ _ _ _ Xw9 _))))
 refine wpQuiet_nil ?_;intro X1 bq;have nO:Below (X).heap.size (X) X1:=by
  obtain⟨pq,rfl⟩:=bq;exact below_regrown _ _ _
 clear bq;have fV:=HM.O.pass nO;clear g1 g2 nO HM;have HM:=Qh fV;have g1:=fV.cb kK.O;have g2:=fun q=>fV.fr q;clear fV;have fV:=HM.O.pb kK.O (mo 128 33554432 (bits .xor .u32 b1 c2));have jH:oh l qa qb qc qd x y=four l qa qb qc qd a2 (mo 128 33554432 (bits .xor .u32 b1 c2)) c2 d2:=by
  rw[Hm.O];simp only[tZ,←Int.add_assoc,Mk.O,Hd1.O,Hc1.O,Hb1.O,Ci.O,Hd2.O,O4.O]
 clear Mk Hd1 Hc1 Hb1 Ci Hd2 O4 Hm;have h0:=fV.nG;have h1:=fV.zero;have cu:=fV.below;have hlen:(four l qa qb qc qd a2 (mo 128 33554432 (bits .xor .u32 b1 c2)) c2 d2).length=16:=by rw[Xhw,yo.O]
 generalize four l qa qb qc qd a2 (mo 128 33554432 (bits .xor .u32 b1 c2)) c2 d2=F at h0 hlen jH;have lJ:=Qh jH;clear jH;clear fV HM;have AR:(Tryz.prog.info? 235).map (·.size)=some (row F).size:=by rw[bG,hlen];kernel_rfl
 have Zf:(row (List.replicate 16 0)).size=(row F).size:=by rw[bG,bG,hlen];rfl
 have Zg:(row F).all (·.oneCell')=true:=by simp[row,Value.oneCell']
 clear hlen
 go_wp2_with (first
  |(refine wpList_load_row rfl 235 _ rfl w.heap.size rfl 235 (row F) (0,0) _ h0 Tryz.underlying235 rfl AR ?_)
  |(refine wpList_store_row rfl 235 _ _ rfl (w.heap.size+1) (row F) rfl rfl 235 (row (List.replicate 16 0)) h1 AR Zf Zg ?_))
 refine bodyPost_ret (results_cell_row rfl _ _ (w.heap.size+1) _ (row F) (0,0) _ rfl (setRow_heap _ _ _ _ _ _ h1) Tryz.underlying235 rfl AR) rfl ⟨by rw[lJ.O],below_setRow cu (by omega) _⟩
theorem Xgw(a b c:Int):bits .xor .u32 (bits .xor .u32 a b) c=bits .xor .u32 a (bits .xor .u32 b c):=by
 have hr:∀x:BitVec 32,BitVec.ofInt 32 (x.toNat:Int)=x:=fun x=>by
  apply BitVec.eq_of_toNat_eq;simp
 have hb:∀x y:Int,bits .xor .u32 x y=((BitVec.ofInt 32 x^^^BitVec.ofInt 32 y).toNat:Int):=fun x y=>by
  have:=(BitVec.ofInt 32 x^^^BitVec.ofInt 32 y).isLt;simp only[bits,IntKind.wrap,IntKind.bits,IntKind.signed];exact Int.emod_eq_of_lt (by omega) (by omega)
 rw[hb,hb a b,hb a,hb b c,hr,hr,BitVec.xor_assoc]
theorem Xrl(a:Int)(h0:0≤a)(h1:a<4294967296):bits .or .u32 0 a=a:=by
 have hb:bits .or .u32 0 a=((BitVec.ofInt 32 0 ||| BitVec.ofInt 32 a).toNat:Int):=by
  have:=(BitVec.ofInt 32 0 ||| BitVec.ofInt 32 a).isLt;simp only[bits,IntKind.wrap,IntKind.bits,IntKind.signed];exact Int.emod_eq_of_lt (by omega) (by omega)
 rw[hb];simp;omega
def pW(s:af)(j:Nat):Nat→Int
 |0=>0
 |1=>lH s (4*j)
 |2=>bits .or .u32 (lH s (4*j)) (lH s (4*j+1)*256%4294967296)
 |3=>bits .or .u32 (bits .or .u32 (lH s (4*j)) (lH s (4*j+1)*256%4294967296)) (lH s (4*j+2)*65536%4294967296)
 |_=>sj s j
def pU(s:af)(k:Nat):List Int:=(List.range 16).map fun j=>pW s j (k-4*j)
theorem Xmq(s:af)(k:Nat):(pU s k).length=16:=by simp[pU]
theorem Xq4(s:af):pU s 0=List.replicate 16 0:=by
 simp[pU,pW,List.map_const']
theorem Zh(s:af)(j n:Nat)(h:4≤n):pW s j n=sj s j:=by
 match n,h with
 |n+4,_=>rfl
theorem Xtx(s:af):pU s 64=words s:=by
 apply List.map_congr_left;intro j hj;have:=List.mem_range.1 hj;exact Zh s j _ (by omega)
theorem Xvz(s:af)(q r:Nat)(hq:q<16)(_hr:r<4):(pU s (4*q+r)).getD q 0=pW s q r:=by
 simp[pU,List.getD,hq]
theorem Xq5(s:af)(q r:Nat)(_hq:q<16)(hr:r<4):(pU s (4*q+r)).set q (pW s q (r+1))=pU s (4*q+r+1):=by
 apply List.ext_getElem
 ·simp[pU]
 ·intro j h1 h2;simp only[pU,List.getElem_set,List.getElem_map,List.getElem_range];by_cases h:q=j
  ·subst h;rw[if_pos rfl,show 4*q+r+1-4*q=r+1 by omega]
  ·rw[if_neg h];rcases Nat.lt_or_ge j q with hj|hj
   ·rw[Zh s j _ (by omega),Zh s j _ (by omega)]
   ·rw[show 4*q+r-4*j=0 by omega,show 4*q+r+1-4*j=0 by omega]
theorem Xh8(s:af)(i:Nat):0≤lH s i∧lH s i<4294967296:=by unfold lH;omega
theorem Vu(s:af)(k:Nat)(h:k<s.length):(s[k].toNat:Int)%4294967296=lH s k:=by simp[lH,h]
theorem Zi(s:af)(q k:Nat)(hk:k=4*q+0)(h:k<s.length):bits .or .u32 (pW s q 0) ((s[k].toNat:Int)%4294967296)=pW s q 1:=by
 rw[Vu s k h,hk];exact Xrl _ (Xh8 _ _).1 (Xh8 _ _).2
theorem Zj(s:af)(q k:Nat)(hk:k=4*q+1)(h:k<s.length):bits .or .u32 (pW s q 1) ((s[k].toNat:Int)%4294967296*256%4294967296)=pW s q 2:=by
 rw[Vu s k h,hk];rfl
theorem Zk(s:af)(q k:Nat)(hk:k=4*q+2)(h:k<s.length):bits .or .u32 (pW s q 2) ((s[k].toNat:Int)%4294967296*65536%4294967296)=pW s q 3:=by
 rw[Vu s k h,hk];rfl
theorem Zl(s:af)(q k:Nat)(hk:k=4*q+3)(h:k<s.length):bits .or .u32 (pW s q 3) ((s[k].toNat:Int)%4294967296*16777216%4294967296)=pW s q 4:=by
 rw[Vu s k h,hk];rfl
def mX(hs:List Int)(k:Nat):List Int:=(List.range 16).map fun j=>if j<8 then(if j<k then hs.getD j 0 else 0)else(if j-8<k then eX.getD (j-8) 0 else 0)
theorem Xf2(hs:List Int)(k:Nat):(mX hs k).length=16:=by simp[mX]
theorem Xo1(hs:List Int):mX hs 0=List.replicate 16 0:=by simp[mX,List.map_const']
theorem Xo2(hs:List Int)(k:Nat)(hk:k<8):((mX hs k).set k (hs.getD k 0)).set (k+8) (eX.getD k 0)=mX hs (k+1):=by
 apply List.ext_getElem
 ·simp[mX]
 ·intro j h1 h2;simp only[mX,List.getElem_set,List.getElem_map,List.getElem_range];by_cases h:k+8=j
  ·subst h;rw[if_pos rfl,if_neg (by omega),if_pos (by omega),show k+8-8=k by omega]
  ·rw[if_neg h];by_cases h':k=j
   ·subst h';rw[if_pos rfl,if_pos hk,if_pos (by omega)]
   ·rw[if_neg h'];by_cases hj:j<8
    ·rw[if_pos hj,if_pos hj];by_cases K7:j<k
     ·rw[if_pos K7,if_pos (by omega)]
     ·rw[if_neg K7,if_neg (by omega)]
    ·rw[if_neg hj,if_neg hj];by_cases K7:j-8<k
     ·rw[if_pos K7,if_pos (by omega)]
     ·rw[if_neg K7,if_neg (by omega)]
theorem Xqh(hs:List Int)(h:hs.length=8):mX hs 8=hs++eX:=by
 obtain⟨a,b,c,d,e,f,g,i,rfl⟩:=LF h;rfl
def Fv:List af:=[[48,49,50,51,52,53,54,55,56,57,97,98,99,100,101,102],[101,97,52,56,57,102,100,54,49,99,48,50,98,55,53,51],[98,56,99,48,53,50,102,100,97,101,51,54,55,49,57,52],[55,57,51,49,100,99,98,101,50,54,53,97,52,48,102,56],[57,48,53,55,50,52,97,102,101,49,98,99,54,56,51,100],[50,99,54,97,48,98,56,51,52,100,55,53,102,101,49,57],[99,53,49,102,101,100,52,97,48,55,54,51,57,50,56,98],[100,98,55,101,99,49,51,57,53,48,102,52,56,54,50,97],[54,102,101,57,98,51,48,56,99,50,100,55,49,52,97,53],[97,50,56,52,55,54,49,53,102,98,57,101,51,99,100,48]]
def nK(r:Nat):af:=Fv.getD r []
def sJ(c:Nat):Nat:=if 97≤c then c-87 else c-48
theorem Xef(r:Nat)(h:r<10):(nK r).length=16:=by revert r;decide
theorem Xly(r i:Nat)(hr:r<10)(hi:i<16):sJ ((nK r).getD i 0).toNat=jb r i∧48≤((nK r).getD i 0).toNat∧((nK r).getD i 0).toNat≤102:=by
 revert i;revert r;decide
theorem Xc2(r:Nat)(hr:r<10)(w:World):Calls Tryz.prog 212 #[.int .i64 r] w fun e w'=>e= .returned (S (nK r))∧Below w.heap.size w w':=by
 match r,hr with
 |0,_=>go_enter Tryz.func212,Tryz.ntmps212;go_wp2;go_ret;exact⟨rfl,Qb _ _⟩
 |1,_=>go_enter Tryz.func212,Tryz.ntmps212;go_wp2;go_ret;exact⟨rfl,Qb _ _⟩
 |2,_=>go_enter Tryz.func212,Tryz.ntmps212;go_wp2;go_ret;exact⟨rfl,Qb _ _⟩
 |3,_=>go_enter Tryz.func212,Tryz.ntmps212;go_wp2;go_ret;exact⟨rfl,Qb _ _⟩
 |4,_=>go_enter Tryz.func212,Tryz.ntmps212;go_wp2;go_ret;exact⟨rfl,Qb _ _⟩
 |5,_=>go_enter Tryz.func212,Tryz.ntmps212;go_wp2;go_ret;exact⟨rfl,Qb _ _⟩
 |6,_=>go_enter Tryz.func212,Tryz.ntmps212;go_wp2;go_ret;exact⟨rfl,Qb _ _⟩
 |7,_=>go_enter Tryz.func212,Tryz.ntmps212;go_wp2;go_ret;exact⟨rfl,Qb _ _⟩
 |8,_=>go_enter Tryz.func212,Tryz.ntmps212;go_wp2;go_ret;exact⟨rfl,Qb _ _⟩
 |9,_=>go_enter Tryz.func212,Tryz.ntmps212;go_wp2;go_ret;exact⟨rfl,Qb _ _⟩
theorem Vv(c:Nat)(h0:48≤c)(h1:c≤102)(w:World):Calls Tryz.prog 215 #[.int .u8 c] w fun e w'=>e= .returned (.int .i64 (sJ c:Nat))∧Below w.heap.size w w':=by
 have wL:IntKind.i64.wrap (c:Int)=c:=IntWalk.i64_in _ (by omega);by_cases h:97≤c
 ·have hd:decide (97≤(c:Int))=true:=by simp;omega
  have Hp:=Qh (show(sJ c:Int)=(c:Int)-87 by rw[sJ,if_pos h];omega);go_enter Tryz.func215,Tryz.ntmps215
  go_wp2;go_ret;exact⟨di Hp.O.symm,Qb _ _⟩
 ·have hd:decide (97≤(c:Int))=false:=by simp;omega
  have Hp:=Qh (show(sJ c:Int)=(c:Int)-48 by rw[sJ,if_neg h];omega);go_enter Tryz.func215,Tryz.ntmps215
  go_wp2;go_ret;exact⟨di Hp.O.symm,Qb _ _⟩
theorem Xe7(w:World):Calls Tryz.prog 166 #[] w fun e w'=>e= .returned (.agg (row eX))∧Below w.heap.size w w':=by
 go_enter Tryz.func166,Tryz.ntmps166
 go_wp2;refine bodyPost_ret (results_cell_row rfl _ _ w.heap.size _ (row eX) (0,0) _ rfl (heap_alloc_new w (.cells (row eX) 206)) Tryz.underlying206 rfl (by kernel_rfl)) rfl ⟨rfl,?_⟩;exact(Qb _ _).alloc (Qn _) _
def Ct:Array Value:=#[.int .i64 0,.int .i64 0,.int .i64 0,.int .i64 0]
theorem Xpn(k:Nat)(h:k<4):iF k=(k,k+4,k+8,k+12):=by revert k;decide
theorem Xpo(k:Nat)(h:k<4):iF (k+4)=(k,4+(k+1)%4,8+(k+2)%4,12+(k+3)%4):=by revert k;decide
theorem Xe6(k:Nat)(hk:k<8)(w:World):Calls Tryz.prog 213 #[.int .i64 k] w fun e w'=>e= .returned (BR (iF k))∧Below w.heap.size w w':=by
 by_cases h:k<4
 ·have Hq:=Qh (Xpn k h);have hz:=heap_alloc_new w (.cells Ct 239);have NY:(Tryz.prog.info? 239).map (·.size)=some (#[.int .i64 k,.int .i64 ((k:Int)+4),.int .i64 ((k:Int)+8),.int .i64 ((k:Int)+12)]:Array Value).size:=by kernel_rfl
  have I8:(#[.int .i64 k,.int .i64 ((k:Int)+4),.int .i64 ((k:Int)+8),.int .i64 ((k:Int)+12)]:Array Value).all (·.oneCell')=true:=by simp[Value.oneCell']
  go_enter Tryz.func213,Tryz.ntmps213
  go_wp2_with (refine wpList_store_row rfl 239 _ _ rfl w.heap.size #[.int .i64 k,.int .i64 ((k:Int)+4),.int .i64 ((k:Int)+8),.int .i64 ((k:Int)+12)] rfl rfl 239 Ct hz NY rfl I8 ?_)
  refine bodyPost_ret (results_cell_row rfl _ _ w.heap.size _ #[.int .i64 k,.int .i64 ((k:Int)+4),.int .i64 ((k:Int)+8),.int .i64 ((k:Int)+12)] (0,0) _ rfl (setRow_heap _ _ _ _ _ _ hz) Tryz.underlying239 rfl NY) rfl ⟨by rw[Hq.O];rfl,below_setRow ((Qb _ _).alloc (Qn _) _) (Qn _) _⟩
 ·obtain⟨q,rfl⟩:∃q,k=q+4:=⟨k-4,by omega⟩;have Hq:=Qh (Xpo q (by omega));have hz:=heap_alloc_new w (.cells Ct 239);have hs:((q+4:Nat):Int)=(q:Int)+4:=by omega
  rw[hs];clear hs;have NY:(Tryz.prog.info? 239).map (·.size)=some (#[.int .i64 q,.int .i64 (4+((q:Int)+1)%4),.int .i64 (8+((q:Int)+2)%4),.int .i64 (12+((q:Int)+3)%4)]:Array Value).size:=by kernel_rfl
  have I8:(#[.int .i64 q,.int .i64 (4+((q:Int)+1)%4),.int .i64 (8+((q:Int)+2)%4),.int .i64 (12+((q:Int)+3)%4)]:Array Value).all (·.oneCell')=true:=by simp[Value.oneCell']
  go_enter Tryz.func213,Tryz.ntmps213
  go_wp2_with (refine wpList_store_row rfl 239 _ _ rfl w.heap.size #[.int .i64 q,.int .i64 (4+((q:Int)+1)%4),.int .i64 (8+((q:Int)+2)%4),.int .i64 (12+((q:Int)+3)%4)] rfl rfl 239 Ct hz NY rfl I8 ?_)
  refine bodyPost_ret (results_cell_row rfl _ _ w.heap.size _ #[.int .i64 q,.int .i64 (4+((q:Int)+1)%4),.int .i64 (8+((q:Int)+2)%4),.int .i64 (12+((q:Int)+3)%4)] (0,0) _ rfl (setRow_heap _ _ _ _ _ _ hz) Tryz.underlying239 rfl NY) rfl ⟨by rw[Hq.O];rfl,below_setRow ((Qb _ _).alloc (Qn _) _) (Qn _) _⟩
