/- Lemmas for the claim's theorem;conditions: as each says. -/
import Derived.Test.YtmdfjnhfhidmhaaGreatDoorJ34
set_option maxHeartbeats 0
set_option maxRecDepth 100000
set_option linter.all false
namespace Go.Proofs.YtmdfjnhfhidmhaaGreatDoor
open Go.RowKit
theorem Xpw{a b:List Ho}(hl:a.length=b.length)(h:∀i (hi:i<a.length),a[i]=b[i]'(by omega)):a=b:=List.ext_getElem hl fun i h1 _=>h i h1
theorem Xo5(a b:Ho)(W:World):(binOp .neq 148 (.agg #[S a.p,.int .i64 a.u]) (.agg #[S b.p,.int .i64 b.u])).run Tryz.prog W= .ok (.bool (!decide (a=b))) W:=by
 rw[PX _ _ [(9,0,false),(3,1,false)] W (by kernel_rfl) (by kernel_rfl) (by kernel_rfl)];obtain⟨a1,a2⟩:=a;obtain⟨b1,b2⟩:=b;simp[go_sem];by_cases h1:a1=b1<;>by_cases h2:a2=b2<;>simp[h1,h2]<;>omega
theorem Xpa(I:IH)(va vb:Value)(a b:List Ho)(fq:aZ jB I va a)(nu:aZ jB I vb b)(w:World)(hw:Ok I w):
 Calls Tryz.prog 41 #[va,vb] w fun e w'=>e= .returned (.bool (decide (a=b)))∧Below w.heap.size w w':=by
 have PK:=fq.bF;have hlb:=nu.bF;obtain⟨ao,ca,rfl,_,_,_⟩:=id fq;obtain⟨bo,cb,rfl,_,_,_⟩:=id nu;have Ha:=Qh fq;have Hb:=Qh nu;clear fq nu;by_cases hl:a.length=b.length;case neg=>
  have q1:((a.length:Int) !=b.length)=true:=by simpa using(show(a.length:Int)≠b.length by omega)
  have q2:((a.length:Int)==b.length)=false:=by simpa using(show(a.length:Int)≠b.length by omega)
  have Hn:=Qh (show decide (a=b)=false from Qf fun e=>hl (by rw[e]));clear hl;go_enter Tryz.func41,Tryz.ntmps41
  go_wp2;go_ret;exact⟨ib Hn.O.symm,Qb _ _⟩
 have q1:((a.length:Int) !=b.length)=false:=by rw[hl];simp
 have q2:((a.length:Int)==b.length)=true:=by rw[hl];simp
 have Hl:=Qh hl;have CL:a.length≤b.length:=by omega
 clear hl;go_enter Tryz.func41,Tryz.ntmps41
 go_wp2_with fail
 go_loopw [5] (fun s5 wr=> ∃k:Nat,k≤a.length∧s5= .int .i64 k∧(∀i (hi:i<a.length),i<k→a[i]=b[i]'(by have:=Hl.O;omega))∧Below w.heap.size w wr) (fun i _=>a.length-(intOf i).toNat)
 case atStart=>exact⟨0,Nat.zero_le _,rfl,fun i _ h=>absurd h (by omega),Qb _ _⟩
 case round=>
  obtain⟨k,hk,rfl,hr,hb⟩:=hrel;have Hr:=Qh hr;clear hr;have dG:Ok I wr:=hw.below (Qn _) hb;by_cases hlt:k<a.length
  ·have jh:k<b.length:=by omega
   obtain⟨x,b1,ap4,ap5,dA,cZ,c0,c1⟩:=wy Ha.O dG k hlt;cases cZ;obtain⟨y,b2,EL,cap2,ky,cZ,d0,d1⟩:=wy Hb.O dG k jh;cases cZ;have g0:=cell_regrown c0;have g1:=cell_regrown c1;have g2:=cell_regrown d0;have g3:=cell_regrown d1;have i1:(k:Int)<a.length:=by omega
   have i2:(k:Int)<b.length:=by omega
   have qM:=Qh dA;have Ia:=Qh ky;clear dA ky;have yl:=Xo5 x y;by_cases uF:x=y
   ·rw[Qt uF]at yl;have Hn:=Qh (show ∀i (hi:i<a.length),i<k+1→a[i]=b[i]'(by have:=Hl.O;omega)from fun i hi h=>by
     by_cases hik:i<k
     ·exact Hr.O i hi hik
     ·have:i=k:=by omega
      subst this;rw[qM.O,Ia.O,uF])
    clear uF;go_wp2_with fail
    refine wp_region_quiet_below (by kernel_rfl) (by kernel_rfl) ?_;repeat(go_big_quiet_step ((fail)))
    refine wpQuiet_nil ?_;intro w2 bq;have aL:Below (wr).heap.size (wr) w2:=by
     obtain⟨pq,rfl⟩:=bq;exact below_regrown _ _ _
    clear bq;go_wp2;go_roundw;case rel=>exact⟨k+1,by omega,by go_num,Hn.O,hb.trans (aL.mono hb.size)⟩
    case measure=>simp[intOf];omega
   ·rw[Qf uF]at yl;have Hn:=Qh (show decide (a=b)=false from Qf fun e=>uF (by
     have h1:=qM.O;have h2:=Ia.O;subst e;rw[←h1,←h2]))
    clear uF;go_wp2_with fail
    refine wp_region_quiet_below (by kernel_rfl) (by kernel_rfl) ?_;repeat(go_big_quiet_step ((fail)))
    refine wpQuiet_nil ?_;intro w2 bq;have aL:Below (wr).heap.size (wr) w2:=by
     obtain⟨pq,rfl⟩:=bq;exact below_regrown _ _ _
    clear bq;go_wp2;go_ret;exact⟨ib Hn.O.symm,hb.trans (aL.mono hb.size)⟩
  ·have Hn:=Qh (show decide (a=b)=true from Qt (Xpw Hl.O fun i hi=>Hr.O i hi (by omega)));go_wp2;go_ret;exact⟨ib Hn.O.symm,hb⟩
theorem Xds(I:IH)(v1 v2:Value)(l:List aT)(nC:aZ bQ I v1 l)(qK:aZ bQ I v2 l)(w:World)(hw:Ok I w):
 Calls Tryz.prog 54 #[v1,v2] w fun e w'=>e= .returned (.bool true)∧Below w.heap.size w w':=by
 have hlen:=nC.bF;obtain⟨ao,cap,rfl,dO,fJ,_⟩:=id nC;obtain⟨pF,cap2,rfl,oU,qJ,_⟩:=id qK;have Ih:=Qh nC;clear nC;have Ii:=Qh qK;clear qK;go_enter Tryz.func54,Tryz.ntmps54
 go_wp2_with fail
 go_loopw [5] (fun s5 wr=> ∃k:Nat,k≤l.length∧s5= .int .i64 k∧Below w.heap.size w wr) (fun i _=>l.length-(intOf i).toNat)
 case atStart=>exact⟨0,Nat.zero_le _,rfl,Qb _ _⟩
 case round=>
  obtain⟨k,hk,rfl,hb⟩:=hrel;by_cases hlt:k<l.length
  ·have dG:Ok I wr:=hw.below (Qn _) hb;obtain⟨x,va,vx,b,off,cap',dA,cZ,⟨c0,c1,c2,c3,c4,c5,c6⟩,h1,h2⟩:=yu Ih.O dG k hlt;cases cZ;obtain⟨y,vb,vy,b',off',nQ,ky,cZ,⟨d0,d1,d2,d3,d4,d5,d6⟩,h3,h4⟩:=yu Ii.O dG k hlt;cases cZ;obtain rfl:x=y:=dA.symm.trans ky;have QB:=Qh (fun W hW=>Xmt I x x va vx vb vy h1 h2 h3 h4 W hW);rw[Qt (rfl:x=x)]at QB;obtain⟨aa,ca,rfl,_,_,_⟩:=id h1;obtain⟨ax,cx,rfl,_,_,_⟩:=id h2;obtain⟨LU,LV,rfl,_,_,_⟩:=id h3;obtain⟨LW,LX,rfl,_,_,_⟩:=id h4;have c0:=cell_regrown c0;have c1:=cell_regrown c1;have c2:=cell_regrown c2;have c3:=cell_regrown c3;have c4:=cell_regrown c4;have c5:=cell_regrown c5;have c6:=cell_regrown c6;have d0:=cell_regrown d0;have d1:=cell_regrown d1;have d2:=cell_regrown d2;have d3:=cell_regrown d3;have d4:=cell_regrown d4;have d5:=cell_regrown d5;have d6:=cell_regrown d6;clear dA ky h1 h2 h3 h4;go_wp2_with fail
   refine wp_region_quiet_below (by kernel_rfl) (by kernel_rfl) ?_;repeat(go_big_quiet_step ((with_reducible exact Calls.regrown_of (QB.O _ (dG.below (Qn _) (below_regrown _ _ _))))))
   refine wpQuiet_nil ?_;intro w2 bq;have aL:Below (wr).heap.size (wr) w2:=by
    obtain⟨pq,rfl⟩:=bq;exact below_regrown _ _ _
   clear bq;go_wp2;go_roundw;case rel=>exact⟨k+1,by omega,by go_num,hb.trans (aL.mono hb.size)⟩
   case measure=>simp[intOf];omega
  ·go_wp2;go_ret;exact⟨rfl,hb⟩
theorem Xo6(c:Ck)(W:World):(binOp .neq 156 (.agg #[S c.d,.int .i64 c.x.s,.int .i64 c.x.o,.int .i64 c.x.n]) (.agg #[S c.d,.int .i64 c.x.s,.int .i64 c.x.o,.int .i64 c.x.n])).run Tryz.prog W= .ok (.bool false) W:=by
 rw[PX _ _ [(9,0,false),(109,1,false)] W (by kernel_rfl) (by kernel_rfl) (by kernel_rfl)];have h:∀W,(Op.equalIn (9998+1) 109 (.agg #[.int .i64 c.x.s,.int .i64 c.x.o,.int .i64 c.x.n]) (.agg #[.int .i64 c.x.s,.int .i64 c.x.o,.int .i64 c.x.n])).run Tryz.prog W= .ok true W:=fun W=>by
  rw[run_equalIn_agg _ _ _ _ _ (by kernel_rfl) (by kernel_rfl),WH,show((Tryz.prog.fieldsOf 109).toList.map fun f=> (f.type,f.offset,f.name== "_"))=[(3,0,false),(3,1,false),(3,2,false)] by kernel_rfl];simp[go_sem]
 simp[go_sem,h]
theorem Xt0(I:IH)(q:fM)(v1 v2:Value)(nC:aZ qf I v1 q.aJ)(qK:aZ qf I v2 q.aJ)(w:World)(hw:Ok I w):
 Calls Tryz.prog 55 #[fH q v1,fH q v2] w fun e w'=>e= .returned (.bool true)∧Below w.heap.size w w':=by
 have hlen:=nC.bF;obtain⟨ao,cap,rfl,dO,fJ,_⟩:=id nC;obtain⟨pF,cap2,rfl,oU,qJ,_⟩:=id qK;have Ih:=Qh nC;clear nC;have Ii:=Qh qK;clear qK;have aX:Ok I ((w.alloc (.cells #[.slice ao q.aJ.length cap,.int .i64 q.aV,S q.str] 40)).alloc (.cells #[.slice pF q.aJ.length cap2,.int .i64 q.aV,S q.str] 40)):=(hw.alloc _).alloc _;go_enter Tryz.func55,Tryz.ntmps55
 go_wp2_with fail
 obtain⟨W,hW⟩:∃W,((w.alloc (.cells #[.slice ao q.aJ.length cap,.int .i64 q.aV,S q.str] 40)).alloc (.cells #[.slice pF q.aJ.length cap2,.int .i64 q.aV,S q.str] 40))=W:=⟨_,rfl⟩;have R0:W.heap[w.heap.size]?=some (.cells #[.slice ao q.aJ.length cap,.int .i64 q.aV,S q.str] 40 (0,0)):=by rw[←hW];exact(Below.heap_alloc _ _ _ (by simp)).trans (heap_alloc_new w _)
 have R1:W.heap[w.heap.size+1]?=some (.cells #[.slice pF q.aJ.length cap2,.int .i64 q.aV,S q.str] 40 (0,0)):=by
  rw[←hW];have h:=heap_alloc_new (w.alloc (.cells #[.slice ao q.aJ.length cap,.int .i64 q.aV,S q.str] 40)) (.cells #[.slice pF q.aJ.length cap2,.int .i64 q.aV,S q.str] 40);rwa[World.size_alloc]at h
 have gV:Below w.heap.size w W:=by rw[←hW];exact((Qb _ _).alloc (Qn _) _).alloc (by simp) _
 rw[hW]at aX;have hsW:W.heap.size=w.heap.size+2:=by rw[←hW];simp
 have H0:=Qh (cell_of_row W w.heap.size 0 _ _ _ R0);have H1:=Qh (cell_of_row W (w.heap.size+1) 0 _ _ _ R1);change Code.wp _ _ _ _ ((w.alloc (.cells #[.slice ao q.aJ.length cap,.int .i64 q.aV,S q.str] 40)).alloc (.cells #[.slice pF q.aJ.length cap2,.int .i64 q.aV,S q.str] 40));rw[hW];clear hW R0 R1;go_loopw [5] (fun s5 wr=> ∃k:Nat,k≤q.aJ.length∧s5= .int .i64 k∧Below W.heap.size W wr) (fun i _=>q.aJ.length-(intOf i).toNat)
 case atStart=>exact⟨0,Nat.zero_le _,rfl,Qb _ _⟩
 case round=>
  obtain⟨k,hk,rfl,hb⟩:=hrel;have z0:wr.cell? ⟨w.heap.size,0,none⟩=some (.slice ao q.aJ.length cap):=(hb.cell (by show w.heap.size<_;omega)).trans (H0.O.trans rfl);have z1:wr.cell? ⟨w.heap.size+1,0,none⟩=some (.slice pF q.aJ.length cap2):=(hb.cell (by show w.heap.size+1<_;omega)).trans (H1.O.trans rfl);have cu:=gV.trans (hb.mono gV.size);by_cases hlt:k<q.aJ.length
  ·have dG:Ok I wr:=aX.below (Qn _) hb;obtain⟨x,b,off,cap',dA,cZ,c0,c1,c2,c3⟩:=IJ Ih.O dG k hlt;cases cZ;obtain⟨y,b',off',nQ,ky,cZ,d0,d1,d2,d3⟩:=IJ Ii.O dG k hlt;cases cZ;obtain rfl:x=y:=dA.symm.trans ky;have yl:=Xo6 x;clear dA ky;go_wp2_with fail
   have z0:=cell_regrown z0;have z1:=cell_regrown z1;have c0:=cell_regrown c0;have c1:=cell_regrown c1;have c2:=cell_regrown c2;have c3:=cell_regrown c3;have d0:=cell_regrown d0;have d1:=cell_regrown d1;have d2:=cell_regrown d2;have d3:=cell_regrown d3;refine wp_region_quiet_below (by kernel_rfl) (by kernel_rfl) ?_;repeat(go_big_quiet_step ((fail)))
   refine wpQuiet_nil ?_;intro w2 bq;have aL:Below (wr).heap.size (wr) w2:=by
    obtain⟨pq,rfl⟩:=bq;exact below_regrown _ _ _
   clear bq;go_wp2;go_roundw;case rel=>exact⟨k+1,by omega,by go_num,hb.trans (aL.mono hb.size)⟩
   case measure=>simp[intOf];omega
  ·go_wp2;go_ret;exact⟨rfl,cu⟩
