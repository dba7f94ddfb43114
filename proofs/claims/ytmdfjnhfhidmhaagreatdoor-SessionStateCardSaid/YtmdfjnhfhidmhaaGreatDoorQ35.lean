/- Lemmas for the claim's theorem;conditions: as each says. -/
import Derived.Test.YtmdfjnhfhidmhaaGreatDoorQ34
set_option maxHeartbeats 0
set_option maxRecDepth 100000
set_option linter.all false
namespace Go.Proofs.YtmdfjnhfhidmhaaGreatDoor
open Go.RowKit
theorem Xmd{a b:List Ho}(hl:a.length=b.length)(h:∀i (hi:i<a.length),a[i]=b[i]'(by omega)):a=b:=List.ext_getElem hl fun i h1 _=>h i h1
theorem Xl2(a b:Ho)(W:World):(binOp .neq 148 (.agg #[S a.p,.int .i64 a.u]) (.agg #[S b.p,.int .i64 b.u])).run Tryz.prog W= .ok (.bool (!decide (a=b))) W:=by
 rw[Pv _ _ [(9,0,false),(3,1,false)] W (by kernel_rfl) (by kernel_rfl) (by kernel_rfl)];obtain⟨a1,a2⟩:=a;obtain⟨b1,b2⟩:=b;simp[go_sem];by_cases h1:a1=b1<;>by_cases h2:a2=b2<;>simp[h1,h2]<;>omega
theorem Xl6(I:IH)(va vb:Value)(a b:List Ho)(gW:aY jh I va a)(kR:aY jh I vb b)(w:World)(hw:Ok I w):
 Calls Tryz.prog 41 #[va,vb] w fun e w'=>e= .returned (.bool (decide (a=b)))∧Below w.heap.size w w':=by
 have hla:=gW.bK;have hlb:=kR.bK;obtain⟨ao,ca,rfl,_,_,_⟩:=id gW;obtain⟨bo,cb,rfl,_,_,_⟩:=id kR;have Ha:=Qh gW;have Hb:=Qh kR;clear gW kR;by_cases hl:a.length=b.length;case neg=>
  have q1:((a.length:Int) !=b.length)=true:=by simpa using(show(a.length:Int)≠b.length by omega)
  have q2:((a.length:Int)==b.length)=false:=by simpa using(show(a.length:Int)≠b.length by omega)
  have Hn:=Qh (show decide (a=b)=false from Qf fun e=>hl (by rw[e]));clear hl;go_enter Tryz.func41,Tryz.ntmps41
  go_wp2;go_ret;exact⟨iG Hn.q.symm,Qb _ _⟩
 have q1:((a.length:Int) !=b.length)=false:=by rw[hl];simp
 have q2:((a.length:Int)==b.length)=true:=by rw[hl];simp
 have Hl:=Qh hl;have sS:a.length≤b.length:=by omega
 clear hl;go_enter Tryz.func41,Tryz.ntmps41
 go_wp2_with fail
 go_loopw [5] (fun s5 wr=> ∃k:Nat,k≤a.length∧s5= .int .i64 k∧(∀i (hi:i<a.length),i<k→a[i]=b[i]'(by have:=Hl.q;omega))∧Below w.heap.size w wr) (fun i _=>a.length-(intOf i).toNat)
 case atStart=>exact⟨0,Nat.zero_le _,rfl,fun i _ h=>absurd h (by omega),Qb _ _⟩
 case round=>
  obtain⟨k,hk,rfl,hr,hb⟩:=hrel;have Hr:=Qh hr;clear hr;have gZ:Ok I wr:=hw.below (Qn _) hb;by_cases hlt:k<a.length
  ·have kK:k<b.length:=by omega
   obtain⟨x,b1,aiE,TS,dz,dC,c0,c1⟩:=yZ Ha.q gZ k hlt;cases dC;obtain⟨y,b2,mM,cap2,jJ,dC,d0,d1⟩:=yZ Hb.q gZ k kK;cases dC;have g0:=cell_regrown c0;have g1:=cell_regrown c1;have g2:=cell_regrown d0;have g3:=cell_regrown d1;have i1:(k:Int)<a.length:=by omega
   have i2:(k:Int)<b.length:=by omega
   have nP:=Qh dz;have Nn:=Qh jJ;clear dz jJ;have uO:=Xl2 x y;by_cases qJ:x=y
   ·rw[Qt qJ]at uO;have Hn:=Qh (show ∀i (hi:i<a.length),i<k+1→a[i]=b[i]'(by have:=Hl.q;omega)from fun i hi h=>by
     by_cases hik:i<k
     ·exact Hr.q i hi hik
     ·have:i=k:=by omega
      subst this;rw[nP.q,Nn.q,qJ])
    clear qJ;go_wp2_with fail
    refine wp_region_quiet_below (by kernel_rfl) (by kernel_rfl) ?_;repeat(go_big_quiet_step ((fail)))
    refine wpQuiet_nil ?_;intro w2 dD;have aP:Below (wr).heap.size (wr) w2:=by
     obtain⟨pq,rfl⟩:=dD;exact below_regrown _ _ _
    clear dD;go_wp2;go_roundw;case rel=>exact⟨k+1,by omega,by go_num,Hn.q,hb.trans (aP.mono hb.size)⟩
    case measure=>simp[intOf];omega
   ·rw[Qf qJ]at uO;have Hn:=Qh (show decide (a=b)=false from Qf fun e=>qJ (by
     have h1:=nP.q;have h2:=Nn.q;subst e;rw[←h1,←h2]))
    clear qJ;go_wp2_with fail
    refine wp_region_quiet_below (by kernel_rfl) (by kernel_rfl) ?_;repeat(go_big_quiet_step ((fail)))
    refine wpQuiet_nil ?_;intro w2 dD;have aP:Below (wr).heap.size (wr) w2:=by
     obtain⟨pq,rfl⟩:=dD;exact below_regrown _ _ _
    clear dD;go_wp2;go_ret;exact⟨iG Hn.q.symm,hb.trans (aP.mono hb.size)⟩
  ·have Hn:=Qh (show decide (a=b)=true from Qt (Xmd Hl.q fun i hi=>Hr.q i hi (by omega)));go_wp2;go_ret;exact⟨iG Hn.q.symm,hb⟩
