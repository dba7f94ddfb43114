/-
  Walks and laws that the claim's theorem uses: texts NrC NrD NrE EdF EdG, joined; comments out. Conditions: as each theorem says.
-/
import Derived.Test.YtdodihnehppnmaaGreatDoorCI15
set_option linter.all false
namespace Go.Proofs.YtdodihnehppnmaaGreatDoor
open Go.RowKit
def idxR (s:Bytes) (a:Nat) (c:UInt8):Int:=if a+(upTo s a c).length<s.length then ((a+(upTo s a c).length:Nat):Int) else -1
def CleanP (s:Bytes) (a k:Nat) (c:UInt8):Prop:= ∀x∈(s.drop a).take (k-a),x≠c
theorem Xm5 (s:Bytes) (a:Nat) (c:UInt8):CleanP s a a c:=by
 unfold CleanP
 rw [Nat.sub_self,List.take_zero]
 intro x hx
 cases hx
theorem Xpc {s:Bytes} {a k:Nat} {c:UInt8} (hk:a≤k) (hl:k<s.length) (h:CleanP s a k c) (hc:s.getD k 0≠c):CleanP s a (k+1) c:=by
 unfold CleanP at*
 rw [show k+1-a=k-a+1 by omega,List.take_succ_eq_append_getElem (by rw [List.length_drop];omega)]
 intro x hx
 rcases List.mem_append.1 hx with hx|hx
 ·exact h x hx
 ·rw [List.mem_singleton,List.getElem_drop] at hx
  rw [hx]
  intro e
  apply hc
  rw [List.getD_eq_getElem?_getD,List.getElem?_eq_getElem hl]
  simp only [show a+(k-a)=k by omega] at e
  simpa using e
theorem Xr8 {s:Bytes} {a k:Nat} {c:UInt8} (hk:a≤k) (hl:k<s.length) (h:CleanP s a k c) (hc:s.getD k 0=c):(upTo s a c).length=k-a:=by
 have e:s.drop a=(s.drop a).take (k-a)++c::s.drop (k+1):=by
  have h1:(s.drop a).drop (k-a)=c::s.drop (k+1):=by
   rw [List.drop_drop,show a+(k-a)=k by omega,List.drop_eq_getElem_cons hl]
   congr 1
   rw [List.getD_eq_getElem?_getD,List.getElem?_eq_getElem hl] at hc
   simpa using hc
  rw [←h1,List.take_append_drop]
 unfold upTo
 rw [e,Xdf h,List.length_take,List.length_drop]
 omega
theorem Xpi {s:Bytes} {a:Nat} {c:UInt8} (h:CleanP s a s.length c):(upTo s a c).length=s.length-a:=by
 unfold CleanP at h
 rw [List.take_of_length_le (by simp)] at h
 unfold upTo
 rw [←List.length_drop]
 congr 1
 generalize s.drop a=l at h
 induction l with
 |nil=>rfl
 |cons x l ih=>
  rw [List.takeWhile_cons,if_pos (by simpa using h x (by simp)),ih fun y hy=>h y (by simp [hy])]
set_option maxRecDepth 100000 in
set_option maxHeartbeats 1000000 in
theorem Xg8 (s:Bytes) (hs:s.length≤4294967280) (a:Nat) (ha:a≤s.length) (c:UInt8) (w:World):
 Calls Tryz.prog 106 #[S s,.int .i64 a,.int .u8 (c.toNat:Int)] w fun e w'=>e= .returned (.int .i64 (idxR s a c))∧Below w.heap.size w w':=by
 have H0:=Qh (Xm5 s a c)
 go_enter Tryz.func106,Tryz.ntmps106
 go_wp2_with fail
 go_loopw [7] (fun s7 wr=> ∃k:Nat,a≤k∧k≤s.length∧s7= .int .i64 k∧CleanP s a k c∧Below w.heap.size w wr) (fun i _=>s.length-(intOf i).toNat)
 case atStart=>exact ⟨a,Qn _,ha,rfl,H0.out,Qb _ _⟩
 case round=>
  clear H0
  obtain ⟨k,hak,hk,rfl,hcl,hb⟩:=hrel
  have Hcl:=Qh hcl
  clear hcl
  by_cases hlt:k<s.length
  ·have hx:=run_at (P:=Tryz.prog) Tryz.underlying9 s (k:Int) k rfl hlt
   by_cases hc:s.getD k 0=c
   ·have Hn:=Qh (show idxR s a c=(k:Int) by unfold idxR;rw [Xr8 hak hlt Hcl.out hc,if_pos (by omega)];omega)
    have k1:(((s.getD k 0).toNat:Int)==(c.toNat:Int))=true:=by rw [hc];simp
    clear hc
    generalize (s.getD k 0).toNat=d at hx k1
    generalize c.toNat=c2 at*
    go_wp2
    go_ret
    exact ⟨Xaf Hn.out.symm,hb⟩
   ·have Hst:=Qh (Xpc hak hlt Hcl.out hc)
    have k1:(((s.getD k 0).toNat:Int)==(c.toNat:Int))=false:=by
     have:((s.getD k 0).toNat:Int)≠(c.toNat:Int):=fun e=>hc (UInt8.toNat_inj.1 (by omega))
     simpa using this
    clear hc
    generalize (s.getD k 0).toNat=d at hx k1
    generalize c.toNat=c2 at*
    go_wp2
    go_roundw
    case rel=>exact ⟨k+1,by omega,by omega,by go_num,Hst.out,hb⟩
    case measure=>simp [intOf];omega
  ·have he:k=s.length:=by omega
   subst he
   have Hn:=Qh (show idxR s a c= -1 by unfold idxR;rw [Xpi Hcl.out,if_neg (by omega)])
   go_wp2
   go_ret
   exact ⟨Xaf Hn.out.symm,hb⟩
theorem Xpt (N d:Nat):satN (10*satN N+d)=satN (10*N+d):=by
 unfold satN
 repeat' split
 all_goals omega
theorem Xi3 (N:Nat):satN N≤1099511627776:=by unfold satN;split<;>omega
theorem Xss {t:Bytes} (h0:t≠ []) (h1:t.all digC=true) (h2:¬(1<t.length∧t.getD 0 0=48)):natOk t=true:=by
 unfold natOk
 rw [h1]
 cases t with
 |nil=>exact absurd rfl h0
 |cons c r=>
  by_cases hl:r= []
  ·subst hl;rfl
  ·have:0<r.length:=List.length_pos_iff.2 hl
   have hc:c≠48:=fun e=>h2 ⟨by simp;omega,e⟩
   simp [hc]
def decR (t:Bytes):Int:=if natOk t=true then ((satN (digN 0 t):Nat):Int) else 0
set_option maxRecDepth 100000 in
set_option maxHeartbeats 1000000 in
theorem Xdl (t:Bytes) (hs:t.length≤4294967280) (w:World):
 Calls Tryz.prog 107 #[S t] w fun e w'=>e= .returned (.tuple #[.int .i64 (decR t),.bool (natOk t)])∧Below w.heap.size w w':=by
 have Hd:=Qh (show decR t=if natOk t=true then ((satN (digN 0 t):Nat):Int) else 0 from rfl)
 by_cases h0:t= []
 ·have Hn:=Qh (show natOk t=false by rw [h0];rfl)
  rw [Hn.out] at Hd
  obtain ⟨p1,p2,p3,p4⟩:=Xdy h0
  clear h0
  go_enter Tryz.func107,Tryz.ntmps107
  go_wp2
  go_ret2
  rw [Hn.out,Hd.out]
  exact ⟨rfl,Qb _ _⟩
 obtain ⟨p1,p2,p3,p4⟩:=Xcr h0
 have hlen:=List.length_pos_iff.2 h0
 have hx0:=run_at (P:=Tryz.prog) Tryz.underlying9 t 0 0 rfl hlen
 by_cases h1:1<t.length∧t.getD 0 0=48
 ·have Hn:=Qh (show natOk t=false by
   unfold natOk
   cases t with
   |nil=>exact absurd rfl h0
   |cons c r=>
    have hc:c=48:=h1.2
    have hl:=h1.1
    rw [List.length_cons] at hl
    have hr:r≠ []:=by intro e;rw [e] at hl;simp at hl
    subst hc
    simp [hr])
  rw [Hn.out] at Hd
  have k0:decide (1<(t.length:Int))=true:=Qt (by omega)
  have k0':decide (1<t.length)=true:=Qt h1.1
  have k1:(((t.getD 0 0).toNat:Int)==48)=true:=by rw [h1.2];rfl
  clear h1 h0
  generalize (t.getD 0 0).toNat=d at hx0 k1
  go_enter Tryz.func107,Tryz.ntmps107
  go_wp2
  go_ret2
  rw [Hn.out,Hd.out]
  exact ⟨rfl,Qb _ _⟩
 have Hno:=Qh h1
 have Hne:=Qh h0
 have hcase:(decide (1<t.length)=false)∨(decide (1<t.length)=true∧(((t.getD 0 0).toNat:Int)==48)=false):=by
  by_cases hl:1<t.length
  ·right
   refine ⟨Qt hl,?_⟩
   have:((t.getD 0 0).toNat:Int)≠48:=fun e=>h1 ⟨hl,UInt8.toNat_inj.1 (by have:(48:UInt8).toNat=48:=rfl;omega)⟩
   simpa using this
  ·exact .inl (Qf hl)
 clear h1 h0
 generalize (t.getD 0 0).toNat=d0 at hx0 hcase
 have hcase2:(decide ((1:Int)<(t.length:Int))=false∧decide (1<t.length)=false)∨(decide ((1:Int)<(t.length:Int))=true∧decide (1<t.length)=true∧((d0:Int)==48)=false):=by
  rcases hcase with h|⟨h,h'⟩
  ·left
   have h2:=of_decide_eq_false h
   exact ⟨Qf (by omega),h⟩
  ·right
   have h2:=of_decide_eq_true h
   exact ⟨Qt (by omega),h,h'⟩
 clear hcase
 rcases hcase2 with ⟨k0,k0'⟩|⟨k0,k0',k1⟩
 all_goals
  go_enter Tryz.func107,Tryz.ntmps107
  go_wp2_with fail
  go_loopw [4,5] (fun s4 s5 wr=> ∃k:Nat,k≤t.length∧s5= .int .i64 k∧s4= .int .i64 ((satN (digN 0 (t.take k)):Nat):Int)∧(t.take k).all digC=true∧Below w.heap.size w wr) (fun _ i _=>t.length-(intOf i).toNat)
  case atStart=>exact ⟨0,Nat.zero_le _,rfl,rfl,rfl,Qb _ _⟩
  case round=>
   clear k0 k0' hx0
   obtain ⟨k,hk,rfl,rfl,hall,hb⟩:=hrel
   by_cases hlt:k<t.length
   ·have hx:=run_at (P:=Tryz.prog) Tryz.underlying9 t (k:Int) k rfl hlt
    have Htk:=Qh (show t.take (k+1)=t.take k++ [t.getD k 0] by
     rw [List.take_succ_eq_append_getElem hlt]
     congr 2
     rw [List.getD_eq_getElem?_getD,List.getElem?_eq_getElem hlt]
     rfl)
    have Hall:=Qh hall
    clear hall
    by_cases hc:digC (t.getD k 0)=true
    ·have hbd:=Xc0 hc
     have Hst:=Qh (show (t.take (k+1)).all digC=true by rw [Htk.out,List.all_append,Hall.out];simpa using hc)
     have Hsn:=Qh (show satN (digN 0 (t.take (k+1)))=satN (10*satN (digN 0 (t.take k))+((t.getD k 0).toNat-48)) by rw [Htk.out,Xhy,Xpt])
     have hle:=Xi3 (digN 0 (t.take k))
     clear hc Htk
     generalize satN (digN 0 (t.take k))=N at*
     generalize (t.getD k 0).toNat=c at hx hbd Hsn
     obtain ⟨u,rfl⟩:∃u,c=u+48:=⟨c-48,by omega⟩
     rw [Nat.add_sub_cancel] at Hsn
     have k1:decide (((u+48:Nat):Int)<48)=false:=Qf (by omega)
     have k2:decide ((57:Int)<((u+48:Nat):Int))=false:=Qf (by omega)
     have i1:IntKind.u8.wrap (((u+48:Nat):Int)-48)=(u:Int):=by
      rw [show ((u+48:Nat):Int)-48=u by omega]
      exact IntWalk.u8_in _ (by omega)
     have i2:IntKind.i64.wrap (10*(N:Int))=10*(N:Int):=IntWalk.i64_in _ (by omega)
     have i3:IntKind.i64.wrap (u:Int)=(u:Int):=IntWalk.i64_in _ (by omega)
     have i4:IntKind.i64.wrap (10*(N:Int)+(u:Int))=10*(N:Int)+u:=IntWalk.i64_in _ (by omega)
     by_cases h40:1099511627776<10*N+u
     ·have k3:decide ((1099511627776:Int)<10*(N:Int)+(u:Int))=true:=Qt (by omega)
      have Hs2:=Qh (show ((satN (digN 0 (t.take (k+1))):Nat):Int)=1099511627776 by rw [Hsn.out];unfold satN;rw [if_pos h40];rfl)
      clear h40
      go_wp2
      go_roundw
      case rel=>exact ⟨k+1,by omega,by go_num,by rw [Hs2.out],Hst.out,hb⟩
      case measure=>simp [intOf];omega
     ·have k3:decide ((1099511627776:Int)<10*(N:Int)+(u:Int))=false:=Qf (by omega)
      have Hs2:=Qh (show ((satN (digN 0 (t.take (k+1))):Nat):Int)=10*(N:Int)+u by rw [Hsn.out];unfold satN;rw [if_neg h40];omega)
      clear h40
      go_wp2
      go_roundw
      case rel=>exact ⟨k+1,by omega,by go_num,by rw [Hs2.out],Hst.out,hb⟩
      case measure=>simp [intOf];omega
    ·have Hn:=Qh (show natOk t=false by
      unfold natOk
      have:t.all digC=false:=by
       have h2:digC (t.getD k 0)=false:=by simpa using hc
       have h3:t=t.take (k+1)++t.drop (k+1):=(List.take_append_drop _ _).symm
       have h4:∀(A B:Bytes) (d:UInt8),digC d=false→((A++ [d])++B).all digC=false:=fun A B d h=>by
        rw [List.all_append,List.all_append,List.all_cons,h]
        simp
       rw [h3,Htk.out]
       exact h4 _ _ _ h2
      rw [this]
      simp)
     rw [Hn.out] at Hd
     have hbd:(t.getD k 0).toNat<48∨57<(t.getD k 0).toNat:=by
      rw [Xem] at hc
      simp only [Bool.and_eq_true,decide_eq_true_iff] at hc
      omega
     clear hc Htk
     generalize satN (digN 0 (t.take k))=N at*
     generalize (t.getD k 0).toNat=c at hx hbd
     by_cases h48:c<48
     ·have k1:decide ((c:Int)<48)=true:=Qt (by omega)
      clear hbd h48
      go_wp2
      go_ret2
      rw [Hn.out,Hd.out]
      exact ⟨rfl,hb⟩
     ·have k1:decide ((c:Int)<48)=false:=Qf (by omega)
      have k2:decide ((57:Int)<(c:Int))=true:=Qt (by omega)
      clear hbd h48
      go_wp2
      go_ret2
      rw [Hn.out,Hd.out]
      exact ⟨rfl,hb⟩
   ·have he:k=t.length:=by omega
    subst he
    rw [List.take_length] at hall
    have Hn:=Qh (Xss Hne.out hall Hno.out)
    rw [Hn.out] at Hd
    rw [List.take_length]
    clear hall
    generalize satN (digN 0 t)=N at*
    go_wp2
    go_ret2
    rw [Hn.out,Hd.out]
    exact ⟨rfl,hb⟩
theorem Xny {s:Bytes} {a:Nat} {c:UInt8} (h:a≤s.length) (hu:∀p,rdUntil s a c≠ .ok p):idxR s a c= -1∧rdUntil s a c= .error 4:=by
 unfold rdUntil at*
 rw [if_neg (by omega)] at*
 unfold idxR
 split at hu
 ·exact absurd rfl (hu _)
 ·rename_i k
  exact ⟨if_neg k,if_neg k⟩
theorem Xqr {s t:Bytes} {a n:Nat} {c:UInt8} (hu:rdUntil s a c= .ok (t,n)):idxR s a c=((a+t.length:Nat):Int)∧n=a+t.length+1∧a+t.length<s.length∧(s.drop a).take t.length=t:=by
 obtain ⟨h1,h2,h3,h4,h5⟩:=Xb0 hu
 refine ⟨?_,h5,by omega,?_⟩
 ·unfold idxR
  rw [←h4,if_pos (by omega)]
 ·rw [h4]
  exact Xfq c _
theorem Xps (N:Nat):satN N=0↔N=0:=by unfold satN;split<;>omega
set_option maxRecDepth 100000 in
set_option maxHeartbeats 2000000 in
theorem Xdx (s:Bytes) (hs:s.length≤4294967280) (a:Nat) (ha:a≤9223372036854775807) (w:World):
 Calls Tryz.prog 55 #[S s,.int .i64 a] w fun e w'=>e= .returned (nV (rdNum s a))∧Below w.heap.size w w':=by
 by_cases h1:s.length<a
 ·have Hn:=Qh (show rdNum s a= .error 1 by unfold rdNum rdUntil;rw [if_pos h1];rfl)
  go_enter Tryz.func55,Tryz.ntmps55
  go_wp2
  go_ret3
  rw [Hn.out]
  exact ⟨rfl,Qb _ _⟩
 have hle:a≤s.length:=by omega
 have Hx:=Qh (show Calls Tryz.prog 106 #[S s,.int .i64 a,.int .u8 32] w fun e w'=>e= .returned (.int .i64 (idxR s a 32))∧Below w.heap.size w w' from Xg8 s hs a hle 32 w)
 have Hr:=Qh (show rdNum s a=Rb (rdUntil s a 32) fun p=>numOf p.1 p.2 from rfl)
 have d0:decide ((s.length:Int)<(a:Int))=false:=Qf (by omega)
 have d1:decide ((a:Int)<0)=false:=Qf (by omega)
 cases hu:rdUntil s a 32 with
 |error x=>
  obtain ⟨e1,e2⟩:=Xny hle (fun p h=>by rw [hu] at h;cases h)
  rw [e1] at Hx
  have Hn:=Qh (show rdNum s a= .error 4 by rw [Hr.out,e2];rfl)
  clear hu h1 e1 e2
  go_enter Tryz.func55,Tryz.ntmps55
  go_wp2_with fail
  refine Hx.out.mono ?_
  rintro e w1 ⟨rfl,hb1⟩
  go_wp2
  go_ret3
  rw [Hn.out]
  exact ⟨rfl,hb1⟩
 |ok p=>
  obtain ⟨t,n⟩:=p
  rw [hu] at Hr
  have hio:=Xqr hu
  rw [hio.1] at Hx
  have hn:=hio.2.1
  have htl:=hio.2.2.1
  have Htk:=Qh hio.2.2.2
  clear hio hu h1
  have htk2:(s.drop a).take (a+t.length-a)=t:=by rw [show a+t.length-a=t.length by omega];exact Htk.out
  have htk1:(s.drop a).take t.length=t:=Htk.out
  have Hvv:=Qh (show rdNum s a=if decOkT t=false then .error 3 else if valT t< -2147483648∨2147483647<valT t then .error 2 else .ok (valT t,n) by rw [Hr.out,Rb_ok,numOf])
  have i5:IntKind.i64.wrap (((a+t.length:Nat):Int)+1)=((a+t.length:Nat):Int)+1:=IntWalk.i64_in _ (by omega)
  have i6:decide (((a+t.length:Nat):Int)<0)=false:=Qf (by omega)
  have hnn:((a+t.length:Nat):Int)+1=n:=by omega
  cases hneg:negT t with
  |true=>
   have hne:t≠ []:=by intro e;subst e;cases hneg
   have hlen:=List.length_pos_iff.2 hne
   obtain ⟨p1,p2,p3,p4⟩:=Xcr hne
   have hx0:=run_at (P:=Tryz.prog) Tryz.underlying9 t 0 0 rfl hlen
   have k1:=(Xql hne).symm
   rw [hneg] at k1
   have hm:magT t=t.tail.take (t.length-1):=by
    unfold magT
    rw [hneg,if_pos rfl,List.take_of_length_le (by simp)]
   have Hd:=Qh (Xdl (magT t) (by have:=Xt8 t;omega))
   have Hdo:=Qh (show decOkT t=(natOk (magT t)&& !(digN 0 (magT t)==0)) by unfold decOkT;rw [hneg];simp)
   have Hval:=Qh (show valT t= -(digN 0 (magT t):Int) by unfold valT;rw [hneg];rfl)
   have HdR:=Qh (show decR (magT t)=if natOk (magT t)=true then ((satN (digN 0 (magT t)):Nat):Int) else 0 from rfl)
   rw [hm] at Hd Hdo Hval HdR
   have i7:(1:Int)≤t.length:=by omega
   clear hne hneg hm Hr
   generalize (t.getD 0 0).toNat=c at hx0 k1
   cases hok:natOk (t.tail.take (t.length-1)) with
   |false=>
    rw [hok] at Hd
    have Hn:=Qh (show rdNum s a= .error 3 by rw [Hvv.out,Hdo.out,hok];rfl)
    clear hok
    generalize decR (t.tail.take (t.length-1))=z at Hd
    go_enter Tryz.func55,Tryz.ntmps55
    go_wp2_with fail
    refine Hx.out.mono ?_
    rintro e w1 ⟨rfl,hb1⟩
    go_wp2_with fail
    skip
    refine (Hd.out _).mono ?_
    rintro e w2 ⟨rfl,hb2⟩
    have hb12:=hb1.trans (hb2.mono hb1.size)
    go_wp2
    go_ret3
    rw [Hn.out]
    exact ⟨rfl,hb12⟩
   |true=>
    rw [hok] at Hd HdR Hdo
    rw [if_pos rfl] at HdR
    rw [HdR.out] at Hd
    generalize digN 0 (t.tail.take (t.length-1))=M at*
    clear hok HdR
    by_cases hM:M=0
    ·subst hM
     have Hn:=Qh (show rdNum s a= .error 3 by rw [Hvv.out,Hdo.out];rfl)
     have Hd:=Qh (show ∀w:World,Calls Tryz.prog 107 #[S (t.tail.take (t.length-1))] w fun e w'=>e= .returned (.tuple #[.int .i64 0,.bool true])∧Below w.heap.size w w' from Hd.out)
     go_enter Tryz.func55,Tryz.ntmps55
     go_wp2_with fail
     refine Hx.out.mono ?_
     rintro e w1 ⟨rfl,hb1⟩
     go_wp2_with fail
     skip
     refine (Hd.out _).mono ?_
     rintro e w2 ⟨rfl,hb2⟩
     have hb12:=hb1.trans (hb2.mono hb1.size)
     go_wp2
     go_ret3
     rw [Hn.out]
     exact ⟨rfl,hb12⟩
    ·have Hn1:=Qh (show rdNum s a=if -(M:Int)< -2147483648∨2147483647< -(M:Int) then .error 2 else .ok (-(M:Int),n) by
      have:(M==0)=false:=by simpa using hM
      rw [Hvv.out,Hdo.out,Hval.out,this]
      rfl)
     have hz:satN M≠0:=fun e=>hM ((Xps M).1 e)
     have hle:=Xi3 M
     have hs2:satN M=if 1099511627776<M then 1099511627776 else M:=rfl
     by_cases hb:2147483648<M
     ·have Hn:=Qh (show rdNum s a= .error 2 by rw [Hn1.out,if_pos (by omega)])
      have hbz:2147483648<satN M:=by rw [hs2];split<;>omega
      clear hb hs2 hM Hval Hdo Hvv
      generalize satN M=z at*
      have d2:decide (-(z:Int)< -2147483648)=true:=Qt (by omega)
      have k3:((z:Int)==0)=false:=by simpa using hz
      have i8:IntKind.i64.wrap (-1*(z:Int))= -(z:Int):=by rw [IntWalk.i64_in _ (by omega)];omega
      go_enter Tryz.func55,Tryz.ntmps55
      go_wp2_with fail
      refine Hx.out.mono ?_
      rintro e w1 ⟨rfl,hb1⟩
      go_wp2_with fail
      skip
      refine (Hd.out _).mono ?_
      rintro e w2 ⟨rfl,hb2⟩
      have hb12:=hb1.trans (hb2.mono hb1.size)
      go_wp2
      go_ret3
      rw [Hn.out]
      exact ⟨rfl,hb12⟩
     ·have hsz:satN M=M:=by rw [hs2,if_neg (by omega)]
      rw [hsz] at Hd hz
      have Hn:=Qh (show rdNum s a= .ok (-(M:Int),n) by rw [Hn1.out,if_neg (by omega)])
      have d2:decide (-(M:Int)< -2147483648)=false:=Qf (by omega)
      have d3:decide ((2147483647:Int)< -(M:Int))=false:=Qf (by omega)
      have k3:((M:Int)==0)=false:=by simpa using hz
      have i8:IntKind.i64.wrap (-1*(M:Int))= -(M:Int):=by rw [IntWalk.i64_in _ (by omega)];omega
      clear hs2 hsz Hval Hdo Hvv Hn1 hle
      go_enter Tryz.func55,Tryz.ntmps55
      go_wp2_with fail
      refine Hx.out.mono ?_
      rintro e w1 ⟨rfl,hb1⟩
      go_wp2_with fail
      skip
      refine (Hd.out _).mono ?_
      rintro e w2 ⟨rfl,hb2⟩
      have hb12:=hb1.trans (hb2.mono hb1.size)
      go_wp2
      go_ret3
      rw [Hn.out]
      exact ⟨Xuv rfl hnn,hb12⟩
  |false=>
   have hm:magT t=t:=by unfold magT;rw [hneg];rfl
   have Hd:=Qh (Xdl t (by omega))
   have Hdo:=Qh (show decOkT t=natOk t by rw [Xdd,hneg];simp)
   have Hval:=Qh (show valT t=(digN 0 t:Int) by unfold valT magT;rw [hneg];rfl)
   have HdR:=Qh (show decR t=if natOk t=true then ((satN (digN 0 t):Nat):Int) else 0 from rfl)
   have hcase:((t== [])=true∧t.isEmpty=true∧(!t.isEmpty)=false∧(t != [])=false)∨(((t== [])=false∧t.isEmpty=false∧(!t.isEmpty)=true∧(t != [])=true)∧0<t.length∧(((t.getD 0 0).toNat:Int)==45)=false):=by
    by_cases hne:t= []
    ·exact .inl (Xdy hne)
    ·exact .inr ⟨Xcr hne,List.length_pos_iff.2 hne,by rw [←Xql hne,hneg]⟩
   clear hneg hm Hr
   rcases hcase with ⟨p1,p2,p3,p4⟩|⟨⟨p1,p2,p3,p4⟩,hlen,k1⟩
   case inl=>
    have Hn:=Qh (show rdNum s a= .error 3 by rw [Hvv.out,Hdo.out,show t= [] by simpa using p2];rfl)
    have hok:natOk t=false:=by rw [show t= [] by simpa using p2];rfl
    rw [hok] at Hd
    clear hok Hdo Hval HdR
    generalize decR t=z at Hd
    go_enter Tryz.func55,Tryz.ntmps55
    go_wp2_with fail
    refine Hx.out.mono ?_
    rintro e w1 ⟨rfl,hb1⟩
    go_wp2_with fail
    skip
    refine (Hd.out _).mono ?_
    rintro e w2 ⟨rfl,hb2⟩
    have hb12:=hb1.trans (hb2.mono hb1.size)
    go_wp2
    go_ret3
    rw [Hn.out]
    exact ⟨rfl,hb12⟩
   have hx0:=run_at (P:=Tryz.prog) Tryz.underlying9 t 0 0 rfl hlen
   have i7:(1:Int)≤t.length:=by omega
   generalize (t.getD 0 0).toNat=c at hx0 k1
   cases hok:natOk t with
   |false=>
    rw [hok] at Hd
    have Hn:=Qh (show rdNum s a= .error 3 by rw [Hvv.out,Hdo.out,hok];rfl)
    clear hok
    generalize decR t=z at Hd
    go_enter Tryz.func55,Tryz.ntmps55
    go_wp2_with fail
    refine Hx.out.mono ?_
    rintro e w1 ⟨rfl,hb1⟩
    go_wp2_with fail
    skip
    refine (Hd.out _).mono ?_
    rintro e w2 ⟨rfl,hb2⟩
    have hb12:=hb1.trans (hb2.mono hb1.size)
    go_wp2
    go_ret3
    rw [Hn.out]
    exact ⟨rfl,hb12⟩
   |true=>
    rw [hok] at Hd HdR Hdo
    rw [if_pos rfl] at HdR
    rw [HdR.out] at Hd
    generalize digN 0 t=M at*
    clear hok HdR
    have Hn1:=Qh (show rdNum s a=if (M:Int)< -2147483648∨2147483647<(M:Int) then .error 2 else .ok ((M:Int),n) by
     rw [Hvv.out,Hdo.out,Hval.out]
     rfl)
    have hle:=Xi3 M
    have hs2:satN M=if 1099511627776<M then 1099511627776 else M:=rfl
    by_cases hb:2147483647<M
    ·have Hn:=Qh (show rdNum s a= .error 2 by rw [Hn1.out,if_pos (by omega)])
     have hbz:2147483647<satN M:=by rw [hs2];split<;>omega
     clear hb hs2 Hval Hdo Hvv
     generalize satN M=z at*
     have d2:decide ((z:Int)< -2147483648)=false:=Qf (by omega)
     have d3:decide ((2147483647:Int)<(z:Int))=true:=Qt (by omega)
     have i8:IntKind.i64.wrap (1*(z:Int))=(z:Int):=by rw [IntWalk.i64_in _ (by omega)];omega
     have i9:IntKind.i64.wrap (z:Int)=(z:Int):=IntWalk.i64_in _ (by omega)
     go_enter Tryz.func55,Tryz.ntmps55
     go_wp2_with fail
     refine Hx.out.mono ?_
     rintro e w1 ⟨rfl,hb1⟩
     go_wp2_with fail
     skip
     refine (Hd.out _).mono ?_
     rintro e w2 ⟨rfl,hb2⟩
     have hb12:=hb1.trans (hb2.mono hb1.size)
     go_wp2
     go_ret3
     rw [Hn.out]
     exact ⟨rfl,hb12⟩
    ·have hsz:satN M=M:=by rw [hs2,if_neg (by omega)]
     rw [hsz] at Hd
     have Hn:=Qh (show rdNum s a= .ok ((M:Int),n) by rw [Hn1.out,if_neg (by omega)])
     have d2:decide ((M:Int)< -2147483648)=false:=Qf (by omega)
     have d3:decide ((2147483647:Int)<(M:Int))=false:=Qf (by omega)
     have i8:IntKind.i64.wrap (1*(M:Int))=(M:Int):=by rw [IntWalk.i64_in _ (by omega)];omega
     have i9:IntKind.i64.wrap (M:Int)=(M:Int):=IntWalk.i64_in _ (by omega)
     clear hs2 hsz Hval Hdo Hvv Hn1 hle
     go_enter Tryz.func55,Tryz.ntmps55
     go_wp2_with fail
     refine Hx.out.mono ?_
     rintro e w1 ⟨rfl,hb1⟩
     go_wp2_with fail
     skip
     refine (Hd.out _).mono ?_
     rintro e w2 ⟨rfl,hb2⟩
     have hb12:=hb1.trans (hb2.mono hb1.size)
     go_wp2
     go_ret3
     rw [Hn.out]
     exact ⟨Xuv rfl hnn,hb12⟩
set_option maxRecDepth 100000 in
set_option maxHeartbeats 2000000 in
theorem Xca (s:Bytes) (hs:s.length≤4294967280) (a:Nat) (ha:a≤9223372036854775807) (w:World):
 Calls Tryz.prog 56 #[S s,.int .i64 a] w fun e w'=>e= .returned (sV (rdStr s a))∧Below w.heap.size w w':=by
 by_cases h1:s.length<a
 ·have Hn:=Qh (show rdStr s a= .error 1 by unfold rdStr rdUntil;rw [if_pos h1];rfl)
  go_enter Tryz.func56,Tryz.ntmps56
  go_wp2
  go_ret3
  rw [Hn.out]
  exact ⟨rfl,Qb _ _⟩
 have hle:a≤s.length:=by omega
 have Hx:=Qh (show Calls Tryz.prog 106 #[S s,.int .i64 a,.int .u8 58] w fun e w'=>e= .returned (.int .i64 (idxR s a 58))∧Below w.heap.size w w' from Xg8 s hs a hle 58 w)
 have Hr:=Qh (show rdStr s a=Rb (rdUntil s a 58) fun p=>strOf s p.1 p.2 from rfl)
 have d0:decide ((s.length:Int)<(a:Int))=false:=Qf (by omega)
 have d1:decide ((a:Int)<0)=false:=Qf (by omega)
 cases hu:rdUntil s a 58 with
 |error x=>
  obtain ⟨e1,e2⟩:=Xny hle (fun p h=>by rw [hu] at h;cases h)
  rw [e1] at Hx
  have Hn:=Qh (show rdStr s a= .error 4 by rw [Hr.out,e2];rfl)
  clear hu h1 e1 e2
  go_enter Tryz.func56,Tryz.ntmps56
  go_wp2_with fail
  refine Hx.out.mono ?_
  rintro e w1 ⟨rfl,hb1⟩
  go_wp2
  go_ret3
  rw [Hn.out]
  exact ⟨rfl,hb1⟩
 |ok p=>
  obtain ⟨t,n⟩:=p
  rw [hu] at Hr
  have hio:=Xqr hu
  rw [hio.1] at Hx
  have hn:=hio.2.1
  have htl:=hio.2.2.1
  have htk1:(s.drop a).take t.length=t:=hio.2.2.2
  have htk2:(s.drop a).take (a+t.length-a)=t:=by rw [show a+t.length-a=t.length by omega];exact htk1
  clear hio hu h1
  have Hvv:=Qh (show rdStr s a=if natOk t=false then .error 3 else if s.length-n≤digN 0 t then .error 4 else if s.getD (n+digN 0 t) 0≠44 then .error 3 else .ok ((s.drop n).take (digN 0 t),n+digN 0 t+1) by rw [Hr.out,Rb_ok,strOf])
  have i5:IntKind.i64.wrap (((a+t.length:Nat):Int)+1)=((a+t.length:Nat):Int)+1:=IntWalk.i64_in _ (by omega)
  have i6:decide (((a+t.length:Nat):Int)<0)=false:=Qf (by omega)
  have Hd:=Qh (Xdl t (by omega))
  have HdR:=Qh (show decR t=if natOk t=true then ((satN (digN 0 t):Nat):Int) else 0 from rfl)
  cases hok:natOk t with
  |false=>
   rw [hok] at Hd
   have Hn:=Qh (show rdStr s a= .error 3 by rw [Hvv.out,hok];rfl)
   clear hok HdR
   generalize decR t=z at Hd
   go_enter Tryz.func56,Tryz.ntmps56
   go_wp2_with fail
   refine Hx.out.mono ?_
   rintro e w1 ⟨rfl,hb1⟩
   go_wp2_with fail
   refine (Hd.out _).mono ?_
   rintro e w2 ⟨rfl,hb2⟩
   have hb12:=hb1.trans (hb2.mono hb1.size)
   go_wp2
   go_ret3
   rw [Hn.out]
   exact ⟨rfl,hb12⟩
  |true=>
   rw [hok] at Hd HdR Hvv
   rw [if_pos rfl] at HdR
   rw [HdR.out] at Hd
   have Hn1:=Qh (show rdStr s a=if s.length-n≤digN 0 t then .error 4 else if s.getD (n+digN 0 t) 0≠44 then .error 3 else .ok ((s.drop n).take (digN 0 t),n+digN 0 t+1) by rw [Hvv.out];rfl)
   generalize digN 0 t=M at*
   clear hok HdR Hvv
   have hle2:=Xi3 M
   have hs2:satN M=if 1099511627776<M then 1099511627776 else M:=rfl
   by_cases hb:s.length-n≤M
   ·have Hn:=Qh (show rdStr s a= .error 4 by rw [Hn1.out,if_pos hb])
    have hbz:s.length-n≤satN M:=by rw [hs2];split<;>omega
    clear hb hs2 Hn1
    generalize satN M=z at*
    subst hn
    have d2:decide ((s.length:Int)-((a+t.length:Nat):Int)-1≤(z:Int))=true:=Qt (by omega)
    have d3:decide ((s.length:Int)-((a:Int)+(t.length:Int))-1≤(z:Int))=true:=Qt (by omega)
    have i7:IntKind.i64.wrap ((s.length:Int)-((a:Int)+(t.length:Int)))=(s.length:Int)-((a:Int)+(t.length:Int)):=IntWalk.i64_in _ (by omega)
    have i8:IntKind.i64.wrap ((s.length:Int)-((a:Int)+(t.length:Int))-1)=(s.length:Int)-((a:Int)+(t.length:Int))-1:=IntWalk.i64_in _ (by omega)
    go_enter Tryz.func56,Tryz.ntmps56
    go_wp2_with fail
    refine Hx.out.mono ?_
    rintro e w1 ⟨rfl,hb1⟩
    go_wp2_with fail
    refine (Hd.out _).mono ?_
    rintro e w2 ⟨rfl,hb2⟩
    have hb12:=hb1.trans (hb2.mono hb1.size)
    go_wp2
    go_ret3
    rw [Hn.out]
    exact ⟨rfl,hb12⟩
   ·have hsz:satN M=M:=by rw [hs2,if_neg (by omega)]
    rw [hsz] at Hd
    rw [if_neg hb] at Hn1
    clear hs2 hsz hle2
    subst hn
    have hlt:a+t.length+1+M<s.length:=by omega
    have d2:decide ((s.length:Int)-((a:Int)+(t.length:Int))-1≤(M:Int))=false:=Qf (by omega)
    have i7:IntKind.i64.wrap ((s.length:Int)-((a:Int)+(t.length:Int)))=(s.length:Int)-((a:Int)+(t.length:Int)):=IntWalk.i64_in _ (by omega)
    have i8:IntKind.i64.wrap ((s.length:Int)-((a:Int)+(t.length:Int))-1)=(s.length:Int)-((a:Int)+(t.length:Int))-1:=IntWalk.i64_in _ (by omega)
    have hx1:=run_at (P:=Tryz.prog) Tryz.underlying9 s ((a:Int)+(t.length:Int)+1+(M:Int)) (a+t.length+1+M) (by omega) hlt
    have i9:(0:Int)≤(a:Int)+(t.length:Int)+1+(M:Int):=by omega
    by_cases h2:s.getD (a+t.length+1+M) 0=44
    ·have Hn:=Qh (show rdStr s a= .ok ((s.drop (a+t.length+1)).take M,a+t.length+1+M+1) by rw [Hn1.out,if_neg (by simpa using h2)])
     have k2:(((s.getD (a+t.length+1+M) 0).toNat:Int) != 44)=false:=by rw [h2];rfl
     clear h2 hb Hn1
     generalize (s.getD (a+t.length+1+M) 0).toNat=c2 at hx1 k2
     go_enter Tryz.func56,Tryz.ntmps56
     go_wp2_with fail
     refine Hx.out.mono ?_
     rintro e w1 ⟨rfl,hb1⟩
     go_wp2_with fail
     refine (Hd.out _).mono ?_
     rintro e w2 ⟨rfl,hb2⟩
     have hb12:=hb1.trans (hb2.mono hb1.size)
     go_wp2
     go_ret3
     rw [Hn.out]
     exact ⟨Xug (by rw [show a+t.length+1+M-(a+t.length+1)=M by omega]) (by omega),hb12⟩
    ·have Hn:=Qh (show rdStr s a= .error 3 by rw [Hn1.out,if_pos h2])
     have k2:(((s.getD (a+t.length+1+M) 0).toNat:Int) != 44)=true:=by
      have:((s.getD (a+t.length+1+M) 0).toNat:Int)≠44:=fun e=>h2 (UInt8.toNat_inj.1 (by have:(44:UInt8).toNat=44:=rfl;omega))
      simpa using this
     clear h2 hb Hn1
     generalize (s.getD (a+t.length+1+M) 0).toNat=c2 at hx1 k2
     go_enter Tryz.func56,Tryz.ntmps56
     go_wp2_with fail
     refine Hx.out.mono ?_
     rintro e w1 ⟨rfl,hb1⟩
     go_wp2_with fail
     refine (Hd.out _).mono ?_
     rintro e w2 ⟨rfl,hb2⟩
     have hb12:=hb1.trans (hb2.mono hb1.size)
     go_wp2
     go_ret3
     rw [Hn.out]
     exact ⟨rfl,hb12⟩
def RfB (W:World) (b:Nat) (s:Bytes) (a:Nat) (e:Int):Prop:=W.heap[b]? =some (.cells #[S s,.int .i64 (a:Int),.int .i64 e] 199 (0,0))
def rfT {α:Type} (z:α) (r:Rd α) (a:Nat) (e:Int):α × Nat × Int:=if e≠0 then (z,a,e) else match r with| .ok p=>(p.1,p.2,0)| .error c=>(z,0,c)
theorem Xbt {α:Type} (z:α) (r:Rd α) (a:Nat) {e:Int} (h:e≠0):rfT z r a e=(z,a,e):=by unfold rfT;rw [if_pos h]
theorem Xid {α:Type} (z x:α) (a b:Nat):rfT z (.ok (x,b)) a 0=(x,b,0):=by unfold rfT;rw [if_neg (by simp)]
theorem Xbs {α:Type} (z:α) (c:Int) (a:Nat):rfT z (.error c) a 0=(z,0,c):=by unfold rfT;rw [if_neg (by simp)]
theorem Xan {W:World} {b:Nat} {s:Bytes} {a:Nat} {e:Int} (h:RfB W b s a e):W.cell? ⟨b,0,none⟩=some (S s)∧W.cell? ⟨b,1,none⟩=some (.int .i64 (a:Int))∧W.cell? ⟨b,2,none⟩=some (.int .i64 e):=
 ⟨(cell_of_row _ _ 0 _ _ _ h).trans rfl,(cell_of_row _ _ 1 _ _ _ h).trans rfl,(cell_of_row _ _ 2 _ _ _ h).trans rfl⟩
set_option maxRecDepth 100000 in
set_option maxHeartbeats 1000000 in
theorem Xd1 (s:Bytes) (hs:s.length≤4294967280) (b a:Nat) (z:Int) (w:World) (hB:RfB w b s a z) (ha:a≤4294967280):
 Calls Tryz.prog 162 #[ptrV b] w fun e w'=>e= .returned (S (rfT [] (rdStr s a) a z).1)∧RfB w' b s (rfT [] (rdStr s a) a z).2.1 (rfT [] (rdStr s a) a z).2.2∧w.grownBy w' (some b):=by
 obtain ⟨c0,c1,c2⟩:=Xan hB
 have Hr:=Qh (fun w=>Xca s hs a (by omega) w)
 have HB:=Qh hB
 have hi3:(Tryz.prog.info? 30).map (·.size)=some 1:=by kernel_rfl
 by_cases hz:z=0
 ·subst hz
  cases h1:rdStr s a with
  |ok p=>
   obtain ⟨x,n⟩:=p
   rw [Xid]
   rw [h1,Xl6] at Hr
   have g0:=cell_regrown c0
   have g1:=cell_regrown c1
   clear h1
   go_enter Tryz.func162,Tryz.ntmps162
   go_wp2_with fail
   refine wp_region_quiet_below (by kernel_rfl) (by kernel_rfl) ?_
   repeat (go_big_quiet_step ((with_reducible exact Calls.regrown_of (Hr.out _))))
   refine wpQuiet_nil ?_
   intro w1 hwq
   have hb1:Below (w).heap.size (w) w1:=by
    obtain ⟨pq,rfl⟩:=hwq
    exact below_regrown _ _ _
   clear hwq
   have HB1:=Qh (show RfB w1 b s a 0 from Xaj HB.out hb1)
   obtain ⟨k0,k1,k2⟩:=Xan HB1.out
   go_wp2_with (first
                |(refine Xab rfl rfl 3 _ _ rfl b 1 [.int .i64 (n:Int)] (.int .i64 (n:Int)) (by simp [Act.eval]) (by simp [Act.eval]) (by rfl) _ 199 HB1.out (by simp) Xa2 (by simp [Value.oneCell']) #[S s,.int .i64 (n:Int),.int .i64 0] (by rfl) ?_
                  intro w2 hg2 hr2
                  have HB2:=Qh hr2
                  have m2:=(Xan hr2).2.2)
                |(refine Xab rfl rfl 30 _ _ rfl b 2 [.int .i64 0] (.int .i64 0) (by simp [Act.eval]) (by simp [Act.eval]) (by rfl) _ 199 HB2.out (by simp) hi3 (by simp [Value.oneCell']) #[S s,.int .i64 (n:Int),.int .i64 0] (by rfl) ?_
                  intro w3 hg3 hr3))
   go_wp2
   go_ret
   exact ⟨rfl,hr3,Xa3 hb1 (hg2.trans hg3)⟩
  |error c=>
   rw [Xbs]
   rw [h1,Xl5] at Hr
   have g0:=cell_regrown c0
   have g1:=cell_regrown c1
   clear h1
   go_enter Tryz.func162,Tryz.ntmps162
   go_wp2_with fail
   refine wp_region_quiet_below (by kernel_rfl) (by kernel_rfl) ?_
   repeat (go_big_quiet_step ((with_reducible exact Calls.regrown_of (Hr.out _))))
   refine wpQuiet_nil ?_
   intro w1 hwq
   have hb1:Below (w).heap.size (w) w1:=by
    obtain ⟨pq,rfl⟩:=hwq
    exact below_regrown _ _ _
   clear hwq
   have HB1:=Qh (show RfB w1 b s a 0 from Xaj HB.out hb1)
   obtain ⟨k0,k1,k2⟩:=Xan HB1.out
   go_wp2_with (first
                |(refine Xab rfl rfl 3 _ _ rfl b 1 [.int .i64 (0:Int)] (.int .i64 (0:Int)) (by simp [Act.eval]) (by simp [Act.eval]) (by rfl) _ 199 HB1.out (by simp) Xa2 (by simp [Value.oneCell']) #[S s,.int .i64 (0:Int),.int .i64 0] (by rfl) ?_
                  intro w2 hg2 hr2
                  have HB2:=Qh hr2
                  have m2:=(Xan hr2).2.2)
                |(refine Xab rfl rfl 30 _ _ rfl b 2 [.int .i64 c] (.int .i64 c) (by simp [Act.eval]) (by simp [Act.eval]) (by rfl) _ 199 HB2.out (by simp) hi3 (by simp [Value.oneCell']) #[S s,.int .i64 (0:Int),.int .i64 c] (by rfl) ?_
                  intro w3 hg3 hr3))
   go_wp2
   go_ret
   exact ⟨rfl,hr3,Xa3 hb1 (hg2.trans hg3)⟩
 ·rw [Xbt _ _ _ hz]
  have hzb:(z != 0)=true:=by simpa using hz
  clear hz
  go_enter Tryz.func162,Tryz.ntmps162
  go_wp2
  go_ret
  exact ⟨rfl,hB,World.grownBy.refl _ _⟩
set_option maxRecDepth 100000 in
set_option maxHeartbeats 1000000 in
theorem Xj2 (s:Bytes) (hs:s.length≤4294967280) (b a:Nat) (z:Int) (w:World) (hB:RfB w b s a z) (ha:a≤4294967280):
 Calls Tryz.prog 164 #[ptrV b] w fun e w'=>e= .returned (.int .i64 (rfT 0 (rdNum s a) a z).1)∧RfB w' b s (rfT 0 (rdNum s a) a z).2.1 (rfT 0 (rdNum s a) a z).2.2∧w.grownBy w' (some b):=by
 obtain ⟨c0,c1,c2⟩:=Xan hB
 have Hr:=Qh (fun w=>Xdx s hs a (by omega) w)
 have HB:=Qh hB
 have hi3:(Tryz.prog.info? 30).map (·.size)=some 1:=by kernel_rfl
 by_cases hz:z=0
 ·subst hz
  cases h1:rdNum s a with
  |ok p=>
   obtain ⟨x,n⟩:=p
   rw [Xid]
   rw [h1,Xsu] at Hr
   have g0:=cell_regrown c0
   have g1:=cell_regrown c1
   clear h1
   go_enter Tryz.func164,Tryz.ntmps164
   go_wp2_with fail
   refine wp_region_quiet_below (by kernel_rfl) (by kernel_rfl) ?_
   repeat (go_big_quiet_step ((with_reducible exact Calls.regrown_of (Hr.out _))))
   refine wpQuiet_nil ?_
   intro w1 hwq
   have hb1:Below (w).heap.size (w) w1:=by
    obtain ⟨pq,rfl⟩:=hwq
    exact below_regrown _ _ _
   clear hwq
   have HB1:=Qh (show RfB w1 b s a 0 from Xaj HB.out hb1)
   obtain ⟨k0,k1,k2⟩:=Xan HB1.out
   go_wp2_with (first
                |(refine Xab rfl rfl 3 _ _ rfl b 1 [.int .i64 (n:Int)] (.int .i64 (n:Int)) (by simp [Act.eval]) (by simp [Act.eval]) (by rfl) _ 199 HB1.out (by simp) Xa2 (by simp [Value.oneCell']) #[S s,.int .i64 (n:Int),.int .i64 0] (by rfl) ?_
                  intro w2 hg2 hr2
                  have HB2:=Qh hr2
                  have m2:=(Xan hr2).2.2)
                |(refine Xab rfl rfl 30 _ _ rfl b 2 [.int .i64 0] (.int .i64 0) (by simp [Act.eval]) (by simp [Act.eval]) (by rfl) _ 199 HB2.out (by simp) hi3 (by simp [Value.oneCell']) #[S s,.int .i64 (n:Int),.int .i64 0] (by rfl) ?_
                  intro w3 hg3 hr3))
   go_wp2
   go_ret
   exact ⟨rfl,hr3,Xa3 hb1 (hg2.trans hg3)⟩
  |error c=>
   rw [Xbs]
   rw [h1,Xst] at Hr
   have g0:=cell_regrown c0
   have g1:=cell_regrown c1
   clear h1
   go_enter Tryz.func164,Tryz.ntmps164
   go_wp2_with fail
   refine wp_region_quiet_below (by kernel_rfl) (by kernel_rfl) ?_
   repeat (go_big_quiet_step ((with_reducible exact Calls.regrown_of (Hr.out _))))
   refine wpQuiet_nil ?_
   intro w1 hwq
   have hb1:Below (w).heap.size (w) w1:=by
    obtain ⟨pq,rfl⟩:=hwq
    exact below_regrown _ _ _
   clear hwq
   have HB1:=Qh (show RfB w1 b s a 0 from Xaj HB.out hb1)
   obtain ⟨k0,k1,k2⟩:=Xan HB1.out
   go_wp2_with (first
                |(refine Xab rfl rfl 3 _ _ rfl b 1 [.int .i64 (0:Int)] (.int .i64 (0:Int)) (by simp [Act.eval]) (by simp [Act.eval]) (by rfl) _ 199 HB1.out (by simp) Xa2 (by simp [Value.oneCell']) #[S s,.int .i64 (0:Int),.int .i64 0] (by rfl) ?_
                  intro w2 hg2 hr2
                  have HB2:=Qh hr2
                  have m2:=(Xan hr2).2.2)
                |(refine Xab rfl rfl 30 _ _ rfl b 2 [.int .i64 c] (.int .i64 c) (by simp [Act.eval]) (by simp [Act.eval]) (by rfl) _ 199 HB2.out (by simp) hi3 (by simp [Value.oneCell']) #[S s,.int .i64 (0:Int),.int .i64 c] (by rfl) ?_
                  intro w3 hg3 hr3))
   go_wp2
   go_ret
   exact ⟨rfl,hr3,Xa3 hb1 (hg2.trans hg3)⟩
 ·rw [Xbt _ _ _ hz]
  have hzb:(z != 0)=true:=by simpa using hz
  clear hz
  go_enter Tryz.func164,Tryz.ntmps164
  go_wp2
  go_ret
  exact ⟨rfl,hB,World.grownBy.refl _ _⟩
def rfC (most:Int) (s:Bytes) (a:Nat) (e:Int):Int × Nat × Int:=
 let p:=rfT 0 (rdNum s a) a e
 if p.2.2≠0 then (0,p.2) else if p.1<0∨most<p.1 then (0,p.2.1,2) else p
set_option maxRecDepth 100000 in
set_option maxHeartbeats 1000000 in
theorem Xni (s:Bytes) (hs:s.length≤4294967280) (b a:Nat) (z most:Int) (w:World) (hB:RfB w b s a z) (ha:a≤4294967280):
 Calls Tryz.prog 165 #[ptrV b,.int .i64 most] w fun e w'=>e= .returned (.int .i64 (rfC most s a z).1)∧RfB w' b s (rfC most s a z).2.1 (rfC most s a z).2.2∧w.grownBy w' (some b):=by
 have Hn:=Qh (Xj2 s hs b a z w hB ha)
 have hi3:(Tryz.prog.info? 30).map (·.size)=some 1:=by kernel_rfl
 unfold rfC
 generalize rfT 0 (rdNum s a) a z=p at Hn ⊢
 obtain ⟨n,b1,c⟩:=p
 simp only at Hn ⊢
 clear hB
 by_cases hc:c=0
 ·subst hc
  rw [if_neg (by simp)]
  by_cases hb:n<0∨most<n
  ·rw [if_pos hb]
   by_cases h0:n<0
   ·have d0:decide (n<0)=true:=Qt h0
    clear hb h0
    go_enter Tryz.func165,Tryz.ntmps165
    go_wp2_with fail
    refine Hn.out.mono ?_
    rintro e w1 ⟨rfl,hB1,hg1⟩
    obtain ⟨k0,k1,k2⟩:=Xan hB1
    go_wp2_with (refine Xab rfl rfl 30 _ _ rfl b 2 [.int .i64 2] (.int .i64 2) (by simp [Act.eval]) (by simp [Act.eval]) (by rfl) _ 199 hB1 (by simp) hi3 (by simp [Value.oneCell']) #[S s,.int .i64 (b1:Int),.int .i64 2] (by rfl) ?_
                 intro w2 hg2 hr2
                 have m2:=(Xan hr2).2.2)
    go_wp2
    go_ret
    exact ⟨rfl,hr2,hg1.trans hg2⟩
   ·have d0:decide (n<0)=false:=Qf h0
    have d1:decide (most<n)=true:=Qt (by omega)
    clear hb h0
    go_enter Tryz.func165,Tryz.ntmps165
    go_wp2_with fail
    refine Hn.out.mono ?_
    rintro e w1 ⟨rfl,hB1,hg1⟩
    obtain ⟨k0,k1,k2⟩:=Xan hB1
    go_wp2_with (refine Xab rfl rfl 30 _ _ rfl b 2 [.int .i64 2] (.int .i64 2) (by simp [Act.eval]) (by simp [Act.eval]) (by rfl) _ 199 hB1 (by simp) hi3 (by simp [Value.oneCell']) #[S s,.int .i64 (b1:Int),.int .i64 2] (by rfl) ?_
                 intro w2 hg2 hr2
                 have m2:=(Xan hr2).2.2)
    go_wp2
    go_ret
    exact ⟨rfl,hr2,hg1.trans hg2⟩
  ·rw [if_neg hb]
   have d0:decide (n<0)=false:=Qf (by omega)
   have d1:decide (most<n)=false:=Qf (by omega)
   clear hb
   go_enter Tryz.func165,Tryz.ntmps165
   go_wp2_with fail
   refine Hn.out.mono ?_
   rintro e w1 ⟨rfl,hB1,hg1⟩
   obtain ⟨k0,k1,k2⟩:=Xan hB1
   go_wp2
   go_ret
   exact ⟨rfl,hB1,hg1⟩
 ·rw [if_pos hc]
  have hzb:(c != 0)=true:=by simpa using hc
  have hze:(c==0)=false:=by simpa using hc
  clear hc
  go_enter Tryz.func165,Tryz.ntmps165
  go_wp2_with fail
  refine Hn.out.mono ?_
  rintro e w1 ⟨rfl,hB1,hg1⟩
  obtain ⟨k0,k1,k2⟩:=Xan hB1
  go_wp2
  go_ret
  exact ⟨rfl,hB1,hg1⟩
def rfA (s:Bytes):Nat→Nat→Int→List At→List At × Nat × Int
 |0,a,e,acc=>(acc,a,e)
 |n+1,a,e,acc=>if e≠0 then (acc,a,e) else
  rfA s n (rfT [] (rdStr s (rfT [] (rdStr s a) a e).2.1) (rfT [] (rdStr s a) a e).2.1 (rfT [] (rdStr s a) a e).2.2).2.1 (rfT [] (rdStr s (rfT [] (rdStr s a) a e).2.1) (rfT [] (rdStr s a) a e).2.1 (rfT [] (rdStr s a) a e).2.2).2.2
   (acc++ [⟨(rfT [] (rdStr s a) a e).1,(rfT [] (rdStr s (rfT [] (rdStr s a) a e).2.1) (rfT [] (rdStr s a) a e).2.1 (rfT [] (rdStr s a) a e).2.2).1⟩])
def kUp (x:Bytes):Nat→Int
 |0=>0
 |i+1=>if nameP ((i:Int)+1)=x then (i:Int)+1 else kUp x i
theorem Xuz (x:Bytes):kUp x 6=kindOf x:=by
 simp only [kUp,kindOf]
 by_cases h1:x=nameP 1
 ·subst h1;decide
 by_cases h2:x=nameP 2
 ·subst h2;decide
 by_cases h3:x=nameP 3
 ·subst h3;decide
 by_cases h4:x=nameP 4
 ·subst h4;decide
 by_cases h5:x=nameP 5
 ·subst h5;decide
 by_cases h6:x=nameP 6
 ·subst h6;decide
 rw [if_neg h1,if_neg h2,if_neg h3,if_neg h4,if_neg h5,if_neg h6]
 rw [if_neg (fun h=>h6 h.symm),if_neg (fun h=>h5 h.symm),if_neg (fun h=>h4 h.symm),if_neg (fun h=>h3 h.symm),if_neg (fun h=>h2 h.symm),if_neg (fun h=>h1 h.symm)]
theorem Xbm {α:Type} (z:α) (p:α × Nat) (a:Nat):rfT z (.ok p) a 0=(p.1,p.2,0):=Xid z p.1 a p.2
theorem Xd2 (s:Bytes) (a:Nat) (e:Int) (h:a≤s.length):(rfT [] (rdStr s a) a e).2.1≤s.length:=by
 by_cases he:e=0
 ·subst he
  cases h1:rdStr s a with
  |ok p=>rw [Xbm];exact (Xav (x:=p.1) (n:=p.2) h1).2.1
  |error c=>rw [Xbs];exact Nat.zero_le _
 ·rw [Xbt _ _ _ he];exact h
theorem Xe5 (s:Bytes) (a:Nat) (e:Int) (h:a≤s.length):(rfT 0 (rdNum s a) a e).2.1≤s.length:=by
 by_cases he:e=0
 ·subst he
  cases h1:rdNum s a with
  |ok p=>rw [Xbm];exact (Xbb (x:=p.1) (n:=p.2) h1).2.1
  |error c=>rw [Xbs];exact Nat.zero_le _
 ·rw [Xbt _ _ _ he];exact h
theorem Xp0 (m:Int) (s:Bytes) (a:Nat) (e:Int) (h:a≤s.length):(rfC m s a e).2.1≤s.length:=by
 have:=Xe5 s a e h
 unfold rfC
 generalize rfT 0 (rdNum s a) a e=p at*
 simp only
 split
 ·exact this
 ·split
  ·exact this
  ·exact this
theorem Xt5 {m:Int} {s:Bytes} {a:Nat} {x:Int} {b:Nat} (h:rdCnt m s a= .ok (x,b)):rfC m s a 0=(x,b,0):=by
 unfold rdCnt at h
 unfold rfC
 cases hn:rdNum s a with
 |error e=>rw [hn] at h;cases h
 |ok p=>
  rw [hn,Rb_ok] at h
  rw [Xbm]
  split at h
  ·cases h
  ·rename_i hk
   injection h with h
   subst h
   simp only
   rw [if_neg (by simp),if_neg hk]
theorem Xt6 {m:Int} {s:Bytes} {a:Nat} {z:Int} (h:rdCnt m s a= .error z):(rfC m s a 0).2.2=z∧(rfC m s a 0).1=0:=by
 have hz:=Xha h
 unfold rdCnt at h
 unfold rfC
 cases hn:rdNum s a with
 |error e=>
  rw [hn] at h
  injection h with h
  subst h
  rw [Xbs]
  simp only
  rw [if_pos (by simpa using hz)]
  exact ⟨rfl,rfl⟩
 |ok p=>
  rw [hn,Rb_ok] at h
  rw [Xbm]
  split at h
  ·rename_i hk
   injection h with h
   subst h
   simp only
   rw [if_neg (by simp),if_pos hk]
   exact ⟨rfl,rfl⟩
  ·cases h
theorem Xg3 (m:Int) (s:Bytes) (a:Nat) {e:Int} (h:e≠0):rfC m s a e=(0,a,e):=by
 unfold rfC
 rw [Xbt _ _ _ h]
 simp only
 rw [if_pos h]
theorem Xg4 (s:Bytes) (n a:Nat) {e:Int} (h:e≠0) (acc:List At):rfA s n a e acc=(acc,a,e):=by
 cases n with
 |zero=>rfl
 |succ n=>rw [rfA,if_pos h]
theorem Xt7 (s:Bytes):∀(n a:Nat) (acc:List At),(∀l b,rdAts s n a acc= .ok (l,b)→rfA s n a 0 acc=(l,b,0))∧(∀z,rdAts s n a acc= .error z→(rfA s n a 0 acc).2.2=z∧(z != 0)=true)
 |0,a,acc=>by
  refine ⟨fun l b h=> ?_,fun z h=> ?_⟩
  ·rw [rdAts] at h
   injection h with h
   injection h with h1 h2
   subst h1 h2
   rfl
  ·rw [rdAts] at h;cases h
 |n+1,a,acc=>by
  rw [rdAts,rfA,if_neg (by simp)]
  cases h1:rdStr s a with
  |error c=>
   have hc:=Xax h1
   simp only [Xbs]
   rw [Xbt _ _ _ (by simpa using hc),Xg4 _ _ _ (by simpa using hc)]
   exact ⟨fun l b h=>(by cases h),fun z h=>(by injection h with h;subst h;exact ⟨rfl,hc⟩)⟩
  |ok p=>
   simp only [Xbm,Rb_ok]
   cases h2:rdStr s p.2 with
   |error c=>
    have hc:=Xax h2
    simp only [Xbs]
    rw [Xg4 _ _ _ (by simpa using hc)]
    exact ⟨fun l b h=>(by cases h),fun z h=>(by injection h with h;subst h;exact ⟨rfl,hc⟩)⟩
   |ok q=>
    simp only [Xbm,Rb_ok]
    exact Xt7 s n q.2 (acc++ [⟨p.1,q.1⟩])
def rfHd (s:Bytes):Ent × Int:=
 let p:=rfT [] (rdStr s 0) 0 0
 let z:=if p.2.2=0∧kindOf p.1=0 then 3 else p.2.2
 let q:=rfT [] (rdStr s p.2.1) p.2.1 z
 let n:=rfC 400 s q.2.1 q.2.2
 let l:=rfA s n.1.toNat n.2.1 n.2.2 []
 let t:=rfT [] (rdStr s l.2.1) l.2.1 l.2.2
 (⟨kindOf p.1,q.1,l.1,t.1,0,[],[]⟩,if t.2.2=0∧t.2.1≠s.length then 3 else t.2.2)
theorem Xun (s:Bytes):(∀x,rdHead s= .ok x→rfHd s=(x,0))∧ ∀z,rdHead s= .error z→(rfHd s).2=z∧(z != 0)=true:=by
 unfold rdHead rfHd
 cases h1:rdStr s 0 with
 |error c=>
  have hc:=Xax h1
  have hc':c≠0:=by simpa using hc
  simp only [Xbs,Rb_err]
  rw [if_neg (fun h=>hc' h.1),Xbt _ _ _ hc']
  simp only [Xg3 _ _ _ hc',Xg4 _ _ _ hc',Xbt _ _ _ hc']
  rw [if_neg (fun h=>hc' h.1)]
  exact ⟨fun x h=>(by cases h),fun z h=>(by injection h with h;subst h;exact ⟨rfl,hc⟩)⟩
 |ok p=>
  simp only [Xbm,Rb_ok]
  by_cases hk:kindOf p.1=0
  ·rw [if_pos hk,if_pos ⟨by trivial,hk⟩]
   have h3:(3:Int)≠0:=by decide
   simp only [Xbt _ _ _ h3,Xg3 _ _ _ h3,Xg4 _ _ _ h3]
   exact ⟨fun x h=>(by cases h),fun z h=>(by injection h with h;subst h;exact ⟨rfl,rfl⟩)⟩
  ·rw [if_neg hk,if_neg (fun h=>hk h.2)]
   cases h2:rdStr s p.2 with
   |error c=>
    have hc:=Xax h2
    have hc':c≠0:=by simpa using hc
    simp only [Xbs,Rb_err,Xg3 _ _ _ hc',Xg4 _ _ _ hc',Xbt _ _ _ hc']
    rw [if_neg (fun h=>hc' h.1)]
    exact ⟨fun x h=>(by cases h),fun z h=>(by injection h with h;subst h;exact ⟨rfl,hc⟩)⟩
   |ok q=>
    simp only [Xbm,Rb_ok]
    cases h3:rdCnt 400 s q.2 with
    |error c=>
     have hc:=Xha h3
     have hc':c≠0:=by simpa using hc
     obtain ⟨e1,e2⟩:=Xt6 h3
     have hcc:(rfC 400 s q.2 0).2.2≠0:=by rw [e1];exact hc'
     simp only [Rb_err,Xg4 _ _ _ hcc,Xbt _ _ _ hcc]
     rw [if_neg (fun h=>hcc h.1)]
     exact ⟨fun x h=>(by cases h),fun z h=>(by injection h with h;subst h;exact ⟨e1,hc⟩)⟩
    |ok n=>
     rw [Xt5 (x:=n.1) (b:=n.2) h3]
     simp only [Rb_ok]
     obtain ⟨k1,k2⟩:=Xt7 s n.1.toNat n.2 []
     cases h4:rdAts s n.1.toNat n.2 [] with
     |error c=>
      obtain ⟨e1,hc⟩:=k2 c h4
      have hc':c≠0:=by simpa using hc
      have hcc:(rfA s n.1.toNat n.2 0 []).2.2≠0:=by rw [e1];exact hc'
      simp only [Rb_err,Xbt _ _ _ hcc]
      rw [if_neg (fun h=>hcc h.1)]
      exact ⟨fun x h=>(by cases h),fun z h=>(by injection h with h;subst h;exact ⟨e1,hc⟩)⟩
     |ok l=>
      rw [k1 l.1 l.2 h4]
      simp only [Rb_ok]
      cases h5:rdStr s l.2 with
      |error c=>
       have hc:=Xax h5
       have hc':c≠0:=by simpa using hc
       simp only [Xbs,Rb_err]
       rw [if_neg (fun h=>hc' h.1)]
       exact ⟨fun x h=>(by cases h),fun z h=>(by injection h with h;subst h;exact ⟨rfl,hc⟩)⟩
      |ok t=>
       simp only [Xbm,Rb_ok]
       by_cases ht:t.2=s.length
       ·rw [if_neg (by simpa using ht),if_neg (fun h=>h.2 ht)]
        exact ⟨fun x h=>(by injection h with h;subst h;rfl),fun z h=>(by cases h)⟩
       ·rw [if_pos ht,if_pos ⟨by trivial,ht⟩]
        exact ⟨fun x h=>(by cases h),fun z h=>(by injection h with h;subst h;exact ⟨rfl,rfl⟩)⟩
end Go.Proofs.YtdodihnehppnmaaGreatDoor
