/-
  Walks and laws that the claim's theorem uses: texts NrB Inv Inw ApS RfA RfC RfD RfE Mat EdA, joined; comments out. Conditions: as each theorem says.
-/
import Derived.Test.YtdodihnehppnmaaGreatDoorTO06
import Derived.RegionTactic
import Derived.Maps.AppendAt
import Derived.Recover
set_option linter.all false
namespace Go.Proofs.YtdodihnehppnmaaGreatDoor
open Go.RowKit
theorem Xdl {s:Bytes} {a:Nat} {c:UInt8} {e:Int} (h:rdUntil s a c= .error e):e=1∨e=4:=by
 unfold rdUntil at h
 split at h
 ·injection h with h;exact .inl h.symm
 ·split at h
  ·cases h
  ·injection h with h;exact .inr h.symm
theorem Xts (t:Bytes) (n:Nat):sV (.ok (t,n))= .tuple #[S t,.int .i64 n,.int .i64 0]:=rfl
theorem Xtr (e:Int):sV (.error e)= .tuple #[S [],.int .i64 0,.int .i64 e]:=rfl
theorem Xxk (z:Int) (n:Nat):nV (.ok (z,n))= .tuple #[.int .i64 z,.int .i64 n,.int .i64 0]:=rfl
theorem Xxj (e:Int):nV (.error e)= .tuple #[.int .i64 0,.int .i64 0,.int .i64 e]:=rfl
set_option maxRecDepth 100000 in
set_option maxHeartbeats 1000000 in
theorem Xc2 (I:IH) (hI:Glob I) (s:Bytes) (hs:s.length≤4294967280) (a:Nat) (ha:a≤9223372036854775807) (w:World) (hw:Ok I w):
 Calls Tryz.prog 50 #[S s,.int .i64 a] w fun e w'=>e= .returned (nV (rdNum s a))∧Below w.heap.size w w':=by
 have Hu:=Qh (show Calls Tryz.prog 102 #[S s,.int .i64 a,.int .u8 32] w fun e w'=>e= .returned (sV (rdUntil s a 32))∧Below w.heap.size w w' from Xlc s hs a ha 32 w)
 have Hr:=Qh (show rdNum s a=Rb (rdUntil s a 32) fun p=>numOf p.1 p.2 from rfl)
 cases hu:rdUntil s a 32 with
 |error x=>
  rw [hu] at Hr
  rw [hu,Xtr] at Hu
  have hx:(x != 0)=true:=by rcases Xdl hu with rfl|rfl<;>rfl
  clear hu
  go_enter Tryz.func50,Tryz.ntmps50
  go_wp2_with fail
  refine Hu.out.mono ?_
  rintro e w1 ⟨rfl,hb1⟩
  go_wp2
  go_ret3
  rw [Hr.out]
  exact ⟨rfl,hb1⟩
 |ok p=>
  obtain ⟨t,n⟩:=p
  rw [hu] at Hr
  rw [hu,Xts] at Hu
  have hue:=Xcm hu
  have hn:=hue.2.1
  have htl:=hue.2.2.1
  clear hue
  have Hd:=Qh (Xhw t (by omega))
  clear hu
  cases hd:decOkT t with
  |false=>
   rw [hd] at Hd
   have Hn:=Qh (show rdNum s a= .error 3 by rw [Hr.out,Rb_ok,numOf,hd];rfl)
   clear hd
   go_enter Tryz.func50,Tryz.ntmps50
   go_wp2_with fail
   refine Hu.out.mono ?_
   rintro e w1 ⟨rfl,hb1⟩
   go_wp2_with fail
   refine (Hd.out _).mono ?_
   rintro e w2 ⟨rfl,hb2⟩
   go_wp2
   go_ret3
   rw [Hn.out]
   exact ⟨rfl,hb1.trans (hb2.mono hb1.size)⟩
  |true=>
   rw [hd] at Hd
   have Hn:=Qh (show rdNum s a=if valT t< -2147483648∨2147483647<valT t then .error 2 else .ok (valT t,n) by rw [Hr.out,Rb_ok,numOf,hd];rfl)
   rcases Xpl hd with ⟨z,hz,hv⟩|⟨hz,hv⟩
   ·have Hat:=Qh (fun w=>Xdn t (by omega) z hz w)
    rw [←hv] at Hn
    clear hd hz hv
    by_cases h1:z< -2147483648
    ·have d1:decide (z< -2147483648)=true:=Qt h1
     rw [if_pos (.inl h1)] at Hn
     clear h1
     go_enter Tryz.func50,Tryz.ntmps50
     go_wp2_with fail
     refine Hu.out.mono ?_
     rintro e w1 ⟨rfl,hb1⟩
     go_wp2_with fail
     refine (Hd.out _).mono ?_
     rintro e w2 ⟨rfl,hb2⟩
     go_wp2_with fail
     refine (Hat.out _).mono ?_
     rintro e w3 ⟨rfl,hb3⟩
     go_wp2
     go_ret3
     rw [Hn.out]
     exact ⟨rfl,(hb1.trans (hb2.mono hb1.size)).trans (hb3.mono (by have:=hb1.size;have:=hb2.size;omega))⟩
    ·have d1:decide (z< -2147483648)=false:=Qf h1
     by_cases h2:2147483647<z
     ·have d2:decide (2147483647<z)=true:=Qt h2
      rw [if_pos (.inr h2)] at Hn
      clear h1 h2
      go_enter Tryz.func50,Tryz.ntmps50
      go_wp2_with fail
      refine Hu.out.mono ?_
      rintro e w1 ⟨rfl,hb1⟩
      go_wp2_with fail
      refine (Hd.out _).mono ?_
      rintro e w2 ⟨rfl,hb2⟩
      go_wp2_with fail
      refine (Hat.out _).mono ?_
      rintro e w3 ⟨rfl,hb3⟩
      go_wp2
      go_ret3
      rw [Hn.out]
      exact ⟨rfl,(hb1.trans (hb2.mono hb1.size)).trans (hb3.mono (by have:=hb1.size;have:=hb2.size;omega))⟩
     ·have d2:decide (2147483647<z)=false:=Qf h2
      rw [if_neg (by omega)] at Hn
      clear h1 h2
      go_enter Tryz.func50,Tryz.ntmps50
      go_wp2_with fail
      refine Hu.out.mono ?_
      rintro e w1 ⟨rfl,hb1⟩
      go_wp2_with fail
      refine (Hd.out _).mono ?_
      rintro e w2 ⟨rfl,hb2⟩
      go_wp2_with fail
      refine (Hat.out _).mono ?_
      rintro e w3 ⟨rfl,hb3⟩
      go_wp2
      go_ret3
      rw [Hn.out]
      exact ⟨Xx0 rfl rfl,(hb1.trans (hb2.mono hb1.size)).trans (hb3.mono (by have:=hb1.size;have:=hb2.size;omega))⟩
   ·have hno:∀n,Lib.atoiAll t≠ .ok n:=fun n h=>by rw [hz] at h;cases h
    have Hat:=Qh (fun w hw=>Xd4 I hI t (by omega) hno w hw)
    rw [if_pos (by omega)] at Hn
    clear hd hz hv hno
    go_enter Tryz.func50,Tryz.ntmps50
    go_wp2_with fail
    refine Hu.out.mono ?_
    rintro e w1 ⟨rfl,hb1⟩
    go_wp2_with fail
    refine (Hd.out _).mono ?_
    rintro e w2 ⟨rfl,hb2⟩
    have hb12:=hb1.trans (hb2.mono hb1.size)
    go_wp2_with fail
    refine (Hat.out _ (hw.below (Qn _) hb12)).mono ?_
    rintro e w3 ⟨z,N,rfl,hb3⟩
    go_wp2
    go_ret3
    rw [Hn.out]
    exact ⟨rfl,hb12.trans (hb3.mono hb12.size)⟩
theorem Xu1 {t:Bytes} (h:decOkT t=true):t≠ []:=fun e=>by subst e;cases h
theorem Xxi {t:Bytes} (h:t≠ []):negT t=(((t.getD 0 0).toNat:Int)==45):=by
 cases t with
 |nil=>exact absurd rfl h
 |cons c r=>
  unfold negT
  by_cases hc:c=45
  ·subst hc;rfl
  ·have h1:((c::r).head? ==some 45)=false:=by simpa using hc
   have h2:((((c::r).getD 0 0).toNat:Int)==45)=false:=by
    have:(c.toNat:Int)≠45:=fun e=>hc (UInt8.toNat_inj.1 (by have:(45:UInt8).toNat=45:=rfl;omega))
    simpa using this
   rw [h1,h2]
set_option maxRecDepth 100000 in
set_option maxHeartbeats 1000000 in
theorem Xc1 (I:IH) (hI:Glob I) (s:Bytes) (hs:s.length≤4294967280) (a:Nat) (ha:a≤9223372036854775807) (w:World) (hw:Ok I w):
 Calls Tryz.prog 52 #[S s,.int .i64 a] w fun e w'=>e= .returned (sV (rdStr s a))∧Below w.heap.size w w':=by
 have Hu:=Qh (show Calls Tryz.prog 102 #[S s,.int .i64 a,.int .u8 58] w fun e w'=>e= .returned (sV (rdUntil s a 58))∧Below w.heap.size w w' from Xlc s hs a ha 58 w)
 have Hr:=Qh (show rdStr s a=Rb (rdUntil s a 58) fun p=>strOf s p.1 p.2 from rfl)
 cases hu:rdUntil s a 58 with
 |error x=>
  rw [hu] at Hr
  rw [hu,Xtr] at Hu
  have hx:(x != 0)=true:=by rcases Xdl hu with rfl|rfl<;>rfl
  clear hu
  go_enter Tryz.func52,Tryz.ntmps52
  go_wp2_with fail
  refine Hu.out.mono ?_
  rintro e w1 ⟨rfl,hb1⟩
  go_wp2
  go_ret3
  rw [Hr.out]
  exact ⟨rfl,hb1⟩
 |ok p=>
  obtain ⟨t,n⟩:=p
  rw [hu] at Hr
  rw [hu,Xts] at Hu
  have hue:=Xcm hu
  have hn:=hue.2.1
  have htl:=hue.2.2.1
  clear hue
  have Hd:=Qh (Xhw t (by omega))
  clear hu
  cases hd:decOkT t with
  |false=>
   rw [hd] at Hd
   have Hn:=Qh (show rdStr s a= .error 3 by rw [Hr.out,Rb_ok,strOf,Xej,hd];rfl)
   clear hd
   go_enter Tryz.func52,Tryz.ntmps52
   go_wp2_with fail
   refine Hu.out.mono ?_
   rintro e w1 ⟨rfl,hb1⟩
   go_wp2_with fail
   refine (Hd.out _).mono ?_
   rintro e w2 ⟨rfl,hb2⟩
   have hb12:=hb1.trans (hb2.mono hb1.size)
   go_wp2
   go_ret3
   rw [Hn.out]
   exact ⟨rfl,hb12⟩
  |true=>
   rw [hd] at Hd
   have hne:=Xu1 hd
   have hlen:=List.length_pos_iff.2 hne
   have hng:=Xxi hne
   have hx0:=run_at (P:=Tryz.prog) Tryz.underlying9 t 0 0 rfl hlen
   cases hneg:negT t with
   |true=>
    rw [hneg] at hng
    have Hn:=Qh (show rdStr s a= .error 3 by rw [Hr.out,Rb_ok,strOf,Xej,hd,hneg];rfl)
    have k1:=hng.symm
    clear hd hne hng hneg
    generalize (t.getD 0 0).toNat=c at hx0 k1
    go_enter Tryz.func52,Tryz.ntmps52
    go_wp2_with fail
    refine Hu.out.mono ?_
    rintro e w1 ⟨rfl,hb1⟩
    go_wp2_with fail
    refine (Hd.out _).mono ?_
    rintro e w2 ⟨rfl,hb2⟩
    have hb12:=hb1.trans (hb2.mono hb1.size)
    go_wp2
    go_ret3
    rw [Hn.out]
    exact ⟨rfl,hb12⟩
   |false=>
    rw [hneg] at hng
    have hnat:natOk t=true:=by rw [Xej,hd,hneg];rfl
    have Hn:=Qh (show rdStr s a=if s.length-n≤digN 0 t then .error 4 else if s.getD (n+digN 0 t) 0≠44 then .error 3 else .ok ((s.drop n).take (digN 0 t),n+digN 0 t+1) by rw [Hr.out,Rb_ok,strOf,hnat];rfl)
    have hval:=Xjo hnat
    have hat:=Xpl hd
    have k1:=hng.symm
    rw [hval] at hat
    clear hd hne hng hneg hnat hval
    generalize (t.getD 0 0).toNat=c at hx0 k1
    rcases hat with ⟨z,hz,hv⟩|⟨hz,hv⟩
    ·have Hat:=Qh (fun w=>Xdn t (by omega) z hz w)
     generalize digN 0 t=m at Hn hv
     subst hv
     clear hz
     have i1:IntKind.i64.wrap ((s.length:Int)-(n:Int))=(s.length:Int)-n:=IntWalk.i64_in _ (by omega)
     by_cases h1:s.length-n≤m
     ·rw [if_pos h1] at Hn
      have d1:decide ((s.length:Int)-(n:Int)≤(m:Int))=true:=Qt (by omega)
      clear h1
      go_enter Tryz.func52,Tryz.ntmps52
      go_wp2_with fail
      refine Hu.out.mono ?_
      rintro e w1 ⟨rfl,hb1⟩
      go_wp2_with fail
      refine (Hd.out _).mono ?_
      rintro e w2 ⟨rfl,hb2⟩
      have hb12:=hb1.trans (hb2.mono hb1.size)
      go_wp2_with fail
      refine (Hat.out _).mono ?_
      rintro e w3 ⟨rfl,hb3⟩
      go_wp2
      go_ret3
      rw [Hn.out]
      exact ⟨rfl,hb12.trans (hb3.mono hb12.size)⟩
     ·rw [if_neg h1] at Hn
      have d1:decide ((s.length:Int)-(n:Int)≤(m:Int))=false:=Qf (by omega)
      have hlt:n+m<s.length:=by omega
      have i2:IntKind.i64.wrap ((n:Int)+(m:Int))=(n:Int)+m:=IntWalk.i64_in _ (by omega)
      have hx1:=run_at (P:=Tryz.prog) Tryz.underlying9 s ((n:Int)+(m:Int)) (n+m) (by omega) hlt
      by_cases h2:s.getD (n+m) 0=44
      ·rw [if_neg (by simpa using h2)] at Hn
       have k2:(((s.getD (n+m) 0).toNat:Int) != 44)=false:=by rw [h2];rfl
       clear h2 h1
       generalize (s.getD (n+m) 0).toNat=c2 at hx1 k2
       go_enter Tryz.func52,Tryz.ntmps52
       go_wp2_with fail
       refine Hu.out.mono ?_
       rintro e w1 ⟨rfl,hb1⟩
       go_wp2_with fail
       refine (Hd.out _).mono ?_
       rintro e w2 ⟨rfl,hb2⟩
       have hb12:=hb1.trans (hb2.mono hb1.size)
       go_wp2_with fail
       refine (Hat.out _).mono ?_
       rintro e w3 ⟨rfl,hb3⟩
       go_wp2
       go_ret3
       rw [Hn.out]
       exact ⟨Xxd (by rw [show n+m-n=m by omega]) (by omega),hb12.trans (hb3.mono hb12.size)⟩
      ·rw [if_pos h2] at Hn
       have k2:(((s.getD (n+m) 0).toNat:Int) != 44)=true:=by
        have:((s.getD (n+m) 0).toNat:Int)≠44:=fun e=>h2 (UInt8.toNat_inj.1 (by have:(44:UInt8).toNat=44:=rfl;omega))
        simpa using this
       clear h2 h1
       generalize (s.getD (n+m) 0).toNat=c2 at hx1 k2
       go_enter Tryz.func52,Tryz.ntmps52
       go_wp2_with fail
       refine Hu.out.mono ?_
       rintro e w1 ⟨rfl,hb1⟩
       go_wp2_with fail
       refine (Hd.out _).mono ?_
       rintro e w2 ⟨rfl,hb2⟩
       have hb12:=hb1.trans (hb2.mono hb1.size)
       go_wp2_with fail
       refine (Hat.out _).mono ?_
       rintro e w3 ⟨rfl,hb3⟩
       go_wp2
       go_ret3
       rw [Hn.out]
       exact ⟨rfl,hb12.trans (hb3.mono hb12.size)⟩
    ·have hno:∀n,Lib.atoiAll t≠ .ok n:=fun n h=>by rw [hz] at h;cases h
     have Hat:=Qh (fun w hw=>Xd4 I hI t (by omega) hno w hw)
     rw [if_pos (by omega)] at Hn
     clear hz hv hno
     go_enter Tryz.func52,Tryz.ntmps52
     go_wp2_with fail
     refine Hu.out.mono ?_
     rintro e w1 ⟨rfl,hb1⟩
     go_wp2_with fail
     refine (Hd.out _).mono ?_
     rintro e w2 ⟨rfl,hb2⟩
     have hb12:=hb1.trans (hb2.mono hb1.size)
     go_wp2_with fail
     refine (Hat.out _ (hw.below (Qn _) hb12)).mono ?_
     rintro e w3 ⟨z,N,rfl,hb3⟩
     go_wp2
     go_ret3
     rw [Hn.out]
     exact ⟨rfl,hb12.trans (hb3.mono hb12.size)⟩
section
variable {P:Program} {ops:Array Oper} {md:Region.Mode} {Q:Exit→Act→World→Prop}
def leftN (s:Array Bool):Nat:=s.toList.countP (!·)
theorem Xjj:∀(l:List Bool) (i:Nat),l[i]? =some false→(l.set i true).countP (!·)+1=l.countP (!·)
 | [],_,h=>absurd h (by simp)
 |b::l,0,h=>by
  simp at h
  subst h
  simp
 |b::l,i+1,h=>by
  have:=Xjj l i (by simpa using h)
  simp only [List.set_cons_succ,List.countP_cons]
  omega
theorem Xjb {s:Array Bool} {i:Nat} (h:s.getD i true=false):s.toList[i]? =some false:=by
 rw [Array.getElem?_toList]
 rw [Array.getD_eq_getD_getElem?] at h
 cases hs:s[i]? with
 |none=>rw [hs] at h;simp at h
 |some b=>rw [hs] at h;simpa using h
theorem Xlh {s:Array Bool} {i:Nat} (h:s.getD i true=false):leftN (s.setIfInBounds i true)+1=leftN s:=by
 unfold leftN
 rw [Array.toList_setIfInBounds]
 exact Xjj _ _ (Xjb h)
theorem Xrt {s:Array Bool} {i:Nat} (h:s.getD i true=false):0<leftN s:=by have:=Xlh h;omega
theorem Xqo {J:Array Bool→Act→World→Prop} (hstep:∀s a w i,J s a w→i∈Region.ready md ops s→wpOp P ops Q i (fun a' w'=>J (s.setIfInBounds i true) a' w') a w)
 (hend:∀s a w,J s a w→Region.ready md ops s= []→Q .normal a w):∀(f:Nat) (s:Array Bool) (a:Act) (w:World),leftN s≤f→J s a w→wpAny P md ops Q f s a w:=by
 intro f
 induction f with
 |zero=>
  intro s a w hf hJ
  have hr:Region.ready md ops s= []:=by
   cases h:Region.ready md ops s with
   |nil=>rfl
   |cons j l=>
    have:=Xrt (mem_ready.1 (show j∈Region.ready md ops s by rw [h];exact List.mem_cons_self ..)).1
    omega
  exact ⟨hr,hend s a w hJ hr⟩
 |succ f ih=>
  intro s a w hf hJ
  refine ⟨hend s a w hJ,fun i hi=>wpOp_mono (fun a' w' h=>ih _ _ _ ?_ h) (hstep s a w i hJ hi)⟩
  have:=Xlh (mem_ready.1 hi).1
  omega
theorem Xni (n:Nat):leftN (Array.replicate n false)=n:=by
 simp [leftN,List.countP_replicate]
theorem Xjn {id:Nat} {a:Act} {w:World} (J:Array Bool→Act→World→Prop) (hm:P.follows .mixedOrders=true) (h0:J (Array.replicate ops.size false) a { w with drawn:=w.drawn+1 })
 (hstep:∀s a w i,J s a w→i∈Region.ready .any ops s→wpOp P ops Q i (fun a' w'=>J (s.setIfInBounds i true) a' w') a w)
 (hend:∀s a w,J s a w→Region.ready .any ops s= []→Q .normal a w):(Code.region id ops true).wp P Q a w:=
 wp_region_any hm (Xqo hstep hend _ _ _ _ (by rw [Xni];exact Qn _) h0)
def fillA:List (Option Tmp × Value)→Nat→Array Bool→Act→Act
 | [],_,_,a=>a
 |(d,v)::l,k,s,a=>fillA l (k+1) s (if s.getD k false then a.put d v else a)
theorem Xrf (a:Act) {d e:Option Tmp} (u v:Value) (h:∀t,d=some t→e≠some t):(a.put d u).put e v=(a.put e v).put d u:=by
 cases d with
 |none=>rfl
 |some d=>
  cases e with
  |none=>rfl
  |some e=>
   have hne:d≠e:=fun h'=>h d rfl (by rw [h'])
   simp only [Act.put]
   rw [Array.setIfInBounds_comm _ _ hne]
def ApartF (l:List (Option Tmp × Value)):Prop:=l.Pairwise fun p q=> ∀t,p.1=some t→q.1≠some t
theorem Xj7:∀(l:List (Option Tmp × Value)) (k:Nat) (s:Array Bool) (a:Act) (d:Option Tmp) (v:Value),(∀p∈l,∀t,d=some t→p.1≠some t)→fillA l k s (a.put d v)=(fillA l k s a).put d v
 | [],_,_,_,_,_,_=>rfl
 |(e,u)::l,k,s,a,d,v,h=>by
  rw [fillA,fillA]
  split
  ·rw [Xrf a v u (h (e,u) (List.mem_cons_self ..)),Xj7 l _ _ _ _ _ fun p hp=>h p (List.mem_cons_of_mem _ hp)]
  ·rw [Xj7 l _ _ _ _ _ fun p hp=>h p (List.mem_cons_of_mem _ hp)]
theorem Xjc:∀(l:List (Option Tmp × Value)) (k:Nat) (s:Array Bool) (a:Act) (i:Nat),i<k→fillA l k (s.setIfInBounds i true) a=fillA l k s a
 | [],_,_,_,_,_=>rfl
 |(e,u)::l,k,s,a,i,h=>by
  rw [fillA,fillA,getD_set_ne false (by omega),Xjc l (k+1) s _ i (by omega)]
theorem Xo3:∀(l:List (Option Tmp × Value)) (k i:Nat) (s:Array Bool) (a:Act) (d:Option Tmp) (v:Value),ApartF l→l[i]? =some (d,v)→s.getD (k+i) true=false→(fillA l k s a).put d v=fillA l k (s.setIfInBounds (k+i) true) a
 | [],_,_,_,_,_,_,_,h,_=>absurd h (by simp)
 |(e,u)::l,k,0,s,a,d,v,hp,h,hs=>by
  simp at h
  obtain ⟨rfl,rfl⟩:=h
  have hf:s.getD k false=false:=by
   rw [Nat.add_zero] at hs
   rw [Array.getD_eq_getD_getElem?] at hs ⊢
   cases hk:s[k]? with
   |none=>rw [hk] at hs;simp at hs
   |some b=>rw [hk] at hs;simpa using hs
  have ht:(s.setIfInBounds k true).getD k false=true:=by
   have hlt:k<s.size:=by
    rw [Nat.add_zero] at hs
    have:=Xjb hs
    have:=(List.getElem?_eq_some_iff.1 this).1
    simpa using this
   simp [Array.getD_eq_getD_getElem?,hlt]
  simp only [Nat.add_zero]
  rw [fillA,fillA,ht,hf]
  simp only [Bool.false_eq_true,if_false,if_true]
  rw [Xjc l (k+1) s _ k (by omega),Xj7]
  exact fun p hm t=>(List.pairwise_cons.1 hp).1 p hm t
 |(e,u)::l,k,i+1,s,a,d,v,hp,h,hs=>by
  rw [fillA,fillA,getD_set_ne false (by omega),show k+(i+1)=k+1+i by omega]
  exact Xo3 l (k+1) i s _ d v (List.pairwise_cons.1 hp).2 (by simpa using h) (by rw [←hs];congr 1;omega)
theorem Xhr (a:Act) {d:Option Tmp} {t:Tmp} (v:Value) (h:d≠some t):(a.put d v).eval (.tmp t)=a.eval (.tmp t):=
 Act.eval_put fun d' hd e=>h (by rw [hd];injection e with e;rw [e])
theorem Xom (a:Act) (d:Option Tmp) (v:Value):(a.put d v).tmps.size=a.tmps.size:=by cases d<;>simp [Act.put]
theorem Xcz:∀(l:List (Option Tmp × Value)) (k:Nat) (s:Array Bool) (a:Act) (t:Tmp),(∀p∈l,p.1≠some t)→(fillA l k s a).eval (.tmp t)=a.eval (.tmp t)
 | [],_,_,_,_,_=>rfl
 |(e,u)::l,k,s,a,t,h=>by
  rw [fillA,Xcz l _ _ _ _ fun p hp=>h p (List.mem_cons_of_mem _ hp)]
  split
  ·exact Xhr a u (h (e,u) (List.mem_cons_self ..))
  ·rfl
theorem Xlv:∀(l:List (Option Tmp × Value)) (k i:Nat) (s:Array Bool) (a:Act) (t:Tmp) (v:Value),ApartF l→l[i]? =some (some t,v)→s.getD (k+i) false=true→t<a.tmps.size→(fillA l k s a).eval (.tmp t)=v
 | [],_,_,_,_,_,_,_,h,_,_=>absurd h (by simp)
 |(e,u)::l,k,0,s,a,t,v,hp,h,hs,ht=>by
  simp at h
  obtain ⟨rfl,rfl⟩:=h
  rw [Nat.add_zero] at hs
  rw [fillA,hs,if_pos rfl,Xcz l _ _ _ _ fun p hm e=>(List.pairwise_cons.1 hp).1 p hm t rfl e]
  simp [Act.put,Act.eval,Array.getD_eq_getD_getElem?,ht]
 |(e,u)::l,k,i+1,s,a,t,v,hp,h,hs,ht=>by
  rw [fillA]
  refine Xlv l (k+1) i s _ t v (List.pairwise_cons.1 hp).2 (by simpa using h) (by rw [←hs];congr 1;omega) ?_
  split
  ·rw [Xom];exact ht
  ·exact ht
theorem Xei:∀(l m:List (Option Tmp × Value)) (k:Nat) (s:Array Bool) (a:Act),l.length=m.length→(∀i,s.getD (k+i) false=true→l[i]? =m[i]?)→fillA l k s a=fillA m k s a
 | [],[],_,_,_,_,_=>rfl
 | [],_::_,_,_,_,h,_=>absurd h (by simp)
 |_::_,[],_,_,_,h,_=>absurd h (by simp)
 |(e,u)::l,(f,v)::m,k,s,a,hl,h=>by
  rw [fillA,fillA]
  have hrest:∀a',fillA l (k+1) s a'=fillA m (k+1) s a':=fun a'=>Xei l m (k+1) s a' (by simpa using hl) fun i hi=>by
   have:=h (i+1) (by rw [←hi];congr 1;omega)
   simpa using this
  cases hk:s.getD k false
  ·simp only [Bool.false_eq_true,if_false];exact hrest a
  ·have:=h 0 hk
   simp at this
   obtain ⟨rfl,rfl⟩:=this
   simp only [if_true];exact hrest _
theorem Xse (l:List (Option Tmp × Value)) (a:Act):∀(k n:Nat),fillA l k (Array.replicate n false) a=a:=by
 induction l generalizing a with
 |nil=>intro k n;rfl
 |cons p l ih=>
  intro k n
  obtain ⟨d,v⟩:=p
  have:(Array.replicate n false).getD k false=false:=by
   rw [Array.getD_eq_getD_getElem?]
   rw [Array.getElem?_replicate]
   split<;>rfl
  rw [fillA,this]
  simp only [Bool.false_eq_true,if_false]
  exact ih a _ _
end
section
variable {P:Program} {ops:Array Oper} {Q:Exit→Act→World→Prop}
def backB (ops:Array Oper):Bool:=(List.range ops.size).all fun i=>((ops[i]?).map fun o=>o.after.all fun e=>decide (e.on<i)).getD true
def fillAll:List (Option Tmp × Value)→Act→Act
 | [],a=>a
 |(d,v)::l,a=>fillAll l (a.put d v)
theorem Xbe:∀(l:List (Option Tmp × Value)) (k:Nat) (s:Array Bool) (a:Act),(∀i,i<l.length→s.getD (k+i) false=true)→fillA l k s a=fillAll l a
 | [],_,_,_,_=>rfl
 |(d,v)::l,k,s,a,h=>by
  have h0:=h 0 (by simp)
  rw [Nat.add_zero] at h0
  rw [fillA,h0,if_pos rfl,fillAll]
  exact Xbe l (k+1) s _ fun i hi=>by
   have:=h (i+1) (by simp;omega)
   rw [←this];congr 1;omega
end
section
variable {P:Program} {α:Type} {T:Ty α} {I:IH}
theorem Xhj {t ty e:TypeId} {i:TypeInfo} (ht:P.underlying t=some (.slice e)) (hi:P.info? e=some i) (w:World) (b ao:Option Addr) (n cap c:Nat) (hn:n≤cap):
 (Builtin.append_ #[t,t] ty #[.slice b n cap,.slice ao 0 c]).run P w= .ok (.slice b n cap) w:=by
 cases b<;>cases ao<;>simp [Builtin.append_,run_underlying ht,sizeOf,typeInfo,hi,Builtin.lenOf,Builtin.firstCells,loadCells,loadCellsFrom,hn,storeCells]
def SrcS (T:Ty α) (I:IH) (w:World) (v:Value) (l:List α):Prop:=
 ∃ao c cs,v= .slice ao l.length c∧LiesL T I cs l∧(0<l.length→ ∃ad,ao=some ad∧ ∀j u,cs[j]? =some u→w.cell? (ad.add j)=some u)
theorem SrcS.of_rd {w:World} {v:Value} {l:List α} (h:RdS T I v l) (hw:Ok I w) (hs:0<T.size):SrcS T I w v l:=by
 obtain ⟨ao,cap,xs,hv,_,_,hl,hc⟩:=h.cells hw hs
 refine ⟨ao,cap,xs,hv,hl,fun h0=> ?_⟩
 obtain ⟨b,off,arr,rfl,_,_,hcs⟩:=hc h0
 exact ⟨_,rfl,fun j u hu=>by rw [Addr.add_lit];exact hcs j u hu⟩
theorem SrcS.of_one {w:World} {x:α} {cs:List Value} {g:Nat} (hx:T.rd I cs x) (hc:∀j u,cs[j]? =some u→w.cell? ⟨g,j,none⟩=some u):SrcS T I w (.slice (some ⟨g,0,none⟩) 1 1) [x]:=
 ⟨_,_,cs,rfl,LiesL.one hx,fun _=>⟨_,rfl,fun j u hu=>by rw [Addr.add_lit,Nat.zero_add];exact hc j u hu⟩⟩
theorem Xks {ts te ty:TypeId} {bytes:Nat} (hE:ElemOk P ts te T bytes) {w:World} {B:Nat} {v:Value} {l:List α} (hown:OwnS T te I w B v l) {vx:Value} {ys:List α} (hy:SrcS T I w vx ys)
 (hbig:(l.length+ys.length)*bytes≤140737488355328) (hl:l.length+ys.length≤9223372036854775807) (hB:B≤w.heap.size):
 ∃v' w',(Builtin.append_ #[ts,ts] ty #[v,vx]).run P w= .ok v' w'∧OwnS T te I w' B v' (l++ys)∧w.grownBy w' v.ownBlock:=by
 obtain ⟨i,z,h1,h2,h3,h4,h5,h6,h7⟩:=hE
 obtain ⟨ao,c,cs,rfl,k1,k2⟩:=hy
 obtain ⟨xs,k3,k4⟩:=hown
 rcases Nat.eq_zero_or_pos ys.length with h0|h0
 ·have:ys= []:=List.eq_nil_of_length_eq_zero h0
  subst this
  have hv:∃b n cap,v= .slice b n cap∧n≤cap:=by
   rcases k3.2 with ⟨h8,_⟩|⟨g,cap,cur,h8,_,_,h9,_⟩
   ·exact ⟨_,_,_,h8,Qn _⟩
   ·exact ⟨_,_,_,h8,h9⟩
  obtain ⟨b,n,cap,rfl,hn⟩:=hv
  refine ⟨_,w,Xhj h1 h2 w b ao n cap c hn,⟨xs,by rw [List.append_nil];exact k3,by rw [List.append_nil];exact k4⟩,⟨rfl,rfl,rfl,Qn _,fun _ _ _=>rfl⟩⟩
 ·obtain ⟨ad,rfl,hcs⟩:=k2 h0
  obtain ⟨v',w',hr,r1,r2,_⟩:=run_append_own (P:=P) w B ts ty te i z T.size bytes h1 h2 h3 h4 h5 h6 h7 v l.length xs k3 ad ys.length c cs k1.1 hcs k1.oneCell (by unfold maxLen;omega) hbig hB
  exact ⟨v',w',hr,⟨xs++cs,by rw [List.length_append];exact r1,k4.append k1⟩,r2⟩
theorem Xap {ts te:TypeId} {bytes:Nat} (hE:ElemOk P ts te T bytes) {w:World} {ops:Array Oper} {o:Oper} {a:Act} {K:Act→World→Prop} {Q:Exit→Act→World→Prop} {E:Prop} (hgd:o.guard=none) (s x:Operand)
 (ho:o.op= .call { callee:= .builtin .append,args:= #[s,x],argTypes:= #[ts,ts] }) {B:Nat} {v:Value} {l:List α} (hs:a.eval s=v) (hown:OwnS T te I w B v l) {vx:Value} {ys:List α} (hx:a.eval x=vx) (hy:SrcS T I w vx ys)
 (hbig:(l.length+ys.length)*bytes≤140737488355328) (hl:l.length+ys.length≤9223372036854775807) (hB:B≤w.heap.size)
 (h:∀v' w',OwnS T te I w' B v' (l++ys)→w.grownBy w' v.ownBlock→K (a.put o.dst v') w'):
 if Region.wanted o (yielded ops a.tmps)=true then Oper.wp P o a w K Q else E:=by
 obtain ⟨v',w',hr,h1,h2⟩:=Xks (ty:=o.type) hE hown hy hbig hl hB
 rw [if_pos (by simp [Region.wanted,hgd])]
 unfold Oper.wp execOp
 simp only [ho,resolve,invoke,builtin,Sem.run_bind,Sem.run_pure,Result.andThen_ok,List.map_toArray,List.map_cons,List.map_nil,hs,hx,hr]
 exact h v' w' h1 h2
end
theorem Xak {L:List (Option Tmp × Value)} {s:Array Bool} {a a':Act} {i:Nat} {d:Option Tmp} {v:Value} (hp:ApartF L) (ha:a'=fillA L 0 s a) (hi:L[i]? =some (d,v)) (hun:s.getD i true=false):a'.put d v=fillA L 0 (s.setIfInBounds i true) a:=by
 have h:=Xo3 L 0 i s a d v hp hi (by rw [Nat.zero_add];exact hun)
 rw [ha,h,Nat.zero_add]
theorem Xba {L:List (Option Tmp × Value)} {s:Array Bool} {a a':Act} {i:Nat} {t:Tmp} {v:Value} (hp:ApartF L) (ha:a'=fillA L 0 s a) (hi:L[i]? =some (some t,v)) (hs:s.getD i false=true) (ht:t<a.tmps.size):a'.tmps[t]?.getD undef=v:=by
 have h:=Xlv L 0 i s a t v hp hi (by rw [Nat.zero_add];exact hs) ht
 rw [←ha] at h
 simpa [Act.eval] using h
theorem Xbt {L:List (Option Tmp × Value)} {s:Array Bool} {a a':Act} {t:Tmp} (ha:a'=fillA L 0 s a) (h:∀p∈L,p.1≠some t):a'.tmps[t]?.getD undef=a.tmps[t]?.getD undef:=by
 have h:=Xcz L 0 s a t h
 rw [←ha] at h
 simpa [Act.eval] using h
theorem Xco {s:Array Bool} {i:Nat} (h:s.getD i true=false):s.getD i false=false:=by
 rw [Array.getD_eq_getD_getElem?] at h ⊢
 cases hs:s[i]? with
 |none=>rfl
 |some b=>rw [hs] at h;simpa using h
theorem Xjp {s:Array Bool} {i:Nat} (h:s.getD i true=false):i<s.size:=by
 rcases Nat.lt_or_ge i s.size with h'|h'
 ·exact h'
 ·rw [Array.getD_eq_getD_getElem?,Array.getElem?_eq_none h'] at h;simp at h
theorem Xa8 (n i:Nat):(Array.replicate n false).getD i false=false:=by
 rw [Array.getD_eq_getD_getElem?,Array.getElem?_replicate]
 split<;>rfl
theorem Xcp {s:Array Bool} {i:Nat} (h:i<s.size):(s.setIfInBounds i true).getD i false=true:=by
 rw [Array.getD_eq_getD_getElem?,Array.getElem?_setIfInBounds_self_of_lt h];rfl
theorem Xv6 {L M:List (Option Tmp × Value)} {s:Array Bool} {a:Act} (i:Nat) (hl:L.length=M.length) (h:∀j,j≠i→L[j]? =M[j]?) (hun:s.getD i true=false):fillA L 0 s a=fillA M 0 s a:=
 Xei _ _ _ _ _ hl fun j hj=>by
  rw [Nat.zero_add] at hj
  exact h j fun e=>by rw [e,Xco hun] at hj;cases hj
def backB2 (ops:Array Oper):Bool:=(List.range ops.size).all fun i=>((ops[i]?).map fun o=>o.after.all fun e=> !(Region.binds .any e) || decide (e.on<i)).getD true
theorem Xxb {ops:Array Oper} {s:Array Bool} (hb:backB2 ops=true) (hr:Region.ready .any ops s= []) (hsz:s.size=ops.size):∀i,i<ops.size→s.getD i false=true:=by
 intro i
 induction i using Nat.strongRecOn with
 |_ i ih=>
  intro hi
  cases hs:s.getD i false with
  |true=>rfl
  |false=>
   exfalso
   have hs':s.getD i true=false:=by
    rw [Array.getD_eq_getD_getElem?] at hs ⊢
    have hlt:i<s.size:=by omega
    rw [Array.getElem?_eq_getElem hlt] at hs ⊢
    simpa using hs
   have:i∈Region.ready .any ops s:=mem_ready.2 ⟨hs',ops[i],Array.getElem?_eq_getElem hi,fun e he hbd=> ?_⟩
   ·rw [hr] at this;exact absurd this (by simp)
   ·have h:=List.all_eq_true.1 hb i (List.mem_range.2 hi)
    rw [Array.getElem?_eq_getElem hi] at h
    simp only [Option.map_some,Option.getD_some] at h
    obtain ⟨j,hj,rfl⟩:=Array.getElem_of_mem he
    have h2:=Array.all_eq_true.1 h j hj
    rw [hbd] at h2
    have h3:ops[i].after[j].on<i:=by simpa using h2
    exact ih _ h3 (by omega)
theorem Xg9 {P:Program} {ops:Array Oper} {Q:Exit→Act→World→Prop} {X:Type} {id:Nat} {a:Act} {w:World} (L:X→List (Option Tmp × Value)) (C:X→Array Bool→World→Prop) (hm:P.follows .mixedOrders=true) (hb:backB2 ops=true) (h0:∃x,C x (Array.replicate ops.size false) { w with drawn:=w.drawn+1 })
 (hstep:∀x s a' w' i,s.size=ops.size→a'=fillA (L x) 0 s a→C x s w'→i∈Region.ready .any ops s→wpOp P ops Q i (fun a'' w''=> ∃y,a''=fillA (L y) 0 (s.setIfInBounds i true) a∧C y (s.setIfInBounds i true) w'') a' w')
 (hend:∀x s a' w',(∀i,i<ops.size→s.getD i false=true)→a'=fillA (L x) 0 s a→C x s w'→Q .normal a' w'):(Code.region id ops true).wp P Q a w:=by
 refine Xjn (fun s a' w'=>s.size=ops.size∧ ∃x,a'=fillA (L x) 0 s a∧C x s w') hm ?_ ?_ ?_
 ·obtain ⟨x,hx⟩:=h0
  exact ⟨by simp,x,(Xse _ _ _ _).symm,hx⟩
 ·rintro s a' w' i ⟨hsz,x,ha,hx⟩ hi
  exact wpOp_mono (fun a'' w'' ⟨y,h1,h2⟩=>⟨by simpa using hsz,y,h1,h2⟩) (hstep x s a' w' i hsz ha hx hi)
 ·rintro s a' w' ⟨hsz,x,ha,hx⟩ hr
  exact hend x s a' w' (Xxb hb hr hsz) ha hx
structure A2X where
 e:Nat
 b:Nat
 v1:Value
 v2:Value
structure A2C {α:Type} (T:Ty α) (E:TypeId) (I:IH) (w3:World) (l:List α) (y:α) (row:Array Value) (i0 i2 i4 i5:Nat) (x:A2X) (s:Array Bool) (w:World):Prop where
 bel:Below w3.heap.size w3 w
 p0:s.getD i0 false=true→s.getD i2 false=false→OwnS T E I w w3.heap.size (.slice (some ⟨x.e,0,none⟩) 0 0) []
 p2:s.getD i2 false=true→s.getD i5 false=false→OwnS T E I w w3.heap.size x.v1 l
 p4:s.getD i4 false=true→s.getD i5 false=false→w.heap[x.b]? =some (.cells row E (0,0))
 p5:s.getD i5 false=true→OwnS T E I w w3.heap.size x.v2 (l++ [y])
 n0:s.getD i0 false=true→s.getD i2 false=false→s.getD i4 false=true→x.e≠x.b
 n2:s.getD i2 false=true→s.getD i4 false=true→s.getD i5 false=false→x.v1.ownBlock≠some x.b
 o2:s.getD i2 false=true→s.getD i0 false=true
 o5:s.getD i5 false=true→s.getD i2 false=true∧s.getD i4 false=true
section
variable {α:Type} {T:Ty α} {E:TypeId} {I:IH} {w3 w w':World} {l:List α} {y:α} {row:Array Value} {i0 i2 i4 i5:Nat} {x:A2X} {s:Array Bool}
end
structure QbC (W:World) (last j1 j2:Nat) (cs1 cs2:List (Nat × Value)) (fin:World→Prop) (x:Nat × Nat) (s:Array Bool) (w:World):Prop where
 bel:s.getD last false=false→Below W.heap.size W w
 f1:s.getD j1 false=true→s.getD last false=false→ ∀p∈cs1,w.cell? ⟨x.1,p.1,none⟩=some p.2
 f2:s.getD j2 false=true→s.getD last false=false→ ∀p∈cs2,w.cell? ⟨x.2,p.1,none⟩=some p.2
 fin:s.getD last false=true→fin w
section
variable {W w w':World} {last j1 j2:Nat} {cs1 cs2:List (Nat × Value)} {fin:World→Prop} {x:Nat × Nat} {s:Array Bool}
theorem QbC.start (n:Nat) (x:Nat × Nat):QbC W last j1 j2 cs1 cs2 fin x (Array.replicate n false) { W with drawn:=W.drawn+1 }:=
 ⟨fun _=>(Qb _ _).drew,fun h=>(by rw [Xa8] at h;cases h),fun h=>(by rw [Xa8] at h;cases h),fun h=>(by rw [Xa8] at h;cases h)⟩
theorem QbC.step (h:QbC W last j1 j2 cs1 cs2 fin x s w) (hl:s.getD last false=false) (hb:Below w.heap.size w w') {i:Nat} (h1:i≠j1) (h2:i≠j2) (h3:i≠last):QbC W last j1 j2 cs1 cs2 fin x (s.setIfInBounds i true) w':=by
 refine ⟨fun _=>(h.bel hl).trans (hb.mono (h.bel hl).size),?_,?_,?_⟩
 ·rw [getD_set_ne false h1]
  exact fun a _ p hp=>Xaa hb (h.f1 a hl p hp)
 ·rw [getD_set_ne false h2]
  exact fun a _ p hp=>Xaa hb (h.f2 a hl p hp)
 ·rw [getD_set_ne false h3,hl]
  intro q
  cases q
theorem QbC.at1 (h:QbC W last j1 j2 cs1 cs2 fin x s w) (hl:s.getD last false=false) (hb:Below w.heap.size w w') (h2:j1≠j2) (h3:j1≠last) {n:Nat} (hc:∀p∈cs1,w'.cell? ⟨n,p.1,none⟩=some p.2):QbC W last j1 j2 cs1 cs2 fin (n,x.2) (s.setIfInBounds j1 true) w':=by
 refine ⟨fun _=>(h.bel hl).trans (hb.mono (h.bel hl).size),fun _ _=>hc,?_,?_⟩
 ·rw [getD_set_ne false h2]
  exact fun a _ p hp=>Xaa hb (h.f2 a hl p hp)
 ·rw [getD_set_ne false h3,hl]
  intro q
  cases q
theorem QbC.at2 (h:QbC W last j1 j2 cs1 cs2 fin x s w) (hl:s.getD last false=false) (hb:Below w.heap.size w w') (h1:j2≠j1) (h3:j2≠last) {n:Nat} (hc:∀p∈cs2,w'.cell? ⟨n,p.1,none⟩=some p.2):QbC W last j1 j2 cs1 cs2 fin (x.1,n) (s.setIfInBounds j2 true) w':=by
 refine ⟨fun _=>(h.bel hl).trans (hb.mono (h.bel hl).size),?_,fun _ _=>hc,?_⟩
 ·rw [getD_set_ne false h1]
  exact fun a _ p hp=>Xaa hb (h.f1 a hl p hp)
 ·rw [getD_set_ne false h3,hl]
  intro q
  cases q
theorem QbC.end' (hun:s.getD last true=false) (hf:fin w'):QbC W last j1 j2 cs1 cs2 fin x (s.setIfInBounds last true) w':=by
 have e:=Xcp (Xjp hun)
 exact ⟨fun q=>(by rw [e] at q;cases q),fun _ q=>(by rw [e] at q;cases q),fun _ q=>(by rw [e] at q;cases q),fun _=>hf⟩
end
def Clo (ops:Array Oper) (s:Array Bool):Prop:= ∀i o,ops[i]? =some o→s.getD i false=true→ ∀e∈o.after,Region.binds .any e=true→s.getD e.on false=true
def pathB (ops:Array Oper):List Nat→Bool
 |i::j::r=>(match ops[i]? with|some o=>o.after.any fun e=>Region.binds .any e&&e.on==j|none=>false)&&pathB ops (j::r)
 |_=>true
theorem Xfq {ops:Array Oper} {s:Array Bool} (h:Clo ops s):∀(p:List Nat) (k i:Nat),pathB ops (k::p)=true→(k::p).getLast? =some i→s.getD k false=true→s.getD i false=true
 | [],k,i,_,hl,hk=>by simp at hl;exact hl▸hk
 |j::r,k,i,hp,hl,hk=>by
  unfold pathB at hp
  rw [Bool.and_eq_true] at hp
  obtain ⟨h1,h2⟩:=hp
  cases ho:ops[k]? with
  |none=>rw [ho] at h1;simp at h1
  |some o=>
   rw [ho] at h1
   simp only [Array.any_eq_true,Bool.and_eq_true,beq_iff_eq] at h1
   obtain ⟨n,hn,h3,h4⟩:=h1
   exact Xfq h r j i h2 (by simpa using hl) (h4▸h k o ho hk _ (Array.getElem_mem hn) h3)
theorem Xar {ops:Array Oper} {s:Array Bool} (h:Clo ops s) (p:List Nat) {k i:Nat} (hp:pathB ops (k::p)=true) (hl:(k::p).getLast? =some i) (hun:s.getD i true=false):s.getD k false=false:=by
 cases hk:s.getD k false with
 |false=>rfl
 |true=>have:=Xfq h p k i hp hl hk;rw [Xco hun] at this;cases this
theorem Xw1 {ops:Array Oper} {s:Array Bool} (h:Clo ops s) {i:Nat} (hi:i∈Region.ready .any ops s):Clo ops (s.setIfInBounds i true):=by
 obtain ⟨hun,oi,hoi,hall⟩:=mem_ready.1 hi
 have up:∀j,s.getD j false=true→(s.setIfInBounds i true).getD j false=true:=fun j hj=>by
  by_cases e:i=j
  ·subst e;exact Xcp (Xjp hun)
  ·rw [getD_set_ne false e];exact hj
 intro j o ho hj e he hb
 by_cases c:i=j
 ·subst c
  rw [hoi] at ho
  cases ho
  exact up _ (hall e he hb)
 ·rw [getD_set_ne false c] at hj
  exact up _ (h j o ho hj e he hb)
theorem Xuq {L M:List (Option Tmp × Value)} {s:Array Bool} {a:Act} (i k:Nat) (hl:L.length=M.length) (h:∀j,j≠i→j≠k→L[j]? =M[j]?) (hun:s.getD i true=false) (hk:s.getD k false=false):fillA L 0 s a=fillA M 0 s a:=
 Xei _ _ _ _ _ hl fun j hj=>by
  rw [Nat.zero_add] at hj
  exact h j (fun e=>by rw [e,Xco hun] at hj;cases hj) (fun e=>by rw [e,hk] at hj;cases hj)
theorem Xaj {P:Program} {ops:Array Oper} {Q:Exit→Act→World→Prop} {X:Type} {id:Nat} {a:Act} {w:World} (L:X→List (Option Tmp × Value)) (C:X→Array Bool→World→Prop) (hm:P.follows .mixedOrders=true) (hb:backB2 ops=true) (h0:∃x,C x (Array.replicate ops.size false) { w with drawn:=w.drawn+1 })
 (hstep:∀x s a' w' i,s.size=ops.size→Clo ops s→a'=fillA (L x) 0 s a→C x s w'→i∈Region.ready .any ops s→wpOp P ops Q i (fun a'' w''=> ∃y,a''=fillA (L y) 0 (s.setIfInBounds i true) a∧C y (s.setIfInBounds i true) w'') a' w')
 (hend:∀x s a' w',(∀i,i<ops.size→s.getD i false=true)→a'=fillA (L x) 0 s a→C x s w'→Q .normal a' w'):(Code.region id ops true).wp P Q a w:=by
 refine Xg9 (X:=X) L (fun x s w'=>Clo ops s∧C x s w') hm hb ?_ ?_ ?_
 ·obtain ⟨x,hx⟩:=h0
  exact ⟨x,fun i _ _ q=>(by rw [Xa8] at q;cases q),hx⟩
 ·rintro x s a' w' i hsz ha ⟨hcl,hC⟩ hi
  exact wpOp_mono (fun a'' w'' ⟨y,h1,h2⟩=>⟨y,h1,Xw1 hcl hi,h2⟩) (hstep x s a' w' i hsz hcl ha hC hi)
 ·rintro x s a' w' hup ha ⟨_,hC⟩
  exact hend x s a' w' hup ha hC
theorem Xa2 {P:Program} {o:Oper} {a:Act} {w:World} {K:Act→World→Prop} {Q:Exit→Act→World→Prop} (ty:TypeId) (x y:Operand) (ho:o.op= .store ty x y)
 (g off:Nat) (cs:List Value) (v:Value) (hx:a.eval x= .pointer (some ⟨g,off,none⟩)) (hy:a.eval y=v) (hv:v.cells=cs.toArray) (cur:Array Value) (tt:TypeId)
 (hg:w.heap[g]? =some (.cells cur tt (0,0))) (hfit:off+cs.length≤cur.size) (hi:(P.info? ty).map (·.size)=some cs.length) (h1:∀v∈cs,v.oneCell'=true)
 (h:K (a.put o.dst undef) (w.setRow g (over cur off cs))):o.wp P a w K Q:=by
 have hst:=run_storeCells_at (P:=P) g off tt cs 0 cur w hg (by simpa using hfit) h1
 have hsv:(storeVar ty ⟨g,off,none⟩ v).run P w= .ok () (w.setRow g (over cur off cs)):=by
  cases hq:P.info? ty with
  |none=>simp [hq] at hi
  |some i=>
   have hs:cs.length=i.size:=by simp [hq] at hi;omega
   simp only [Nat.add_zero] at hst
   simp [storeVar,sizeOf,typeInfo,hq,hv,hs,hst,over]
 unfold Oper.wp execOp
 simp only [ho,hx,hy,Instr.storeAt,Instr.sureAddr,Sem.run_bind,Sem.run_pure,Result.andThen_ok,hsv]
 exact h
theorem Xbr {s:Array Bool} {i:Nat} (h:s.size≤i):s.getD i false=false:=by
 rw [Array.getD_eq_getD_getElem?,Array.getElem?_eq_none h];rfl
theorem Xli {ops:Array Oper} {s:Array Bool} (h:Clo ops s) {k i:Nat} (hp:pathB ops [k,i]=true) (hun:s.getD i true=false):s.getD k false=false:=Xar h [i] hp rfl hun
theorem Xfk {L M:List (Option Tmp × Value)} {s:Array Bool} {a:Act} (D:List Nat) (hl:L.length=M.length) (h:∀j,j ∉ D→L[j]? =M[j]?) (hoff:∀j∈D,s.getD j false=false):fillA L 0 s a=fillA M 0 s a:=
 Xei _ _ _ _ _ hl fun j hj=>by
  rw [Nat.zero_add] at hj
  exact h j (fun e=>by rw [hoff j e] at hj;cases hj)
theorem Xrj {α:Type} {T:Ty α} {E:TypeId} {I:IH} {w:World} {B:Nat} {v:Value} {l:List α} (h:OwnS T E I w B v l):∃ao cap,v= .slice ao l.length cap:=by
 obtain ⟨xs,h1,_⟩:=h
 rcases h1.2 with ⟨h,h0⟩|⟨g,cap,cur,h,_⟩
 ·exact ⟨none,0,by rw [h,h0]⟩
 ·exact ⟨_,_,h⟩
structure RgC {Y:Type} (W:World) (jc ja:Nat) (Gc:Y→World→Prop) (Ga:Nat→World→Prop) (m:Nat × Y→Nat) (t:TypeId) (s1 s2 s3:Nat) (R1 R2 R3:Nat × Y→Array Value) (x:Nat × Y) (s:Array Bool) (w:World):Prop where
 off:s.getD s1 false=false→Below W.heap.size W w
 fc:s.getD jc false=true→s.getD s1 false=false→Gc x.2 w
 fa:s.getD ja false=true→s.getD s1 false=false→Ga x.1 w
 on:s.getD s1 false=true→ ∃wb,Below W.heap.size W wb∧Gc x.2 wb∧Ga x.1 wb∧wb.grownBy w (some (m x))∧
  w.heap[m x]? =some (.cells (if s.getD s3 false=true then R3 x else if s.getD s2 false=true then R2 x else R1 x) t (0,0))
section
variable {Y:Type} {W w w':World} {jc ja:Nat} {Gc:Y→World→Prop} {Ga:Nat→World→Prop} {m:Nat × Y→Nat} {t:TypeId} {s1 s2 s3:Nat} {R1 R2 R3:Nat × Y→Array Value} {x:Nat × Y} {s:Array Bool} {i:Nat}
end
theorem Xai {P:Program} {ops:Array Oper} {rest:List Oper} {o:Oper} {a:Act} {w:World} {Q:Exit→Act→World→Prop} (hgd:o.guard=none) (hd:o.dst=none) (ty:TypeId) (x y:Operand) (ho:o.op= .store ty x y)
 (g off:Nat) (cs:List Value) (v:Value) (hx:a.eval x= .pointer (some ⟨g,off,none⟩)) (hy:a.eval y=v) (hv:v.cells=cs.toArray) (cur:Array Value) (tt:TypeId)
 (hg:w.heap[g]? =some (.cells cur tt (0,0))) (hfit:off+cs.length≤cur.size) (hi:(P.info? ty).map (·.size)=some cs.length) (h1:∀v∈cs,v.oneCell'=true) (R:Array Value) (hR:over cur off cs=R)
 (h:∀w',w.grownBy w' (some g)→w'.heap[g]? =some (.cells R tt (0,0))→wpList P ops Q rest a w'):wpList P ops Q (o::rest) a w:=by
 refine wpList_plain hgd fun _ hK=> ?_
 exact Xa2 ty x y ho g off cs v hx hy hv cur tt hg hfit hi h1 (hK _ _ (by rw [hd];exact h _ Xat (by rw [←hR];exact setRow_heap w g cur _ tt (0,0) hg)))
structure MAt (I:IH) (w0:World) (J:IH) (W:World):Prop where
 ok:Ok J W
 keep:∀b c,I b=some c→J b=some c
 bel:Below w0.heap.size w0 W
section
variable {I J J':IH} {w0 W W':World}
theorem MAt.start (h:Ok I w0):MAt I w0 I w0:=⟨h,fun _ _ h=>h,Qb _ _⟩
theorem MAt.quiet (h:MAt I w0 J W) (hb:Below W.heap.size W W'):MAt I w0 J W':=⟨h.ok.below (Qn _) hb,h.keep,h.bel.trans (hb.mono h.bel.size)⟩
theorem MAt.past (h:MAt I w0 J W) (o:Obj):MAt I w0 J (W.alloc o):=h.quiet ((Qb _ _).alloc (Qn _) o)
theorem MAt.ext (h:MAt I w0 J W) (hb:Below W.heap.size W W') (hx:Ext W.heap.size J J') (hok:Ok J' W'):MAt I w0 J' W':=
 ⟨hok,fun b c hc=>hx.keep h.ok (Qn _) b c (h.keep b c hc),h.bel.trans (hb.mono h.bel.size)⟩
theorem MAt.size (h:MAt I w0 J W):w0.heap.size≤W.heap.size:=h.bel.size
end
abbrev failV (e:Int):Value:= .iface 190 (.agg #[.int .i64 e])
abbrev failE (e:Int):Ending:= .panicked [{ v:=failV e,recovered:=false }]
abbrev ptrV (n:Nat):Value:= .pointer (some ⟨n,0,none⟩)
abbrev mustF:Value:= .func (.func 232) #[] #[]
abbrev numF (n:Nat):Value:= .func (.func 233) #[] #[ptrV n,ptrV (n+1),ptrV (n+3)]
abbrev txtF (n:Nat):Value:= .func (.func 234) #[] #[ptrV n,ptrV (n+1),ptrV (n+3)]
abbrev cntF (n:Nat):Value:= .func (.func 235) #[] #[ptrV (n+2),ptrV (n+3)]
structure RdB (W:World) (n:Nat) (s:Bytes) (ba:Nat):Prop where
 r0:W.heap[n]? =some (.cells #[S s] 9 (0,0))
 r1:W.heap[n+1]? =some (.cells #[ptrV ba] 195 (0,0))
 r2:W.heap[n+2]? =some (.cells #[numF n] 171 (0,0))
 r3:W.heap[n+3]? =some (.cells #[mustF] 247 (0,0))
 lt:ba<n
def AtC (W:World) (ba:Nat) (a:Nat):Prop:=W.heap[ba]? =some (.cells #[.int .i64 (a:Int)] 3 (0,0))
section
variable {W W' W'':World} {n ba a:Nat} {s:Bytes} {row:Option Nat}
theorem Xaf {k:Nat} {c:Array Value} {e:TypeId} (h:W.heap[k]? =some (.cells c e (0,0))) (hg:W.grownBy W' row) (hne:row≠some k):W'.heap[k]? =some (.cells c e (0,0)):=
 (hg.block k (Array.getElem?_eq_some_iff.1 h).1 (fun q=>hne q.symm)).trans h
theorem Xah {k:Nat} {c:Array Value} {e:TypeId} (h:W.heap[k]? =some (.cells c e (0,0))) (hb:Below W.heap.size W W'):W'.heap[k]? =some (.cells c e (0,0)):=
 (hb.block k (Array.getElem?_eq_some_iff.1 h).1).trans h
theorem RdB.own (h:RdB W n s ba) (hg:W.grownBy W' row) (hne:∀g,row=some g→g<n∨n+3<g):RdB W' n s ba:=
 ⟨Xaf h.r0 hg (fun q=>by have:=hne _ q;omega),Xaf h.r1 hg (fun q=>by have:=hne _ q;omega),Xaf h.r2 hg (fun q=>by have:=hne _ q;omega),Xaf h.r3 hg (fun q=>by have:=hne _ q;omega),h.lt⟩
theorem RdB.thru (h:RdB W n s ba) (hb:Below W.heap.size W W'):RdB W' n s ba:=⟨Xah h.r0 hb,Xah h.r1 hb,Xah h.r2 hb,Xah h.r3 hb,h.lt⟩
theorem Xb6 (hb:Below W.heap.size W W') (hg:W'.grownBy W'' row):W.grownBy W'' row:=
 ⟨hg.os.trans hb.os,hg.tape.trans hb.tape,hg.output.trans hb.output,Nat.le_trans hb.size hg.size,fun k hk hne=>(hg.block k (Nat.lt_of_lt_of_le hk hb.size) hne).trans (hb.block k hk)⟩
end
set_option maxRecDepth 100000 in
theorem Xje (w:World):Calls Tryz.prog 232 #[.int .i64 0] w fun e w'=>e= .returned (.tuple #[])∧w'=w:=by
 go_enter Tryz.func232,Tryz.ntmps232
 go_wp2
 go_end0
 exact ⟨rfl,rfl⟩
set_option maxRecDepth 100000 in
theorem Xey (x:Int) (hx:(x != 0)=true) (w:World):Calls Tryz.prog 232 #[.int .i64 x] w fun e w'=>e=failE x∧w'=w:=by
 go_enter Tryz.func232,Tryz.ntmps232
 go_wp2
 exact ⟨rfl,rfl,rfl⟩
theorem cell0 {W:World} {k:Nat} {v:Value} {e:TypeId} (h:W.heap[k]? =some (.cells #[v] e (0,0))):W.cell? ⟨k,0,none⟩=some v:=(cell_of_row _ _ 0 _ _ _ h).trans rfl
theorem frz0 {W:World} {k:Nat} {c:Array Value} {e:TypeId} (h:W.heap[k]? =some (.cells c e (0,0))):W.frozen? ⟨k,0,none⟩=false:=by
 unfold World.frozen?
 rw [h]
 rfl
theorem Xb3:(Tryz.prog.info? 3).map (·.size)=some 1:=by kernel_rfl
set_option maxRecDepth 100000 in
set_option maxHeartbeats 1000000 in
theorem Xb0 (I:IH) (hI:Glob I) (s:Bytes) (hs:s.length≤4294967280) (n ba a:Nat) (w:World) (hw:Ok I w) (hB:RdB w n s ba) (hA:AtC w ba a) (ha:a≤4294967280) (x:Bytes) (b:Nat) (h:rdStr s a= .ok (x,b)):
 Calls Tryz.prog 234 #[ptrV n,ptrV (n+1),ptrV (n+3)] w fun e w'=>e= .returned (S x)∧AtC w' ba b∧w.grownBy w' (some ba):=by
 have Hr:=Qh (fun w hw=>Xc1 I hI s hs a (by omega) w hw)
 rw [h,Xts] at Hr
 have Hb:=Qh hB
 have Ha:=Qh hA
 have c0:=cell0 hB.r0
 have c1:=cell0 hB.r1
 have c3:=cell0 hA
 have f3:=frz0 hA
 have g0:=cell_regrown c0
 have g1:=cell_regrown c1
 have g3:=cell_regrown c3
 clear h hA hB c0 c1 c3 f3
 go_enter Tryz.func234,Tryz.ntmps234
 go_wp2_with fail
 refine wp_region_quiet_below (by kernel_rfl) (by kernel_rfl) ?_
 repeat (go_big_quiet_step ((with_reducible exact Calls.regrown_of (Hr.out _ (hw.below (Qn _) (below_regrown _ _ _))))))
 refine wpQuiet_nil ?_
 intro w1 hwq
 have hb1:Below (w).heap.size (w) w1:=by
  obtain ⟨pq,rfl⟩:=hwq
  exact below_regrown _ _ _
 clear hwq
 clear g0 g1 g3 Hr
 have HB1:=Qh (Hb.out.thru hb1)
 have HA1:=Qh (show AtC w1 ba a from Xah Ha.out hb1)
 have c1:=cell0 HB1.out.r1
 have c2:=cell0 HB1.out.r3
 go_wp2_with fail
 refine (Xje _).mono ?_
 rintro e w2 ⟨rfl,rfl⟩
 go_wp2_with (refine Xai rfl rfl 3 _ _ rfl ba 0 [.int .i64 (b:Int)] (.int .i64 (b:Int)) (by simp [Act.eval]) (by simp [Act.eval]) (by rfl) _ 3 HA1.out (by simp) Xb3 (by simp [Value.oneCell']) #[.int .i64 (b:Int)] (by rfl) ?_
              intro w3 hg3 hr3)
 go_wp2
 go_ret
 exact ⟨rfl,hr3,Xb6 hb1 hg3⟩
set_option maxRecDepth 100000 in
set_option maxHeartbeats 1000000 in
theorem Xbk (I:IH) (hI:Glob I) (s:Bytes) (hs:s.length≤4294967280) (n ba a:Nat) (w:World) (hw:Ok I w) (hB:RdB w n s ba) (hA:AtC w ba a) (ha:a≤4294967280) (z:Int) (hz:(z != 0)=true) (h:rdStr s a= .error z):
 Calls Tryz.prog 234 #[ptrV n,ptrV (n+1),ptrV (n+3)] w fun e w'=>e=failE z∧Below w.heap.size w w':=by
 have Hr:=Qh (fun w hw=>Xc1 I hI s hs a (by omega) w hw)
 rw [h,Xtr] at Hr
 have Hb:=Qh hB
 have g0:=cell_regrown (cell0 hB.r0)
 have g1:=cell_regrown (cell0 hB.r1)
 have g3:=cell_regrown (cell0 hA)
 clear h hA hB
 go_enter Tryz.func234,Tryz.ntmps234
 go_wp2_with fail
 refine wp_region_quiet_below (by kernel_rfl) (by kernel_rfl) ?_
 repeat (go_big_quiet_step ((with_reducible exact Calls.regrown_of (Hr.out _ (hw.below (Qn _) (below_regrown _ _ _))))))
 refine wpQuiet_nil ?_
 intro w1 hwq
 have hb1:Below (w).heap.size (w) w1:=by
  obtain ⟨pq,rfl⟩:=hwq
  exact below_regrown _ _ _
 clear hwq
 clear g0 g1 g3 Hr
 have c2:=cell0 (Hb.out.thru hb1).r3
 go_wp2_with fail
 refine (Xey _ hz _).mono ?_
 rintro e w2 ⟨rfl,rfl⟩
 go_wp2
 exact ⟨rfl,rfl,hb1⟩
set_option maxRecDepth 100000 in
set_option maxHeartbeats 1000000 in
theorem Xdc (I:IH) (hI:Glob I) (s:Bytes) (hs:s.length≤4294967280) (n ba a:Nat) (w:World) (hw:Ok I w) (hB:RdB w n s ba) (hA:AtC w ba a) (ha:a≤4294967280) (x:Int) (b:Nat) (h:rdNum s a= .ok (x,b)):
 Calls Tryz.prog 233 #[ptrV n,ptrV (n+1),ptrV (n+3)] w fun e w'=>e= .returned (.int .i64 x)∧AtC w' ba b∧w.grownBy w' (some ba):=by
 have Hr:=Qh (fun w hw=>Xc2 I hI s hs a (by omega) w hw)
 rw [h,Xxk] at Hr
 have Hb:=Qh hB
 have Ha:=Qh hA
 have c0:=cell0 hB.r0
 have c1:=cell0 hB.r1
 have c3:=cell0 hA
 have f3:=frz0 hA
 have g0:=cell_regrown c0
 have g1:=cell_regrown c1
 have g3:=cell_regrown c3
 clear h hA hB c0 c1 c3 f3
 go_enter Tryz.func233,Tryz.ntmps233
 go_wp2_with fail
 refine wp_region_quiet_below (by kernel_rfl) (by kernel_rfl) ?_
 repeat (go_big_quiet_step ((with_reducible exact Calls.regrown_of (Hr.out _ (hw.below (Qn _) (below_regrown _ _ _))))))
 refine wpQuiet_nil ?_
 intro w1 hwq
 have hb1:Below (w).heap.size (w) w1:=by
  obtain ⟨pq,rfl⟩:=hwq
  exact below_regrown _ _ _
 clear hwq
 clear g0 g1 g3 Hr
 have HB1:=Qh (Hb.out.thru hb1)
 have HA1:=Qh (show AtC w1 ba a from Xah Ha.out hb1)
 have c1:=cell0 HB1.out.r1
 have c2:=cell0 HB1.out.r3
 go_wp2_with fail
 refine (Xje _).mono ?_
 rintro e w2 ⟨rfl,rfl⟩
 go_wp2_with (refine Xai rfl rfl 3 _ _ rfl ba 0 [.int .i64 (b:Int)] (.int .i64 (b:Int)) (by simp [Act.eval]) (by simp [Act.eval]) (by rfl) _ 3 HA1.out (by simp) Xb3 (by simp [Value.oneCell']) #[.int .i64 (b:Int)] (by rfl) ?_
              intro w3 hg3 hr3)
 go_wp2
 go_ret
 exact ⟨rfl,hr3,Xb6 hb1 hg3⟩
set_option maxRecDepth 100000 in
set_option maxHeartbeats 1000000 in
theorem Xdd (I:IH) (hI:Glob I) (s:Bytes) (hs:s.length≤4294967280) (n ba a:Nat) (w:World) (hw:Ok I w) (hB:RdB w n s ba) (hA:AtC w ba a) (ha:a≤4294967280) (z:Int) (hz:(z != 0)=true) (h:rdNum s a= .error z):
 Calls Tryz.prog 233 #[ptrV n,ptrV (n+1),ptrV (n+3)] w fun e w'=>e=failE z∧Below w.heap.size w w':=by
 have Hr:=Qh (fun w hw=>Xc2 I hI s hs a (by omega) w hw)
 rw [h,Xxj] at Hr
 have Hb:=Qh hB
 have g0:=cell_regrown (cell0 hB.r0)
 have g1:=cell_regrown (cell0 hB.r1)
 have g3:=cell_regrown (cell0 hA)
 clear h hA hB
 go_enter Tryz.func233,Tryz.ntmps233
 go_wp2_with fail
 refine wp_region_quiet_below (by kernel_rfl) (by kernel_rfl) ?_
 repeat (go_big_quiet_step ((with_reducible exact Calls.regrown_of (Hr.out _ (hw.below (Qn _) (below_regrown _ _ _))))))
 refine wpQuiet_nil ?_
 intro w1 hwq
 have hb1:Below (w).heap.size (w) w1:=by
  obtain ⟨pq,rfl⟩:=hwq
  exact below_regrown _ _ _
 clear hwq
 clear g0 g1 g3 Hr
 have c2:=cell0 (Hb.out.thru hb1).r3
 go_wp2_with fail
 refine (Xey _ hz _).mono ?_
 rintro e w2 ⟨rfl,rfl⟩
 go_wp2
 exact ⟨rfl,rfl,hb1⟩
end Go.Proofs.YtdodihnehppnmaaGreatDoor
