/-
  Walks and laws that the claim's theorem uses: texts EnA AtA AtB AtC EnB EnC, joined; comments out. Conditions: as each theorem says.
-/
import Derived.Test.YtjdednajelommaaGreatDoorQ00
namespace Go.Proofs.YtjdednajelommaaGreatDoor
open Go.RowKit
def nameP (k:Int):Bytes:=if k=1 then [102,105,108,101] else if k=2 then [100,105,114] else if k=3 then [108,105,110,107] else if k=4 then [114,101,109,111,118,101] else if k=5 then [104,111,108,100] else if k=6 then [114,101,108,101,97,115,101] else []
theorem nameP_nil {k:Int}:nameP k= []↔k<1∨6<k:=by
 unfold nameP
 constructor
 ·intro h
  by_cases h1:k<1∨6<k
  ·exact h1
  ·have:k=1∨k=2∨k=3∨k=4∨k=5∨k=6:=by omega
   rcases this with rfl|rfl|rfl|rfl|rfl|rfl<;>simp at h
 ·intro h
  rw [if_neg (by omega),if_neg (by omega),if_neg (by omega),if_neg (by omega),if_neg (by omega),if_neg (by omega)]
set_option maxRecDepth 100000 in
set_option maxHeartbeats 400000 in
theorem Xig (k:Int) (w:World):Calls Tryz.prog 101 #[.int .i64 k] w fun e w'=>e= .returned (S (nameP k))∧w'=w:=by
 by_cases h1:k=1
 case pos=>
  subst h1
  rw [show nameP 1= [102,105,108,101] from rfl]
  go_enter Tryz.func101,Tryz.ntmps101
  go_wp2
  go_ret
  exact ⟨rfl,rfl⟩
 by_cases h2:k=2
 case pos=>
  subst h2
  rw [show nameP 2= [100,105,114] from rfl]
  go_enter Tryz.func101,Tryz.ntmps101
  go_wp2
  go_ret
  exact ⟨rfl,rfl⟩
 by_cases h3:k=3
 case pos=>
  subst h3
  rw [show nameP 3= [108,105,110,107] from rfl]
  go_enter Tryz.func101,Tryz.ntmps101
  go_wp2
  go_ret
  exact ⟨rfl,rfl⟩
 by_cases h4:k=4
 case pos=>
  subst h4
  rw [show nameP 4= [114,101,109,111,118,101] from rfl]
  go_enter Tryz.func101,Tryz.ntmps101
  go_wp2
  go_ret
  exact ⟨rfl,rfl⟩
 by_cases h5:k=5
 case pos=>
  subst h5
  rw [show nameP 5= [104,111,108,100] from rfl]
  go_enter Tryz.func101,Tryz.ntmps101
  go_wp2
  go_ret
  exact ⟨rfl,rfl⟩
 by_cases h6:k=6
 case pos=>
  subst h6
  rw [show nameP 6= [114,101,108,101,97,115,101] from rfl]
  go_enter Tryz.func101,Tryz.ntmps101
  go_wp2
  go_ret
  exact ⟨rfl,rfl⟩
 have hn:nameP k= []:=nameP_nil.2 (by omega)
 have f1:(k==1)=false:=by simpa using h1
 have f2:(k==2)=false:=by simpa using h2
 have f3:(k==3)=false:=by simpa using h3
 have f4:(k==4)=false:=by simpa using h4
 have f5:(k==5)=false:=by simpa using h5
 have f6:(k==6)=false:=by simpa using h6
 rw [hn]
 clear hn h1 h2 h3 h4 h5 h6
 go_enter Tryz.func101,Tryz.ntmps101
 go_wp2
 go_ret
 exact ⟨rfl,rfl⟩
def digC (c:UInt8):Bool:=decide (48≤c)&&decide (c≤57)
theorem Xgk (c:UInt8):digC c=(decide (48≤c.toNat)&&decide (c.toNat≤57)):=by
 unfold digC
 simp [UInt8.le_iff_toNat_le]
theorem Xhx (l:Bytes) (c:UInt8):digits (l++ [c])=10*digits l+((c.toNat:Int)-48):=by
 simp [digits,List.foldl_append]
theorem Xrz:∀(n:Nat) (l:Bytes),l.length=n→l.all digC=true→0≤digits l∧digits l<10 ^ n:=by
 intro n
 induction n with
 |zero=>
  intro l h _
  have:l= []:=List.eq_nil_of_length_eq_zero h
  subst this
  exact ⟨Int.le_refl _,by decide⟩
 |succ n ih=>
  intro l h ha
  have hne:l≠ []:=by intro e;rw [e] at h;simp at h
  have e:l=l.dropLast++ [l.getLast hne]:=(List.dropLast_concat_getLast hne).symm
  have hl:l.dropLast.length=n:=by rw [List.length_dropLast,h];omega
  rw [e,List.all_append,Bool.and_eq_true] at ha
  obtain ⟨i1,i2⟩:=ih _ hl ha.1
  have hc:=ha.2
  simp only [List.all_cons,List.all_nil,Bool.and_true] at hc
  rw [Xgk,Bool.and_eq_true,decide_eq_true_iff,decide_eq_true_iff] at hc
  rw [e,Xhx,Int.pow_succ]
  generalize digits l.dropLast=d at i1 i2
  generalize ((10:Int) ^ n)=p at i1 i2 ⊢
  omega
def dateP (s:Bytes):Int × Bool:=if s.length<1∨10<s.length∨(1<s.length∧s.head? =some 48)∨s.all digC=false then (0,false) else (digits s,decide (digits s≤1000000000))
theorem Xt1 (s:Bytes):(dateP s).2=dateOk s:=by
 unfold dateP dateOk
 have hd:(fun c:UInt8=>decide (48≤c)&&decide (c≤57))=digC:=rfl
 rw [hd]
 by_cases h1:s.length<1
 ·rw [if_pos (.inl h1),Qf (by omega)];rfl
 by_cases h2:10<s.length
 ·rw [if_pos (.inr (.inl h2)),Qf (show ¬s.length≤10 by omega)];simp
 by_cases h3:1<s.length∧s.head? =some 48
 ·rw [if_pos (.inr (.inr (.inl h3)))]
  have:(decide (1<s.length)&&s.head? ==some 48)=true:=by rw [Qt h3.1,h3.2];rfl
  rw [this];simp
 have h3':(decide (1<s.length)&&s.head? ==some 48)=false:=by
  cases h:(decide (1<s.length)&&s.head? ==some 48) with
  |false=>rfl
  |true=>
   rw [Bool.and_eq_true,decide_eq_true_iff,beq_iff_eq] at h
   exact absurd h h3
 rw [h3',Qt (show 1≤s.length by omega),Qt (show s.length≤10 by omega)]
 cases h4:s.all digC
 ·rw [if_pos (.inr (.inr (.inr rfl)))];simp
 ·rw [if_neg (by simp [h1,h2,h3])];simp
set_option maxRecDepth 100000 in
set_option maxHeartbeats 1000000 in
theorem Xo9 (s:Bytes) (hs:s.length≤9223372036854775807) (w:World):
 Calls Tryz.prog 159 #[S s] w fun e w'=>e= .returned (.tuple #[.int .i64 (dateP s).1,.bool (dateP s).2])∧Below w.heap.size w w':=by
 by_cases h1:s.length<1
 case pos=>
  have hd1:decide (s.length<1)=true:=Qt h1
  have Hp:=Qh (show dateP s=(0,false) by rw [dateP,if_pos (.inl h1)])
  go_enter Tryz.func159,Tryz.ntmps159
  go_wp2
  go_ret2
  rw [Hp.out]
  exact ⟨rfl,Qb _ _⟩
 have hd1:decide (s.length<1)=false:=Qf h1
 by_cases h2:10<s.length
 case pos=>
  have hd2:decide (10<s.length)=true:=Qt h2
  have Hp:=Qh (show dateP s=(0,false) by rw [dateP,if_pos (.inr (.inl h2))])
  go_enter Tryz.func159,Tryz.ntmps159
  go_wp2
  go_ret2
  rw [Hp.out]
  exact ⟨rfl,Qb _ _⟩
 have hd2:decide (10<s.length)=false:=Qf h2
 have hx0:=run_at Tryz.underlying9 s 0 0 rfl (by omega)
 have he0:((((s.getD 0 0).toNat:Nat):Int)==48)=(s.getD 0 0==UInt8.ofNat 48):=Xtu (s.getD 0 0) 48 (by decide)
 have hh:s.head? =some (s.getD 0 0):=by cases s<;>simp_all
 have hmain:(1<s.length∧s.head? =some 48)∨ ¬(1<s.length∧s.head? =some 48):=Classical.em _
 rcases hmain with h3|h3
 ·have hd3:decide (1<s.length)=true:=Qt h3.1
  have he1:(((s.getD 0 0).toNat:Int)==48)=true:=by
   rw [he0]
   have:=h3.2
   rw [hh] at this
   rw [Option.some.inj this];rfl
  have Hp:=Qh (show dateP s=(0,false) by rw [dateP,if_pos (.inr (.inr (.inl h3)))])
  generalize (s.getD 0 0).toNat=c0 at hx0 he1
  have hc0:c0=48:=by have:=beq_iff_eq.1 he1;omega
  subst hc0
  have h5:=h3.1
  clear h3 he0 hh he1
  go_enter Tryz.func159,Tryz.ntmps159
  go_wp2
  go_ret2
  rw [Hp.out]
  exact ⟨rfl,Qb _ _⟩
 ·have Hp:=Qh (show dateP s=if s.all digC=false then (0,false) else (digits s,decide (digits s≤1000000000)) by
   rw [dateP]
   by_cases h4:s.all digC=false
   ·rw [if_pos (.inr (.inr (.inr h4))),if_pos h4]
   ·rw [if_neg (by simp [h1,h2,h3];simpa using h4),if_neg h4])
  have hcase:(¬1<s.length∧decide (1<s.length)=false)∨(1<s.length∧decide (1<s.length)=true∧(((s.getD 0 0).toNat:Int)==48)=false):=by
   by_cases h5:1<s.length
   ·right
    refine ⟨h5,Qt h5,?_⟩
    rw [he0,beq_eq_false_iff_ne]
    intro e
    exact h3 ⟨h5,by rw [hh,e];rfl⟩
   ·exact .inl ⟨h5,Qf h5⟩
  generalize (s.getD 0 0).toNat=c0 at hx0 hcase
  clear h3 he0 hh
  have H10:s.length≤10:=by omega
  rcases hcase with ⟨h5,hd3⟩|⟨h5,hd3,he3⟩
  all_goals
   go_enter Tryz.func159,Tryz.ntmps159
   go_wp2_with fail
   go_loop [4,5] (fun s4 s5=> ∃k:Nat,k≤s.length∧s5= .int .i64 k∧s4= .int .i64 (digits (s.take k))∧(s.take k).all digC=true) (fun _ i=>s.length-(intOf i).toNat)
   case atStart=>exact ⟨0,Nat.zero_le _,rfl,rfl,rfl⟩
   case round=>
    obtain ⟨k,hk,rfl,rfl,hr⟩:=hrel
    have hdb:=Xrz k (s.take k) (by rw [List.length_take];omega) hr
    have Hr:=Qh hr;clear hr
    by_cases hlt:k<s.length
    ·have hx:=run_at Tryz.underlying9 s (k:Int) k rfl hlt
     have hdc:=Xgk (s.getD k 0)
     have hpk:(10:Int) ^ k≤10000000000:=by
      have:(10:Nat) ^ k≤10 ^ 10:=Nat.pow_le_pow_right (by decide) (by omega)
      have h2:((10 ^ k:Nat):Int)≤((10 ^ 10:Nat):Int):=by exact_mod_cast this
      simpa using h2
     have htk:s.take (k+1)=s.take k++ [s.getD k 0]:=by rw [List.take_succ_eq_append_getElem hlt];simp [List.getD,hlt]
     have hds:digits (s.take (k+1))=10*digits (s.take k)+(((s.getD k 0).toNat:Int)-48):=by rw [htk,Xhx]
     have hmem:s.getD k 0∈s:=by simp [List.getD,hlt]
     have hc256:(s.getD k 0).toNat<256:=(s.getD k 0).toNat_lt
     generalize s.getD k 0=ch at hdc htk hx hc256 hds hmem
     generalize ch.toNat=c at hdc hx hc256 hds
     generalize digits (s.take k)=n at hdb hds ⊢
     generalize ((10:Int) ^ k)=p10 at hdb hpk
     have Htk:=Qh htk
     have Hds:=Qh hds
     have Hmem:=Qh hmem
     clear htk hds hmem
     by_cases hc1:48≤c
     case neg=>
      have d48:decide ((c:Int)<48)=true:=Qt (by omega)
      have Hn:=Qh (show dateP s=(0,false) by
       rw [Hp.out,if_pos]
       cases h:s.all digC with
       |false=>rfl
       |true=>
        have:=List.all_eq_true.1 h ch Hmem.out
        rw [hdc,Qf hc1] at this
        exact absurd this (by simp))
      clear hdc hc1
      go_wp2
      go_ret2
      rw [Hn.out]
      exact ⟨rfl,Qb _ _⟩
     have d48:decide ((c:Int)<48)=false:=Qf (by omega)
     by_cases hc2:c≤57
     case neg=>
      have d57:decide (57<(c:Int))=true:=Qt (by omega)
      have Hn:=Qh (show dateP s=(0,false) by
       rw [Hp.out,if_pos]
       cases h:s.all digC with
       |false=>rfl
       |true=>
        have:=List.all_eq_true.1 h ch Hmem.out
        rw [hdc,Qf hc2] at this
        exact absurd this (by simp))
      clear hdc hc2
      go_wp2
      go_ret2
      rw [Hn.out]
      exact ⟨rfl,Qb _ _⟩
     have d57:decide (57<(c:Int))=false:=Qf (by omega)
     have Hdc:=Qh (show digC ch=true by rw [hdc,Qt hc1,Qt hc2];rfl)
     clear hdc
     go_wp2
     go_round
     case rel=>exact ⟨k+1,by omega,by go_num,by rw [Hds.out];go_num,by rw [Htk.out,List.all_append,Hr.out];simp [Hdc.out]⟩
     case measure=>simp [intOf];omega
    ·have hall:s.take k=s:=List.take_of_length_le (by omega)
     rw [hall] at Hr hdb ⊢
     have Hn:=Qh (show dateP s=(digits s,decide (digits s≤1000000000)) by rw [Hp.out,if_neg (by rw [Hr.out];simp)])
     clear hall
     go_wp2
     go_ret2
     rw [Hn.out]
     exact ⟨rfl,Qb _ _⟩
def bigA (x:At):Bool:=decide (100<x.k.length) || decide (100<x.v.length)
def greatA (l:List At):Int:=if 30<l.length then 1 else if l.any bigA then 1 else 0
theorem Xo3 (a b:At) (W:World):(binOp .neq 89 (.agg #[S a.k,S a.v]) (.agg #[S b.k,S b.v])).run Tryz.prog W= .ok (.bool (!decide (a=b))) W:=by
 rw [Xc1 _ _ [(9,0,false),(9,1,false)] W (by kernel_rfl) (by kernel_rfl) (by kernel_rfl)]
 obtain ⟨a1,a2⟩:=a
 obtain ⟨b1,b2⟩:=b
 simp [go_sem]
 by_cases h1:a1=b1<;>by_cases h2:a2=b2<;>simp [h1,h2]
set_option maxRecDepth 100000 in
set_option maxHeartbeats 400000 in
theorem Xpa (I:IH) (v1 v2:Value) (l1 l2:List At) (hv1:RdS tAt I v1 l1) (hv2:RdS tAt I v2 l2) (w:World) (hw:Ok I w):
 Calls Tryz.prog 84 #[v1,v2] w fun e w'=>e= .returned (.bool (decide (l1=l2)))∧Below w.heap.size w w':=by
 have hlen:=hv1.len_le
 have hlen2:=hv2.len_le
 obtain ⟨ao,cap,rfl,hcap,hcm,_⟩:=id hv1
 obtain ⟨ao2,cap2,rfl,hcap2,hcm2,_⟩:=id hv2
 have Hv1:=Qh hv1;clear hv1
 have Hv2:=Qh hv2;clear hv2
 by_cases hll:l1.length=l2.length
 ·have hn:((l1.length:Int) != (l2.length:Int))=false:=by rw [hll];simp
  have Hll:=Qh hll;clear hll
  go_enter Tryz.func84,Tryz.ntmps84
  go_wp2
  go_loopw [5] (fun s5 wr=> ∃k:Nat,k≤l1.length∧s5= .int .i64 k∧l1.take k=l2.take k∧Below w.heap.size w wr) (fun i _=>l1.length-(intOf i).toNat)
  case atStart=>exact ⟨0,Nat.zero_le _,rfl,rfl,Qb _ _⟩
  case round=>
   obtain ⟨k,hk,rfl,hr,hb⟩:=hrel
   have Hr:=Qh hr;clear hr
   by_cases hlt:k<l1.length
   ·have hlt2:k<l2.length:=by rw [←Hll.out];exact hlt
    have hwr:Ok I wr:=hw.below (Qn _) hb
    obtain ⟨p,b,off,cap',hp,hvv,hp0,hp1⟩:=atAt Hv1.out hwr k hlt
    cases hvv
    obtain ⟨q,b',off',cap'',hq,hvv,hq0,hq1⟩:=atAt Hv2.out hwr k hlt2
    cases hvv
    have Hp:=Qh hp;clear hp
    have Hq:=Qh hq;clear hq
    have hg0:=cell_regrown hp0
    have hg1:=cell_regrown hp1
    have hy0:=cell_regrown hq0
    have hy1:=cell_regrown hq1
    have hneq:=Xo3 p q
    by_cases hpq:p=q
    ·rw [Qt hpq] at hneq
     go_wp2_with fail
     refine wp_region_quiet_below (by kernel_rfl) (by kernel_rfl) ?_
     repeat (go_big_quiet_step ((fail)))
     refine wpQuiet_nil ?_
     intro w2 hwq
     have hb2:Below (wr).heap.size (wr) w2:=by
      obtain ⟨pq,rfl⟩:=hwq
      exact below_regrown _ _ _
     clear hwq
     go_wp2
     go_roundw
     case rel=>exact ⟨k+1,by omega,by go_num,by rw [List.take_succ_eq_append_getElem hlt,List.take_succ_eq_append_getElem hlt2,Hr.out,Hp.out,Hq.out,hpq],hb.trans (hb2.mono hb.size)⟩
     case measure=>simp [intOf];omega
    ·rw [Qf hpq] at hneq
     go_wp2_with fail
     refine wp_region_quiet_below (by kernel_rfl) (by kernel_rfl) ?_
     repeat (go_big_quiet_step ((fail)))
     refine wpQuiet_nil ?_
     intro w2 hwq
     have hb2:Below (wr).heap.size (wr) w2:=by
      obtain ⟨pq,rfl⟩:=hwq
      exact below_regrown _ _ _
     clear hwq
     go_wp2
     go_ret
     refine ⟨Xax ?_,hb.trans (hb2.mono hb.size)⟩
     symm
     rw [decide_eq_false_iff_not]
     intro h
     apply hpq
     rw [←Hp.out,←Hq.out]
     simp [h]
   ·go_wp2
    go_ret
    refine ⟨Xax ?_,hb⟩
    symm
    rw [decide_eq_true_iff]
    have:=Hr.out
    rwa [List.take_of_length_le (by omega),List.take_of_length_le (by rw [←Hll.out];omega)] at this
 ·have hn:((l1.length:Int) != (l2.length:Int))=true:=by rw [bne_iff_ne];omega
  go_enter Tryz.func84,Tryz.ntmps84
  go_wp2
  go_ret
  exact ⟨Xax (by simp;intro h;exact hll (by rw [h])),Qb _ _⟩
theorem Xm4 (c:UInt8):keyChar c=(decide (97≤c.toNat)&&decide (c.toNat≤122) || decide (48≤c.toNat)&&decide (c.toNat≤57) || decide (c.toNat=46) || decide (c.toNat=95) || decide (c.toNat=45)):=by
 have e:∀n:Nat,n<256→(c==UInt8.ofNat n)=decide (c.toNat=n):=fun n hn=>by
  rw [Bool.eq_iff_iff,beq_iff_eq,decide_eq_true_iff]
  constructor
  ·intro h;rw [h];simp;omega
  ·intro h
   have:c=UInt8.ofNat c.toNat:=by simp
   rw [this,h]
 unfold keyChar
 rw [show (46:UInt8)=UInt8.ofNat 46 from rfl,show (95:UInt8)=UInt8.ofNat 95 from rfl,show (45:UInt8)=UInt8.ofNat 45 from rfl,e 46 (by omega),e 95 (by omega),e 45 (by omega)]
 simp [UInt8.le_iff_toNat_le]
set_option maxRecDepth 100000 in
set_option maxHeartbeats 1000000 in
theorem Xqu (s:Bytes) (hs:s.length≤9223372036854775807) (w:World):
 Calls Tryz.prog 158 #[S s] w fun e w'=>e= .returned (.bool (keyOk s))∧Below w.heap.size w w':=by
 by_cases h1:1≤s.length
 ·have hd1:decide (s.length<1)=false:=Qf (by omega)
  by_cases h32:s.length≤32
  ·have hd2:decide (32<s.length)=false:=by simp;omega
   have Hok:=Qh (show keyOk s=s.all keyChar by simp [keyOk,h1,h32])
   go_enter Tryz.func158,Tryz.ntmps158
   go_wp2_with fail
   go_loop [3] (fun s3=> ∃k:Nat,k≤s.length∧s3= .int .i64 k∧(s.take k).all keyChar=true) (fun i=>s.length-(intOf i).toNat)
   case atStart=>exact ⟨0,Nat.zero_le _,rfl,rfl⟩
   case round=>
    obtain ⟨k,hk,rfl,hr⟩:=hrel
    have Hr:=Qh hr;clear hr
    by_cases hlt:k<s.length
    ·have hx:=run_at Tryz.underlying9 s (k:Int) k rfl hlt
     have hkc:=Xm4 (s.getD k 0)
     have Htk:=Qh (show s.take (k+1)=s.take k++ [s.getD k 0] by rw [List.take_succ_eq_append_getElem hlt];simp [List.getD,hlt])
     have Hmem:=Qh (show s.getD k 0∈s by simp [List.getD,hlt])
     have hc256:(s.getD k 0).toNat<256:=(s.getD k 0).toNat_lt
     generalize s.getD k 0=ch at hkc Htk Hmem hx hc256
     generalize ch.toNat=c at hkc hx hc256
     rcases (show (97≤c∧c≤122)∨122<c∨(48≤c∧c≤57)∨c=46∨c=95∨c=45∨(c<48∧c≠46∧c≠45)∨(57<c∧c<97∧c≠95) by omega) with hc|hc|hc|hc|hc|hc|hc|hc
     ·have d97:decide ((c:Int)<97)=false:=by simp;omega
      have d122:decide (122<(c:Int))=false:=by simp;omega
      have d48:decide ((c:Int)<48)=false:=by simp;omega
      have d57:decide (57<(c:Int))=true:=by simp;omega
      have n46:((c:Int) != 46)=true:=by simp;omega
      have n95:((c:Int) != 95)=true:=by simp;omega
      have n45:((c:Int) != 45)=true:=by simp;omega
      have Hkc:=Qh (show keyChar ch=true by rw [hkc];simp;omega)
      clear hkc hc
      go_wp2
      go_round
      case rel=>exact ⟨k+1,by omega,by go_num,by rw [Htk.out,List.all_append,Hr.out];simp [Hkc.out]⟩
      case measure=>simp [intOf];omega
     ·have d97:decide ((c:Int)<97)=false:=by simp;omega
      have d122:decide (122<(c:Int))=true:=by simp;omega
      have d48:decide ((c:Int)<48)=false:=by simp;omega
      have d57:decide (57<(c:Int))=true:=by simp;omega
      have n46:((c:Int) != 46)=true:=by simp;omega
      have n95:((c:Int) != 95)=true:=by simp;omega
      have n45:((c:Int) != 45)=true:=by simp;omega
      have Hkc:=Qh (show keyChar ch=false by rw [hkc];simp;omega)
      have Hall:=Qh (show s.all keyChar=false by
       cases h:s.all keyChar with
       |false=>rfl
       |true=>rw [List.all_eq_true.1 h ch Hmem.out] at Hkc;exact absurd Hkc.out (by simp))
      clear hkc hc
      go_wp2
      go_ret
      exact ⟨Xax (by rw [Hok.out,Hall.out]),Qb _ _⟩
     ·have d97:decide ((c:Int)<97)=true:=by simp;omega
      have d122:decide (122<(c:Int))=false:=by simp;omega
      have d48:decide ((c:Int)<48)=false:=by simp;omega
      have d57:decide (57<(c:Int))=false:=by simp;omega
      have n46:((c:Int) != 46)=true:=by simp;omega
      have n95:((c:Int) != 95)=true:=by simp;omega
      have n45:((c:Int) != 45)=true:=by simp;omega
      have Hkc:=Qh (show keyChar ch=true by rw [hkc];simp;omega)
      clear hkc hc
      go_wp2
      go_round
      case rel=>exact ⟨k+1,by omega,by go_num,by rw [Htk.out,List.all_append,Hr.out];simp [Hkc.out]⟩
      case measure=>simp [intOf];omega
     ·have d97:decide ((c:Int)<97)=true:=by simp;omega
      have d122:decide (122<(c:Int))=false:=by simp;omega
      have d48:decide ((c:Int)<48)=true:=by simp;omega
      have d57:decide (57<(c:Int))=false:=by simp;omega
      have n46:((c:Int) != 46)=false:=by simp;omega
      have n95:((c:Int) != 95)=true:=by simp;omega
      have n45:((c:Int) != 45)=true:=by simp;omega
      have Hkc:=Qh (show keyChar ch=true by rw [hkc];simp;omega)
      clear hkc hc
      go_wp2
      go_round
      case rel=>exact ⟨k+1,by omega,by go_num,by rw [Htk.out,List.all_append,Hr.out];simp [Hkc.out]⟩
      case measure=>simp [intOf];omega
     ·have d97:decide ((c:Int)<97)=true:=by simp;omega
      have d122:decide (122<(c:Int))=false:=by simp;omega
      have d48:decide ((c:Int)<48)=false:=by simp;omega
      have d57:decide (57<(c:Int))=true:=by simp;omega
      have n46:((c:Int) != 46)=true:=by simp;omega
      have n95:((c:Int) != 95)=false:=by simp;omega
      have n45:((c:Int) != 45)=true:=by simp;omega
      have Hkc:=Qh (show keyChar ch=true by rw [hkc];simp;omega)
      clear hkc hc
      go_wp2
      go_round
      case rel=>exact ⟨k+1,by omega,by go_num,by rw [Htk.out,List.all_append,Hr.out];simp [Hkc.out]⟩
      case measure=>simp [intOf];omega
     ·have d97:decide ((c:Int)<97)=true:=by simp;omega
      have d122:decide (122<(c:Int))=false:=by simp;omega
      have d48:decide ((c:Int)<48)=true:=by simp;omega
      have d57:decide (57<(c:Int))=false:=by simp;omega
      have n46:((c:Int) != 46)=true:=by simp;omega
      have n95:((c:Int) != 95)=true:=by simp;omega
      have n45:((c:Int) != 45)=false:=by simp;omega
      have Hkc:=Qh (show keyChar ch=true by rw [hkc];simp;omega)
      clear hkc hc
      go_wp2
      go_round
      case rel=>exact ⟨k+1,by omega,by go_num,by rw [Htk.out,List.all_append,Hr.out];simp [Hkc.out]⟩
      case measure=>simp [intOf];omega
     ·have d97:decide ((c:Int)<97)=true:=by simp;omega
      have d122:decide (122<(c:Int))=false:=by simp;omega
      have d48:decide ((c:Int)<48)=true:=by simp;omega
      have d57:decide (57<(c:Int))=false:=by simp;omega
      have n46:((c:Int) != 46)=true:=by simp;omega
      have n95:((c:Int) != 95)=true:=by simp;omega
      have n45:((c:Int) != 45)=true:=by simp;omega
      have Hkc:=Qh (show keyChar ch=false by rw [hkc];simp;omega)
      have Hall:=Qh (show s.all keyChar=false by
       cases h:s.all keyChar with
       |false=>rfl
       |true=>rw [List.all_eq_true.1 h ch Hmem.out] at Hkc;exact absurd Hkc.out (by simp))
      clear hkc hc
      go_wp2
      go_ret
      exact ⟨Xax (by rw [Hok.out,Hall.out]),Qb _ _⟩
     ·have d97:decide ((c:Int)<97)=true:=by simp;omega
      have d122:decide (122<(c:Int))=false:=by simp;omega
      have d48:decide ((c:Int)<48)=false:=by simp;omega
      have d57:decide (57<(c:Int))=true:=by simp;omega
      have n46:((c:Int) != 46)=true:=by simp;omega
      have n95:((c:Int) != 95)=true:=by simp;omega
      have n45:((c:Int) != 45)=true:=by simp;omega
      have Hkc:=Qh (show keyChar ch=false by rw [hkc];simp;omega)
      have Hall:=Qh (show s.all keyChar=false by
       cases h:s.all keyChar with
       |false=>rfl
       |true=>rw [List.all_eq_true.1 h ch Hmem.out] at Hkc;exact absurd Hkc.out (by simp))
      clear hkc hc
      go_wp2
      go_ret
      exact ⟨Xax (by rw [Hok.out,Hall.out]),Qb _ _⟩
    ·have hall:s.take k=s:=List.take_of_length_le (by omega)
     rw [hall] at Hr
     clear hall
     go_wp2
     go_ret
     exact ⟨Xax (by rw [Hok.out,Hr.out]),Qb _ _⟩
  ·have hd2:decide (32<s.length)=true:=by simp;omega
   have Hok:=Qh (show keyOk s=false by simp [keyOk,h32])
   go_enter Tryz.func158,Tryz.ntmps158
   go_wp2
   go_ret
   exact ⟨Xax Hok.out.symm,Qb _ _⟩
 ·have hd1:decide (s.length<1)=true:=Qt (by omega)
  have Hok:=Qh (show keyOk s=false by simp [keyOk,h1])
  go_enter Tryz.func158,Tryz.ntmps158
  go_wp2
  go_ret
  exact ⟨Xax Hok.out.symm,Qb _ _⟩
theorem Xf7 (p:Option At) (x:At) (l:List At):chkFrom p (x::l)=if atErr x≠0 then atErr x else if (p.any fun q=>q.k==x.k) then 8 else if (p.any fun q=>Op.bytesLess x.k q.k) then 14 else chkFrom (some x) l:=rfl
set_option maxRecDepth 100000 in
set_option maxHeartbeats 1000000 in
theorem Xmr (I:IH) (v:Value) (l:List At) (hv:RdS tAt I v l) (hl:∀x∈l,x.Wf) (w:World) (hw:Ok I w):
 Calls Tryz.prog 103 #[v] w fun e w'=>e= .returned (.int .i64 (chk l))∧Below w.heap.size w w':=by
 have hlen:=hv.len_le
 obtain ⟨ao,cap,rfl,hcap,hcm,_⟩:=id hv
 have Hv:=Qh hv;clear hv
 have Hl:=Qh hl;clear hl
 by_cases h16:l.length≤16
 ·have hd:decide (16<l.length)=false:=Qf (by omega)
  have Hchk:=Qh (show chk l=chkFrom none l by rw [chk,if_neg (by omega)])
  go_enter Tryz.func103,Tryz.ntmps103
  go_wp2_with fail
  go_loopw [3] (fun s3 wr=> ∃k:Nat,k≤l.length∧s3= .int .i64 k∧chkFrom (if k=0 then none else l[k-1]?) (l.drop k)=chkFrom none l∧Below w.heap.size w wr) (fun i _=>l.length-(intOf i).toNat)
  case atStart=>exact ⟨0,Nat.zero_le _,rfl,rfl,Qb _ _⟩
  case round=>
   obtain ⟨k,hk,rfl,hr,hb⟩:=hrel
   have Hr:=Qh hr;clear hr
   by_cases hlt:k<l.length
   ·have hwr:Ok I wr:=hw.below (Qn _) hb
    obtain ⟨x,b,off,cap',hlx,hvv,hc0,hc1⟩:=atAt Hv.out hwr k hlt
    cases hvv
    have hxm:x∈l:=by rw [←hlx];exact List.getElem_mem hlt
    obtain ⟨hx1,hx2⟩:=Hl.out x hxm
    have Hst:=Qh (show chk l=if atErr x≠0 then atErr x else if ((if k=0 then none else l[k-1]?).any fun q=>q.k==x.k) then 8 else if ((if k=0 then none else l[k-1]?).any fun q=>Op.bytesLess x.k q.k) then 14 else chkFrom (some x) (l.drop (k+1)) by
     rw [Hchk.out,←Hr.out,List.drop_eq_getElem_cons hlt,hlx,Xf7])
    have Hkx:=Qh (show l[k]? =some x by rw [List.getElem?_eq_getElem hlt,hlx])
    clear hlx hxm
    go_wp2_with fail
    refine (Xqu x.k hx1 _).mono ?_
    rintro e w1 ⟨rfl,hb1⟩
    have hb1':=hb.trans (hb1.mono hb.size)
    have hc0:=Xaa hb1 hc0
    have hc1:=Xaa hb1 hc1
    have hw1:Ok I w1:=hwr.below (Qn _) hb1
    clear hb1
    cases hko:keyOk x.k
    ·have Hko:=Qh (show chk l=7 by rw [Hst.out,if_pos (by rw [atErr,if_pos hko];omega),atErr,if_pos hko])
     clear hko
     go_wp2
     go_ret
     exact ⟨Xal Hko.out.symm,hb1'⟩
    ·have Hko:=Qh hko
     clear hko
     by_cases h64:x.v.length≤64
     ·have hd2:decide (64<x.v.length)=false:=Qf (by omega)
      have He:=Qh (show atErr x=0 by rw [atErr,if_neg (by rw [Hko.out];simp),if_neg (by omega)])
      by_cases hk0:k=0
      ·have hd3:decide (0<k)=false:=Qf (by omega)
       have Hnx:=Qh (show chkFrom (if k+1=0 then none else l[k+1-1]?) (l.drop (k+1))=chkFrom none l by
        rw [←Hchk.out,Hst.out,He.out,if_neg (by omega),Nat.add_sub_cancel,Hkx.out];simp [hk0])
       clear hk0
       go_wp2_with fail
       refine wp_region_quiet_below (by kernel_rfl) (by kernel_rfl) ?_
       repeat (go_big_quiet_step ((fail)))
       refine wpQuiet_nil ?_
       intro w2 hwq
       have hb2:Below (w1).heap.size (w1) w2:=by
        obtain ⟨pq,rfl⟩:=hwq
        exact below_regrown _ _ _
       clear hwq
       go_wp2_with fail
       refine wp_region_quiet_below (by kernel_rfl) (by kernel_rfl) ?_
       repeat (go_big_quiet_step ((fail)))
       refine wpQuiet_nil ?_
       intro w3 hwq
       have hb3:Below (w2).heap.size (w2) w3:=by
        obtain ⟨pq,rfl⟩:=hwq
        exact below_regrown _ _ _
       clear hwq
       go_wp2
       go_roundw
       case rel=>exact ⟨k+1,by omega,by go_num,Hnx.out,hb1'.trans ((hb2.trans (hb3.mono hb2.size)).mono hb1'.size)⟩
       case measure=>simp [intOf];omega
      ·obtain ⟨q,b',off',cap'',hlq,hvv,hp0,hp1⟩:=atAt Hv.out hw1 (k-1) (by omega)
       cases hvv
       have Hst2:=Qh (show chk l=if (q.k==x.k) then 8 else if Op.bytesLess x.k q.k then 14 else chkFrom (some x) (l.drop (k+1)) by
        rw [Hst.out,He.out,if_neg (by omega),if_neg hk0,List.getElem?_eq_getElem (by omega),hlq];rfl)
       have hd3:decide (0<k)=true:=Qt (by omega)
       have hi:IntKind.i64.wrap ((k:Int)-1)=(k:Int)-1:=IntWalk.i64_in _ (by omega)
       have hj:0≤(k:Int)-1:=by omega
       have hm:((k:Int)-1).toNat=k-1:=by omega
       have hg0:=cell_regrown hc0
       have hq0:=cell_regrown hp0
       clear hlq
       cases he1:(x.k==q.k)
       ·have He1:=Qh (show (q.k==x.k)=false by rw [beq_eq_false_iff_ne] at he1 ⊢;exact fun h=>he1 h.symm)
        cases he2:Op.bytesLess x.k q.k
        ·have Hnx:=Qh (show chkFrom (if k+1=0 then none else l[k+1-1]?) (l.drop (k+1))=chkFrom none l by
          rw [←Hchk.out,Hst2.out,He1.out,he2,Nat.add_sub_cancel,Hkx.out];simp)
         go_wp2_with fail
         refine wp_region_quiet_below (by kernel_rfl) (by kernel_rfl) ?_
         repeat (go_big_quiet_step ((fail)))
         refine wpQuiet_nil ?_
         intro w2 hwq
         have hb2:Below (w1).heap.size (w1) w2:=by
          obtain ⟨pq,rfl⟩:=hwq
          exact below_regrown _ _ _
         clear hwq
         go_wp2_with fail
         have hg0:=cell_regrown (Xaa hb2 hc0)
         have hq0:=cell_regrown (Xaa hb2 hp0)
         refine wp_region_quiet_below (by kernel_rfl) (by kernel_rfl) ?_
         repeat (go_big_quiet_step ((fail)))
         refine wpQuiet_nil ?_
         intro w3 hwq
         have hb3:Below (w2).heap.size (w2) w3:=by
          obtain ⟨pq,rfl⟩:=hwq
          exact below_regrown _ _ _
         clear hwq
         go_wp2
         go_roundw
         case rel=>exact ⟨k+1,by omega,by go_num,Hnx.out,hb1'.trans ((hb2.trans (hb3.mono hb2.size)).mono hb1'.size)⟩
         case measure=>simp [intOf];omega
        ·have Hnx:=Qh (show chk l=14 by rw [Hst2.out,He1.out,he2];simp)
         go_wp2_with fail
         refine wp_region_quiet_below (by kernel_rfl) (by kernel_rfl) ?_
         repeat (go_big_quiet_step ((fail)))
         refine wpQuiet_nil ?_
         intro w2 hwq
         have hb2:Below (w1).heap.size (w1) w2:=by
          obtain ⟨pq,rfl⟩:=hwq
          exact below_regrown _ _ _
         clear hwq
         go_wp2_with fail
         have hg0:=cell_regrown (Xaa hb2 hc0)
         have hq0:=cell_regrown (Xaa hb2 hp0)
         refine wp_region_quiet_below (by kernel_rfl) (by kernel_rfl) ?_
         repeat (go_big_quiet_step ((fail)))
         refine wpQuiet_nil ?_
         intro w3 hwq
         have hb3:Below (w2).heap.size (w2) w3:=by
          obtain ⟨pq,rfl⟩:=hwq
          exact below_regrown _ _ _
         clear hwq
         go_wp2
         go_ret
         exact ⟨Xal Hnx.out.symm,hb1'.trans ((hb2.trans (hb3.mono hb2.size)).mono hb1'.size)⟩
       ·have Hnx:=Qh (show chk l=8 by rw [Hst2.out,if_pos (by rw [beq_iff_eq] at he1 ⊢;exact he1.symm)])
        go_wp2_with fail
        refine wp_region_quiet_below (by kernel_rfl) (by kernel_rfl) ?_
        repeat (go_big_quiet_step ((fail)))
        refine wpQuiet_nil ?_
        intro w2 hwq
        have hb2:Below (w1).heap.size (w1) w2:=by
         obtain ⟨pq,rfl⟩:=hwq
         exact below_regrown _ _ _
        clear hwq
        go_wp2
        go_ret
        exact ⟨Xal Hnx.out.symm,hb1'.trans (hb2.mono hb1'.size)⟩
     ·have hd2:decide (64<x.v.length)=true:=Qt (by omega)
      have He:=Qh (show chk l=6 by
       have:atErr x=6:=by rw [atErr,if_neg (by rw [Hko.out];simp),if_pos (by omega)]
       rw [Hst.out,this];simp)
      go_wp2
      go_ret
      exact ⟨Xal He.out.symm,hb1'⟩
   ·go_wp2
    go_ret
    refine ⟨Xal ?_,hb⟩
    rw [Hchk.out,←Hr.out,List.drop_of_length_le (by omega)];rfl
 ·have hd:decide (16<l.length)=true:=Qt (by omega)
  go_enter Tryz.func103,Tryz.ntmps103
  go_wp2
  go_ret
  exact ⟨Xal (by rw [chk,if_pos (by omega)]),Qb _ _⟩
set_option maxRecDepth 100000 in
set_option maxHeartbeats 400000 in
theorem Xki (x:Ent) (hx:x.target.length≤9223372036854775807) (va vx:Value) (w:World):
 Calls Tryz.prog 104 #[entV x va vx] w fun e w'=>e= .returned (.bool (targetOk x))∧Below w.heap.size w w':=by
 by_cases h3:x.kind=3
 ·have f3:((x.kind:Int)==3)=true:=by simpa using h3
  by_cases h1:1≤x.target.length
  case neg=>
   have d1:decide (1≤x.target.length)=false:=Qf h1
   have Ht:=Qh (show targetOk x=false by rw [targetOk,if_pos h3,d1];rfl)
   clear h3
   go_enter Tryz.func104,Tryz.ntmps104
   go_wp2
   go_ret
   exact ⟨Xax Ht.out.symm,(Qb _ _).alloc (Qn _) _⟩
  have d1:decide (1≤x.target.length)=true:=Qt h1
  have Ht:=Qh (show targetOk x=decide (x.target.length≤200) by rw [targetOk,if_pos h3,d1];rfl)
  clear h3
  go_enter Tryz.func104,Tryz.ntmps104
  go_wp2
  go_ret
  exact ⟨Xax (by rw [Ht.out,decide_eq_decide];omega),(Qb _ _).alloc (Qn _) _⟩
 have f3:((x.kind:Int)==3)=false:=by simpa using h3
 by_cases h5:x.kind=5
 ·have f5:((x.kind:Int)==5)=true:=by simpa using h5
  have Ht:=Qh (show targetOk x=(dateP x.target).2 by rw [targetOk,if_neg h3,if_pos h5,Xt1])
  clear h3 h5
  go_enter Tryz.func104,Tryz.ntmps104
  go_wp2_with fail
  refine (Xo9 x.target hx _).mono ?_
  rintro e w1 ⟨rfl,hb1⟩
  go_wp2
  go_ret
  exact ⟨Xax Ht.out.symm,((Qb _ _).alloc (Qn _) _).trans (hb1.mono (by simp))⟩
 have f5:((x.kind:Int)==5)=false:=by simpa using h5
 have Ht:=Qh (show targetOk x=x.target.isEmpty by rw [targetOk,if_neg h3,if_neg h5])
 clear h3 h5
 go_enter Tryz.func104,Tryz.ntmps104
 go_wp2
 go_ret
 exact ⟨Xax (by rw [Ht.out]),(Qb _ _).alloc (Qn _) _⟩
def greatE (x:Ent):Bool:=decide (300<x.path.length) || decide (300<x.target.length) || decide (100<x.digest.length) || decide (30<x.exts.length) || decide (greatA x.attrs=1)
def grE (x:Ent):Int:=if greatE x then 1 else 0
def sumW (l:List Xt):Int:=l.foldl (fun n x=>wrap64 (n+x.n)) 0
theorem Xj8 (l:List Xt) (x:Xt):sumW (l++ [x])=wrap64 (sumW l+x.n):=by simp [sumW,List.foldl_append]
def entErrR (e:Ent):Int:=
 if e.kind<1∨6<e.kind then 10
 else if pathErr e.path≠0 then pathErr e.path
 else if e.path= []∧e.kind<5 then 1
 else if chk e.attrs≠0 then chk e.attrs
 else if (e.attrs≠ []∧3<e.kind)∨targetOk e=false then 1
 else if e.size<0∨65536<e.size∨(e.kind≠1∧e.size≠0) then 2
 else if (e.kind=1∧e.digest.length≠32)∨(e.kind≠1∧e.digest≠ []) then 1
 else if xtsErr (e.kind==1) e.exts≠0 then xtsErr (e.kind==1) e.exts
 else if sumW e.exts≠e.size then 1 else 0
theorem Xgm:∀(l:List Xt),xtsErr true l=0→ ∀x∈l,xtBad x=false
 | [],_,_,h=>absurd h (by simp)
 |y::l,h,x,hx=>by
  rw [xtsErr,if_neg (by simp)] at h
  by_cases hb:xtBad y=true
  ·rw [if_pos hb] at h;omega
  ·rw [if_neg hb] at h
   rcases List.mem_cons.1 hx with rfl|hx
   ·simpa using hb
   ·exact Xgm l h x hx
theorem Xgo {x:Xt} (h:xtBad x=false):1≤x.n∧x.n≤65536:=by
 unfold xtBad at h
 simp only [Bool.or_eq_false_iff,decide_eq_false_iff_not] at h
 omega
theorem Xfm (l:List Xt) (x:Xt):xtSum (l++ [x])=xtSum l+x.n:=by simp [xtSum]
theorem Xnj:∀(n:Nat) (l:List Xt),l.length=n→(∀x∈l,xtBad x=false)→0≤xtSum l∧xtSum l≤65536*n:=by
 intro n
 induction n with
 |zero=>
  intro l h _
  have:l= []:=List.eq_nil_of_length_eq_zero h
  subst this
  exact ⟨Int.le_refl _,by decide⟩
 |succ n ih=>
  intro l h ha
  have hne:l≠ []:=by intro e;rw [e] at h;simp at h
  have e:l=l.dropLast++ [l.getLast hne]:=(List.dropLast_concat_getLast hne).symm
  have hl:l.dropLast.length=n:=by rw [List.length_dropLast,h];omega
  obtain ⟨i1,i2⟩:=ih _ hl fun x hx=>ha x (List.dropLast_subset _ hx)
  have hc:=Xgo (ha _ (List.getLast_mem hne))
  rw [e,Xfm]
  omega
theorem Xu5 {l:List Xt} (hl:l.length≤1000000) (ha:∀x∈l,xtBad x=false):sumW l=xtSum l:=by
 have key:∀k,k≤l.length→sumW (l.take k)=xtSum (l.take k):=by
  intro k
  induction k with
  |zero=>intro _;rfl
  |succ k ih=>
   intro hk
   have e:l.take (k+1)=l.take k++ [l[k]]:=List.take_succ_eq_append_getElem (by omega)
   have hb:=Xnj k (l.take k) (by rw [List.length_take];omega) fun x hx=>ha x (List.mem_of_mem_take hx)
   have hc:=Xgo (ha l[k] (List.getElem_mem _))
   rw [e,Xj8,Xfm,ih (by omega)]
   unfold wrap64
   omega
 have:=key l.length (Qn _)
 rwa [List.take_length] at this
theorem Xir {e:Ent} (h:e.exts.length≤1000000):entErrR e=entErr e:=by
 unfold entErrR entErr
 by_cases h8:xtsErr (e.kind==1) e.exts=0
 ·have:sumW e.exts=xtSum e.exts:=by
   cases hk:(e.kind==1)
   ·rw [hk] at h8
    cases hx:e.exts with
    |nil=>rfl
    |cons y l=>rw [hx] at h8;simp [xtsErr] at h8
   ·rw [hk] at h8
    exact Xu5 h (Xgm _ h8)
  rw [this]
 ·simp only [h8,ne_eq,not_false_eq_true,if_true]
structure EntB (w:World) (n:Nat) (e:Ent) (va vx:Value):Prop where
 c0:w.cell? ⟨n,0,none⟩=some (.int .i64 e.kind)
 c1:w.cell? ⟨n,1,none⟩=some (S e.path)
 c2:w.cell? ⟨n,2,none⟩=some va
 c3:w.cell? ⟨n,3,none⟩=some (S e.target)
 c4:w.cell? ⟨n,4,none⟩=some (.int .i64 e.size)
 c5:w.cell? ⟨n,5,none⟩=some (S e.digest)
 c6:w.cell? ⟨n,6,none⟩=some vx
theorem EntB.thru {w w':World} {n:Nat} {e:Ent} {va vx:Value} (h:EntB w n e va vx) (hb:Below w.heap.size w w'):EntB w' n e va vx:=
 ⟨Xaa hb h.c0,Xaa hb h.c1,Xaa hb h.c2,Xaa hb h.c3,Xaa hb h.c4,Xaa hb h.c5,Xaa hb h.c6⟩
theorem EntB.past {w:World} {n:Nat} {e:Ent} {va vx:Value} (h:EntB w n e va vx) (x:Obj):EntB (w.alloc x) n e va vx:=
 ⟨Xai x h.c0,Xai x h.c1,Xai x h.c2,Xai x h.c3,Xai x h.c4,Xai x h.c5,Xai x h.c6⟩
theorem entB {W w':World} {e:Ent} {va vx:Value} {t:TypeId} {n:Nat} (hn:n=W.heap.size) (hb:Below (W.alloc (.cells #[.int .i64 e.kind,S e.path,va,S e.target,.int .i64 e.size,S e.digest,vx] t)).heap.size (W.alloc (.cells #[.int .i64 e.kind,S e.path,va,S e.target,.int .i64 e.size,S e.digest,vx] t)) w'):EntB w' n e va vx:=by
 subst hn
 exact EntB.thru ⟨by simp,by simp,by simp,by simp,by simp,by simp,by simp⟩ hb
end Go.Proofs.YtjdednajelommaaGreatDoor
