/-
  Walks and laws that the claim's theorem uses: texts AtA AtB AtC, joined; comments out. Conditions: as each theorem says.
-/
import Derived.Test.YtdeknddamidldaaGreatDoorQ00
namespace Go.Proofs.YtdeknddamidldaaGreatDoor
open Go.RowKit
def bigA (x:At):Bool:=decide (100<x.k.length) || decide (100<x.v.length)
def greatA (l:List At):Int:=if 30<l.length then 1 else if l.any bigA then 1 else 0
set_option maxRecDepth 100000 in
set_option maxHeartbeats 400000 in
theorem Xna (I:IH) (v:Value) (l:List At) (hv:RdS tAt I v l) (hl:∀x∈l,x.Wf) (w:World) (hw:Ok I w):
 Calls Tryz.prog 53 #[v] w fun e w'=>e= .returned (.int .i64 (greatA l))∧Below w.heap.size w w':=by
 have hlen:=hv.len_le
 obtain ⟨ao,cap,rfl,hcap,hcm,_⟩:=id hv
 have Hv:=Qh hv;clear hv
 have Hl:=Qh hl;clear hl
 by_cases h30:l.length≤30
 ·have hd:decide (30<l.length)=false:=by simp;omega
  go_enter Tryz.func53,Tryz.ntmps53
  go_wp2_with fail
  go_loopw [3] (fun s3 wr=> ∃k:Nat,k≤l.length∧s3= .int .i64 k∧(l.take k).any bigA=false∧Below w.heap.size w wr) (fun i _=>l.length-(intOf i).toNat)
  case atStart=>exact ⟨0,Nat.zero_le _,rfl,rfl,Qb _ _⟩
  case round=>
   obtain ⟨k,hk,rfl,hr,hb⟩:=hrel
   have Hr:=Qh hr;clear hr
   by_cases hlt:k<l.length
   ·have hwr:Ok I wr:=hw.below (Qn _) hb
    obtain ⟨x,b,off,cap',hlx,hvv,hc0,hc1⟩:=atAt Hv.out hwr k hlt
    cases hvv
    have hxm:x∈l:=by rw [←hlx];exact List.getElem_mem hlt
    obtain ⟨hx1,hx2⟩:=Hl.out x hxm
    have Hxm:=Qh hxm
    have Htk:=Qh (show l.take (k+1)=l.take k++ [x] by rw [List.take_succ_eq_append_getElem hlt,hlx])
    clear hlx hxm
    by_cases h1:x.k.length≤100
    ·have hd1:decide (100<x.k.length)=false:=by simp;omega
     by_cases h2:x.v.length≤100
     ·have hd2:decide (100<x.v.length)=false:=by simp;omega
      go_wp2
      go_roundw
      case rel=>exact ⟨k+1,by omega,by go_num,(by rw [Htk.out,List.any_append,Hr.out];simp [bigA];omega),hb⟩
      case measure=>simp [intOf];omega
     ·have hd2:decide (100<x.v.length)=true:=by simp;omega
      go_wp2
      go_ret
      exact ⟨Xac (by rw [greatA,if_neg (by omega),if_pos (List.any_eq_true.2 ⟨x,Hxm.out,by simp [bigA];omega⟩)]),hb⟩
    ·have hd1:decide (100<x.k.length)=true:=by simp;omega
     go_wp2
     go_ret
     exact ⟨Xac (by rw [greatA,if_neg (by omega),if_pos (List.any_eq_true.2 ⟨x,Hxm.out,by simp [bigA];omega⟩)]),hb⟩
   ·go_wp2
    go_ret
    refine ⟨Xac ?_,hb⟩
    have:=Hr.out
    rw [List.take_of_length_le (by omega)] at this
    rw [greatA,if_neg (by omega),if_neg (by rw [this];simp)]
 ·have hd:decide (30<l.length)=true:=by simp;omega
  go_enter Tryz.func53,Tryz.ntmps53
  go_wp2
  go_ret
  exact ⟨Xac (by rw [greatA,if_pos (by omega)]),Qb _ _⟩
theorem Xo6 (a b:At) (W:World):(binOp .neq 114 (.agg #[S a.k,S a.v]) (.agg #[S b.k,S b.v])).run Tryz.prog W= .ok (.bool (!decide (a=b))) W:=by
 rw [Xfn _ _ [(9,0,false),(9,1,false)] W (by kernel_rfl) (by kernel_rfl) (by kernel_rfl)]
 obtain ⟨a1,a2⟩:=a
 obtain ⟨b1,b2⟩:=b
 simp [go_sem]
 by_cases h1:a1=b1<;>by_cases h2:a2=b2<;>simp [h1,h2]
set_option maxRecDepth 100000 in
set_option maxHeartbeats 400000 in
theorem Xph (I:IH) (v1 v2:Value) (l1 l2:List At) (hv1:RdS tAt I v1 l1) (hv2:RdS tAt I v2 l2) (w:World) (hw:Ok I w):
 Calls Tryz.prog 46 #[v1,v2] w fun e w'=>e= .returned (.bool (decide (l1=l2)))∧Below w.heap.size w w':=by
 have hlen:=hv1.len_le
 have hlen2:=hv2.len_le
 obtain ⟨ao,cap,rfl,hcap,hcm,_⟩:=id hv1
 obtain ⟨ao2,cap2,rfl,hcap2,hcm2,_⟩:=id hv2
 have Hv1:=Qh hv1;clear hv1
 have Hv2:=Qh hv2;clear hv2
 by_cases hll:l1.length=l2.length
 ·have hn:((l1.length:Int) != (l2.length:Int))=false:=by rw [hll];simp
  have Hll:=Qh hll;clear hll
  go_enter Tryz.func46,Tryz.ntmps46
  go_wp2
  go_loopw [5] (fun s5 wr=> ∃k:Nat,k≤l1.length∧s5= .int .i64 k∧l1.take k=l2.take k∧Below w.heap.size w wr) (fun i _=>l1.length-(intOf i).toNat)
  case atStart=>exact ⟨0,Nat.zero_le _,rfl,rfl,Qb _ _⟩
  case round=>
   obtain ⟨k,hk,rfl,hr,hb⟩:=hrel
   have Hr:=Qh hr;clear hr
   by_cases hlt:k<l1.length
   ·have hlt2:k<l2.length:=by rw [←Hll.out];exact hlt
    have hwr:Ok I wr:=hw.below (Qn _) hb
    obtain ⟨p,b,off,cap',hp,hvv,hp0,hp1⟩:=atAt Hv1.out hwr k hlt
    cases hvv
    obtain ⟨q,b',off',cap'',hq,hvv,hq0,hq1⟩:=atAt Hv2.out hwr k hlt2
    cases hvv
    have Hp:=Qh hp;clear hp
    have Hq:=Qh hq;clear hq
    have hg0:=cell_regrown hp0
    have hg1:=cell_regrown hp1
    have hy0:=cell_regrown hq0
    have hy1:=cell_regrown hq1
    have hneq:=Xo6 p q
    by_cases hpq:p=q
    ·rw [Qt hpq] at hneq
     go_wp2_with fail
     refine wp_region_quiet_below (by kernel_rfl) (by kernel_rfl) ?_
     repeat (go_big_quiet_step ((fail)))
     refine wpQuiet_nil ?_
     intro w2 hwq
     have hb2:Below (wr).heap.size (wr) w2:=by
      obtain ⟨pq,rfl⟩:=hwq
      exact below_regrown _ _ _
     clear hwq
     go_wp2
     go_roundw
     case rel=>exact ⟨k+1,by omega,by go_num,by rw [List.take_succ_eq_append_getElem hlt,List.take_succ_eq_append_getElem hlt2,Hr.out,Hp.out,Hq.out,hpq],hb.trans (hb2.mono hb.size)⟩
     case measure=>simp [intOf];omega
    ·rw [Qf hpq] at hneq
     go_wp2_with fail
     refine wp_region_quiet_below (by kernel_rfl) (by kernel_rfl) ?_
     repeat (go_big_quiet_step ((fail)))
     refine wpQuiet_nil ?_
     intro w2 hwq
     have hb2:Below (wr).heap.size (wr) w2:=by
      obtain ⟨pq,rfl⟩:=hwq
      exact below_regrown _ _ _
     clear hwq
     go_wp2
     go_ret
     refine ⟨Xah ?_,hb.trans (hb2.mono hb.size)⟩
     symm
     rw [decide_eq_false_iff_not]
     intro h
     apply hpq
     rw [←Hp.out,←Hq.out]
     simp [h]
   ·go_wp2
    go_ret
    refine ⟨Xah ?_,hb⟩
    symm
    rw [decide_eq_true_iff]
    have:=Hr.out
    rwa [List.take_of_length_le (by omega),List.take_of_length_le (by rw [←Hll.out];omega)] at this
 ·have hn:((l1.length:Int) != (l2.length:Int))=true:=by rw [bne_iff_ne];omega
  go_enter Tryz.func46,Tryz.ntmps46
  go_wp2
  go_ret
  exact ⟨Xah (by simp;intro h;exact hll (by rw [h])),Qb _ _⟩
theorem Xni (c:UInt8):keyChar c=(decide (97≤c.toNat)&&decide (c.toNat≤122) || decide (48≤c.toNat)&&decide (c.toNat≤57) || decide (c.toNat=46) || decide (c.toNat=95) || decide (c.toNat=45)):=by
 have e:∀n:Nat,n<256→(c==UInt8.ofNat n)=decide (c.toNat=n):=fun n hn=>by
  rw [Bool.eq_iff_iff,beq_iff_eq,decide_eq_true_iff]
  constructor
  ·intro h;rw [h];simp;omega
  ·intro h
   have:c=UInt8.ofNat c.toNat:=by simp
   rw [this,h]
 unfold keyChar
 rw [show (46:UInt8)=UInt8.ofNat 46 from rfl,show (95:UInt8)=UInt8.ofNat 95 from rfl,show (45:UInt8)=UInt8.ofNat 45 from rfl,e 46 (by omega),e 95 (by omega),e 45 (by omega)]
 simp [UInt8.le_iff_toNat_le]
set_option maxRecDepth 100000 in
set_option maxHeartbeats 1000000 in
theorem Xqz (s:Bytes) (hs:s.length≤9223372036854775807) (w:World):
 Calls Tryz.prog 194 #[S s] w fun e w'=>e= .returned (.bool (keyOk s))∧Below w.heap.size w w':=by
 by_cases h1:1≤s.length
 ·have hd1:decide (s.length<1)=false:=Qf (by omega)
  by_cases h32:s.length≤32
  ·have hd2:decide (32<s.length)=false:=by simp;omega
   have Hok:=Qh (show keyOk s=s.all keyChar by simp [keyOk,h1,h32])
   go_enter Tryz.func194,Tryz.ntmps194
   go_wp2_with fail
   go_loop [3] (fun s3=> ∃k:Nat,k≤s.length∧s3= .int .i64 k∧(s.take k).all keyChar=true) (fun i=>s.length-(intOf i).toNat)
   case atStart=>exact ⟨0,Nat.zero_le _,rfl,rfl⟩
   case round=>
    obtain ⟨k,hk,rfl,hr⟩:=hrel
    have Hr:=Qh hr;clear hr
    by_cases hlt:k<s.length
    ·have hx:=run_at Tryz.underlying9 s (k:Int) k rfl hlt
     have hkc:=Xni (s.getD k 0)
     have Htk:=Qh (show s.take (k+1)=s.take k++ [s.getD k 0] by rw [List.take_succ_eq_append_getElem hlt];simp [List.getD,hlt])
     have Hmem:=Qh (show s.getD k 0∈s by simp [List.getD,hlt])
     have hc256:(s.getD k 0).toNat<256:=(s.getD k 0).toNat_lt
     generalize s.getD k 0=ch at hkc Htk Hmem hx hc256
     generalize ch.toNat=c at hkc hx hc256
     rcases (show (97≤c∧c≤122)∨122<c∨(48≤c∧c≤57)∨c=46∨c=95∨c=45∨(c<48∧c≠46∧c≠45)∨(57<c∧c<97∧c≠95) by omega) with hc|hc|hc|hc|hc|hc|hc|hc
     ·have d97:decide ((c:Int)<97)=false:=by simp;omega
      have d122:decide (122<(c:Int))=false:=by simp;omega
      have d48:decide ((c:Int)<48)=false:=by simp;omega
      have d57:decide (57<(c:Int))=true:=by simp;omega
      have n46:((c:Int) != 46)=true:=by simp;omega
      have n95:((c:Int) != 95)=true:=by simp;omega
      have n45:((c:Int) != 45)=true:=by simp;omega
      have Hkc:=Qh (show keyChar ch=true by rw [hkc];simp;omega)
      clear hkc hc
      go_wp2
      go_round
      case rel=>exact ⟨k+1,by omega,by go_num,by rw [Htk.out,List.all_append,Hr.out];simp [Hkc.out]⟩
      case measure=>simp [intOf];omega
     ·have d97:decide ((c:Int)<97)=false:=by simp;omega
      have d122:decide (122<(c:Int))=true:=by simp;omega
      have d48:decide ((c:Int)<48)=false:=by simp;omega
      have d57:decide (57<(c:Int))=true:=by simp;omega
      have n46:((c:Int) != 46)=true:=by simp;omega
      have n95:((c:Int) != 95)=true:=by simp;omega
      have n45:((c:Int) != 45)=true:=by simp;omega
      have Hkc:=Qh (show keyChar ch=false by rw [hkc];simp;omega)
      have Hall:=Qh (show s.all keyChar=false by
       cases h:s.all keyChar with
       |false=>rfl
       |true=>rw [List.all_eq_true.1 h ch Hmem.out] at Hkc;exact absurd Hkc.out (by simp))
      clear hkc hc
      go_wp2
      go_ret
      exact ⟨Xah (by rw [Hok.out,Hall.out]),Qb _ _⟩
     ·have d97:decide ((c:Int)<97)=true:=by simp;omega
      have d122:decide (122<(c:Int))=false:=by simp;omega
      have d48:decide ((c:Int)<48)=false:=by simp;omega
      have d57:decide (57<(c:Int))=false:=by simp;omega
      have n46:((c:Int) != 46)=true:=by simp;omega
      have n95:((c:Int) != 95)=true:=by simp;omega
      have n45:((c:Int) != 45)=true:=by simp;omega
      have Hkc:=Qh (show keyChar ch=true by rw [hkc];simp;omega)
      clear hkc hc
      go_wp2
      go_round
      case rel=>exact ⟨k+1,by omega,by go_num,by rw [Htk.out,List.all_append,Hr.out];simp [Hkc.out]⟩
      case measure=>simp [intOf];omega
     ·have d97:decide ((c:Int)<97)=true:=by simp;omega
      have d122:decide (122<(c:Int))=false:=by simp;omega
      have d48:decide ((c:Int)<48)=true:=by simp;omega
      have d57:decide (57<(c:Int))=false:=by simp;omega
      have n46:((c:Int) != 46)=false:=by simp;omega
      have n95:((c:Int) != 95)=true:=by simp;omega
      have n45:((c:Int) != 45)=true:=by simp;omega
      have Hkc:=Qh (show keyChar ch=true by rw [hkc];simp;omega)
      clear hkc hc
      go_wp2
      go_round
      case rel=>exact ⟨k+1,by omega,by go_num,by rw [Htk.out,List.all_append,Hr.out];simp [Hkc.out]⟩
      case measure=>simp [intOf];omega
     ·have d97:decide ((c:Int)<97)=true:=by simp;omega
      have d122:decide (122<(c:Int))=false:=by simp;omega
      have d48:decide ((c:Int)<48)=false:=by simp;omega
      have d57:decide (57<(c:Int))=true:=by simp;omega
      have n46:((c:Int) != 46)=true:=by simp;omega
      have n95:((c:Int) != 95)=false:=by simp;omega
      have n45:((c:Int) != 45)=true:=by simp;omega
      have Hkc:=Qh (show keyChar ch=true by rw [hkc];simp;omega)
      clear hkc hc
      go_wp2
      go_round
      case rel=>exact ⟨k+1,by omega,by go_num,by rw [Htk.out,List.all_append,Hr.out];simp [Hkc.out]⟩
      case measure=>simp [intOf];omega
     ·have d97:decide ((c:Int)<97)=true:=by simp;omega
      have d122:decide (122<(c:Int))=false:=by simp;omega
      have d48:decide ((c:Int)<48)=true:=by simp;omega
      have d57:decide (57<(c:Int))=false:=by simp;omega
      have n46:((c:Int) != 46)=true:=by simp;omega
      have n95:((c:Int) != 95)=true:=by simp;omega
      have n45:((c:Int) != 45)=false:=by simp;omega
      have Hkc:=Qh (show keyChar ch=true by rw [hkc];simp;omega)
      clear hkc hc
      go_wp2
      go_round
      case rel=>exact ⟨k+1,by omega,by go_num,by rw [Htk.out,List.all_append,Hr.out];simp [Hkc.out]⟩
      case measure=>simp [intOf];omega
     ·have d97:decide ((c:Int)<97)=true:=by simp;omega
      have d122:decide (122<(c:Int))=false:=by simp;omega
      have d48:decide ((c:Int)<48)=true:=by simp;omega
      have d57:decide (57<(c:Int))=false:=by simp;omega
      have n46:((c:Int) != 46)=true:=by simp;omega
      have n95:((c:Int) != 95)=true:=by simp;omega
      have n45:((c:Int) != 45)=true:=by simp;omega
      have Hkc:=Qh (show keyChar ch=false by rw [hkc];simp;omega)
      have Hall:=Qh (show s.all keyChar=false by
       cases h:s.all keyChar with
       |false=>rfl
       |true=>rw [List.all_eq_true.1 h ch Hmem.out] at Hkc;exact absurd Hkc.out (by simp))
      clear hkc hc
      go_wp2
      go_ret
      exact ⟨Xah (by rw [Hok.out,Hall.out]),Qb _ _⟩
     ·have d97:decide ((c:Int)<97)=true:=by simp;omega
      have d122:decide (122<(c:Int))=false:=by simp;omega
      have d48:decide ((c:Int)<48)=false:=by simp;omega
      have d57:decide (57<(c:Int))=true:=by simp;omega
      have n46:((c:Int) != 46)=true:=by simp;omega
      have n95:((c:Int) != 95)=true:=by simp;omega
      have n45:((c:Int) != 45)=true:=by simp;omega
      have Hkc:=Qh (show keyChar ch=false by rw [hkc];simp;omega)
      have Hall:=Qh (show s.all keyChar=false by
       cases h:s.all keyChar with
       |false=>rfl
       |true=>rw [List.all_eq_true.1 h ch Hmem.out] at Hkc;exact absurd Hkc.out (by simp))
      clear hkc hc
      go_wp2
      go_ret
      exact ⟨Xah (by rw [Hok.out,Hall.out]),Qb _ _⟩
    ·have hall:s.take k=s:=List.take_of_length_le (by omega)
     rw [hall] at Hr
     clear hall
     go_wp2
     go_ret
     exact ⟨Xah (by rw [Hok.out,Hr.out]),Qb _ _⟩
  ·have hd2:decide (32<s.length)=true:=by simp;omega
   have Hok:=Qh (show keyOk s=false by simp [keyOk,h32])
   go_enter Tryz.func194,Tryz.ntmps194
   go_wp2
   go_ret
   exact ⟨Xah Hok.out.symm,Qb _ _⟩
 ·have hd1:decide (s.length<1)=true:=Qt (by omega)
  have Hok:=Qh (show keyOk s=false by simp [keyOk,h1])
  go_enter Tryz.func194,Tryz.ntmps194
  go_wp2
  go_ret
  exact ⟨Xah Hok.out.symm,Qb _ _⟩
theorem Xgd (p:Option At) (x:At) (l:List At):chkFrom p (x::l)=if atErr x≠0 then atErr x else if (p.any fun q=>q.k==x.k) then 8 else if (p.any fun q=>Op.bytesLess x.k q.k) then 14 else chkFrom (some x) l:=rfl
set_option maxRecDepth 100000 in
set_option maxHeartbeats 1000000 in
theorem Xnb (I:IH) (v:Value) (l:List At) (hv:RdS tAt I v l) (hl:∀x∈l,x.Wf) (w:World) (hw:Ok I w):
 Calls Tryz.prog 160 #[v] w fun e w'=>e= .returned (.int .i64 (chk l))∧Below w.heap.size w w':=by
 have hlen:=hv.len_le
 obtain ⟨ao,cap,rfl,hcap,hcm,_⟩:=id hv
 have Hv:=Qh hv;clear hv
 have Hl:=Qh hl;clear hl
 by_cases h16:l.length≤16
 ·have hd:decide (16<l.length)=false:=Qf (by omega)
  have Hchk:=Qh (show chk l=chkFrom none l by rw [chk,if_neg (by omega)])
  go_enter Tryz.func160,Tryz.ntmps160
  go_wp2_with fail
  go_loopw [3] (fun s3 wr=> ∃k:Nat,k≤l.length∧s3= .int .i64 k∧chkFrom (if k=0 then none else l[k-1]?) (l.drop k)=chkFrom none l∧Below w.heap.size w wr) (fun i _=>l.length-(intOf i).toNat)
  case atStart=>exact ⟨0,Nat.zero_le _,rfl,rfl,Qb _ _⟩
  case round=>
   obtain ⟨k,hk,rfl,hr,hb⟩:=hrel
   have Hr:=Qh hr;clear hr
   by_cases hlt:k<l.length
   ·have hwr:Ok I wr:=hw.below (Qn _) hb
    obtain ⟨x,b,off,cap',hlx,hvv,hc0,hc1⟩:=atAt Hv.out hwr k hlt
    cases hvv
    have hxm:x∈l:=by rw [←hlx];exact List.getElem_mem hlt
    obtain ⟨hx1,hx2⟩:=Hl.out x hxm
    have Hst:=Qh (show chk l=if atErr x≠0 then atErr x else if ((if k=0 then none else l[k-1]?).any fun q=>q.k==x.k) then 8 else if ((if k=0 then none else l[k-1]?).any fun q=>Op.bytesLess x.k q.k) then 14 else chkFrom (some x) (l.drop (k+1)) by
     rw [Hchk.out,←Hr.out,List.drop_eq_getElem_cons hlt,hlx,Xgd])
    have Hkx:=Qh (show l[k]? =some x by rw [List.getElem?_eq_getElem hlt,hlx])
    clear hlx hxm
    go_wp2_with fail
    refine (Xqz x.k hx1 _).mono ?_
    rintro e w1 ⟨rfl,hb1⟩
    have hb1':=hb.trans (hb1.mono hb.size)
    have hc0:=Xaa hb1 hc0
    have hc1:=Xaa hb1 hc1
    have hw1:Ok I w1:=hwr.below (Qn _) hb1
    clear hb1
    cases hko:keyOk x.k
    ·have Hko:=Qh (show chk l=7 by rw [Hst.out,if_pos (by rw [atErr,if_pos hko];omega),atErr,if_pos hko])
     clear hko
     go_wp2
     go_ret
     exact ⟨Xac Hko.out.symm,hb1'⟩
    ·have Hko:=Qh hko
     clear hko
     by_cases h64:x.v.length≤64
     ·have hd2:decide (64<x.v.length)=false:=Qf (by omega)
      have He:=Qh (show atErr x=0 by rw [atErr,if_neg (by rw [Hko.out];simp),if_neg (by omega)])
      by_cases hk0:k=0
      ·have hd3:decide (0<k)=false:=Qf (by omega)
       have Hnx:=Qh (show chkFrom (if k+1=0 then none else l[k+1-1]?) (l.drop (k+1))=chkFrom none l by
        rw [←Hchk.out,Hst.out,He.out,if_neg (by omega),Nat.add_sub_cancel,Hkx.out];simp [hk0])
       clear hk0
       go_wp2_with fail
       refine wp_region_quiet_below (by kernel_rfl) (by kernel_rfl) ?_
       repeat (go_big_quiet_step ((fail)))
       refine wpQuiet_nil ?_
       intro w2 hwq
       have hb2:Below (w1).heap.size (w1) w2:=by
        obtain ⟨pq,rfl⟩:=hwq
        exact below_regrown _ _ _
       clear hwq
       go_wp2_with fail
       refine wp_region_quiet_below (by kernel_rfl) (by kernel_rfl) ?_
       repeat (go_big_quiet_step ((fail)))
       refine wpQuiet_nil ?_
       intro w3 hwq
       have hb3:Below (w2).heap.size (w2) w3:=by
        obtain ⟨pq,rfl⟩:=hwq
        exact below_regrown _ _ _
       clear hwq
       go_wp2
       go_roundw
       case rel=>exact ⟨k+1,by omega,by go_num,Hnx.out,hb1'.trans ((hb2.trans (hb3.mono hb2.size)).mono hb1'.size)⟩
       case measure=>simp [intOf];omega
      ·obtain ⟨q,b',off',cap'',hlq,hvv,hp0,hp1⟩:=atAt Hv.out hw1 (k-1) (by omega)
       cases hvv
       have Hst2:=Qh (show chk l=if (q.k==x.k) then 8 else if Op.bytesLess x.k q.k then 14 else chkFrom (some x) (l.drop (k+1)) by
        rw [Hst.out,He.out,if_neg (by omega),if_neg hk0,List.getElem?_eq_getElem (by omega),hlq];rfl)
       have hd3:decide (0<k)=true:=Qt (by omega)
       have hi:IntKind.i64.wrap ((k:Int)-1)=(k:Int)-1:=IntWalk.i64_in _ (by omega)
       have hj:0≤(k:Int)-1:=by omega
       have hm:((k:Int)-1).toNat=k-1:=by omega
       have hg0:=cell_regrown hc0
       have hq0:=cell_regrown hp0
       clear hlq
       cases he1:(x.k==q.k)
       ·have He1:=Qh (show (q.k==x.k)=false by rw [beq_eq_false_iff_ne] at he1 ⊢;exact fun h=>he1 h.symm)
        cases he2:Op.bytesLess x.k q.k
        ·have Hnx:=Qh (show chkFrom (if k+1=0 then none else l[k+1-1]?) (l.drop (k+1))=chkFrom none l by
          rw [←Hchk.out,Hst2.out,He1.out,he2,Nat.add_sub_cancel,Hkx.out];simp)
         go_wp2_with fail
         refine wp_region_quiet_below (by kernel_rfl) (by kernel_rfl) ?_
         repeat (go_big_quiet_step ((fail)))
         refine wpQuiet_nil ?_
         intro w2 hwq
         have hb2:Below (w1).heap.size (w1) w2:=by
          obtain ⟨pq,rfl⟩:=hwq
          exact below_regrown _ _ _
         clear hwq
         go_wp2_with fail
         have hg0:=cell_regrown (Xaa hb2 hc0)
         have hq0:=cell_regrown (Xaa hb2 hp0)
         refine wp_region_quiet_below (by kernel_rfl) (by kernel_rfl) ?_
         repeat (go_big_quiet_step ((fail)))
         refine wpQuiet_nil ?_
         intro w3 hwq
         have hb3:Below (w2).heap.size (w2) w3:=by
          obtain ⟨pq,rfl⟩:=hwq
          exact below_regrown _ _ _
         clear hwq
         go_wp2
         go_roundw
         case rel=>exact ⟨k+1,by omega,by go_num,Hnx.out,hb1'.trans ((hb2.trans (hb3.mono hb2.size)).mono hb1'.size)⟩
         case measure=>simp [intOf];omega
        ·have Hnx:=Qh (show chk l=14 by rw [Hst2.out,He1.out,he2];simp)
         go_wp2_with fail
         refine wp_region_quiet_below (by kernel_rfl) (by kernel_rfl) ?_
         repeat (go_big_quiet_step ((fail)))
         refine wpQuiet_nil ?_
         intro w2 hwq
         have hb2:Below (w1).heap.size (w1) w2:=by
          obtain ⟨pq,rfl⟩:=hwq
          exact below_regrown _ _ _
         clear hwq
         go_wp2_with fail
         have hg0:=cell_regrown (Xaa hb2 hc0)
         have hq0:=cell_regrown (Xaa hb2 hp0)
         refine wp_region_quiet_below (by kernel_rfl) (by kernel_rfl) ?_
         repeat (go_big_quiet_step ((fail)))
         refine wpQuiet_nil ?_
         intro w3 hwq
         have hb3:Below (w2).heap.size (w2) w3:=by
          obtain ⟨pq,rfl⟩:=hwq
          exact below_regrown _ _ _
         clear hwq
         go_wp2
         go_ret
         exact ⟨Xac Hnx.out.symm,hb1'.trans ((hb2.trans (hb3.mono hb2.size)).mono hb1'.size)⟩
       ·have Hnx:=Qh (show chk l=8 by rw [Hst2.out,if_pos (by rw [beq_iff_eq] at he1 ⊢;exact he1.symm)])
        go_wp2_with fail
        refine wp_region_quiet_below (by kernel_rfl) (by kernel_rfl) ?_
        repeat (go_big_quiet_step ((fail)))
        refine wpQuiet_nil ?_
        intro w2 hwq
        have hb2:Below (w1).heap.size (w1) w2:=by
         obtain ⟨pq,rfl⟩:=hwq
         exact below_regrown _ _ _
        clear hwq
        go_wp2
        go_ret
        exact ⟨Xac Hnx.out.symm,hb1'.trans (hb2.mono hb1'.size)⟩
     ·have hd2:decide (64<x.v.length)=true:=Qt (by omega)
      have He:=Qh (show chk l=6 by
       have:atErr x=6:=by rw [atErr,if_neg (by rw [Hko.out];simp),if_pos (by omega)]
       rw [Hst.out,this];simp)
      go_wp2
      go_ret
      exact ⟨Xac He.out.symm,hb1'⟩
   ·go_wp2
    go_ret
    refine ⟨Xac ?_,hb⟩
    rw [Hchk.out,←Hr.out,List.drop_of_length_le (by omega)];rfl
 ·have hd:decide (16<l.length)=true:=Qt (by omega)
  go_enter Tryz.func160,Tryz.ntmps160
  go_wp2
  go_ret
  exact ⟨Xac (by rw [chk,if_pos (by omega)]),Qb _ _⟩
end Go.Proofs.YtdeknddamidldaaGreatDoor
