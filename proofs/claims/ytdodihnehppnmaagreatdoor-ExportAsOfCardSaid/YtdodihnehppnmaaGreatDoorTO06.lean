/-
  Walks and laws that the claim's theorem uses: texts AtL PeA ShU LiA BmS HiP RdP RhA RhB ShR NeA NrA, joined; comments out. Conditions: as each theorem says.
-/
import Derived.Test.YtdodihnehppnmaaGreatDoorTO05
import Derived.Lib.SmallJoins
import Derived.Lib.AppendIntMem
import Derived.Shelf.Strings.Builder1
import Derived.Shelf.Strings.Builder2
import Derived.Shelf.Strings.Repeat
import Derived.Shelf.Strings.LastIndex
import Derived.Test.YtdodihnehppnmaaGreatDoorProg
import Derived.Lib.Repeat
import Derived.Laws.MakeOwn
import Derived.Shelf.Strings.Prefix
import Derived.Shelf.Slices.Turned
import Derived.OwnWalk
set_option linter.all false
namespace Go.Proofs.YtdodihnehppnmaaGreatDoor
open Go.RowKit
set_option maxRecDepth 100000 in
set_option maxHeartbeats 1000000 in
theorem Xvb (I:IH) (v:Value) (l:List At) (hv:RdS tAt I v l) (hl:∀x∈l,x.Wf) (w:World) (hw:Ok I w):
 Calls Tryz.prog 130 #[v] w fun e w'=>e= .returned (.int .i64 (chk l))∧Below w.heap.size w w':=by
 have hlen:=hv.len_le
 obtain ⟨ao,cap,rfl,hcap,hcm,_⟩:=id hv
 have Hv:=Qh hv;clear hv
 have Hl:=Qh hl;clear hl
 by_cases h16:l.length≤16
 ·have hd:decide (16<l.length)=false:=Qf (by omega)
  have Hchk:=Qh (show chk l=chkFrom none l by rw [chk,if_neg (by omega)])
  go_enter Tryz.func130,Tryz.ntmps130
  go_wp2_with fail
  go_loopw [11] (fun s11 wr=> ∃k:Nat,k≤l.length∧s11= .int .i64 k∧chkFrom (if k=0 then none else l[k-1]?) (l.drop k)=chkFrom none l∧Below w.heap.size w wr) (fun i _=>l.length-(intOf i).toNat)
  case atStart=>exact ⟨0,Nat.zero_le _,rfl,rfl,Qb _ _⟩
  case round=>
   obtain ⟨k,hk,rfl,hr,hb⟩:=hrel
   have Hr:=Qh hr;clear hr
   by_cases hlt:k<l.length
   ·have hwr:Ok I wr:=hw.below (Qn _) hb
    obtain ⟨x,b,off,cap',hlx,hvv,hc0,hc1⟩:=atAt Hv.out hwr k hlt
    cases hvv
    have hxm:x∈l:=by rw [←hlx];exact List.getElem_mem hlt
    have Hxw:=Qh (Hl.out x hxm)
    have Hst:=Qh (show chk l=if atErr x≠0 then atErr x else if ((if k=0 then none else l[k-1]?).any fun q=>q.k==x.k) then 8 else if ((if k=0 then none else l[k-1]?).any fun q=>Op.bytesLess x.k q.k) then 14 else chkFrom (some x) (l.drop (k+1)) by
     rw [Hchk.out,←Hr.out,List.drop_eq_getElem_cons hlt,hlx,Xgq])
    have Hkx:=Qh (show l[k]? =some x by rw [List.getElem?_eq_getElem hlt,hlx])
    clear hlx hxm
    go_wp2_with fail
    refine (Xw7 x Hxw.out _).mono ?_
    rintro e w1 ⟨rfl,hb1⟩
    obtain ⟨hx0,hx1⟩:=Xw8 rfl hb1
    have hb1':=(hb.alloc hb.size _).trans (hb1.mono (by have:=hb.size;simp;omega))
    have hw1:Ok I w1:=hw.below (Qn _) hb1'
    clear hb1 hc0 hc1
    by_cases h0:atErr x=0
    ·have H0:=Qh h0
     rw [h0]
     clear h0
     by_cases hk0:k=0
     ·have hd3:((k:Int)==0)=true:=by rw [hk0];rfl
      have Hnx:=Qh (show chkFrom (if k+1=0 then none else l[k+1-1]?) (l.drop (k+1))=chkFrom none l by
       rw [←Hchk.out,Hst.out,H0.out,if_neg (by omega),Nat.add_sub_cancel,Hkx.out];simp [hk0])
      clear hk0
      go_wp2
      go_roundw
      case rel=>exact ⟨k+1,by omega,by go_num,Hnx.out,hb1'⟩
      case measure=>simp [intOf];omega
     ·obtain ⟨q,b',off',cap'',hlq,hvv,hp0,hp1⟩:=atAt Hv.out hw1 (k-1) (by omega)
      cases hvv
      have Hst2:=Qh (show chk l=if (q.k==x.k) then 8 else if Op.bytesLess x.k q.k then 14 else chkFrom (some x) (l.drop (k+1)) by
       rw [Hst.out,H0.out,if_neg (by omega),if_neg hk0,List.getElem?_eq_getElem (by omega),hlq];rfl)
      have hd3:((k:Int)==0)=false:=by rw [beq_eq_false_iff_ne];omega
      have hi:IntKind.i64.wrap ((k:Int)-1)=(k:Int)-1:=IntWalk.i64_in _ (by omega)
      have hj:0≤(k:Int)-1:=by omega
      have hm:((k:Int)-1).toNat=k-1:=by omega
      have hg0:=cell_regrown hx0
      have hq0:=cell_regrown hp0
      have hcmp:=Xma q.k x.k
      have Hcmp:=Qh (fun W=>Xnh q.k x.k W)
      generalize Lib.compareBytes q.k x.k=r at hcmp Hcmp
      clear hlq
      rcases Xel q.k x.k with ht|ht|ht
      ·have hr1:r= -1:=by rw [hcmp,ht];rfl
       have Hnx:=Qh (show chkFrom (if k+1=0 then none else l[k+1-1]?) (l.drop (k+1))=chkFrom none l by
        have hbe:(q.k==x.k)=false:=by simpa using Xqk ht
        rw [←Hchk.out,Hst2.out,Xem ht,hbe,Nat.add_sub_cancel,Hkx.out];simp)
       subst hr1
       clear ht hcmp
       go_wp2_with fail
       refine wp_region_quiet_below (by kernel_rfl) (by kernel_rfl) ?_
       repeat (go_big_quiet_step ((with_reducible exact Calls.regrown_of (Hcmp.out _))))
       refine wpQuiet_nil ?_
       intro w2 hwq
       have hb2:Below (w1).heap.size (w1) w2:=by
        obtain ⟨pq,rfl⟩:=hwq
        exact below_regrown _ _ _
       clear hwq
       go_wp2
       go_roundw
       case rel=>exact ⟨k+1,by omega,by go_num,Hnx.out,hb1'.trans (hb2.mono hb1'.size)⟩
       case measure=>simp [intOf];omega
      ·have hbe:(q.k==x.k)=true:=by rw [ht];exact beq_self_eq_true _
       have hbl:Op.bytesLess q.k x.k=false:=by rw [ht];exact Xbb _
       have hr1:r=0:=by rw [hcmp,hbl,hbe];rfl
       have Hnx:=Qh (show chk l=8 by rw [Hst2.out,if_pos hbe])
       subst hr1
       clear ht hcmp hbe hbl
       go_wp2_with fail
       refine wp_region_quiet_below (by kernel_rfl) (by kernel_rfl) ?_
       repeat (go_big_quiet_step ((with_reducible exact Calls.regrown_of (Hcmp.out _))))
       refine wpQuiet_nil ?_
       intro w2 hwq
       have hb2:Below (w1).heap.size (w1) w2:=by
        obtain ⟨pq,rfl⟩:=hwq
        exact below_regrown _ _ _
       clear hwq
       go_wp2
       go_ret
       exact ⟨Xac Hnx.out.symm,hb1'.trans (hb2.mono hb1'.size)⟩
      ·have hne:(q.k==x.k)=false:=by simpa using (Xqk ht).symm
       have hr1:r=1:=by rw [hcmp,Xem ht,hne];rfl
       have Hnx:=Qh (show chk l=14 by rw [Hst2.out,if_neg (by rw [hne];simp),if_pos ht])
       subst hr1
       clear ht hcmp hne
       go_wp2_with fail
       refine wp_region_quiet_below (by kernel_rfl) (by kernel_rfl) ?_
       repeat (go_big_quiet_step ((with_reducible exact Calls.regrown_of (Hcmp.out _))))
       refine wpQuiet_nil ?_
       intro w2 hwq
       have hb2:Below (w1).heap.size (w1) w2:=by
        obtain ⟨pq,rfl⟩:=hwq
        exact below_regrown _ _ _
       clear hwq
       go_wp2
       go_ret
       exact ⟨Xac Hnx.out.symm,hb1'.trans (hb2.mono hb1'.size)⟩
    ·obtain ⟨q,hq⟩:∃q,atErr x=q:=⟨_,rfl⟩
     have hn0:(q != 0)=true:=by rw [←hq];simpa using h0
     have Hs:=Qh (show chk l=q by rw [Hst.out,if_pos h0,hq])
     rw [hq]
     clear hq h0
     go_wp2
     go_ret
     exact ⟨Xac Hs.out.symm,hb1'⟩
   ·go_wp2
    go_ret
    refine ⟨Xac ?_,hb⟩
    rw [Hchk.out,←Hr.out,List.drop_of_length_le (by omega)];rfl
 ·have hd:decide (16<l.length)=true:=Qt (by omega)
  go_enter Tryz.func130,Tryz.ntmps130
  go_wp2
  go_ret
  exact ⟨Xac (by rw [chk,if_pos (by omega)]),Qb _ _⟩
theorem Glob.tab {I : IH} {w : World} (h : Glob I) (hw : Ok I w) : Lib.TabIs Tryz.prog w "internal/strconv.uint64pow10" .u64 Lib.pow10Tab := by
 obtain ⟨e,f,hh⟩:=hw _ _ h.pow
 unfold Lib.TabIs World.var?
 have hg : Tryz.prog.globalNamed "internal/strconv.uint64pow10" = some 3 := by kernel_rfl
 simp [hg,hh]
theorem Glob.vsyn {I : IH} {w : World} (h : Glob I) (hw : Ok I w) : ∃ tp p, w.var? Tryz.prog "strconv.ErrSyntax" = some #[.iface tp p] := by
 obtain ⟨tp,p,h1⟩:=h.syn
 obtain ⟨e,f,hh⟩:=hw _ _ h1
 refine ⟨tp,p,?_⟩
 unfold World.var?
 have hg : Tryz.prog.globalNamed "strconv.ErrSyntax" = some 1 := by kernel_rfl
 simp [hg,hh]
theorem Glob.vrng {I : IH} {w : World} (h : Glob I) (hw : Ok I w) : ∃ tp p, w.var? Tryz.prog "strconv.ErrRange" = some #[.iface tp p] := by
 obtain ⟨tp,p,h1⟩:=h.rng
 obtain ⟨e,f,hh⟩:=hw _ _ h1
 refine ⟨tp,p,?_⟩
 unfold World.var?
 have hg : Tryz.prog.globalNamed "strconv.ErrRange" = some 2 := by kernel_rfl
 simp [hg,hh]
theorem Xj2 (I:IH) (hI:Glob I) (n:Int) (w:World) (hw:Ok I w) (h0: -9223372036854775808≤n) (h1:n≤9223372036854775807):
 Calls Tryz.prog 96 #[.int .i64 n] w fun e w'=>e= .returned (S (Lib.itoa n))∧Below w.heap.size w w':=
 (Tryz.strconv_Itoa n h0 h1 w (hI.tab hw)).mono fun e w' ⟨he,k,os,hq⟩=>⟨he,by rw [hq];exact Lib.below_grow _ _ (Qn _) _ _⟩
def AtoiBad (w:World) (e:Ending) (w':World):Prop:= ∃n N,e= .returned (.tuple #[.int .i64 n,.iface 244 (.pointer (some ⟨N,0,none⟩))])∧Below w.heap.size w w'
theorem Xdn (s:Bytes) (hs:s.length≤4294967280) (n:Int) (h:Lib.atoiAll s= .ok n) (w:World):
 Calls Tryz.prog 104 #[S s] w fun e w'=>e= .returned (.tuple #[.int .i64 n,.nilIface])∧Below w.heap.size w w':=by
 have hsz:(⟨s.toArray⟩:ByteArray).size=s.length:=by simp [ByteArray.size]
 refine (Tryz.strconv_Atoi_ok ⟨s.toArray⟩ (by omega) n h w).mono fun e w' ⟨h1,h2⟩=>⟨h1,?_⟩
 rcases h2 with h2|⟨t,h2⟩
 ·rw [h2];exact Qb _ _
 ·rw [h2];exact Joins.below_bytesWorld _ _ _ _ (Qn _)
theorem Xd4 (I:IH) (hI:Glob I) (s:Bytes) (hs:s.length≤4294967280) (h:∀n,Lib.atoiAll s≠ .ok n) (w:World) (hw:Ok I w):
 Calls Tryz.prog 104 #[S s] w (AtoiBad w):=by
 have hsz:(⟨s.toArray⟩:ByteArray).size=s.length:=by simp [ByteArray.size]
 by_cases hr:Lib.atoiAll s= .range
 ·obtain ⟨tp,p,hv⟩:=hI.vrng hw
  exact (Tryz.strconv_Atoi_range_var ⟨s.toArray⟩ (by omega) hr tp p w hv).mono fun e w' ⟨N,h1,_,_,h4⟩=>⟨_,N,h1,h4⟩
 ·obtain ⟨tp,p,hv⟩:=hI.vsyn hw
  exact (Tryz.strconv_Atoi_syntax_var ⟨s.toArray⟩ (by omega) h hr tp p w hv).mono fun e w' ⟨N,h1,_,_,h4⟩=>⟨0,N,h1,h4⟩
set_option maxRecDepth 100000 in
set_option maxHeartbeats 1000000 in
theorem Xso (I:IH) (hI:Glob I) (s:Bytes) (hs:s.length≤4294967280) (w:World) (hw:Ok I w):
 Calls Tryz.prog 199 #[S s] w fun e w'=>e= .returned (.bool (dateOk s))∧Below w.heap.size w w':=by
 have hdi:=Xpc s
 by_cases hok:∃n,Lib.atoiAll s= .ok n
 case neg=>
  have Hn:=Qh (show dateOk s=false by
   cases h:dateOk s with
   |false=>rfl
   |true=>obtain ⟨n,h1,_⟩:=hdi.1 h;exact absurd ⟨n,h1⟩ hok)
  have Hat:=Qh (Xd4 I hI s hs (fun n h=>hok ⟨n,h⟩) w hw)
  clear hdi hok
  go_enter Tryz.func199,Tryz.ntmps199
  go_wp2_with fail
  refine Hat.out.mono ?_
  rintro e w1 ⟨n,N,rfl,hb1⟩
  go_wp2
  go_ret
  exact ⟨Xan Hn.out.symm,hb1⟩
 obtain ⟨n,hn⟩:=hok
 have Hat:=Qh (Xdn s hs n hn w)
 have Hd:=Qh (show dateOk s=(decide (0≤n)&&decide (n≤1000000000)&&decide (Lib.itoa n=s)) by
  rw [Bool.eq_iff_iff,hdi]
  simp only [Bool.and_eq_true,decide_eq_true_eq]
  constructor
  ·rintro ⟨m,h1,h2,h3,h4⟩
   rw [hn] at h1
   injection h1 with h1
   subst h1
   exact ⟨⟨h2,h3⟩,h4⟩
  ·rintro ⟨⟨h2,h3⟩,h4⟩
   exact ⟨n,hn,h2,h3,h4⟩)
 clear hdi hn
 by_cases h0:0≤n
 case neg=>
  have Hn:=Qh (show dateOk s=false by rw [Hd.out,Qf h0];rfl)
  go_enter Tryz.func199,Tryz.ntmps199
  go_wp2_with fail
  refine Hat.out.mono ?_
  rintro e w1 ⟨rfl,hb1⟩
  go_wp2
  go_ret
  exact ⟨(by first|exact Xan Hn.out.symm|(rw [Hn.out];congr 1;simp;omega)),hb1⟩
 by_cases h1:n≤1000000000
 case neg=>
  have Hn:=Qh (show dateOk s=false by rw [Hd.out,Qf h1,Bool.and_false];rfl)
  go_enter Tryz.func199,Tryz.ntmps199
  go_wp2_with fail
  refine Hat.out.mono ?_
  rintro e w1 ⟨rfl,hb1⟩
  go_wp2
  go_ret
  exact ⟨(by first|exact Xan Hn.out.symm|(rw [Hn.out];congr 1;simp;omega)),hb1⟩
 have Hn:=Qh (show dateOk s=(Lib.itoa n==s) by
  rw [Hd.out,Qt h0,Qt h1]
  by_cases h:Lib.itoa n=s<;>simp [h])
 have Hit:=Qh (fun w hw=>Xj2 I hI n w hw (by omega) (by omega))
 obtain ⟨t,ht⟩:∃t,Lib.itoa n=t:=⟨_,rfl⟩
 rw [ht] at Hit Hn
 clear ht
 go_enter Tryz.func199,Tryz.ntmps199
 go_wp2_with fail
 refine Hat.out.mono ?_
 rintro e w1 ⟨rfl,hb1⟩
 go_wp2_with fail
 refine (Hit.out _ (hw.below (Qn _) hb1)).mono ?_
 rintro e w2 ⟨rfl,hb2⟩
 go_wp2
 go_ret
 exact ⟨Xan Hn.out.symm,hb1.trans (hb2.mono hb1.size)⟩
set_option maxRecDepth 100000 in
set_option maxHeartbeats 400000 in
theorem Xsm (I:IH) (hI:Glob I) (x:Ent) (hx:x.target.length≤4294967280) (va vx:Value) (w:World) (hw:Ok I w):
 Calls Tryz.prog 131 #[entV x va vx] w fun e w'=>e= .returned (.bool (targetOk x))∧Below w.heap.size w w':=by
 by_cases h3:x.kind=3
 ·have f3:((x.kind:Int)==3)=true:=by simpa using h3
  by_cases h1:x.target= []
  ·have Ht:=Qh (show targetOk x=false by rw [targetOk,if_pos h3,h1];rfl)
   obtain ⟨p1,p2,p3,p4⟩:=Xdv h1
   clear h3 h1
   go_enter Tryz.func131,Tryz.ntmps131
   go_wp2
   go_ret
   exact ⟨Xan Ht.out.symm,(Qb _ _).alloc (Qn _) _⟩
  have hl1:1≤x.target.length:=List.length_pos_iff.2 h1
  have Ht:=Qh (show targetOk x=decide (x.target.length≤200) by rw [targetOk,if_pos h3,Qt hl1];rfl)
  obtain ⟨p1,p2,p3,p4⟩:=Xcw h1
  clear h3 h1
  go_enter Tryz.func131,Tryz.ntmps131
  go_wp2
  go_ret
  exact ⟨Xan (by rw [Ht.out,decide_eq_decide];omega),(Qb _ _).alloc (Qn _) _⟩
 have f3:((x.kind:Int)==3)=false:=by simpa using h3
 by_cases h5:x.kind=5
 ·have f5:((x.kind:Int)==5)=true:=by simpa using h5
  have Ht:=Qh (show targetOk x=dateOk x.target by rw [targetOk,if_neg h3,if_pos h5])
  clear h3 h5
  go_enter Tryz.func131,Tryz.ntmps131
  go_wp2_with fail
  refine (Xso I hI x.target hx _ (hw.alloc _)).mono ?_
  rintro e w1 ⟨rfl,hb1⟩
  go_wp2
  go_ret
  exact ⟨Xan Ht.out.symm,((Qb _ _).alloc (Qn _) _).trans (hb1.mono (by simp))⟩
 have f5:((x.kind:Int)==5)=false:=by simpa using h5
 have Ht:=Qh (show targetOk x=x.target.isEmpty by rw [targetOk,if_neg h3,if_neg h5])
 clear h3 h5
 go_enter Tryz.func131,Tryz.ntmps131
 go_wp2
 go_ret
 exact ⟨Xan (by rw [Ht.out]),(Qb _ _).alloc (Qn _) _⟩
end Go.Proofs.YtdodihnehppnmaaGreatDoor
namespace Go.Proofs
open Go.Shelf
def Tryz.lays169_ren:Go.Shelf.Ren:=⟨fun|169=>44|n=>n,fun|70=>74|9=>9|0=>0|72=>77|37=>75|127=>141|3=>3|5=>5|n=>n,fun|n=>n⟩
theorem Tryz.lays169:Go.Proofs.Lays.n169 Tryz.prog Tryz.lays169_ren:= {
 mixed:=by kernel_rfl
 f169:=Tryz.func44.trans (congrArg some (by kernel_rfl))
 t0:=Tryz.underlying0
 a0:=Tryz.isAgg0
 z0:=Tryz.sizeOf0
 v0:=Tryz.zeroValue0
 t3:=Tryz.underlying3
 a3:=Tryz.isAgg3
 z3:=Tryz.sizeOf3
 v3:=Tryz.zeroValue3
 t9:=Tryz.underlying9
 a9:=Tryz.isAgg9
 z9:=Tryz.sizeOf9
 v9:=Tryz.zeroValue9
 t37:=Tryz.underlying75
 a37:=Tryz.isAgg75
 z37:=Tryz.sizeOf75
 v37:=Tryz.zeroValue75
 t70:=Tryz.underlying74
 a70:=Tryz.isAgg74
 z70:=Tryz.sizeOf74
 v70:=Tryz.zeroValue74
 t72:=Tryz.underlying77
 a72:=Tryz.isAgg77
 z72:=Tryz.sizeOf77
 v72:=Tryz.zeroValue77
 t127:=Tryz.underlying141
 a127:=Tryz.isAgg141
 z127:=Tryz.sizeOf141
 v127:=Tryz.zeroValue141 }
theorem Tryz.Builder_Extra_169:Builder.Extra Tryz.prog Tryz.lays169_ren:= {
 sizeBuilder:=by kernel_rfl
 liesBuilder:=by kernel_rfl
 t5:=Tryz.underlying5
 a5:=Tryz.isAgg5
 z5:=Tryz.sizeOf5
 v5:=Tryz.zeroValue5
 infoByte:=by kernel_rfl
 cellsByte:=by kernel_rfl
 sizeByte:=by kernel_rfl
 neB5:=by decide }
open Go.RowKit in
theorem Tryz.Builder_String_any (B b:Nat) (l:List UInt8) (w:World) (h:Lib.IsBuilder 77 5 B b (Lib.byteCells l) w) (hBw:B≤w.heap.size):
 Calls Tryz.prog 44 #[.pointer (some ⟨b,0,none⟩)] w fun e w'=>e= .returned (.string ⟨l.toArray⟩)∧Below B w w':=Any.Builder_String_any Tryz.lays169 Tryz.Builder_Extra_169 B b l w h hBw
def Tryz.lays105_ren:Go.Shelf.Ren:=⟨fun|105=>75|212=>127|99=>27|165=>123|166=>40|170=>128|169=>44|263=>192|264=>193|206=>65|240=>95|241=>190|276=>147|277=>255|n=>n,fun|9=>9|3=>3|4=>4|20=>20|0=>0|46=>116|109=>169|5=>5|72=>77|76=>80|51=>110|146=>214|53=>46|148=>216|70=>74|37=>75|75=>79|127=>141|164=>184|80=>84|n=>n,fun|n=>n⟩
theorem Tryz.lays105:Go.Proofs.Lays.n105 Tryz.prog Tryz.lays105_ren:= {
 mixed:=by kernel_rfl
 f99:=Tryz.func27.trans (congrArg some (by kernel_rfl))
 f105:=Tryz.func75.trans (congrArg some (by kernel_rfl))
 f165:=Tryz.func123.trans (congrArg some (by kernel_rfl))
 f166:=Tryz.func40.trans (congrArg some (by kernel_rfl))
 f169:=Tryz.func44.trans (congrArg some (by kernel_rfl))
 f170:=Tryz.func128.trans (congrArg some (by kernel_rfl))
 f206:=Tryz.func65.trans (congrArg some (by kernel_rfl))
 f212:=Tryz.func127.trans (congrArg some (by kernel_rfl))
 f240:=Tryz.func95.trans (congrArg some (by kernel_rfl))
 f241:=Tryz.func190.trans (congrArg some (by kernel_rfl))
 f263:=Tryz.func192.trans (congrArg some (by kernel_rfl))
 f264:=Tryz.func193.trans (congrArg some (by kernel_rfl))
 f276:=Tryz.func147.trans (congrArg some (by kernel_rfl))
 f277:=Tryz.func255.trans (congrArg some (by kernel_rfl))
 t0:=Tryz.underlying0
 a0:=Tryz.isAgg0
 z0:=Tryz.sizeOf0
 v0:=Tryz.zeroValue0
 t3:=Tryz.underlying3
 a3:=Tryz.isAgg3
 z3:=Tryz.sizeOf3
 v3:=Tryz.zeroValue3
 t4:=Tryz.underlying4
 a4:=Tryz.isAgg4
 z4:=Tryz.sizeOf4
 v4:=Tryz.zeroValue4
 t5:=Tryz.underlying5
 a5:=Tryz.isAgg5
 z5:=Tryz.sizeOf5
 v5:=Tryz.zeroValue5
 t9:=Tryz.underlying9
 a9:=Tryz.isAgg9
 z9:=Tryz.sizeOf9
 v9:=Tryz.zeroValue9
 t20:=Tryz.underlying20
 a20:=Tryz.isAgg20
 z20:=Tryz.sizeOf20
 v20:=Tryz.zeroValue20
 t37:=Tryz.underlying75
 a37:=Tryz.isAgg75
 z37:=Tryz.sizeOf75
 v37:=Tryz.zeroValue75
 t46:=Tryz.underlying116
 a46:=Tryz.isAgg116
 z46:=Tryz.sizeOf116
 v46:=Tryz.zeroValue116
 t51:=Tryz.underlying110
 a51:=Tryz.isAgg110
 z51:=Tryz.sizeOf110
 v51:=Tryz.zeroValue110
 t53:=Tryz.underlying46
 a53:=Tryz.isAgg46
 z53:=Tryz.sizeOf46
 v53:=Tryz.zeroValue46
 t70:=Tryz.underlying74
 a70:=Tryz.isAgg74
 z70:=Tryz.sizeOf74
 v70:=Tryz.zeroValue74
 t72:=Tryz.underlying77
 a72:=Tryz.isAgg77
 z72:=Tryz.sizeOf77
 v72:=Tryz.zeroValue77
 t75:=Tryz.underlying79
 a75:=Tryz.isAgg79
 z75:=Tryz.sizeOf79
 v75:=Tryz.zeroValue79
 t76:=Tryz.underlying80
 a76:=Tryz.isAgg80
 z76:=Tryz.sizeOf80
 v76:=Tryz.zeroValue80
 t109:=Tryz.underlying169
 a109:=Tryz.isAgg169
 z109:=Tryz.sizeOf169
 v109:=Tryz.zeroValue169
 t127:=Tryz.underlying141
 a127:=Tryz.isAgg141
 z127:=Tryz.sizeOf141
 v127:=Tryz.zeroValue141
 t146:=Tryz.underlying214
 a146:=Tryz.isAgg214
 z146:=Tryz.sizeOf214
 v146:=Tryz.zeroValue214
 t148:=Tryz.underlying216
 a148:=Tryz.isAgg216
 z148:=Tryz.sizeOf216
 v148:=Tryz.zeroValue216
 t164:=Tryz.underlying184
 a164:=Tryz.isAgg184
 z164:=Tryz.sizeOf184
 v164:=Tryz.zeroValue184 }
theorem Tryz.Builder_Extra_105:Builder.Extra Tryz.prog Tryz.lays105_ren:= {
 sizeBuilder:=by kernel_rfl
 liesBuilder:=by kernel_rfl
 t5:=Tryz.underlying5
 a5:=Tryz.isAgg5
 z5:=Tryz.sizeOf5
 v5:=Tryz.zeroValue5
 infoByte:=by kernel_rfl
 cellsByte:=by kernel_rfl
 sizeByte:=by kernel_rfl
 neB5:=by decide }
open Go.RowKit Go.Lib in
theorem Tryz.strings_Repeat (s:ByteArray) (c:Nat) (w:World) (hc:c≤9223372036854775807) (hlen:s.size*c≤140737488355328):
 Calls Tryz.prog 75 #[.string s,.int .i64 c] w fun e w'=>e= .returned (.string ⟨(Lib.repeatL s.data.toList c).toArray⟩)∧Below w.heap.size w w':=Any.strings_Repeat Tryz.lays105 Tryz.Builder_Extra_105 s c w hc hlen
def Tryz.lays166_ren:Go.Shelf.Ren:=⟨fun|166=>40|240=>95|276=>147|n=>n,fun|0=>0|3=>3|4=>4|5=>5|9=>9|20=>20|37=>75|70=>74|72=>77|75=>79|80=>84|164=>184|n=>n,fun|n=>n⟩
theorem Tryz.lays166:Go.Proofs.Lays.n166 Tryz.prog Tryz.lays166_ren:= {
 mixed:=by kernel_rfl
 f166:=Tryz.func40.trans (congrArg some (by kernel_rfl))
 f240:=Tryz.func95.trans (congrArg some (by kernel_rfl))
 f276:=Tryz.func147.trans (congrArg some (by kernel_rfl))
 t0:=Tryz.underlying0
 a0:=Tryz.isAgg0
 z0:=Tryz.sizeOf0
 v0:=Tryz.zeroValue0
 t3:=Tryz.underlying3
 a3:=Tryz.isAgg3
 z3:=Tryz.sizeOf3
 v3:=Tryz.zeroValue3
 t4:=Tryz.underlying4
 a4:=Tryz.isAgg4
 z4:=Tryz.sizeOf4
 v4:=Tryz.zeroValue4
 t9:=Tryz.underlying9
 a9:=Tryz.isAgg9
 z9:=Tryz.sizeOf9
 v9:=Tryz.zeroValue9
 t20:=Tryz.underlying20
 a20:=Tryz.isAgg20
 z20:=Tryz.sizeOf20
 v20:=Tryz.zeroValue20
 t37:=Tryz.underlying75
 a37:=Tryz.isAgg75
 z37:=Tryz.sizeOf75
 v37:=Tryz.zeroValue75
 t70:=Tryz.underlying74
 a70:=Tryz.isAgg74
 z70:=Tryz.sizeOf74
 v70:=Tryz.zeroValue74
 t72:=Tryz.underlying77
 a72:=Tryz.isAgg77
 z72:=Tryz.sizeOf77
 v72:=Tryz.zeroValue77
 t75:=Tryz.underlying79
 a75:=Tryz.isAgg79
 z75:=Tryz.sizeOf79
 v75:=Tryz.zeroValue79
 t164:=Tryz.underlying184
 a164:=Tryz.isAgg184
 z164:=Tryz.sizeOf184
 v164:=Tryz.zeroValue184 }
theorem Tryz.Builder_Extra_166:Builder.Extra Tryz.prog Tryz.lays166_ren:= {
 sizeBuilder:=by kernel_rfl
 liesBuilder:=by kernel_rfl
 t5:=Tryz.underlying5
 a5:=Tryz.isAgg5
 z5:=Tryz.sizeOf5
 v5:=Tryz.zeroValue5
 infoByte:=by kernel_rfl
 cellsByte:=by kernel_rfl
 sizeByte:=by kernel_rfl
 neB5:=by decide }
theorem Tryz.Builder_WriteString (B b:Nat) (bs:List Value) (s:ByteArray) (w:World) (h:Lib.IsBuilder 77 5 B b bs w) (hlen:bs.length+s.size≤140737488355328) (hBw:B≤w.heap.size):
 Calls Tryz.prog 40 #[.pointer (some ⟨b,0,none⟩),.string s] w fun e w'=>e= .returned (.tuple #[.int .i64 s.size,.nilIface])∧(Lib.BuilderAt 77 5 B b (.pointer (some ⟨b,0,none⟩)) (bs++Lib.strCells s) w'∧RowKit.Below B w w'):=Any.Builder_WriteString Tryz.lays166 Tryz.Builder_Extra_166 B b bs s w h hlen hBw
end Go.Proofs
namespace Go.Proofs.YtdodihnehppnmaaGreatDoor
open Go.RowKit Go.Lib
theorem repeatL_one (c:UInt8):∀n,repeatL [c] n=List.replicate n c
 |0=>rfl
 |n+1=>by rw [repeatL,repeatL_one c n,List.replicate_succ];rfl
theorem Xp5 (l:Bytes) (c:Int) (w:World) (h0:0≤c) (hc:c≤9223372036854775807) (hl:l.length*c.toNat≤140737488355328):
 Calls Tryz.prog 75 #[S l,.int .i64 c] w fun e w'=>e= .returned (S (repeatL l c.toNat))∧Below w.heap.size w w':=by
 obtain ⟨c,rfl⟩:=Int.eq_ofNat_of_zero_le h0
 have h:=Tryz.strings_Repeat ⟨l.toArray⟩ c w (by omega) (by rw [ByteArray.size_mk',List.size_toArray];simpa using hl)
 simpa using h
theorem Xll (l:List Bytes):Lib.join l []=l.flatten:=by
 unfold Lib.join List.intercalate
 induction l with
 |nil=>rfl
 |cons x l ih=>
  cases l with
  |nil=>rfl
  |cons y l=>rw [List.intersperse_cons_cons,List.flatten_cons,List.flatten_cons,ih,List.flatten_cons];rfl
theorem Xrr (b off cap:Nat) (l:List Bytes) (w:World) (hc:∀(j:Nat) x,l[j]? =some x→w.cell? ⟨b,off+j,none⟩=some (S x)) (hcap:l.length≤cap) (hb:b<w.heap.size) (hn:l.length≤1000000) (hl:l.flatten.length≤140737488355328):
 Calls Tryz.prog 72 #[.slice (some ⟨b,off,none⟩) l.length cap,S []] w fun e w'=>e= .returned (S l.flatten)∧Below w.heap.size w w':=by
 have hx:(l.map fun s=>(⟨s.toArray⟩:ByteArray)).map (·.data.toList)=l:=by
  rw [List.map_map]
  conv=>rhs;rw [←List.map_id l]
  apply List.map_congr_left
  intro b _
  simp
 have hjl:Lib.join ((l.map fun s=>(⟨s.toArray⟩:ByteArray)).map (·.data.toList)) (⟨[].toArray⟩:ByteArray).data.toList=l.flatten:=by rw [hx];exact Xll l
 have h:=Tryz.strings_Join b off cap (l.map fun s=>⟨s.toArray⟩) ⟨[].toArray⟩ w (fun j x hx=> ?_) hb (by rw [List.length_map];omega) (by rw [List.length_map];exact hcap) (by rw [hjl];exact hl)
 ·rw [hjl,List.length_map] at h
  exact h
 ·rw [List.getElem?_map] at hx
  cases hlj:l[j]? with
  |none=>rw [hlj] at hx;simp at hx
  |some s=>
   rw [hlj] at hx
   simp at hx
   subst hx
   exact hc j s hlj
def slashAt (s:Bytes):Int:=Lib.lastIndexByte ⟨s.toArray⟩ 47
end Go.Proofs.YtdodihnehppnmaaGreatDoor
namespace Go.Proofs.YtdodihnehppnmaaGreatDoor
open Go.RowKit
def sumStart:List Int:= [bits .xor .u32 1779033703 16842784,3144134277,1013904242,2773480762,1359893119,2600822924,528734635,1541459225]
def hAt (s:Bytes):Nat→List Int
 |0=>sumStart
 |i+1=>compressP (hAt s i) ((s.drop (64*i)).take 64) ((64*i+64:Nat):Int) false
theorem Xdb (s:Bytes):∀i,(hAt s i).length=8
 |0=>rfl
 |_+1=>Xaz ..
def lastAt (s:Bytes):Nat:=(s.length-1) / 64
def sumWords (s:Bytes):List Int:=compressP (hAt s (lastAt s)) (s.drop (64*lastAt s)++List.replicate (64-(s.length-64*lastAt s)) 0) (s.length:Int) true
def tB:Ty Int:=Ty.flat 1 (fun x=> [.int .u8 x]) (fun _=>rfl) (fun _ u h=>by simp at h;subst h;rfl)
def wordBytes (x:Int):List Int:= [x%256,x / 256%256,x / 65536%256,x / 16777216%256]
def outTo (G:List Int) (k:Nat):List Int:=(G.take k).flatMap wordBytes
theorem Xp4 (G:List Int) (k:Nat) (hk:k<G.length):outTo G (k+1)=outTo G k++wordBytes (G.getD k 0):=by
 rw [outTo,outTo,List.take_succ_eq_append_getElem hk,List.flatMap_append]
 simp [List.getD,List.getElem?_eq_getElem hk]
theorem Xge (G:List Int):∀k,(outTo G k).length≤4*k:=by
 intro k
 have:∀L:List Int,(L.flatMap wordBytes).length=4*L.length:=by
  intro L
  induction L with
  |nil=>rfl
  |cons x L ih=>rw [List.flatMap_cons,List.length_append,ih];simp [wordBytes];omega
 rw [outTo,this];simp;omega
theorem Xiq (I:IH) (x:Int):LiesL tB I [.int .u8 (x%256),.int .u8 (x / 256%256),.int .u8 (x / 65536%256),.int .u8 (x / 16777216%256)] (wordBytes x):=
 (((LiesL.one (T:=tB) (I:=I) (x:=x%256) (cs:= [.int .u8 (x%256)]) rfl).append (LiesL.one (T:=tB) (x:=x / 256%256) (cs:= [.int .u8 (x / 256%256)]) rfl)).append (LiesL.one (T:=tB) (x:=x / 65536%256) (cs:= [.int .u8 (x / 65536%256)]) rfl)).append (LiesL.one (T:=tB) (x:=x / 16777216%256) (cs:= [.int .u8 (x / 16777216%256)]) rfl)
theorem Xtm {I:IH} {xs:List Value} {l:List Int} (h:LiesL tB I xs l) (j:Nat) (hj:j<l.length):xs[j]? =some (.int .u8 l[j]):=by
 obtain ⟨cs,h1,h2⟩:=h.2 j hj
 have e:cs= [.int .u8 l[j]]:=h1
 subst e
 have:=h2 0 _ rfl
 rw [show j*tB.size+0=j by show j*1+0=j;omega] at this
 exact this
theorem Xfb:∀(l:List Int) (a:ByteArray),List.foldl (fun r n=>r.push (UInt8.ofNat n.toNat)) a l=⟨a.data++(l.map fun x=>UInt8.ofNat x.toNat).toArray⟩
 | [],a=>by simp
 |x::l,a=>by
  rw [List.foldl_cons,Xfb l]
  apply ByteArray.ext
  simp [ByteArray.push]
theorem Xon (l:List Int):List.foldl (fun r n=>r.push (UInt8.ofNat n.toNat)) ByteArray.empty l=⟨(l.map fun x=>UInt8.ofNat x.toNat).toArray⟩:=by
 rw [Xfb]
 apply ByteArray.ext
 show (#[]:Array UInt8)++_=_
 simp
theorem Xkd {P:Program} {I:IH} {E src dst e:TypeId} {v:Value} {l:List Int} {B:Nat} (hs:P.underlying src=some (.slice e)) (he:P.underlying e=some (.int .u8)) (hd:P.underlying dst=some .string) (W:World) (h:OwnS tB E I W B v l) (hl:0<l.length):
 (convert src dst v).run P W= .ok (S (l.map fun x=>UInt8.ofNat x.toNat)) W:=by
 obtain ⟨xs,⟨_,hcase⟩,hL⟩:=h
 rcases hcase with ⟨_,h0⟩|⟨g,cap,cur,rfl,_,hg,_,_,_,ht⟩
 ·omega
 ·rw [run_convert_bytes_string _ _ _ e _ _ _ hs he hd,run_bytesToString (ns:=l)]
  ·rw [Xon]
  ·have hc:=run_loadCells_list (P:=P) W ⟨g,0,none⟩ (l.map fun x=>Value.int .u8 x) (fun j u hu=>by
    have hj:j<l.length:=by simpa using (List.getElem?_eq_some_iff.1 hu).1
    rw [Addr.add_lit,Nat.zero_add,cell_of_row _ _ _ _ _ _ hg]
    have h1:=Xtm hL j hj
    rw [←ht,List.getElem?_take] at h1
    split at h1
    ·rw [←Array.getElem?_toList,h1];simpa [hj] using hu
    ·cases h1)
   simpa using hc
def sumP (s:Bytes):Bytes:=(outTo (sumWords s) 8).map fun x=>UInt8.ofNat x.toNat
theorem Xhd:(Tryz.prog.info? 5).map (fun i=>(i.zero,i.size,i.bytes))=some (some (.int .u8 0),1,1):=by kernel_rfl
theorem Xu7:∃ZZ:Array Value,ZZ.size=32∧ ∀W,(Instr.makeSlice 75 (.int .i64 0) (.int .i64 32)).run Tryz.prog W= .ok (.slice (some ⟨W.heap.size,0,none⟩) 0 32) (W.alloc (.cells ZZ 5)):=by
 obtain ⟨i,h1,h2,h3,h4⟩:=info_parts Xhd
 refine ⟨madeCells (Value.int .u8 0).cells (32*i.size),by rw [size_madeCells,h3],fun W=> ?_⟩
 exact run_make (P:=Tryz.prog) W 75 5 i _ Tryz.underlying75 h1 h2 .i64 .i64 0 32 (by omega) (by omega) (by rw [h4];omega) (by omega)
theorem Xhe:ElemOk Tryz.prog 75 5 tB 1:=ElemOk.of Tryz.underlying75 Xhd rfl (by decide) rfl
set_option maxRecDepth 100000 in
set_option maxHeartbeats 2000000 in
theorem Xu8 (b off cap:Nat) (l:List Bytes) (s:Bytes) (hl:l.flatten=s) (hs:s.length≤140737488355328) (w:World) (hc:∀(j:Nat) x,l[j]? =some x→w.cell? ⟨b,off+j,none⟩=some (S x)) (hcap:l.length≤cap) (hbl:b<w.heap.size) (hn:l.length≤1000000):
 Calls Tryz.prog 30 #[.slice (some ⟨b,off,none⟩) l.length cap] w fun e w'=>e= .returned (S (sumP s))∧Below w.heap.size w w':=by
 have Hj:=Qh (Xrr b off cap l w hc hcap hbl hn (by rw [hl];exact hs))
 rw [hl] at Hj
 clear hc hl hcap hn hbl
 go_enter Tryz.func30,Tryz.ntmps30
 go_wp2_with fail
 refine Hj.out.mono ?_
 rintro e w0 ⟨rfl,hb0⟩
 clear Hj
 go_wp2_with fail
 refine (Xij _).mono ?_
 rintro e w1 ⟨rfl,hb1a⟩
 have hb1:=hb0.trans (hb1a.mono hb0.size)
 clear hb0 hb1a
 rw [show row blkIV= #[.int .u32 1779033703,.int .u32 3144134277,.int .u32 1013904242,.int .u32 2773480762,.int .u32 1359893119,.int .u32 2600822924,.int .u32 528734635,.int .u32 1541459225] from rfl]
 go_wp2_with fail
 obtain ⟨B,hBe⟩:∃B,w1.heap.size=B:=⟨_,rfl⟩
 have hBw:w.heap.size≤B:=by rw [←hBe];exact hb1.size
 have Hst:=Qh (show (w1.alloc (.cells (row sumStart) 111)).heap[B]? =some (.cells (row (hAt s 0)) 111 (0,0)) by rw [←hBe];exact heap_alloc_new _ _)
 have Hbl:=Qh (show Below w.heap.size w (w1.alloc (.cells (row sumStart) 111)) from hb1.alloc hb1.size _)
 rw [hBe]
 clear hb1 hBe
 obtain ⟨L,hL⟩:∃L,lastAt s=L:=⟨_,rfl⟩
 have hL':L=(s.length-1) / 64:=hL.symm
 have HL:=Qh hL;clear hL
 go_loopw [5] (fun s5 wr=> ∃i:Nat,i≤L∧s5= .int .i64 (64*(i:Int))∧Below w.heap.size w wr∧B<wr.heap.size∧wr.heap[B]? =some (.cells (row (hAt s i)) 111 (0,0))) (fun i _=>s.length-(intOf i).toNat)
 case atStart=>exact ⟨0,Nat.zero_le _,rfl,Hbl.out,(by have:=Hst.out;exact (Array.getElem?_eq_some_iff.1 this).1),Hst.out⟩
 case round=>
  clear Hst Hbl
  obtain ⟨i,hi,rfl,hb,hBs,hB⟩:=hrel
  by_cases hlt:i<L
  ·have hlen:64*i+64<s.length:=by omega
   obtain ⟨e0,e1,e2,e3,e4,e5,e6,e7,he⟩:=Xng (Xdb s i)
   have He:=Qh he
   rw [he] at hB
   clear he
   have d0:wr.cell? ⟨B,0,none⟩=some (.int .u32 e0):=(cell_of_row wr B 0 _ _ _ hB).trans rfl
   have d1:wr.cell? ⟨B,1,none⟩=some (.int .u32 e1):=(cell_of_row wr B 1 _ _ _ hB).trans rfl
   have d2:wr.cell? ⟨B,2,none⟩=some (.int .u32 e2):=(cell_of_row wr B 2 _ _ _ hB).trans rfl
   have d3:wr.cell? ⟨B,3,none⟩=some (.int .u32 e3):=(cell_of_row wr B 3 _ _ _ hB).trans rfl
   have d4:wr.cell? ⟨B,4,none⟩=some (.int .u32 e4):=(cell_of_row wr B 4 _ _ _ hB).trans rfl
   have d5:wr.cell? ⟨B,5,none⟩=some (.int .u32 e5):=(cell_of_row wr B 5 _ _ _ hB).trans rfl
   have d6:wr.cell? ⟨B,6,none⟩=some (.int .u32 e6):=(cell_of_row wr B 6 _ _ _ hB).trans rfl
   have d7:wr.cell? ⟨B,7,none⟩=some (.int .u32 e7):=(cell_of_row wr B 7 _ _ _ hB).trans rfl
   have z0:=frozen_of_row wr B 0 _ _ hB
   have z1:=frozen_of_row wr B 1 _ _ hB
   have z2:=frozen_of_row wr B 2 _ _ hB
   have z3:=frozen_of_row wr B 3 _ _ hB
   have z4:=frozen_of_row wr B 4 _ _ hB
   have z5:=frozen_of_row wr B 5 _ _ hB
   have z6:=frozen_of_row wr B 6 _ _ hB
   have z7:=frozen_of_row wr B 7 _ _ hB
   have HB:=Qh hB;clear hB
   go_wp2_with fail
   have hw1:IntKind.i64.wrap (64*(i:Int)+64)=64*(i:Int)+64:=IntWalk.i64_in _ (by omega)
   have hw2:IntKind.u64.wrap (64*(i:Int)+64)=64*(i:Int)+64:=IntWalk.u64_in _ (by omega)
   have hw3:(0:Int)≤64*(i:Int)+64:=by omega
   have hw4:64*(i:Int)+64≤(s.length:Int):=by omega
   have hw5:(0:Int)≤64*(i:Int):=by omega
   have hw6:64*(i:Int)≤64*(i:Int)+64:=by omega
   have hw7:(64*(i:Int)+64).toNat=64*i+64:=by omega
   have hw8:(64*(i:Int)).toNat=64*i:=by omega
   have hw9:64*i+64-64*i=64:=by omega
   have hpl:((s.drop (64*i)).take 64).length=64:=by simp;omega
   obtain ⟨c0,c1,c2,c3,c4,c5,c6,c7,hc⟩:=Xng (Xaz [e0,e1,e2,e3,e4,e5,e6,e7] ((s.drop (64*i)).take 64) (64*(i:Int)+64) false)
   have Hc:=Qh hc
   clear hc
   go_region_law (go_simp;go_at_call 74;refine (Xgr [e0,e1,e2,e3,e4,e5,e6,e7] rfl ((s.drop (64*i)).take 64) hpl (64*(i:Int)+64) false _).mono ?_;rintro e w' ⟨rfl,hb'⟩;rw [Hc.out,show row [c0,c1,c2,c3,c4,c5,c6,c7]= #[.int .u32 c0,.int .u32 c1,.int .u32 c2,.int .u32 c3,.int .u32 c4,.int .u32 c5,.int .u32 c6,.int .u32 c7] from rfl];have y0:w'.cell? ⟨B,0,none⟩=some (.int .u32 e0):=(hb'.cell hBs).trans d0;have y1:w'.cell? ⟨B,1,none⟩=some (.int .u32 e1):=(hb'.cell hBs).trans d1;have y2:w'.cell? ⟨B,2,none⟩=some (.int .u32 e2):=(hb'.cell hBs).trans d2;have y3:w'.cell? ⟨B,3,none⟩=some (.int .u32 e3):=(hb'.cell hBs).trans d3;have y4:w'.cell? ⟨B,4,none⟩=some (.int .u32 e4):=(hb'.cell hBs).trans d4;have y5:w'.cell? ⟨B,5,none⟩=some (.int .u32 e5):=(hb'.cell hBs).trans d5;have y6:w'.cell? ⟨B,6,none⟩=some (.int .u32 e6):=(hb'.cell hBs).trans d6;have y7:w'.cell? ⟨B,7,none⟩=some (.int .u32 e7):=(hb'.cell hBs).trans d7;have g0:w'.frozen? ⟨B,0,none⟩=false:=(hb'.frozen hBs).trans z0;have g1:w'.frozen? ⟨B,1,none⟩=false:=(hb'.frozen hBs).trans z1;have g2:w'.frozen? ⟨B,2,none⟩=false:=(hb'.frozen hBs).trans z2;have g3:w'.frozen? ⟨B,3,none⟩=false:=(hb'.frozen hBs).trans z3;have g4:w'.frozen? ⟨B,4,none⟩=false:=(hb'.frozen hBs).trans z4;have g5:w'.frozen? ⟨B,5,none⟩=false:=(hb'.frozen hBs).trans z5;have g6:w'.frozen? ⟨B,6,none⟩=false:=(hb'.frozen hBs).trans z6;have g7:w'.frozen? ⟨B,7,none⟩=false:=(hb'.frozen hBs).trans z7;have Hb':=Qh hb';clear hb')
   have hv0:=(Hb'.out.block B hBs).trans HB.out
   have hv:=heap_setCell (i:=7) c7 (heap_setCell (i:=6) c6 (heap_setCell (i:=5) c5 (heap_setCell (i:=4) c4 (heap_setCell (i:=3) c3 (heap_setCell (i:=2) c2 (heap_setCell (i:=1) c1 (heap_setCell (i:=0) c0 (hv0))))))))
   have hbw:Below w.heap.size w w':=hb.drew.trans (Hb'.out.mono hb.size)
   have hbw':=Below.setCell (Below.setCell (Below.setCell (Below.setCell (Below.setCell (Below.setCell (Below.setCell (Below.setCell (hbw) (p:=⟨B,0,none⟩) hBw (.int .u32 c0)) (p:=⟨B,1,none⟩) hBw (.int .u32 c1)) (p:=⟨B,2,none⟩) hBw (.int .u32 c2)) (p:=⟨B,3,none⟩) hBw (.int .u32 c3)) (p:=⟨B,4,none⟩) hBw (.int .u32 c4)) (p:=⟨B,5,none⟩) hBw (.int .u32 c5)) (p:=⟨B,6,none⟩) hBw (.int .u32 c6)) (p:=⟨B,7,none⟩) hBw (.int .u32 c7)
   have hsz':=Hb'.out.size
   go_wp2
   go_roundw
   case rel=>exact ⟨i+1,by omega,by go_num,hbw',(by simp [World.setCell];simp at hsz';omega),(by rw [hAt,He.out,show ((64*i+64:Nat):Int)=64*(i:Int)+64 by omega,Hc.out];exact hv)⟩
   case measure=>simp [intOf];omega
  ·have hie:i=L:=by omega
   have hle:s.length≤64*i+64:=by omega
   have hge:64*i≤s.length:=by omega
   have hw1:IntKind.i64.wrap (64-((s.length:Int)-64*(i:Int)))=64-((s.length:Int)-64*(i:Int)):=IntWalk.i64_in _ (by omega)
   have hw2:IntKind.i64.wrap ((s.length:Int)-64*(i:Int))=(s.length:Int)-64*(i:Int):=IntWalk.i64_in _ (by omega)
   have hw3:64*(i:Int)≤(s.length:Int):=by omega
   have hw4:(0:Int)≤64*(i:Int):=by omega
   have hw5:(64*(i:Int)).toNat=64*i:=by omega
   obtain ⟨c,hc64⟩:∃c:Nat,(64:Int)-((s.length:Int)-64*(i:Int))=c:=⟨64-(s.length-64*i),by omega⟩
   have hcn:c=64-(s.length-64*i):=by omega
   have HB:=Qh hB;clear hB
   have Hie:=Qh (show lastAt s=i by rw [HL.out,hie])
   have Hcn:=Qh hcn
   have hc1:c≤64:=by omega
   have hrl:(Lib.repeatL [0] (c:Int).toNat).length≤100:=by rw [Lib.repeatL_length];simp;omega
   have hrl2:(Lib.repeatL [0] c).length≤100:=by rw [Lib.repeatL_length];simp;omega
   clear hie hL' hcn hlt hi
   go_wp2_with fail
   refine wp_region_quiet_below (by kernel_rfl) (by kernel_rfl) ?_
   repeat (go_big_quiet_step ((exact Calls.regrown_of (Xp5 [0] c _ (by omega) (by omega) (by simp;omega)))))
   refine wpQuiet_nil ?_
   intro w2 hwq
   have hb2:Below (wr).heap.size (wr) w2:=by
    obtain ⟨pq,rfl⟩:=hwq
    exact below_regrown _ _ _
   clear hwq
   obtain ⟨PB,hPB⟩:∃PB,List.take (s.length-64*i) (List.drop (64*i) s)++Lib.repeatL [0] c=PB:=⟨_,rfl⟩
   rw [hPB]
   have HPB:=Qh (show PB=s.drop (64*i)++List.replicate (64-(s.length-64*i)) 0 by rw [←hPB,repeatL_one,List.take_of_length_le (by simp),Hcn.out])
   have hPl:PB.length=64:=by rw [HPB.out];simp;omega
   clear hPB hrl hrl2
   have hl8:=Xdb s i
   have Hsum:=Qh (show sumWords s=compressP (hAt s i) PB (s.length:Int) true by rw [sumWords,Hie.out,HPB.out])
   have hB2:=(hb2.block B hBs).trans HB.out
   have hsz2:B<w2.heap.size:=by have:=hb2.size;omega
   have hbw2:Below w.heap.size w w2:=hb.trans (hb2.mono hb.size)
   generalize hAt s i=F at hB2 hl8 Hsum
   have hi8:(Tryz.prog.info? 111).map (·.size)=some (row F).size:=by rw [row_size,hl8];kernel_rfl
   have hu64:IntKind.u64.wrap (s.length:Int)=(s.length:Int):=IntWalk.u64_in _ (by omega)
   clear hb2 HB
   go_wp2_with (refine wpList_load_row rfl 111 _ rfl B rfl 111 (row F) (0,0) _ hB2 Tryz.underlying111 rfl hi8 ?_)
   refine (Xgr F hl8 PB hPl (s.length:Int) true _).mono ?_
   rintro e w3 ⟨rfl,hb3⟩
   rw [←Hsum.out]
   have hl8':(sumWords s).length=8:=Xaz ..
   obtain ⟨G,hG⟩:∃G,sumWords s=G:=⟨_,rfl⟩
   have HG:=Qh hG
   rw [hG] at hl8' ⊢
   clear hG
   have hB3:=(hb3.block B hsz2).trans hB2
   have hsz3:B<w3.heap.size:=by have:=hb3.size;omega
   have hbw3:Below w.heap.size w w3:=hbw2.trans (hb3.mono hbw2.size)
   have hi8':(Tryz.prog.info? 111).map (·.size)=some (row G).size:=by rw [row_size,hl8'];kernel_rfl
   have hz8:(row F).size=(row G).size:=by rw [row_size,row_size,hl8,hl8']
   have ho8:(row G).all (·.oneCell')=true:=by simp [row,Value.oneCell']
   clear hb3 Hsum
   go_upto_region 10 with (refine wpList_store_row rfl 111 _ _ rfl B (row G) rfl rfl 111 (row F) hB3 hi8' hz8 ho8 ?_)
   have hB4:(w3.setRow B (row G)).heap[B]? =some (.cells (row G) 111 (0,0)):=setRow_heap _ _ _ _ _ _ hB3
   have hbw4:Below w.heap.size w (w3.setRow B (row G)):=below_setRow hbw3 hBw _
   have hsz4:B<(w3.setRow B (row G)).heap.size:=by simpa using hsz3
   generalize w3.setRow B (row G)=w4 at hB4 hbw4 hsz4
   clear hB3 hbw3 hsz3
   obtain ⟨ZZ,hZZ,hmk⟩:=Xu7
   have hB5:(w4.alloc (.cells ZZ 5)).heap[B]? =some (.cells (row G) 111 (0,0)):=(Below.heap_alloc _ _ _ hsz4).trans hB4
   go_wp2_with (refine wpList_load_row rfl 111 _ rfl B rfl 111 (row G) (0,0) _ hB5 Tryz.underlying111 rfl hi8' ?_)
   have hB0:w.heap.size≤w4.heap.size:=hbw4.size
   have Hst:=Qh (show OwnS tB 5 (fun _=>none) (w4.alloc (.cells ZZ 5)) w4.heap.size (.slice (some ⟨w4.heap.size,0,none⟩) 0 32) [] from ⟨[],World.ownsRow_made w4 ZZ 32 (Qn _) (by decide) (by rw [hZZ];rfl),LiesL.nil _ _⟩)
   have Hbl:=Qh (hbw4.alloc hB0 (.cells ZZ 5))
   obtain ⟨B0,hB0e⟩:∃B0,w4.heap.size=B0:=⟨_,rfl⟩
   have hsz5:B0≤(w4.alloc (.cells ZZ 5)).heap.size:=by simp;omega
   rw [hB0e] at hB0 Hst ⊢
   clear hB4 hB5 hbw4 hsz4 hmk
   go_loopw [7,58] (fun s7 s58 wr=> ∃k:Nat,k≤8∧s58= .int .i64 k∧OwnS tB 5 (fun _=>none) wr B0 s7 (outTo G k)∧Below w.heap.size w wr∧B0≤wr.heap.size) (fun _ k _=>8-(intOf k).toNat)
   case atStart=>exact ⟨0,Nat.zero_le _,rfl,Hst.out,Hbl.out,hsz5⟩
   case round=>
    clear Hst Hbl hsz5
    obtain ⟨k,hk,rfl,hown,hbk,hszk⟩:=hrel
    by_cases hltk:k<8
    ·have hix:=Xdh (P:=Tryz.prog) Tryz.underlying111 Tryz.underlying110 rfl (by kernel_rfl) k hltk (Xau (l:=G) (i:=k) (by omega))
     have Hsc:=Qh (Xp4 G k (by omega))
     have hol:=Xge G k
     generalize G.getD k 0=x at hix Hsc
     have hwl:(wordBytes x).length=4:=rfl
     have hly:=Xiq (fun _=>none) x
     go_wp2_with (at_builtin;refine Xio (w0:=wr) Xhe rfl _ _ rfl _ _ _ rfl hown (wordBytes x) [.int .u8 (x%256),.int .u8 (x / 256%256),.int .u8 (x / 65536%256),.int .u8 (x / 16777216%256)] _ rfl hly (by rw [hwl];omega) (by rw [hwl];omega) (by rw [hwl];omega) hszk ?_)
     intro v5 w5 hown5 hg5
     have hb5:=Below.own hbk hg5 hown hB0 hszk
     have hsz5:=hg5.size
     go_wp2
     go_roundw
     case rel=>exact ⟨k+1,by omega,by go_num,by rw [Hsc.out];exact hown5,hb5,by omega⟩
     case measure=>simp [intOf];omega
    ·have hke:k=8:=by omega
     have Hret:=Qh (show (outTo G k).map (fun x=>UInt8.ofNat x.toNat)=sumP s by rw [sumP,HG.out,hke])
     have hpos:0<(outTo G k).length:=by rw [hke];match G,hl8' with|_::_,_=>simp [outTo,wordBytes]
     have hcv:=Xkd (P:=Tryz.prog) Tryz.underlying75 Tryz.underlying5 Tryz.underlying9 _ hown hpos
     rw [Hret.out] at hcv
     clear hown hpos hke
     go_wp2
     go_ret
     exact ⟨rfl,hbk⟩
end Go.Proofs.YtdodihnehppnmaaGreatDoor
namespace Go.Proofs.YtdodihnehppnmaaGreatDoor
structure Ses where
 num:Int
 date:Int
 prev:Bytes
 ents:List Ent
 stream:Bytes
 sl:Bytes
def headE (e:Ent):Bytes:=netP (nameP e.kind)++netP e.path++attP e.attrs++netP e.target
def xtP (l:List Xt):Bytes:=l.flatMap fun x=>numP x.s++numP x.o++numP x.n
def encE (e:Ent):Bytes:=netP (headE e)++numP e.size++netP e.digest++numP e.exts.length++xtP e.exts
def sesHead (s:Ses):Bytes:=numP s.num++numP s.date++netP s.prev++(numP s.stream.length++netP (sumP s.stream)++numP s.ents.length)
def sesText (s:Ses):Bytes:=sesHead s++s.ents.flatMap encE
def fldErr (s:Ses):Int:=if s.num<1∨255<s.num∨s.date<0∨1000000000<s.date then 2 else if s.prev≠ []∧s.prev.length≠32 then 1 else 0
def entsErr:List Ent→Int
 | []=>0
 |e::l=>if entErr e≠0 then entErr e else entsErr l
def sesErr (s:Ses):Int:=if fldErr s≠0 then fldErr s else if 14680064<s.stream.length∨400<s.ents.length then 6 else if entsErr s.ents≠0 then entsErr s.ents else if 2000<s.sl.length then 6 else 0
def dirDig (s:Ses):Bytes × Int:=if sesErr s≠0 then ([],sesErr s) else (sumP (sesText s),0)
theorem Xsx {s:Ses} (h:(dirDig s).2=0):sesErr s=0∧(dirDig s).1=sumP (sesText s):=by
 unfold dirDig at*
 split at h
 ·contradiction
 ·rename_i k
  rw [if_neg k]
  exact ⟨by omega,rfl⟩
theorem Xf4:∀ {l:List Ent},entsErr l=0→ ∀e∈l,entErr e=0
 | [],_,e,he=>by cases he
 |x::l,h,e,he=>by
  unfold entsErr at h
  split at h
  ·contradiction
  ·rename_i k
   rcases List.mem_cons.1 he with rfl|he
   ·omega
   ·exact Xf4 h e he
theorem Xdx {s:Ses} (h:sesErr s=0):fldErr s=0∧s.stream.length≤14680064∧s.ents.length≤400∧entsErr s.ents=0∧s.sl.length≤2000:=by
 unfold sesErr at h
 split at h
 ·contradiction
 ·split at h
  ·omega
  ·split at h
   ·contradiction
   ·split at h
    ·omega
    ·rename_i k1 k2 k3 k4
     exact ⟨by omega,by omega,by omega,by omega,by omega⟩
theorem Xh5 {s:Ses} (h:fldErr s=0):1≤s.num∧s.num≤255∧0≤s.date∧s.date≤1000000000∧(s.prev= []∨s.prev.length=32):=by
 unfold fldErr at h
 split at h
 ·omega
 ·split at h
  ·omega
  ·rename_i k1 k2
   refine ⟨by omega,by omega,by omega,by omega,?_⟩
   by_cases hp:s.prev= []
   ·exact .inl hp
   ·exact .inr (Classical.byContradiction fun q=>k2 ⟨hp,q⟩)
structure Stt where
 tree:List Ent
 holds:List Ho
def askP (s:Stt) (e:Ent) (d:Int):Int:=if 3<e.kind∨(getT s.tree e.path).isSome=true then alwP s.holds e.kind e.path d else 0
def stpP (s:Stt) (e:Ent) (d:Int):Stt × Int:=
 if (applyT s.tree e).2≠0 then (s,(applyT s.tree e).2)
 else if askP s e d≠0 then (s,askP s e d)
 else if (appH s.holds e d).2≠0 then (s,(appH s.holds e d).2)
 else (⟨(applyT s.tree e).1,(appH s.holds e d).1⟩,0)
def nilS:Stt:=⟨[],[]⟩
def runS (s:Stt) (d:Int) (l:List Ent):Stt:=l.foldl (fun s e=>(stpP s e d).1) s
def aftS (s:Stt) (l:List Ses):Stt:=l.foldl (fun s x=>runS s x.date x.ents) s
structure SOk (n:Nat) (s:Stt):Prop where
 tree:OkT s.tree
 holds:HOk s.holds
 tlen:s.tree.length≤n
 hlen:s.holds.length≤n
theorem Xmt:SOk 0 nilS:=⟨(Xs7 []).1 rfl,Xry,Qn _,Qn _⟩
theorem SOk.mono {n m:Nat} {s:Stt} (h:SOk n s) (hm:n≤m):SOk m s:=⟨h.tree,h.holds,Nat.le_trans h.tlen hm,Nat.le_trans h.hlen hm⟩
theorem Xct {t:List Ent} {e:Ent} (h:(applyT t e).2=0):applyT t e=((applyT t e).1,0):=Prod.ext rfl h
theorem Xjs {n:Nat} {s:Stt} (h:SOk n s) (e:Ent) (d:Int):SOk (n+1) (stpP s e d).1:=by
 unfold stpP
 split
 ·exact h.mono (by omega)
 ·rename_i h1
  split
  ·exact h.mono (by omega)
  ·split
   ·exact h.mono (by omega)
   ·have ha:=Xct (t:=s.tree) (e:=e) (by omega)
    obtain ⟨hpre,hx⟩:=applyT_iff.1 ha
    have hl:=Xv0 s.tree e
    have hh:appH s.holds e d=((appH s.holds e d).1,(appH s.holds e d).2):=rfl
    refine ⟨Xtd h.tree ha,Xw9 h.holds hpre.ent hh,?_,?_⟩
    ·rw [hx];have:=h.tlen;show (opT s.tree e).length≤_;omega
    ·have:=Xvd hh
     have:=h.hlen
     show (appH s.holds e d).1.length≤_
     omega
theorem Xmv:∀(l:List Ent) {n:Nat} {s:Stt} (_:SOk n s) (d:Int),SOk (n+l.length) (runS s d l)
 | [],_,_,h,_=>h
 |e::l,n,s,h,d=>by
  have:=Xmv l (Xjs h e d) d
  exact this.mono (by simp;omega)
def xtIn (l:List Ses) (x:Xt):Bool:=x.s==0 || (decide (x.s≤l.length)&&decide (x.o+x.n≤((l[(x.s-1).toNat]?).map fun s=>(s.stream.length:Int)).getD 0))
def storedP (l:List Ses) (e:Ent):Bool:=e.exts.all (xtIn l)
def entsH (l:List Ses) (d:Int):Stt→List Ent→Stt × Int
 |s,[]=>(s,0)
 |s,e::es=>if (stpP s e d).2≠0 then ((stpP s e d).1,(stpP s e d).2) else if storedP l e=false then ((stpP s e d).1,2) else entsH l d (stpP s e d).1 es
def chkFromH (l:List Ses):Nat→Stt→Bytes→Int→List Ses→Int
 |_,_,_,_,[]=>0
 |i,s,prev,date,x::xs=>
  if (dirDig x).2≠0 then (dirDig x).2
  else if x.num≠i+1∨x.date<date then 14
  else if x.prev≠prev then 20
  else if (entsH (l.take (i+1)) x.date s x.ents).2≠0 then (entsH (l.take (i+1)) x.date s x.ents).2
  else chkFromH l (i+1) (entsH (l.take (i+1)) x.date s x.ents).1 (dirDig x).1 x.date xs
def chkH (l:List Ses):Int:=chkFromH l 0 nilS [] 0 l
structure Ver where
 s:Int
 d:Int
 e:Ent
def verHit (s:Stt) (p:Bytes) (e:Ent):Bool:=(decide (e.kind≤3)&&e.path==p) || (e.kind==4&&(getT s.tree p).isSome&&under p e.path)
def verS (num d:Int) (p:Bytes):Stt→List Ent→List Ver
 |_,[]=> []
 |s,e::es=>(if verHit s p e then [⟨num,d,e⟩] else [])++verS num d p (stpP s e d).1 es
def verFrom (p:Bytes):Stt→List Ses→List Ver
 |_,[]=> []
 |s,x::xs=>verS x.num x.date p s x.ents++verFrom p (runS s x.date x.ents) xs
def verP (l:List Ses) (p:Bytes):List Ver:=verFrom p nilS l
def asOf (d:Int):List Ses→Nat
 | []=>0
 |x::l=>if d<x.date then 0 else asOf d l+1
end Go.Proofs.YtdodihnehppnmaaGreatDoor
namespace Go.Proofs.YtdodihnehppnmaaGreatDoor
abbrev Rd (α:Type):=Except Int (α × Nat)
def Rb {β γ:Type} (r:Except Int β) (f:β→Except Int γ):Except Int γ:=match r with| .error e=> .error e| .ok x=>f x
@[simp] theorem Rb_err {β γ:Type} (e:Int) (f:β→Except Int γ):Rb (.error e) f= .error e:=rfl
@[simp] theorem Rb_ok {β γ:Type} (x:β) (f:β→Except Int γ):Rb (.ok x) f=f x:=rfl
def upTo (s:Bytes) (a:Nat) (c:UInt8):Bytes:=(s.drop a).takeWhile (fun x=>x != c)
def rdUntil (s:Bytes) (a:Nat) (c:UInt8):Rd Bytes:=
 if s.length<a then .error 1 else if a+(upTo s a c).length<s.length then .ok (upTo s a c,a+(upTo s a c).length+1) else .error 4
def natOk (t:Bytes):Bool:= !t.isEmpty&&t.all digC&&(t.length==1 || t.head? != some 48)
def negT (t:Bytes):Bool:=t.head? ==some 45
def magT (t:Bytes):Bytes:=if negT t=true then t.tail else t
def decOkT (t:Bytes):Bool:=natOk (magT t)&& !(negT t&&digN 0 (magT t)==0)
def valT (t:Bytes):Int:=if negT t=true then -(digN 0 (magT t):Int) else (digN 0 (magT t):Int)
def numOf (t:Bytes) (n:Nat):Rd Int:=if decOkT t=false then .error 3 else if valT t< -2147483648∨2147483647<valT t then .error 2 else .ok (valT t,n)
def strOf (s t:Bytes) (n:Nat):Rd Bytes:=if natOk t=false then .error 3 else if s.length-n≤digN 0 t then .error 4 else if s.getD (n+digN 0 t) 0≠44 then .error 3 else .ok ((s.drop n).take (digN 0 t),n+digN 0 t+1)
def rdNum (s:Bytes) (a:Nat):Rd Int:=Rb (rdUntil s a 32) fun p=>numOf p.1 p.2
def rdStr (s:Bytes) (a:Nat):Rd Bytes:=Rb (rdUntil s a 58) fun p=>strOf s p.1 p.2
def rdCnt (most:Int) (s:Bytes) (a:Nat):Rd Int:=Rb (rdNum s a) fun p=>if p.1<0∨most<p.1 then .error 2 else .ok p
def rdAts (s:Bytes):Nat→Nat→List At→Rd (List At)
 |0,a,acc=> .ok (acc,a)
 |n+1,a,acc=>Rb (rdStr s a) fun p=>Rb (rdStr s p.2) fun q=>rdAts s n q.2 (acc++ [⟨p.1,q.1⟩])
def rdXts (s:Bytes):Nat→Nat→List Xt→Rd (List Xt)
 |0,a,acc=> .ok (acc,a)
 |n+1,a,acc=>Rb (rdNum s a) fun p=>Rb (rdNum s p.2) fun q=>Rb (rdNum s q.2) fun r=>rdXts s n r.2 (acc++ [⟨p.1,q.1,r.1⟩])
def kindOf (n:Bytes):Int:=if n=nameP 1 then 1 else if n=nameP 2 then 2 else if n=nameP 3 then 3 else if n=nameP 4 then 4 else if n=nameP 5 then 5 else if n=nameP 6 then 6 else 0
def hdOf (nm p:Bytes) (l:List At) (t:Bytes):Ent:=⟨kindOf nm,p,l,t,0,[],[]⟩
def rdHead (h:Bytes):Except Int Ent:=
 Rb (rdStr h 0) fun nm=>if kindOf nm.1=0 then .error 3 else
 Rb (rdStr h nm.2) fun p=>Rb (rdCnt 400 h p.2) fun n=>Rb (rdAts h n.1.toNat n.2 []) fun l=>Rb (rdStr h l.2) fun t=>
 if t.2≠h.length then .error 3 else .ok (hdOf nm.1 p.1 l.1 t.1)
def entOn (e:Ent) (sz:Int) (dg:Bytes) (l:List Xt):Ent:= { e with size:=sz,digest:=dg,exts:=l }
def entEnd (e:Ent) (g:Nat):Rd Ent:=if entErr e≠0 then .error (entErr e) else .ok (e,g)
def rdEnt (s:Bytes) (a:Nat):Rd Ent:=
 Rb (rdStr s a) fun h=>Rb (rdHead h.1) fun e=>Rb (rdNum s h.2) fun z=>Rb (rdStr s z.2) fun d=>Rb (rdCnt 65536 s d.2) fun n=>Rb (rdXts s n.1.toNat n.2 []) fun l=>
 entEnd (entOn e z.1 d.1 l.1) l.2
theorem Xtj (s:Bytes) (a:Nat) (c:UInt8):(upTo s a c).length≤s.length-a:=by
 have:=(List.takeWhile_prefix (fun x=>x != c) (l:=s.drop a)).length_le
 rw [List.length_drop] at this
 exact this
theorem Xcm {s t:Bytes} {a n:Nat} {c:UInt8} (h:rdUntil s a c= .ok (t,n)):a<n∧n≤s.length∧t.length<s.length∧t=upTo s a c∧n=a+t.length+1:=by
 unfold rdUntil at h
 split at h
 ·cases h
 ·rename_i k
  split at h
  ·rename_i k2
   injection h with h
   injection h with h1 h2
   subst h1
   subst h2
   exact ⟨by omega,by omega,by omega,rfl,rfl⟩
  ·cases h
theorem Xbp {s:Bytes} {a n:Nat} {x:Int} (h:rdNum s a= .ok (x,n)):a<n∧n≤s.length∧ -2147483648≤x∧x≤2147483647:=by
 unfold rdNum at h
 cases hu:rdUntil s a 32 with
 |error e=>rw [hu] at h;cases h
 |ok p=>
  obtain ⟨t,m⟩:=p
  rw [hu,Rb_ok] at h
  have he:=Xcm hu
  unfold numOf at h
  split at h
  ·cases h
  ·split at h
   ·cases h
   ·injection h with h
    injection h with h1 h2
    subst h1
    subst h2
    omega
theorem Xa3 {s x:Bytes} {a n:Nat} (h:rdStr s a= .ok (x,n)):a<n∧n≤s.length∧x.length<s.length:=by
 unfold rdStr at h
 cases hu:rdUntil s a 58 with
 |error e=>rw [hu] at h;cases h
 |ok p=>
  obtain ⟨t,m⟩:=p
  rw [hu,Rb_ok] at h
  have he:=Xcm hu
  unfold strOf at h
  split at h
  ·cases h
  ·split at h
   ·cases h
   ·split at h
    ·cases h
    ·injection h with h
     injection h with h1 h2
     subst h1
     subst h2
     rw [List.length_take,List.length_drop]
     dsimp only at*
     omega
theorem Xe9 {most:Int} {s:Bytes} {a n:Nat} {x:Int} (h:rdCnt most s a= .ok (x,n)):a<n∧n≤s.length∧0≤x∧x≤most:=by
 unfold rdCnt at h
 cases hu:rdNum s a with
 |error e=>rw [hu] at h;cases h
 |ok p=>
  obtain ⟨t,m⟩:=p
  rw [hu,Rb_ok] at h
  have he:=Xbp hu
  split at h
  ·cases h
  ·injection h with h
   injection h with h1 h2
   subst h1
   subst h2
   dsimp only at*
   omega
theorem Xsy:∀(l:Bytes) (a:Nat),a≤digN a l
 | [],_=>Qn _
 |c::l,a=>by
  have:=Xsy l (10*a+(c.toNat-48))
  show a≤digN (10*a+(c.toNat-48)) l
  omega
theorem Xk7:∀(l:Bytes) (acc:Nat),l.all digC=true→acc<18446744073709551616→Lib.parseUint10 acc l=if digN acc l<18446744073709551616 then .ok (digN acc l) else .range
 | [],acc,_,h=>by show Lib.NumEnd.ok acc=_;rw [if_pos (show digN acc []<_ from h)];rfl
 |c::l,acc,h,hb=>by
  rw [List.all_cons,Bool.and_eq_true] at h
  have hc:=Xc4 h.1
  have he:digN acc (c::l)=digN (acc*10+(c.toNat-48)) l:=by rw [Nat.mul_comm];rfl
  have hg:=Xsy l (acc*10+(c.toNat-48))
  rw [Lib.parseUint10,if_pos hc,he]
  split
  ·rw [if_neg (by omega)]
  ·split
   ·rw [if_neg (by omega)]
   ·exact Xk7 l _ h.2 (by omega)
theorem Xv2 {l:Bytes} (h:natOk l=true):Lib.parseMag l=if digN 0 l<18446744073709551616 then .ok (digN 0 l) else .range:=by
 unfold natOk at h
 simp only [Bool.and_eq_true] at h
 unfold Lib.parseMag
 rw [if_neg (by have:=h.1.1;cases l<;>simp_all)]
 exact Xk7 l 0 h.1.2 (by omega)
theorem Xi7 {l:Bytes} (h:natOk l=true):∃c r,l=c::r∧48≤c.toNat∧c.toNat≤57:=by
 unfold natOk at h
 cases l with
 |nil=>simp at h
 |cons c r=>
  simp only [Bool.and_eq_true,List.all_cons] at h
  exact ⟨c,r,rfl,Xc4 h.1.2.1⟩
theorem Xld {l:Bytes} (h:natOk l=true):negT l=false:=by
 obtain ⟨c,r,rfl,h1,h2⟩:=Xi7 h
 unfold negT
 have:c≠45:=fun e=>by subst e;have:(45:UInt8).toNat=45:=rfl;omega
 simpa using this
theorem Xej {t:Bytes}:natOk t=(decOkT t&& !negT t):=by
 unfold decOkT magT
 cases hn:negT t
 ·simp
 ·have:natOk t=false:=by
   cases h:natOk t with
   |false=>rfl
   |true=>rw [Xld h] at hn;cases hn
  simp [this]
theorem Xjo {t:Bytes} (h:natOk t=true):valT t=digN 0 t:=by
 unfold valT magT
 rw [Xld h]
 simp
theorem Xpl {t:Bytes} (h:decOkT t=true):(∃n,Lib.atoiAll t= .ok n∧n=valT t)∨(Lib.atoiAll t= .range∧(valT t< -9223372036854775808∨9223372036854775807<valT t)):=by
 unfold decOkT at h
 rw [Bool.and_eq_true] at h
 have hm:=Xv2 h.1
 have c45:(45:UInt8).toNat=45:=rfl
 cases t with
 |nil=>simp [magT,negT,natOk] at h
 |cons c r=>
  by_cases hn:c=45
  ·subst hn
   have hneg:negT (45::r)=true:=rfl
   have hmg:magT (45::r)=r:=rfl
   rw [hmg] at hm
   unfold Lib.atoiAll
   simp only [c45,or_true,if_true,hm]
   unfold valT
   rw [hneg,hmg]
   simp only [if_true]
   by_cases hb:digN 0 r<18446744073709551616
   ·rw [if_pos hb]
    by_cases hc:9223372036854775808<digN 0 r
    ·right;simp [hc];omega
    ·left;simp [hc]
   ·rw [if_neg hb]
    right
    exact ⟨rfl,by omega⟩
  ·have hneg:negT (c::r)=false:=by unfold negT;simpa using hn
   have hmg:magT (c::r)=c::r:=by unfold magT;rw [hneg];rfl
   rw [hmg] at hm h
   obtain ⟨c',r',e,k1,k2⟩:=Xi7 h.1
   injection e with e1 e2
   subst e1
   unfold Lib.atoiAll
   dsimp only
   rw [if_neg (show ¬(c.toNat=43∨c.toNat=45) by omega),hm]
   unfold valT
   rw [hneg,hmg]
   simp only [show ¬c.toNat=45 by omega,not_false_eq_true,true_and,false_and,if_false,Bool.false_eq_true]
   by_cases hb:digN 0 (c::r)<18446744073709551616
   ·rw [if_pos hb]
    by_cases hc:9223372036854775808≤digN 0 (c::r)
    ·right;simp [hc];omega
    ·left;simp [hc]
   ·rw [if_neg hb]
    right
    exact ⟨rfl,by omega⟩
def satN (a:Nat):Nat:=if 1099511627776<a then 1099511627776 else a
def decSat (acc:Nat) (l:Bytes):Nat:=l.foldl (fun n c=>satN (10*n+(c.toNat-48))) acc
theorem Xe2 {c:UInt8}:∀ {t r:Bytes},(∀x∈t,x≠c)→(t++c::r).takeWhile (fun x=>x != c)=t
 | [],r,_=>by simp
 |x::t,r,h=>by
  rw [List.cons_append,List.takeWhile_cons,if_pos (by simpa using h x (by simp)),Xe2 (fun y hy=>h y (by simp [hy]))]
theorem Xi3 {x t r:Bytes} {c:UInt8} (h:∀y∈t,y≠c):rdUntil (x++(t++c::r)) x.length c= .ok (t,x.length+t.length+1):=by
 have hu:upTo (x++(t++c::r)) x.length c=t:=by
  unfold upTo
  rw [List.drop_left]
  exact Xe2 h
 unfold rdUntil
 rw [hu,if_neg (by simp),if_pos (by simp)]
theorem Xif (n:Nat):natOk (Lib.decDigits n)=true:=by
 obtain ⟨h1,h2,h3,h4,h5⟩:=Xdf n
 unfold natOk
 rw [h1]
 have:(Lib.decDigits n).isEmpty=false:=by cases hd:Lib.decDigits n<;>simp_all
 rw [this]
 by_cases h10:10≤n
 ·have:=h4 h10
  simp [this]
 ·have e:Lib.decDigits n= [UInt8.ofNat (48+n)]:=by rw [Lib.decDigits,dif_pos (by omega)]
  rw [e]
  rfl
theorem Xs0 {c:UInt8} (hc:c.toNat<48∨57<c.toNat) (n:Nat):∀x∈Lib.decDigits n,x≠c:=fun x hx e=>by
 have:=List.all_eq_true.1 (Xdf n).1 x hx
 have:=Xc4 this
 subst e
 omega
theorem Xot (n:Nat):Lib.itoa (n:Int)=Lib.decDigits n:=by
 unfold Lib.itoa
 rw [if_neg (by omega),Int.toNat_natCast]
theorem Xra (x s r:Bytes):rdStr (x++(netP s++r)) x.length= .ok (s,x.length+(netP s).length):=by
 have e:x++(netP s++r)=x++(Lib.decDigits s.length++58::(s++44::r)):=by simp [netP,Xot]
 have hl:(netP s).length=(Lib.decDigits s.length).length+s.length+2:=by simp [netP,Xot];omega
 have hd:digN 0 (Lib.decDigits s.length)=s.length:=(Xdf _).2.2.1
 rw [hl,e,rdStr,Xi3 (Xs0 (.inr (by decide)) _),Rb_ok,strOf,Xif,hd]
 dsimp only
 obtain ⟨y,hy⟩:∃y,x++Lib.decDigits s.length++ [58]=y:=⟨_,rfl⟩
 have hyl:x.length+(Lib.decDigits s.length).length+1=y.length:=by rw [←hy];simp;omega
 have e2:x++(Lib.decDigits s.length++58::(s++44::r))=y++(s++44::r):=by rw [←hy];simp
 rw [e2,hyl,if_neg (by simp),if_neg (by simp),if_neg ?_,List.drop_left,List.take_left]
 ·rw [←hyl]
  congr 2
  omega
 ·simp [List.getD,List.getElem?_append]
theorem Xrc (x r:Bytes) (n:Int) (h0: -2147483648≤n) (h1:n≤2147483647):rdNum (x++(numP n++r)) x.length= .ok (n,x.length+(numP n).length):=by
 have e:x++(numP n++r)=x++(Lib.itoa n++32::r):=by simp [numP]
 have hl:(numP n).length=(Lib.itoa n).length+1:=by simp [numP]
 have hdd:=Xdf n.natAbs
 have hno:∀y∈Lib.itoa n,y≠32:=by
  intro y hy
  unfold Lib.itoa at hy
  split at hy
  ·rcases List.mem_cons.1 hy with rfl|hy
   ·decide
   ·exact Xs0 (.inl (by decide)) _ y hy
  ·exact Xs0 (.inl (by decide)) _ y hy
 rw [hl,e,rdNum,Xi3 hno,Rb_ok]
 dsimp only
 have hv:decOkT (Lib.itoa n)=true∧valT (Lib.itoa n)=n:=by
  unfold Lib.itoa
  split
  ·rename_i hn
   have hneg:negT (45::Lib.decDigits n.natAbs)=true:=rfl
   have hmg:magT (45::Lib.decDigits n.natAbs)=Lib.decDigits n.natAbs:=rfl
   constructor
   ·unfold decOkT
    rw [hneg,hmg,Xif,hdd.2.2.1]
    simp;omega
   ·unfold valT
    rw [hneg,hmg,hdd.2.2.1]
    simp;omega
  ·rename_i hn
   have e2:n.toNat=n.natAbs:=by omega
   have hnat:natOk (Lib.decDigits n.natAbs)=true:=Xif _
   constructor
   ·have:= @Xej (Lib.decDigits n.natAbs)
    rw [hnat] at this
    first
     |(rw [e2];simp_all)
     |simp_all
   ·first
     |(rw [e2,Xjo hnat,hdd.2.2.1];omega)
     |(rw [Xjo hnat,hdd.2.2.1];omega)
 unfold numOf
 rw [hv.1,hv.2,if_neg (by simp),if_neg (by omega),Nat.add_assoc]
theorem Xgi (c:UInt8):∀l:Bytes,Lib.indexByte l c=if (l.takeWhile (fun x=>x != c)).length<l.length then (((l.takeWhile (fun x=>x != c)).length:Nat):Int) else -1
 | []=>rfl
 |x::l=>by
  rw [Lib.indexByte,List.takeWhile_cons]
  by_cases h:x=c
  ·subst h;simp
  ·have e1:(x==c)=false:=by simpa using h
   have e2:(x != c)=true:=by simpa using h
   rw [e1,e2]
   simp only [Bool.false_eq_true,if_false,if_true]
   rw [Xgi c l,List.length_cons,List.length_cons]
   generalize (l.takeWhile (fun x=>x != c)).length=n
   generalize l.length=m
   by_cases k:n<m
   ·have e3:(((n:Nat):Int)== -1)=false:=by
     have:((n:Nat):Int)≠ -1:=by omega
     simpa using this
    rw [if_pos k,e3,if_neg (by simp),if_pos (by omega)]
    simp
   ·rw [if_neg k,if_pos (show ((-1:Int)== -1)=true from rfl),if_neg (by omega)]
theorem Xqs (s:Bytes):Lib.trimPrefix s [45]=magT s:=by
 unfold Lib.trimPrefix Lib.hasPrefix magT negT
 cases s with
 |nil=>rfl
 |cons c r=>
  by_cases h:c=45
  ·subst h;simp [List.isPrefixOf]
  ·have h2:¬(45:UInt8)=c:=fun e=>h e.symm
   simp [List.isPrefixOf,h,h2]
theorem Xn0 (s:Bytes):decOkT s=(!(magT s).isEmpty&&((magT s).all digC&&((magT s).head? != some 48 || s== [48]))):=by
 unfold decOkT natOk
 cases hm:magT s with
 |nil=>rfl
 |cons c r=>
  cases ha:(c::r).all digC with
  |false=>simp [ha]
  |true=>
   by_cases hc:c=48
   ·subst hc
    have hneg:negT s=true→s≠ [48]:=by
     intro h e;rw [e] at h;cases h
    by_cases hn:negT s=true
    ·have h1:=hneg hn
     cases r with
     |nil=>simp [hn,h1,digN]
     |cons d r=>simp [hn,h1]
    ·have hn':negT s=false:=by simpa using hn
     have hs:s=48::r:=by
      unfold magT at hm
      rw [if_neg hn] at hm
      exact hm
     rw [hn',hs]
     cases r with
     |nil=>rfl
     |cons d r=>simp
   ·have h10:10 ^ r.length≤digN 0 (c::r):=Xka ha hc
    have h1:1≤10 ^ r.length:=Nat.pos_of_ne_zero (by simp)
    have h0:(digN 0 (c::r)==0)=false:=by simp;omega
    have h2:(some c != some (48:UInt8))=true:=by simpa using hc
    rw [h0]
    simp [h2]
end Go.Proofs.YtdodihnehppnmaaGreatDoor
namespace Go.Proofs.YtdodihnehppnmaaGreatDoor
open Go.RowKit
def tHo:Ty Ho:=Ty.flat 2 (fun x=> [S x.p,.int .i64 x.u]) (fun _=>rfl) (fun _ u h=>by simp at h;rcases h with rfl|rfl<;>rfl)
theorem hoAt {I:IH} {v:Value} {l:List Ho} {w:World} (h:RdS tHo I v l) (hw:Ok I w) (i:Nat) (hi:i<l.length):∃x b off cap,l[i]=x∧v= .slice (some ⟨b,off,none⟩) l.length cap∧
 w.cell? ⟨b,off+i*2,none⟩=some (S x.p)∧w.cell? ⟨b,off+i*2+1,none⟩=some (.int .i64 x.u):=by
 obtain ⟨b,off,cap,cs,hv,hcs,hc⟩:=h.at_ hw hi
 have hcs':cs= [S l[i].p,.int .i64 l[i].u]:=hcs
 subst hcs'
 exact ⟨_,b,off,cap,rfl,hv,hc 0 _ rfl,hc 1 _ rfl⟩
theorem Xj4:(Tryz.prog.info? 227).map (fun i=>(i.zero,i.size,i.bytes))=some (some (.agg #[.string ⟨#[]⟩,.int .i64 0]),2,24):=by kernel_rfl
theorem Xbq:ElemOk Tryz.prog 101 227 tHo 24:=ElemOk.of Tryz.underlying101 Xj4 rfl (by decide) rfl
abbrev hoV (x:Ho):Value:= .agg #[S x.p,.int .i64 x.u]
def PredH (g:Nat) (cb:Array Value) (l:List Ho) (p:Ho→Bool) (C:World→Prop):Prop:=
 ∀x∈l,∀W:World,C W→Calls Tryz.prog g (#[hoV x]++cb) W fun e w'=>e= .returned (.bool (p x))∧Below W.heap.size W w'
theorem Xf3 (f:Ho→Bool) {a:List Ho} {k:Nat} (hk:k<a.length) {x:Ho} (hx:a[k]=x):(a.take (k+1)).filter f=(a.take k).filter f++(if f x=true then [x] else []):=by
 rw [List.take_succ_eq_append_getElem hk,hx,List.filter_append]
 cases h:f x<;>simp [h]
theorem Xj3 {α:Type} {T U:List α} {c:Bool} {p:α} (h:T=U++(if c=true then [p] else [])) (hc:c=true):T=U++ [p]:=by rw [h,if_pos hc]
theorem Xnk {α:Type} {T U:List α} {c:Bool} {p:α} (h:T=U++(if c=true then [p] else [])) (hc:c=false):T=U:=by rw [h,hc,if_neg (by simp),List.append_nil]
theorem OwnS.castH {α:Type} {T:Ty α} {E:TypeId} {I:IH} {w:World} {B:Nat} {v:Value} {l l':List α} (h:OwnS T E I w B v l) (e:l=l'):OwnS T E I w B v l':=e▸h
set_option maxRecDepth 100000 in
set_option maxHeartbeats 1000000 in
theorem Xci (I:IH) (v:Value) (l:List Ho) (hv:RdS tHo I v l) (hn:l.length≤100000) (g:Nat) (cb:Array Value) (p:Ho→Bool) (w:World) (hw:Ok I w) (eg:∀args w,(callFunc g args).run Tryz.prog w= .ok (.enter g args) w) (hp:PredH g cb l p (Below w.heap.size w)):
 Calls Tryz.prog 243 #[v,.func (.func g) #[] cb] w fun e w'=> ∃v',e= .returned v'∧OwnS tHo 227 I w' w.heap.size v' (l.filter p)∧Below w.heap.size w w':=by
 obtain ⟨ao,cap,rfl,hcap,hcm,_⟩:=id hv
 have Hv:=Qh hv;clear hv
 have Hp:=Qh hp;clear hp
 go_enter Tryz.func243,Tryz.ntmps243
 go_wp2_with fail
 go_loopw [5,10] (fun s5 s10 wr=> ∃k:Nat,k≤l.length∧s10= .int .i64 k∧OwnS tHo 227 I wr w.heap.size s5 ((l.take k).filter p)∧Below w.heap.size w wr) (fun _ i _=>l.length-(intOf i).toNat)
 case atStart=>exact ⟨0,Nat.zero_le _,rfl,OwnS.nil _ _ _ _ _,Qb _ _⟩
 case round=>
  obtain ⟨k,hk,rfl,hown,hb⟩:=hrel
  have Hown:=Qh hown
  clear hown
  have hwr:Ok I wr:=hw.below (Qn _) hb
  have hfl:((l.take k).filter p).length≤k:=Nat.le_trans (List.length_filter_le _ _) (by simp;omega)
  by_cases hlt:k<l.length
  ·obtain ⟨x,b,off,cap',hlx,hvv,c0,c1⟩:=hoAt Hv.out hwr k hlt
   cases hvv
   have Hst:=Qh (Xf3 p hlt hlx)
   have Hcall:=Qh (Hp.out x (by rw [←hlx];exact List.getElem_mem hlt) (wr.alloc (.cells #[S x.p,.int .i64 x.u] 227)) (hb.alloc hb.size _))
   clear hlx
   go_wp2_with fail
   refine Hcall.out.mono ?_
   rintro e w1 ⟨rfl,hb1⟩
   have x0:=Xaa hb1 (show (wr.alloc (.cells #[S x.p,.int .i64 x.u] 227)).cell? ⟨wr.heap.size,0,none⟩=some (S x.p) by simp)
   have x1:=Xaa hb1 (show (wr.alloc (.cells #[S x.p,.int .i64 x.u] 227)).cell? ⟨wr.heap.size,1,none⟩=some (.int .i64 x.u) by simp)
   have hb1':=(hb.alloc hb.size (.cells #[S x.p,.int .i64 x.u] 227)).trans (hb1.mono (by have:=hb.size;simp;omega))
   have Hown1:=Qh ((Hown.out.alloc (.cells #[S x.p,.int .i64 x.u] 227)).below hb1)
   have hs1:=hb1'.size
   clear hb1 Hcall c0 c1 Hown
   cases hpx:p x
   ·have Hn:=Qh (Xnk Hst.out hpx)
    clear hpx
    go_wp2
    go_roundw
    case rel=>exact ⟨k+1,by omega,by go_num,Hown1.out.castH Hn.out.symm,hb1'⟩
    case measure=>simp [intOf];omega
   ·have Hn:=Qh (Xj3 Hst.out hpx)
    clear hpx
    go_wp2_with (at_builtin;refine Xad (w0:=w1) Xbq rfl _ _ rfl _ _ _ rfl Hown1.out x [S x.p,.int .i64 x.u] _ rfl rfl (by omega) (by omega) hs1 ?_)
    intro v9 w9 hown9 hg9
    have hb9:=Below.own hb1' hg9 Hown1.out (Qn _) hs1
    go_wp2
    go_roundw
    case rel=>exact ⟨k+1,by omega,by go_num,hown9.castH Hn.out.symm,hb9⟩
    case measure=>simp [intOf];omega
  ·have hall:l.take k=l:=List.take_of_length_le (by omega)
   rw [hall] at Hown
   clear hall hfl
   go_wp2
   go_ret
   exact ⟨_,rfl,Hown.out,hb⟩
set_option maxRecDepth 100000 in
set_option maxHeartbeats 1000000 in
theorem Xer (I:IH) (v:Value) (l:List Ho) (hv:RdS tHo I v l) (g:Nat) (cb:Array Value) (p:Ho→Bool) (w:World) (hw:Ok I w) (eg:∀args w,(callFunc g args).run Tryz.prog w= .ok (.enter g args) w) (hp:PredH g cb l p (Below w.heap.size w)):
 Calls Tryz.prog 246 #[v,.func (.func g) #[] cb] w fun e w'=>e= .returned (.int .i64 (idxL l p))∧Below w.heap.size w w':=by
 have hlen:=hv.len_le
 obtain ⟨ao,cap,rfl,hcap,hcm,_⟩:=id hv
 have Hv:=Qh hv;clear hv
 have Hp:=Qh hp;clear hp
 go_enter Tryz.func246,Tryz.ntmps246
 go_wp2_with fail
 go_loopw [8] (fun s8 wr=> ∃k:Nat,k≤l.length∧s8= .int .i64 k∧(l.take k).any p=false∧Below w.heap.size w wr) (fun i _=>l.length-(intOf i).toNat)
 case atStart=>exact ⟨0,Nat.zero_le _,rfl,rfl,Qb _ _⟩
 case round=>
  obtain ⟨k,hk,rfl,hr,hb⟩:=hrel
  have Hr:=Qh hr;clear hr
  by_cases hlt:k<l.length
  ·have hwr:Ok I wr:=hw.below (Qn _) hb
   obtain ⟨x,b,off,cap',hlx,hvv,c0,c1⟩:=hoAt Hv.out hwr k hlt
   cases hvv
   have Hlx:=Qh hlx
   have Hcall:=Qh (Hp.out x (by rw [←hlx];exact List.getElem_mem hlt) wr hb)
   clear hlx
   go_wp2_with fail
   refine Hcall.out.mono ?_
   rintro e w1 ⟨rfl,hb1⟩
   have hb1':=hb.trans (hb1.mono hb.size)
   clear hb1 Hcall c0 c1
   cases hpx:p x
   ·have Hn:=Qh (show (l.take (k+1)).any p=false by rw [List.take_succ_eq_append_getElem hlt,List.any_append,Hr.out,Hlx.out];simp [hpx])
    clear hpx
    go_wp2
    go_roundw
    case rel=>exact ⟨k+1,by omega,by go_num,Hn.out,hb1'⟩
    case measure=>simp [intOf];omega
   ·have Hn:=Qh (Xfh (p:=p) hlt (by rw [Hlx.out];exact hpx) Hr.out)
    clear hpx
    go_wp2
    go_ret
    exact ⟨Xac Hn.out.symm,hb1'⟩
  ·have Hn:=Qh (show idxL l p= -1 from Xfi (by have:=Hr.out;rwa [List.take_of_length_le (by omega)] at this))
   go_wp2
   go_ret
   exact ⟨Xac Hn.out.symm,hb⟩
set_option maxRecDepth 100000 in
set_option maxHeartbeats 400000 in
theorem Xc9 (I:IH) (v:Value) (l:List Ho) (hv:RdS tHo I v l) (g:Nat) (cb:Array Value) (p:Ho→Bool) (w:World) (hw:Ok I w) (eg:∀args w,(callFunc g args).run Tryz.prog w= .ok (.enter g args) w) (hp:PredH g cb l p (Below w.heap.size w)):
 Calls Tryz.prog 241 #[v,.func (.func g) #[] cb] w fun e w'=>e= .returned (.bool (l.any p))∧Below w.heap.size w w':=by
 have Hi:=Qh (Xer I v l hv g cb p w hw eg hp)
 obtain ⟨ao,cap,rfl,hcap,hcm,_⟩:=id hv
 clear hv hp eg
 rcases Xbz l p with ⟨i,hi,e1,e2,_⟩|⟨e1,e2⟩
 ·have Ha:=Qh (show l.any p=true from List.any_eq_true.2 ⟨l[i],List.getElem_mem hi,e2⟩)
  have hd:decide ((0:Int)≤(i:Int))=true:=Qt (by omega)
  rw [e1] at Hi
  clear e1 e2
  go_enter Tryz.func241,Tryz.ntmps241
  go_wp2_with fail
  refine Hi.out.mono ?_
  rintro e w1 ⟨rfl,hb1⟩
  go_wp2
  go_ret
  exact ⟨Xan Ha.out.symm,hb1⟩
 ·have Ha:=Qh e2
  rw [e1] at Hi
  clear e1 e2
  go_enter Tryz.func241,Tryz.ntmps241
  go_wp2_with fail
  refine Hi.out.mono ?_
  rintro e w1 ⟨rfl,hb1⟩
  go_wp2
  go_ret
  exact ⟨Xan Ha.out.symm,hb1⟩
set_option maxRecDepth 100000 in
theorem Xpr (d:Int) (b:Nat) (l:List Ho) (w:World) (hc:w.cell? ⟨b,0,none⟩=some (.int .i64 d)):PredH 276 #[.pointer (some ⟨b,0,none⟩)] l (fun h=>decide (d≤h.u)) (Below w.heap.size w):=by
 intro x _ W hW
 have hcW:=Xab (.cells #[S x.p,.int .i64 x.u] 227) (Xaa hW hc)
 clear hc
 show Calls Tryz.prog _ #[hoV x,.pointer (some ⟨b,0,none⟩)] W _
 go_enter Tryz.func276,Tryz.ntmps276
 go_wp2
 go_ret
 exact ⟨rfl,(Qb _ _).alloc (Qn _) _⟩
set_option maxRecDepth 100000 in
theorem Xhl (I:IH) (v:Value) (l:List Ho) (hv:RdS tHo I v l) (hn:l.length≤100000) (d:Int) (w:World) (hw:Ok I w):
 Calls Tryz.prog 242 #[v,.int .i64 d] w fun e w'=> ∃v',e= .returned v'∧OwnS tHo 227 I w' w.heap.size v' (actP l d)∧Below w.heap.size w w':=by
 have Hp:=Qh (Xpr d w.heap.size l (w.alloc (.cells #[.int .i64 d] 3)) (by simp))
 have Hs:=Qh (Xci I v l hv hn _ _ _ _ (hw.alloc (.cells #[.int .i64 d] 3)) (fun _ _=>by kernel_rfl) Hp.out)
 obtain ⟨ao,cap,rfl,hcap,hcm,_⟩:=id hv
 clear hv Hp
 go_enter Tryz.func242,Tryz.ntmps242
 go_wp2_with fail
 refine Hs.out.mono ?_
 rintro e w1 ⟨v1,rfl,hown,hb⟩
 go_wp2
 go_ret
 exact ⟨_,rfl,hown.lower (by simp),((Qb _ _).alloc (Qn _) _).trans (hb.mono (by simp))⟩
set_option maxRecDepth 100000 in
theorem Xtv (I:IH) (hI:Glob I) (p:Bytes) (hp:p.length≤4294967280) (b:Nat) (l:List Ho) (hl:∀h∈l,h.p.length≤4294967280) (w:World) (hw:Ok I w) (hc:w.cell? ⟨b,0,none⟩=some (S p)):PredH 275 #[.pointer (some ⟨b,0,none⟩)] l (fun h=>under p h.p) (Below w.heap.size w):=by
 intro x hx W hW
 have Hu:=Qh (Xj1 I hI p x.p hp (hl x hx) (W.alloc (.cells #[S x.p,.int .i64 x.u] 227)) ((hw.below (Qn _) hW).alloc _))
 have hcW:=Xab (.cells #[S x.p,.int .i64 x.u] 227) (Xaa hW hc)
 clear hc
 show Calls Tryz.prog _ #[hoV x,.pointer (some ⟨b,0,none⟩)] W _
 go_enter Tryz.func275,Tryz.ntmps275
 go_wp2_with fail
 refine Hu.out.mono ?_
 rintro e w1 ⟨rfl,hb1⟩
 go_wp2
 go_ret
 exact ⟨rfl,((Qb _ _).alloc (Qn _) _).trans (hb1.mono (by simp))⟩
theorem HOk.short {l:List Ho} (h:HOk l):∀x∈l,x.p.length≤4294967280:=fun x hx=>by have:=(Xax (h.path x hx)).1;omega
set_option maxRecDepth 100000 in
set_option maxHeartbeats 400000 in
theorem Xvt (I:IH) (hI:Glob I) (v:Value) (l:List Ho) (hv:RdS tHo I v l) (hk:HOk l) (hn:l.length≤100000) (p:Bytes) (hp:p.length≤4294967280) (d:Int) (w:World) (hw:Ok I w):
 Calls Tryz.prog 239 #[v,S p,.int .i64 d] w fun e w'=>e= .returned (.bool (heldP l p d))∧Below w.heap.size w w':=by
 have Ha:=Qh (Xhl I v l hv hn d (w.alloc (.cells #[S p] 9)) (hw.alloc _))
 have Hk:=Qh (hk.act d)
 have Hfr:=Qh (fun b (hb:(w.alloc (.cells #[S p] 9)).heap.size≤b)=>(hw.alloc (.cells #[S p] 9)).fresh (b:=b) hb)
 have HI:=Qh hI
 obtain ⟨ao,cap,rfl,hcap,hcm,_⟩:=id hv
 clear hv hk hI
 go_enter Tryz.func239,Tryz.ntmps239
 go_wp2_with fail
 refine Ha.out.mono ?_
 rintro e w1 ⟨v1,rfl,hown,hb⟩
 have hok1:Ok I w1:=(hw.alloc _).below (Qn _) hb
 obtain ⟨I1,hI1,hI2,hI3,_⟩:=hown.freeze hok1 Hfr.out
 have hc1:w1.cell? ⟨w.heap.size,0,none⟩=some (S p):=Xaa hb (by simp)
 have Hp:=Qh (Xtv I1 (HI.out.mono (hI1.keep (hw.alloc (.cells #[S p] 9)) (Qn _))) p hp w.heap.size (actP l d) Hk.out.short w1 hI2 hc1)
 have Hc:=Qh (Xc9 I1 _ _ hI3 _ _ _ w1 hI2 (fun _ _=>by kernel_rfl) Hp.out)
 have hb':=((Qb w.heap.size w).alloc (Qn _) (.cells #[S p] 9)).trans (hb.mono (by simp))
 obtain ⟨a1,c1,rfl,_,_,_⟩:=id hI3
 clear hb hown hI3 hI2 hI1 hc1 Ha Hp
 go_wp2_with fail
 refine Hc.out.mono ?_
 rintro e w2 ⟨rfl,hb2⟩
 go_wp2
 go_ret
 exact ⟨rfl,hb'.trans (hb2.mono hb'.size)⟩
theorem Xkc {s:Bytes} (h:dateOk s=true):Lib.atoiAll s= .ok (digits s)∧s≠ []∧s.all digC=true∧((s.getD 0 0).toNat=48→s= [48]):=by
 have h':=h
 obtain ⟨n,h1,h2,h3,h4⟩:=(Xpc s).1 h
 obtain ⟨u,rfl⟩:=Int.eq_ofNat_of_zero_le h2
 rw [Lib.itoa,if_neg (by omega),Int.toNat_natCast] at h4
 obtain ⟨f1,f2,f3,f4,f5⟩:=Xdf u
 rw [h4] at f1 f2 f3 f4 f5
 have hdg:digits s=u:=by rw [Xf5 f1,f3]
 refine ⟨by rw [hdg];exact h1,f2,f1,fun hc=> ?_⟩
 cases s with
 |nil=>exact absurd rfl f2
 |cons c r=>
  have hc':c=48:=by
   apply UInt8.toNat_inj.1
   simpa using hc
  subst hc'
  have hu:u=0:=by
   by_cases k:1≤u
   ·exact absurd rfl (f5 k)
   ·omega
  subst hu
  rw [←h4];first|(rw [Lib.decDigits];rfl)|simp [Lib.decDigits]|decide
def digSet:Bytes:= [48,49,50,51,52,53,54,55,56,57]
set_option maxRecDepth 100000 in
theorem Xjh:∀c:UInt8,digC c=true→digSet.contains c=true:=by
 intro c h
 have hb:=Xc4 h
 have key:∀n:Fin 256,48≤n.1→n.1≤57→digSet.contains (UInt8.ofNat n.1)=true:=by decide
 have:=key ⟨c.toNat,c.toNat_lt⟩ hb.1 hb.2
 simpa using this
theorem Xmq {s:Bytes} (h:s.all digC=true):Lib.trimS s digSet= []:=by
 rw [Xhf,List.all_eq_true]
 intro c hc
 exact Xjh c (List.all_eq_true.1 h c hc)
theorem Xlg (s:Bytes) (hs:s.length≤9223372036854775807) (w:World):
 Calls Tryz.prog 156 #[S s,S digSet] w fun e w'=>e= .returned (S (Lib.trimS s digSet))∧Below w.heap.size w w':=by
 have h:=Tryz.strings_Trim ⟨s.toArray⟩ ⟨digSet.toArray⟩ w (by rw [ByteArray.size_mk',List.size_toArray];exact hs) (by decide) (ascii_of_all (by decide))
 exact h
set_option maxRecDepth 100000 in
set_option maxHeartbeats 1000000 in
theorem Xq2 (s:Bytes) (hs:s.length≤4294967280) (hd:dateOk s=true) (w:World):
 Calls Tryz.prog 245 #[S s] w fun e w'=>e= .returned (.tuple #[.int .i64 (digits s),.bool true])∧Below w.heap.size w w':=by
 obtain ⟨ha,hne,hall,hz⟩:=Xkc hd
 have hbd:=(Xfo hd).2
 have hlen:=List.length_pos_iff.2 hne
 obtain ⟨p1,p2,p3,p4⟩:=Xcw hne
 have Ht:=Qh (Xlg s (by omega) w)
 rw [Xmq hall] at Ht
 have Ha:=Qh (fun w=>Xdn s hs _ ha w)
 have hx0:=run_at (P:=Tryz.prog) Tryz.underlying9 s 0 0 rfl hlen
 have q1:decide (digits s≤1000000000)=true:=Qt hbd
 generalize digits s=n at Ha hbd q1 ⊢
 have HD:=Qh (show digSet= [48,49,50,51,52,53,54,55,56,57] from rfl)
 rw [HD.out] at Ht
 clear hd ha hall hne
 by_cases hc:(s.getD 0 0).toNat=48
 ·have hs0:=hz hc
  have k1:(((s.getD 0 0).toNat:Int)==48)=true:=by rw [hc];rfl
  have k2:(s== [48])=true:=by rw [hs0];rfl
  have Hs:=Qh hs0
  clear hs0 hc hz
  generalize (s.getD 0 0).toNat=c at hx0 k1
  go_enter Tryz.func245,Tryz.ntmps245
  go_wp2_with fail
  refine Ht.out.mono ?_
  rintro e w1 ⟨rfl,hb1⟩
  go_wp2_with fail
  refine (Ha.out _).mono ?_
  rintro e w2 ⟨rfl,hb2⟩
  go_wp2
  go_ret2
  exact ⟨rfl,hb1.trans (hb2.mono hb1.size)⟩
 ·have k1:(((s.getD 0 0).toNat:Int)==48)=false:=by
   have:((s.getD 0 0).toNat:Int)≠48:=by omega
   simpa using this
  clear hc hz
  generalize (s.getD 0 0).toNat=c at hx0 k1
  go_enter Tryz.func245,Tryz.ntmps245
  go_wp2_with fail
  refine Ht.out.mono ?_
  rintro e w1 ⟨rfl,hb1⟩
  go_wp2_with fail
  refine (Ha.out _).mono ?_
  rintro e w2 ⟨rfl,hb2⟩
  go_wp2
  go_ret2
  exact ⟨rfl,hb1.trans (hb2.mono hb1.size)⟩
set_option maxRecDepth 100000 in
theorem Xmy (I:IH) (hI:Glob I) (p:Bytes) (hp:p.length≤4294967280) (b:Nat) (l:List Ho) (hl:∀h∈l,h.p.length≤4294967280) (w:World) (hw:Ok I w) (hc:w.cell? ⟨b,1,none⟩=some (S p)):PredH 240 #[.pointer (some ⟨b,0,none⟩)] l (fun h=>under h.p p) (Below w.heap.size w):=by
 intro x hx W hW
 have Hu:=Qh (Xj1 I hI x.p p (hl x hx) hp (W.alloc (.cells #[S x.p,.int .i64 x.u] 227)) ((hw.below (Qn _) hW).alloc _))
 have hcW:=Xab (.cells #[S x.p,.int .i64 x.u] 227) (Xaa hW hc)
 clear hc
 show Calls Tryz.prog _ #[hoV x,.pointer (some ⟨b,0,none⟩)] W _
 go_enter Tryz.func240,Tryz.ntmps240
 go_wp2_with fail
 refine Hu.out.mono ?_
 rintro e w1 ⟨rfl,hb1⟩
 go_wp2
 go_ret
 exact ⟨rfl,((Qb _ _).alloc (Qn _) _).trans (hb1.mono (by simp))⟩
set_option maxRecDepth 100000 in
set_option maxHeartbeats 2000000 in
theorem Xeb (I:IH) (hI:Glob I) (v:Value) (l:List Ho) (hv:RdS tHo I v l) (hk:HOk l) (hn:l.length≤100000) (e:Ent) (va vx:Value) (hva:RdS tAt I va e.attrs) (hvx:RdS tXt I vx e.exts) (hp:e.path.length≤4294967280) (d:Int) (w:World) (hw:Ok I w):
 Calls Tryz.prog 176 #[v,entV e va vx,.int .i64 d] w fun r w'=>r= .returned (.int .i64 (alwP l e.kind e.path d))∧Below w.heap.size w w':=by
 have Hh:=Qh (fun w hw=>Xvt I hI v l hv hk hn e.path hp d w hw)
 have Ha:=Qh (fun w hw=>Xhl I v l hv hn d w hw)
 have HI:=Qh hI
 have Hk:=Qh (hk.act d)
 obtain ⟨ao,cap,rfl,hcap,hcm,_⟩:=id hv
 obtain ⟨aa,ca,rfl,_,_,_⟩:=id hva
 obtain ⟨ax,cx,rfl,_,_,_⟩:=id hvx
 clear hv hva hvx hI hk
 by_cases h1:e.kind=1
 ·have k1:((e.kind:Int)==1)=true:=by simpa using h1
  have Hn:=Qh (show alwP l e.kind e.path d=if heldP l e.path d then 15 else 0 by rw [alwP,if_pos (.inl h1)])
  generalize heldP l e.path d=b at Hh Hn
  clear h1
  go_enter Tryz.func176,Tryz.ntmps176
  go_wp2_with fail
  refine (Hh.out _ (hw.alloc _)).mono ?_
  rintro e1 w1 ⟨rfl,hb1⟩
  have hb1':=((Qb w.heap.size w).alloc (Qn _) (.cells #[.int .i64 e.kind,S e.path,.slice aa e.attrs.length ca,S e.target,.int .i64 e.size,S e.digest,.slice ax e.exts.length cx] 26)).trans (hb1.mono (by simp))
  cases b
  ·go_wp2
   go_ret
   exact ⟨Xac Hn.out.symm,hb1'⟩
  ·go_wp2
   go_ret
   exact ⟨Xac Hn.out.symm,hb1'⟩
 have k1:((e.kind:Int)==1)=false:=by simpa using h1
 by_cases h2:e.kind=2
 ·have k2:((e.kind:Int)==2)=true:=by simpa using h2
  have Hn:=Qh (show alwP l e.kind e.path d=if heldP l e.path d then 15 else 0 by rw [alwP,if_pos (.inr (.inl h2))])
  generalize heldP l e.path d=b at Hh Hn
  clear h1 h2
  go_enter Tryz.func176,Tryz.ntmps176
  go_wp2_with fail
  refine (Hh.out _ (hw.alloc _)).mono ?_
  rintro e1 w1 ⟨rfl,hb1⟩
  have hb1':=((Qb w.heap.size w).alloc (Qn _) (.cells #[.int .i64 e.kind,S e.path,.slice aa e.attrs.length ca,S e.target,.int .i64 e.size,S e.digest,.slice ax e.exts.length cx] 26)).trans (hb1.mono (by simp))
  cases b
  ·go_wp2
   go_ret
   exact ⟨Xac Hn.out.symm,hb1'⟩
  ·go_wp2
   go_ret
   exact ⟨Xac Hn.out.symm,hb1'⟩
 have k2:((e.kind:Int)==2)=false:=by simpa using h2
 by_cases h3:e.kind=3
 ·have k3:((e.kind:Int)==3)=true:=by simpa using h3
  have Hn:=Qh (show alwP l e.kind e.path d=if heldP l e.path d then 15 else 0 by rw [alwP,if_pos (.inr (.inr h3))])
  generalize heldP l e.path d=b at Hh Hn
  clear h1 h2 h3
  go_enter Tryz.func176,Tryz.ntmps176
  go_wp2_with fail
  refine (Hh.out _ (hw.alloc _)).mono ?_
  rintro e1 w1 ⟨rfl,hb1⟩
  have hb1':=((Qb w.heap.size w).alloc (Qn _) (.cells #[.int .i64 e.kind,S e.path,.slice aa e.attrs.length ca,S e.target,.int .i64 e.size,S e.digest,.slice ax e.exts.length cx] 26)).trans (hb1.mono (by simp))
  cases b
  ·go_wp2
   go_ret
   exact ⟨Xac Hn.out.symm,hb1'⟩
  ·go_wp2
   go_ret
   exact ⟨Xac Hn.out.symm,hb1'⟩
 have k3:((e.kind:Int)==3)=false:=by simpa using h3
 have hno:¬(e.kind=1∨e.kind=2∨e.kind=3):=fun q=>by omega
 by_cases h4:e.kind=4
 case neg=>
  have k4:((e.kind:Int)==4)=false:=by simpa using h4
  have Hn:=Qh (show alwP l e.kind e.path d=0 by rw [alwP,if_neg hno,if_neg h4])
  clear h1 h2 h3 h4 hno
  go_enter Tryz.func176,Tryz.ntmps176
  go_wp2
  go_ret
  exact ⟨Xac Hn.out.symm,(Qb w.heap.size w).alloc (Qn _) _⟩
 have k4:((e.kind:Int)==4)=true:=by simpa using h4
 have Hn:=Qh (show alwP l e.kind e.path d=if heldP l e.path d || belowP l e.path d then 15 else 0 by rw [alwP,if_neg hno,if_pos h4])
 clear h1 h2 h3 h4 hno
 have Hbe:=Qh (show belowP l e.path d=(actP l d).any (fun h=>under h.p e.path) from rfl)
 generalize heldP l e.path d=b at Hh Hn
 generalize belowP l e.path d=c at Hn Hbe
 go_enter Tryz.func176,Tryz.ntmps176
 go_wp2_with fail
 refine (Hh.out _ (hw.alloc _)).mono ?_
 rintro e1 w1 ⟨rfl,hb1⟩
 have HB1:=Qh (entB (e:=e) rfl hb1)
 have hok1:Ok I w1:=(hw.alloc _).below (Qn _) hb1
 have hb1':=((Qb w.heap.size w).alloc (Qn _) (.cells #[.int .i64 e.kind,S e.path,.slice aa e.attrs.length ca,S e.target,.int .i64 e.size,S e.digest,.slice ax e.exts.length cx] 26)).trans (hb1.mono (by simp))
 clear hb1
 cases b
 case true=>
  go_wp2
  go_ret
  exact ⟨Xac Hn.out.symm,hb1'⟩
 have Hfr:=Qh (fun b (hb:w1.heap.size≤b)=>hok1.fresh (b:=b) hb)
 go_wp2_with fail
 refine (Ha.out _ hok1).mono ?_
 rintro e2 w2 ⟨v2,rfl,hown,hb2⟩
 have hok2:Ok I w2:=hok1.below (Qn _) hb2
 obtain ⟨I2,hI1,hI2,hI3,_⟩:=hown.freeze hok2 Hfr.out
 have Hp:=Qh (Xmy I2 (HI.out.mono (hI1.keep hok1 (Qn _))) e.path hp w.heap.size (actP l d) Hk.out.short w2 hI2 (HB1.out.thru hb2).c1)
 have Hc:=Qh (Xc9 I2 _ _ hI3 _ _ _ w2 hI2 (fun _ _=>by kernel_rfl) Hp.out)
 rw [←Hbe.out] at Hc
 have hb2':=hb1'.trans (hb2.mono hb1'.size)
 obtain ⟨a1,c1,rfl,_,_,_⟩:=id hI3
 clear hb2 hown hI3 hI2 hI1 Ha Hp hb1'
 go_wp2_with fail
 refine Hc.out.mono ?_
 rintro e3 w3 ⟨rfl,hb3⟩
 have hb3':=hb2'.trans (hb3.mono hb2'.size)
 cases c
 ·go_wp2
  go_ret
  exact ⟨Xac Hn.out.symm,hb3'⟩
 ·go_wp2
  go_ret
  exact ⟨Xac Hn.out.symm,hb3'⟩
end Go.Proofs.YtdodihnehppnmaaGreatDoor
namespace Go.Proofs
open Go.Shelf
def Tryz.lays137_ren:Go.Shelf.Ren:=⟨fun|137=>154|217=>169|266=>237|n=>n,fun|9=>9|5=>5|3=>3|n=>n,fun|n=>n⟩
theorem Tryz.lays137:Go.Proofs.Lays.n137 Tryz.prog Tryz.lays137_ren:= {
 mixed:=by kernel_rfl
 f137:=Tryz.func154.trans (congrArg some (by kernel_rfl))
 f217:=Tryz.func169.trans (congrArg some (by kernel_rfl))
 f266:=Tryz.func237.trans (congrArg some (by kernel_rfl))
 t3:=Tryz.underlying3
 a3:=Tryz.isAgg3
 z3:=Tryz.sizeOf3
 v3:=Tryz.zeroValue3
 t5:=Tryz.underlying5
 a5:=Tryz.isAgg5
 z5:=Tryz.sizeOf5
 v5:=Tryz.zeroValue5
 t9:=Tryz.underlying9
 a9:=Tryz.isAgg9
 z9:=Tryz.sizeOf9
 v9:=Tryz.zeroValue9 }
open Go.RowKit in
theorem Tryz.strings_IndexByte (s:ByteArray) (c:Int) (w:World):
 Calls Tryz.prog 154 #[.string s,.int .u8 c] w fun e w'=>e= .returned (.int .i64 (Lib.indexByte s.data.toList c.toNat.toUInt8))∧w'=w:=Any.strings_IndexByte Tryz.lays137 s c w
def Tryz.lays101_ren:Go.Shelf.Ren:=⟨fun|101=>155|208=>219|206=>65|n=>n,fun|9=>9|4=>4|3=>3|n=>n,fun|n=>n⟩
theorem Tryz.lays101:Go.Proofs.Lays.n101 Tryz.prog Tryz.lays101_ren:= {
 mixed:=by kernel_rfl
 f101:=Tryz.func155.trans (congrArg some (by kernel_rfl))
 f206:=Tryz.func65.trans (congrArg some (by kernel_rfl))
 f208:=Tryz.func219.trans (congrArg some (by kernel_rfl))
 t3:=Tryz.underlying3
 a3:=Tryz.isAgg3
 z3:=Tryz.sizeOf3
 v3:=Tryz.zeroValue3
 t4:=Tryz.underlying4
 a4:=Tryz.isAgg4
 z4:=Tryz.sizeOf4
 v4:=Tryz.zeroValue4
 t9:=Tryz.underlying9
 a9:=Tryz.isAgg9
 z9:=Tryz.sizeOf9
 v9:=Tryz.zeroValue9 }
open Go.RowKit Go.Lib in
theorem Tryz.strings_TrimPrefix (s p:ByteArray) (w:World):
 Calls Tryz.prog 155 #[.string s,.string p] w fun e w'=>e= .returned (.string ⟨(Lib.trimPrefix s.data.toList p.data.toList).toArray⟩)∧w'=w:=Any.strings_TrimPrefix Tryz.lays101 s p w
def Tryz.lays109_ren:Go.Shelf.Ren:=⟨fun|109=>236|n=>n,fun|31=>60|9=>9|3=>3|0=>0|4=>4|n=>n,fun|n=>n⟩
theorem Tryz.lays109:Go.Proofs.Lays.n109 Tryz.prog Tryz.lays109_ren:= {
 mixed:=by kernel_rfl
 f109:=Tryz.func236.trans (congrArg some (by kernel_rfl))
 t0:=Tryz.underlying0
 a0:=Tryz.isAgg0
 z0:=Tryz.sizeOf0
 v0:=Tryz.zeroValue0
 t3:=Tryz.underlying3
 a3:=Tryz.isAgg3
 z3:=Tryz.sizeOf3
 v3:=Tryz.zeroValue3
 t4:=Tryz.underlying4
 a4:=Tryz.isAgg4
 z4:=Tryz.sizeOf4
 v4:=Tryz.zeroValue4
 t9:=Tryz.underlying9
 a9:=Tryz.isAgg9
 z9:=Tryz.sizeOf9
 v9:=Tryz.zeroValue9
 t31:=Tryz.underlying60
 a31:=Tryz.isAgg60
 z31:=Tryz.sizeOf60
 v31:=Tryz.zeroValue60 }
open Go.Lib in
theorem Tryz.slices_Index_string (b off n c:Nat) (zs:List ByteArray) (x:ByteArray) (w:World) (hz:n≤zs.length) (hbig:n≤9223372036854775807) (hc:∀j,j<zs.length→w.cell? ⟨b,off+j,none⟩=some (.string (zs.getD j ByteArray.empty))):
 Calls Tryz.prog 236 #[.slice (some ⟨b,off,none⟩) n c,.string x] w fun e w'=>e= .returned (.int .i64 (Lib.idxOfS (zs.take n) x))∧w'=w:=Any.slices_Index_string Tryz.lays109 b off n c zs x w hz hbig hc
end Go.Proofs
namespace Go.Proofs.YtdodihnehppnmaaGreatDoor
open Go.RowKit Go.Lib
theorem Xbg {T e:TypeId} {B b:Nat} {bs:List Value} {w w':World} (h:Lib.IsBuilder T e B b bs w) (hb:Below w.heap.size w w'):Lib.IsBuilder T e B b bs w':=by
 have key:∀p,Lib.BuilderAt T e B b p bs w→Lib.BuilderAt T e B b p bs w':=fun p h=>by
  have hlt:=h.lt
  obtain ⟨hB,v,hv,hown,hne⟩:=h
  refine ⟨hB,v,(hb.block b hlt).trans hv,hown.kept (row:=none) ⟨hb.os,hb.tape,hb.output,hb.size,fun k hk _=>hb.block k hk⟩ ?_,hne⟩
  cases v.ownBlock<;>simp
 rcases h with h|h
 ·exact .inl (key _ h)
 ·exact .inr (key _ h)
set_option maxRecDepth 100000 in
set_option maxHeartbeats 400000 in
theorem Xc6 (I:IH) (hI:Glob I) (s:Bytes) (hs:s.length≤140737488355200) (w:World) (hw:Ok I w):
 Calls Tryz.prog 62 #[S s] w fun e w'=>e= .returned (S (netP s))∧Below w.heap.size w w':=by
 have hil:=Xee s.length (by omega)
 go_enter Tryz.func62,Tryz.ntmps62
 go_wp2_with fail
 refine (Xj2 I hI _ _ hw (by omega) (by omega)).mono ?_
 rintro e w1 ⟨rfl,hb1⟩
 go_wp2
 go_ret
 exact ⟨Xmz (by simp [netP]),hb1⟩
set_option maxRecDepth 100000 in
set_option maxHeartbeats 400000 in
theorem Xc7 (I:IH) (hI:Glob I) (n:Nat) (hn:n≤140737488355200) (w:World) (hw:Ok I w):
 Calls Tryz.prog 41 #[.int .i64 n] w fun e w'=>e= .returned (S (numP n))∧Below w.heap.size w w':=by
 have hil:=Xee n (by omega)
 go_enter Tryz.func41,Tryz.ntmps41
 go_wp2_with fail
 refine (Xj2 I hI _ _ hw (by omega) (by omega)).mono ?_
 rintro e w1 ⟨rfl,hb1⟩
 go_wp2
 go_ret
 exact ⟨rfl,hb1⟩
def StrsAt (w:World) (b off:Nat) (l:List Bytes):Prop:= ∀(j:Nat) x,l[j]? =some x→w.cell? ⟨b,off+j,none⟩=some (S x)
theorem Xfv (W:World) (l:List Bytes) (T:TypeId):StrsAt (W.alloc (.cells (l.map fun s=>S s).toArray T)) W.heap.size 0 l:=fun j x hx=>by
 rw [cell_of_row _ W.heap.size _ _ _ _ (heap_alloc_new W _),Nat.zero_add,List.getElem?_toArray,List.getElem?_map,hx]
 rfl
set_option maxRecDepth 100000 in
set_option maxHeartbeats 800000 in
theorem Xeu (I:IH) (hI:Glob I) (b off cap n:Nat) (l:List Bytes) (hln:l.length=n) (hcap:l.length≤cap) (hcm:cap≤maxLen) (w:World) (hv:StrsAt w b off l) (hs:(netsP l).length≤140737488355200) (hw:Ok I w):
 Calls Tryz.prog 43 #[.slice (some ⟨b,off,none⟩) n cap] w fun e w'=>e= .returned (S (netsP l))∧Below w.heap.size w w':=by
 subst hln
 have hlen:l.length≤9223372036854775807:=by unfold maxLen at hcm;omega
 have Hv:=Qh hv;clear hv
 have hfr:Lib.IsBuilder 77 5 w.heap.size w.heap.size (Lib.byteCells (netsP (l.take 0))) (w.alloc (.cells #[.pointer none,.slice none 0 0] 77)):=Lib.fresh_isBuilder _ _ w
 have Hfr:=Qh hfr;clear hfr
 go_enter Tryz.func43,Tryz.ntmps43
 go_wp2_with fail
 go_loopw [8] (fun s8 wr=> ∃k:Nat,k≤l.length∧s8= .int .i64 k∧Lib.IsBuilder 77 5 w.heap.size w.heap.size (Lib.byteCells (netsP (l.take k))) wr∧Below w.heap.size w wr∧w.heap.size<wr.heap.size) (fun i _=>l.length-(intOf i).toNat)
 case atStart=>exact ⟨0,Nat.zero_le _,rfl,Hfr.out,(Qb _ _).alloc (Qn _) _,by simp⟩
 case round=>
  obtain ⟨k,hk,rfl,hbd,hb,hsz⟩:=hrel
  have Hbd:=Qh hbd;clear hbd
  have hwr:Ok I wr:=hw.below (Qn _) hb
  by_cases hlt:k<l.length
  ·obtain ⟨s,hls⟩:∃s,l[k]=s:=⟨_,rfl⟩
   have hc:wr.cell? ⟨b,off+k,none⟩=some (S s):=Xaa hb (Hv.out k s (by rw [List.getElem?_eq_getElem hlt,hls]))
   have Htk:=Qh (show netsP (l.take (k+1))=netsP (l.take k)++netP s by rw [List.take_succ_eq_append_getElem hlt,Xgf,hls];simp [netsP])
   have Hall:=Qh (show netsP l=netsP (l.take (k+1))++netsP (l.drop (k+1)) by rw [←Xgf,List.take_append_drop])
   have hbig:(netsP (l.take k)).length+(netP s).length≤140737488355200:=by
    rw [Hall.out,Htk.out] at hs;simp at hs;omega
   have hsl:s.length≤140737488355200:=by
    have:s.length≤(netP s).length:=by simp [netP];omega
    omega
   clear hls
   go_wp2_with fail
   refine (Xc6 I hI s hsl _ hwr).mono ?_
   rintro e w1 ⟨rfl,hb1⟩
   have hbd1:=Xbg Hbd.out hb1
   have hsz1:=hb1.size
   go_wp2_with fail
   refine (Tryz.Builder_WriteString w.heap.size w.heap.size _ _ _ hbd1 (by rw [ByteArray.size_mk',List.size_toArray];simp [Lib.byteCells];omega) (by omega)).mono ?_
   rintro e w2 ⟨rfl,hbd2,hb2⟩
   have hsz2:=hbd2.lt
   have Hbd2:Hid (Lib.IsBuilder 77 5 w.heap.size w.heap.size (Lib.byteCells (netsP (l.take (k+1)))) w2):=Qh (.inr (by
    have:=hbd2
    rw [Lib.strCells_toArray,Lib.byteCells,Lib.byteCells,←List.map_append,←Htk.out] at this
    exact this))
   clear hbd1 hbd2
   go_wp2
   go_roundw
   case rel=>exact ⟨k+1,by omega,by go_num,Hbd2.out,(hb.trans (hb1.mono (Nat.le_of_lt hsz))).trans hb2,by omega⟩
   case measure=>simp [intOf];omega
  ·have hke:l.take k=l:=List.take_of_length_le (by omega)
   rw [hke] at Hbd
   clear hke
   go_wp2_with fail
   refine (Tryz.Builder_String_any w.heap.size w.heap.size _ _ Hbd.out (Nat.le_of_lt hsz)).mono ?_
   rintro e w1 ⟨rfl,hb1⟩
   go_wp2
   go_ret
   exact ⟨rfl,hb.trans hb1⟩
def tenDigits:Bytes:= [48,49,50,51,52,53,54,55,56,57]
theorem Xkn (u:Nat) (h:u<10):(tenDigits.drop u).take (u+1-u)=decDigits u:=by
 rw [decDigits_one h]
 match u,h with
 |0,_=>rfl
 |1,_=>rfl
 |2,_=>rfl
 |3,_=>rfl
 |4,_=>rfl
 |5,_=>rfl
 |6,_=>rfl
 |7,_=>rfl
 |8,_=>rfl
 |9,_=>rfl
theorem Xkb {n:Nat} (h:¬n<10):decDigits n=decDigits (n / 10)++decDigits (n%10):=by
 rw [decDigits_one (i:=n%10) (by omega),decDigits.eq_def n,dif_neg h]
set_option maxRecDepth 100000 in
set_option maxHeartbeats 400000 in
theorem Xk1 (u:Nat) (hu:u<18446744073709551616):∀w:World,Calls Tryz.prog 149 #[.int .u64 u] w fun e w'=>e= .returned (S (decDigits u))∧Below w.heap.size w w':=by
 induction u using Nat.strongRecOn with
 |ind u ih=>
  intro w
  have hl1:(decDigits u).length≤20:=by rw [decDigits_length];exact Xi8 _ _ (by omega) (by omega)
  by_cases h:u<10
  ·have Ht:=Qh (Xkn u h)
   clear ih hl1
   go_enter Tryz.func149,Tryz.ntmps149
   go_wp2
   go_ret
   exact ⟨Xmz (by have h:=Ht.out;rwa [show u+1-u=1 by omega] at h),Qb _ _⟩
  ·have Hd:=Qh (Xkb h)
   have hi1:=ih (u / 10) (by omega) (by omega)
   have hi2:=ih (u%10) (by omega) (by omega)
   have hl2:(decDigits (u / 10)).length+(decDigits (u%10)).length≤20:=by rw [Hd.out,List.length_append] at hl1;exact hl1
   have Hi1:=Qh hi1
   have Hi2:=Qh hi2
   rw [show ((u / 10:Nat):Int)=(u:Int) / 10 by omega] at Hi1
   rw [show ((u%10:Nat):Int)=(u:Int)%10 by omega] at Hi2
   clear ih hi1 hi2 hl1
   go_enter Tryz.func149,Tryz.ntmps149
   go_wp2_with fail
   refine (Hi1.out _).mono ?_
   rintro e w1 ⟨rfl,hb1⟩
   go_wp2_with fail
   refine (Hi2.out _).mono ?_
   rintro e w2 ⟨rfl,hb2⟩
   go_wp2
   go_ret
   exact ⟨Xmz Hd.out.symm,hb1.trans (hb2.mono hb1.size)⟩
set_option maxRecDepth 100000 in
set_option maxHeartbeats 400000 in
theorem Xk2 (n:Nat) (hn:n≤9223372036854775807) (w:World):Calls Tryz.prog 99 #[.int .i64 n] w fun e w'=>e= .returned (S (itoa n))∧Below w.heap.size w w':=by
 have Hi:=Qh (show itoa (n:Int)=decDigits n by simp [itoa])
 have hw:IntKind.u64.wrap (n:Int)=n:=IntWalk.u64_in _ (by omega)
 go_enter Tryz.func99,Tryz.ntmps99
 go_wp2_with fail
 refine (Xk1 n (by omega) _).mono ?_
 rintro e w1 ⟨rfl,hb1⟩
 go_wp2
 go_ret
 exact ⟨Xmz Hi.out.symm,hb1⟩
set_option maxRecDepth 100000 in
set_option maxHeartbeats 400000 in
theorem Xaq (s:Bytes) (hs:s.length≤140737488355200) (w:World):
 Calls Tryz.prog 49 #[S s] w fun e w'=>e= .returned (S (netP s))∧Below w.heap.size w w':=by
 have hil:=Xee s.length (by omega)
 go_enter Tryz.func49,Tryz.ntmps49
 go_wp2_with fail
 refine (Xk2 _ (by omega) _).mono ?_
 rintro e w1 ⟨rfl,hb1⟩
 go_wp2
 go_ret
 exact ⟨Xmz (by simp [netP]),hb1⟩
set_option maxRecDepth 100000 in
set_option maxHeartbeats 400000 in
theorem Xbl (n:Nat) (hn:n≤140737488355200) (w:World):
 Calls Tryz.prog 47 #[.int .i64 n] w fun e w'=>e= .returned (S (numP n))∧Below w.heap.size w w':=by
 have hil:=Xee n (by omega)
 go_enter Tryz.func47,Tryz.ntmps47
 go_wp2_with fail
 refine (Xk2 n (by omega) _).mono ?_
 rintro e w1 ⟨rfl,hb1⟩
 go_wp2
 go_ret
 exact ⟨rfl,hb1⟩
end Go.Proofs.YtdodihnehppnmaaGreatDoor
namespace Go.Proofs.YtdodihnehppnmaaGreatDoor
open Go.RowKit
def rdV {α:Type} (f:α→Value) (z:Value):Rd α→Value
 | .error e=> .tuple #[z,.int .i64 0,.int .i64 e]
 | .ok p=> .tuple #[f p.1,.int .i64 (p.2:Nat),.int .i64 0]
abbrev sV (r:Rd Bytes):Value:=rdV (fun x=>S x) (S []) r
abbrev nV (r:Rd Int):Value:=rdV (fun x=> .int .i64 x) (.int .i64 0) r
theorem Xxd {x y:Bytes} {n:Nat} {m:Int} (h:x=y) (hm:m=n):Ending.returned (.tuple #[S x,.int .i64 m,.int .i64 0])= .returned (sV (.ok (y,n))):=by rw [h,hm];rfl
theorem Xx0 {x y:Int} {n:Nat} {m:Int} (h:x=y) (hm:m=n):Ending.returned (.tuple #[.int .i64 x,.int .i64 m,.int .i64 0])= .returned (nV (.ok (y,n))):=by rw [h,hm];rfl
set_option maxRecDepth 100000 in
theorem Xjg (c:UInt8):digSet.contains c=digC c:=by
 cases h:digC c with
 |true=>exact Xjh c h
 |false=>
  have key:∀n:Fin 256,digSet.contains (UInt8.ofNat n.1)=true→48≤n.1∧n.1≤57:=by decide
  cases hc:digSet.contains c with
  |false=>rfl
  |true=>
   have:=key ⟨c.toNat,c.toNat_lt⟩ (by simpa using hc)
   rw [Xfn,Qt this.1,Qt this.2] at h
   cases h
theorem Xtl (s:Bytes):Lib.trimS s digSet= []↔s.all digC=true:=by
 rw [Xhf,List.all_eq_true,List.all_eq_true]
 constructor
 ·intro h c hc;rw [←Xjg];exact h c hc
 ·intro h c hc;rw [Xjg];exact h c hc
theorem Xix (c:UInt8):∀l:Bytes,l.take (l.takeWhile (fun x=>x != c)).length=l.takeWhile (fun x=>x != c)
 | []=>rfl
 |x::l=>by
  rw [List.takeWhile_cons]
  split
  ·rw [List.length_cons,List.take_succ_cons,Xix c l]
  ·rfl
set_option maxRecDepth 100000 in
set_option maxHeartbeats 1000000 in
theorem Xlc (s:Bytes) (hs:s.length≤4294967280) (a:Nat) (ha:a≤9223372036854775807) (c:UInt8) (w:World):
 Calls Tryz.prog 102 #[S s,.int .i64 a,.int .u8 (c.toNat:Int)] w fun e w'=>e= .returned (sV (rdUntil s a c))∧Below w.heap.size w w':=by
 have hul:=Xtj s a c
 by_cases h1:s.length<a
 ·have Hr:=Qh (show rdUntil s a c= .error 1 by unfold rdUntil;rw [if_pos h1])
  clear hul
  go_enter Tryz.func102,Tryz.ntmps102
  go_wp2
  go_ret3
  rw [Hr.out]
  exact ⟨rfl,Qb _ _⟩
 have hix:Lib.indexByte (s.drop a) c=if (upTo s a c).length<s.length-a then (((upTo s a c).length:Nat):Int) else -1:=by
  rw [Xgi,List.length_drop];rfl
 have hd:(List.drop a s).take (s.length-a)=s.drop a:=List.take_of_length_le (by simp)
 have Hix:=Qh (show ∀w,Calls Tryz.prog 154 #[S ((s.drop a).take (s.length-a)),.int .u8 (c.toNat:Int)] w fun e w'=>e= .returned (.int .i64 (if (upTo s a c).length<s.length-a then (((upTo s a c).length:Nat):Int) else -1))∧w'=w from fun w=>by
  rw [hd]
  have:=Tryz.strings_IndexByte ⟨(s.drop a).toArray⟩ (c.toNat:Int) w
  rw [show ((c.toNat:Int).toNat.toUInt8)=c by simp,show (⟨(s.drop a).toArray⟩:ByteArray).data.toList=s.drop a from rfl,hix] at this
  exact this)
 have h0:(0:Int)≤a:=by omega
 have h2:(a:Int)≤s.length:=by omega
 by_cases h3:(upTo s a c).length<s.length-a
 ·have Hr:=Qh (show rdUntil s a c= .ok (upTo s a c,a+(upTo s a c).length+1) by unfold rdUntil;rw [if_neg h1,if_pos (by omega)])
  rw [if_pos h3] at Hix
  have Hu:=Qh (show (s.drop a).take (upTo s a c).length=upTo s a c from Xix c _)
  generalize (upTo s a c).length=n at*
  have Hd:=Qh hd
  clear hix hd hul
  go_enter Tryz.func102,Tryz.ntmps102
  go_wp2_with fail
  refine (Hix.out _).mono ?_
  rintro e w1 ⟨rfl,rfl⟩
  go_wp2
  go_ret3
  rw [Hr.out]
  exact ⟨Xxd (by rw [show a+n-a=n by omega,Hu.out]) (by omega),Qb _ _⟩
 ·have Hr:=Qh (show rdUntil s a c= .error 4 by unfold rdUntil;rw [if_neg h1,if_neg (by omega)])
  rw [if_neg h3] at Hix
  clear hix hd hul
  go_enter Tryz.func102,Tryz.ntmps102
  go_wp2_with fail
  refine (Hix.out _).mono ?_
  rintro e w1 ⟨rfl,rfl⟩
  go_wp2
  go_ret3
  rw [Hr.out]
  exact ⟨rfl,Qb _ _⟩
theorem Xxl (s:Bytes):(magT s).length≤s.length:=by
 unfold magT
 split
 ·rw [List.length_tail];omega
 ·exact Qn _
set_option maxRecDepth 100000 in
set_option maxHeartbeats 1000000 in
theorem Xhw (s:Bytes) (hs:s.length≤4294967280) (w:World):
 Calls Tryz.prog 103 #[S s] w fun e w'=>e= .returned (.bool (decOkT s))∧Below w.heap.size w w':=by
 have hml:=Xxl s
 have Hdec:=Qh (Xn0 s)
 have Htp:=Qh (show ∀w,Calls Tryz.prog 155 #[S s,S [45]] w fun e w'=>e= .returned (S (magT s))∧w'=w from fun w=>by
  have:=Tryz.strings_TrimPrefix ⟨s.toArray⟩ ⟨[45].toArray⟩ w
  rw [show (⟨s.toArray⟩:ByteArray).data.toList=s from rfl,show (⟨[45].toArray⟩:ByteArray).data.toList= [45] from rfl,Xqs] at this
  exact this)
 have Htr:=Qh (fun w=>Xlg (magT s) (by omega) w)
 have Hti:=Qh (Xtl (magT s))
 generalize magT s=m at*
 have HD:=Qh (show digSet= [48,49,50,51,52,53,54,55,56,57] from rfl)
 rw [HD.out] at Htr Hti
 by_cases h1:m= []
 ·have Hn:=Qh (show decOkT s=false by rw [Hdec.out,h1];rfl)
  obtain ⟨p1,p2,p3,p4⟩:=Xdv h1
  clear h1
  go_enter Tryz.func103,Tryz.ntmps103
  go_wp2_with fail
  refine (Htp.out _).mono ?_
  rintro e w1 ⟨rfl,rfl⟩
  go_wp2
  go_ret
  exact ⟨Xan Hn.out.symm,Qb _ _⟩
 have hlen:=List.length_pos_iff.2 h1
 obtain ⟨p1,p2,p3,p4⟩:=Xcw h1
 by_cases h2:m.all digC=true
 ·rw [Hti.out.2 h2] at Htr
  have hx0:=run_at (P:=Tryz.prog) Tryz.underlying9 m 0 0 rfl hlen
  have hh:m.head? =some (m.getD 0 0):=by cases m with
   |nil=>exact absurd rfl h1
   |cons a r=>rfl
  have Hn:=Qh (show decOkT s=(m.head? != some 48 || s== [48]) by rw [Hdec.out,p2,h2];rfl)
  rw [hh] at Hn
  by_cases h3:(m.getD 0 0).toNat=48
  ·have k1:(((m.getD 0 0).toNat:Int) != 48)=false:=by rw [h3];rfl
   have Hs:=Qh (show decOkT s=(s== [48]) by
    have e:m.getD 0 0=48:=UInt8.toNat_inj.1 (by rw [h3];rfl)
    rw [Hn.out,e]
    rfl)
   clear Hn hh h2 h3 h1
   generalize (m.getD 0 0).toNat=c at hx0 k1
   go_enter Tryz.func103,Tryz.ntmps103
   go_wp2_with fail
   refine (Htp.out _).mono ?_
   rintro e w1 ⟨rfl,rfl⟩
   go_wp2_with fail
   refine (Htr.out _).mono ?_
   rintro e w2 ⟨rfl,hb2⟩
   go_wp2
   go_ret
   exact ⟨Xan Hs.out.symm,hb2⟩
  ·have k1:(((m.getD 0 0).toNat:Int) != 48)=true:=by
    have:((m.getD 0 0).toNat:Int)≠48:=by omega
    simpa using this
   have Hs:=Qh (show decOkT s=true by
    have e:m.getD 0 0≠48:=fun e=>h3 (by rw [e];rfl)
    rw [Hn.out]
    have e2:(some (m.getD 0 0) != some (48:UInt8))=true:=by simpa using e
    rw [e2]
    rfl)
   clear Hn hh h2 h3 h1
   generalize (m.getD 0 0).toNat=c at hx0 k1
   go_enter Tryz.func103,Tryz.ntmps103
   go_wp2_with fail
   refine (Htp.out _).mono ?_
   rintro e w1 ⟨rfl,rfl⟩
   go_wp2_with fail
   refine (Htr.out _).mono ?_
   rintro e w2 ⟨rfl,hb2⟩
   go_wp2
   go_ret
   exact ⟨Xan Hs.out.symm,hb2⟩
 ·have Hn:=Qh (show decOkT s=false by
   have:m.all digC=false:=by simpa using h2
   rw [Hdec.out,this]
   simp)
  have ht:Lib.trimS m [48,49,50,51,52,53,54,55,56,57]≠ []:=fun e=>h2 (Hti.out.1 e)
  clear h2 h1
  generalize Lib.trimS m [48,49,50,51,52,53,54,55,56,57]=u at Htr ht
  obtain ⟨q1,q2,q3,q4⟩:=Xcw ht
  clear ht Hti
  go_enter Tryz.func103,Tryz.ntmps103
  go_wp2_with fail
  refine (Htp.out _).mono ?_
  rintro e w1 ⟨rfl,rfl⟩
  go_wp2_with fail
  refine (Htr.out _).mono ?_
  rintro e w2 ⟨rfl,hb2⟩
  go_wp2
  go_ret
  exact ⟨Xan Hn.out.symm,hb2⟩
end Go.Proofs.YtdodihnehppnmaaGreatDoor
