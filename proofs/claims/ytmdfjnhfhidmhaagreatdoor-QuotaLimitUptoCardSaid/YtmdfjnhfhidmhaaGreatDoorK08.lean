/-
  Walks and laws that the claim's theorem uses: texts AtK AtL PeA ShU LiA BmS HiP CkP, joined; comments out. Conditions: as each theorem says.
-/
import Derived.Test.YtmdfjnhfhidmhaaGreatDoorK07
import Derived.Lib.SmallJoins
import Derived.Lib.AppendIntMem
import Derived.Shelf.Strings.Builder1
import Derived.Shelf.Strings.Builder2
import Derived.Shelf.Strings.Repeat
import Derived.Shelf.Strings.LastIndex
import Derived.Test.YtmdfjnhfhidmhaaGreatDoorProg
import Derived.Lib.Repeat
import Derived.Test.YtmdfjnhfhidmhaaGreatDoorK03
import Derived.Laws.MakeOwn
set_option linter.all false
namespace Go.Proofs.YtmdfjnhfhidmhaaGreatDoor
open Go.RowKit
abbrev cutset0:Bytes:= [97,98,99,100,101,102,103,104,105,106,107,108,109,110,111,112,113,114,115,116,117,118,119,120,121,122,48,49,50,51,52,53,54,55,56,57,46,95,45]
set_option maxRecDepth 100000 in
theorem Xjm (c:UInt8):cutset0.contains c=keyChar c:=by
 have h:∀n:Fin 256,cutset0.contains (UInt8.ofNat n.1)=keyChar (UInt8.ofNat n.1):=by decide
 have:=h ⟨c.toNat,c.toNat_lt⟩
 simpa using this
theorem Xid (s cs:Bytes):Lib.trimS s cs= []↔s.all (cs.contains ·)=true:=by
 have hd:∀l:Bytes,l.dropWhile (cs.contains ·)= []↔l.all (cs.contains ·)=true:=by
  intro l
  induction l with
  |nil=>simp
  |cons x l ih=>
   rw [List.dropWhile_cons,List.all_cons]
   cases h:cs.contains x
   ·simp
   ·simp only [if_true,Bool.true_and];exact ih
 have hdd:∀l:Bytes,(l.dropWhile (cs.contains ·)).all (cs.contains ·)=l.all (cs.contains ·):=by
  intro l
  induction l with
  |nil=>rfl
  |cons x l ih=>
   rw [List.dropWhile_cons]
   cases h:cs.contains x
   ·rfl
   ·simp only [if_true];rw [ih,List.all_cons,h,Bool.true_and]
 unfold Lib.trimS Lib.trimLeftS Lib.trimRightS
 rw [hd,List.all_reverse,hdd,List.all_reverse]
set_option maxRecDepth 100000 in
theorem Xq0 (s:Bytes) (hs:s.length≤9223372036854775807) (w:World):
 Calls Tryz.prog 144 #[S s,S cutset0] w fun e w'=>e= .returned (S (Lib.trimS s cutset0))∧Below w.heap.size w w':=by
 have h:=Tryz.strings_Trim ⟨s.toArray⟩ ⟨cutset0.toArray⟩ w (by rw [ByteArray.size_mk',List.size_toArray];exact hs) (by decide) (ascii_of_all (by decide))
 exact h
def keyErr (s:Bytes):Int:=if keyOk s then 0 else 7
set_option maxRecDepth 100000 in
set_option maxHeartbeats 400000 in
theorem Xpr (s:Bytes) (hs:s.length≤9223372036854775807) (w:World):
 Calls Tryz.prog 220 #[S s] w fun e w'=>e= .returned (.int .i64 (keyErr s))∧Below w.heap.size w w':=by
 by_cases h1:s= []
 ·have hE:keyErr s=7:=by rw [h1];rfl
  have HE:=Qh hE
  have f1:(s== [])=true:=by rw [h1];rfl
  have f2:s.isEmpty=true:=by rw [h1];rfl
  have f3:(!s.isEmpty)=false:=by rw [h1];rfl
  clear hE h1
  go_enter Tryz.func220,Tryz.ntmps220
  go_wp2
  go_ret
  exact ⟨Xaj HE.out.symm,Qb _ _⟩
 ·have hlen:1≤s.length:=by cases s<;>simp_all
  have f1:(s== [])=false:=by simpa using h1
  have f2:s.isEmpty=false:=by cases s<;>simp_all
  have f3:(!s.isEmpty)=true:=by rw [f2];rfl
  clear h1
  by_cases h32:s.length≤32
  ·have hd1:decide (32<s.length)=false:=Qf (by omega)
   have hk:keyOk s=s.all (cutset0.contains ·):=by
    have:(fun c=>cutset0.contains c)=keyChar:=funext Xjm
    rw [this];simp [keyOk,h32,hlen]
   have ht:=Xid s cutset0
   have Htr:=Qh (Xq0 s hs)
   generalize hT:Lib.trimS s cutset0=T at ht Htr
   by_cases hTn:T= []
   ·have HE:=Qh (show keyErr s=0 by rw [keyErr,hk,if_pos (ht.1 hTn)])
    have g1:(T== [])=true:=by rw [hTn];rfl
    have g2:T.isEmpty=true:=by rw [hTn];rfl
    have g3:(!T.isEmpty)=false:=by rw [hTn];rfl
    clear hTn ht hk hT
    go_enter Tryz.func220,Tryz.ntmps220
    go_wp2_with fail
    refine (Htr.out _).mono ?_
    rintro e w1 ⟨rfl,hb1⟩
    go_wp2
    go_ret
    exact ⟨Xaj HE.out.symm,hb1⟩
   ·have HE:=Qh (show keyErr s=7 by rw [keyErr,hk,if_neg (fun h=>hTn (ht.2 h))])
    have g1:(T== [])=false:=by simpa using hTn
    have g2:T.isEmpty=false:=by cases T<;>simp_all
    have g3:(!T.isEmpty)=true:=by rw [g2];rfl
    clear hTn ht hk hT
    go_enter Tryz.func220,Tryz.ntmps220
    go_wp2_with fail
    refine (Htr.out _).mono ?_
    rintro e w1 ⟨rfl,hb1⟩
    go_wp2
    go_ret
    exact ⟨Xaj HE.out.symm,hb1⟩
  ·have hd1:decide (32<s.length)=true:=Qt (by omega)
   have HE:=Qh (show keyErr s=7 by rw [keyErr,if_neg (by simp [keyOk,h32])])
   go_enter Tryz.func220,Tryz.ntmps220
   go_wp2
   go_ret
   exact ⟨Xaj HE.out.symm,Qb _ _⟩
set_option maxRecDepth 100000 in
set_option maxHeartbeats 400000 in
theorem Xt4 (x:At) (hx:x.Wf) (w:World):
 Calls Tryz.prog 178 #[x.val] w fun e w'=>e= .returned (.int .i64 (atErr x))∧Below w.heap.size w w':=by
 obtain ⟨hx1,hx2⟩:=hx
 cases hk:keyOk x.k
 ·have HE:=Qh (show keyErr x.k=7 by rw [keyErr,hk];rfl)
  have HA:=Qh (show atErr x=7 by rw [atErr,if_pos hk])
  clear hk
  go_enter Tryz.func178,Tryz.ntmps178
  go_wp2_with fail
  refine (Xpr x.k hx1 _).mono ?_
  rintro e w1 ⟨rfl,hb1⟩
  rw [HE.out]
  go_wp2
  go_ret
  exact ⟨Xaj HA.out.symm,((Qb _ _).alloc (Qn _) _).trans (hb1.mono (by simp))⟩
 ·have HE:=Qh (show keyErr x.k=0 by rw [keyErr,hk];rfl)
  have Hk:=Qh hk
  clear hk
  by_cases h64:x.v.length≤64
  ·have hd:decide (64<x.v.length)=false:=Qf (by omega)
   have HA:=Qh (show atErr x=0 by rw [atErr,if_neg (by rw [Hk.out];simp),if_neg (by omega)])
   go_enter Tryz.func178,Tryz.ntmps178
   go_wp2_with fail
   refine (Xpr x.k hx1 _).mono ?_
   rintro e w1 ⟨rfl,hb1⟩
   rw [HE.out]
   obtain ⟨hc0,hc1⟩:=Xt5 rfl hb1
   go_wp2
   go_ret
   exact ⟨Xaj HA.out.symm,((Qb _ _).alloc (Qn _) _).trans (hb1.mono (by simp))⟩
  ·have hd:decide (64<x.v.length)=true:=Qt (by omega)
   have HA:=Qh (show atErr x=6 by rw [atErr,if_neg (by rw [Hk.out];simp),if_pos (by omega)])
   go_enter Tryz.func178,Tryz.ntmps178
   go_wp2_with fail
   refine (Xpr x.k hx1 _).mono ?_
   rintro e w1 ⟨rfl,hb1⟩
   rw [HE.out]
   obtain ⟨hc0,hc1⟩:=Xt5 rfl hb1
   go_wp2
   go_ret
   exact ⟨Xaj HA.out.symm,((Qb _ _).alloc (Qn _) _).trans (hb1.mono (by simp))⟩
theorem Xjp:∀(a b:Bytes),Lib.compareBytes a b=if Op.bytesLess a b then -1 else if a==b then 0 else 1
 | [],[]=>rfl
 | [],_::_=>rfl
 |_::_,[]=>rfl
 |x::a,y::b=>by
  rw [Lib.compareBytes,Xjp a b,Op.bytesLess]
  by_cases h1:x<y
  ·simp [h1]
  ·by_cases h2:y<x
   ·have:¬x=y:=fun e=>by subst e;exact UInt8.lt_irrefl _ h2
    simp [h1,h2,this]
   ·have e:x=y:=UInt8.le_antisymm (UInt8.not_lt.1 h2) (UInt8.not_lt.1 h1)
    subst e
    simp
set_option maxRecDepth 100000 in
theorem Xki (a b:Bytes) (w:World):Calls Tryz.prog 179 #[S a,S b] w fun e w'=>e= .returned (.int .i64 (Lib.compareBytes a b))∧Below w.heap.size w w':=
 (Tryz.strings_Compare ⟨a.toArray⟩ ⟨b.toArray⟩ w).mono fun _ _ ⟨h1,h2⟩=>⟨h1,by rw [h2];exact Qb _ _⟩
set_option maxRecDepth 100000 in
set_option maxHeartbeats 1000000 in
theorem Xrw (I:IH) (v:Value) (l:List At) (hv:RdS tAt I v l) (hl:∀x∈l,x.Wf) (w:World) (hw:Ok I w):
 Calls Tryz.prog 131 #[v] w fun e w'=>e= .returned (.int .i64 (chk l))∧Below w.heap.size w w':=by
 have hlen:=hv.len_le
 obtain ⟨ao,cap,rfl,hcap,hcm,_⟩:=id hv
 have Hv:=Qh hv;clear hv
 have Hl:=Qh hl;clear hl
 by_cases h16:l.length≤16
 ·have hd:decide (16<l.length)=false:=Qf (by omega)
  have Hchk:=Qh (show chk l=chkFrom none l by rw [chk,if_neg (by omega)])
  go_enter Tryz.func131,Tryz.ntmps131
  go_wp2_with fail
  go_loopw [11] (fun s11 wr=> ∃k:Nat,k≤l.length∧s11= .int .i64 k∧chkFrom (if k=0 then none else l[k-1]?) (l.drop k)=chkFrom none l∧Below w.heap.size w wr) (fun i _=>l.length-(intOf i).toNat)
  case atStart=>exact ⟨0,Nat.zero_le _,rfl,rfl,Qb _ _⟩
  case round=>
   obtain ⟨k,hk,rfl,hr,hb⟩:=hrel
   have Hr:=Qh hr;clear hr
   by_cases hlt:k<l.length
   ·have hwr:Ok I wr:=hw.below (Qn _) hb
    obtain ⟨x,b,off,cap',hlx,hvv,hc0,hc1⟩:=atAt Hv.out hwr k hlt
    cases hvv
    have hxm:x∈l:=by rw [←hlx];exact List.getElem_mem hlt
    have Hxw:=Qh (Hl.out x hxm)
    have Hst:=Qh (show chk l=if atErr x≠0 then atErr x else if ((if k=0 then none else l[k-1]?).any fun q=>q.k==x.k) then 8 else if ((if k=0 then none else l[k-1]?).any fun q=>Op.bytesLess x.k q.k) then 14 else chkFrom (some x) (l.drop (k+1)) by
     rw [Hchk.out,←Hr.out,List.drop_eq_getElem_cons hlt,hlx,Xjt])
    have Hkx:=Qh (show l[k]? =some x by rw [List.getElem?_eq_getElem hlt,hlx])
    clear hlx hxm
    go_wp2_with fail
    refine (Xt4 x Hxw.out _).mono ?_
    rintro e w1 ⟨rfl,hb1⟩
    obtain ⟨hx0,hx1⟩:=Xt5 rfl hb1
    have hb1':=(hb.alloc hb.size _).trans (hb1.mono (by have:=hb.size;simp;omega))
    have hw1:Ok I w1:=hw.below (Qn _) hb1'
    clear hb1 hc0 hc1
    by_cases h0:atErr x=0
    ·have H0:=Qh h0
     rw [h0]
     clear h0
     by_cases hk0:k=0
     ·have hd3:((k:Int)==0)=true:=by rw [hk0];rfl
      have Hnx:=Qh (show chkFrom (if k+1=0 then none else l[k+1-1]?) (l.drop (k+1))=chkFrom none l by
       rw [←Hchk.out,Hst.out,H0.out,if_neg (by omega),Nat.add_sub_cancel,Hkx.out];simp [hk0])
      clear hk0
      go_wp2
      go_roundw
      case rel=>exact ⟨k+1,by omega,by go_num,Hnx.out,hb1'⟩
      case measure=>simp [intOf];omega
     ·obtain ⟨q,b',off',cap'',hlq,hvv,hp0,hp1⟩:=atAt Hv.out hw1 (k-1) (by omega)
      cases hvv
      have Hst2:=Qh (show chk l=if (q.k==x.k) then 8 else if Op.bytesLess x.k q.k then 14 else chkFrom (some x) (l.drop (k+1)) by
       rw [Hst.out,H0.out,if_neg (by omega),if_neg hk0,List.getElem?_eq_getElem (by omega),hlq];rfl)
      have hd3:((k:Int)==0)=false:=by rw [beq_eq_false_iff_ne];omega
      have hi:IntKind.i64.wrap ((k:Int)-1)=(k:Int)-1:=IntWalk.i64_in _ (by omega)
      have hj:0≤(k:Int)-1:=by omega
      have hm:((k:Int)-1).toNat=k-1:=by omega
      have hg0:=cell_regrown hx0
      have hq0:=cell_regrown hp0
      have hcmp:=Xjp q.k x.k
      have Hcmp:=Qh (fun W=>Xki q.k x.k W)
      generalize Lib.compareBytes q.k x.k=r at hcmp Hcmp
      clear hlq
      rcases Xc3 q.k x.k with ht|ht|ht
      ·have hr1:r= -1:=by rw [hcmp,ht];rfl
       have Hnx:=Qh (show chkFrom (if k+1=0 then none else l[k+1-1]?) (l.drop (k+1))=chkFrom none l by
        have hbe:(q.k==x.k)=false:=by simpa using Xpo ht
        rw [←Hchk.out,Hst2.out,Xd0 ht,hbe,Nat.add_sub_cancel,Hkx.out];simp)
       subst hr1
       clear ht hcmp
       go_wp2_with fail
       refine wp_region_quiet_below (by kernel_rfl) (by kernel_rfl) ?_
       repeat (go_big_quiet_step ((with_reducible exact Calls.regrown_of (Hcmp.out _))))
       refine wpQuiet_nil ?_
       intro w2 hwq
       have hb2:Below (w1).heap.size (w1) w2:=by
        obtain ⟨pq,rfl⟩:=hwq
        exact below_regrown _ _ _
       clear hwq
       go_wp2
       go_roundw
       case rel=>exact ⟨k+1,by omega,by go_num,Hnx.out,hb1'.trans (hb2.mono hb1'.size)⟩
       case measure=>simp [intOf];omega
      ·have hbe:(q.k==x.k)=true:=by rw [ht];exact beq_self_eq_true _
       have hbl:Op.bytesLess q.k x.k=false:=by rw [ht];exact Xa2 _
       have hr1:r=0:=by rw [hcmp,hbl,hbe];rfl
       have Hnx:=Qh (show chk l=8 by rw [Hst2.out,if_pos hbe])
       subst hr1
       clear ht hcmp hbe hbl
       go_wp2_with fail
       refine wp_region_quiet_below (by kernel_rfl) (by kernel_rfl) ?_
       repeat (go_big_quiet_step ((with_reducible exact Calls.regrown_of (Hcmp.out _))))
       refine wpQuiet_nil ?_
       intro w2 hwq
       have hb2:Below (w1).heap.size (w1) w2:=by
        obtain ⟨pq,rfl⟩:=hwq
        exact below_regrown _ _ _
       clear hwq
       go_wp2
       go_ret
       exact ⟨Xaj Hnx.out.symm,hb1'.trans (hb2.mono hb1'.size)⟩
      ·have hne:(q.k==x.k)=false:=by simpa using (Xpo ht).symm
       have hr1:r=1:=by rw [hcmp,Xd0 ht,hne];rfl
       have Hnx:=Qh (show chk l=14 by rw [Hst2.out,if_neg (by rw [hne];simp),if_pos ht])
       subst hr1
       clear ht hcmp hne
       go_wp2_with fail
       refine wp_region_quiet_below (by kernel_rfl) (by kernel_rfl) ?_
       repeat (go_big_quiet_step ((with_reducible exact Calls.regrown_of (Hcmp.out _))))
       refine wpQuiet_nil ?_
       intro w2 hwq
       have hb2:Below (w1).heap.size (w1) w2:=by
        obtain ⟨pq,rfl⟩:=hwq
        exact below_regrown _ _ _
       clear hwq
       go_wp2
       go_ret
       exact ⟨Xaj Hnx.out.symm,hb1'.trans (hb2.mono hb1'.size)⟩
    ·obtain ⟨q,hq⟩:∃q,atErr x=q:=⟨_,rfl⟩
     have hn0:(q != 0)=true:=by rw [←hq];simpa using h0
     have Hs:=Qh (show chk l=q by rw [Hst.out,if_pos h0,hq])
     rw [hq]
     clear hq h0
     go_wp2
     go_ret
     exact ⟨Xaj Hs.out.symm,hb1'⟩
   ·go_wp2
    go_ret
    refine ⟨Xaj ?_,hb⟩
    rw [Hchk.out,←Hr.out,List.drop_of_length_le (by omega)];rfl
 ·have hd:decide (16<l.length)=true:=Qt (by omega)
  go_enter Tryz.func131,Tryz.ntmps131
  go_wp2
  go_ret
  exact ⟨Xaj (by rw [chk,if_pos (by omega)]),Qb _ _⟩
theorem Glob.tab {I : IH} {w : World} (h : Glob I) (hw : Ok I w) : Lib.TabIs Tryz.prog w "internal/strconv.uint64pow10" .u64 Lib.pow10Tab := by
 obtain ⟨e,f,hh⟩:=hw _ _ h.pow
 unfold Lib.TabIs World.var?
 have hg : Tryz.prog.globalNamed "internal/strconv.uint64pow10" = some 5 := by kernel_rfl
 simp [hg,hh]
theorem Glob.vsyn {I : IH} {w : World} (h : Glob I) (hw : Ok I w) : ∃ tp p, w.var? Tryz.prog "strconv.ErrSyntax" = some #[.iface tp p] := by
 obtain ⟨tp,p,h1⟩:=h.syn
 obtain ⟨e,f,hh⟩:=hw _ _ h1
 refine ⟨tp,p,?_⟩
 unfold World.var?
 have hg : Tryz.prog.globalNamed "strconv.ErrSyntax" = some 1 := by kernel_rfl
 simp [hg,hh]
theorem Glob.vrng {I : IH} {w : World} (h : Glob I) (hw : Ok I w) : ∃ tp p, w.var? Tryz.prog "strconv.ErrRange" = some #[.iface tp p] := by
 obtain ⟨tp,p,h1⟩:=h.rng
 obtain ⟨e,f,hh⟩:=hw _ _ h1
 refine ⟨tp,p,?_⟩
 unfold World.var?
 have hg : Tryz.prog.globalNamed "strconv.ErrRange" = some 2 := by kernel_rfl
 simp [hg,hh]
theorem Xhq (I:IH) (hI:Glob I) (n:Int) (w:World) (hw:Ok I w) (h0: -9223372036854775808≤n) (h1:n≤9223372036854775807):
 Calls Tryz.prog 201 #[.int .i64 n] w fun e w'=>e= .returned (S (Lib.itoa n))∧Below w.heap.size w w':=
 (Tryz.strconv_Itoa n h0 h1 w (hI.tab hw)).mono fun e w' ⟨he,k,os,hq⟩=>⟨he,by rw [hq];exact Lib.below_grow _ _ (Qn _) _ _⟩
def AtoiBad (w:World) (e:Ending) (w':World):Prop:= ∃n N,e= .returned (.tuple #[.int .i64 n,.iface 262 (.pointer (some ⟨N,0,none⟩))])∧Below w.heap.size w w'
theorem Xfj (s:Bytes) (hs:s.length≤4294967280) (n:Int) (h:Lib.atoiAll s= .ok n) (w:World):
 Calls Tryz.prog 145 #[S s] w fun e w'=>e= .returned (.tuple #[.int .i64 n,.nilIface])∧Below w.heap.size w w':=by
 have hsz:(⟨s.toArray⟩:ByteArray).size=s.length:=by simp [ByteArray.size]
 refine (Tryz.strconv_Atoi_ok ⟨s.toArray⟩ (by omega) n h w).mono fun e w' ⟨h1,h2⟩=>⟨h1,?_⟩
 rcases h2 with h2|⟨t,h2⟩
 ·rw [h2];exact Qb _ _
 ·rw [h2];exact Joins.below_bytesWorld _ _ _ _ (Qn _)
theorem Xiv (I:IH) (hI:Glob I) (s:Bytes) (hs:s.length≤4294967280) (h:∀n,Lib.atoiAll s≠ .ok n) (w:World) (hw:Ok I w):
 Calls Tryz.prog 145 #[S s] w (AtoiBad w):=by
 have hsz:(⟨s.toArray⟩:ByteArray).size=s.length:=by simp [ByteArray.size]
 by_cases hr:Lib.atoiAll s= .range
 ·obtain ⟨tp,p,hv⟩:=hI.vrng hw
  exact (Tryz.strconv_Atoi_range_var ⟨s.toArray⟩ (by omega) hr tp p w hv).mono fun e w' ⟨N,h1,_,_,h4⟩=>⟨_,N,h1,h4⟩
 ·obtain ⟨tp,p,hv⟩:=hI.vsyn hw
  exact (Tryz.strconv_Atoi_syntax_var ⟨s.toArray⟩ (by omega) h hr tp p w hv).mono fun e w' ⟨N,h1,_,_,h4⟩=>⟨0,N,h1,h4⟩
set_option maxRecDepth 100000 in
set_option maxHeartbeats 1000000 in
theorem Xo9 (I:IH) (hI:Glob I) (s:Bytes) (hs:s.length≤4294967280) (w:World) (hw:Ok I w):
 Calls Tryz.prog 180 #[S s] w fun e w'=>e= .returned (.bool (dateOk s))∧Below w.heap.size w w':=by
 have hdi:=Xlx s
 by_cases hok:∃n,Lib.atoiAll s= .ok n
 case neg=>
  have Hn:=Qh (show dateOk s=false by
   cases h:dateOk s with
   |false=>rfl
   |true=>obtain ⟨n,h1,_⟩:=hdi.1 h;exact absurd ⟨n,h1⟩ hok)
  have Hat:=Qh (Xiv I hI s hs (fun n h=>hok ⟨n,h⟩) w hw)
  clear hdi hok
  go_enter Tryz.func180,Tryz.ntmps180
  go_wp2_with fail
  refine Hat.out.mono ?_
  rintro e w1 ⟨n,N,rfl,hb1⟩
  go_wp2
  go_ret
  exact ⟨Xay Hn.out.symm,hb1⟩
 obtain ⟨n,hn⟩:=hok
 have Hat:=Qh (Xfj s hs n hn w)
 have Hd:=Qh (show dateOk s=(decide (0≤n)&&decide (n≤1000000000)&&decide (Lib.itoa n=s)) by
  rw [Bool.eq_iff_iff,hdi]
  simp only [Bool.and_eq_true,decide_eq_true_eq]
  constructor
  ·rintro ⟨m,h1,h2,h3,h4⟩
   rw [hn] at h1
   injection h1 with h1
   subst h1
   exact ⟨⟨h2,h3⟩,h4⟩
  ·rintro ⟨⟨h2,h3⟩,h4⟩
   exact ⟨n,hn,h2,h3,h4⟩)
 clear hdi hn
 by_cases h0:0≤n
 case neg=>
  have Hn:=Qh (show dateOk s=false by rw [Hd.out,Qf h0];rfl)
  go_enter Tryz.func180,Tryz.ntmps180
  go_wp2_with fail
  refine Hat.out.mono ?_
  rintro e w1 ⟨rfl,hb1⟩
  go_wp2
  go_ret
  exact ⟨(by first|exact Xay Hn.out.symm|(rw [Hn.out];congr 1;simp;omega)),hb1⟩
 by_cases h1:n≤1000000000
 case neg=>
  have Hn:=Qh (show dateOk s=false by rw [Hd.out,Qf h1,Bool.and_false];rfl)
  go_enter Tryz.func180,Tryz.ntmps180
  go_wp2_with fail
  refine Hat.out.mono ?_
  rintro e w1 ⟨rfl,hb1⟩
  go_wp2
  go_ret
  exact ⟨(by first|exact Xay Hn.out.symm|(rw [Hn.out];congr 1;simp;omega)),hb1⟩
 have Hn:=Qh (show dateOk s=(Lib.itoa n==s) by
  rw [Hd.out,Qt h0,Qt h1]
  by_cases h:Lib.itoa n=s<;>simp [h])
 have Hit:=Qh (fun w hw=>Xhq I hI n w hw (by omega) (by omega))
 obtain ⟨t,ht⟩:∃t,Lib.itoa n=t:=⟨_,rfl⟩
 rw [ht] at Hit Hn
 clear ht
 go_enter Tryz.func180,Tryz.ntmps180
 go_wp2_with fail
 refine Hat.out.mono ?_
 rintro e w1 ⟨rfl,hb1⟩
 go_wp2_with fail
 refine (Hit.out _ (hw.below (Qn _) hb1)).mono ?_
 rintro e w2 ⟨rfl,hb2⟩
 go_wp2
 go_ret
 exact ⟨Xay Hn.out.symm,hb1.trans (hb2.mono hb1.size)⟩
set_option maxRecDepth 100000 in
set_option maxHeartbeats 400000 in
theorem Xo8 (I:IH) (hI:Glob I) (x:Ent) (hx:x.target.length≤4294967280) (va vx:Value) (w:World) (hw:Ok I w):
 Calls Tryz.prog 132 #[entV x va vx] w fun e w'=>e= .returned (.bool (targetOk x))∧Below w.heap.size w w':=by
 by_cases h3:x.kind=3
 ·have f3:((x.kind:Int)==3)=true:=by simpa using h3
  by_cases h1:x.target= []
  ·have Ht:=Qh (show targetOk x=false by rw [targetOk,if_pos h3,h1];rfl)
   obtain ⟨p1,p2,p3,p4⟩:=Xdx h1
   clear h3 h1
   go_enter Tryz.func132,Tryz.ntmps132
   go_wp2
   go_ret
   exact ⟨Xay Ht.out.symm,(Qb _ _).alloc (Qn _) _⟩
  have hl1:1≤x.target.length:=List.length_pos_iff.2 h1
  have Ht:=Qh (show targetOk x=decide (x.target.length≤200) by rw [targetOk,if_pos h3,Qt hl1];rfl)
  obtain ⟨p1,p2,p3,p4⟩:=Xdr h1
  clear h3 h1
  go_enter Tryz.func132,Tryz.ntmps132
  go_wp2
  go_ret
  exact ⟨Xay (by rw [Ht.out,decide_eq_decide];omega),(Qb _ _).alloc (Qn _) _⟩
 have f3:((x.kind:Int)==3)=false:=by simpa using h3
 by_cases h5:x.kind=5
 ·have f5:((x.kind:Int)==5)=true:=by simpa using h5
  have Ht:=Qh (show targetOk x=dateOk x.target by rw [targetOk,if_neg h3,if_pos h5])
  clear h3 h5
  go_enter Tryz.func132,Tryz.ntmps132
  go_wp2_with fail
  refine (Xo9 I hI x.target hx _ (hw.alloc _)).mono ?_
  rintro e w1 ⟨rfl,hb1⟩
  go_wp2
  go_ret
  exact ⟨Xay Ht.out.symm,((Qb _ _).alloc (Qn _) _).trans (hb1.mono (by simp))⟩
 have f5:((x.kind:Int)==5)=false:=by simpa using h5
 have Ht:=Qh (show targetOk x=x.target.isEmpty by rw [targetOk,if_neg h3,if_neg h5])
 clear h3 h5
 go_enter Tryz.func132,Tryz.ntmps132
 go_wp2
 go_ret
 exact ⟨Xay (by rw [Ht.out]),(Qb _ _).alloc (Qn _) _⟩
end Go.Proofs.YtmdfjnhfhidmhaaGreatDoor
namespace Go.Proofs
open Go.Shelf
def Tryz.lays169_ren:Go.Shelf.Ren:=⟨fun|169=>156|n=>n,fun|70=>201|9=>9|0=>0|72=>203|37=>93|127=>233|3=>3|5=>5|n=>n,fun|n=>n⟩
theorem Tryz.lays169:Go.Proofs.Lays.n169 Tryz.prog Tryz.lays169_ren:= {
 mixed:=by kernel_rfl
 f169:=Tryz.func156.trans (congrArg some (by kernel_rfl))
 t0:=Tryz.underlying0
 a0:=Tryz.isAgg0
 z0:=Tryz.sizeOf0
 v0:=Tryz.zeroValue0
 t3:=Tryz.underlying3
 a3:=Tryz.isAgg3
 z3:=Tryz.sizeOf3
 v3:=Tryz.zeroValue3
 t9:=Tryz.underlying9
 a9:=Tryz.isAgg9
 z9:=Tryz.sizeOf9
 v9:=Tryz.zeroValue9
 t37:=Tryz.underlying93
 a37:=Tryz.isAgg93
 z37:=Tryz.sizeOf93
 v37:=Tryz.zeroValue93
 t70:=Tryz.underlying201
 a70:=Tryz.isAgg201
 z70:=Tryz.sizeOf201
 v70:=Tryz.zeroValue201
 t72:=Tryz.underlying203
 a72:=Tryz.isAgg203
 z72:=Tryz.sizeOf203
 v72:=Tryz.zeroValue203
 t127:=Tryz.underlying233
 a127:=Tryz.isAgg233
 z127:=Tryz.sizeOf233
 v127:=Tryz.zeroValue233 }
theorem Tryz.Builder_Extra_169:Builder.Extra Tryz.prog Tryz.lays169_ren:= {
 sizeBuilder:=by kernel_rfl
 liesBuilder:=by kernel_rfl
 t5:=Tryz.underlying5
 a5:=Tryz.isAgg5
 z5:=Tryz.sizeOf5
 v5:=Tryz.zeroValue5
 infoByte:=by kernel_rfl
 cellsByte:=by kernel_rfl
 sizeByte:=by kernel_rfl
 neB5:=by decide }
open Go.RowKit in
theorem Tryz.Builder_String_any (B b:Nat) (l:List UInt8) (w:World) (h:Lib.IsBuilder 203 5 B b (Lib.byteCells l) w) (hBw:B≤w.heap.size):
 Calls Tryz.prog 156 #[.pointer (some ⟨b,0,none⟩)] w fun e w'=>e= .returned (.string ⟨l.toArray⟩)∧Below B w w':=Any.Builder_String_any Tryz.lays169 Tryz.Builder_Extra_169 B b l w h hBw
def Tryz.lays105_ren:Go.Shelf.Ren:=⟨fun|105=>162|212=>208|99=>209|165=>181|166=>152|170=>210|169=>156|263=>246|264=>247|206=>248|240=>200|241=>222|276=>240|277=>252|n=>n,fun|9=>9|3=>3|4=>4|20=>20|0=>0|46=>186|109=>244|5=>5|72=>203|76=>192|51=>58|146=>273|53=>210|148=>275|70=>201|37=>93|75=>191|127=>233|164=>268|80=>205|n=>n,fun|n=>n⟩
theorem Tryz.lays105:Go.Proofs.Lays.n105 Tryz.prog Tryz.lays105_ren:= {
 mixed:=by kernel_rfl
 f99:=Tryz.func209.trans (congrArg some (by kernel_rfl))
 f105:=Tryz.func162.trans (congrArg some (by kernel_rfl))
 f165:=Tryz.func181.trans (congrArg some (by kernel_rfl))
 f166:=Tryz.func152.trans (congrArg some (by kernel_rfl))
 f169:=Tryz.func156.trans (congrArg some (by kernel_rfl))
 f170:=Tryz.func210.trans (congrArg some (by kernel_rfl))
 f206:=Tryz.func248.trans (congrArg some (by kernel_rfl))
 f212:=Tryz.func208.trans (congrArg some (by kernel_rfl))
 f240:=Tryz.func200.trans (congrArg some (by kernel_rfl))
 f241:=Tryz.func222.trans (congrArg some (by kernel_rfl))
 f263:=Tryz.func246.trans (congrArg some (by kernel_rfl))
 f264:=Tryz.func247.trans (congrArg some (by kernel_rfl))
 f276:=Tryz.func240.trans (congrArg some (by kernel_rfl))
 f277:=Tryz.func252.trans (congrArg some (by kernel_rfl))
 t0:=Tryz.underlying0
 a0:=Tryz.isAgg0
 z0:=Tryz.sizeOf0
 v0:=Tryz.zeroValue0
 t3:=Tryz.underlying3
 a3:=Tryz.isAgg3
 z3:=Tryz.sizeOf3
 v3:=Tryz.zeroValue3
 t4:=Tryz.underlying4
 a4:=Tryz.isAgg4
 z4:=Tryz.sizeOf4
 v4:=Tryz.zeroValue4
 t5:=Tryz.underlying5
 a5:=Tryz.isAgg5
 z5:=Tryz.sizeOf5
 v5:=Tryz.zeroValue5
 t9:=Tryz.underlying9
 a9:=Tryz.isAgg9
 z9:=Tryz.sizeOf9
 v9:=Tryz.zeroValue9
 t20:=Tryz.underlying20
 a20:=Tryz.isAgg20
 z20:=Tryz.sizeOf20
 v20:=Tryz.zeroValue20
 t37:=Tryz.underlying93
 a37:=Tryz.isAgg93
 z37:=Tryz.sizeOf93
 v37:=Tryz.zeroValue93
 t46:=Tryz.underlying186
 a46:=Tryz.isAgg186
 z46:=Tryz.sizeOf186
 v46:=Tryz.zeroValue186
 t51:=Tryz.underlying58
 a51:=Tryz.isAgg58
 z51:=Tryz.sizeOf58
 v51:=Tryz.zeroValue58
 t53:=Tryz.underlying210
 a53:=Tryz.isAgg210
 z53:=Tryz.sizeOf210
 v53:=Tryz.zeroValue210
 t70:=Tryz.underlying201
 a70:=Tryz.isAgg201
 z70:=Tryz.sizeOf201
 v70:=Tryz.zeroValue201
 t72:=Tryz.underlying203
 a72:=Tryz.isAgg203
 z72:=Tryz.sizeOf203
 v72:=Tryz.zeroValue203
 t75:=Tryz.underlying191
 a75:=Tryz.isAgg191
 z75:=Tryz.sizeOf191
 v75:=Tryz.zeroValue191
 t76:=Tryz.underlying192
 a76:=Tryz.isAgg192
 z76:=Tryz.sizeOf192
 v76:=Tryz.zeroValue192
 t109:=Tryz.underlying244
 a109:=Tryz.isAgg244
 z109:=Tryz.sizeOf244
 v109:=Tryz.zeroValue244
 t127:=Tryz.underlying233
 a127:=Tryz.isAgg233
 z127:=Tryz.sizeOf233
 v127:=Tryz.zeroValue233
 t146:=Tryz.underlying273
 a146:=Tryz.isAgg273
 z146:=Tryz.sizeOf273
 v146:=Tryz.zeroValue273
 t148:=Tryz.underlying275
 a148:=Tryz.isAgg275
 z148:=Tryz.sizeOf275
 v148:=Tryz.zeroValue275
 t164:=Tryz.underlying268
 a164:=Tryz.isAgg268
 z164:=Tryz.sizeOf268
 v164:=Tryz.zeroValue268 }
theorem Tryz.Builder_Extra_105:Builder.Extra Tryz.prog Tryz.lays105_ren:= {
 sizeBuilder:=by kernel_rfl
 liesBuilder:=by kernel_rfl
 t5:=Tryz.underlying5
 a5:=Tryz.isAgg5
 z5:=Tryz.sizeOf5
 v5:=Tryz.zeroValue5
 infoByte:=by kernel_rfl
 cellsByte:=by kernel_rfl
 sizeByte:=by kernel_rfl
 neB5:=by decide }
open Go.RowKit Go.Lib in
theorem Tryz.strings_Repeat (s:ByteArray) (c:Nat) (w:World) (hc:c≤9223372036854775807) (hlen:s.size*c≤140737488355328):
 Calls Tryz.prog 162 #[.string s,.int .i64 c] w fun e w'=>e= .returned (.string ⟨(Lib.repeatL s.data.toList c).toArray⟩)∧Below w.heap.size w w':=Any.strings_Repeat Tryz.lays105 Tryz.Builder_Extra_105 s c w hc hlen
def Tryz.lays166_ren:Go.Shelf.Ren:=⟨fun|166=>152|240=>200|276=>240|n=>n,fun|0=>0|3=>3|4=>4|5=>5|9=>9|20=>20|37=>93|70=>201|72=>203|75=>191|80=>205|164=>268|n=>n,fun|n=>n⟩
theorem Tryz.lays166:Go.Proofs.Lays.n166 Tryz.prog Tryz.lays166_ren:= {
 mixed:=by kernel_rfl
 f166:=Tryz.func152.trans (congrArg some (by kernel_rfl))
 f240:=Tryz.func200.trans (congrArg some (by kernel_rfl))
 f276:=Tryz.func240.trans (congrArg some (by kernel_rfl))
 t0:=Tryz.underlying0
 a0:=Tryz.isAgg0
 z0:=Tryz.sizeOf0
 v0:=Tryz.zeroValue0
 t3:=Tryz.underlying3
 a3:=Tryz.isAgg3
 z3:=Tryz.sizeOf3
 v3:=Tryz.zeroValue3
 t4:=Tryz.underlying4
 a4:=Tryz.isAgg4
 z4:=Tryz.sizeOf4
 v4:=Tryz.zeroValue4
 t9:=Tryz.underlying9
 a9:=Tryz.isAgg9
 z9:=Tryz.sizeOf9
 v9:=Tryz.zeroValue9
 t20:=Tryz.underlying20
 a20:=Tryz.isAgg20
 z20:=Tryz.sizeOf20
 v20:=Tryz.zeroValue20
 t37:=Tryz.underlying93
 a37:=Tryz.isAgg93
 z37:=Tryz.sizeOf93
 v37:=Tryz.zeroValue93
 t70:=Tryz.underlying201
 a70:=Tryz.isAgg201
 z70:=Tryz.sizeOf201
 v70:=Tryz.zeroValue201
 t72:=Tryz.underlying203
 a72:=Tryz.isAgg203
 z72:=Tryz.sizeOf203
 v72:=Tryz.zeroValue203
 t75:=Tryz.underlying191
 a75:=Tryz.isAgg191
 z75:=Tryz.sizeOf191
 v75:=Tryz.zeroValue191
 t164:=Tryz.underlying268
 a164:=Tryz.isAgg268
 z164:=Tryz.sizeOf268
 v164:=Tryz.zeroValue268 }
theorem Tryz.Builder_Extra_166:Builder.Extra Tryz.prog Tryz.lays166_ren:= {
 sizeBuilder:=by kernel_rfl
 liesBuilder:=by kernel_rfl
 t5:=Tryz.underlying5
 a5:=Tryz.isAgg5
 z5:=Tryz.sizeOf5
 v5:=Tryz.zeroValue5
 infoByte:=by kernel_rfl
 cellsByte:=by kernel_rfl
 sizeByte:=by kernel_rfl
 neB5:=by decide }
theorem Tryz.Builder_WriteString (B b:Nat) (bs:List Value) (s:ByteArray) (w:World) (h:Lib.IsBuilder 203 5 B b bs w) (hlen:bs.length+s.size≤140737488355328) (hBw:B≤w.heap.size):
 Calls Tryz.prog 152 #[.pointer (some ⟨b,0,none⟩),.string s] w fun e w'=>e= .returned (.tuple #[.int .i64 s.size,.nilIface])∧(Lib.BuilderAt 203 5 B b (.pointer (some ⟨b,0,none⟩)) (bs++Lib.strCells s) w'∧RowKit.Below B w w'):=Any.Builder_WriteString Tryz.lays166 Tryz.Builder_Extra_166 B b bs s w h hlen hBw
end Go.Proofs
namespace Go.Proofs.YtmdfjnhfhidmhaaGreatDoor
open Go.RowKit Go.Lib
theorem Xe9 (c:UInt8):∀n,repeatL [c] n=List.replicate n c
 |0=>rfl
 |n+1=>by rw [repeatL,Xe9 c n,List.replicate_succ];rfl
theorem Xmx (l:Bytes) (c:Int) (w:World) (h0:0≤c) (hc:c≤9223372036854775807) (hl:l.length*c.toNat≤140737488355328):
 Calls Tryz.prog 162 #[S l,.int .i64 c] w fun e w'=>e= .returned (S (repeatL l c.toNat))∧Below w.heap.size w w':=by
 obtain ⟨c,rfl⟩:=Int.eq_ofNat_of_zero_le h0
 have h:=Tryz.strings_Repeat ⟨l.toArray⟩ c w (by omega) (by rw [ByteArray.size_mk',List.size_toArray];simpa using hl)
 simpa using h
theorem Xi0 (l:List Bytes):Lib.join l []=l.flatten:=by
 unfold Lib.join List.intercalate
 induction l with
 |nil=>rfl
 |cons x l ih=>
  cases l with
  |nil=>rfl
  |cons y l=>rw [List.intersperse_cons_cons,List.flatten_cons,List.flatten_cons,ih,List.flatten_cons];rfl
theorem Xoo (b off cap:Nat) (l:List Bytes) (w:World) (hc:∀(j:Nat) x,l[j]? =some x→w.cell? ⟨b,off+j,none⟩=some (S x)) (hcap:l.length≤cap) (hb:b<w.heap.size) (hn:l.length≤1000000) (hl:l.flatten.length≤140737488355328):
 Calls Tryz.prog 138 #[.slice (some ⟨b,off,none⟩) l.length cap,S []] w fun e w'=>e= .returned (S l.flatten)∧Below w.heap.size w w':=by
 have hx:(l.map fun s=>(⟨s.toArray⟩:ByteArray)).map (·.data.toList)=l:=by
  rw [List.map_map]
  conv=>rhs;rw [←List.map_id l]
  apply List.map_congr_left
  intro b _
  simp
 have hjl:Lib.join ((l.map fun s=>(⟨s.toArray⟩:ByteArray)).map (·.data.toList)) (⟨[].toArray⟩:ByteArray).data.toList=l.flatten:=by rw [hx];exact Xi0 l
 have h:=Tryz.strings_Join b off cap (l.map fun s=>⟨s.toArray⟩) ⟨[].toArray⟩ w (fun j x hx=> ?_) hb (by rw [List.length_map];omega) (by rw [List.length_map];exact hcap) (by rw [hjl];exact hl)
 ·rw [hjl,List.length_map] at h
  exact h
 ·rw [List.getElem?_map] at hx
  cases hlj:l[j]? with
  |none=>rw [hlj] at hx;simp at hx
  |some s=>
   rw [hlj] at hx
   simp at hx
   subst hx
   exact hc j s hlj
def slashAt (s:Bytes):Int:=Lib.lastIndexByte ⟨s.toArray⟩ 47
end Go.Proofs.YtmdfjnhfhidmhaaGreatDoor
namespace Go.Proofs.YtmdfjnhfhidmhaaGreatDoor
open Go.RowKit
def sumStart:List Int:= [bits .xor .u32 1779033703 16842784,3144134277,1013904242,2773480762,1359893119,2600822924,528734635,1541459225]
def hAt (s:Bytes):Nat→List Int
 |0=>sumStart
 |i+1=>compressP (hAt s i) ((s.drop (64*i)).take 64) ((64*i+64:Nat):Int) false
theorem Xgy (s:Bytes):∀i,(hAt s i).length=8
 |0=>rfl
 |_+1=>Xbq ..
def lastAt (s:Bytes):Nat:=(s.length-1) / 64
def sumWords (s:Bytes):List Int:=compressP (hAt s (lastAt s)) (s.drop (64*lastAt s)++List.replicate (64-(s.length-64*lastAt s)) 0) (s.length:Int) true
def tB:Ty Int:=Ty.flat 1 (fun x=> [.int .u8 x]) (fun _=>rfl) (fun _ u h=>by simp at h;subst h;rfl)
def wordBytes (x:Int):List Int:= [x%256,x / 256%256,x / 65536%256,x / 16777216%256]
def outTo (G:List Int) (k:Nat):List Int:=(G.take k).flatMap wordBytes
theorem Xmw (G:List Int) (k:Nat) (hk:k<G.length):outTo G (k+1)=outTo G k++wordBytes (G.getD k 0):=by
 rw [outTo,outTo,List.take_succ_eq_append_getElem hk,List.flatMap_append]
 simp [List.getD,List.getElem?_eq_getElem hk]
theorem Xeg (G:List Int):∀k,(outTo G k).length≤4*k:=by
 intro k
 have:∀L:List Int,(L.flatMap wordBytes).length=4*L.length:=by
  intro L
  induction L with
  |nil=>rfl
  |cons x L ih=>rw [List.flatMap_cons,List.length_append,ih];simp [wordBytes];omega
 rw [outTo,this];simp;omega
theorem Xge (I:IH) (x:Int):LiesL tB I [.int .u8 (x%256),.int .u8 (x / 256%256),.int .u8 (x / 65536%256),.int .u8 (x / 16777216%256)] (wordBytes x):=
 (((LiesL.one (T:=tB) (I:=I) (x:=x%256) (cs:= [.int .u8 (x%256)]) rfl).append (LiesL.one (T:=tB) (x:=x / 256%256) (cs:= [.int .u8 (x / 256%256)]) rfl)).append (LiesL.one (T:=tB) (x:=x / 65536%256) (cs:= [.int .u8 (x / 65536%256)]) rfl)).append (LiesL.one (T:=tB) (x:=x / 16777216%256) (cs:= [.int .u8 (x / 16777216%256)]) rfl)
theorem Xp5 {I:IH} {xs:List Value} {l:List Int} (h:LiesL tB I xs l) (j:Nat) (hj:j<l.length):xs[j]? =some (.int .u8 l[j]):=by
 obtain ⟨cs,h1,h2⟩:=h.2 j hj
 have e:cs= [.int .u8 l[j]]:=h1
 subst e
 have:=h2 0 _ rfl
 rw [show j*tB.size+0=j by show j*1+0=j;omega] at this
 exact this
theorem Xdn:∀(l:List Int) (a:ByteArray),List.foldl (fun r n=>r.push (UInt8.ofNat n.toNat)) a l=⟨a.data++(l.map fun x=>UInt8.ofNat x.toNat).toArray⟩
 | [],a=>by simp
 |x::l,a=>by
  rw [List.foldl_cons,Xdn l]
  apply ByteArray.ext
  simp [ByteArray.push]
theorem Xqu (l:List Int):List.foldl (fun r n=>r.push (UInt8.ofNat n.toNat)) ByteArray.empty l=⟨(l.map fun x=>UInt8.ofNat x.toNat).toArray⟩:=by
 rw [Xdn]
 apply ByteArray.ext
 show (#[]:Array UInt8)++_=_
 simp
theorem Xlz {P:Program} {I:IH} {E src dst e:TypeId} {v:Value} {l:List Int} {B:Nat} (hs:P.underlying src=some (.slice e)) (he:P.underlying e=some (.int .u8)) (hd:P.underlying dst=some .string) (W:World) (h:OwnS tB E I W B v l) (hl:0<l.length):
 (convert src dst v).run P W= .ok (S (l.map fun x=>UInt8.ofNat x.toNat)) W:=by
 obtain ⟨xs,⟨_,hcase⟩,hL⟩:=h
 rcases hcase with ⟨_,h0⟩|⟨g,cap,cur,rfl,_,hg,_,_,_,ht⟩
 ·omega
 ·rw [run_convert_bytes_string _ _ _ e _ _ _ hs he hd,run_bytesToString (ns:=l)]
  ·rw [Xqu]
  ·have hc:=run_loadCells_list (P:=P) W ⟨g,0,none⟩ (l.map fun x=>Value.int .u8 x) (fun j u hu=>by
    have hj:j<l.length:=by simpa using (List.getElem?_eq_some_iff.1 hu).1
    rw [Addr.add_lit,Nat.zero_add,cell_of_row _ _ _ _ _ _ hg]
    have h1:=Xp5 hL j hj
    rw [←ht,List.getElem?_take] at h1
    split at h1
    ·rw [←Array.getElem?_toList,h1];simpa [hj] using hu
    ·cases h1)
   simpa using hc
def sumP (s:Bytes):Bytes:=(outTo (sumWords s) 8).map fun x=>UInt8.ofNat x.toNat
theorem Xhc:(Tryz.prog.info? 5).map (fun i=>(i.zero,i.size,i.bytes))=some (some (.int .u8 0),1,1):=by kernel_rfl
theorem Xrq:∃ZZ:Array Value,ZZ.size=32∧ ∀W,(Instr.makeSlice 93 (.int .i64 0) (.int .i64 32)).run Tryz.prog W= .ok (.slice (some ⟨W.heap.size,0,none⟩) 0 32) (W.alloc (.cells ZZ 5)):=by
 obtain ⟨i,h1,h2,h3,h4⟩:=info_parts Xhc
 refine ⟨madeCells (Value.int .u8 0).cells (32*i.size),by rw [size_madeCells,h3],fun W=> ?_⟩
 exact run_make (P:=Tryz.prog) W 93 5 i _ Tryz.underlying93 h1 h2 .i64 .i64 0 32 (by omega) (by omega) (by rw [h4];omega) (by omega)
theorem Xsh:ElemOk Tryz.prog 93 5 tB 1:=ElemOk.of Tryz.underlying93 Xhc rfl (by decide) rfl
set_option maxRecDepth 100000 in
set_option maxHeartbeats 2000000 in
theorem Xl4 (b off cap:Nat) (l:List Bytes) (s:Bytes) (hl:l.flatten=s) (hs:s.length≤140737488355328) (w:World) (hc:∀(j:Nat) x,l[j]? =some x→w.cell? ⟨b,off+j,none⟩=some (S x)) (hcap:l.length≤cap) (hbl:b<w.heap.size) (hn:l.length≤1000000):
 Calls Tryz.prog 110 #[.slice (some ⟨b,off,none⟩) l.length cap] w fun e w'=>e= .returned (S (sumP s))∧Below w.heap.size w w':=by
 have Hj:=Qh (Xoo b off cap l w hc hcap hbl hn (by rw [hl];exact hs))
 rw [hl] at Hj
 clear hc hl hcap hn hbl
 go_enter Tryz.func110,Tryz.ntmps110
 go_wp2_with fail
 refine Hj.out.mono ?_
 rintro e w0 ⟨rfl,hb0⟩
 clear Hj
 go_wp2_with fail
 refine (Xf4 _).mono ?_
 rintro e w1 ⟨rfl,hb1a⟩
 have hb1:=hb0.trans (hb1a.mono hb0.size)
 clear hb0 hb1a
 rw [show row blkIV= #[.int .u32 1779033703,.int .u32 3144134277,.int .u32 1013904242,.int .u32 2773480762,.int .u32 1359893119,.int .u32 2600822924,.int .u32 528734635,.int .u32 1541459225] from rfl]
 go_wp2_with fail
 obtain ⟨B,hBe⟩:∃B,w1.heap.size=B:=⟨_,rfl⟩
 have hBw:w.heap.size≤B:=by rw [←hBe];exact hb1.size
 have Hst:=Qh (show (w1.alloc (.cells (row sumStart) 206)).heap[B]? =some (.cells (row (hAt s 0)) 206 (0,0)) by rw [←hBe];exact heap_alloc_new _ _)
 have Hbl:=Qh (show Below w.heap.size w (w1.alloc (.cells (row sumStart) 206)) from hb1.alloc hb1.size _)
 rw [hBe]
 clear hb1 hBe
 obtain ⟨L,hL⟩:∃L,lastAt s=L:=⟨_,rfl⟩
 have hL':L=(s.length-1) / 64:=hL.symm
 have HL:=Qh hL;clear hL
 go_loopw [5] (fun s5 wr=> ∃i:Nat,i≤L∧s5= .int .i64 (64*(i:Int))∧Below w.heap.size w wr∧B<wr.heap.size∧wr.heap[B]? =some (.cells (row (hAt s i)) 206 (0,0))) (fun i _=>s.length-(intOf i).toNat)
 case atStart=>exact ⟨0,Nat.zero_le _,rfl,Hbl.out,(by have:=Hst.out;exact (Array.getElem?_eq_some_iff.1 this).1),Hst.out⟩
 case round=>
  clear Hst Hbl
  obtain ⟨i,hi,rfl,hb,hBs,hB⟩:=hrel
  by_cases hlt:i<L
  ·have hlen:64*i+64<s.length:=by omega
   obtain ⟨e0,e1,e2,e3,e4,e5,e6,e7,he⟩:=Xte (Xgy s i)
   have He:=Qh he
   rw [he] at hB
   clear he
   have d0:wr.cell? ⟨B,0,none⟩=some (.int .u32 e0):=(cell_of_row wr B 0 _ _ _ hB).trans rfl
   have d1:wr.cell? ⟨B,1,none⟩=some (.int .u32 e1):=(cell_of_row wr B 1 _ _ _ hB).trans rfl
   have d2:wr.cell? ⟨B,2,none⟩=some (.int .u32 e2):=(cell_of_row wr B 2 _ _ _ hB).trans rfl
   have d3:wr.cell? ⟨B,3,none⟩=some (.int .u32 e3):=(cell_of_row wr B 3 _ _ _ hB).trans rfl
   have d4:wr.cell? ⟨B,4,none⟩=some (.int .u32 e4):=(cell_of_row wr B 4 _ _ _ hB).trans rfl
   have d5:wr.cell? ⟨B,5,none⟩=some (.int .u32 e5):=(cell_of_row wr B 5 _ _ _ hB).trans rfl
   have d6:wr.cell? ⟨B,6,none⟩=some (.int .u32 e6):=(cell_of_row wr B 6 _ _ _ hB).trans rfl
   have d7:wr.cell? ⟨B,7,none⟩=some (.int .u32 e7):=(cell_of_row wr B 7 _ _ _ hB).trans rfl
   have z0:=frozen_of_row wr B 0 _ _ hB
   have z1:=frozen_of_row wr B 1 _ _ hB
   have z2:=frozen_of_row wr B 2 _ _ hB
   have z3:=frozen_of_row wr B 3 _ _ hB
   have z4:=frozen_of_row wr B 4 _ _ hB
   have z5:=frozen_of_row wr B 5 _ _ hB
   have z6:=frozen_of_row wr B 6 _ _ hB
   have z7:=frozen_of_row wr B 7 _ _ hB
   have HB:=Qh hB;clear hB
   go_wp2_with fail
   have hw1:IntKind.i64.wrap (64*(i:Int)+64)=64*(i:Int)+64:=IntWalk.i64_in _ (by omega)
   have hw2:IntKind.u64.wrap (64*(i:Int)+64)=64*(i:Int)+64:=IntWalk.u64_in _ (by omega)
   have hw3:(0:Int)≤64*(i:Int)+64:=by omega
   have hw4:64*(i:Int)+64≤(s.length:Int):=by omega
   have hw5:(0:Int)≤64*(i:Int):=by omega
   have hw6:64*(i:Int)≤64*(i:Int)+64:=by omega
   have hw7:(64*(i:Int)+64).toNat=64*i+64:=by omega
   have hw8:(64*(i:Int)).toNat=64*i:=by omega
   have hw9:64*i+64-64*i=64:=by omega
   have hpl:((s.drop (64*i)).take 64).length=64:=by simp;omega
   obtain ⟨c0,c1,c2,c3,c4,c5,c6,c7,hc⟩:=Xte (Xbq [e0,e1,e2,e3,e4,e5,e6,e7] ((s.drop (64*i)).take 64) (64*(i:Int)+64) false)
   have Hc:=Qh hc
   clear hc
   go_region_law (go_simp;go_at_call 161;refine (Xep [e0,e1,e2,e3,e4,e5,e6,e7] rfl ((s.drop (64*i)).take 64) hpl (64*(i:Int)+64) false _).mono ?_;rintro e w' ⟨rfl,hb'⟩;rw [Hc.out,show row [c0,c1,c2,c3,c4,c5,c6,c7]= #[.int .u32 c0,.int .u32 c1,.int .u32 c2,.int .u32 c3,.int .u32 c4,.int .u32 c5,.int .u32 c6,.int .u32 c7] from rfl];have y0:w'.cell? ⟨B,0,none⟩=some (.int .u32 e0):=(hb'.cell hBs).trans d0;have y1:w'.cell? ⟨B,1,none⟩=some (.int .u32 e1):=(hb'.cell hBs).trans d1;have y2:w'.cell? ⟨B,2,none⟩=some (.int .u32 e2):=(hb'.cell hBs).trans d2;have y3:w'.cell? ⟨B,3,none⟩=some (.int .u32 e3):=(hb'.cell hBs).trans d3;have y4:w'.cell? ⟨B,4,none⟩=some (.int .u32 e4):=(hb'.cell hBs).trans d4;have y5:w'.cell? ⟨B,5,none⟩=some (.int .u32 e5):=(hb'.cell hBs).trans d5;have y6:w'.cell? ⟨B,6,none⟩=some (.int .u32 e6):=(hb'.cell hBs).trans d6;have y7:w'.cell? ⟨B,7,none⟩=some (.int .u32 e7):=(hb'.cell hBs).trans d7;have g0:w'.frozen? ⟨B,0,none⟩=false:=(hb'.frozen hBs).trans z0;have g1:w'.frozen? ⟨B,1,none⟩=false:=(hb'.frozen hBs).trans z1;have g2:w'.frozen? ⟨B,2,none⟩=false:=(hb'.frozen hBs).trans z2;have g3:w'.frozen? ⟨B,3,none⟩=false:=(hb'.frozen hBs).trans z3;have g4:w'.frozen? ⟨B,4,none⟩=false:=(hb'.frozen hBs).trans z4;have g5:w'.frozen? ⟨B,5,none⟩=false:=(hb'.frozen hBs).trans z5;have g6:w'.frozen? ⟨B,6,none⟩=false:=(hb'.frozen hBs).trans z6;have g7:w'.frozen? ⟨B,7,none⟩=false:=(hb'.frozen hBs).trans z7;have Hb':=Qh hb';clear hb')
   have hv0:=(Hb'.out.block B hBs).trans HB.out
   have hv:=heap_setCell (i:=7) c7 (heap_setCell (i:=6) c6 (heap_setCell (i:=5) c5 (heap_setCell (i:=4) c4 (heap_setCell (i:=3) c3 (heap_setCell (i:=2) c2 (heap_setCell (i:=1) c1 (heap_setCell (i:=0) c0 (hv0))))))))
   have hbw:Below w.heap.size w w':=hb.drew.trans (Hb'.out.mono hb.size)
   have hbw':=Below.setCell (Below.setCell (Below.setCell (Below.setCell (Below.setCell (Below.setCell (Below.setCell (Below.setCell (hbw) (p:=⟨B,0,none⟩) hBw (.int .u32 c0)) (p:=⟨B,1,none⟩) hBw (.int .u32 c1)) (p:=⟨B,2,none⟩) hBw (.int .u32 c2)) (p:=⟨B,3,none⟩) hBw (.int .u32 c3)) (p:=⟨B,4,none⟩) hBw (.int .u32 c4)) (p:=⟨B,5,none⟩) hBw (.int .u32 c5)) (p:=⟨B,6,none⟩) hBw (.int .u32 c6)) (p:=⟨B,7,none⟩) hBw (.int .u32 c7)
   have hsz':=Hb'.out.size
   go_wp2
   go_roundw
   case rel=>exact ⟨i+1,by omega,by go_num,hbw',(by simp [World.setCell];simp at hsz';omega),(by rw [hAt,He.out,show ((64*i+64:Nat):Int)=64*(i:Int)+64 by omega,Hc.out];exact hv)⟩
   case measure=>simp [intOf];omega
  ·have hie:i=L:=by omega
   have hle:s.length≤64*i+64:=by omega
   have hge:64*i≤s.length:=by omega
   have hw1:IntKind.i64.wrap (64-((s.length:Int)-64*(i:Int)))=64-((s.length:Int)-64*(i:Int)):=IntWalk.i64_in _ (by omega)
   have hw2:IntKind.i64.wrap ((s.length:Int)-64*(i:Int))=(s.length:Int)-64*(i:Int):=IntWalk.i64_in _ (by omega)
   have hw3:64*(i:Int)≤(s.length:Int):=by omega
   have hw4:(0:Int)≤64*(i:Int):=by omega
   have hw5:(64*(i:Int)).toNat=64*i:=by omega
   obtain ⟨c,hc64⟩:∃c:Nat,(64:Int)-((s.length:Int)-64*(i:Int))=c:=⟨64-(s.length-64*i),by omega⟩
   have hcn:c=64-(s.length-64*i):=by omega
   have HB:=Qh hB;clear hB
   have Hie:=Qh (show lastAt s=i by rw [HL.out,hie])
   have Hcn:=Qh hcn
   have hc1:c≤64:=by omega
   have hrl:(Lib.repeatL [0] (c:Int).toNat).length≤100:=by rw [Lib.repeatL_length];simp;omega
   have hrl2:(Lib.repeatL [0] c).length≤100:=by rw [Lib.repeatL_length];simp;omega
   clear hie hL' hcn hlt hi
   go_wp2_with fail
   refine wp_region_quiet_below (by kernel_rfl) (by kernel_rfl) ?_
   repeat (go_big_quiet_step ((exact Calls.regrown_of (Xmx [0] c _ (by omega) (by omega) (by simp;omega)))))
   refine wpQuiet_nil ?_
   intro w2 hwq
   have hb2:Below (wr).heap.size (wr) w2:=by
    obtain ⟨pq,rfl⟩:=hwq
    exact below_regrown _ _ _
   clear hwq
   obtain ⟨PB,hPB⟩:∃PB,List.take (s.length-64*i) (List.drop (64*i) s)++Lib.repeatL [0] c=PB:=⟨_,rfl⟩
   rw [hPB]
   have HPB:=Qh (show PB=s.drop (64*i)++List.replicate (64-(s.length-64*i)) 0 by rw [←hPB,Xe9,List.take_of_length_le (by simp),Hcn.out])
   have hPl:PB.length=64:=by rw [HPB.out];simp;omega
   clear hPB hrl hrl2
   have hl8:=Xgy s i
   have Hsum:=Qh (show sumWords s=compressP (hAt s i) PB (s.length:Int) true by rw [sumWords,Hie.out,HPB.out])
   have hB2:=(hb2.block B hBs).trans HB.out
   have hsz2:B<w2.heap.size:=by have:=hb2.size;omega
   have hbw2:Below w.heap.size w w2:=hb.trans (hb2.mono hb.size)
   generalize hAt s i=F at hB2 hl8 Hsum
   have hi8:(Tryz.prog.info? 206).map (·.size)=some (row F).size:=by rw [row_size,hl8];kernel_rfl
   have hu64:IntKind.u64.wrap (s.length:Int)=(s.length:Int):=IntWalk.u64_in _ (by omega)
   clear hb2 HB
   go_wp2_with (refine wpList_load_row rfl 206 _ rfl B rfl 206 (row F) (0,0) _ hB2 Tryz.underlying206 rfl hi8 ?_)
   refine (Xep F hl8 PB hPl (s.length:Int) true _).mono ?_
   rintro e w3 ⟨rfl,hb3⟩
   rw [←Hsum.out]
   have hl8':(sumWords s).length=8:=Xbq ..
   obtain ⟨G,hG⟩:∃G,sumWords s=G:=⟨_,rfl⟩
   have HG:=Qh hG
   rw [hG] at hl8' ⊢
   clear hG
   have hB3:=(hb3.block B hsz2).trans hB2
   have hsz3:B<w3.heap.size:=by have:=hb3.size;omega
   have hbw3:Below w.heap.size w w3:=hbw2.trans (hb3.mono hbw2.size)
   have hi8':(Tryz.prog.info? 206).map (·.size)=some (row G).size:=by rw [row_size,hl8'];kernel_rfl
   have hz8:(row F).size=(row G).size:=by rw [row_size,row_size,hl8,hl8']
   have ho8:(row G).all (·.oneCell')=true:=by simp [row,Value.oneCell']
   clear hb3 Hsum
   go_upto_region 10 with (refine wpList_store_row rfl 206 _ _ rfl B (row G) rfl rfl 206 (row F) hB3 hi8' hz8 ho8 ?_)
   have hB4:(w3.setRow B (row G)).heap[B]? =some (.cells (row G) 206 (0,0)):=setRow_heap _ _ _ _ _ _ hB3
   have hbw4:Below w.heap.size w (w3.setRow B (row G)):=below_setRow hbw3 hBw _
   have hsz4:B<(w3.setRow B (row G)).heap.size:=by simpa using hsz3
   generalize w3.setRow B (row G)=w4 at hB4 hbw4 hsz4
   clear hB3 hbw3 hsz3
   obtain ⟨ZZ,hZZ,hmk⟩:=Xrq
   have hB5:(w4.alloc (.cells ZZ 5)).heap[B]? =some (.cells (row G) 206 (0,0)):=(Below.heap_alloc _ _ _ hsz4).trans hB4
   go_wp2_with (refine wpList_load_row rfl 206 _ rfl B rfl 206 (row G) (0,0) _ hB5 Tryz.underlying206 rfl hi8' ?_)
   have hB0:w.heap.size≤w4.heap.size:=hbw4.size
   have Hst:=Qh (show OwnS tB 5 (fun _=>none) (w4.alloc (.cells ZZ 5)) w4.heap.size (.slice (some ⟨w4.heap.size,0,none⟩) 0 32) [] from ⟨[],World.ownsRow_made w4 ZZ 32 (Qn _) (by decide) (by rw [hZZ];rfl),LiesL.nil _ _⟩)
   have Hbl:=Qh (hbw4.alloc hB0 (.cells ZZ 5))
   obtain ⟨B0,hB0e⟩:∃B0,w4.heap.size=B0:=⟨_,rfl⟩
   have hsz5:B0≤(w4.alloc (.cells ZZ 5)).heap.size:=by simp;omega
   rw [hB0e] at hB0 Hst ⊢
   clear hB4 hB5 hbw4 hsz4 hmk
   go_loopw [7,58] (fun s7 s58 wr=> ∃k:Nat,k≤8∧s58= .int .i64 k∧OwnS tB 5 (fun _=>none) wr B0 s7 (outTo G k)∧Below w.heap.size w wr∧B0≤wr.heap.size) (fun _ k _=>8-(intOf k).toNat)
   case atStart=>exact ⟨0,Nat.zero_le _,rfl,Hst.out,Hbl.out,hsz5⟩
   case round=>
    clear Hst Hbl hsz5
    obtain ⟨k,hk,rfl,hown,hbk,hszk⟩:=hrel
    by_cases hltk:k<8
    ·have hix:=Xcj (P:=Tryz.prog) Tryz.underlying206 Tryz.underlying58 rfl (by kernel_rfl) k hltk (Xbr (l:=G) (i:=k) (by omega))
     have Hsc:=Qh (Xmw G k (by omega))
     have hol:=Xeg G k
     generalize G.getD k 0=x at hix Hsc
     have hwl:(wordBytes x).length=4:=rfl
     have hly:=Xge (fun _=>none) x
     go_wp2_with (at_builtin;refine Xgb (w0:=wr) Xsh rfl _ _ rfl _ _ _ rfl hown (wordBytes x) [.int .u8 (x%256),.int .u8 (x / 256%256),.int .u8 (x / 65536%256),.int .u8 (x / 16777216%256)] _ rfl hly (by rw [hwl];omega) (by rw [hwl];omega) (by rw [hwl];omega) hszk ?_)
     intro v5 w5 hown5 hg5
     have hb5:=Below.own hbk hg5 hown hB0 hszk
     have hsz5:=hg5.size
     go_wp2
     go_roundw
     case rel=>exact ⟨k+1,by omega,by go_num,by rw [Hsc.out];exact hown5,hb5,by omega⟩
     case measure=>simp [intOf];omega
    ·have hke:k=8:=by omega
     have Hret:=Qh (show (outTo G k).map (fun x=>UInt8.ofNat x.toNat)=sumP s by rw [sumP,HG.out,hke])
     have hpos:0<(outTo G k).length:=by rw [hke];match G,hl8' with|_::_,_=>simp [outTo,wordBytes]
     have hcv:=Xlz (P:=Tryz.prog) Tryz.underlying93 Tryz.underlying5 Tryz.underlying9 _ hown hpos
     rw [Hret.out] at hcv
     clear hown hpos hke
     go_wp2
     go_ret
     exact ⟨rfl,hbk⟩
end Go.Proofs.YtmdfjnhfhidmhaaGreatDoor
namespace Go.Proofs.YtmdfjnhfhidmhaaGreatDoor
structure Ses where
 num:Int
 date:Int
 prev:Bytes
 ents:List Ent
 stream:Bytes
 sl:Bytes
def headE (e:Ent):Bytes:=netP (nameP e.kind)++netP e.path++attP e.attrs++netP e.target
def xtP (l:List Xt):Bytes:=l.flatMap fun x=>numP x.s++numP x.o++numP x.n
def encE (e:Ent):Bytes:=netP (headE e)++numP e.size++netP e.digest++numP e.exts.length++xtP e.exts
def sesHead (s:Ses):Bytes:=numP s.num++numP s.date++netP s.prev++(numP s.stream.length++netP (sumP s.stream)++numP s.ents.length)
def sesText (s:Ses):Bytes:=sesHead s++s.ents.flatMap encE
def fldErr (s:Ses):Int:=if s.num<1∨255<s.num∨s.date<0∨1000000000<s.date then 2 else if s.prev≠ []∧s.prev.length≠32 then 1 else 0
def entsErr:List Ent→Int
 | []=>0
 |e::l=>if entErr e≠0 then entErr e else entsErr l
def sesErr (s:Ses):Int:=if fldErr s≠0 then fldErr s else if 14680064<s.stream.length∨400<s.ents.length then 6 else if entsErr s.ents≠0 then entsErr s.ents else if 2000<s.sl.length then 6 else 0
def dirDig (s:Ses):Bytes × Int:=if sesErr s≠0 then ([],sesErr s) else (sumP (sesText s),0)
structure Stt where
 tree:List Ent
 holds:List Ho
def askP (s:Stt) (e:Ent) (d:Int):Int:=if 3<e.kind∨(getT s.tree e.path).isSome=true then alwP s.holds e.kind e.path d else 0
def stpP (s:Stt) (e:Ent) (d:Int):Stt × Int:=
 if (applyT s.tree e).2≠0 then (s,(applyT s.tree e).2)
 else if askP s e d≠0 then (s,askP s e d)
 else if (appH s.holds e d).2≠0 then (s,(appH s.holds e d).2)
 else (⟨(applyT s.tree e).1,(appH s.holds e d).1⟩,0)
def nilS:Stt:=⟨[],[]⟩
def runS (s:Stt) (d:Int) (l:List Ent):Stt:=l.foldl (fun s e=>(stpP s e d).1) s
def aftS (s:Stt) (l:List Ses):Stt:=l.foldl (fun s x=>runS s x.date x.ents) s
structure SOk (n:Nat) (s:Stt):Prop where
 tree:OkT s.tree
 holds:HOk s.holds
 tlen:s.tree.length≤n
 hlen:s.holds.length≤n
theorem Xsk:SOk 0 nilS:=⟨(Xt1 []).1 rfl,Xou,Qn _,Qn _⟩
theorem SOk.mono {n m:Nat} {s:Stt} (h:SOk n s) (hm:n≤m):SOk m s:=⟨h.tree,h.holds,Nat.le_trans h.tlen hm,Nat.le_trans h.hlen hm⟩
theorem Xde {t:List Ent} {e:Ent} (h:(applyT t e).2=0):applyT t e=((applyT t e).1,0):=Prod.ext rfl h
theorem Xqa {n:Nat} {s:Stt} (h:SOk n s) (e:Ent) (d:Int):SOk (n+1) (stpP s e d).1:=by
 unfold stpP
 split
 ·exact h.mono (by omega)
 ·rename_i h1
  split
  ·exact h.mono (by omega)
  ·split
   ·exact h.mono (by omega)
   ·have ha:=Xde (t:=s.tree) (e:=e) (by omega)
    obtain ⟨hpre,hx⟩:=applyT_iff.1 ha
    have hl:=Xtd s.tree e
    have hh:appH s.holds e d=((appH s.holds e d).1,(appH s.holds e d).2):=rfl
    refine ⟨Xpu h.tree ha,Xt6 h.holds hpre.ent hh,?_,?_⟩
    ·rw [hx];have:=h.tlen;show (opT s.tree e).length≤_;omega
    ·have:=Xrz hh
     have:=h.hlen
     show (appH s.holds e d).1.length≤_
     omega
def xtIn (l:List Ses) (x:Xt):Bool:=x.s==0 || (decide (x.s≤l.length)&&decide (x.o+x.n≤((l[(x.s-1).toNat]?).map fun s=>(s.stream.length:Int)).getD 0))
def storedP (l:List Ses) (e:Ent):Bool:=e.exts.all (xtIn l)
def entsH (l:List Ses) (d:Int):Stt→List Ent→Stt × Int
 |s,[]=>(s,0)
 |s,e::es=>if (stpP s e d).2≠0 then ((stpP s e d).1,(stpP s e d).2) else if storedP l e=false then ((stpP s e d).1,2) else entsH l d (stpP s e d).1 es
def chkFromH (l:List Ses):Nat→Stt→Bytes→Int→List Ses→Int
 |_,_,_,_,[]=>0
 |i,s,prev,date,x::xs=>
  if (dirDig x).2≠0 then (dirDig x).2
  else if x.num≠i+1∨x.date<date then 14
  else if x.prev≠prev then 20
  else if (entsH (l.take (i+1)) x.date s x.ents).2≠0 then (entsH (l.take (i+1)) x.date s x.ents).2
  else chkFromH l (i+1) (entsH (l.take (i+1)) x.date s x.ents).1 (dirDig x).1 x.date xs
def chkH (l:List Ses):Int:=chkFromH l 0 nilS [] 0 l
structure Ver where
 s:Int
 d:Int
 e:Ent
def verHit (s:Stt) (p:Bytes) (e:Ent):Bool:=(decide (e.kind≤3)&&e.path==p) || (e.kind==4&&(getT s.tree p).isSome&&under p e.path)
def verS (num d:Int) (p:Bytes):Stt→List Ent→List Ver
 |_,[]=> []
 |s,e::es=>(if verHit s p e then [⟨num,d,e⟩] else [])++verS num d p (stpP s e d).1 es
def verFrom (p:Bytes):Stt→List Ses→List Ver
 |_,[]=> []
 |s,x::xs=>verS x.num x.date p s x.ents++verFrom p (runS s x.date x.ents) xs
def verP (l:List Ses) (p:Bytes):List Ver:=verFrom p nilS l
def asOf (d:Int):List Ses→Nat
 | []=>0
 |x::l=>if d<x.date then 0 else asOf d l+1
end Go.Proofs.YtmdfjnhfhidmhaaGreatDoor
namespace Go.Proofs.YtmdfjnhfhidmhaaGreatDoor
structure Ck where
 d:Bytes
 x:Xt
structure Sto where
 cks:List Ck
 ses:Int
 str:Bytes
def findX:List Ck→Bytes→Option Xt
 | [],_=>none
 |c::l,d=>if c.d=d then some c.x else findX l d
def addX (l:List Xt) (x:Xt):List Xt:=
 match l.getLast? with
 |none=> [x]
 |some y=>if x.s≠0∧y.s=x.s∧y.o+y.n=x.o then l.dropLast++ [⟨y.s,y.o,y.n+x.n⟩] else l++ [x]
def newX (S:Sto) (c:Bytes):Xt:=⟨S.ses,(S.str.length:Nat),(c.length:Nat)⟩
def putC (S:Sto) (c:Bytes):Sto × Xt:=
 match findX S.cks (sumP c) with
 |some x=>(S,x)
 |none=>(⟨S.cks++ [⟨sumP c,newX S c⟩],S.ses,S.str++c⟩,newX S c)
def putO (p:Sto × List Xt) (c:Bytes):Sto × List Xt:=((putC p.1 c).1,addX p.2 (putC p.1 c).2)
def putG (p:Sto × List Xt) (g:Sg):Sto × List Xt:=if g.d= [] then (p.1,addX p.2 ⟨0,0,g.n⟩) else (chunksP g.d).foldl putO p
def putP (S:Sto) (c:Bytes):Sto × List Xt × Int:=
 if S.ses<1∨255<S.ses then (S,[],1) else if 65536<c.length then (S,[],6)
 else (((segsP c).foldl putG (S,[])).1,((segsP c).foldl putG (S,[])).2,0)
def beginP (S:Sto) (n:Int):Sto × Int:=if n<1∨255<n then (S,2) else if n≤S.ses then (S,14) else (⟨S.cks,n,[]⟩,0)
def gBad (st:List Bytes) (x:Xt):Bool:=decide (x.n<0) || decide (x.o<0) || decide (x.s<0) || decide ((st.length:Int)<x.s) || (x.s==0&&x.o != 0)
def strAtP (st:List Bytes) (x:Xt):Bytes:=st.getD (x.s-1).toNat []
def getG (st:List Bytes):List Xt→Bytes→Bytes × Int
 | [],out=>(out,0)
 |x::r,out=>
  if gBad st x=true then ([],2)
  else if 0<x.s∧(((strAtP st x).length:Int)<x.o∨((strAtP st x).length:Int)-x.o<x.n) then ([],2)
  else if 65536-(out.length:Int)<x.n then ([],6)
  else getG st r (out++if x.s=0 then List.replicate x.n.toNat 0 else ((strAtP st x).drop x.o.toNat).take x.n.toNat)
def getP (st:List Bytes) (l:List Xt):Bytes × Int:=getG st l []
theorem Xl9 (l:List Xt) (x:Xt):(addX l x).length≤l.length+1∧0<(addX l x).length:=by
 unfold addX
 split
 ·simp
 ·rename_i y hy
  have hl:0<l.length:=by cases l with
   |nil=>simp at hy
   |cons a l=>simp
  split<;>simp<;>omega
end Go.Proofs.YtmdfjnhfhidmhaaGreatDoor
