/-
  Walks and laws that the claim's theorem uses: texts EgK SeD, joined; comments out. Conditions: as each theorem says.
-/
import Derived.Test.YtdodihnehppnmaaGreatDoorCI23
import Derived.Test.YtdodihnehppnmaaGreatDoorCI18
import Derived.Test.YtdodihnehppnmaaGreatDoorCI27
set_option linter.all false
namespace Go.Proofs.YtdodihnehppnmaaGreatDoor
open Go.RowKit
abbrev smL (b o n cp b2 o2 cp2 k:Nat) (c:Chg) (va vb:Value) (x:Nat × Nat):List (Option Tmp × Value):=
 [(some 20,.slice (some ⟨b,o,none⟩) n cp),(some 21,.int .i64 (k:Int)),(some 22,.pointer (some ⟨b,o+k*5,none⟩)),(some 23,chgV c va),(some 24,.slice (some ⟨b2,o2,none⟩) n cp2),(some 25,.int .i64 (k:Int)),(some 26,.pointer (some ⟨b2,o2+k*5,none⟩)),(some 27,chgV c vb),(some 6,.pointer (some ⟨x.1,0,none⟩)),(some 7,.pointer (some ⟨x.2,0,none⟩)),(none,undef),(none,undef)]
theorem Xci {b o n cp b2 o2 cp2 k:Nat} {c:Chg} {va vb:Value} {x:Nat × Nat}:ApartF (smL b o n cp b2 o2 cp2 k c va vb x):=by
 unfold ApartF
 simp
set_option maxRecDepth 100000 in
set_option maxHeartbeats 4000000 in
theorem Xsn (I:IH) (v1 v2:Value) (l:List Chg) (hv1:RdS tChg I v1 l) (hv2:RdS tChg I v2 l) (w:World) (hw:Ok I w):
 Calls Tryz.prog 21 #[v1,v2] w fun e w'=>e= .returned (.bool true)∧Below w.heap.size w w':=by
 have hlen:=hv1.len_le
 obtain ⟨ao,cap,rfl,hcap,hcm,_⟩:=id hv1
 obtain ⟨ao2,cap2,rfl,hcap2,hcm2,_⟩:=id hv2
 have Hv1:=Qh hv1;clear hv1
 have Hv2:=Qh hv2;clear hv2
 go_enter Tryz.func21,Tryz.ntmps21
 go_wp2_with fail
 go_loopw [5] (fun s5 wr=> ∃k:Nat,k≤l.length∧s5= .int .i64 k∧Below w.heap.size w wr) (fun i _=>l.length-(intOf i).toNat)
 case atStart=>exact ⟨0,Nat.zero_le _,rfl,Qb _ _⟩
 case round=>
  obtain ⟨k,hk,rfl,hb⟩:=hrel
  by_cases hlt:k<l.length
  ·have hwr:Ok I wr:=hw.below (Qn _) hb
   obtain ⟨c,va,b,off,cap',hlx,hvv,⟨c0,c1,c2,c3,c4⟩,h1⟩:=Xv2 Hv1.out hwr k hlt
   cases hvv
   obtain ⟨y,vb,b',off',cap'',hly,hvv,⟨d0,d1,d2,d3,d4⟩,h2⟩:=Xv2 Hv2.out hwr k hlt
   cases hvv
   obtain rfl:c=y:=hlx.symm.trans hly
   have hal:=h1.len_le
   obtain ⟨aa,ca,rfl,_,_,_⟩:=id h1
   obtain ⟨ba,cb,rfl,_,_,_⟩:=id h2
   have HA:=Qh h1
   have HB:=Qh h2
   have hkl:(k:Int)<(l.length:Int):=by omega
   clear hlx hly h1 h2
   go_wp2_with fail
   refine Xad (X:=Nat × Nat) (smL b off l.length cap b' off' cap2 k c (.slice aa c.attrs.length ca) (.slice ba c.attrs.length cb)) (TwB wr 8 9 10 11 65 #[.int .i64 0,.string ⟨#[]⟩,.slice none 0 0,.string ⟨#[]⟩,.string ⟨#[]⟩] #[.int .i64 c.kind,S c.path,.slice aa c.attrs.length ca,S c.target,S c.content] #[.int .i64 c.kind,S c.path,.slice ba c.attrs.length cb,S c.target,S c.content]) (by kernel_rfl) (by kernel_rfl) ?_ ?_ ?_
   ·exact ⟨(0,0),TwB.start _ _⟩
   ·rintro x s' a' w' i hsz hcl ha hC hi
    obtain ⟨hun,oi,hoi,hall⟩:=mem_ready.1 hi
    have ev:=Xb6 Xci ha
    rcases i with _|_|_|_|_|_|_|_|_|_|_|_|i
    rotate_left 12
    ·simp at hoi
    all_goals
     have hoj:=hoi
     simp at hoi
     subst hoi
     simp [Region.binds] at hall
     have c0:=Xaa hC.bel c0
     have c1:=Xaa hC.bel c1
     have c2:=Xaa hC.bel c2
     have c3:=Xaa hC.bel c3
     have c4:=Xaa hC.bel c4
     have d0:=Xaa hC.bel d0
     have d1:=Xaa hC.bel d1
     have d2:=Xaa hC.bel d2
     have d3:=Xaa hC.bel d3
     have d4:=Xaa hC.bel d4
     refine wpOp_step hoj (fun K' hK=> ?_)
     rw [if_pos (by rfl)]
    rotate_left 8
    ·unfold Oper.wp
     simp [go_sem,ev,evF,Oper.upon]
     have ha:=ha.trans (Xdr (L:=smL b off l.length cap b' off' cap2 k c (.slice aa c.attrs.length ca) (.slice ba c.attrs.length cb) x) (M:=smL b off l.length cap b' off' cap2 k c (.slice aa c.attrs.length ca) (.slice ba c.attrs.length cb) (w'.heap.size,x.2)) [8] rfl (fun j hne=>by
      rcases j with _|_|_|_|_|_|_|_|_|_|_|_|j<;>first|rfl|(exact absurd (by decide) hne)|simp) (List.forall_mem_cons.2 ⟨Xbp hun,List.forall_mem_nil _⟩))
     exact hK _ _ ⟨(w'.heap.size,x.2),Xag Xci ha rfl hun,hC.new1 (by decide) (Xa5 4 10 hcl (by kernel_rfl) hun)⟩
    ·unfold Oper.wp
     simp [go_sem,ev,evF,Oper.upon]
     have ha:=ha.trans (Xdr (L:=smL b off l.length cap b' off' cap2 k c (.slice aa c.attrs.length ca) (.slice ba c.attrs.length cb) x) (M:=smL b off l.length cap b' off' cap2 k c (.slice aa c.attrs.length ca) (.slice ba c.attrs.length cb) (x.1,w'.heap.size)) [9] rfl (fun j hne=>by
      rcases j with _|_|_|_|_|_|_|_|_|_|_|_|j<;>first|rfl|(exact absurd (by decide) hne)|simp) (List.forall_mem_cons.2 ⟨Xbp hun,List.forall_mem_nil _⟩))
     exact hK _ _ ⟨(x.1,w'.heap.size),Xag Xci ha rfl hun,hC.new2 (by decide) (Xa5 4 11 hcl (by kernel_rfl) hun)⟩
    ·have hd:s'.getD 8 false=true:=(by first|simpa using hall|simp [hall])
     obtain ⟨_,hrow⟩:=hC.b1 hd
     rw [Xbp hun,if_neg (by simp)] at hrow
     refine Xam 65 _ _ rfl x.1 0 (chgCs c (.slice aa c.attrs.length ca)) (chgV c (.slice aa c.attrs.length ca)) (by simp [Act.eval,ev,evF,hall]) (by simp [Act.eval,ev,evF,hall]) (by rfl) _ _ hrow (by simp) (by kernel_rfl) (by simp [Value.oneCell']) ?_
     exact hK _ _ ⟨x,Xae (d:=none) (v:=undef) Xci ha rfl hun,hC.put1 hun (by decide) hd (by rfl)⟩
    ·have hd:s'.getD 9 false=true:=(by first|simpa using hall|simp [hall])
     obtain ⟨_,hrow⟩:=hC.b2 hd
     rw [Xbp hun,if_neg (by simp)] at hrow
     refine Xam 65 _ _ rfl x.2 0 (chgCs c (.slice ba c.attrs.length cb)) (chgV c (.slice ba c.attrs.length cb)) (by simp [Act.eval,ev,evF,hall]) (by simp [Act.eval,ev,evF,hall]) (by rfl) _ _ hrow (by simp) (by kernel_rfl) (by simp [Value.oneCell']) ?_
     exact hK _ _ ⟨x,Xae (d:=none) (v:=undef) Xci ha rfl hun,hC.put2 hun (by decide) hd (by rfl)⟩
    all_goals
     unfold Oper.wp
     first
     |(simp [go_sem,ev,evF,hall,Oper.upon,c0,c1,c2,c3,c4,d0,d1,d2,d3,d4,hkl];exact hK _ _ ⟨x,Xag Xci ha rfl hun,hC.pure (by decide)⟩)
     |(simp [go_sem,ev,evF,Oper.upon,c0,c1,c2,c3,c4,d0,d1,d2,d3,d4,hkl];exact hK _ _ ⟨x,Xag Xci ha rfl hun,hC.pure (by decide)⟩)
   ·rintro x s' a' wE hup ha hC
    obtain ⟨x1,x2⟩:=x
    obtain ⟨_,r1⟩:=hC.b1 (hup 8 (by decide))
    obtain ⟨_,r2⟩:=hC.b2 (hup 9 (by decide))
    rw [if_pos (hup 10 (by decide))] at r1
    rw [if_pos (hup 11 (by decide))] at r2
    rw [Xao _ _ _ _ (fun i hi=>by rw [Nat.zero_add];exact hup i (by simpa using hi))] at ha
    subst ha
    simp only [fillAll,Act.put,List.setIfInBounds_toArray,List.set_cons_succ,List.set_cons_zero]
    have hb1:=hb.trans (hC.bel.mono hb.size)
    have E1:=Qh (chgB_row r1)
    have E2:=Qh (chgB_row r2)
    clear hC hup c0 c1 c2 c3 c4 d0 d1 d2 d3 d4 r1 r2
    obtain ⟨c0,c1,c2,c3,c4⟩:=E1.out
    obtain ⟨d0,d1,d2,d3,d4⟩:=E2.out
    have q1:(c.kind==c.kind)=true:=beq_self_eq_true _
    go_wp2_with fail
    go_loopw [8] (fun s8 wx=> ∃j:Nat,j≤c.attrs.length∧s8= .int .i64 j∧Below wE.heap.size wE wx) (fun i _=>c.attrs.length-(intOf i).toNat)
    case atStart=>exact ⟨0,Nat.zero_le _,rfl,Qb _ _⟩
    case round=>
     clear c0 c1 c2 c3 c4 d0 d1 d2 d3 d4
     obtain ⟨j,hj,rfl,hbx⟩:=hrel
     have hb2:=hb1.trans (hbx.mono hb1.size)
     obtain ⟨_,_,c2,_,_⟩:=E1.out.thru hbx
     obtain ⟨_,_,d2,_,_⟩:=E2.out.thru hbx
     by_cases hjt:j<c.attrs.length
     ·have hok:Ok I wr:=hw.below (Qn _) hb2
      obtain ⟨p,f,fo,fc,hp,hpv,f0,f1⟩:=atAt HA.out hok j hjt
      cases hpv
      obtain ⟨q,g,go',gc,hq,hqv,g0,g1⟩:=atAt HB.out hok j hjt
      cases hqv
      obtain rfl:p=q:=hp.symm.trans hq
      have hneq:=Xon p p
      rw [Qt (rfl:p=p)] at hneq
      have hjl:(j:Int)<(c.attrs.length:Int):=by omega
      have c2:=cell_regrown c2
      have d2:=cell_regrown d2
      have f0:=cell_regrown f0
      have f1:=cell_regrown f1
      have g0:=cell_regrown g0
      have g1:=cell_regrown g1
      clear hp hq
      go_wp2_with fail
      refine wp_region_quiet_below (by kernel_rfl) (by kernel_rfl) ?_
      repeat (go_big_quiet_step ((fail)))
      refine wpQuiet_nil ?_
      intro w5 hwq
      have hb5:Below (wr).heap.size (wr) w5:=by
       obtain ⟨pq,rfl⟩:=hwq
       exact below_regrown _ _ _
      clear hwq
      go_wp2
      go_roundw
      case rel=>exact ⟨j+1,by omega,by go_num,hbx.trans (hb5.mono hbx.size)⟩
      case measure=>simp [intOf];omega
     ·go_wp2
      go_roundw
      case rel=>exact ⟨k+1,by omega,by go_num,hb2⟩
      case measure=>simp [intOf];omega
  ·go_wp2
   go_ret
   exact ⟨rfl,hb⟩
end Go.Proofs.YtdodihnehppnmaaGreatDoor
