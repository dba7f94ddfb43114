/-
  Walks and laws that the claim's theorem uses: texts EgD EnHx, joined; comments out. Conditions: as each theorem says.
-/
import Derived.Test.YtdodihnehppnmaaGreatDoorCI33
set_option linter.all false
namespace Go.Proofs.YtdodihnehppnmaaGreatDoor
open Go.RowKit
theorem Xu5 {x:Ent} (h:entErr x=0):x.exts.length≤65536:=by
 have hc:=Xfi h
 have hs:xtSum x.exts=x.size:=by
  unfold entErr at h
  split at h
  ·omega
  split at h
  ·contradiction
  split at h
  ·omega
  split at h
  ·contradiction
  split at h
  ·omega
  split at h
  ·omega
  split at h
  ·omega
  split at h
  ·contradiction
  split at h
  ·omega
  ·rename_i q
   exact Classical.byContradiction q
 have key:∀(l:List Xt),(∀y∈l,1≤y.n)→(l.length:Int)≤xtSum l:=by
  intro l
  induction l with
  |nil=>intro _;simp [xtSum]
  |cons y l ih=>
   intro hl
   have h1:=hl y (by simp)
   have h2:=ih fun z hz=>hl z (by simp [hz])
   unfold xtSum at*
   rw [List.map_cons,List.sum_cons,List.length_cons]
   omega
 have:=key x.exts fun y hy=>(hc.xts y hy).2.2.2.2.1
 have:=hc.s1
 omega
set_option maxRecDepth 100000 in
set_option maxHeartbeats 4000000 in
theorem Xmc (I:IH) (v:Value) (t:List Ent) (hv:RdS tEnt I v t) (ht:AllE t) (w:World) (hw:Ok I w):
 Calls Tryz.prog 58 #[v] w fun e w'=>e= .returned (.int .i64 (chkTR t))∧Below w.heap.size w w':=by
 have hlen:=hv.len_le
 obtain ⟨ao,cap,rfl,hcap,hcm,_⟩:=id hv
 have Hv:=Qh hv;clear hv
 have Ht:=Qh ht;clear ht
 have Hdir0:=Qh (fun p w hw=>Xp3 I _ t Hv.out p w hw)
 go_enter Tryz.func58,Tryz.ntmps58
 go_wp2_with fail
 go_loopw [11] (fun s11 wr=> ∃k:Nat,k≤t.length∧s11= .int .i64 k∧chkTRFrom t (if k=0 then none else t[k-1]?) (t.drop k)=chkTR t∧(∀y∈t.take k,pathErr y.path=0)∧Below w.heap.size w wr) (fun i _=>t.length-(intOf i).toNat)
 case atStart=>exact ⟨0,Nat.zero_le _,rfl,rfl,by simp,Qb _ _⟩
 case round=>
  obtain ⟨k,hk,rfl,hr,hok,hb⟩:=hrel
  have Hr:=Qh hr
  have Hok:=Qh hok
  clear hr hok
  have hwr:Ok I wr:=hw.below (Qn _) hb
  by_cases hlt:k<t.length
  case neg=>
   have Hn:=Qh (show chkTR t=0 by rw [←Hr.out,List.drop_of_length_le (by omega)];rfl)
   go_wp2
   go_ret
   exact ⟨Xaf Hn.out.symm,hb⟩
  obtain ⟨x,va,vx,b,off,cap',hlx,hvv,⟨c0,c1,c2,c3,c4,c5,c6⟩,h1,h2⟩:=Xdu Hv.out hwr k hlt
  cases hvv
  have Hst:=Qh (show chkTR t=if entErrR x≠0 then entErrR x else if x.kind≠1∧x.kind≠2∧x.kind≠3 then 10 else if ((if k=0 then none else t[k-1]?).any fun y=> !(ltP (els y.path) (els x.path))) then 14 else if dirErr t (upP x.path)≠0 then dirErr t (upP x.path) else chkTRFrom t (some x) (t.drop (k+1)) by
   rw [←Hr.out,List.drop_eq_getElem_cons hlt,hlx,Xib])
  have Hkx:=Qh (show t[k]? =some x by rw [List.getElem?_eq_getElem hlt,hlx])
  have Hlx:=Qh hlx
  have Hxw:=Qh (Ht.out x (by rw [←hlx];exact List.getElem_mem hlt))
  have Hck:=Qh (fun w hw=>Xg5 I x va vx h1 h2 Hxw.out w hw)
  obtain ⟨aa,ca,rfl,_,_,_⟩:=id h1
  obtain ⟨ax,cx,rfl,_,_,_⟩:=id h2
  clear hlx h1 h2
  go_wp2_with fail
  refine (Hck.out _ (hwr.alloc _)).mono ?_
  rintro e w1 ⟨rfl,hb1⟩
  obtain ⟨d0,d1,d2,d3,d4,d5,d6⟩:=entB rfl hb1
  have hb1':=(hb.alloc hb.size _).trans (hb1.mono (by have:=hb.size;simp;omega))
  have hok1:Ok I w1:=(hwr.alloc _).below (Qn _) hb1
  clear hb1 c0 c1 c2 c3 c4 c5 c6
  by_cases h0:entErrR x=0
  case neg=>
   obtain ⟨q,hq⟩:∃q,entErrR x=q:=⟨_,rfl⟩
   have hn:(q != 0)=true:=by rw [←hq];simpa using h0
   have Hn:=Qh (show chkTR t=q by rw [Hst.out,if_pos h0,hq])
   rw [hq]
   clear hq h0
   go_wp2
   go_ret
   exact ⟨Xaf Hn.out.symm,hb1'⟩
  replace Hst:=Qh (show chkTR t=_ by rw [Hst.out,if_neg (show ¬entErrR x≠0 by omega)])
  have Hpe:=Qh (Xld h0)
  have hxl:x.path.length≤200:=(Xa1 Hpe.out.1).1
  rw [h0]
  clear h0
  by_cases hkk:x.kind≠1∧x.kind≠2∧x.kind≠3
  case pos=>
   have k1:((x.kind:Int) != 1)=true:=by simpa using hkk.1
   have k2:((x.kind:Int) != 2)=true:=by simpa using hkk.2.1
   have k3:((x.kind:Int) != 3)=true:=by simpa using hkk.2.2
   have Hn:=Qh (show chkTR t=10 by rw [Hst.out,if_pos hkk])
   clear hkk
   go_wp2
   go_ret
   exact ⟨Xaf Hn.out.symm,hb1'⟩
  replace Hst:=Qh (show chkTR t=_ by rw [Hst.out,if_neg hkk])
  have Hk3:=Qh (show x.kind=1∨x.kind=2∨x.kind=3 by omega)
  have hxp:x.path≠ []:=by
   rcases Hpe.out.2 with h|h
   ·exact h
   ·have:=Hk3.out;omega
  have Hpar:=Qh (fun I w hw=>Xj5 I x.path w hw)
  have Hpar2:=Qh (Xmh Hpe.out.1 hxp)
  have Hdir:=Qh (fun w hw=>Hdir0.out (upP x.path) w hw)
  clear hkk hxp
  go_upto_region 7 with fail
  go_cut [33] (fun s33 wx=>s33= .bool false∧w1=wx)
  case first=>
   rcases Hk3.out with hk1|hk1|hk1
   ·have k1:((x.kind:Int) != 1)=false:=by rw [hk1];rfl
    clear hk1
    go_wp2_with fail
    go_meet
    exact ⟨rfl,rfl⟩
   ·have k1:((x.kind:Int) != 1)=true:=by rw [hk1];rfl
    have k2:((x.kind:Int) != 2)=false:=by rw [hk1];rfl
    clear hk1
    go_wp2_with fail
    go_meet
    exact ⟨rfl,rfl⟩
   ·have k1:((x.kind:Int) != 1)=true:=by rw [hk1];rfl
    have k2:((x.kind:Int) != 2)=true:=by rw [hk1];rfl
    have k3:((x.kind:Int) != 3)=false:=by rw [hk1];rfl
    clear hk1
    go_wp2_with fail
    go_meet
    exact ⟨rfl,rfl⟩
  case rest=>
   obtain ⟨rfl,hcut⟩:=hcut
   subst hcut
   by_cases hk0:k=0
   ·have hd:decide (0<k)=false:=Qf (by omega)
    have hk1:k<1:=by omega
    replace Hst:=Qh (show chkTR t=if dirErr t (upP x.path)≠0 then dirErr t (upP x.path) else chkTRFrom t (some x) (t.drop (k+1)) by rw [Hst.out,if_pos hk0];rfl)
    clear hk0
    have g0:=cell_regrown d0
    have g1:=cell_regrown d1
    go_wp2_with fail
    refine wp_region_quiet_below (by kernel_rfl) (by kernel_rfl) ?_
    repeat (go_big_quiet_step ((fail)))
    refine wpQuiet_nil ?_
    intro w4 hwq
    have hb4:Below (w1).heap.size (w1) w4:=by
     obtain ⟨pq,rfl⟩:=hwq
     exact below_regrown _ _ _
    clear hwq
    have hb4':=hb1'.trans (hb4.mono hb1'.size)
    have hok4:Ok I w4:=hok1.below (Qn _) hb4
    have d1:=Xaa hb4 d1
    clear hb4 g0 g1
    go_wp2_with fail
    refine (Hpar.out I _ hok4).mono ?_
    rw [Hpar2.out]
    rintro e w5 ⟨rfl,hb5⟩
    have hb5':=hb4'.trans (hb5.mono hb4'.size)
    have hok5:Ok I w5:=Ok.below hok4 (Qn _) hb5
    go_wp2_with fail
    refine (Hdir.out _ hok5).mono ?_
    rintro e w6 ⟨rfl,hb6⟩
    have hb6':=hb5'.trans (hb6.mono hb5'.size)
    by_cases hde:dirErr t (upP x.path)=0
    ·have Hn:=Qh (show chkTRFrom t (if k+1=0 then none else t[k+1-1]?) (t.drop (k+1))=chkTR t by
      rw [Hst.out,if_neg (show ¬dirErr t (upP x.path)≠0 by omega),Nat.add_sub_cancel,Hkx.out];simp)
     rw [hde]
     clear hde
     go_wp2
     go_roundw
     case rel=>exact ⟨k+1,by omega,by go_num,Hn.out,Xgl Hok.out hlt Hlx.out Hpe.out.1,hb6'⟩
     case measure=>simp [intOf];omega
    ·obtain ⟨q,hq⟩:∃q,dirErr t (upP x.path)=q:=⟨_,rfl⟩
     have hn:(q != 0)=true:=by rw [←hq];simpa using hde
     have Hn:=Qh (show chkTR t=q by rw [Hst.out,if_pos hde,hq])
     rw [hq]
     clear hq hde
     go_wp2
     go_ret
     exact ⟨Xaf Hn.out.symm,hb6'⟩
   ·obtain ⟨y,vb,vy,b',off',cap'',hly,hvv,⟨_,e1,_,_,_,_,_⟩,_,_⟩:=Xdu Hv.out hok1 (k-1) (by omega)
    cases hvv
    have hd:decide (0<k)=true:=Qt (by omega)
    have hkp:0<k:=by omega
    have hi:IntKind.i64.wrap ((k:Int)-1)=(k:Int)-1:=IntWalk.i64_in _ (by omega)
    have hj:0≤(k:Int)-1:=by omega
    have hm:((k:Int)-1).toNat=k-1:=by omega
    have hyl:y.path.length≤200:=(Xa1 (Hok.out y (by
     rw [←hly]
     have:(t.take k)[k-1]'(by simp;omega)=t[k-1]:=List.getElem_take
     rw [←this]
     exact List.getElem_mem _))).1
    replace Hst:=Qh (show chkTR t=if !(ltP (els y.path) (els x.path)) then 14 else if dirErr t (upP x.path)≠0 then dirErr t (upP x.path) else chkTRFrom t (some x) (t.drop (k+1)) by
     rw [Hst.out,if_neg hk0,List.getElem?_eq_getElem (by omega),hly];rfl)
    have Hcmp:=Qh (fun w hw=>Xi9 I y.path x.path (by omega) (by omega) w hw)
    clear hly hk0
    have g1:=cell_regrown d1
    have f1:=cell_regrown e1
    cases hl:ltP (els y.path) (els x.path)
    ·have Hn:=Qh (show chkTR t=14 by rw [Hst.out,hl];rfl)
     have hc:=Xjq hl
     rcases hc with hc|hc
     all_goals
      rw [hc] at Hcmp
      clear hc
      go_wp2_with fail
      refine wp_region_quiet_below (by kernel_rfl) (by kernel_rfl) ?_
      repeat (go_big_quiet_step ((with_reducible exact Calls.regrown_of (Hcmp.out _ (hok1.below (Qn _) (below_regrown _ _ _))))))
      refine wpQuiet_nil ?_
      intro w4 hwq
      have hb4:Below (w1).heap.size (w1) w4:=by
       obtain ⟨pq,rfl⟩:=hwq
       exact below_regrown _ _ _
      clear hwq
      go_wp2
      go_ret
      exact ⟨Xaf Hn.out.symm,hb1'.trans (hb4.mono hb1'.size)⟩
    ·replace Hst:=Qh (show chkTR t=if dirErr t (upP x.path)≠0 then dirErr t (upP x.path) else chkTRFrom t (some x) (t.drop (k+1)) by rw [Hst.out,hl];rfl)
     rw [Xjp hl] at Hcmp
     clear hl
     go_wp2_with fail
     refine wp_region_quiet_below (by kernel_rfl) (by kernel_rfl) ?_
     repeat (go_big_quiet_step ((with_reducible exact Calls.regrown_of (Hcmp.out _ (hok1.below (Qn _) (below_regrown _ _ _))))))
     refine wpQuiet_nil ?_
     intro w4 hwq
     have hb4:Below (w1).heap.size (w1) w4:=by
      obtain ⟨pq,rfl⟩:=hwq
      exact below_regrown _ _ _
     clear hwq
     have hb4':=hb1'.trans (hb4.mono hb1'.size)
     have hok4:Ok I w4:=hok1.below (Qn _) hb4
     have d1:=Xaa hb4 d1
     clear hb4 g1 f1
     go_wp2_with fail
     refine (Hpar.out I _ hok4).mono ?_
     rw [Hpar2.out]
     rintro e w5 ⟨rfl,hb5⟩
     have hb5':=hb4'.trans (hb5.mono hb4'.size)
     have hok5:Ok I w5:=Ok.below hok4 (Qn _) hb5
     go_wp2_with fail
     refine (Hdir.out _ hok5).mono ?_
     rintro e w6 ⟨rfl,hb6⟩
     have hb6':=hb5'.trans (hb6.mono hb5'.size)
     by_cases hde:dirErr t (upP x.path)=0
     ·have Hn:=Qh (show chkTRFrom t (if k+1=0 then none else t[k+1-1]?) (t.drop (k+1))=chkTR t by
       rw [Hst.out,if_neg (show ¬dirErr t (upP x.path)≠0 by omega),Nat.add_sub_cancel,Hkx.out];simp)
      rw [hde]
      clear hde
      go_wp2
      go_roundw
      case rel=>exact ⟨k+1,by omega,by go_num,Hn.out,Xgl Hok.out hlt Hlx.out Hpe.out.1,hb6'⟩
      case measure=>simp [intOf];omega
     ·obtain ⟨q,hq⟩:∃q,dirErr t (upP x.path)=q:=⟨_,rfl⟩
      have hn:(q != 0)=true:=by rw [←hq];simpa using hde
      have Hn:=Qh (show chkTR t=q by rw [Hst.out,if_pos hde,hq])
      rw [hq]
      clear hq hde
      go_wp2
      go_ret
      exact ⟨Xaf Hn.out.symm,hb6'⟩
end Go.Proofs.YtdodihnehppnmaaGreatDoor
