/-
  Walks and laws that the claim's theorem uses: texts EeC SeC EnK, joined; comments out. Conditions: as each theorem says.
-/
import Derived.Test.YtdodihnehppnmaaGreatDoorCI21
set_option linter.all false
namespace Go.Proofs.YtdodihnehppnmaaGreatDoor
open Go.RowKit

set_option maxRecDepth 100000 in
set_option maxHeartbeats 400000 in
theorem Xmd (I:IH) (v:Value) (l:List At) (hv:RdS tAt I v l) (hl:∀x∈l,x.Wf) (w:World) (hw:Ok I w):
 Calls Tryz.prog 34 #[v] w fun e w'=>e= .returned (.int .i64 (greatA l))∧Below w.heap.size w w':=by
 have hlen:=hv.len_le
 obtain ⟨ao,cap,rfl,hcap,hcm,_⟩:=id hv
 have Hv:=Qh hv;clear hv
 have Hl:=Qh hl;clear hl
 by_cases h30:l.length≤30
 ·have hd:decide (30<l.length)=false:=by simp;omega
  go_enter Tryz.func34,Tryz.ntmps34
  go_wp2_with fail
  go_loopw [3] (fun s3 wr=> ∃k:Nat,k≤l.length∧s3= .int .i64 k∧(l.take k).any bigA=false∧Below w.heap.size w wr) (fun i _=>l.length-(intOf i).toNat)
  case atStart=>exact ⟨0,Nat.zero_le _,rfl,rfl,Qb _ _⟩
  case round=>
   obtain ⟨k,hk,rfl,hr,hb⟩:=hrel
   have Hr:=Qh hr;clear hr
   by_cases hlt:k<l.length
   ·have hwr:Ok I wr:=hw.below (Qn _) hb
    obtain ⟨x,b,off,cap',hlx,hvv,hc0,hc1⟩:=atAt Hv.out hwr k hlt
    cases hvv
    have hxm:x∈l:=by rw [←hlx];exact List.getElem_mem hlt
    obtain ⟨hx1,hx2⟩:=Hl.out x hxm
    have Hxm:=Qh hxm
    have Htk:=Qh (show l.take (k+1)=l.take k++ [x] by rw [List.take_succ_eq_append_getElem hlt,hlx])
    clear hlx hxm
    by_cases h1:x.k.length≤100
    ·have hd1:decide (100<x.k.length)=false:=by simp;omega
     by_cases h2:x.v.length≤100
     ·have hd2:decide (100<x.v.length)=false:=by simp;omega
      go_wp2
      go_roundw
      case rel=>exact ⟨k+1,by omega,by go_num,(by rw [Htk.out,List.any_append,Hr.out];simp [bigA];omega),hb⟩
      case measure=>simp [intOf];omega
     ·have hd2:decide (100<x.v.length)=true:=by simp;omega
      go_wp2
      go_ret
      exact ⟨Xaf (by rw [greatA,if_neg (by omega),if_pos (List.any_eq_true.2 ⟨x,Hxm.out,by simp [bigA];omega⟩)]),hb⟩
    ·have hd1:decide (100<x.k.length)=true:=by simp;omega
     go_wp2
     go_ret
     exact ⟨Xaf (by rw [greatA,if_neg (by omega),if_pos (List.any_eq_true.2 ⟨x,Hxm.out,by simp [bigA];omega⟩)]),hb⟩
   ·go_wp2
    go_ret
    refine ⟨Xaf ?_,hb⟩
    have:=Hr.out
    rw [List.take_of_length_le (by omega)] at this
    rw [greatA,if_neg (by omega),if_neg (by rw [this];simp)]
 ·have hd:decide (30<l.length)=true:=by simp;omega
  go_enter Tryz.func34,Tryz.ntmps34
  go_wp2
  go_ret
  exact ⟨Xaf (by rw [greatA,if_pos (by omega)]),Qb _ _⟩
set_option maxRecDepth 100000 in
set_option maxHeartbeats 400000 in
theorem Xdi (I:IH) (x:Ent) (va vx:Value) (hva:RdS tAt I va x.attrs) (hvx:RdS tXt I vx x.exts) (hwf:x.Wf) (w:World) (hw:Ok I w):
 Calls Tryz.prog 12 #[entV x va vx] w fun e w'=>e= .returned (.int .i64 (grE x))∧Below w.heap.size w w':=by
 obtain ⟨ao,cap,rfl,hcap,hcm,_⟩:=id hvx
 have hlx:=hvx.len_le
 clear hvx
 by_cases h1:300<x.path.length
 case pos=>
  have Hg:=Qh (show grE x=1 by simp [grE,greatE,h1])
  go_enter Tryz.func12,Tryz.ntmps12
  go_wp2
  go_ret
  exact ⟨Xaf Hg.out.symm,(Qb _ _).alloc (Qn _) _⟩
 by_cases h2:300<x.target.length
 case pos=>
  have Hg:=Qh (show grE x=1 by simp [grE,greatE,h2])
  go_enter Tryz.func12,Tryz.ntmps12
  go_wp2
  go_ret
  exact ⟨Xaf Hg.out.symm,(Qb _ _).alloc (Qn _) _⟩
 by_cases h3:100<x.digest.length
 case pos=>
  have Hg:=Qh (show grE x=1 by simp [grE,greatE,h3])
  go_enter Tryz.func12,Tryz.ntmps12
  go_wp2
  go_ret
  exact ⟨Xaf Hg.out.symm,(Qb _ _).alloc (Qn _) _⟩
 by_cases h4:30<x.exts.length
 case pos=>
  have Hg:=Qh (show grE x=1 by simp [grE,greatE,h4])
  go_enter Tryz.func12,Tryz.ntmps12
  go_wp2
  go_ret
  exact ⟨Xaf Hg.out.symm,(Qb _ _).alloc (Qn _) _⟩
 have Hg:=Qh (show grE x=if greatA x.attrs=1 then 1 else 0 by simp [grE,greatE,h1,h2,h3,h4])
 have Hgr:=Qh (fun w hw=>Xmd I va x.attrs hva hwf.attrs w hw)
 clear hva
 rcases Xk4 x.attrs with hg|hg
 ·rw [hg] at Hg Hgr
  clear hg
  go_enter Tryz.func12,Tryz.ntmps12
  go_wp2_with fail
  refine (Hgr.out _ (hw.alloc _)).mono ?_
  rintro e w1 ⟨rfl,hb1⟩
  go_wp2
  go_ret
  exact ⟨Xaf Hg.out.symm,((Qb _ _).alloc (Qn _) _).trans (hb1.mono (by simp))⟩
 ·rw [hg] at Hg Hgr
  clear hg
  go_enter Tryz.func12,Tryz.ntmps12
  go_wp2_with fail
  refine (Hgr.out _ (hw.alloc _)).mono ?_
  rintro e w1 ⟨rfl,hb1⟩
  go_wp2
  go_ret
  exact ⟨Xaf Hg.out.symm,((Qb _ _).alloc (Qn _) _).trans (hb1.mono (by simp))⟩
end Go.Proofs.YtdodihnehppnmaaGreatDoor
