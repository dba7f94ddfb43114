/-
  For every input within the bound of the second form the statement QuotaLimit returns true, and its arguments read as they did before.
  Conditions: those of the tied card alone (the listed package-level variables hold what the program lays).
-/
import Derived.Test.YtmdfjnhfhidmhaaGreatDoorL49
set_option linter.all false
namespace Go.Proofs.YtmdfjnhfhidmhaaGreatDoor
open Go.ChangeShapes Go.WideShapes Go.ChangeAt Go.RowKit
theorem str_one {P:Program} {w:World} {r:Reach} {b0:Nat} {t:TypeId} {v:Value} (ht:P.underlying t=some .string) (hv:Value.okWide P w r b0 t v): ∃s:Bytes,v=S s:=by
 obtain ⟨s,rfl⟩:=okWide_string ht hv
 exact ⟨s.data.toList,by simp [S]⟩
set_option maxRecDepth 100000 in
theorem qlim_reads (os:Os) {H:Type} (enc:TypeId × Value→H):∃places,DataW.whole enc Tryz.prog ((World.laidAll Tryz.prog os Rows.quotaLimitUptoRow.laid).forCall (fun _ _=>0) ⟨#[],#[.slice none 0 0,S [],.int .u8 0],[]⟩).memory Tryz.f13.params.toList Rows.quotaLimitSpec.vars false (Array.toList #[.slice none 0 0,S [],.int .u8 0]) 8=some ([.nil,.lit (.string []),.lit (.int .u8 0)],[],places):=⟨[],by kernel_rfl⟩
set_option maxRecDepth 100000 in
theorem qlim_lifted (os:Os) (started:os.Started) (H:Type) (enc:TypeId × Value→H) (F:Stop.Interp):
 ReturnsInHanded {} Tryz.checked os 13 .any ((Rows.OpenSpec.upto Rows.quotaLimitSpec).preRow enc Tryz.prog Tryz.f13 Rows.quotaLimitUptoRow.domain false Rows.quotaLimitUptoRow.laid) (((Rows.OpenSpec.upto Rows.quotaLimitSpec).at F).post enc Tryz.prog Tryz.f13 false true false false):=by
 obtain ⟨places,hx⟩:=qlim_reads os enc
 refine returnsInHanded_of_row (C:=Tryz.checked) (s:=Rows.OpenSpec.upto Rows.quotaLimitSpec) own started (by kernel_rfl) Tryz.func13
  (Xed (enc:=enc) (C:=Tryz.checked) false (World.laidAll Tryz.prog os Rows.quotaLimitUptoRow.laid) #[.slice none 0 0,S [],.int .u8 0] (World.laidAll_os _ _ _)
    (World.shaped_of_ZipB (by kernel_rfl) (by kernel_rfl)) (by kernel_rfl)
    (OpenSpec.preRow_of_cond 8 hx (by kernel_rfl) (fun k hk=>by cases hk;kernel_rfl) (by kernel_rfl)
      (by rw [MakeChecks.laidMetH_plain _ _ _ (by kernel_rfl)];exact laidMet_laidAll _ (by kernel_rfl) (by kernel_rfl)))) ?_
 intro W base args ds gs before hval0 hW _ hcond _ hL hsh _
 have hk:=hcond _ rfl
 have hval:∀(j:Nat) t v,Tryz.f13.params[j]? =some t→args[j]? =some v→Value.okWide Tryz.prog W .any base t v:=hval0
 have hW':=hW
 obtain ⟨p,q,hA0,hV,rfl,_,_⟩:=hW
 have hA:DataW.TrodAll enc Tryz.prog W 0 (fun _=>true) true Tryz.f13.params.toList args.toList ds p:=hA0
 rw [Tryz.params13] at hA hval
 obtain ⟨rfl,rfl⟩:=trodVars_none hV
 obtain ⟨v0,v1,v2,d0,d1,d2,p0,p1,p2,rfl,rfl,rfl,h0,h1,h2⟩:=trodAll_three hA
 obtain ⟨l,hl,hlw,hln⟩:=acc_opensN.arg Tryz.underlying22 (hval 0 _ v0 rfl rfl) h0 (Xl5 hk (by simp))
 obtain ⟨o,rfl⟩:=str_one Tryz.underlying9 (hval 1 _ v1 rfl rfl)
 obtain ⟨n2,rfl,hn0,hn1⟩:=Xos Tryz.underlying5 (hval 2 _ v2 rfl rfl)
 refine (law_QuotaLimit (HeapI W) (Xej hL hsh) _ l hl (fun a ha=>(hlw a ha).toIn) (fun a ha=>Nat.le_trans (hlw a ha).own2 (by decide)) o n2 hn0 hn1 W (HeapI.ok W)).mono fun e W' ⟨he,hb⟩=> ?_
 subst he
 exact ⟨_,rfl,Xla Xor rfl hW' (tb:=4) (by kernel_rfl) Tryz.underlying4 rfl (by kernel_rfl) hb⟩
end Go.Proofs.YtmdfjnhfhidmhaaGreatDoor
