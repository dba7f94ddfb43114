/-
  For every input the statement SessionHolds returns true, and its arguments read as they did before.
  Conditions: those of the tied card alone (the listed package-level variables hold what the program lays).
-/
import Derived.Test.YtjdednajelommaaGreatDoorQ53
set_option linter.unusedSimpArgs false
set_option linter.unusedVariables false
namespace Go.Proofs.YtjdednajelommaaGreatDoor
open Go.ChangeShapes Go.WideShapes Go.ChangeAt Go.RowKit
set_option maxRecDepth 100000 in
theorem shld_lifted (os:Os) (started:os.Started) (H:Type) (enc:TypeId × Value→H):
 ReturnsInHanded {} Tryz.checked os 9 .any (fun w args=>(Rows.sessionHoldsSpec.pre enc Tryz.prog Tryz.f9 Rows.sessionHoldsRow.domain false w args∧laidMetH Tryz.prog Rows.sessionHoldsRow.laid w)∧sizedMet enc Tryz.prog Tryz.f9 (OpenSpec.ofChange Rows.sessionHoldsSpec) false w args)
  (Rows.sessionHoldsSpec.post enc Tryz.prog Tryz.f9 false true false false):=by
 refine Xfg (C:=Tryz.checked) (X:=fun w _=>laidMetH Tryz.prog Rows.sessionHoldsRow.laid w) (fun _ _ _ hh h=>h.of_heap hh) own started (by kernel_rfl) Tryz.func9
  (ChangeSpec.witness_shaped (enc:=enc) (C:=Tryz.checked) (os:=os) (X:=fun w _=>laidMetH Tryz.prog Rows.sessionHoldsRow.laid w) false (World.laidAll Tryz.prog os Rows.sessionHoldsRow.laid) #[.slice none 0 0,.int .u8 0,.int .u8 0] 8 (World.laidAll_os _ _ _)
    (World.shaped_of_ZipB (by kernel_rfl) (by kernel_rfl)) (by kernel_rfl) (by kernel_rfl) (by kernel_rfl)
    (by rw [MakeChecks.laidMetH_plain _ _ _ (by kernel_rfl)];exact laidMet_laidAll _ (by kernel_rfl) (by kernel_rfl))) ?_
 intro W base args ds gs before hval0 hW hsh hL
 have hval:∀(j:Nat) t v,Tryz.f9.params[j]? =some t→args[j]? =some v→Value.okWide Tryz.prog W .any base t v:=hval0
 have hW':=hW
 obtain ⟨p,q,hA0,hV,rfl,_,_⟩:=hW
 have hA:DataW.TrodAll enc Tryz.prog W 0 (fun _=>true) true Tryz.f9.params.toList args.toList ds p:=hA0
 rw [Tryz.params9] at hA hval
 obtain ⟨rfl,rfl⟩:=trodVars_none hV
 obtain ⟨v0,v1,v2,d0,d1,d2,p0,p1,p2,rfl,rfl,rfl,h0,h1,h2⟩:=trodAll_three hA
 obtain ⟨l,hl,hlw⟩:=bat_opens.arg Tryz.underlying22 (hval 0 _ v0 rfl rfl) h0
 obtain ⟨n,rfl,n0,n1⟩:=Xm5 Tryz.underlying5 (hval 1 _ v1 rfl rfl)
 obtain ⟨m,rfl,m0,m1⟩:=Xm5 Tryz.underlying5 (hval 2 _ v2 rfl rfl)
 have k0:IntKind.u8.min=0:=rfl
 have k1:IntKind.u8.max=255:=rfl
 obtain ⟨a,rfl⟩:=Int.eq_ofNat_of_zero_le (show 0≤n by omega)
 obtain ⟨dy,rfl⟩:=Int.eq_ofNat_of_zero_le (show 0≤m by omega)
 refine (law_SessionHolds (HeapI W) (Xd3 hL hsh) _ l hl hlw a (by omega) dy (by omega) W (HeapI.ok W)).mono fun e W' ⟨he,hb⟩=> ?_
 subst he
 exact ⟨_,rfl,Xje Xm2 rfl hW' (tb:=4) (by kernel_rfl) Tryz.underlying4 rfl (by kernel_rfl) hb⟩
end Go.Proofs.YtjdednajelommaaGreatDoor
