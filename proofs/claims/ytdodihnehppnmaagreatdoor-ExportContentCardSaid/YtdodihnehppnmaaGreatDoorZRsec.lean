/-
  For every input the statement ExportContent returns true, and its arguments read as they did before.
  Conditions: those of the tied card alone (the listed package-level variables hold what the program lays).
-/
import Derived.Test.YtdodihnehppnmaaGreatDoorCI41
set_option linter.all false
namespace Go.Proofs.YtdodihnehppnmaaGreatDoor
open Go.ChangeShapes Go.WideShapes Go.ChangeAt Go.RowKit
set_option maxRecDepth 100000 in
theorem econ_lifted (os:Os) (started:os.Started) (H:Type) (enc:TypeId × Value→H):
 ReturnsInHanded {} Tryz.checked os 3 .any (fun w args=>(Rows.exportContentSpec.pre enc Tryz.prog Tryz.f3 Rows.exportContentRow.domain false w args∧laidMetH Tryz.prog Rows.exportContentRow.laid w)∧sizedMet enc Tryz.prog Tryz.f3 (OpenSpec.ofChange Rows.exportContentSpec) false w args)
  (Rows.exportContentSpec.post enc Tryz.prog Tryz.f3 false true false false):=by
 refine Xfg (C:=Tryz.checked) (X:=fun w _=>laidMetH Tryz.prog Rows.exportContentRow.laid w) (fun _ _ _ hh h=>h.of_heap hh) own started (by kernel_rfl) Tryz.func3
  (ChangeSpec.witness_shaped (enc:=enc) (C:=Tryz.checked) (os:=os) (X:=fun w _=>laidMetH Tryz.prog Rows.exportContentRow.laid w) false (World.laidAll Tryz.prog os Rows.exportContentRow.laid) #[.slice none 0 0,.agg #[.int .i64 0,S [],.slice none 0 0,S [],.int .i64 0,S [],.slice none 0 0]] 8 (World.laidAll_os _ _ _)
    (World.shaped_of_ZipB (by kernel_rfl) (by kernel_rfl)) (by kernel_rfl) (by kernel_rfl) (by kernel_rfl)
    (by rw [MakeChecks.laidMetH_plain _ _ _ (by kernel_rfl)];exact laidMet_laidAll _ (by kernel_rfl) (by kernel_rfl))) ?_
 intro W base args ds gs before hval0 hW hsh hL
 have hval:∀(j:Nat) t v,Tryz.f3.params[j]? =some t→args[j]? =some v→Value.okWide Tryz.prog W .any base t v:=hval0
 have hW':=hW
 obtain ⟨p,q,hA0,hV,rfl,_,_⟩:=hW
 have hA:DataW.TrodAll enc Tryz.prog W 0 (fun _=>true) true Tryz.f3.params.toList args.toList ds p:=hA0
 rw [Tryz.params3] at hA hval
 obtain ⟨rfl,rfl⟩:=trodVars_none hV
 obtain ⟨v0,v1,d0,d1,p0,p1,rfl,rfl,rfl,h0,h1⟩:=trodAll_two hA
 obtain ⟨l,hl,hlw⟩:=ses_opens.arg Tryz.underlying22 (hval 0 _ v0 rfl rfl) h0
 obtain ⟨x,va,vx,rfl,hva,hvx,hxw⟩:=Xu7 (hval 1 _ v1 rfl rfl) h1
 refine (Xfw (HeapI W) (Xf5 hL hsh) _ l hl hlw x va vx hva hvx hxw W (HeapI.ok W)).mono fun e W' ⟨he,hb⟩=> ?_
 subst he
 exact ⟨_,rfl,Xnq laidOut rfl hW' (tb:=4) (by kernel_rfl) Tryz.underlying4 rfl (by kernel_rfl) hb⟩
end Go.Proofs.YtdodihnehppnmaaGreatDoor
