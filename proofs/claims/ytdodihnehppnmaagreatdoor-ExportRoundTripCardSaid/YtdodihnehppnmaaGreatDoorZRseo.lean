/-
  For every input the statement ExportRoundTrip returns true,and its arguments read as they did before.
  Conditions: those of the tied card alone (the listed package-level variables hold what the program lays).
-/
import Derived.Test.YtdodihnehppnmaaGreatDoorG45
import Derived.Test.YtdodihnehppnmaaGreatDoorG46
set_option maxRecDepth 100000
set_option linter.all false
namespace Go.Proofs.YtdodihnehppnmaaGreatDoor
open Go.ChangeShapes Go.WideShapes Go.ChangeAt Go.RowKit
theorem ernd_lifted(os:Os)(started:os.Started)(H:Type)(enc:TypeId×Value→H):
 ReturnsInHanded {} Tryz.checked os 10 .any (fun w args=>(Rows.exportRoundTripSpec.pre enc Tryz.prog Tryz.f10 Rows.exportRoundTripRow.domain false w args∧laidMetH Tryz.prog Rows.exportRoundTripRow.laid w)∧sizedMet enc Tryz.prog Tryz.f10 (OpenSpec.ofChange Rows.exportRoundTripSpec) false w args)
  (Rows.exportRoundTripSpec.post enc Tryz.prog Tryz.f10 false true false false):=by
 refine Xf4 (C:=Tryz.checked) (X:=fun w _=>laidMetH Tryz.prog Rows.exportRoundTripRow.laid w) (fun _ _ _ hh h=>h.of_heap hh) own started (by kernel_rfl) Tryz.func10
  (ChangeSpec.witness_shaped (enc:=enc) (C:=Tryz.checked) (os:=os) (X:=fun w _=>laidMetH Tryz.prog Rows.exportRoundTripRow.laid w) false (World.laidAll Tryz.prog os Rows.exportRoundTripRow.laid) #[.slice none 0 0,.int .i64 0] 8 (World.laidAll_os _ _ _)
    (World.shaped_of_ZipB (by kernel_rfl) (by kernel_rfl)) (by kernel_rfl) (by kernel_rfl) (by kernel_rfl)
    (by rw[MakeChecks.laidMetH_plain _ _ _ (by kernel_rfl)];exact laidMet_laidAll _ (by kernel_rfl) (by kernel_rfl))) ?_
 intro W base args ds gs before Fa hW MK hL;have pV:∀(j:Nat) t v,Tryz.f10.params[j]?=some t→args[j]?=some v→Value.okWide Tryz.prog W .any base t v:=Fa;have Sn:=hW;obtain⟨p,q,ZM,hV,rfl,_,_⟩:=hW;have hA:DataW.TrodAll enc Tryz.prog W 0 (fun _=>true) true Tryz.f10.params.toList args.toList ds p:=ZM;rw[Tryz.params10]at hA pV;obtain⟨rfl,rfl⟩:=trodVars_none hV;obtain⟨v0,v1,d0,d1,p0,p1,rfl,rfl,rfl,h0,h1⟩:=trodAll_two hA;obtain⟨l,hl,ZN⟩:=vV.arg Tryz.underlying22 (pV 0 _ v0 rfl rfl) h0;obtain⟨n1,rfl,a1,b1⟩:=Xyy Tryz.underlying3 (pV 1 _ v1 rfl rfl);refine(Xfd (gQ W) (Xg3 hL MK) _ l hl ZN n1 W (gQ.ok W)).mono fun e W' ⟨he,hb⟩=> ?_;subst he;exact⟨_,rfl,Xpx laidOut rfl Sn (tb:=4) (by kernel_rfl) Tryz.underlying4 rfl (by kernel_rfl) hb⟩
