/-
  For every input the statement ExportEquality returns true,and its arguments read as they did before.
  Conditions: those of the tied card alone (the listed package-level variables hold what the program lays).
-/
import Derived.Test.YtdodihnehppnmaaGreatDoorG43
import Derived.Test.YtdodihnehppnmaaGreatDoorG50
set_option maxRecDepth 100000
set_option linter.all false
namespace Go.Proofs.YtdodihnehppnmaaGreatDoor
open Go.ChangeShapes Go.WideShapes Go.ChangeAt Go.RowKit
theorem eequ_lifted(os:Os)(started:os.Started)(H:Type)(enc:TypeId×Value→H):
 ReturnsInHanded {} Tryz.checked os 9 .any (fun w args=>(Rows.exportEqualitySpec.pre enc Tryz.prog Tryz.f9 Rows.exportEqualityRow.domain false w args∧laidMetH Tryz.prog Rows.exportEqualityRow.laid w)∧sizedMet enc Tryz.prog Tryz.f9 (OpenSpec.ofChange Rows.exportEqualitySpec) false w args)
  (Rows.exportEqualitySpec.post enc Tryz.prog Tryz.f9 false true false false):=by
 refine Xf4 (C:=Tryz.checked) (X:=fun w _=>laidMetH Tryz.prog Rows.exportEqualityRow.laid w) (fun _ _ _ hh h=>h.of_heap hh) own started (by kernel_rfl) Tryz.func9
  (ChangeSpec.witness_shaped (enc:=enc) (C:=Tryz.checked) (os:=os) (X:=fun w _=>laidMetH Tryz.prog Rows.exportEqualityRow.laid w) false (World.laidAll Tryz.prog os Rows.exportEqualityRow.laid) #[.slice none 0 0,.agg #[.int .i64 0,.int .i64 0]] 8 (World.laidAll_os _ _ _)
    (World.shaped_of_ZipB (by kernel_rfl) (by kernel_rfl)) (by kernel_rfl) (by kernel_rfl) (by kernel_rfl)
    (by rw[MakeChecks.laidMetH_plain _ _ _ (by kernel_rfl)];exact laidMet_laidAll _ (by kernel_rfl) (by kernel_rfl))) ?_
 intro W base args ds gs before Fa hW MK hL;have pV:∀(j:Nat) t v,Tryz.f9.params[j]?=some t→args[j]?=some v→Value.okWide Tryz.prog W .any base t v:=Fa;have Sn:=hW;obtain⟨p,q,ZM,hV,rfl,_,_⟩:=hW;have hA:DataW.TrodAll enc Tryz.prog W 0 (fun _=>true) true Tryz.f9.params.toList args.toList ds p:=ZM;rw[Tryz.params9]at hA pV;obtain⟨rfl,rfl⟩:=trodVars_none hV;obtain⟨v0,v1,d0,d1,p0,p1,rfl,rfl,rfl,h0,h1⟩:=trodAll_two hA;obtain⟨l,hl,ZN⟩:=vV.arg Tryz.underlying22 (pV 0 _ v0 rfl rfl) h0;obtain⟨n1,n2,rfl⟩:=Xwt Tryz.underlying57 (by kernel_rfl) Tryz.underlying3 (by kernel_rfl) (pV 1 _ v1 rfl rfl) h1;refine(Xfy (gQ W) (Xg3 hL MK) _ l hl ZN n1 n2 W (gQ.ok W)).mono fun e W' ⟨he,hb⟩=> ?_;subst he;exact⟨_,rfl,Xpx laidOut rfl Sn (tb:=4) (by kernel_rfl) Tryz.underlying4 rfl (by kernel_rfl) hb⟩
