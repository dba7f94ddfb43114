/-
  For every input the statement SessionWrites returns true,and its arguments read as they did before.
  Conditions: those of the tied card alone (the listed package-level variables hold what the program lays).
-/
import Derived.Test.YtegieeommgiknaaGreatDoorW34
set_option maxRecDepth 100000
set_option linter.all false
namespace Go.Proofs.YtegieeommgiknaaGreatDoor
open Go.ChangeShapes Go.WideShapes Go.ChangeAt Go.RowKit
theorem swrt_lifted(os:Os)(started:os.Started)(H:Type)(enc:TypeId×Value→H):
 ReturnsInHanded {} Tryz.checked os 3 .any (fun w args=>(Rows.sessionWritesSpec.pre enc Tryz.prog Tryz.f3 Rows.sessionWritesRow.domain false w args∧laidMetH Tryz.prog Rows.sessionWritesRow.laid w)∧sizedMet enc Tryz.prog Tryz.f3 (OpenSpec.ofChange Rows.sessionWritesSpec) false w args)
  (Rows.sessionWritesSpec.post enc Tryz.prog Tryz.f3 false true false false):=by
 refine Xkm (C:=Tryz.checked) (X:=fun w _=>laidMetH Tryz.prog Rows.sessionWritesRow.laid w) (fun _ _ _ hh h=>h.of_heap hh) own started (by kernel_rfl) Tryz.func3
  (ChangeSpec.witness_shaped (enc:=enc) (C:=Tryz.checked) (os:=os) (X:=fun w _=>laidMetH Tryz.prog Rows.sessionWritesRow.laid w) false (World.laidAll Tryz.prog os Rows.sessionWritesRow.laid) #[.slice none 0 0] 8 (World.laidAll_os _ _ _)
    (World.shaped_of_ZipB (by kernel_rfl) (by kernel_rfl)) (by kernel_rfl) (by kernel_rfl) (by kernel_rfl)
    (by rw[MakeChecks.laidMetH_plain _ _ _ (by kernel_rfl)];exact laidMet_laidAll _ (by kernel_rfl) (by kernel_rfl))) ?_
 intro W base args ds gs before JN hW Jz hL;have xW:∀(j:Nat) t v,Tryz.f3.params[j]?=some t→args[j]?=some v→Value.okWide Tryz.prog W .any base t v:=JN;have QG:=hW;obtain⟨p,q,hA0,hV,rfl,_,_⟩:=hW;have hA:DataW.TrodAll enc Tryz.prog W 0 (fun _=>true) true Tryz.f3.params.toList args.toList ds p:=hA0;rw[Tryz.params3]at hA xW;obtain⟨rfl,rfl⟩:=trodVars_none hV;obtain⟨v0,d0,rfl,rfl,h0⟩:=trodAll_one hA;obtain⟨l,hl,hlw⟩:=vw.arg Tryz.underlying22 (xW 0 _ v0 rfl rfl) h0;refine(Xgo (eF W) (Xg2 hL Jz) _ l hl hlw W (eF.ok W)).mono fun e W' ⟨he,hb⟩=> ?_;subst he;exact⟨_,rfl,Xo5 Xsn rfl QG (tb:=4) (by kernel_rfl) Tryz.underlying4 rfl (by kernel_rfl) hb⟩
