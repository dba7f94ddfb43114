/-
  For every input the statement SessionState returns true,and its arguments read as they did before.
  Conditions: those of the tied card alone (the listed package-level variables hold what the program lays).
-/
import Derived.Test.YtmdfjnhfhidmhaaGreatDoorQ43
import Derived.Test.YtmdfjnhfhidmhaaGreatDoorQ44
set_option maxRecDepth 100000
set_option linter.all false
namespace Go.Proofs.YtmdfjnhfhidmhaaGreatDoor
open Go.ChangeShapes Go.WideShapes Go.ChangeAt Go.RowKit
theorem ssta_lifted(os:Os)(started:os.Started)(H:Type)(enc:TypeId×Value→H):
 ReturnsInHanded {} Tryz.checked os 8 .any (fun w args=>(Rows.sessionStateSpec.pre enc Tryz.prog Tryz.f8 Rows.sessionStateRow.domain false w args∧laidMetH Tryz.prog Rows.sessionStateRow.laid w)∧sizedMet enc Tryz.prog Tryz.f8 (OpenSpec.ofChange Rows.sessionStateSpec) false w args)
  (Rows.sessionStateSpec.post enc Tryz.prog Tryz.f8 false true false false):=by
 refine Xhn (C:=Tryz.checked) (X:=fun w _=>laidMetH Tryz.prog Rows.sessionStateRow.laid w) (fun _ _ _ hh h=>h.of_heap hh) own started (by kernel_rfl) Tryz.func8
  (ChangeSpec.witness_shaped (enc:=enc) (C:=Tryz.checked) (os:=os) (X:=fun w _=>laidMetH Tryz.prog Rows.sessionStateRow.laid w) false (World.laidAll Tryz.prog os Rows.sessionStateRow.laid) #[.slice none 0 0,.int .i64 0] 8 (World.laidAll_os _ _ _)
    (World.shaped_of_ZipB (by kernel_rfl) (by kernel_rfl)) (by kernel_rfl) (by kernel_rfl) (by kernel_rfl)
    (by rw[MakeChecks.laidMetH_plain _ _ _ (by kernel_rfl)];exact laidMet_laidAll _ (by kernel_rfl) (by kernel_rfl))) ?_
 intro W base args ds gs before MZ hW MX hL;have AB:∀(j:Nat) t v,Tryz.f8.params[j]?=some t→args[j]?=some v→Value.okWide Tryz.prog W .any base t v:=MZ;have Vt:=hW;obtain⟨p,q,hA0,hV,rfl,_,_⟩:=hW;have hA:DataW.TrodAll enc Tryz.prog W 0 (fun _=>true) true Tryz.f8.params.toList args.toList ds p:=hA0;rw[Tryz.params8]at hA AB;obtain⟨rfl,rfl⟩:=trodVars_none hV;obtain⟨v0,v1,d0,d1,p0,p1,rfl,rfl,rfl,h0,h1⟩:=trodAll_two hA;obtain⟨l,hl,hlw⟩:=yc.arg Tryz.underlying56 (AB 0 _ v0 rfl rfl) h0;obtain⟨n,rfl,_,_⟩:=Xr9 Tryz.underlying3 (AB 1 _ v1 rfl rfl);refine(Xer (fq W) (Xiw hL MX) _ l hl hlw n W (fq.ok W)).mono fun e W' ⟨he,hb⟩=> ?_;subst he;exact⟨_,rfl,Xpy Xr7 rfl Vt (tb:=4) (by kernel_rfl) Tryz.underlying4 rfl (by kernel_rfl) hb⟩
