/-
  For every input the statement SessionAtomic returns true, and its arguments read as they did before.
  Conditions: those of the tied card alone (the listed package-level variables hold what the program lays).
-/
import Derived.Test.YtjdednajelommaaGreatDoorQ45
import Derived.Test.YtjdednajelommaaGreatDoorQ41
set_option linter.unusedSimpArgs false
set_option linter.unusedVariables false
namespace Go.Proofs.YtjdednajelommaaGreatDoor
open Go.ChangeShapes Go.WideShapes Go.ChangeAt Go.RowKit
set_option maxRecDepth 100000 in
theorem satm_lifted (os:Os) (started:os.Started) (H:Type) (enc:TypeId × Value→H):
 ReturnsInHanded {} Tryz.checked os 6 .any (fun w args=>(Rows.sessionAtomicSpec.pre enc Tryz.prog Tryz.f6 Rows.sessionAtomicRow.domain false w args∧laidMetH Tryz.prog Rows.sessionAtomicRow.laid w)∧sizedMet enc Tryz.prog Tryz.f6 (OpenSpec.ofChange Rows.sessionAtomicSpec) false w args)
  (Rows.sessionAtomicSpec.post enc Tryz.prog Tryz.f6 false true false false):=by
 refine Xk6 (C:=Tryz.checked) (X:=fun w _=>laidMetH Tryz.prog Rows.sessionAtomicRow.laid w) (fun _ _ _ hh h=>h.of_heap hh) own started (by kernel_rfl) Tryz.func6
  (ChangeSpec.witness_shaped (enc:=enc) (C:=Tryz.checked) (os:=os) (X:=fun w _=>laidMetH Tryz.prog Rows.sessionAtomicRow.laid w) false (World.laidAll Tryz.prog os Rows.sessionAtomicRow.laid) #[.slice none 0 0,.int .i64 0,.slice none 0 0] 8 (World.laidAll_os _ _ _)
    (World.shaped_of_ZipB (by kernel_rfl) (by kernel_rfl)) (by kernel_rfl) (by kernel_rfl) (by kernel_rfl)
    (by rw [MakeChecks.laidMetH_plain _ _ _ (by kernel_rfl)];exact laidMet_laidAll _ (by kernel_rfl) (by kernel_rfl))) ?_
 intro W base args ds gs before hval0 hW hsh hL hz
 have hval:∀(j:Nat) t v,Tryz.f6.params[j]? =some t→args[j]? =some v→Value.okWide Tryz.prog W .any base t v:=hval0
 have hW':=hW
 obtain ⟨_,ds2,gs2,bf2,hW2,hall⟩:=hz
 obtain ⟨rfl,rfl,rfl⟩:=hW.unique hW2
 obtain ⟨p,q,hA0,hV,rfl,_,_⟩:=hW
 have hA:DataW.TrodAll enc Tryz.prog W 0 (fun _=>true) true Tryz.f6.params.toList args.toList ds p:=hA0
 rw [Tryz.params6] at hA hval
 obtain ⟨rfl,rfl⟩:=trodVars_none hV
 obtain ⟨v0,v1,v2,d0,d1,d2,p0,p1,p2,rfl,rfl,rfl,h0,h1,h2⟩:=trodAll_three hA
 obtain ⟨l,hl,hlw⟩:=bat_opens.arg Tryz.underlying22 (hval 0 _ v0 rfl rfl) h0
 obtain ⟨n,rfl,_,_⟩:=Xm5 Tryz.underlying3 (hval 1 _ v1 rfl rfl)
 obtain ⟨cs,hc,hcw⟩:=chg_opens.arg Tryz.underlying34 (hval 2 _ v2 rfl rfl) h2
 have hsz:(l.length+1)*32≤140737488355328:=by
  obtain ⟨ao,cap,rfl,_,_,_⟩:=id hl
  have:=Xmf (j:=0) (n:=l.length) Tryz.underlying22 h0 hall (by kernel_rfl) rfl
  have hb32:Tryz.prog.bytesOf 36=32:=by kernel_rfl
  rw [hb32] at this
  have hrb:reachBytes=140737488351232:=by decide
  omega
 refine (Xfw (HeapI W) (Xd3 hL hsh) _ l hl hlw hsz n _ cs hc hcw W (HeapI.ok W)).mono fun e W' ⟨he,hb⟩=> ?_
 subst he
 exact ⟨_,rfl,Xje Xm2 rfl hW' (tb:=4) (by kernel_rfl) Tryz.underlying4 rfl (by kernel_rfl) hb⟩
end Go.Proofs.YtjdednajelommaaGreatDoor
