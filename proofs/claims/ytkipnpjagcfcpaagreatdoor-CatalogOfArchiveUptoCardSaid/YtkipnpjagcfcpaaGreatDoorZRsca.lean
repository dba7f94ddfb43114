/-
  For every input within the bound of the second form the statement CatalogOfArchive returns true, and its arguments read as they did before.
  Conditions: those of the tied card alone (the listed package-level variables hold what the program lays).
-/
import Derived.Test.YtkipnpjagcfcpaaGreatDoorC11
set_option linter.all false
namespace Go.Proofs.YtkipnpjagcfcpaaGreatDoor
open Go.ChangeShapes Go.WideShapes Go.ChangeAt Go.RowKit
set_option maxRecDepth 100000 in
theorem Xo1 (os:Os) {H:Type} (enc:TypeId × Value→H):∃places,DataW.whole enc Tryz.prog ((World.laidAll Tryz.prog os Rows.catalogOfArchiveUptoRow.laid).forCall (fun _ _=>0) ⟨#[],#[.int .u32 0,.slice none 0 0],[]⟩).memory Tryz.f5.params.toList Rows.catalogOfArchiveSpec.vars false (Array.toList #[.int .u32 0,.slice none 0 0]) 8=some ([.lit (.int .u32 0),.nil],[],places):=⟨[],by kernel_rfl⟩
set_option maxRecDepth 100000 in
theorem cofa_lifted (os:Os) (started:os.Started) (H:Type) (enc:TypeId × Value→H) (F:Stop.Interp):
 ReturnsInHanded {} Tryz.checked os 5 .any ((Rows.OpenSpec.upto Rows.catalogOfArchiveSpec).preRow enc Tryz.prog Tryz.f5 Rows.catalogOfArchiveUptoRow.domain false Rows.catalogOfArchiveUptoRow.laid) (((Rows.OpenSpec.upto Rows.catalogOfArchiveSpec).at F).post enc Tryz.prog Tryz.f5 false true false false):=by
 obtain ⟨places,hx⟩:=Xo1 os enc
 refine returnsInHanded_of_row (C:=Tryz.checked) (s:=Rows.OpenSpec.upto Rows.catalogOfArchiveSpec) own started (by kernel_rfl) Tryz.func5
  (Xjy (enc:=enc) (C:=Tryz.checked) false (World.laidAll Tryz.prog os Rows.catalogOfArchiveUptoRow.laid) #[.int .u32 0,.slice none 0 0] (World.laidAll_os _ _ _)
    (World.shaped_of_ZipB (by kernel_rfl) (by kernel_rfl)) (by kernel_rfl)
    (OpenSpec.preRow_of_cond 8 hx (by kernel_rfl) (fun k hk=>by cases hk;kernel_rfl) (by kernel_rfl)
      (by rw [MakeChecks.laidMetH_plain _ _ _ (by kernel_rfl)];exact laidMet_laidAll _ (by kernel_rfl) (by kernel_rfl)))) ?_
 intro W base args ds gs before hval0 hW _ hcond _ hL hsh _
 have hk:=hcond _ rfl
 have hval:∀(j:Nat) t v,Tryz.f5.params[j]? =some t→args[j]? =some v→Value.okWide Tryz.prog W .any base t v:=hval0
 have hW':=hW
 obtain ⟨p,q,hA0,hV,rfl,_,_⟩:=hW
 have hA:DataW.TrodAll enc Tryz.prog W 0 (fun _=>true) true Tryz.f5.params.toList args.toList ds p:=hA0
 rw [Tryz.params5] at hA hval
 obtain ⟨rfl,rfl⟩:=trodVars_none hV
 obtain ⟨v0,v1,d0,d1,p0,p1,rfl,rfl,rfl,h0,h1⟩:=trodAll_two hA
 obtain ⟨n0,rfl,a0,b0⟩:=Xu2 Tryz.underlying41 (hval 0 _ v0 rfl rfl)
 obtain ⟨i,rfl⟩:=Int.eq_ofNat_of_zero_le a0
 obtain ⟨l,hl,hlw,_⟩:=ls_opensN.arg Tryz.underlying42 (hval 1 _ v1 rfl rfl) h1 (Xwo hk (by simp))
 refine (Xd6 (HeapI W) (Xky hL hsh) i (Nat.lt_of_le_of_lt (Int.ofNat_le.1 (show (i:Int)≤((4294967295:Nat):Int) from b0)) (by decide)) _ l hl hlw W (HeapI.ok W)).mono fun e W' ⟨he,hb⟩=> ?_
 subst he
 exact ⟨_,rfl,Xsz laidOut rfl hW' (tb:=4) (by kernel_rfl) Tryz.underlying4 rfl (by kernel_rfl) hb⟩
end Go.Proofs.YtkipnpjagcfcpaaGreatDoor
