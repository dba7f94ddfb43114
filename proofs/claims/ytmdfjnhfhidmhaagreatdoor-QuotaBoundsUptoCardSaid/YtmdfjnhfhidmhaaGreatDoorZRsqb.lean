/-
  For every input within the bound of the second form the statement QuotaBounds returns true, and its arguments read as they did before.
  Conditions: those of the tied card alone (the listed package-level variables hold what the program lays).
-/
import Derived.Test.YtmdfjnhfhidmhaaGreatDoorK45
set_option linter.all false
namespace Go.Proofs.YtmdfjnhfhidmhaaGreatDoor
open Go.ChangeShapes Go.WideShapes Go.ChangeAt Go.RowKit
set_option maxRecDepth 100000 in
theorem Xmt (os:Os) {H:Type} (enc:TypeId × Value→H):∃places,DataW.whole enc Tryz.prog ((World.laidAll Tryz.prog os Rows.quotaBoundsUptoRow.laid).forCall (fun _ _=>0) ⟨#[],#[.slice none 0 0,.slice none 0 0,.int .i64 0],[]⟩).memory Tryz.f10.params.toList Rows.quotaBoundsSpec.vars false (Array.toList #[.slice none 0 0,.slice none 0 0,.int .i64 0]) 8=some ([.nil,.nil,.lit (.int .i64 0)],[],places):=⟨[],by kernel_rfl⟩
set_option maxRecDepth 100000 in
theorem qbnd_lifted (os:Os) (started:os.Started) (H:Type) (enc:TypeId × Value→H) (F:Stop.Interp):
 ReturnsInHanded {} Tryz.checked os 10 .any ((Rows.OpenSpec.upto Rows.quotaBoundsSpec).preRow enc Tryz.prog Tryz.f10 Rows.quotaBoundsUptoRow.domain false Rows.quotaBoundsUptoRow.laid) (((Rows.OpenSpec.upto Rows.quotaBoundsSpec).at F).post enc Tryz.prog Tryz.f10 false true false false):=by
 obtain ⟨places,hx⟩:=Xmt os enc
 refine returnsInHanded_of_row (C:=Tryz.checked) (s:=Rows.OpenSpec.upto Rows.quotaBoundsSpec) own started (by kernel_rfl) Tryz.func10
  (Xed (enc:=enc) (C:=Tryz.checked) false (World.laidAll Tryz.prog os Rows.quotaBoundsUptoRow.laid) #[.slice none 0 0,.slice none 0 0,.int .i64 0] (World.laidAll_os _ _ _)
    (World.shaped_of_ZipB (by kernel_rfl) (by kernel_rfl)) (by kernel_rfl)
    (OpenSpec.preRow_of_cond 8 hx (by kernel_rfl) (fun k hk=>by cases hk;kernel_rfl) (by kernel_rfl)
      (by rw [MakeChecks.laidMetH_plain _ _ _ (by kernel_rfl)];exact laidMet_laidAll _ (by kernel_rfl) (by kernel_rfl)))) ?_
 intro W base args ds gs before hval0 hW _ hcond _ hL hsh _
 have hk:=hcond _ rfl
 have hval:∀(j:Nat) t v,Tryz.f10.params[j]? =some t→args[j]? =some v→Value.okWide Tryz.prog W .any base t v:=hval0
 have hW':=hW
 obtain ⟨p,q,hA0,hV,rfl,_,_⟩:=hW
 have hA:DataW.TrodAll enc Tryz.prog W 0 (fun _=>true) true Tryz.f10.params.toList args.toList ds p:=hA0
 rw [Tryz.params10] at hA hval
 obtain ⟨rfl,rfl⟩:=trodVars_none hV
 obtain ⟨v0,v1,v2,d0,d1,d2,p0,p1,p2,rfl,rfl,rfl,h0,h1,h2⟩:=trodAll_three hA
 obtain ⟨l,hl,hlw,hln⟩:=acc_opensN.arg Tryz.underlying22 (hval 0 _ v0 rfl rfl) h0 (Xl5 hk (by simp))
 obtain ⟨rs,hrs,hrw,hrn⟩:=rq_opensN.arg Tryz.underlying36 (hval 1 _ v1 rfl rfl) h1 (Xl5 hk (by simp))
 obtain ⟨n2,rfl,_,_⟩:=Xos Tryz.underlying3 (hval 2 _ v2 rfl rfl)
 refine (Xfk (HeapI W) (Xej hL hsh) _ l hl (fun a ha=>(hlw a ha).toIn) (fun a ha=>Nat.le_trans (hlw a ha).own2 (by decide)) _ rs hrs (fun r hr=>⟨(hrw r hr).c.k0,(hrw r hr).c.k1⟩) (Xk0 hrw hrn) n2 W (HeapI.ok W)).mono fun e W' ⟨he,hb⟩=> ?_
 subst he
 exact ⟨_,rfl,Xla Xor rfl hW' (tb:=4) (by kernel_rfl) Tryz.underlying4 rfl (by kernel_rfl) hb⟩
end Go.Proofs.YtmdfjnhfhidmhaaGreatDoor
