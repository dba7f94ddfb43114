/- Lemmas; conditions: as each says. -/
import Derived.Test.YtdodihnehppnmaaGreatDoorTO45
import Derived.Test.YtdodihnehppnmaaGreatDoorTO41
set_option linter.all false
namespace Go.Proofs.YtdodihnehppnmaaGreatDoor
open Go.ChangeShapes Go.WideShapes Go.ChangeAt Go.RowKit
set_option maxRecDepth 100000 in
theorem easo_lifted (os:Os) (started:os.Started) (H:Type) (enc:TypeId × Value→H):
 ReturnsInHanded {} Tryz.checked os 6 .any (fun w args=>(Rows.exportAsOfSpec.pre enc Tryz.prog Tryz.f6 Rows.exportAsOfRow.domain false w args∧laidMetH Tryz.prog Rows.exportAsOfRow.laid w)∧sizedMet enc Tryz.prog Tryz.f6 (OpenSpec.ofChange Rows.exportAsOfSpec) false w args)
  (Rows.exportAsOfSpec.post enc Tryz.prog Tryz.f6 false true false false):=by
 refine Xfj (C:=Tryz.checked) (X:=fun w _=>laidMetH Tryz.prog Rows.exportAsOfRow.laid w) (fun _ _ _ hh h=>h.of_heap hh) own started (by kernel_rfl) Tryz.func6
  (ChangeSpec.witness_shaped (enc:=enc) (C:=Tryz.checked) (os:=os) (X:=fun w _=>laidMetH Tryz.prog Rows.exportAsOfRow.laid w) false (World.laidAll Tryz.prog os Rows.exportAsOfRow.laid) #[.slice none 0 0,.int .i64 0,.int .u8 0] 8 (World.laidAll_os _ _ _)
    (World.shaped_of_ZipB (by kernel_rfl) (by kernel_rfl)) (by kernel_rfl) (by kernel_rfl) (by kernel_rfl)
    (by rw [MakeChecks.laidMetH_plain _ _ _ (by kernel_rfl)];exact laidMet_laidAll _ (by kernel_rfl) (by kernel_rfl))) ?_
 intro W base args ds gs before hval0 hW hsh hL
 have hval:∀(j:Nat) t v,Tryz.f6.params[j]? =some t→args[j]? =some v→Value.okWide Tryz.prog W .any base t v:=hval0
 have hW':=hW
 obtain ⟨p,q,hA0,hV,rfl,_,_⟩:=hW
 have hA:DataW.TrodAll enc Tryz.prog W 0 (fun _=>true) true Tryz.f6.params.toList args.toList ds p:=hA0
 rw [Tryz.params6] at hA hval
 obtain ⟨rfl,rfl⟩:=trodVars_none hV
 obtain ⟨v0,v1,v2,d0,d1,d2,p0,p1,p2,rfl,rfl,rfl,h0,h1,h2⟩:=trodAll_three hA
 obtain ⟨l,hl,hlw⟩:=ses_opens.arg Tryz.underlying22 (hval 0 _ v0 rfl rfl) h0
 obtain ⟨n1,rfl,a1,b1⟩:=Xnl Tryz.underlying3 (hval 1 _ v1 rfl rfl)
 obtain ⟨n2,rfl,a2,b2⟩:=Xnl Tryz.underlying5 (hval 2 _ v2 rfl rfl)
 refine (Xit (HeapI W) (Xgj hL hsh) _ l hl hlw n1 ⟨a1,b1⟩ n2 ⟨a2,b2⟩ W (HeapI.ok W)).mono fun e W' ⟨he,hb⟩=> ?_
 subst he
 exact ⟨_,rfl,Xoo laidOut rfl hW' (tb:=4) (by kernel_rfl) Tryz.underlying4 rfl (by kernel_rfl) hb⟩
end Go.Proofs.YtdodihnehppnmaaGreatDoor
