/-
  For every sequence of sessions and every number, the statement HistoryStates returns true, and its arguments read as they did before.
  Conditions: those of the tied card alone (the listed package-level variables hold what the program lays).
-/
import Derived.Test.YtdeknddamidldaaGreatDoorQ38
import Derived.Test.YtdeknddamidldaaGreatDoorQ39
namespace Go.Proofs.YtdeknddamidldaaGreatDoor
open Go.ChangeShapes Go.WideShapes Go.ChangeAt Go.RowKit
set_option maxRecDepth 100000 in
theorem hsta_lifted (os:Os) (started:os.Started) (H:Type) (enc:TypeId × Value→H):
 ReturnsInHanded {} Tryz.checked os 8 .any (fun w args=>(Rows.historyStatesSpec.pre enc Tryz.prog Tryz.f8 Rows.historyStatesRow.domain false w args∧laidMetH Tryz.prog Rows.historyStatesRow.laid w)∧sizedMet enc Tryz.prog Tryz.f8 (OpenSpec.ofChange Rows.historyStatesSpec) false w args)
  (Rows.historyStatesSpec.post enc Tryz.prog Tryz.f8 false true false false):=by
 refine Xbj (C:=Tryz.checked) (X:=fun w _=>laidMetH Tryz.prog Rows.historyStatesRow.laid w) (fun _ _ _ hh h=>h.of_heap hh) own started (by kernel_rfl) Tryz.func8
  (ChangeSpec.witness_shaped (enc:=enc) (C:=Tryz.checked) (os:=os) (X:=fun w _=>laidMetH Tryz.prog Rows.historyStatesRow.laid w) false (World.laidAll Tryz.prog os Rows.historyStatesRow.laid) #[.slice none 0 0,.int .i64 0] 8 (World.laidAll_os _ _ _)
    (World.shaped_of_ZipB (by kernel_rfl) (by kernel_rfl)) (by kernel_rfl) (by kernel_rfl) (by kernel_rfl)
    (by rw [MakeChecks.laidMetH_plain _ _ _ (by kernel_rfl)];exact laidMet_laidAll _ (by kernel_rfl) (by kernel_rfl))) ?_
 intro W base args ds gs before hval0 hW hsh hL
 have hval:∀(j:Nat) t v,Tryz.f8.params[j]? =some t→args[j]? =some v→Value.okWide Tryz.prog W .any base t v:=hval0
 have hW':=hW
 obtain ⟨p,q,hA0,hV,rfl,_,_⟩:=hW
 have hA:DataW.TrodAll enc Tryz.prog W 0 (fun _=>true) true Tryz.f8.params.toList args.toList ds p:=hA0
 rw [Tryz.params8] at hA hval
 obtain ⟨rfl,rfl⟩:=trodVars_none hV
 obtain ⟨v0,v1,d0,d1,p0,p1,rfl,rfl,rfl,h0,h1⟩:=trodAll_two hA
 obtain ⟨l,hl,hlw⟩:=ses_opens.arg Tryz.underlying22 (hval 0 _ v0 rfl rfl) h0
 obtain ⟨n,rfl,_,_⟩:=Xhs Tryz.underlying3 (hval 1 _ v1 rfl rfl)
 refine (Xfs (HeapI W) (Xbr hL hsh) _ l hl hlw n W (HeapI.ok W)).mono fun e W' ⟨he,hb⟩=> ?_
 subst he
 exact ⟨_,rfl,Xdy laidOut rfl hW' (tb:=4) (by kernel_rfl) Tryz.underlying4 rfl (by kernel_rfl) hb⟩
theorem hsta_row:Rows.HistoryStatesSaid:=
 OpenClaim.holds_of_wide 8 Tryz.f8 rfl rfl rfl rfl rfl rfl rfl ⟨rfl,rfl,rfl,rfl,rfl⟩ rfl rfl rfl rfl rfl (by kernel_rfl) Tryz.func8 (by kernel_rfl)
  (of_decide_eq_true (by kernel_rfl)) (by unfold Func.isWrapper;first|(rw [if_pos (by decide +kernel)];kernel_rfl)|(rw [if_neg (by decide +kernel)];exact ⟨rfl,rfl⟩))
  (fun os started H enc _=>hsta_lifted os started H enc)
theorem hsta_card:Rows.HistoryStatesCardSaid:=
 Claim7.holds_tied_plain_at .later [] [.data, .data, .data, .data, .sentinel, .sentinel, .pinned] true (true, "7128d7c5000cfc4856fc03dc2484d6669bf01373c634aee94a45a59cca23e521") true hsta_row (fun _ h => by cases h) (by kernel_rfl) (fun _ h => by cases h) historyStates_row_tie rfl ⟨rfl, rfl⟩ (by kernel_rfl) rfl
  (fun f fn hf hfn=>by
    obtain rfl : f = 8 := Option.some.inj ((show Tryz.prog.funcNamed "stele/stelelaw41.HistoryStates" = some 8 by kernel_rfl).symm.trans hf) |>.symm
    obtain rfl:fn=Tryz.f8:=(Option.some.inj (Tryz.func8.symm.trans hfn)).symm
    exact ⟨by kernel_rfl,fun j t ht=>by
     rw [Tryz.params8] at ht
     have hm:t∈ [22,3]:=by simpa using Array.mem_of_getElem? ht
     have hall:(List.all [22,3] fun u=> !Tryz.prog.wantsStandIn u)=true:=by kernel_rfl
     exact (show Tryz.prog.wantsStandIn t=false by simpa using List.all_eq_true.1 hall t hm)⟩)
  (by kernel_rfl)
#print axioms hsta_card
end Go.Proofs.YtdeknddamidldaaGreatDoor
