/-
  For every sequence of sessions, every octet and every path, the statement HistoryLastVersion returns true, and its arguments read as they did before.
  Conditions: those of the tied card alone (the listed package-level variables hold what the program lays).
-/
import Derived.Test.YtdeknddamidldaaGreatDoorQ45
import Derived.Test.YtdeknddamidldaaGreatDoorQ39
namespace Go.Proofs.YtdeknddamidldaaGreatDoor
open Go.ChangeShapes Go.WideShapes Go.ChangeAt Go.RowKit
set_option maxRecDepth 100000 in
theorem hlas_lifted (os:Os) (started:os.Started) (H:Type) (enc:TypeId × Value→H):
 ReturnsInHanded {} Tryz.checked os 5 .any (fun w args=>(Rows.historyLastVersionSpec.pre enc Tryz.prog Tryz.f5 Rows.historyLastVersionRow.domain false w args∧laidMetH Tryz.prog Rows.historyLastVersionRow.laid w)∧sizedMet enc Tryz.prog Tryz.f5 (OpenSpec.ofChange Rows.historyLastVersionSpec) false w args)
  (Rows.historyLastVersionSpec.post enc Tryz.prog Tryz.f5 false true false false):=by
 refine Xbj (C:=Tryz.checked) (X:=fun w _=>laidMetH Tryz.prog Rows.historyLastVersionRow.laid w) (fun _ _ _ hh h=>h.of_heap hh) own started (by kernel_rfl) Tryz.func5
  (ChangeSpec.witness_shaped (enc:=enc) (C:=Tryz.checked) (os:=os) (X:=fun w _=>laidMetH Tryz.prog Rows.historyLastVersionRow.laid w) false (World.laidAll Tryz.prog os Rows.historyLastVersionRow.laid) #[.slice none 0 0,.int .u8 0,S []] 8 (World.laidAll_os _ _ _)
    (World.shaped_of_ZipB (by kernel_rfl) (by kernel_rfl)) (by kernel_rfl) (by kernel_rfl) (by kernel_rfl)
    (by rw [MakeChecks.laidMetH_plain _ _ _ (by kernel_rfl)];exact laidMet_laidAll _ (by kernel_rfl) (by kernel_rfl))) ?_
 intro W base args ds gs before hval0 hW hsh hL
 have hval:∀(j:Nat) t v,Tryz.f5.params[j]? =some t→args[j]? =some v→Value.okWide Tryz.prog W .any base t v:=hval0
 have hW':=hW
 obtain ⟨p,q,hA0,hV,rfl,_,_⟩:=hW
 have hA:DataW.TrodAll enc Tryz.prog W 0 (fun _=>true) true Tryz.f5.params.toList args.toList ds p:=hA0
 rw [Tryz.params5] at hA hval
 obtain ⟨rfl,rfl⟩:=trodVars_none hV
 obtain ⟨v0,v1,v2,d0,d1,d2,p0,p1,p2,rfl,rfl,rfl,h0,h1,h2⟩:=trodAll_three hA
 obtain ⟨l,hl,hlw⟩:=ses_opens.arg Tryz.underlying22 (hval 0 _ v0 rfl rfl) h0
 obtain ⟨n,rfl,hn0,hn1⟩:=Xhs Tryz.underlying5 (hval 1 _ v1 rfl rfl)
 obtain ⟨m,rfl⟩:=Int.eq_ofNat_of_zero_le (show 0≤n from hn0)
 obtain ⟨p,rfl⟩:=Xmu Tryz.underlying9 (hval 2 _ v2 rfl rfl)
 refine (Xdd (HeapI W) (Xbr hL hsh) _ l hl hlw m (Int.ofNat_le.1 (show (m:Int)≤((255:Nat):Int) from hn1)) p W (HeapI.ok W)).mono fun e W' ⟨he,hb⟩=> ?_
 subst he
 exact ⟨_,rfl,Xdy laidOut rfl hW' (tb:=4) (by kernel_rfl) Tryz.underlying4 rfl (by kernel_rfl) hb⟩
theorem hlas_row:Rows.HistoryLastVersionSaid:=
 OpenClaim.holds_of_wide 5 Tryz.f5 rfl rfl rfl rfl rfl rfl rfl ⟨rfl,rfl,rfl,rfl,rfl⟩ rfl rfl rfl rfl rfl (by kernel_rfl) Tryz.func5 (by kernel_rfl)
  (of_decide_eq_true (by kernel_rfl)) (by unfold Func.isWrapper;first|(rw [if_pos (by decide +kernel)];kernel_rfl)|(rw [if_neg (by decide +kernel)];exact ⟨rfl,rfl⟩))
  (fun os started H enc _=>hlas_lifted os started H enc)
theorem hlas_card:Rows.HistoryLastVersionCardSaid:=
 Claim7.holds_tied_plain_at .later [] [.data, .data, .data, .data, .sentinel, .sentinel, .pinned] true (true, "7128d7c5000cfc4856fc03dc2484d6669bf01373c634aee94a45a59cca23e521") true hlas_row (fun _ h => by cases h) (by kernel_rfl) (fun _ h => by cases h) historyLastVersion_row_tie rfl ⟨rfl, rfl⟩ (by kernel_rfl) rfl
  (fun f fn hf hfn=>by
    obtain rfl : f = 5 := Option.some.inj ((show Tryz.prog.funcNamed "stele/stelelaw41.HistoryLastVersion" = some 5 by kernel_rfl).symm.trans hf) |>.symm
    obtain rfl:fn=Tryz.f5:=(Option.some.inj (Tryz.func5.symm.trans hfn)).symm
    exact ⟨by kernel_rfl,fun j t ht=>by
     rw [Tryz.params5] at ht
     have hm:t∈ [22,5,9]:=by simpa using Array.mem_of_getElem? ht
     have hall:(List.all [22,5,9] fun u=> !Tryz.prog.wantsStandIn u)=true:=by kernel_rfl
     exact (show Tryz.prog.wantsStandIn t=false by simpa using List.all_eq_true.1 hall t hm)⟩)
  (by kernel_rfl)
#print axioms hlas_card
end Go.Proofs.YtdeknddamidldaaGreatDoor
