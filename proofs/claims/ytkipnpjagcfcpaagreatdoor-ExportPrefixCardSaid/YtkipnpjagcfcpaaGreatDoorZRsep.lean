/-
  For every input the statement ExportPrefix returns true,and its arguments read as they did before.
  Conditions: those of the tied card alone (the listed package-level variables hold what the program lays).
-/
import Derived.Test.YtkipnpjagcfcpaaGreatDoorE19
import Derived.Test.YtkipnpjagcfcpaaGreatDoorE15
set_option maxRecDepth 100000
set_option linter.all false
namespace Go.Proofs.YtkipnpjagcfcpaaGreatDoor
open Go.ChangeShapes Go.WideShapes Go.ChangeAt Go.RowKit
theorem epre_lifted(os:Os)(started:os.Started)(H:Type)(enc:TypeId×Value→H):
 ReturnsInHanded {} Tryz.checked os 4 .any (fun w args=>(Rows.exportPrefixSpec.pre enc Tryz.prog Tryz.f4 Rows.exportPrefixRow.domain false w args∧laidMetH Tryz.prog Rows.exportPrefixRow.laid w)∧sizedMet enc Tryz.prog Tryz.f4 (OpenSpec.ofChange Rows.exportPrefixSpec) false w args)
  (Rows.exportPrefixSpec.post enc Tryz.prog Tryz.f4 false true false false):=by
 refine Xf4 (C:=Tryz.checked) (X:=fun w _=>laidMetH Tryz.prog Rows.exportPrefixRow.laid w) (fun _ _ _ hh h=>h.of_heap hh) own started (by kernel_rfl) Tryz.func4
  (ChangeSpec.witness_shaped (enc:=enc) (C:=Tryz.checked) (os:=os) (X:=fun w _=>laidMetH Tryz.prog Rows.exportPrefixRow.laid w) false (World.laidAll Tryz.prog os Rows.exportPrefixRow.laid) #[.slice none 0 0,.int .u8 0,.int .u64 0] 8 (World.laidAll_os _ _ _)
    (World.shaped_of_ZipB (by kernel_rfl) (by kernel_rfl)) (by kernel_rfl) (by kernel_rfl) (by kernel_rfl)
    (by rw[MakeChecks.laidMetH_plain _ _ _ (by kernel_rfl)];exact laidMet_laidAll _ (by kernel_rfl) (by kernel_rfl))) ?_
 intro W base args ds gs before FL hW Nj hL;have oI:∀(j:Nat) t v,Tryz.f4.params[j]?=some t→args[j]?=some v→Value.okWide Tryz.prog W .any base t v:=FL;have Tf:=hW;obtain⟨p,q,Z4,hV,rfl,_,_⟩:=hW;have hA:DataW.TrodAll enc Tryz.prog W 0 (fun _=>true) true Tryz.f4.params.toList args.toList ds p:=Z4;rw[Tryz.params4]at hA oI;obtain⟨rfl,rfl⟩:=trodVars_none hV;obtain⟨v0,v1,v2,d0,d1,d2,p0,p1,p2,rfl,rfl,rfl,h0,h1,h2⟩:=trodAll_three hA;obtain⟨l,hl,Z5⟩:=wz.arg Tryz.underlying22 (oI 0 _ v0 rfl rfl) h0;obtain⟨n1,rfl,a1,b1⟩:=U9 Tryz.underlying5 (oI 1 _ v1 rfl rfl);obtain⟨n2,rfl,a2,b2⟩:=U9 Tryz.underlying23 (oI 2 _ v2 rfl rfl);refine(Xhh (ic W) (Xg6 hL Nj) _ l hl Z5 n1 ⟨a1,b1⟩ n2 ⟨a2,b2⟩ W (ic.ok W)).mono fun e W' ⟨he,hb⟩=> ?_;subst he;exact⟨_,rfl,Xpp laidOut rfl Tf (tb:=4) (by kernel_rfl) Tryz.underlying4 rfl (by kernel_rfl) hb⟩
