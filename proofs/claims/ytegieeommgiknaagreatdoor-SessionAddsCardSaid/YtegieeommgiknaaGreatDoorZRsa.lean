/-
  For every input the statement SessionAdds returns true,and its arguments read as they did before.
  Conditions: those of the tied card alone (the listed package-level variables hold what the program lays).
-/
import Derived.Test.YtegieeommgiknaaGreatDoorA36
set_option maxRecDepth 100000
set_option linter.all false
namespace Go.Proofs.YtegieeommgiknaaGreatDoor
open Go.ChangeShapes Go.WideShapes Go.ChangeAt Go.RowKit
theorem sadd_lifted(os:Os)(started:os.Started)(H:Type)(enc:TypeId×Value→H):
 ReturnsInHanded {} Tryz.checked os 4 .any (fun w args=>(Rows.sessionAddsSpec.pre enc Tryz.prog Tryz.f4 Rows.sessionAddsRow.domain false w args∧laidMetH Tryz.prog Rows.sessionAddsRow.laid w)∧sizedMet enc Tryz.prog Tryz.f4 (OpenSpec.ofChange Rows.sessionAddsSpec) false w args)
  (Rows.sessionAddsSpec.post enc Tryz.prog Tryz.f4 false true false false):=by
 refine Xmf (C:=Tryz.checked) (X:=fun w _=>laidMetH Tryz.prog Rows.sessionAddsRow.laid w) (fun _ _ _ hh h=>h.of_heap hh) own started (by kernel_rfl) Tryz.func4
  (ChangeSpec.witness_shaped (enc:=enc) (C:=Tryz.checked) (os:=os) (X:=fun w _=>laidMetH Tryz.prog Rows.sessionAddsRow.laid w) false (World.laidAll Tryz.prog os Rows.sessionAddsRow.laid) #[.slice none 0 0,.int .i64 0,.slice none 0 0] 8 (World.laidAll_os _ _ _)
    (World.shaped_of_ZipB (by kernel_rfl) (by kernel_rfl)) (by kernel_rfl) (by kernel_rfl) (by kernel_rfl)
    (by rw[MakeChecks.laidMetH_plain _ _ _ (by kernel_rfl)];exact laidMet_laidAll _ (by kernel_rfl) (by kernel_rfl))) ?_
 intro W base args ds gs before JN hW Jz hL hz;have xW:∀(j:Nat) t v,Tryz.f4.params[j]?=some t→args[j]?=some v→Value.okWide Tryz.prog W .any base t v:=JN;have QG:=hW;obtain⟨_,ds2,gs2,bf2,kU,au⟩:=hz;obtain⟨rfl,rfl,rfl⟩:=hW.unique kU;obtain⟨p,q,hA0,hV,rfl,_,_⟩:=hW;have hA:DataW.TrodAll enc Tryz.prog W 0 (fun _=>true) true Tryz.f4.params.toList args.toList ds p:=hA0;rw[Tryz.params4]at hA xW;obtain⟨rfl,rfl⟩:=trodVars_none hV;obtain⟨v0,v1,v2,d0,d1,d2,p0,p1,p2,rfl,rfl,rfl,h0,h1,h2⟩:=trodAll_three hA;obtain⟨l,hl,hlw⟩:=vw.arg Tryz.underlying22 (xW 0 _ v0 rfl rfl) h0;obtain⟨n,rfl,_,_⟩:=Xw0 Tryz.underlying3 (xW 1 _ v1 rfl rfl);obtain⟨cs,hc,NZ⟩:=rQ.arg Tryz.underlying34 (xW 2 _ v2 rfl rfl) h2;have bS:(l.length+1)*32≤140737488355328:=by
  obtain⟨ao,cap,rfl,_,_,_⟩:=id hl;have:=Xnk (j:=0) (n:=l.length) Tryz.underlying22 h0 au (by kernel_rfl) rfl;have aeN:Tryz.prog.bytesOf 36=32:=by kernel_rfl
  rw[aeN]at this;have SV:reachBytes=140737488351232:=by decide
  omega
 refine(Xig (eF W) (Xg2 hL Jz) _ l hl hlw bS n _ cs hc NZ W (eF.ok W)).mono fun e W' ⟨he,hb⟩=> ?_;subst he;exact⟨_,rfl,Xo5 Xsn rfl QG (tb:=4) (by kernel_rfl) Tryz.underlying4 rfl (by kernel_rfl) hb⟩
