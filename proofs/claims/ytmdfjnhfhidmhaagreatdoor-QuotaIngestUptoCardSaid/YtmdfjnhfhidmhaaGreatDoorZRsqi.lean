/-
  For every input within the bound of the second form the statement QuotaIngest returns true,and its arguments read as they did before.
  Conditions: those of the tied card alone (the listed package-level variables hold what the program lays).
-/
import Derived.Test.YtmdfjnhfhidmhaaGreatDoorJ41
set_option maxRecDepth 100000
set_option linter.all false
namespace Go.Proofs.YtmdfjnhfhidmhaaGreatDoor
open Go.ChangeShapes Go.WideShapes Go.ChangeAt Go.RowKit
theorem Xpq(os:Os){H:Type}(enc:TypeId×Value→H):∃places,DataW.whole enc Tryz.prog ((World.laidAll Tryz.prog os Rows.quotaIngestUptoRow.laid).forCall (fun _ _=>0) ⟨#[],#[.slice none 0 0,.slice none 0 0,.int .i64 0],[]⟩).memory Tryz.f4.params.toList Rows.quotaIngestSpec.vars false (Array.toList #[.slice none 0 0,.slice none 0 0,.int .i64 0]) 8=some ([.nil,.nil,.lit (.int .i64 0)],[],places):=⟨[],by kernel_rfl⟩
theorem qing_lifted(os:Os)(started:os.Started)(H:Type)(enc:TypeId×Value→H)(F:Stop.Interp):
 ReturnsInHanded {} Tryz.checked os 4 .any ((Rows.OpenSpec.upto Rows.quotaIngestSpec).preRow enc Tryz.prog Tryz.f4 Rows.quotaIngestUptoRow.domain false Rows.quotaIngestUptoRow.laid) (((Rows.OpenSpec.upto Rows.quotaIngestSpec).at F).post enc Tryz.prog Tryz.f4 false true false false):=by
 obtain⟨places,hx⟩:=Xpq os enc
 refine returnsInHanded_of_row (C:=Tryz.checked) (s:=Rows.OpenSpec.upto Rows.quotaIngestSpec) own started (by kernel_rfl) Tryz.func4
  (Xki (enc:=enc) (C:=Tryz.checked) false (World.laidAll Tryz.prog os Rows.quotaIngestUptoRow.laid) #[.slice none 0 0,.slice none 0 0,.int .i64 0] (World.laidAll_os _ _ _)
    (World.shaped_of_ZipB (by kernel_rfl) (by kernel_rfl)) (by kernel_rfl)
    (OpenSpec.preRow_of_cond 8 hx (by kernel_rfl) (fun k hk=>by cases hk;kernel_rfl) (by kernel_rfl)
      (by rw[MakeChecks.laidMetH_plain _ _ _ (by kernel_rfl)];exact laidMet_laidAll _ (by kernel_rfl) (by kernel_rfl)))) ?_
 intro W base args ds gs before Uj hW _ Uk _ hL Ui _;have hk:=Uk _ rfl;have JM:∀(j:Nat) t v,Tryz.f4.params[j]?=some t→args[j]?=some v→Value.okWide Tryz.prog W .any base t v:=Uj;have hW':=hW;obtain⟨p,q,hA0,hV,rfl,_,_⟩:=hW;have hA:DataW.TrodAll enc Tryz.prog W 0 (fun _=>true) true Tryz.f4.params.toList args.toList ds p:=hA0;rw[Tryz.params4]at hA JM;obtain⟨rfl,rfl⟩:=trodVars_none hV;obtain⟨v0,v1,v2,d0,d1,d2,p0,p1,p2,rfl,rfl,rfl,h0,h1,h2⟩:=trodAll_three hA;obtain⟨l,hl,hlw,DV⟩:=Bp.arg Tryz.underlying22 (JM 0 _ v0 rfl rfl) h0 (Xvk hk (by simp));obtain⟨rs,oI,PT,hrn⟩:=DI.arg Tryz.underlying36 (JM 1 _ v1 rfl rfl) h1 (Xvk hk (by simp));obtain⟨n2,rfl,_,_⟩:=Xwh Tryz.underlying3 (JM 2 _ v2 rfl rfl);refine(Xhn (il W) (Xlm hL Ui) _ l hl (fun a ha=>(hlw a ha).toIn) _ rs oI (fun r hr=>⟨(PT r hr).c.k0,(PT r hr).c.k1⟩) (Xte PT hrn) n2 W (il.ok W)).mono fun e W' ⟨he,hb⟩=> ?_;subst he;exact⟨_,rfl,Xt6 Xwg rfl hW' (tb:=4) (by kernel_rfl) Tryz.underlying4 rfl (by kernel_rfl) hb⟩
