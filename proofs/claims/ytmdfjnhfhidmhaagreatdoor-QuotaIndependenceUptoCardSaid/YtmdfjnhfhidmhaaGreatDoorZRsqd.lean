/-
  For every input within the bound of the second form the statement QuotaIndependence returns true, and its arguments read as they did before.
  Conditions: those of the tied card alone (the listed package-level variables hold what the program lays).
-/
import Derived.Test.YtmdfjnhfhidmhaaGreatDoorH48
import Derived.Test.YtmdfjnhfhidmhaaGreatDoorH41
set_option linter.all false
namespace Go.Proofs.YtmdfjnhfhidmhaaGreatDoor
open Go.ChangeShapes Go.WideShapes Go.ChangeAt Go.RowKit
set_option maxRecDepth 100000 in
theorem Xmq (os:Os) {H:Type} (enc:TypeId × Value→H):∃places,DataW.whole enc Tryz.prog ((World.laidAll Tryz.prog os Rows.quotaIndependenceUptoRow.laid).forCall (fun _ _=>0) ⟨#[],#[.slice none 0 0,.agg #[S [],.int .i64 0,S [],.slice none 0 0,S [],S []],.agg #[S [],.int .i64 0,S [],.slice none 0 0,S [],S []]],[]⟩).memory Tryz.f12.params.toList Rows.quotaIndependenceSpec.vars false (Array.toList #[.slice none 0 0,.agg #[S [],.int .i64 0,S [],.slice none 0 0,S [],S []],.agg #[S [],.int .i64 0,S [],.slice none 0 0,S [],S []]]) 8=some ([.nil,.agg [.lit (.string []),.agg [.lit (.int .i64 0),.lit (.string []),.nil,.lit (.string []),.lit (.string [])]],.agg [.lit (.string []),.agg [.lit (.int .i64 0),.lit (.string []),.nil,.lit (.string []),.lit (.string [])]]],[],places):=⟨[],by kernel_rfl⟩
set_option maxRecDepth 100000 in
theorem qind_lifted (os:Os) (started:os.Started) (H:Type) (enc:TypeId × Value→H) (F:Stop.Interp):
 ReturnsInHanded {} Tryz.checked os 12 .any ((Rows.OpenSpec.upto Rows.quotaIndependenceSpec).preRow enc Tryz.prog Tryz.f12 Rows.quotaIndependenceUptoRow.domain false Rows.quotaIndependenceUptoRow.laid) (((Rows.OpenSpec.upto Rows.quotaIndependenceSpec).at F).post enc Tryz.prog Tryz.f12 false true false false):=by
 obtain ⟨places,hx⟩:=Xmq os enc
 refine returnsInHanded_of_row (C:=Tryz.checked) (s:=Rows.OpenSpec.upto Rows.quotaIndependenceSpec) own started (by kernel_rfl) Tryz.func12
  (Xco (enc:=enc) (C:=Tryz.checked) false (World.laidAll Tryz.prog os Rows.quotaIndependenceUptoRow.laid) #[.slice none 0 0,.agg #[S [],.int .i64 0,S [],.slice none 0 0,S [],S []],.agg #[S [],.int .i64 0,S [],.slice none 0 0,S [],S []]] (World.laidAll_os _ _ _)
    (World.shaped_of_ZipB (by kernel_rfl) (by kernel_rfl)) (by kernel_rfl)
    (OpenSpec.preRow_of_cond 8 hx (by kernel_rfl) (fun k hk=>by cases hk;kernel_rfl) (by kernel_rfl)
      (by rw [MakeChecks.laidMetH_plain _ _ _ (by kernel_rfl)];exact laidMet_laidAll _ (by kernel_rfl) (by kernel_rfl)))) ?_
 intro W base args ds gs before hval0 hW _ hcond _ hL hsh _
 have hk:=hcond _ rfl
 have hval:∀(j:Nat) t v,Tryz.f12.params[j]? =some t→args[j]? =some v→Value.okWide Tryz.prog W .any base t v:=hval0
 have hW':=hW
 obtain ⟨p,q,hA0,hV,rfl,_,_⟩:=hW
 have hA:DataW.TrodAll enc Tryz.prog W 0 (fun _=>true) true Tryz.f12.params.toList args.toList ds p:=hA0
 rw [Tryz.params12] at hA hval
 obtain ⟨rfl,rfl⟩:=trodVars_none hV
 obtain ⟨v0,v1,v2,d0,d1,d2,p0,p1,p2,rfl,rfl,rfl,h0,h1,h2⟩:=trodAll_three hA
 obtain ⟨l,hl,hlw,hln⟩:=acc_opensN.arg Tryz.underlying22 (hval 0 _ v0 rfl rfl) h0 (Xha hk (by simp))
 obtain ⟨a,va1,rfl,hva1,hrN1⟩:=Xnz (hval 1 _ v1 rfl rfl) h1 (Xha hk (by simp))
 obtain ⟨b,va2,rfl,hva2,hrN2⟩:=Xnz (hval 2 _ v2 rfl rfl) h2 (Xha hk (by simp))
 refine (Xct (HeapI W) (Xcw hL hsh) _ l hl (fun a ha=>(hlw a ha).toIn) (fun a ha=>Nat.le_trans (hlw a ha).own2 (by decide)) a _ hva1 b _ hva2 (Xk4 (rs:= [a,b]) (by simpa using And.intro hrN1 hrN2) (by simp)) W (HeapI.ok W)).mono fun e W' ⟨he,hb⟩=> ?_
 subst he
 exact ⟨_,rfl,Xho Xko rfl hW' (tb:=4) (by kernel_rfl) Tryz.underlying4 rfl (by kernel_rfl) hb⟩
end Go.Proofs.YtmdfjnhfhidmhaaGreatDoor
