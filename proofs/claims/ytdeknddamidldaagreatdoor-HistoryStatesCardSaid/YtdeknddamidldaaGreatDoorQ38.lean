/-
  Walks and laws that the claim's theorem uses: texts LhA, joined; comments out. Conditions: as each theorem says.
-/
import Derived.Test.YtdeknddamidldaaGreatDoorQ37
namespace Go.Proofs.YtdeknddamidldaaGreatDoor
open Go.RowKit
set_option maxRecDepth 100000 in
set_option maxHeartbeats 2000000 in
theorem Xft (I:IH) (hI:Glob I) (v:Value) (l:List Ses) (hv:RdS tSes I v l) (hwf:∀x∈l,x.Wf) (w:World) (hw:Ok I w):
 Calls Tryz.prog 3 #[v] w fun r w'=>r= .returned (.bool true)∧Below w.heap.size w w':=by
 have Hal:=Qh (fun w hw=>Xbx I hI w hw)
 have Hgr:=Qh (fun w hw=>Xek I v l hv hwf w hw)
 have Hcp:=Qh (fun (h:gr41 l=false) w hw=>Xfe I hI v l hv (Xdo hwf h).2.1 (by have:=(Xdo hwf h).1;omega) w hw)
 have Hcr:=Qh (fun (h:gr41 l=false) w hw=>Xel I v l hv (Xdo hwf h).2.1 (by have:=(Xdo hwf h).1;omega) w hw)
 have A0:=Qh (MAt.start hw)
 obtain ⟨ao,cap,rfl,_,_,_⟩:=id hv
 clear hv
 cases hg:gr41 l
 case true=>
  have e1:gr41I l=1:=by rw [gr41I,hg];rfl
  rw [e1] at Hgr
  clear e1 hg
  go_enter Tryz.func3,Tryz.ntmps3
  go_wp2_with fail
  refine (Hal.out _ A0.out.ok).mono ?_
  rintro e1 w1 ⟨rfl,hb1⟩
  have A1:=Qh (A0.out.quiet hb1)
  clear hb1 A0
  go_wp2_with fail
  refine (Hgr.out _ A1.out.ok).mono ?_
  rintro e2 w2 ⟨rfl,hb2⟩
  have A2:=Qh (A1.out.quiet hb2)
  clear hb2 A1
  go_wp2
  go_ret
  exact ⟨rfl,A2.out.bel⟩
 case false=>
  have e1:gr41I l=0:=by rw [gr41I,hg];rfl
  have Hcp2:=Qh (Hcp.out hg)
  have Hcr2:=Qh (Hcr.out hg)
  rw [e1] at Hgr
  generalize chkH l=q at Hcp2 Hcr2
  have hqq:(q==q)=true:=beq_self_eq_true q
  clear e1 hg Hcp Hcr
  go_enter Tryz.func3,Tryz.ntmps3
  go_wp2_with fail
  refine (Hal.out _ A0.out.ok).mono ?_
  rintro e1 w1 ⟨rfl,hb1⟩
  have A1:=Qh (A0.out.quiet hb1)
  clear hb1 A0
  go_wp2_with fail
  refine (Hgr.out _ A1.out.ok).mono ?_
  rintro e2 w2 ⟨rfl,hb2⟩
  have A2:=Qh (A1.out.quiet hb2)
  clear hb2 A1
  go_wp2_with fail
  refine (Hcp2.out _ A2.out.ok).mono ?_
  rintro e3 w3 ⟨rfl,hb3⟩
  have A3:=Qh (A2.out.quiet hb3)
  clear hb3 A2
  go_wp2_with fail
  refine (Hcr2.out _ A3.out.ok).mono ?_
  rintro e4 w4 ⟨rfl,hb4⟩
  have A4:=Qh (A3.out.quiet hb4)
  clear hb4 A3
  go_wp2
  go_ret
  exact ⟨rfl,A4.out.bel⟩
set_option maxRecDepth 100000 in
set_option maxHeartbeats 2000000 in
theorem Xfs (I:IH) (hI:Glob I) (v:Value) (l:List Ses) (hv:RdS tSes I v l) (hwf:∀x∈l,x.Wf) (n:Int) (w:World) (hw:Ok I w):
 Calls Tryz.prog 8 #[v,.int .i64 n] w fun r w'=>r= .returned (.bool true)∧Below w.heap.size w w':=by
 have Hal:=Qh (fun w hw=>Xbx I hI w hw)
 have Hri:=Qh (fun w hw=>Xc2 I v l hv hwf w hw)
 have A0:=Qh (MAt.start hw)
 cases hg:right41 l
 case false=>
  have e1:right41I l=0:=by rw [right41I,hg];rfl
  rw [e1] at Hri
  obtain ⟨ao,cap,rfl,_,_,_⟩:=id hv
  clear e1 hg hv
  go_enter Tryz.func8,Tryz.ntmps8
  go_wp2_with fail
  refine (Hal.out _ A0.out.ok).mono ?_
  rintro e1 w1 ⟨rfl,hb1⟩
  have A1:=Qh (A0.out.quiet hb1)
  clear hb1 A0
  go_wp2_with fail
  refine (Hri.out _ A1.out.ok).mono ?_
  rintro e2 w2 ⟨rfl,hb2⟩
  have A2:=Qh (A1.out.quiet hb2)
  clear hb2 A1
  go_wp2
  go_ret
  exact ⟨rfl,A2.out.bel⟩
 case true=>
  have e1:right41I l=1:=by rw [right41I,hg];rfl
  obtain ⟨⟨hl8,hses,_⟩,_⟩:=Xdx hwf hg
  have Htp:=Qh (fun J (hk:∀b c,I b=some c→J b=some c) w hw=>Xfu J (hI.mono hk) v l (hv.mono hk) hses (by omega) n w hw)
  have Htr:=Qh (fun J (hk:∀b c,I b=some c→J b=some c) w hw=>Xo8 J v l (hv.mono hk) hses (by omega) n w hw)
  have Hhp:=Qh (fun J (hk:∀b c,I b=some c→J b=some c) w hw=>Xjx J (hI.mono hk) v l (hv.mono hk) hses (by omega) n w hw)
  have Hhr:=Qh (fun J (hk:∀b c,I b=some c→J b=some c) w hw=>Xm2 J v l (hv.mono hk) hses (by omega) n w hw)
  rw [e1] at Hri
  obtain ⟨ao,cap,rfl,_,_,_⟩:=id hv
  obtain ⟨t,er,htr⟩:∃t er,treeR l n=(t,er):=⟨_,_,rfl⟩
  obtain ⟨ho,hho⟩:∃ho,holdsR l n=ho:=⟨_,rfl⟩
  rw [htr] at Htp Htr
  rw [hho] at Hhp Hhr
  have hqq:(er==er)=true:=beq_self_eq_true er
  clear e1 hg hv htr hho
  go_enter Tryz.func8,Tryz.ntmps8
  go_wp2_with fail
  refine (Hal.out _ A0.out.ok).mono ?_
  rintro e1 w1 ⟨rfl,hb1⟩
  have A1:=Qh (A0.out.quiet hb1)
  clear hb1 A0
  go_wp2_with fail
  refine (Hri.out _ A1.out.ok).mono ?_
  rintro e2 w2 ⟨rfl,hb2⟩
  have A2:=Qh (A1.out.quiet hb2)
  clear hb2 A1
  go_wp2_with fail
  refine (Htp.out I (fun _ _ h=>h) _ A2.out.ok).mono ?_
  rintro e3 w3 ⟨v3,J3,rfl,hb3,hx3,hok3,hr3⟩
  obtain ⟨a3,c3,rfl,_,_,_⟩:=id hr3
  have A3:=Qh (A2.out.ext hb3 hx3 hok3)
  have Hk3:=Qh (hx3.keep A2.out.ok (Qn _))
  have R3:=Qh hr3
  clear hb3 hx3 hok3 hr3 A2
  go_wp2_with fail
  refine (Htr.out J3 A3.out.keep _ A3.out.ok).mono ?_
  rintro e4 w4 ⟨v4,J4,rfl,hb4,hx4,hok4,hr4⟩
  obtain ⟨a4,c4,rfl,_,_,_⟩:=id hr4
  have A4:=Qh (A3.out.ext hb4 hx4 hok4)
  have Hk4:=Qh (hx4.keep A3.out.ok (Qn _))
  have R4:=Qh hr4
  clear hb4 hx4 hok4 hr4 A3
  have Hsm:=Qh (fun w hw=>Xir J4 _ _ t t (R3.out.mono Hk4.out) R4.out w hw)
  rw [Qt (rfl:t=t)] at Hsm
  go_wp2_with fail
  refine (Hsm.out _ A4.out.ok).mono ?_
  rintro e5 w5 ⟨rfl,hb5⟩
  have A5:=Qh (A4.out.quiet hb5)
  clear hb5 A4
  go_wp2_with fail
  refine (Hhp.out J4 A5.out.keep _ A5.out.ok).mono ?_
  rintro e6 w6 ⟨v6,J6,rfl,hb6,hx6,hok6,hr6⟩
  obtain ⟨a6,c6,rfl,_,_,_⟩:=id hr6
  have A6:=Qh (A5.out.ext hb6 hx6 hok6)
  have Hk6:=Qh (hx6.keep A5.out.ok (Qn _))
  have R6:=Qh hr6
  clear hb6 hx6 hok6 hr6 A5
  go_wp2_with fail
  refine (Hhr.out J6 A6.out.keep _ A6.out.ok).mono ?_
  rintro e7 w7 ⟨v7,J7,rfl,hb7,hx7,hok7,hr7⟩
  obtain ⟨a7,c7,rfl,_,_,_⟩:=id hr7
  have A7:=Qh (A6.out.ext hb7 hx7 hok7)
  have Hk7:=Qh (hx7.keep A6.out.ok (Qn _))
  have R7:=Qh hr7
  clear hb7 hx7 hok7 hr7 A6
  have Hsh:=Qh (fun w hw=>Xiq J7 _ _ ho ho (R6.out.mono Hk7.out) R7.out w hw)
  rw [Qt (rfl:ho=ho)] at Hsh
  go_wp2_with fail
  refine (Hsh.out _ A7.out.ok).mono ?_
  rintro e8 w8 ⟨rfl,hb8⟩
  have A8:=Qh (A7.out.quiet hb8)
  clear hb8 A7
  go_wp2
  go_ret
  exact ⟨rfl,A8.out.bel⟩
end Go.Proofs.YtdeknddamidldaaGreatDoor
