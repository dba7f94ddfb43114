/-
  Walks and laws that the claim's theorem uses: texts LhB, joined; comments out. Conditions: as each theorem says.
-/
import Derived.Test.YtdeknddamidldaaGreatDoorQ44
import Derived.Test.YtdeknddamidldaaGreatDoorQ49
namespace Go.Proofs.YtdeknddamidldaaGreatDoor
open Go.RowKit
set_option maxRecDepth 100000 in
set_option maxHeartbeats 2000000 in
theorem Xeo (I:IH) (hI:Glob I) (v:Value) (l:List Ses) (hv:RdS tSes I v l) (hwf:∀x∈l,x.Wf) (p:Bytes) (d:Int) (w:World) (hw:Ok I w):
 Calls Tryz.prog 4 #[v,S p,.int .i64 d] w fun r w'=>r= .returned (.bool true)∧Below w.heap.size w w':=by
 have Hal:=Qh (fun w hw=>Xbx I hI w hw)
 have Hgr:=Qh (fun w hw=>Xek I v l hv hwf w hw)
 have A0:=Qh (MAt.start hw)
 cases hg:gr41 l
 case true=>
  have e1:gr41I l=1:=by rw [gr41I,hg];rfl
  rw [e1] at Hgr
  obtain ⟨ao,cap,rfl,_,_,_⟩:=id hv
  clear e1 hg hv
  go_enter Tryz.func4,Tryz.ntmps4
  go_wp2_with fail
  refine (Hal.out _ A0.out.ok).mono ?_
  rintro e1 w1 ⟨rfl,hb1⟩
  have A1:=Qh (A0.out.quiet hb1)
  clear hb1 A0
  go_wp2_with fail
  refine (Hgr.out _ A1.out.ok).mono ?_
  rintro e2 w2 ⟨rfl,hb2⟩
  have A2:=Qh (A1.out.quiet hb2)
  clear hb2 A1
  go_wp2
  go_ret
  exact ⟨rfl,A2.out.bel⟩
 have e1:gr41I l=0:=by rw [gr41I,hg];rfl
 rw [e1] at Hgr
 obtain ⟨hl8,hses,_⟩:=Xdo hwf hg
 by_cases h3:300<p.length
 ·have d3:decide ((300:Int)<(p.length:Int))=true:=Qt (by omega)
  obtain ⟨ao,cap,rfl,_,_,_⟩:=id hv
  clear e1 hg hv h3
  go_enter Tryz.func4,Tryz.ntmps4
  go_wp2_with fail
  refine (Hal.out _ A0.out.ok).mono ?_
  rintro e1 w1 ⟨rfl,hb1⟩
  have A1:=Qh (A0.out.quiet hb1)
  clear hb1 A0
  go_wp2_with fail
  refine (Hgr.out _ A1.out.ok).mono ?_
  rintro e2 w2 ⟨rfl,hb2⟩
  have A2:=Qh (A1.out.quiet hb2)
  clear hb2 A1
  go_wp2
  go_ret
  exact ⟨rfl,A2.out.bel⟩
 have d3:decide ((300:Int)<(p.length:Int))=false:=Qf (by omega)
 have Hap:=Qh (fun w hw=>Xrm I v l hv d w hw)
 have Har:=Qh (fun w hw=>Xo9 I v l hv d w hw)
 have Hcr:=Qh (fun w hw=>Xel I v l hv hses (by omega) w hw)
 have hqq:((asOf d l:Int) != (asOf d l:Int))=false:=by simp
 by_cases hc:chkH l=0
 ·have hk1:=Xfb hc
  have Hvp:=Qh (fun J (hk:∀b c,I b=some c→J b=some c) w hw=>Xcj J (hI.mono hk) v l (hv.mono hk) hses (by omega) hk1 p (by omega) w hw)
  have Hvr:=Qh (fun J (hk:∀b c,I b=some c→J b=some c) w hw=>Xij J v l (hv.mono hk) hses (by omega) p w hw)
  obtain ⟨ao,cap,rfl,_,_,_⟩:=id hv
  rw [hc] at Hcr
  generalize asOf d l=q at Hap Har hqq
  generalize verP l p=vs at Hvp Hvr
  clear e1 hg hv h3 hk1 hc
  go_enter Tryz.func4,Tryz.ntmps4
  go_wp2_with fail
  refine (Hal.out _ A0.out.ok).mono ?_
  rintro e1 w1 ⟨rfl,hb1⟩
  have A1:=Qh (A0.out.quiet hb1)
  clear hb1 A0
  go_wp2_with fail
  refine (Hgr.out _ A1.out.ok).mono ?_
  rintro e2 w2 ⟨rfl,hb2⟩
  have A2:=Qh (A1.out.quiet hb2)
  clear hb2 A1
  go_wp2_with fail
  refine (Hap.out _ A2.out.ok).mono ?_
  rintro e3 w3 ⟨rfl,hb3⟩
  have A3:=Qh (A2.out.quiet hb3)
  clear hb3 A2
  go_wp2_with fail
  refine (Har.out _ A3.out.ok).mono ?_
  rintro e4 w4 ⟨rfl,hb4⟩
  have A4:=Qh (A3.out.quiet hb4)
  clear hb4 A3
  go_wp2_with fail
  refine (Hcr.out _ A4.out.ok).mono ?_
  rintro e5 w5 ⟨rfl,hb5⟩
  have A5:=Qh (A4.out.quiet hb5)
  clear hb5 A4
  go_wp2_with fail
  refine (Hvp.out I A5.out.keep _ A5.out.ok).mono ?_
  rintro e6 w6 ⟨v6,J6,rfl,hb6,hx6,hok6,hr6⟩
  obtain ⟨a6,c6,rfl,_,_,_⟩:=id hr6
  have A6:=Qh (A5.out.ext hb6 hx6 hok6)
  have Hk6:=Qh (hx6.keep A5.out.ok (Qn _))
  have R6:=Qh hr6
  clear hb6 hx6 hok6 hr6 A5
  go_wp2_with fail
  refine (Hvr.out J6 A6.out.keep _ A6.out.ok).mono ?_
  rintro e7 w7 ⟨v7,J7,rfl,hb7,hx7,hok7,hr7⟩
  obtain ⟨a7,c7,rfl,_,_,_⟩:=id hr7
  have A7:=Qh (A6.out.ext hb7 hx7 hok7)
  have Hk7:=Qh (hx7.keep A6.out.ok (Qn _))
  have R7:=Qh hr7
  clear hb7 hx7 hok7 hr7 A6
  go_wp2_with fail
  refine (Xcp J7 _ _ vs (R6.out.mono Hk7.out) R7.out _ A7.out.ok).mono ?_
  rintro e8 w8 ⟨rfl,hb8⟩
  have A8:=Qh (A7.out.quiet hb8)
  clear hb8 A7
  go_wp2
  go_ret
  exact ⟨rfl,A8.out.bel⟩
 ·obtain ⟨c,hcc⟩:∃c,chkH l=c:=⟨_,rfl⟩
  rw [hcc] at Hcr hc
  have hc0:(c != 0)=true:=by simpa using hc
  obtain ⟨ao,cap,rfl,_,_,_⟩:=id hv
  generalize asOf d l=q at Hap Har hqq
  clear e1 hg hv h3 hc hcc
  go_enter Tryz.func4,Tryz.ntmps4
  go_wp2_with fail
  refine (Hal.out _ A0.out.ok).mono ?_
  rintro e1 w1 ⟨rfl,hb1⟩
  have A1:=Qh (A0.out.quiet hb1)
  clear hb1 A0
  go_wp2_with fail
  refine (Hgr.out _ A1.out.ok).mono ?_
  rintro e2 w2 ⟨rfl,hb2⟩
  have A2:=Qh (A1.out.quiet hb2)
  clear hb2 A1
  go_wp2_with fail
  refine (Hap.out _ A2.out.ok).mono ?_
  rintro e3 w3 ⟨rfl,hb3⟩
  have A3:=Qh (A2.out.quiet hb3)
  clear hb3 A2
  go_wp2_with fail
  refine (Har.out _ A3.out.ok).mono ?_
  rintro e4 w4 ⟨rfl,hb4⟩
  have A4:=Qh (A3.out.quiet hb4)
  clear hb4 A3
  go_wp2_with fail
  refine (Hcr.out _ A4.out.ok).mono ?_
  rintro e5 w5 ⟨rfl,hb5⟩
  have A5:=Qh (A4.out.quiet hb5)
  clear hb5 A4
  go_wp2
  go_ret
  exact ⟨rfl,A5.out.bel⟩
end Go.Proofs.YtdeknddamidldaaGreatDoor
