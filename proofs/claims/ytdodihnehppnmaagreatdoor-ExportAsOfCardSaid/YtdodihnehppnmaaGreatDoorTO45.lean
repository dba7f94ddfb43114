/- Lemmas; conditions: as each says. -/
import Derived.Test.YtdodihnehppnmaaGreatDoorTO40
set_option linter.all false
namespace Go.Proofs.YtdodihnehppnmaaGreatDoor
open Go.RowKit
set_option maxRecDepth 100000 in
set_option maxHeartbeats 4000000 in
theorem Xit (I:IH) (hI:Glob I) (v:Value) (l:List Ses) (hv:RdS tSes I v l) (hwf:∀x∈l,x.Wf) (d:Int) (hd: -9223372036854775808≤d∧d≤9223372036854775807) (m:Int) (hm:0≤m∧m≤255) (w:World) (hw:Ok I w):
 Calls Tryz.prog 6 #[v,.int .i64 d,.int .u8 m] w fun r w'=>r= .returned (.bool true)∧Below w.heap.size w w':=by
 have Hal:=Qh (fun w hw=>Xhz I hI w hw)
 have Hri:=Qh (fun w hw=>Xhn I v l hv hwf w hw)
 have A0:=Qh (MAt.start hw)
 cases hg:right41 l
 case false=>
  have e1:right41I l=0:=by rw [right41I,hg];rfl
  rw [e1] at Hri
  obtain ⟨ao,cap,rfl,_,_,_⟩:=id hv
  clear e1 hg hv hd hm
  go_enter Tryz.func6,Tryz.ntmps6
  go_wp2_with fail
  refine (Hri.out _ A0.out.ok).mono ?_
  rintro e1 w1 ⟨rfl,hb1⟩
  have A1:=Qh (A0.out.quiet hb1)
  clear hb1 A0
  go_wp2_with fail
  refine (Hal.out _ A1.out.ok).mono ?_
  rintro e2 w2 ⟨rfl,hb2⟩
  have A2:=Qh (A1.out.quiet hb2)
  clear hb2 A1
  go_wp2
  go_ret
  exact ⟨rfl,A2.out.bel⟩
 case true=>
  have e1:right41I l=1:=by rw [right41I,hg];rfl
  rw [e1] at Hri
  by_cases hdd:1000000000<d
  ·have k1:decide (1000000000<d)=true:=Qt hdd
   obtain ⟨ao,cap,rfl,_,_,_⟩:=id hv
   clear e1 hg hv hd hm hdd
   go_enter Tryz.func6,Tryz.ntmps6
   go_wp2_with fail
   refine (Hri.out _ A0.out.ok).mono ?_
   rintro e1 w1 ⟨rfl,hb1⟩
   have A1:=Qh (A0.out.quiet hb1)
   clear hb1 A0
   go_wp2_with fail
   refine (Hal.out _ A1.out.ok).mono ?_
   rintro e2 w2 ⟨rfl,hb2⟩
   have A2:=Qh (A1.out.quiet hb2)
   clear hb2 A1
   go_wp2
   go_ret
   exact ⟨rfl,A2.out.bel⟩
  ·have k1:decide (1000000000<d)=false:=Qf hdd
   obtain ⟨⟨hl8,hses,_⟩,hchk⟩:=Xiz hwf hg
   have hle:=Xik d l
   have Has:=Qh (fun w hw=>Xrx I v l hv d w hw)
   have Ht1:=Qh (fun w hw=>Xh7 I hI v l hv hses (by omega) d w hw)
   have Ht3:=Qh (fun w hw=>Xh7 I hI v l hv hses (by omega) (d+m) w hw)
   have hlen:=hv.len_le
   obtain ⟨ao,cap,rfl,hcap,_,_⟩:=id hv
   have Ht2:=Qh (fun w hw=>Xh7 I hI _ (l.take (asOf d l)) (hv.takeS hle) (fun x hx=>hses x (List.mem_of_mem_take hx)) (by rw [List.length_take];omega) d w hw)
   rw [Xur hchk d] at Ht2
   have Hlt:=Qh (fun hx=>Xqa (l:=l) (d:=d) (d':=d+m) (by omega) hx)
   have Hv:=Qh hv
   have m1:IntKind.i64.wrap (d+m)=d+m:=IntWalk.i64_in _ (by omega)
   have m2:IntKind.i64.wrap m=m:=IntWalk.i64_in _ (by omega)
   obtain ⟨n,hn⟩:∃n,asOf d l=n:=⟨_,rfl⟩
   rw [hn] at hle Has Ht2 Hlt
   clear e1 hg hv hd hm hdd hchk hses hn
   obtain ⟨ct,er,hg⟩:∃ct er,expT l d=(ct,er):=⟨_,_,rfl⟩
   rw [hg] at Ht1 Ht2 Hlt
   have i1:(n:Int)≤(l.length:Int):=by omega
   have i2:(n:Int)≤(cap:Int):=by omega
   have q1:(ct==ct)=true:=beq_self_eq_true ct
   have q2:(er==er)=true:=beq_self_eq_true er
   have q3:(er != er)=false:=by simp
   have q4:(!(ct==ct))=false:=by rw [q1];rfl
   clear hg
   by_cases hnl:n<l.length
   ·obtain ⟨x,ve,b,off,cap',hlx,hvv,HX,h1⟩:=Xgs Hv.out A0.out.ok n hnl
    cases hvv
    have j1:decide ((n:Int)<(l.length:Int))=true:=Qt (by omega)
    have hxn:l[n]? =some x:=by rw [List.getElem?_eq_getElem hnl,hlx]
    by_cases hxd:x.date≤d+m
    ·have j2:decide (x.date≤d+m)=true:=Qt hxd
     have SX:=Qh HX
     clear hxd hlx h1 HX Hlt Ht3 hxn
     go_enter Tryz.func6,Tryz.ntmps6
     go_wp2_with fail
     refine (Hri.out _ A0.out.ok).mono ?_
     rintro e1 w1 ⟨rfl,hb1⟩
     have A1:=Qh (A0.out.quiet hb1)
     clear hb1 A0
     go_wp2_with fail
     refine (Has.out _ A1.out.ok).mono ?_
     rintro e2 w2 ⟨rfl,hb2⟩
     have A2:=Qh (A1.out.quiet hb2)
     clear hb2 A1
     go_wp2_with fail
     refine (Ht1.out _ A2.out.ok).mono ?_
     rintro e3 w3 ⟨rfl,hb3⟩
     have A3:=Qh (A2.out.quiet hb3)
     clear hb3 A2
     go_wp2_with fail
     refine (Ht2.out _ A3.out.ok).mono ?_
     rintro e4 w4 ⟨rfl,hb4⟩
     have A4:=Qh (A3.out.quiet hb4)
     clear hb4 A3
     have A6:=A4
     have c1:=(SX.out.far A4.out.bel (block_lt_of_cell SX.out.c0)).c1
     go_wp2_with fail
     refine (Hal.out _ A6.out.ok).mono ?_
     rintro e7 w7 ⟨rfl,hb7⟩
     have A7:=Qh (A6.out.quiet hb7)
     clear hb7 A6
     go_wp2
     go_ret
     exact ⟨rfl,A7.out.bel⟩
    ·have j2:decide (x.date≤d+m)=false:=Qf hxd
     have SX:=Qh HX
     replace Hlt:=Qh (Hlt.out fun y hy=>by rw [hxn] at hy;injection hy with hy;subst hy;omega)
     rw [Hlt.out] at Ht3
     clear hxd hlx h1 HX hxn Hlt
     go_enter Tryz.func6,Tryz.ntmps6
     go_wp2_with fail
     refine (Hri.out _ A0.out.ok).mono ?_
     rintro e1 w1 ⟨rfl,hb1⟩
     have A1:=Qh (A0.out.quiet hb1)
     clear hb1 A0
     go_wp2_with fail
     refine (Has.out _ A1.out.ok).mono ?_
     rintro e2 w2 ⟨rfl,hb2⟩
     have A2:=Qh (A1.out.quiet hb2)
     clear hb2 A1
     go_wp2_with fail
     refine (Ht1.out _ A2.out.ok).mono ?_
     rintro e3 w3 ⟨rfl,hb3⟩
     have A3:=Qh (A2.out.quiet hb3)
     clear hb3 A2
     go_wp2_with fail
     refine (Ht2.out _ A3.out.ok).mono ?_
     rintro e4 w4 ⟨rfl,hb4⟩
     have A4:=Qh (A3.out.quiet hb4)
     clear hb4 A3
     have c1:=(SX.out.far A4.out.bel (block_lt_of_cell SX.out.c0)).c1
     go_wp2_with fail
     refine (Ht3.out _ A4.out.ok).mono ?_
     rintro e6 w6 ⟨rfl,hb6⟩
     have A6:=Qh (A4.out.quiet hb6)
     clear hb6 A4
     go_wp2_with fail
     refine (Hal.out _ A6.out.ok).mono ?_
     rintro e7 w7 ⟨rfl,hb7⟩
     have A7:=Qh (A6.out.quiet hb7)
     clear hb7 A6
     go_wp2
     go_ret
     exact ⟨rfl,A7.out.bel⟩
   ·have j1:decide ((n:Int)<(l.length:Int))=false:=Qf (by omega)
    replace Hlt:=Qh (Hlt.out fun y hy=>by rw [List.getElem?_eq_none (by omega)] at hy;cases hy)
    rw [Hlt.out] at Ht3
    clear Hlt
    go_enter Tryz.func6,Tryz.ntmps6
    go_wp2_with fail
    refine (Hri.out _ A0.out.ok).mono ?_
    rintro e1 w1 ⟨rfl,hb1⟩
    have A1:=Qh (A0.out.quiet hb1)
    clear hb1 A0
    go_wp2_with fail
    refine (Has.out _ A1.out.ok).mono ?_
    rintro e2 w2 ⟨rfl,hb2⟩
    have A2:=Qh (A1.out.quiet hb2)
    clear hb2 A1
    go_wp2_with fail
    refine (Ht1.out _ A2.out.ok).mono ?_
    rintro e3 w3 ⟨rfl,hb3⟩
    have A3:=Qh (A2.out.quiet hb3)
    clear hb3 A2
    go_wp2_with fail
    refine (Ht2.out _ A3.out.ok).mono ?_
    rintro e4 w4 ⟨rfl,hb4⟩
    have A4:=Qh (A3.out.quiet hb4)
    clear hb4 A3
    go_wp2_with fail
    refine (Ht3.out _ A4.out.ok).mono ?_
    rintro e6 w6 ⟨rfl,hb6⟩
    have A6:=Qh (A4.out.quiet hb6)
    clear hb6 A4
    go_wp2_with fail
    refine (Hal.out _ A6.out.ok).mono ?_
    rintro e7 w7 ⟨rfl,hb7⟩
    have A7:=Qh (A6.out.quiet hb7)
    clear hb7 A6
    go_wp2
    go_ret
    exact ⟨rfl,A7.out.bel⟩
end Go.Proofs.YtdodihnehppnmaaGreatDoor
