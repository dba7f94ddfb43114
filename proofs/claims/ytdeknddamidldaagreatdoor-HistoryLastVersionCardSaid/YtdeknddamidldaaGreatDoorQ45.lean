/-
  Walks and laws that the claim's theorem uses: texts LhC, joined; comments out. Conditions: as each theorem says.
-/
import Derived.Test.YtdeknddamidldaaGreatDoorQ44
namespace Go.Proofs.YtdeknddamidldaaGreatDoor
open Go.RowKit
set_option maxRecDepth 100000 in
set_option maxHeartbeats 4000000 in
theorem Xdd (I:IH) (hI:Glob I) (v:Value) (l:List Ses) (hv:RdS tSes I v l) (hwf:∀x∈l,x.Wf) (m:Nat) (hm:m≤255) (p:Bytes) (w:World) (hw:Ok I w):
 Calls Tryz.prog 5 #[v,.int .u8 m,S p] w fun r w'=>r= .returned (.bool true)∧Below w.heap.size w w':=by
 have Hal:=Qh (fun w hw=>Xbx I hI w hw)
 have Hri:=Qh (fun w hw=>Xc2 I v l hv hwf w hw)
 have A0:=Qh (MAt.start hw)
 cases hg:right41 l
 case false=>
  have e1:right41I l=0:=by rw [right41I,hg];rfl
  rw [e1] at Hri
  obtain ⟨ao,cap,rfl,_,_,_⟩:=id hv
  clear e1 hg hv
  go_enter Tryz.func5,Tryz.ntmps5
  go_wp2_with fail
  refine (Hal.out _ A0.out.ok).mono ?_
  rintro e1 w1 ⟨rfl,hb1⟩
  have A1:=Qh (A0.out.quiet hb1)
  clear hb1 A0
  go_wp2_with fail
  refine (Hri.out _ A1.out.ok).mono ?_
  rintro e2 w2 ⟨rfl,hb2⟩
  have A2:=Qh (A1.out.quiet hb2)
  clear hb2 A1
  go_wp2
  go_ret
  exact ⟨rfl,A2.out.bel⟩
 have e1:right41I l=1:=by rw [right41I,hg];rfl
 obtain ⟨⟨hl8,hses,_⟩,hck⟩:=Xdx hwf hg
 rw [e1] at Hri
 by_cases h3:300<p.length
 ·have d3:decide ((300:Int)<(p.length:Int))=true:=Qt (by omega)
  obtain ⟨ao,cap,rfl,_,_,_⟩:=id hv
  clear e1 hg hv h3 hck
  go_enter Tryz.func5,Tryz.ntmps5
  go_wp2_with fail
  refine (Hal.out _ A0.out.ok).mono ?_
  rintro e1 w1 ⟨rfl,hb1⟩
  have A1:=Qh (A0.out.quiet hb1)
  clear hb1 A0
  go_wp2_with fail
  refine (Hri.out _ A1.out.ok).mono ?_
  rintro e2 w2 ⟨rfl,hb2⟩
  have A2:=Qh (A1.out.quiet hb2)
  clear hb2 A1
  go_wp2
  go_ret
  exact ⟨rfl,A2.out.bel⟩
 have d3:decide ((300:Int)<(p.length:Int))=false:=Qf (by omega)
 obtain ⟨K,hK⟩:∃K,m%(l.length+1)=K:=⟨_,rfl⟩
 have hKl:K≤l.length:=by have:=Nat.mod_lt m (show 0<l.length+1 by omega);omega
 have hrem:=Xqt hK
 have hz:¬((l.length:Int)+1=0):=by omega
 have hz2:((l.length:Int)+1==0)=false:=by simpa using hz
 have hK0:(0:Int)≤(K:Int):=by omega
 have hK1:(K:Int)≤(l.length:Int):=by omega
 have Htp:=Qh (fun w hw=>Xfu I hI v l hv hses (by omega) K w hw)
 rw [Xjd hKl] at Htp
 have hl2:=Xlh (Xnt hck K) p
 have hk1:=Xfb (Xnt hck K)
 obtain ⟨vs,hvs⟩:∃vs,verP (l.take K) p=vs:=⟨_,rfl⟩
 have hll:(l.take K).length=K:=by simp;omega
 obtain ⟨ao,cap,rfl,hcap,_,_⟩:=id hv
 have hK2:(K:Int)≤(cap:Int):=by omega
 have Hvp:=Qh (fun J (hk:∀b c,I b=some c→J b=some c) w hw=>Xcj J (hI.mono hk) (.slice ao K cap) (l.take K) ((hv.mono hk).takeS hKl) (fun x hx=>hses x (List.mem_of_mem_take hx)) (by rw [hll];omega) hk1 p (by omega) w hw)
 obtain ⟨t,ht⟩:∃t,(aftS nilS (l.take K)).tree=t:=⟨_,rfl⟩
 rw [hvs] at hl2 Hvp
 rw [ht] at hl2 Htp
 obtain ⟨gx,gb,hge⟩:∃gx gb,getE t p=(gx,gb):=⟨_,_,rfl⟩
 have Hge:=Qh hge
 clear e1 hg hv h3 hck hK hvs ht hll hk1
 rcases Xrc vs with rfl|⟨r,z,rfl⟩
 ·have hgb:gb=false:=by rw [Xrb (hl2.trans rfl)] at hge;exact (Prod.mk.inj hge).2.symm
  subst hgb
  clear hl2 hge
  go_enter Tryz.func5,Tryz.ntmps5
  go_wp2_with fail
  refine (Hal.out _ A0.out.ok).mono ?_
  rintro e1 w1 ⟨rfl,hb1⟩
  have A1:=Qh (A0.out.quiet hb1)
  clear hb1 A0
  go_wp2_with fail
  refine (Hri.out _ A1.out.ok).mono ?_
  rintro e2 w2 ⟨rfl,hb2⟩
  have A2:=Qh (A1.out.quiet hb2)
  clear hb2 A1
  go_wp2_with fail
  refine (Htp.out _ A2.out.ok).mono ?_
  rintro e3 w3 ⟨v3,J3,rfl,hb3,hx3,hok3,hr3⟩
  obtain ⟨a3,c3,rfl,_,_,_⟩:=id hr3
  have A3:=Qh (A2.out.ext hb3 hx3 hok3)
  have Hk3:=Qh (hx3.keep A2.out.ok (Qn _))
  have R3:=Qh hr3
  clear hb3 hx3 hok3 hr3 A2
  go_wp2_with fail
  refine (Xl2 J3 _ t R3.out p _ A3.out.ok).mono ?_
  rw [Hge.out]
  rintro e4 w4 ⟨ga,gv,rfl,hg1,hg2,hb4⟩
  obtain ⟨oa,oc,rfl,_,_,_⟩:=id hg1
  obtain ⟨ox,od,rfl,_,_,_⟩:=id hg2
  have A5:=Qh ((A3.out.quiet hb4).past (.cells #[.int .i64 gx.kind,S gx.path,.slice oa gx.attrs.length oc,S gx.target,.int .i64 gx.size,S gx.digest,.slice ox gx.exts.length od] 39))
  have HE5:=Qh (entB (W:=w4) (e:=gx) (va:= .slice oa gx.attrs.length oc) (vx:= .slice ox gx.exts.length od) (t:=39) rfl (Qb _ _))
  have G1:=Qh hg1
  have G2:=Qh hg2
  clear hb4 A3 hg1 hg2
  go_wp2_with fail
  refine (Hvp.out J3 Hk3.out _ A5.out.ok).mono ?_
  rintro e6 w6 ⟨v6,J6,rfl,hb6,hx6,hok6,hr6⟩
  obtain ⟨a6,c6,rfl,_,_,_⟩:=id hr6
  have A6:=Qh (A5.out.ext hb6 hx6 hok6)
  have HE6:=Qh (HE5.out.thru hb6)
  have Hk6:=Qh (hx6.keep A5.out.ok (Qn _))
  have R6:=Qh hr6
  clear hb6 hx6 hok6 hr6 A5 HE5
  go_wp2
  go_ret
  exact ⟨rfl,A6.out.bel⟩
 rw [Xpp] at hl2
 by_cases h4:z.e.kind=4
 ·rw [if_pos h4] at hl2
  have hgb:gb=false:=by rw [Xrb hl2] at hge;exact (Prod.mk.inj hge).2.symm
  subst hgb
  clear hl2 hge
  have e4:(z.e.kind==4)=true:=by simpa using h4
  have hlen:(r++ [z]).length=r.length+1:=by simp
  have Hlast:=Qh (show ∀h,(r++ [z])[r.length]'h=z from fun _=>by simp)
  generalize r++ [z]=vs at Hvp hlen Hlast
  have Hlen:=Qh hlen
  clear hlen h4
  go_enter Tryz.func5,Tryz.ntmps5
  go_wp2_with fail
  refine (Hal.out _ A0.out.ok).mono ?_
  rintro e1 w1 ⟨rfl,hb1⟩
  have A1:=Qh (A0.out.quiet hb1)
  clear hb1 A0
  go_wp2_with fail
  refine (Hri.out _ A1.out.ok).mono ?_
  rintro e2 w2 ⟨rfl,hb2⟩
  have A2:=Qh (A1.out.quiet hb2)
  clear hb2 A1
  go_wp2_with fail
  refine (Htp.out _ A2.out.ok).mono ?_
  rintro e3 w3 ⟨v3,J3,rfl,hb3,hx3,hok3,hr3⟩
  obtain ⟨a3,c3,rfl,_,_,_⟩:=id hr3
  have A3:=Qh (A2.out.ext hb3 hx3 hok3)
  have Hk3:=Qh (hx3.keep A2.out.ok (Qn _))
  have R3:=Qh hr3
  clear hb3 hx3 hok3 hr3 A2
  go_wp2_with fail
  refine (Xl2 J3 _ t R3.out p _ A3.out.ok).mono ?_
  rw [Hge.out]
  rintro e4 w4 ⟨ga,gv,rfl,hg1,hg2,hb4⟩
  obtain ⟨oa,oc,rfl,_,_,_⟩:=id hg1
  obtain ⟨ox,od,rfl,_,_,_⟩:=id hg2
  have A5:=Qh ((A3.out.quiet hb4).past (.cells #[.int .i64 gx.kind,S gx.path,.slice oa gx.attrs.length oc,S gx.target,.int .i64 gx.size,S gx.digest,.slice ox gx.exts.length od] 39))
  have HE5:=Qh (entB (W:=w4) (e:=gx) (va:= .slice oa gx.attrs.length oc) (vx:= .slice ox gx.exts.length od) (t:=39) rfl (Qb _ _))
  have G1:=Qh hg1
  have G2:=Qh hg2
  clear hb4 A3 hg1 hg2
  go_wp2_with fail
  refine (Hvp.out J3 Hk3.out _ A5.out.ok).mono ?_
  rintro e6 w6 ⟨v6,J6,rfl,hb6,hx6,hok6,hr6⟩
  obtain ⟨a6,c6,rfl,_,_,_⟩:=id hr6
  have A6:=Qh (A5.out.ext hb6 hx6 hok6)
  have HE6:=Qh (HE5.out.thru hb6)
  have Hk6:=Qh (hx6.keep A5.out.ok (Qn _))
  have R6:=Qh hr6
  clear hb6 hx6 hok6 hr6 A5 HE5
  obtain ⟨z',va,vx,b,off,cap',hlx,hvv,⟨c0,c1,c2,c3,c4,c5,c6',c7,c8⟩,h1,h2⟩:=Xqg R6.out A6.out.ok r.length (by rw [Hlen.out];omega)
  cases hvv
  obtain rfl:z=z':=(Hlast.out _).symm.trans hlx
  rw [Hlen.out]
  have hi:IntKind.i64.wrap (((r.length+1:Nat):Int)-1)=(r.length:Int):=by rw [IntWalk.i64_in _ (by have:=R6.out.len_le;rw [Hlen.out] at this;omega)];omega
  have hlen0:=R6.out.len_le
  rw [Hlen.out] at hlen0
  clear hlx h1 h2
  go_wp2
  go_ret
  exact ⟨rfl,A6.out.bel⟩
 ·rw [if_neg h4] at hl2
  have hgb:(z.e,true)=(gx,gb):=by rw [←Xuu hl2];exact hge
  obtain ⟨rfl,rfl⟩:=Prod.mk.inj hgb
  have e4:(z.e.kind==4)=false:=by simpa using h4
  have hlen:(r++ [z]).length=r.length+1:=by simp
  have Hlast:=Qh (show ∀h,(r++ [z])[r.length]'h=z from fun _=>by simp)
  generalize r++ [z]=vs at Hvp hlen Hlast
  have Hlen:=Qh hlen
  generalize hgz:z.e=gx at Hge e4
  have Hgz:=Qh hgz
  clear hlen h4 hgb hl2 hge hgz
  go_enter Tryz.func5,Tryz.ntmps5
  go_wp2_with fail
  refine (Hal.out _ A0.out.ok).mono ?_
  rintro e1 w1 ⟨rfl,hb1⟩
  have A1:=Qh (A0.out.quiet hb1)
  clear hb1 A0
  go_wp2_with fail
  refine (Hri.out _ A1.out.ok).mono ?_
  rintro e2 w2 ⟨rfl,hb2⟩
  have A2:=Qh (A1.out.quiet hb2)
  clear hb2 A1
  go_wp2_with fail
  refine (Htp.out _ A2.out.ok).mono ?_
  rintro e3 w3 ⟨v3,J3,rfl,hb3,hx3,hok3,hr3⟩
  obtain ⟨a3,c3,rfl,_,_,_⟩:=id hr3
  have A3:=Qh (A2.out.ext hb3 hx3 hok3)
  have Hk3:=Qh (hx3.keep A2.out.ok (Qn _))
  have R3:=Qh hr3
  clear hb3 hx3 hok3 hr3 A2
  go_wp2_with fail
  refine (Xl2 J3 _ t R3.out p _ A3.out.ok).mono ?_
  rw [Hge.out]
  rintro e4 w4 ⟨ga,gv,rfl,hg1,hg2,hb4⟩
  obtain ⟨oa,oc,rfl,_,_,_⟩:=id hg1
  obtain ⟨ox,od,rfl,_,_,_⟩:=id hg2
  have A5:=Qh ((A3.out.quiet hb4).past (.cells #[.int .i64 gx.kind,S gx.path,.slice oa gx.attrs.length oc,S gx.target,.int .i64 gx.size,S gx.digest,.slice ox gx.exts.length od] 39))
  have HE5:=Qh (entB (W:=w4) (e:=gx) (va:= .slice oa gx.attrs.length oc) (vx:= .slice ox gx.exts.length od) (t:=39) rfl (Qb _ _))
  have G1:=Qh hg1
  have G2:=Qh hg2
  clear hb4 A3 hg1 hg2
  go_wp2_with fail
  refine (Hvp.out J3 Hk3.out _ A5.out.ok).mono ?_
  rintro e6 w6 ⟨v6,J6,rfl,hb6,hx6,hok6,hr6⟩
  obtain ⟨a6,c6,rfl,_,_,_⟩:=id hr6
  have A6:=Qh (A5.out.ext hb6 hx6 hok6)
  have HE6:=Qh (HE5.out.thru hb6)
  have Hk6:=Qh (hx6.keep A5.out.ok (Qn _))
  have R6:=Qh hr6
  clear hb6 hx6 hok6 hr6 A5 HE5
  obtain ⟨z',va,vx,b,off,cap',hlx,hvv,⟨c0,c1,c2,c3,c4,c5,c6',c7,c8⟩,h1,h2⟩:=Xqg R6.out A6.out.ok r.length (by rw [Hlen.out];omega)
  cases hvv
  obtain rfl:z=z':=(Hlast.out _).symm.trans hlx
  have Heq:=Qh (fun w hw=>Xda J6 gx _ _ va vx (G1.out.mono Hk6.out) (G2.out.mono Hk6.out) (by have:=h1;rw [Hgz.out] at this;exact this) (by have:=h2;rw [Hgz.out] at this;exact this) w hw)
  obtain ⟨aa,ca,rfl,_,_,_⟩:=id h1
  obtain ⟨ax,cx,rfl,_,_,_⟩:=id h2
  obtain ⟨x0,x1,x2,x3,x4,x5,x6⟩:=HE6.out
  rw [Hgz.out] at c2 c3 c4 c5 c6' c7 c8 Heq
  rw [Hlen.out]
  have hlen0:=R6.out.len_le
  rw [Hlen.out] at hlen0
  have hi:IntKind.i64.wrap (((r.length+1:Nat):Int)-1)=(r.length:Int):=by rw [IntWalk.i64_in _ (by omega)];omega
  clear hlx h1 h2
  have c0:=cell_regrown c0
  have c1:=cell_regrown c1
  have c2:=cell_regrown c2
  have c3:=cell_regrown c3
  have c4:=cell_regrown c4
  have c5:=cell_regrown c5
  have c6':=cell_regrown c6'
  have c7:=cell_regrown c7
  have c8:=cell_regrown c8
  have x0:=cell_regrown x0
  have x1:=cell_regrown x1
  have x2:=cell_regrown x2
  have x3:=cell_regrown x3
  have x4:=cell_regrown x4
  have x5:=cell_regrown x5
  have x6:=cell_regrown x6
  go_wp2_with fail
  refine wp_region_quiet_below (by kernel_rfl) (by kernel_rfl) ?_
  repeat (go_big_quiet_step ((with_reducible exact Calls.regrown_of (Heq.out _ (A6.out.ok.below (Qn _) (below_regrown _ _ _))))))
  refine wpQuiet_nil ?_
  intro w7 hwq
  have hb7:Below (w6).heap.size (w6) w7:=by
   obtain ⟨pq,rfl⟩:=hwq
   exact below_regrown _ _ _
  clear hwq
  go_wp2
  go_ret
  exact ⟨rfl,(A6.out.quiet hb7).bel⟩
end Go.Proofs.YtdeknddamidldaaGreatDoor
