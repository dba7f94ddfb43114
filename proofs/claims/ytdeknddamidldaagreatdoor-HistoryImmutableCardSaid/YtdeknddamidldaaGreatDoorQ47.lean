/-
  Walks and laws that the claim's theorem uses: texts LhE, joined; comments out. Conditions: as each theorem says.
-/
import Derived.Test.YtdeknddamidldaaGreatDoorQ44
namespace Go.Proofs.YtdeknddamidldaaGreatDoor
open Go.RowKit
theorem Xn6 {α:Type} {l:List α} {k K:Nat} (h:k≤K):(l.take K).take k=l.take k:=by rw [List.take_take,Nat.min_eq_left h]
theorem Xvs {α:Type} {T:Ty α} {I:IH} {a:Option Addr} {n c:Nat} {l:List α} (h:RdS T I (.slice a n c) l):l.length≤c:=by
 obtain ⟨_,_,e,h1,_,_⟩:=h
 cases e
 exact h1
set_option maxRecDepth 100000 in
set_option maxHeartbeats 4000000 in
theorem Xec (I:IH) (hI:Glob I) (v:Value) (l:List Ses) (hv:RdS tSes I v l) (hwf:∀x∈l,x.Wf) (m:Nat) (hm:m≤255) (p:Bytes) (w:World) (hw:Ok I w):
 Calls Tryz.prog 9 #[v,.int .u8 m,S p] w fun r w'=>r= .returned (.bool true)∧Below w.heap.size w w':=by
 have Hal:=Qh (fun w hw=>Xbx I hI w hw)
 have Hri:=Qh (fun w hw=>Xc2 I v l hv hwf w hw)
 have A0:=Qh (MAt.start hw)
 cases hg:right41 l
 case false=>
  have e1:right41I l=0:=by rw [right41I,hg];rfl
  rw [e1] at Hri
  obtain ⟨ao,cap,rfl,_,_,_⟩:=id hv
  clear e1 hg hv
  go_enter Tryz.func9,Tryz.ntmps9
  go_wp2_with fail
  refine (Hal.out _ A0.out.ok).mono ?_
  rintro e1 w1 ⟨rfl,hb1⟩
  have A1:=Qh (A0.out.quiet hb1)
  clear hb1 A0
  go_wp2_with fail
  refine (Hri.out _ A1.out.ok).mono ?_
  rintro e2 w2 ⟨rfl,hb2⟩
  have A2:=Qh (A1.out.quiet hb2)
  clear hb2 A1
  go_wp2
  go_ret
  exact ⟨rfl,A2.out.bel⟩
 have e1:right41I l=1:=by rw [right41I,hg];rfl
 obtain ⟨⟨hl8,hses,_⟩,hck⟩:=Xdx hwf hg
 rw [e1] at Hri
 by_cases h3:300<p.length
 ·have d3:decide ((300:Int)<(p.length:Int))=true:=Qt (by omega)
  obtain ⟨ao,cap,rfl,_,_,_⟩:=id hv
  clear e1 hg hv h3 hck
  go_enter Tryz.func9,Tryz.ntmps9
  go_wp2_with fail
  refine (Hal.out _ A0.out.ok).mono ?_
  rintro e1 w1 ⟨rfl,hb1⟩
  have A1:=Qh (A0.out.quiet hb1)
  clear hb1 A0
  go_wp2_with fail
  refine (Hri.out _ A1.out.ok).mono ?_
  rintro e2 w2 ⟨rfl,hb2⟩
  have A2:=Qh (A1.out.quiet hb2)
  clear hb2 A1
  go_wp2
  go_ret
  exact ⟨rfl,A2.out.bel⟩
 have d3:decide ((300:Int)<(p.length:Int))=false:=Qf (by omega)
 obtain ⟨K,hK⟩:∃K,m%(l.length+1)=K:=⟨_,rfl⟩
 have hKl:K≤l.length:=by have:=Nat.mod_lt m (show 0<l.length+1 by omega);omega
 have hrem:=Xqt hK
 have hz:¬((l.length:Int)+1=0):=by omega
 have hz2:((l.length:Int)+1==0)=false:=by simpa using hz
 have hK0:(0:Int)≤(K:Int):=by omega
 have hK1:(K:Int)≤(l.length:Int):=by omega
 have hll:(l.take K).length=K:=by simp;omega
 obtain ⟨ao,cap,rfl,hcap,_,_⟩:=id hv
 have hK2:(K:Int)≤(cap:Int):=by omega
 have hck2:=Xnt hck K
 have htw:∀x∈l.take K,SesG x:=fun x hx=>hses x (List.mem_of_mem_take hx)
 have hk1:=Xfb hck
 have hk2:=Xfb hck2
 have Hct:=Qh (fun w hw=>Xfe I hI (.slice ao K cap) (l.take K) (hv.takeS hKl) htw (by rw [hll];omega) w hw)
 rw [hck2] at Hct
 have Hv:=Qh hv
 have Ht1:=Qh (fun (k:Nat) (hk:k≤K) (J:IH) (hkp:∀b c,I b=some c→J b=some c) (w:World) (hw:Ok J w)=>by
  have h:=Xfu J (hI.mono hkp) (.slice ao l.length cap) l (Hv.out.mono hkp) hses (by omega) k w hw
  rw [Xjd (Nat.le_trans hk hKl)] at h
  exact h)
 have Ht2:=Qh (fun (k:Nat) (hk:k≤K) (J:IH) (hkp:∀b c,I b=some c→J b=some c) (w:World) (hw:Ok J w)=>by
  have h:=Xfu J (hI.mono hkp) (.slice ao K cap) (l.take K) ((Hv.out.mono hkp).takeS hKl) htw (by rw [hll];omega) k w hw
  rw [Xjd (by rw [hll];exact hk),Xn6 hk] at h
  exact h)
 have Hh1:=Qh (fun (k:Nat) (hk:k≤K) (J:IH) (hkp:∀b c,I b=some c→J b=some c) (w:World) (hw:Ok J w)=>by
  have h:=Xjx J (hI.mono hkp) (.slice ao l.length cap) l (Hv.out.mono hkp) hses (by omega) k w hw
  rw [Xln (Nat.le_trans hk hKl)] at h
  exact h)
 have Hh2:=Qh (fun (k:Nat) (hk:k≤K) (J:IH) (hkp:∀b c,I b=some c→J b=some c) (w:World) (hw:Ok J w)=>by
  have h:=Xjx J (hI.mono hkp) (.slice ao K cap) (l.take K) ((Hv.out.mono hkp).takeS hKl) htw (by rw [hll];omega) k w hw
  rw [Xln (by rw [hll];exact hk),Xn6 hk] at h
  exact h)
 have Hv1:=Qh (fun J (hkp:∀b c,I b=some c→J b=some c) w hw=>Xcj J (hI.mono hkp) (.slice ao l.length cap) l (Hv.out.mono hkp) hses (by omega) hk1 p (by omega) w hw)
 have Hv2:=Qh (fun J (hkp:∀b c,I b=some c→J b=some c) w hw=>Xcj J (hI.mono hkp) (.slice ao K cap) (l.take K) ((Hv.out.mono hkp).takeS hKl) htw (by rw [hll];omega) hk2 p (by omega) w hw)
 obtain ⟨r,hr1,hr2⟩:=Xsq hck K p
 obtain ⟨ws,hws⟩:∃ws,verP (l.take K) p=ws:=⟨_,rfl⟩
 rw [hws] at Hv2 hr1
 rw [hr1] at Hv1
 have Hr2:=Qh hr2
 clear e1 hg hv h3 hck hK hws hr1 hr2 hck2 hk1 hk2 htw hll hcap
 go_enter Tryz.func9,Tryz.ntmps9
 go_wp2_with fail
 refine (Hal.out _ A0.out.ok).mono ?_
 rintro e1 w1 ⟨rfl,hb1⟩
 have A1:=Qh (A0.out.quiet hb1)
 clear hb1 A0
 go_wp2_with fail
 refine (Hri.out _ A1.out.ok).mono ?_
 rintro e2 w2 ⟨rfl,hb2⟩
 have A2:=Qh (A1.out.quiet hb2)
 clear hb2 A1
 go_wp2_with fail
 refine (Hct.out _ A2.out.ok).mono ?_
 rintro e3 w3 ⟨rfl,hb3⟩
 have A3:=Qh (A2.out.quiet hb3)
 clear hb3 A2
 go_wp2_with fail
 go_loopw [9] (fun s9 wr=> ∃(k:Nat) (J:IH),k≤K+1∧s9= .int .i64 k∧MAt I w J wr) (fun i _=>K+1-(intOf i).toNat)
 case atStart=>exact ⟨0,I,Nat.zero_le _,rfl,A3.out⟩
 case round=>
  clear A3 Hal Hri Hct
  obtain ⟨k,J10,hk,rfl,hA⟩:=hrel
  have A10:=Qh hA
  clear hA
  by_cases hlt:k≤K
  ·have dk:decide ((k:Int)≤(K:Int))=true:=Qt (by omega)
   have Ht1':=Qh (Ht1.out k hlt)
   have Ht2':=Qh (Ht2.out k hlt)
   have Hh1':=Qh (Hh1.out k hlt)
   have Hh2':=Qh (Hh2.out k hlt)
   generalize (aftS nilS (l.take k)).tree=t at Ht1' Ht2'
   generalize (aftS nilS (l.take k)).holds=ho at Hh1' Hh2'
   clear Ht1 Ht2 Hh1 Hh2 Hv1 Hv2 Hr2
   go_wp2_with fail
   refine (Ht1'.out J10 A10.out.keep _ A10.out.ok).mono ?_
   rintro e11 w11 ⟨v11,J11,rfl,hb11,hx11,hok11,hr11⟩
   obtain ⟨a11,c11,rfl,_,_,_⟩:=id hr11
   have A11:=Qh (A10.out.ext hb11 hx11 hok11)
   have Hk11:=Qh (hx11.keep A10.out.ok (Qn _))
   have R11:=Qh hr11
   clear hb11 hx11 hok11 hr11 A10
   go_wp2_with fail
   refine (Ht2'.out J11 A11.out.keep _ A11.out.ok).mono ?_
   rintro e12 w12 ⟨v12,J12,rfl,hb12,hx12,hok12,hr12⟩
   obtain ⟨a12,c12,rfl,_,_,_⟩:=id hr12
   have A12:=Qh (A11.out.ext hb12 hx12 hok12)
   have Hk12:=Qh (hx12.keep A11.out.ok (Qn _))
   have R12:=Qh hr12
   clear hb12 hx12 hok12 hr12 A11
   have Hsm:=Qh (fun w hw=>Xir J12 _ _ t t (R11.out.mono Hk12.out) R12.out w hw)
   rw [Qt (rfl:t=t)] at Hsm
   go_wp2_with fail
   refine (Hsm.out _ A12.out.ok).mono ?_
   rintro e13 w13 ⟨rfl,hb13⟩
   have A13:=Qh (A12.out.quiet hb13)
   clear hb13 A12
   go_wp2_with fail
   refine (Hh1'.out J12 A13.out.keep _ A13.out.ok).mono ?_
   rintro e14 w14 ⟨v14,J14,rfl,hb14,hx14,hok14,hr14⟩
   obtain ⟨a14,c14,rfl,_,_,_⟩:=id hr14
   have A14:=Qh (A13.out.ext hb14 hx14 hok14)
   have Hk14:=Qh (hx14.keep A13.out.ok (Qn _))
   have R14:=Qh hr14
   clear hb14 hx14 hok14 hr14 A13
   go_wp2_with fail
   refine (Hh2'.out J14 A14.out.keep _ A14.out.ok).mono ?_
   rintro e15 w15 ⟨v15,J15,rfl,hb15,hx15,hok15,hr15⟩
   obtain ⟨a15,c15,rfl,_,_,_⟩:=id hr15
   have A15:=Qh (A14.out.ext hb15 hx15 hok15)
   have Hk15:=Qh (hx15.keep A14.out.ok (Qn _))
   have R15:=Qh hr15
   clear hb15 hx15 hok15 hr15 A14
   have Hsh:=Qh (fun w hw=>Xiq J15 _ _ ho ho (R14.out.mono Hk15.out) R15.out w hw)
   rw [Qt (rfl:ho=ho)] at Hsh
   go_wp2_with fail
   refine (Hsh.out _ A15.out.ok).mono ?_
   rintro e16 w16 ⟨rfl,hb16⟩
   have A16:=Qh (A15.out.quiet hb16)
   clear hb16 A15
   have hwr:IntKind.i64.wrap ((k:Int)+1)=((k+1:Nat):Int):=by rw [IntWalk.i64_in _ (by omega)];omega
   go_wp2
   go_roundw
   case rel=>exact ⟨k+1,J15,by omega,by go_num,A16.out⟩
   case measure=>simp [intOf];omega
  ·have dk:decide ((k:Int)≤(K:Int))=false:=Qf (by omega)
   clear Ht1 Ht2 Hh1 Hh2
   obtain ⟨vs,hvs⟩:∃vs,ws++r=vs:=⟨_,rfl⟩
   have hvl:vs.length=ws.length+r.length:=by rw [←hvs,List.length_append]
   have Htk:=Qh (show vs.take ws.length=ws by rw [←hvs,List.take_left])
   have Hgt:=Qh (show ∀h:ws.length<vs.length,(K:Int)<vs[ws.length].s from fun h=>by
    subst hvs
    rw [List.getElem_append_right (Qn _)]
    exact Hr2.out _ (List.getElem_mem _))
   rw [hvs] at Hv1
   clear hvs Hr2
   go_wp2_with fail
   refine (Hv1.out J10 A10.out.keep _ A10.out.ok).mono ?_
   rintro e11 w11 ⟨v11,J11,rfl,hb11,hx11,hok11,hr11⟩
   obtain ⟨a11,c11,rfl,_,_,_⟩:=id hr11
   have A11:=Qh (A10.out.ext hb11 hx11 hok11)
   have Hk11:=Qh (hx11.keep A10.out.ok (Qn _))
   have R11:=Qh hr11
   clear hb11 hx11 hok11 hr11 A10
   go_wp2_with fail
   refine (Hv2.out J11 A11.out.keep _ A11.out.ok).mono ?_
   rintro e12 w12 ⟨v12,J12,rfl,hb12,hx12,hok12,hr12⟩
   obtain ⟨a12,c12,rfl,_,_,_⟩:=id hr12
   have A12:=Qh (A11.out.ext hb12 hx12 hok12)
   have Hk12:=Qh (hx12.keep A11.out.ok (Qn _))
   have R12:=Qh hr12
   clear hb12 hx12 hok12 hr12 A11
   have hc11:=Xvs R11.out
   have hlen0:=R11.out.len_le
   have d17:decide ((vs.length:Int)<(ws.length:Int))=false:=Qf (by omega)
   have hw0:(0:Int)≤(ws.length:Int):=by omega
   have hw1:(ws.length:Int)≤(c11:Int):=by omega
   have R11':=(R11.out.mono Hk12.out).takeS (show ws.length≤vs.length by omega)
   rw [Htk.out] at R11'
   have Hve:=Qh (fun w hw=>Xcp J12 _ _ ws R11' R12.out w hw)
   clear R11'
   go_wp2_with fail
   refine (Hve.out _ A12.out.ok).mono ?_
   rintro e13 w13 ⟨rfl,hb13⟩
   have A13:=Qh (A12.out.quiet hb13)
   clear hb13 A12
   by_cases hr0:r.length=0
   ·have heq:((vs.length:Int)==(ws.length:Int))=true:=by rw [hvl,hr0];simp
    go_wp2
    go_ret
    exact ⟨rfl,A13.out.bel⟩
   ·have heq:((vs.length:Int)==(ws.length:Int))=false:=by simp;omega
    have hix:ws.length<vs.length:=by omega
    have hix2:(ws.length:Int)<(vs.length:Int):=by omega
    obtain ⟨z,va,vx,b,off,cap',hlx,hvv,⟨c0,c1,c2,c3,c4,c5,c6',c7,c8⟩,h1,h2⟩:=Xqg (R11.out.mono Hk12.out) A13.out.ok ws.length hix
    cases hvv
    have hgt:=Hgt.out hix
    rw [hlx] at hgt
    have dg:decide ((K:Int)<z.s)=true:=Qt hgt
    clear hlx h1 h2
    go_wp2
    go_ret
    exact ⟨rfl,A13.out.bel⟩
end Go.Proofs.YtdeknddamidldaaGreatDoor
