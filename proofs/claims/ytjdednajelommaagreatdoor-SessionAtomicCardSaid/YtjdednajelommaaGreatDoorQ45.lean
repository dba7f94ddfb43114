/-
  Walks and laws that the claim's theorem uses: texts SoF SoM, joined; comments out. Conditions: as each theorem says.
-/
import Derived.Test.YtjdednajelommaaGreatDoorQ38
import Derived.Test.YtjdednajelommaaGreatDoorQ39
set_option linter.unusedSimpArgs false
set_option linter.unusedVariables false
namespace Go.Proofs.YtjdednajelommaaGreatDoor
open Go.RowKit
theorem WrB.ext {J J':IH} {w w':World} {B:Nat} {d:Drf} {ve vk vt vh:Value} (h:WrB J w B d ve vk vt vh) (hb:Below w.heap.size w w') (hx:Ext w.heap.size J J') (hok:Ok J' w'):WrB J' w' B d ve vk vt vh:=
 ⟨hok,(hx _ h.lt).trans h.no,h.rd.mono (fun b c hc=>hx.keep h.ok (Qn _) b c hc),(hb.block _ h.lt).trans h.row⟩
theorem WrB.own {J:IH} {w w':World} {B:Nat} {d:Drf} {ve vk vt vh:Value} (h:WrB J w B d ve vk vt vh) {g:Nat} (hg:w.grownBy w' (some g)) (hn:J g=none) (hne:B≠g):WrB J w' B d ve vk vt vh:=
 ⟨h.ok.grown hg (fun k e=>by injection e with e;subst e;exact hn),h.no,h.rd,(hg.block _ h.lt (fun e=>by injection e with e;exact hne e)).trans h.row⟩
abbrev wqL (d dn:Drf) (ve vk vt vh:Value) (b off n lc k:Nat) (c:Chg) (va:Value) (rn:Int) (x:((Option Addr × Nat) × (Option Addr × Nat) × (Option Addr × Nat) × (Option Addr × Nat)) × Nat):List (Option Tmp × Value):=
 [(some 33,drV d ve vk vt vh),(some 34,.slice (some ⟨b,off,none⟩) n lc),(some 35,.int .i64 (k:Int)),(some 36,.pointer (some ⟨b,off+k*5,none⟩)),(some 37,chgV c va),(some 38,.tuple #[drV dn (.slice x.1.1.1 dn.ents.length x.1.1.2) (.slice x.1.2.1.1 dn.sto.cks.length x.1.2.1.2) (.slice x.1.2.2.1.1 dn.tree.length x.1.2.2.1.2) (.slice x.1.2.2.2.1 dn.holds.length x.1.2.2.2.2),.int .i64 rn]),(some 32,.tuple #[drV dn (.slice x.1.1.1 dn.ents.length x.1.1.2) (.slice x.1.2.1.1 dn.sto.cks.length x.1.2.1.2) (.slice x.1.2.2.1.1 dn.tree.length x.1.2.2.1.2) (.slice x.1.2.2.2.1 dn.holds.length x.1.2.2.2.2),.int .i64 rn]),(some 39,drV dn (.slice x.1.1.1 dn.ents.length x.1.1.2) (.slice x.1.2.1.1 dn.sto.cks.length x.1.2.1.2) (.slice x.1.2.2.1.1 dn.tree.length x.1.2.2.1.2) (.slice x.1.2.2.2.1 dn.holds.length x.1.2.2.2.2)),(some 40,.int .i64 rn),(some 12,.pointer (some ⟨x.2,0,none⟩)),(none,undef),(some 13,.int .i64 rn)]
abbrev wsL (ai dt sp:Int) (so:Option Addr) (sc:Nat) (L L2:List Ses) (d:Drf) (ve vk vt vh:Value) (x:(Option Addr × Nat) × (Option Addr × Nat) × Nat):List (Option Tmp × Value):=
 [(some 48,arcV ai dt sp (.slice so L.length sc)),(some 49,drV d ve vk vt vh),(some 50,sesV (closeP d) (.slice x.1.1 (closeP d).ents.length x.1.2)),(some 51,.tuple #[arcV ai dt sp (.slice x.2.1.1 L2.length x.2.1.2),.int .i64 0]),(some 47,.tuple #[arcV ai dt sp (.slice x.2.1.1 L2.length x.2.1.2),.int .i64 0]),(some 52,arcV ai dt sp (.slice x.2.1.1 L2.length x.2.1.2)),(some 53,.int .i64 0),(some 14,.pointer (some ⟨x.2.2,0,none⟩)),(none,undef),(some 15,.int .i64 0)]
abbrev maL (d dn:Drf) (ve vk vt vh:Value) (b off n lc k:Nat) (c:Chg) (va:Value) (rn:Int) (x:((Option Addr × Nat) × (Option Addr × Nat) × (Option Addr × Nat) × (Option Addr × Nat)) × Nat):List (Option Tmp × Value):=
 [(some 65,drV d ve vk vt vh),(some 66,.slice (some ⟨b,off,none⟩) n lc),(some 67,.int .i64 (k:Int)),(some 68,.pointer (some ⟨b,off+k*5,none⟩)),(some 69,chgV c va),(some 70,.tuple #[drV dn (.slice x.1.1.1 dn.ents.length x.1.1.2) (.slice x.1.2.1.1 dn.sto.cks.length x.1.2.1.2) (.slice x.1.2.2.1.1 dn.tree.length x.1.2.2.1.2) (.slice x.1.2.2.2.1 dn.holds.length x.1.2.2.2.2),.int .i64 rn]),(some 64,.tuple #[drV dn (.slice x.1.1.1 dn.ents.length x.1.1.2) (.slice x.1.2.1.1 dn.sto.cks.length x.1.2.1.2) (.slice x.1.2.2.1.1 dn.tree.length x.1.2.2.1.2) (.slice x.1.2.2.2.1 dn.holds.length x.1.2.2.2.2),.int .i64 rn]),(some 71,drV dn (.slice x.1.1.1 dn.ents.length x.1.1.2) (.slice x.1.2.1.1 dn.sto.cks.length x.1.2.1.2) (.slice x.1.2.2.1.1 dn.tree.length x.1.2.2.1.2) (.slice x.1.2.2.2.1 dn.holds.length x.1.2.2.2.2)),(some 72,.int .i64 rn),(some 14,.pointer (some ⟨x.2,0,none⟩)),(none,undef),(some 15,.int .i64 rn)]
theorem Xck {d dn:Drf} {ve vk vt vh:Value} {b off n lc k:Nat} {c:Chg} {va:Value} {rn:Int} {x:((Option Addr × Nat) × (Option Addr × Nat) × (Option Addr × Nat) × (Option Addr × Nat)) × Nat}:ApartF (maL d dn ve vk vt vh b off n lc k c va rn x):=by
 unfold ApartF
 simp
abbrev mbL (BX BA b off n2 sc8:Nat) (so:Option Addr) (n sc:Nat) (s:Ses) (vE:Value) (d:Drf) (ve vk vt vh:Value) (co:Option Addr) (cl cc:Nat) (x:Option Addr × Nat):List (Option Tmp × Value):=
 [(some 98,.int .i64 0),(some 99,.bool true),(some 100,.bool true),(some 101,.int .i64 (cl:Int)),(some 102,.slice co cl cc),(some 103,.int .i64 (cl:Int)),(some 104,.bool true),(some 105,.bool true),(some 106,.bool true),(some 107,.pointer (some ⟨BX,3,none⟩)),(some 108,.slice (some ⟨b,off,none⟩) n2 sc8),(some 109,.int .i64 (n2:Int)),(some 110,.pointer (some ⟨BA,3,none⟩)),(some 111,.slice so n sc),(some 112,.int .i64 (n:Int)),(some 113,.int .i64 ((n:Int)+1)),(some 114,.bool true),(some 115,.bool true),(some 116,.bool true),(some 117,.pointer (some ⟨BX,3,none⟩)),(some 118,.slice (some ⟨b,off,none⟩) n2 sc8),(some 119,.pointer (some ⟨BA,3,none⟩)),(some 120,.slice so n sc),(some 121,.int .i64 (n:Int)),(some 122,.pointer (some ⟨b,off+n*6,none⟩)),(some 123,sesV s vE),(some 124,drV d ve vk vt vh),(some 125,sesV s (.slice x.1 s.ents.length x.2)),(some 126,.bool true),(some 127,.bool true),(some 128,.bool true),(some 129,.bool true),(some 130,.bool true),(some 6,.bool true)]
theorem Xc7 {BX BA b off n2 sc8:Nat} {so:Option Addr} {n sc:Nat} {s:Ses} {vE:Value} {d:Drf} {ve vk vt vh:Value} {co:Option Addr} {cl cc:Nat} {x:Option Addr × Nat}:ApartF (mbL BX BA b off n2 sc8 so n sc s vE d ve vk vt vh co cl cc x):=by
 unfold ApartF
 simp
set_option maxRecDepth 100000 in
set_option maxHeartbeats 8000000 in
theorem Xfw (I:IH) (hI:Glob I) (v:Value) (l:List Bat) (hv:RdS tBat I v l) (hwf:∀b∈l,b.In) (hll:(l.length+1)*32≤140737488355328) (date:Int) (vc:Value) (cs:List Chg) (hvc:RdS tChg I vc cs) (hcw:∀c∈cs,c.In) (w:World) (hw:Ok I w):
 Calls Tryz.prog 6 #[v,.int .i64 date,vc] w fun r w'=>r= .returned (.bool true)∧Below w.heap.size w w':=by
 have Haw:=Qh (fun J (hk:∀b c,I b=some c→J b=some c) w hw=>Xep J (hI.mono hk) w hw)
 have HG:=Qh hI
 have Hv:=Qh hv
 have Hvc:=Qh hvc
 obtain ⟨ao,cap,rfl,_,_,_⟩:=id hv
 obtain ⟨co,cc,rfl,_,_,_⟩:=id hvc
 have hcl:=hvc.len_le
 clear hv hI hvc
 go_enter Tryz.func6,Tryz.ntmps6
 have hO0:=Qh (Xdj (T:=tBat) (E:=36) (I:=I) w)
 have hb0:Below w.heap.size w (w.alloc (.cells #[] 36)):=(Qb _ _).alloc (Qn _) _
 go_wp2_with (at_builtin
              first
              |(refine Xbi Xom rfl _ _ rfl (B:=w.heap.size) rfl hO0.out (vx:= .slice ao l.length cap) (by simp [Act.eval]) (SrcS.of_rd Hv.out (hw.alloc _) (by decide)) (by simp;omega) (by simp;omega) (by simp) ?_
                intro va wa hoa hga hla
                have HOA:=Qh hoa
                have hsa:=hga.size)
              |(refine Xbi Xom rfl _ _ rfl (B:=w.heap.size) rfl (HOA.out.alloc _) (vx:= .slice (some ⟨wa.heap.size,0,none⟩) 1 1) (by simp [Act.eval]) (SrcS.of_one (T:=tBat) (x:=⟨0,cs⟩) (cs:= [.int .i64 0,.slice co cs.length cc]) ⟨_,rfl,Hvc.out⟩ (fun j u hu=>by rw [World.cell?_alloc_new];simpa using hu)) (by simp;omega) (by simp;omega) (by simp at hsa ⊢;omega) ?_
                intro vb wb hob hgb hlb
                have HOB:=Qh hob))
 have hokA:=Ok.own (hw.alloc _) hga hO0.out (fun b hb=>hw.fresh hb)
 have hbA:=Below.own hb0 hga hO0.out (Qn _) (by simp)
 have hokB:=Ok.own (hokA.alloc _) hgb (HOA.out.alloc _) (fun b hb=>hw.fresh hb)
 have hbB:=Below.own (hbA.alloc hbA.size _) hgb (HOA.out.alloc _) (Qn _) (by have:=hbA.size;simp;omega)
 obtain ⟨J0,hx0,hok0,hr0,_⟩:=HOB.out.freeze hokB (fun b hb=>hw.fresh hb)
 have A0:=Qh (show MAt I w J0 wb from ⟨hok0,hx0.keep hw (Qn _),hbB⟩)
 have Hr0:=Qh (show RdS tBat J0 vb (l++ [⟨0,cs⟩]) from hr0)
 clear hokA hbA hokB hbB hx0 hok0 hr0 hga hgb hla hlb hoa hob HOA HOB hO0 hb0 hsa
 refine (Xg5 J0 _ _ Hr0.out wb A0.out.ok).mono ?_
 rintro e1 w1 ⟨rfl,hb1⟩
 have A1:=Qh (A0.out.quiet hb1)
 clear hb1 A0 Hr0
 cases hg:gr39 (l++ [⟨0,cs⟩])
 case true=>
  have e1:gr39I (l++ [⟨0,cs⟩])=1:=by rw [gr39I,hg];rfl
  rw [e1]
  clear e1 hg
  go_wp2_with fail
  refine (Haw.out J0 A1.out.keep _ A1.out.ok).mono ?_
  rintro e2 w2 ⟨rfl,hb2⟩
  have A2:=Qh (A1.out.quiet hb2)
  clear hb2 A1
  go_wp2
  go_ret
  exact ⟨rfl,A2.out.bel⟩
 have e1:gr39I (l++ [⟨0,cs⟩])=0:=by rw [gr39I,hg];rfl
 rw [e1]
 obtain ⟨hsm,htot,hl4⟩:=Xm8 (l:=l++ [⟨0,cs⟩]) (Xxa hwf hcw) hg
 have htot:totC l+cs.length≤10:=by rw [Xen] at htot;simpa [totC] using htot
 have hl4:l.length≤3:=by simp at hl4;omega
 have Hsm:=Qh (fun b hb=>hsm b (List.mem_append_left _ hb))
 have Hcm:=Qh (hsm ⟨0,cs⟩ (by simp))
 have Hwt:=Qh (Xhf J0 (HG.out.mono A1.out.keep) _ l (Hv.out.mono A1.out.keep) Hsm.out (by omega) (by omega) w1 A1.out.ok)
 have HA:=Qh (Xnl (l:=l) (fun b hb c h=>by have:=(Hsm.out b hb c h).content;omega) (by omega) (by omega))
 obtain ⟨L,hL⟩:∃L,wrtsP [] l=L:=⟨_,rfl⟩
 rw [hL] at Hwt HA
 clear e1 hg hsm hL hwf hcw
 go_wp2_with fail
 refine Hwt.out.mono ?_
 rintro e2 w2 ⟨vs,J2,rfl,hb2,hx2,hok2,hrd2⟩
 obtain ⟨so,sc,rfl,_,_,_⟩:=id hrd2
 have A2:=Qh (A1.out.ext hb2 hx2 hok2)
 have hf2:J2 w2.heap.size=none:=hok2.fresh (Qn _)
 have HL:=Qh hrd2
 clear hb2 hx2 hok2 hrd2 A1 Hwt
 go_upto_region 4 with (
  refine Xab rfl rfl 30 _ _ rfl w2.heap.size 0 [.int .u32 7,.int .i64 2,.int .i64 1,.slice so L.length sc] (arcV 7 2 1 (.slice so L.length sc)) (by simp [Act.eval]) (by simp [Act.eval]) (by rfl) zeroA 30 (heap_alloc_new _ _) (by simp) (by kernel_rfl) (by simp [Value.oneCell']) #[.int .u32 7,.int .i64 2,.int .i64 1,.slice so L.length sc] (by rfl) ?_
  intro w3 hg3 hr3)
 have hb3:Below w2.heap.size w2 w3:=((Qb _ _).alloc (Qn _) _).grown hg3 (by simp) (fun k e=>by injection e with e;omega)
 have A3:=Qh (A2.out.quiet hb3)
 have X3:=Qh (show ArB J2 w3 w2.heap.size 7 2 1 (.slice so L.length sc) L from ⟨hf2,HL.out,hr3⟩)
 obtain ⟨z0,z1,z2,z3⟩:=Xag X3.out.row
 obtain ⟨L2,cnt,r2,hL2⟩:∃L2 cnt r2,wrtP L date cs=(L2,cnt,r2):=⟨_,_,_,rfl⟩
 have hW1:=Xge J2 (HG.out.mono A3.out.keep) 7 2 1 L HA.out cs (by omega) (by omega) _ HL.out date _ (Hvc.out.mono A3.out.keep) (fun c h=>⟨(Hcm.out c h).wf,by have:=(Hcm.out c h).nattrs;omega,by have:=(Hcm.out c h).content;omega⟩) w3 A3.out.ok
 rw [hL2] at hW1
 have HW1:=Qh (show Calls Tryz.prog 14 #[arcV 7 2 1 (.slice so L.length sc),.int .i64 date,.slice co cs.length cc] w3 (fun e w'=> ∃vs J,e= .returned (.tuple #[arcV 7 2 1 vs,.int .i64 cnt,.int .i64 r2])∧Below w3.heap.size w3 w'∧Ext w3.heap.size J2 J∧Ok J w'∧RdS tSes J vs L2) from hW1)
 have HL2:=Qh hL2
 obtain ⟨BA,hBA⟩:∃B,B=w2.heap.size:=⟨_,rfl⟩
 have hBAw:w.heap.size≤BA:=by have:=A2.out.size;omega
 rw [←hBA] at X3 z0 z1 z2 z3 ⊢
 clear hg3 hr3 hb3 A2 hf2 hW1 hL2 hBA
 go_wp2_with fail
 refine HW1.out.mono ?_
 rintro e4 w4 ⟨vs4,J4,rfl,hb4,hx4,hok4,hrd4⟩
 obtain ⟨so4,sc4,rfl,_,_,_⟩:=id hrd4
 have A4:=Qh (A3.out.ext hb4 hx4 hok4)
 have X4:=Qh (X3.out.ext A3.out.ok hb4 hx4)
 have hf4:J4 w4.heap.size=none:=hok4.fresh (Qn _)
 have HR4:=Qh hrd4
 clear hb4 hx4 hok4 hrd4 A3 X3 HW1 z0 z1 z2 z3
 go_upto_region 5 with (
  refine Xab rfl rfl 30 _ _ rfl w4.heap.size 0 [.int .u32 7,.int .i64 2,.int .i64 1,.slice so4 L2.length sc4] (arcV 7 2 1 (.slice so4 L2.length sc4)) (by simp [Act.eval]) (by simp [Act.eval]) (by rfl) zeroA 30 (heap_alloc_new _ _) (by simp) (by kernel_rfl) (by simp [Value.oneCell']) #[.int .u32 7,.int .i64 2,.int .i64 1,.slice so4 L2.length sc4] (by rfl) ?_
  intro w5 hg5 hr5)
 have hb5:Below w4.heap.size w4 w5:=((Qb _ _).alloc (Qn _) _).grown hg5 (by simp) (fun k e=>by injection e with e;omega)
 have A5:=Qh (A4.out.quiet hb5)
 have X5:=Qh (X4.out.quiet hb5)
 have Y5:=Qh (show ArB J4 w5 w4.heap.size 7 2 1 (.slice so4 L2.length sc4) L2 from ⟨hf4,HR4.out,hr5⟩)
 obtain ⟨BX,hBX⟩:∃B,B=w4.heap.size:=⟨_,rfl⟩
 have hBXw:w.heap.size≤BX∧BA<BX:=by have:=A4.out.size;have:=X4.out.lt;omega
 rw [←hBX] at Y5 ⊢
 obtain ⟨z0,z1,z2,z3⟩:=Xag X5.out.row
 obtain ⟨dB,eB,hdB⟩:∃dB eB,begP L date=(dB,eB):=⟨_,_,rfl⟩
 have hB1:=Xi7 J4 (HG.out.mono A5.out.keep) 7 2 1 L HA.out (by omega) (by omega) _ X5.out.rd date w5 A5.out.ok
 rw [hdB] at hB1
 dsimp only at hB1
 have HB1:=Qh hB1
 clear hg5 hr5 hb5 hf4 A4 X4 hBX hB1 HR4
 go_wp2_with fail
 refine (HB1.out).mono ?_
 rintro e6 w6 ⟨ve6,vk6,vt6,vh6,J6,rfl,hb6,hx6,hok6,hrd6⟩
 obtain ⟨ae6,ce6,rfl,_,_,_⟩:=id hrd6.ents
 obtain ⟨ak6,ck6,rfl,_,_,_⟩:=id hrd6.cks
 obtain ⟨at6,ct6,rfl,_,_,_⟩:=id hrd6.tree
 obtain ⟨ah6,ch6,rfl,_,_,_⟩:=id hrd6.holds
 go_upto_region 6 with (
  refine Xab rfl rfl 46 _ _ rfl w6.heap.size 0 (drCs dB (.slice ae6 dB.ents.length ce6) (.slice ak6 dB.sto.cks.length ck6) (.slice at6 dB.tree.length ct6) (.slice ah6 dB.holds.length ch6)) (drV dB (.slice ae6 dB.ents.length ce6) (.slice ak6 dB.sto.cks.length ck6) (.slice at6 dB.tree.length ct6) (.slice ah6 dB.holds.length ch6)) (by simp [Act.eval]) (by simp [Act.eval]) (by rfl) zeroD 46 (heap_alloc_new _ _) (by simp) (by kernel_rfl) (by simp [Value.oneCell']) (drCs dB (.slice ae6 dB.ents.length ce6) (.slice ak6 dB.sto.cks.length ck6) (.slice at6 dB.tree.length ct6) (.slice ah6 dB.holds.length ch6)).toArray (by rfl) ?_
  intro w7 hg7 hr7)
 have hb7:Below w6.heap.size w6 w7:=((Qb _ _).alloc (Qn _) _).grown hg7 (by simp) (fun k e=>by injection e with e;omega)
 have hf6:J6 w6.heap.size=none:=hok6.fresh (Qn _)
 have A7:=Qh ((A5.out.ext hb6 hx6 hok6).quiet hb7)
 have X7:=Qh ((X5.out.ext A5.out.ok hb6 hx6).quiet hb7)
 have Y7:=Qh ((Y5.out.ext A5.out.ok hb6 hx6).quiet hb7)
 have D7:=Qh (show WrB J6 w7 w6.heap.size dB _ _ _ _ from ⟨A7.out.ok,hf6,hrd6,hr7⟩)
 obtain ⟨BD,hBD⟩:∃B,B=w6.heap.size:=⟨_,rfl⟩
 have hBDw:w.heap.size≤BD∧BX<BD:=by have:=A5.out.size;have:=Y5.out.lt;have:=hb6.size;omega
 rw [←hBD] at D7 ⊢
 clear hb6 hx6 hok6 hrd6 hg7 hr7 hb7 hf6 A5 X5 Y5 HB1 z0 z1 z2 z3 hBD
 by_cases q:begErr L date=0
 case neg=>
  obtain ⟨_,rfl⟩:=Prod.mk.inj (hdB.symm.trans (Xol q))
  have hw2:=HL2.out.symm.trans (Xp0 cs q)
  obtain ⟨rfl,hw3⟩:=Prod.mk.inj hw2
  obtain ⟨rfl,rfl⟩:=Prod.mk.inj hw3
  have j1:(begErr L2 date != 0)=true:=by simpa using q
  have j2:(begErr L2 date==begErr L2 date)=true:=by simp
  obtain ⟨z0,z1,z2,z3⟩:=Xag X7.out.row
  obtain ⟨y0,y1,y2,y3⟩:=Xag Y7.out.row
  clear hdB q hw2 hw3 HL2
  go_wp2_with fail
  refine (Xe8 J6 7 2 1 L2 _ _ Y7.out.rd X7.out.rd w7 A7.out.ok).mono ?_
  rintro e8 w8 ⟨rfl,hb8⟩
  have A8:=Qh (A7.out.quiet hb8)
  clear hb8 A7
  go_wp2_with fail
  refine (Haw.out J6 A8.out.keep _ A8.out.ok).mono ?_
  rintro e9 w9 ⟨rfl,hb9⟩
  have A9:=Qh (A8.out.quiet hb9)
  clear hb9 A8
  go_wp2
  go_ret
  exact ⟨rfl,A9.out.bel⟩
 obtain ⟨he,rfl⟩:=Prod.mk.inj (hdB.symm.trans (Xnd q))
 have He:=Qh he
 have Hq:=Qh q
 have HdO:=Qh (show DrOk (totC l+0) dB by rw [he];exact Xg9 HA.out (by omega) (by omega) q)
 have Had:=Qh (show addsP dB 0 cs=addsP dB 0 (cs.drop 0) from rfl)
 clear hdB q he
 go_wp2_with fail
 go_loopw [13,14,15,61] (fun _ _ _ s61 wr=> ∃(k:Nat) (J:IH) (d:Drf) (ve vk vt vh v1 v2:Value),k≤cs.length∧s61= .int .i64 k∧MAt I w J wr∧ArB J wr BA 7 2 1 v1 L∧ArB J wr BX 7 2 1 v2 L2∧WrB J wr BD d ve vk vt vh∧DrOk (totC l+k) d∧addsP dB 0 cs=addsP d k (cs.drop k)) (fun _ _ _ i _=>cs.length-(intOf i).toNat)
 case atStart=>exact ⟨0,J6,dB,_,_,_,_,_,_,Nat.zero_le _,rfl,A7.out,X7.out,Y7.out,D7.out,HdO.out,Had.out⟩
 case round=>
  clear A7 X7 Y7 D7 HdO Had
  obtain ⟨k,J,d,ve,vk,vt,vh,v1,v2,hk,rfl,hM,hX,hY,hWA,hdO,had⟩:=hrel
  have M:=Qh hM
  have X:=Qh hX
  have Y:=Qh hY
  have WA:=Qh hWA
  have HdO:=Qh hdO
  have Had:=Qh had
  clear hM hX hY hWA hdO had
  obtain ⟨ae,ce,rfl,_,_,_⟩:=id WA.out.rd.ents
  obtain ⟨ak,ck,rfl,_,_,_⟩:=id WA.out.rd.cks
  obtain ⟨at',ct,rfl,_,_,_⟩:=id WA.out.rd.tree
  obtain ⟨ah,ch,rfl,_,_,_⟩:=id WA.out.rd.holds
  obtain ⟨so1,sc1,rfl,_,_,_⟩:=id X.out.rd
  obtain ⟨so2,sc2,rfl,_,_,_⟩:=id Y.out.rd
  by_cases hlt:k<cs.length
  ·obtain ⟨c,va,b,off,cap',hlc,hvv,⟨d0,d1,d2,d3,d4⟩,hva⟩:=Xsa Hvc.out hw k hlt
   cases hvv
   have hkl:=hlt
   have hcm:=Hcm.out c (by show c∈cs;rw [←hlc];exact List.getElem_mem hlt)
   have hna:c.attrs.length≤1000000:=by have:=hcm.nattrs;omega
   have hst:=Xl6 hlt hlc Had.out
   have hkeep:= @Xuo d c
   have hdo:=Xsl HdO.out (by omega) (show c.content.length≤65536 by have:=hcm.content;omega)
   have had1:=(fun W (hW:Ok J W)=>Xur J (HG.out.mono M.out.keep) d HdO.out (by omega) _ _ _ _ WA.out.rd c hcm.wf hna _ (hva.mono M.out.keep) W hW)
   obtain ⟨dn,rn,hdn⟩:∃dn rn,addP d c=(dn,rn):=⟨_,_,rfl⟩
   rw [hdn] at hdo had1 hst hkeep
   dsimp only at hdo had1 hst hkeep
   have Hdo:=Qh (show DrOk (totC l+(k+1)) dn from hdo)
   have Had1:=Qh had1
   have Hst:=Qh hst
   have Hkeep:=Qh hkeep
   obtain ⟨oa,ca,rfl,_,_,_⟩:=id hva
   have C0:=Qh (show ChgAt w b (off+k*5) c _ from ⟨d0,d1,d2,d3,d4⟩)
   obtain ⟨c0,c1,c2,c3,c4⟩:=C0.out.thru M.out.bel
   obtain ⟨b0,b1,b2,b3,b4,b5,b6,b7,b8⟩:=drB_row (d:=d) WA.out.row
   clear hcm hlc hva hdn had1 hdo hst hkeep d0 d1 d2 d3 d4 HdO Had
   go_wp2_with fail
   refine Xah (X:=((Option Addr × Nat) × (Option Addr × Nat) × (Option Addr × Nat) × (Option Addr × Nat)) × Nat) (maL d dn (.slice ae d.ents.length ce) (.slice ak d.sto.cks.length ck) (.slice at' d.tree.length ct) (.slice ah d.holds.length ch) b off cs.length cc k c (.slice oa c.attrs.length ca) rn) (RgE wr 5 233 224 234 9 235 226 236 (fun x w=>x.2<w.heap.size∧J x.2=none) (fun x w=> ∃J',Ext wr.heap.size J J'∧Ok J' w∧DrRd J' dn (.slice x.1.1.1 dn.ents.length x.1.1.2) (.slice x.1.2.1.1 dn.sto.cks.length x.1.2.1.2) (.slice x.1.2.2.1.1 dn.tree.length x.1.2.2.1.2) (.slice x.1.2.2.2.1 dn.holds.length x.1.2.2.2.2)∧J' x.2=none) (fun _ _=>True) (fun x w=>w.heap[x.2]? =some (.cells zeroD 46 (0,0))∧wr.heap.size≤x.2) (fun _ _=>True) (fun x w=>(∃J',Ext wr.heap.size J J'∧Ok J' w∧DrRd J' dn (.slice x.1.1.1 dn.ents.length x.1.1.2) (.slice x.1.2.1.1 dn.sto.cks.length x.1.2.1.2) (.slice x.1.2.2.1.1 dn.tree.length x.1.2.2.1.2) (.slice x.1.2.2.2.1 dn.holds.length x.1.2.2.2.2)∧J' x.2=none)∧(w.heap[x.2]? =some (.cells zeroD 46 (0,0))∧wr.heap.size≤x.2)) (fun x=>x.2) 46 10 213 214 (fun x=>(drCs dn (.slice x.1.1.1 dn.ents.length x.1.1.2) (.slice x.1.2.1.1 dn.sto.cks.length x.1.2.1.2) (.slice x.1.2.2.1.1 dn.tree.length x.1.2.2.1.2) (.slice x.1.2.2.2.1 dn.holds.length x.1.2.2.2.2)).toArray) (fun x=>(drCs dn (.slice x.1.1.1 dn.ents.length x.1.1.2) (.slice x.1.2.1.1 dn.sto.cks.length x.1.2.1.2) (.slice x.1.2.2.1.1 dn.tree.length x.1.2.2.1.2) (.slice x.1.2.2.2.1 dn.holds.length x.1.2.2.2.2)).toArray) (fun x=>(drCs dn (.slice x.1.1.1 dn.ents.length x.1.1.2) (.slice x.1.2.1.1 dn.sto.cks.length x.1.2.1.2) (.slice x.1.2.2.1.1 dn.tree.length x.1.2.2.1.2) (.slice x.1.2.2.2.1 dn.holds.length x.1.2.2.2.2)).toArray)) (by kernel_rfl) (by kernel_rfl) ?_ ?_ ?_
   ·exact ⟨(default,BD),RgE.start _ _ ⟨WA.out.lt,WA.out.no⟩⟩
   ·rintro x s' a' w' i hsz hcl ha hC hi
    obtain ⟨hun,oi,hoi,hall⟩:=mem_ready.1 hi
    have ev:=Xcv Xck ha
    have hlt:=Xcy hun
    rcases i with _|_|_|_|_|_|_|_|_|_|_|_|i
    rotate_left 12
    ·simp at hoi
    all_goals
     have hoj:=hoi
     simp at hoi
     subst hoi
     simp [Region.binds] at hall
     try have hl:=Xas 6 10 hcl (by decide +kernel) hun
     try have hbw:=hC.off hl
     try have b0:=Xaa hbw b0
     try have b1:=Xaa hbw b1
     try have b2:=Xaa hbw b2
     try have b3:=Xaa hbw b3
     try have b4:=Xaa hbw b4
     try have b5:=Xaa hbw b5
     try have b6:=Xaa hbw b6
     try have b7:=Xaa hbw b7
     try have b8:=Xaa hbw b8
     try have c0:=Xaa hbw c0
     try have c1:=Xaa hbw c1
     try have c2:=Xaa hbw c2
     try have c3:=Xaa hbw c3
     try have c4:=Xaa hbw c4
     refine wpOp_step hoj (fun K' hK=> ?_)
     rw [if_pos (by rfl)]
    rotate_left 3
    ·unfold Oper.wp
     simp [go_sem,ev,evF,hall,Oper.upon,hkl]
     exact hK _ _ ⟨x,Xan Xck ha rfl hun,hC.pure (by decide)⟩
    rotate_left 1
    ·unfold Oper.wp
     simp [go_sem,ev,evF,hall,Oper.upon]
     refine (Had1.out w' (M.out.ok.below (Qn _) hbw)).mono ?_
     rintro r4 w4 ⟨v5,v6,v7,v8,J7,rfl,hb4,hx7,hok7,hr7⟩
     obtain ⟨a5,k5,rfl,_,_,_⟩:=id hr7.ents
     obtain ⟨a6,k6,rfl,_,_,_⟩:=id hr7.cks
     obtain ⟨a7,k7,rfl,_,_,_⟩:=id hr7.tree
     obtain ⟨a8,k8,rfl,_,_,_⟩:=id hr7.holds
     have ha:=ha.trans (Xav (L:=maL d dn (.slice ae d.ents.length ce) (.slice ak d.sto.cks.length ck) (.slice at' d.tree.length ct) (.slice ah d.holds.length ch) b off cs.length cc k c (.slice oa c.attrs.length ca) rn x) (M:=maL d dn (.slice ae d.ents.length ce) (.slice ak d.sto.cks.length ck) (.slice at' d.tree.length ct) (.slice ah d.holds.length ch) b off cs.length cc k c (.slice oa c.attrs.length ca) rn (((a5,k5),(a6,k6),(a7,k7),(a8,k8)),x.2)) [5,6,7] rfl (fun j hne=>by
      rcases j with _|_|_|_|_|_|_|_|_|_|_|_|j<;>first|rfl|(exact absurd (by decide) hne)|simp) (List.forall_mem_cons.2 ⟨Xao hun,List.forall_mem_cons.2 ⟨Xas 6 6 hcl (by kernel_rfl) hun,List.forall_mem_cons.2 ⟨Xas 6 7 hcl (by kernel_rfl) hun,List.forall_mem_nil _⟩⟩⟩))
     exact hK _ _ ⟨(((a5,k5),(a6,k6),(a7,k7),(a8,k8)),x.2),Xan Xck ha rfl hun,hC.step hl (hbw.trans (hb4.mono hbw.size)) (by decide) (fun h=>⟨Nat.lt_of_lt_of_le h.1 hb4.size,h.2⟩) (fun _ _=>⟨J7,fun b hb=>hx7 b (Nat.lt_of_lt_of_le hb hbw.size),hok7,hr7,(hx7 _ (hC.inv hl).1).trans (hC.inv hl).2⟩) (fun _ _=>trivial) (fun h _=>h.elim (fun e=>absurd e (by decide)) (fun ⟨_,_,q⟩=>⟨(hb4.block _ (Array.getElem?_eq_some_iff.1 q.1).1).trans q.1,q.2⟩)) (fun _ _=>trivial) hlt⟩
    rotate_left 3
    ·unfold Oper.wp
     simp [go_sem,ev,evF,hall,Oper.upon,b0,b1,b2,b3,b4,b5,b6,b7,b8,c0,c1,c2,c3,c4,hkl]
     have ha:=ha.trans (Xav (L:=maL d dn (.slice ae d.ents.length ce) (.slice ak d.sto.cks.length ck) (.slice at' d.tree.length ct) (.slice ah d.holds.length ch) b off cs.length cc k c (.slice oa c.attrs.length ca) rn x) (M:=maL d dn (.slice ae d.ents.length ce) (.slice ak d.sto.cks.length ck) (.slice at' d.tree.length ct) (.slice ah d.holds.length ch) b off cs.length cc k c (.slice oa c.attrs.length ca) rn (x.1,w'.heap.size)) [9] rfl (fun j hne=>by
      rcases j with _|_|_|_|_|_|_|_|_|_|_|_|j<;>first|rfl|(exact absurd (by decide) hne)|simp) (List.forall_mem_cons.2 ⟨Xao hun,List.forall_mem_nil _⟩))
     exact hK _ _ ⟨(x.1,w'.heap.size),Xan Xck ha rfl hun,hC.step hl (hbw.trans (((Qb _ _).alloc (Qn _) _).mono hbw.size)) (by decide) (fun _=>⟨by simp,M.out.ok.fresh hbw.size⟩) (fun h _=>h.elim (fun e=>absurd e (by decide)) (fun ⟨_,_,q⟩=>(q.elim fun J9 h9=>⟨J9,h9.1,h9.2.1.below (Qn _) ((Qb w'.heap.size w').alloc (Qn _) (.cells zeroD 46)),h9.2.2.1,h9.2.1.fresh (Qn _)⟩))) (fun _ _=>trivial) (fun _ _=>⟨heap_alloc_new _ _,hbw.size⟩) (fun _ _=>trivial) hlt⟩
    ·have hrow:w'.heap[x.2]? =some (.cells _ 46 (0,0)):=(hC.f3 (by first|simpa using hall|simp [hall]) (Xak (by simp [hsz])) hl).1
     refine Xaj 46 _ _ rfl (x.2) 0 (drCs dn (.slice x.1.1.1 dn.ents.length x.1.1.2) (.slice x.1.2.1.1 dn.sto.cks.length x.1.2.1.2) (.slice x.1.2.2.1.1 dn.tree.length x.1.2.2.1.2) (.slice x.1.2.2.2.1 dn.holds.length x.1.2.2.2.2)) (drV dn (.slice x.1.1.1 dn.ents.length x.1.1.2) (.slice x.1.2.1.1 dn.sto.cks.length x.1.2.1.2) (.slice x.1.2.2.1.1 dn.tree.length x.1.2.2.1.2) (.slice x.1.2.2.2.1 dn.holds.length x.1.2.2.2.2)) (by simp [Act.eval,ev,evF,hall]) (by simp [Act.eval,ev,evF,hall]) (by rfl) _ _ hrow (by simp) (by kernel_rfl) (by simp [Value.oneCell']) ?_
     exact hK _ _ ⟨x,Xad (d:=none) (v:=undef) Xck ha rfl hun,hC.put1 hun ⟨hC.f1 (by first|simpa using hall|simp [hall]) (Xak (by simp [hsz])) hl,hC.f3 (by first|simpa using hall|simp [hall]) (Xak (by simp [hsz])) hl⟩ (Xak (by simp [hsz])) (Xak (by simp [hsz])) (by decide) hrow (by rfl)⟩
    all_goals
     unfold Oper.wp
     first
     |(simp [go_sem,ev,evF,hall,Oper.upon,b0,b1,b2,b3,b4,b5,b6,b7,b8,c0,c1,c2,c3,c4,hkl];exact hK _ _ ⟨x,Xan Xck ha rfl hun,hC.pure (by decide)⟩)
     |(simp [go_sem,ev,evF,Oper.upon,b0,b1,b2,b3,b4,b5,b6,b7,b8,c0,c1,c2,c3,c4,hkl];exact hK _ _ ⟨x,Xan Xck ha rfl hun,hC.pure (by decide)⟩)
   ·rintro x s' a' w6 hup ha hC
    obtain ⟨wb,hbW,hFin,hgr,hrow⟩:=hC.on (hup 10 (by decide))
    simp only [ite_self] at hrow
    rw [Xa1 _ _ _ _ (fun i hi=>by rw [Nat.zero_add];exact hup i (by simpa using hi))] at ha
    subst ha
    simp only [fillAll,Act.put,List.setIfInBounds_toArray,List.set_cons_succ,List.set_cons_zero]
    obtain ⟨⟨⟨ve6,vf6⟩,⟨vk6,vl6⟩,⟨vt6,vu6⟩,⟨vh6,vi6⟩⟩,bx6⟩:=x
    dsimp only at hFin hgr hrow ⊢
    obtain ⟨⟨J9,hx9,hok9,hr9,hn9⟩,hbox,hbl⟩:=hFin
    have hlb1:=WA.out.lt
    have hwz:=M.out.size
    have M6:=Qh ((M.out.ext hbW hx9 hok9).own hgr hn9 (by omega))
    have X6:=Qh ((X.out.ext M.out.ok hbW hx9).own hgr (by omega:BA≠bx6))
    have Y6:=Qh ((Y.out.ext M.out.ok hbW hx9).own hgr (by omega:BX≠bx6))
    have WA6:=Qh ((WA.out.ext hbW hx9 hok9).own hgr hn9 (by omega))
    have N6:=Qh (show WrB J9 w6 bx6 dn _ _ _ _ from ⟨M6.out.ok,hn9,hr9,hrow⟩)
    have hx6:BD≠bx6:=by omega
    clear M X Y WA hbW hgr hrow hx9 hok9 hr9 b0 b1 b2 b3 b4 b5 b6 b7 b8 c0 c1 c2 c3 c4 hlb1 Had1 hC hup hbox hbl hn9
    obtain ⟨p0,p1,p2,p3,p4,p5,p6,p7,p8⟩:=drB_row (d:=dn) N6.out.row
    by_cases h0:rn=0
    ·have Had6:=Qh (Hst.out.2 h0)
     have hrB:=WA6.out.row
     subst h0
     clear Hst Hkeep
     go_wp2_with (refine Xab rfl rfl 46 _ _ rfl BD 0 (drCs dn (.slice ve6 dn.ents.length vf6) (.slice vk6 dn.sto.cks.length vl6) (.slice vt6 dn.tree.length vu6) (.slice vh6 dn.holds.length vi6)) (drV dn (.slice ve6 dn.ents.length vf6) (.slice vk6 dn.sto.cks.length vl6) (.slice vt6 dn.tree.length vu6) (.slice vh6 dn.holds.length vi6)) (by simp [Act.eval]) (by simp [Act.eval]) (by rfl) _ 46 hrB (by simp) (by kernel_rfl) (by simp [Value.oneCell']) (drCs dn (.slice ve6 dn.ents.length vf6) (.slice vk6 dn.sto.cks.length vl6) (.slice vt6 dn.tree.length vu6) (.slice vh6 dn.holds.length vi6)).toArray (by rfl) ?_
                  intro w7 hg7 hr7)
     go_roundw
     case rel=>exact ⟨k+1,J9,dn,_,_,_,_,_,_,by omega,by go_num,M6.out.own hg7 WA6.out.no (by omega),X6.out.own hg7 (by omega),Y6.out.own hg7 (by omega),⟨M6.out.ok.grown hg7 (fun g e=>by injection e with e;subst e;exact WA6.out.no),WA6.out.no,N6.out.rd,hr7⟩,Hdo.out,Had6.out⟩
     case measure=>simp [intOf];omega
    ·have hbad:=HL2.out.symm.trans (Xp1 Hq.out h0 (by rw [←He.out];exact Hst.out.1 h0))
     obtain ⟨rfl,hw3⟩:=Prod.mk.inj hbad
     obtain ⟨rfl,rfl⟩:=Prod.mk.inj hw3
     obtain rfl:=Hkeep.out h0
     have i1:(r2 != 0)=true:=by simpa using h0
     have i1b:(r2==0)=false:=by simpa using h0
     have i1c:decide (r2=0)=false:=Qf h0
     have i2:(r2==r2)=true:=by simp
     obtain ⟨b0,b1,b2,b3,b4,b5,b6,b7,b8⟩:=drB_row (d:=dn) WA6.out.row
     obtain ⟨z0,z1,z2,z3⟩:=Xag X6.out.row
     obtain ⟨y0,y1,y2,y3⟩:=Xag Y6.out.row
     clear h0 Hst hbad hw3
     go_wp2_with fail
     refine (Xjc J9 dn _ _ _ _ _ _ _ _ N6.out.rd WA6.out.rd w6 M6.out.ok).mono ?_
     rintro e7 w7 ⟨rfl,hb7⟩
     have A7:=Qh (M6.out.quiet hb7)
     have X7:=Qh (X6.out.quiet hb7)
     have Y7:=Qh (Y6.out.quiet hb7)
     clear b0 b1 b2 b3 b4 b5 b6 b7 b8 p0 p1 p2 p3 p4 p5 p6 p7 p8 z0 z1 z2 z3 y0 y1 y2 y3 hb7 M6 X6 Y6 WA6 N6
     obtain ⟨z0,z1,z2,z3⟩:=Xag X7.out.row
     obtain ⟨y0,y1,y2,y3⟩:=Xag Y7.out.row
     go_wp2_with fail
     refine (Xe8 J9 7 2 1 L2 _ _ Y7.out.rd X7.out.rd w7 A7.out.ok).mono ?_
     rintro e8 w8 ⟨rfl,hb8⟩
     have A8:=Qh (A7.out.quiet hb8)
     clear hb8 A7
     go_wp2_with fail
     refine (Haw.out J9 A8.out.keep _ A8.out.ok).mono ?_
     rintro e9 w9 ⟨rfl,hb9⟩
     have A9:=Qh (A8.out.quiet hb9)
     clear hb9 A8
     go_wp2
     go_ret
     exact ⟨rfl,A9.out.bel⟩
  ·have hke:k=cs.length:=by omega
   subst hke
   have hok:=HL2.out.symm.trans (Xuq Hq.out (by rw [←He.out];exact Xoq Had.out))
   obtain ⟨hL2,hw3⟩:=Prod.mk.inj hok
   obtain ⟨rfl,rfl⟩:=Prod.mk.inj hw3
   have hel:=HdO.out.ents
   obtain ⟨s,hs⟩:∃s,closeP d=s:=⟨_,rfl⟩
   have hsl:L.length<L2.length:=by rw [hL2];simp
   have hsx:L2[L.length]=s:=by subst hL2;simpa using hs
   have j1:(((L2.length:Nat):Int)==(L.length:Int)+1)=true:=by rw [hL2];simp
   have m1:IntKind.i64.wrap ((L.length:Int)+1)=(L.length:Int)+1:=IntWalk.i64_in _ (by have:=HA.out.len;omega)
   obtain ⟨x,vE,b,off,cap',hlx,hvv,hat,hve⟩:=Xfn Y.out.rd M.out.ok L.length hsl
   cases hvv
   rw [hsx] at hlx
   subst hlx
   obtain ⟨u0,u1,u2,u3,u4,u5⟩:=hat
   have HE:=Qh hve
   obtain ⟨oe,pe,rfl,_,_,_⟩:=id hve
   have hcl1:=(fun W (hW:Ok J W)=>Xi6 J d (by omega) (.slice ae d.ents.length ce) (.slice ak d.sto.cks.length ck) (.slice at' d.tree.length ct) (.slice ah d.holds.length ch) WA.out.rd.ents W hW)
   rw [hs] at hcl1
   have Hcl1:=Qh hcl1
   obtain ⟨b0,b1,b2,b3,b4,b5,b6,b7,b8⟩:=drB_row (d:=d) WA.out.row
   have z3:=(Xag X.out.row).2.2.2
   have y3:=(Xag Y.out.row).2.2.2
   clear HdO Had hok hw3 hL2 hs hsx hcl1 hve HL2
   go_wp2_with fail
   refine Xah (X:=Option Addr × Nat) (mbL BX BA b off L2.length sc2 so1 L.length sc1 s (.slice oe s.ents.length pe) d (.slice ae d.ents.length ce) (.slice ak d.sto.cks.length ck) (.slice at' d.tree.length ct) (.slice ah d.holds.length ch) co cs.length cc) (RgF wr 27 246 247 248 (fun x w=> ∃J',(∀b c,J b=some c→J' b=some c)∧Ok J' w∧RdS tEnt J' (.slice x.1 s.ents.length x.2) s.ents) (fun _ _=>True) (fun _ _=>True) (fun _ _=>True)) (by kernel_rfl) (by kernel_rfl) ?_ ?_ ?_
   ·exact ⟨default,RgF.start _ _⟩
   ·rintro x s' a' w' i hsz hcl ha hC hi
    obtain ⟨hun,oi,hoi,hall⟩:=mem_ready.1 hi
    have ev:=Xcv Xc7 ha
    rcases i with _|_|_|_|_|_|_|_|_|_|_|_|_|_|_|_|_|_|_|_|_|_|_|_|_|_|_|_|_|_|_|_|_|_|i
    rotate_left 34
    ·simp at hoi
    all_goals
     have hoj:=hoi
     simp at hoi
     subst hoi
     simp [Region.binds] at hall
     have hbw:=hC.off
     have z3:=Xaa hbw z3
     have y3:=Xaa hbw y3
     have u0:=Xaa hbw u0
     have u1:=Xaa hbw u1
     have u2:=Xaa hbw u2
     have u3:=Xaa hbw u3
     have u4:=Xaa hbw u4
     have u5:=Xaa hbw u5
     have b0:=Xaa hbw b0
     have b1:=Xaa hbw b1
     have b2:=Xaa hbw b2
     have b3:=Xaa hbw b3
     have b4:=Xaa hbw b4
     have b5:=Xaa hbw b5
     have b6:=Xaa hbw b6
     have b7:=Xaa hbw b7
     have b8:=Xaa hbw b8
     refine wpOp_step hoj (fun K' hK=> ?_)
     first|rw [if_pos (by rfl)]|rw [if_pos (by unfold Region.wanted;dsimp only;rw [Xgc (j:=2) (t:=100) (b:=true) (by rfl) (by simp [ev,evF,hall])];rfl)]|rw [if_pos (by unfold Region.wanted;dsimp only;rw [Xgc (j:=8) (t:=106) (b:=true) (by rfl) (by simp [ev,evF,hall])];rfl)]|rw [if_pos (by unfold Region.wanted;dsimp only;rw [Xgc (j:=18) (t:=116) (b:=true) (by rfl) (by simp [ev,evF,hall])];rfl)]|rw [if_pos (by unfold Region.wanted;dsimp only;rw [Xgc (j:=30) (t:=128) (b:=true) (by rfl) (by simp [ev,evF,hall])];rfl)]
    rotate_left 27
    ·unfold Oper.wp
     simp [go_sem,ev,evF,hall,Oper.upon]
     refine (Hcl1.out w' (M.out.ok.below (Qn _) hbw)).mono ?_
     rintro r4 w4 ⟨v7,J7,rfl,hb4,hx7,hok7,hr7⟩
     obtain ⟨a7,k7,rfl,_,_,_⟩:=id hr7
     have ha:=ha.trans (Xav (L:=mbL BX BA b off L2.length sc2 so1 L.length sc1 s (.slice oe s.ents.length pe) d (.slice ae d.ents.length ce) (.slice ak d.sto.cks.length ck) (.slice at' d.tree.length ct) (.slice ah d.holds.length ch) co cs.length cc x) (M:=mbL BX BA b off L2.length sc2 so1 L.length sc1 s (.slice oe s.ents.length pe) d (.slice ae d.ents.length ce) (.slice ak d.sto.cks.length ck) (.slice at' d.tree.length ct) (.slice ah d.holds.length ch) co cs.length cc (a7,k7)) [27] rfl (fun j hne=>by
      rcases j with _|_|_|_|_|_|_|_|_|_|_|_|_|_|_|_|_|_|_|_|_|_|_|_|_|_|_|_|_|_|_|_|_|_|j<;>first|rfl|(exact absurd (by decide) hne)|simp) (List.forall_mem_cons.2 ⟨Xao hun,List.forall_mem_nil _⟩))
     exact hK _ _ ⟨(a7,k7),Xan Xc7 ha rfl hun,hC.step (hbw.trans (hb4.mono hbw.size)) (fun _=>⟨J7,hx7.keep (M.out.ok.below (Qn _) hbw) (Qn _),hok7,hr7⟩) (fun _=>trivial) (fun _=>trivial) (fun _=>trivial)⟩
    ·obtain ⟨J6,hk6,hok6,hr6⟩:=hC.f1 (by first|simpa using hall|simp [hall])
     unfold Oper.wp
     simp [go_sem,ev,evF,hall,Oper.upon]
     refine (Xci J6 s _ _ (HE.out.mono hk6) hr6 w' hok6).mono ?_
     rintro r4 w4 ⟨rfl,hb4⟩
     exact hK _ _ ⟨x,Xan Xc7 ha rfl hun,hC.step (hbw.trans (hb4.mono hbw.size)) (fun q=>q.elim (fun e=>absurd e (by decide)) (fun ⟨_,q⟩=>(q.elim fun J9 h9=>⟨J9,h9.1,h9.2.1.below (Qn _) hb4,h9.2.2⟩))) (fun _=>trivial) (fun _=>trivial) (fun _=>trivial)⟩
    rotate_left 2
    ·unfold Oper.wp
     simp [go_sem,ev,evF,hall,Oper.upon]
     refine (Haw.out J M.out.keep w' (M.out.ok.below (Qn _) hbw)).mono ?_
     rintro r4 w4 ⟨rfl,hb4⟩
     exact hK _ _ ⟨x,Xan Xc7 ha rfl hun,hC.step (hbw.trans (hb4.mono hbw.size)) (fun q=>q.elim (fun e=>absurd e (by decide)) (fun ⟨_,q⟩=>(q.elim fun J9 h9=>⟨J9,h9.1,h9.2.1.below (Qn _) hb4,h9.2.2⟩))) (fun _=>trivial) (fun _=>trivial) (fun _=>trivial)⟩
    all_goals
     unfold Oper.wp
     first
     |(simp [go_sem,ev,evF,hall,Oper.upon,z3,y3,u0,u1,u2,u3,u4,u5,b0,b1,b2,b3,b4,b5,b6,b7,b8,j1,m1,hsl];exact hK _ _ ⟨x,Xan Xc7 ha rfl hun,hC.pure (by decide)⟩)
     |(simp [go_sem,ev,evF,Oper.upon,z3,y3,u0,u1,u2,u3,u4,u5,b0,b1,b2,b3,b4,b5,b6,b7,b8,j1,m1,hsl];exact hK _ _ ⟨x,Xan Xc7 ha rfl hun,hC.pure (by decide)⟩)
   ·rintro x s' a' w6 hup ha hC
    rw [Xa1 _ _ _ _ (fun i hi=>by rw [Nat.zero_add];exact hup i (by simpa using hi))] at ha
    subst ha
    simp only [fillAll,Act.put,List.setIfInBounds_toArray,List.set_cons_succ,List.set_cons_zero]
    have hbw:=M.out.bel.trans (hC.off.mono M.out.size)
    clear hC hup
    go_wp2
    go_ret
    exact ⟨rfl,hbw⟩
end Go.Proofs.YtjdednajelommaaGreatDoor
