/-
  Walks and laws that the claim's theorem uses: texts SoL, joined; comments out. Conditions: as each theorem says.
-/
import Derived.Test.YtjdednajelommaaGreatDoorQ38
import Derived.Test.YtjdednajelommaaGreatDoorQ39
set_option linter.unusedSimpArgs false
set_option linter.unusedVariables false
namespace Go.Proofs.YtjdednajelommaaGreatDoor
open Go.RowKit
set_option maxRecDepth 100000 in
set_option maxHeartbeats 8000000 in
theorem Xfe (I:IH) (hI:Glob I) (v:Value) (l:List Bat) (hv:RdS tBat I v l) (hwf:∀b∈l,b.In) (number date:Int) (prev:Bytes) (w:World) (hw:Ok I w):
 Calls Tryz.prog 5 #[v,.int .i64 number,.int .i64 date,S prev] w fun r w'=>r= .returned (.bool true)∧Below w.heap.size w w':=by
 have Haw:=Qh (fun J (hk:∀b c,I b=some c→J b=some c) w hw=>Xep J (hI.mono hk) w hw)
 have Hgr:=Qh (fun w hw=>Xg5 I v l hv w hw)
 have A0:=Qh (MAt.start hw)
 have HG:=Qh hI
 have Hv:=Qh hv
 obtain ⟨ao,cap,rfl,_,_,_⟩:=id hv
 cases hg:gr39 l
 case true=>
  have e1:gr39I l=1:=by rw [gr39I,hg];rfl
  rw [e1] at Hgr
  clear e1 hg hv hI
  go_enter Tryz.func5,Tryz.ntmps5
  go_wp2_with fail
  refine (Hgr.out _ A0.out.ok).mono ?_
  rintro e1 w1 ⟨rfl,hb1⟩
  have A1:=Qh (A0.out.quiet hb1)
  clear hb1 A0
  go_wp2_with fail
  refine (Haw.out I (fun _ _ h=>h) _ A1.out.ok).mono ?_
  rintro e2 w2 ⟨rfl,hb2⟩
  have A2:=Qh (A1.out.quiet hb2)
  clear hb2 A1
  go_wp2
  go_ret
  exact ⟨rfl,A2.out.bel⟩
 have e1:gr39I l=0:=by rw [gr39I,hg];rfl
 rw [e1] at Hgr
 obtain ⟨hsm,htot,hl4⟩:=Xm8 hwf hg
 by_cases hp:100<prev.length
 ·have e1:decide ((100:Int)<(prev.length:Int))=true:=Qt (by omega)
  clear hg hv hI hsm
  go_enter Tryz.func5,Tryz.ntmps5
  go_wp2_with fail
  refine (Hgr.out _ A0.out.ok).mono ?_
  rintro e1 w1 ⟨rfl,hb1⟩
  have A1:=Qh (A0.out.quiet hb1)
  clear hb1 A0
  go_wp2_with fail
  refine (Haw.out I (fun _ _ h=>h) _ A1.out.ok).mono ?_
  rintro e2 w2 ⟨rfl,hb2⟩
  have A2:=Qh (A1.out.quiet hb2)
  clear hb2 A1
  go_wp2
  go_ret
  exact ⟨rfl,A2.out.bel⟩
 have f1:decide ((100:Int)<(prev.length:Int))=false:=Qf (by omega)
 have Hwt:=Qh (fun W hW=>Xhf I hI _ l hv hsm (by omega) (by omega) W hW)
 have HA:=Qh (Xnl (l:=l) (fun b hb c h=>by have:=(hsm b hb c h).content;omega) (by omega) (by omega))
 obtain ⟨L,hL⟩:∃L,wrtsP [] l=L:=⟨_,rfl⟩
 rw [hL] at Hwt HA
 have hAl:=HA.out.len
 clear e1 hg hsm hL hwf hv hI
 go_enter Tryz.func5,Tryz.ntmps5
 go_wp2_with fail
 refine (Hgr.out _ A0.out.ok).mono ?_
 rintro e1 w1 ⟨rfl,hb1⟩
 have A1:=Qh (A0.out.quiet hb1)
 clear hb1 A0
 go_wp2_with fail
 refine (Hwt.out w1 A1.out.ok).mono ?_
 rintro e2 w2 ⟨vs,J2,rfl,hb2,hx2,hok2,hrd2⟩
 obtain ⟨so,sc,rfl,_,_,_⟩:=id hrd2
 have A2:=Qh (A1.out.ext hb2 hx2 hok2)
 have hf2:J2 w2.heap.size=none:=hok2.fresh (Qn _)
 have HL:=Qh hrd2
 clear hb2 hx2 hok2 hrd2 A1 Hwt Hgr
 go_upto_region 5 with (
  refine Xab rfl rfl 30 _ _ rfl w2.heap.size 0 [.int .u32 7,.int .i64 2,.int .i64 1,.slice so L.length sc] (arcV 7 2 1 (.slice so L.length sc)) (by simp [Act.eval]) (by simp [Act.eval]) (by rfl) zeroA 30 (heap_alloc_new _ _) (by simp) (by kernel_rfl) (by simp [Value.oneCell']) #[.int .u32 7,.int .i64 2,.int .i64 1,.slice so L.length sc] (by rfl) ?_
  intro w3 hg3 hr3)
 have hb3:Below w2.heap.size w2 w3:=((Qb _ _).alloc (Qn _) _).grown hg3 (by simp) (fun k e=>by injection e with e;omega)
 have A3:=Qh (A2.out.quiet hb3)
 obtain ⟨BA,hBA⟩:∃B,B=w2.heap.size:=⟨_,rfl⟩
 rw [←hBA] at hr3 hf2 ⊢
 have X3:=Qh (show ArB J2 w3 BA 7 2 1 (.slice so L.length sc) L from ⟨hf2,HL.out,hr3⟩)
 obtain ⟨z0,z1,z2,z3⟩:=Xag X3.out.row
 clear hg3 hr3 hb3 A2 hf2 hBA
 go_upto_if 36 with fail
 go_cut [10] (fun s10 wx=>s10= .int .i64 (lastDt L)∧w3=wx)
 case first=>
  rcases Xb0 L with hnil|⟨k,hk,hlen,hlast⟩
  ·subst hnil
   go_wp2_with fail
   go_meet
   exact ⟨rfl,rfl⟩
  ·have Hn:=Qh (show lastDt L=L[k].date by unfold lastDt;rw [hlast])
   obtain ⟨x,ve,b,off,cap',hlx,hvv,hat,hve⟩:=Xfn HL.out A3.out.ok k hk
   cases hvv
   obtain ⟨c0,c1,c2,c3,c4,c5⟩:=hat
   rw [hlx] at Hn
   have m1:IntKind.i64.wrap (k:Int)=(k:Int):=IntWalk.i64_in _ (by omega)
   have q1:(((k+1:Nat):Int)==0)=false:=by simp;omega
   have i1:(k:Int)<((k+1:Nat):Int):=by omega
   have i2:decide ((0:Int)<((k+1:Nat):Int))=true:=Qt (by omega)
   rw [hlen] at z3 ⊢
   clear hlx hlast hve
   go_wp2_with fail
   go_meet
   exact ⟨congrArg (Value.int .i64) Hn.out.symm,rfl⟩
 case rest=>
 obtain ⟨rfl,hcut⟩:=hcut
 subst hcut
 obtain ⟨dO,hdO⟩:∃d,openP L (lastDt L)=d:=⟨_,rfl⟩
 have hB:=Xi7 J2 (HG.out.mono A3.out.keep) 7 2 1 L HA.out (by omega) (by omega) _ HL.out (lastDt L) w3 A3.out.ok
 rw [Xnd (Xok HA.out (by omega)),hdO] at hB
 dsimp only at hB
 have HB:=Qh hB
 have hap:=Xug HA.out (by omega)
 have HdE:=Qh (show dO.ents= [] by rw [←hdO];rfl)
 rw [hdO] at hap
 obtain ⟨s,hs⟩:∃s,closeP dO=s:=⟨_,rfl⟩
 rw [hs] at hap
 have Hs:=Qh hs
 clear hs
 obtain ⟨L2,hL2⟩:∃L2,L++ [s]=L2:=⟨_,rfl⟩
 have HL2a:=Qh (show L2.length=L.length+1 by rw [←hL2];simp)
 have hL2s:∀h:L.length<L2.length,L2[L.length]=s:=by subst hL2;intro h;simp
 rw [hL2] at hap
 have HAp:=Qh hap
 have HL2s:=Qh hL2s
 clear hB hdO hap hL2 hL2s
 go_wp2_with fail
 refine (HB.out).mono ?_
 rintro e4 w4 ⟨ve4,vk4,vt4,vh4,J4,rfl,hb4,hx4,hok4,hrd4⟩
 obtain ⟨ae4,ce4,rfl,_,_,_⟩:=id hrd4.ents
 obtain ⟨ak4,ck4,rfl,_,_,_⟩:=id hrd4.cks
 obtain ⟨at4,ct4,rfl,_,_,_⟩:=id hrd4.tree
 obtain ⟨ah4,ch4,rfl,_,_,_⟩:=id hrd4.holds
 go_upto_region 8 with (
  refine Xab rfl rfl 46 _ _ rfl w4.heap.size 0 (drCs dO (.slice ae4 dO.ents.length ce4) (.slice ak4 dO.sto.cks.length ck4) (.slice at4 dO.tree.length ct4) (.slice ah4 dO.holds.length ch4)) (drV dO (.slice ae4 dO.ents.length ce4) (.slice ak4 dO.sto.cks.length ck4) (.slice at4 dO.tree.length ct4) (.slice ah4 dO.holds.length ch4)) (by simp [Act.eval]) (by simp [Act.eval]) (by rfl) zeroD 46 (heap_alloc_new _ _) (by simp) (by kernel_rfl) (by simp [Value.oneCell']) (drCs dO (.slice ae4 dO.ents.length ce4) (.slice ak4 dO.sto.cks.length ck4) (.slice at4 dO.tree.length ct4) (.slice ah4 dO.holds.length ch4)).toArray (by rfl) ?_
  intro w5 hg5 hr5)
 have hb5:Below w4.heap.size w4 w5:=((Qb _ _).alloc (Qn _) _).grown hg5 (by simp) (fun k e=>by injection e with e;omega)
 have hf4:J4 w4.heap.size=none:=hok4.fresh (Qn _)
 have A5:=Qh ((A3.out.ext hb4 hx4 hok4).quiet hb5)
 have X5:=Qh ((X3.out.ext A3.out.ok hb4 hx4).quiet hb5)
 have D5:=Qh (show WrB J4 w5 w4.heap.size dO _ _ _ _ from ⟨A5.out.ok,hf4,hrd4,hr5⟩)
 obtain ⟨b0,b1,b2,b3,b4,b5,b6,b7,b8⟩:=drB_row (d:=dO) D5.out.row
 have hCl:=Xi6 J4 dO (by rw [HdE.out];decide) (.slice ae4 dO.ents.length ce4) (.slice ak4 dO.sto.cks.length ck4) (.slice at4 dO.tree.length ct4) (.slice ah4 dO.holds.length ch4) D5.out.rd.ents w5 A5.out.ok
 rw [Hs.out] at hCl
 have HCl:=Qh hCl
 clear hb4 hx4 hok4 hrd4 hg5 hr5 hb5 hf4 A3 X3 HB z0 z1 z2 z3 hCl Hs HdE
 go_wp2_with fail
 refine HCl.out.mono ?_
 rintro e6 w6 ⟨ve6,J6,rfl,hb6,hx6,hok6,hrd6⟩
 obtain ⟨a6,c6,rfl,_,_,_⟩:=id hrd6
 have HE6:=Qh hrd6
 have A6:=Qh (A5.out.ext hb6 hx6 hok6)
 have X6:=Qh (X5.out.ext A5.out.ok hb6 hx6)
 have hf6:J6 w6.heap.size=none:=hok6.fresh (Qn _)
 clear hb6 hx6 hok6 hrd6 A5 X5 D5 HCl b0 b1 b2 b3 b4 b5 b6 b7 b8
 go_upto_region 9 with (
  refine Xab rfl rfl 56 _ _ rfl w6.heap.size 0 (sesCs s (.slice a6 s.ents.length c6)) (sesV s (.slice a6 s.ents.length c6)) (by simp [Act.eval]) (by simp [Act.eval]) (by rfl) zeroS 56 (heap_alloc_new _ _) (by simp) (by kernel_rfl) (by simp [Value.oneCell']) (sesCs s (.slice a6 s.ents.length c6)).toArray (by rfl) ?_
  intro w7 hg7 hr7)
 have hb7:Below w6.heap.size w6 w7:=((Qb _ _).alloc (Qn _) _).grown hg7 (by simp) (fun k e=>by injection e with e;omega)
 have A7:=Qh (A6.out.quiet hb7)
 have X7:=Qh (X6.out.quiet hb7)
 have hbs7:=X6.out.lt
 obtain ⟨BS,hBS⟩:∃B,B=w6.heap.size:=⟨_,rfl⟩
 have hBw:w.heap.size≤BS∧BA<BS:=by have:=A6.out.size;omega
 rw [←hBS] at hr7 hf6 ⊢
 obtain ⟨z0,z1,z2,z3⟩:=Xag X7.out.row
 obtain ⟨c0,c1,c2,c3,c4,c5⟩:=Xbv hr7
 have SR7:=Qh hr7
 have hA7:=Xdr J6 (HG.out.mono A7.out.keep) 7 2 1 L HA.out (by omega) (by omega) _ X7.out.rd s _ HE6.out w7 A7.out.ok
 rw [HAp.out] at hA7
 dsimp only at hA7
 have HA7:=Qh hA7
 clear hb7 hg7 hr7 A6 X6 hbs7 hBS hA7
 go_wp2_with fail
 refine HA7.out.mono ?_
 rintro e8 w8 ⟨vs8,J8,rfl,hb8,hx8,hok8,hrd8⟩
 obtain ⟨so8,sc8,rfl,_,_,_⟩:=id hrd8
 have A8:=Qh (A7.out.ext hb8 hx8 hok8)
 have X8:=Qh (X7.out.ext A7.out.ok hb8 hx8)
 have SR8:=Qh ((hb8.block _ (Array.getElem?_eq_some_iff.1 SR7.out).1).trans SR7.out)
 have HE8:=Qh (HE6.out.mono (hx8.keep A7.out.ok (Qn _)))
 have hn8:J8 BS=none:=(hx8 _ (Array.getElem?_eq_some_iff.1 SR7.out).1).trans hf6
 have HL8:=Qh hrd8
 clear hb8 hx8 hok8 hrd8 A7 X7 SR7 HE6 hf6 z0 z1 z2 z3 c0 c1 c2 c3 c4 c5 HA7
 go_upto_region 10 with (
  refine Xab rfl rfl 30 _ _ rfl w8.heap.size 0 [.int .u32 7,.int .i64 2,.int .i64 1,.slice so8 L2.length sc8] (arcV 7 2 1 (.slice so8 L2.length sc8)) (by simp [Act.eval]) (by simp [Act.eval]) (by rfl) zeroA 30 (heap_alloc_new _ _) (by simp) (by kernel_rfl) (by simp [Value.oneCell']) #[.int .u32 7,.int .i64 2,.int .i64 1,.slice so8 L2.length sc8] (by rfl) ?_
  intro w9 hg9 hr9)
 have hb9:Below w8.heap.size w8 w9:=((Qb _ _).alloc (Qn _) _).grown hg9 (by simp) (fun k e=>by injection e with e;omega)
 have A9:=Qh (A8.out.quiet hb9)
 have X9:=Qh (X8.out.quiet hb9)
 have SR9:=Qh ((hb9.block _ (Array.getElem?_eq_some_iff.1 SR8.out).1).trans SR8.out)
 obtain ⟨y0,y1,y2,y3⟩:=Xag hr9
 obtain ⟨z0,z1,z2,z3⟩:=Xag X9.out.row
 obtain ⟨c0,c1,c2,c3,c4,c5⟩:=Xbv SR9.out
 obtain ⟨x,ve,b,off,cap',hlx,hvv,hat,hve⟩:=Xfn HL8.out A9.out.ok L.length (by have:=HL2a.out;omega)
 cases hvv
 rw [HL2s.out] at hlx
 subst hlx
 obtain ⟨u0,u1,u2,u3,u4,u5⟩:=hat
 obtain ⟨ao5,cp5,rfl,_,_,_⟩:=id hve
 have i1:(((L2.length:Nat):Int) != (L.length:Int)+1)=false:=by have:=HL2a.out;simp;omega
 have i2:L.length<L2.length:=by have:=HL2a.out;omega
 have i3:IntKind.i64.wrap ((L.length:Int)+1)=(L.length:Int)+1:=IntWalk.i64_in _ (by omega)
 have HSS:=Qh (fun W hW=>Xci J8 s _ _ hve HE8.out W hW)
 clear hb9 hg9 hr9 A8 X8 SR8 hve
 have y3:=cell_regrown y3
 have z3:=cell_regrown z3
 have u0:=cell_regrown u0
 have u1:=cell_regrown u1
 have u2:=cell_regrown u2
 have u3:=cell_regrown u3
 have u4:=cell_regrown u4
 have u5:=cell_regrown u5
 have c0:=cell_regrown c0
 have c1:=cell_regrown c1
 have c2:=cell_regrown c2
 have c3:=cell_regrown c3
 have c4:=cell_regrown c4
 have c5:=cell_regrown c5
 go_wp2_with fail
 refine wp_region_quiet_below (by kernel_rfl) (by kernel_rfl) ?_
 repeat (first|go_big_quiet_step (with_reducible exact Calls.regrown_of (HSS.out _ (A9.out.ok.below (Qn _) (below_regrown _ _ _))))|refine BigFrame.wpQuiet_skip (by rfl) ?_)
 refine wpQuiet_nil ?_
 intro w10 hwq
 have hb10:Below w9.heap.size w9 w10:=by
  obtain ⟨pq,rfl⟩:=hwq
  exact below_regrown _ _ _
 clear hwq
 have A10:=Qh (A9.out.quiet hb10)
 have X10:=Qh (X9.out.quiet hb10)
 have SR10:=Qh ((hb10.block _ (Array.getElem?_eq_some_iff.1 SR9.out).1).trans SR9.out)
 clear A9 X9 SR9 hb10 y0 y1 y2 y3 z0 z1 z2 z3 u0 u1 u2 u3 u4 u5 c0 c1 c2 c3 c4 c5 HSS HL8 i1 i2 i3 HL2s HL2a HAp
 go_wp2_with fail
 go_loopw [16,17,18,19,20,21,88,93,97,101] (fun _ _ _ _ _ _ s88 _ _ _ wr=> ∃(k:Nat) (J:IH),k≤3∧s88= .int .i64 k∧MAt I w J wr∧ArB J wr BA 7 2 1 (.slice so L.length sc) L∧wr.heap[BS]? =some (.cells (sesCs s (.slice a6 s.ents.length c6)).toArray 56 (0,0))∧J BS=none∧RdS tEnt J (.slice a6 s.ents.length c6) s.ents) (fun _ _ _ _ _ _ i _ _ _ _=>3-(intOf i).toNat)
 case atStart=>exact ⟨0,J8,Nat.zero_le _,rfl,A10.out,X10.out,SR10.out,hn8,HE8.out⟩
 case round=>
  clear A10 X10 SR10 hn8 HE8
  obtain ⟨k,J,hk,rfl,hM,hX,hR,hn,hE⟩:=hrel
  have M:=Qh hM
  have X:=Qh hX
  have SR:=Qh hR
  have HE:=Qh hE
  clear hM hX hR hE
  by_cases hlt:k<3
  ·have d3:decide ((k:Int)<3)=true:=Qt (by omega)
   obtain ⟨c0,c1,c2,c3,c4,c5⟩:=Xbv SR.out
   have hlX:=X.out.lt
   have hlS:=(Array.getElem?_eq_some_iff.1 SR.out).1
   go_upto_region 16 with (
    refine Xab rfl rfl 56 _ _ rfl wr.heap.size 0 (sesCs s (.slice a6 s.ents.length c6)) (sesV s (.slice a6 s.ents.length c6)) (by simp [Act.eval]) (by simp [Act.eval]) (by rfl) zeroS 56 (heap_alloc_new _ _) (by simp) (by kernel_rfl) (by simp [Value.oneCell']) (sesCs s (.slice a6 s.ents.length c6)).toArray (by rfl) ?_
    intro w11 hg11 hr11)
   have hb11:Below wr.heap.size wr w11:=((Qb _ _).alloc (Qn _) _).grown hg11 (by simp) (fun k e=>by injection e with e;omega)
   have M11:=Qh (M.out.quiet hb11)
   have X11:=Qh (X.out.quiet hb11)
   have SR11:=Qh ((hb11.block _ hlS).trans SR.out)
   obtain ⟨BT,hBT⟩:∃B,B=wr.heap.size:=⟨_,rfl⟩
   rw [←hBT] at hr11 ⊢
   have ST11:=Qh hr11
   have hfT:J BT=none:=M.out.ok.fresh (by omega)
   have hTw:BA<BT∧BS<BT∧w.heap.size≤BT:=by have:=M.out.size;omega
   clear hb11 hg11 hr11 c0 c1 c2 c3 c4 c5 M X SR hlX hlS hBT
   rcases (by omega:k=0∨k=1∨k=2) with rfl|rfl|rfl
   ·go_upto_region 23 with (
     refine Xab rfl rfl 3 _ _ rfl BT 0 [.int .i64 number] (.int .i64 number) (by simp [Act.eval]) (by simp [Act.eval]) (by rfl) _ 56 ST11.out (by simp) (by kernel_rfl) (by simp [Value.oneCell']) (sesCs (({ s with num:=number }:Ses)) (.slice a6 s.ents.length c6)).toArray (by rfl) ?_
     intro w12 hg12 hr12)
    have M12:=Qh (M11.out.own hg12 hfT (by omega))
    have X12:=Qh (X11.out.own hg12 (by omega))
    have SR12:=Qh ((hg12.block _ (Array.getElem?_eq_some_iff.1 SR11.out).1 (fun e=>by injection e with e;omega)).trans SR11.out)
    obtain ⟨t,ht⟩:∃t:Ses,({ s with num:=number }:Ses)=t:=⟨_,rfl⟩
    have HEt:=Qh (show RdS tEnt J (.slice a6 s.ents.length c6) t.ents by rw [←ht];exact HE.out)
    rw [ht] at hr12
    obtain ⟨L3,r3,h3⟩:∃L3 r3,appP L t=(L3,r3):=⟨_,_,rfl⟩
    have hA1:=Xdr J (HG.out.mono M12.out.keep) 7 2 1 L HA.out (by omega) (by omega) _ X12.out.rd t _ HEt.out w12 M12.out.ok
    have hA2:=fun J' (hk':∀b c,J b=some c→J' b=some c) W (hW:Ok J' W)=>Xfq J' 7 2 1 L HA.out (by omega) (by omega) _ (X12.out.rd.mono hk') t _ (HEt.out.mono hk') W hW
    rw [h3] at hA1 hA2
    dsimp only at hA1 hA2
    have HA1:=Qh hA1
    have HA2:=Qh hA2
    have HTr:=Qh hr12
    obtain ⟨z0,z1,z2,z3⟩:=Xag X12.out.row
    obtain ⟨c0,c1,c2,c3,c4,c5⟩:=Xbv hr12
    clear ht h3 hA1 hA2 hg12 hr12 M11 X11 SR11 ST11 hfT
    go_wp2_with fail
    refine HA1.out.mono ?_
    rintro e13 w13 ⟨vs13,J13,rfl,hb13,hx13,hok13,hrd13⟩
    obtain ⟨so13,sc13,rfl,_,_,_⟩:=id hrd13
    have M13:=Qh (M12.out.ext hb13 hx13 hok13)
    have X13:=Qh (X12.out.ext M12.out.ok hb13 hx13)
    have hk13:=Qh (hx13.keep M12.out.ok (Qn _))
    have SR13:=Qh ((hb13.block _ (Array.getElem?_eq_some_iff.1 SR12.out).1).trans SR12.out)
    have HT13:=Qh ((hb13.block _ (Array.getElem?_eq_some_iff.1 HTr.out).1).trans HTr.out)
    have hn13:J13 BS=none:=(hx13 _ (Array.getElem?_eq_some_iff.1 SR12.out).1).trans hn
    have HL13:=Qh hrd13
    have hf13:J13 w13.heap.size=none:=hok13.fresh (Qn _)
    clear hb13 hx13 hok13 hrd13 M12 X12 SR12 HTr z0 z1 z2 z3 c0 c1 c2 c3 c4 c5 HA1
    go_upto_region 24 with (
     refine Xab rfl rfl 30 _ _ rfl w13.heap.size 0 [.int .u32 7,.int .i64 2,.int .i64 1,.slice so13 L3.length sc13] (arcV 7 2 1 (.slice so13 L3.length sc13)) (by simp [Act.eval]) (by simp [Act.eval]) (by rfl) zeroA 30 (heap_alloc_new _ _) (by simp) (by kernel_rfl) (by simp [Value.oneCell']) #[.int .u32 7,.int .i64 2,.int .i64 1,.slice so13 L3.length sc13] (by rfl) ?_
     intro w14 hg14 hr14)
    have hb14:Below w13.heap.size w13 w14:=((Qb _ _).alloc (Qn _) _).grown hg14 (by simp) (fun k e=>by injection e with e;omega)
    have M14:=Qh (M13.out.quiet hb14)
    have X14:=Qh (X13.out.quiet hb14)
    have SR14:=Qh ((hb14.block _ (Array.getElem?_eq_some_iff.1 SR13.out).1).trans SR13.out)
    have HT14:=Qh ((hb14.block _ (Array.getElem?_eq_some_iff.1 HT13.out).1).trans HT13.out)
    have Y14:=Qh (show ArB J13 w14 w13.heap.size 7 2 1 (.slice so13 L3.length sc13) L3 from ⟨hf13,HL13.out,hr14⟩)
    obtain ⟨z0,z1,z2,z3⟩:=Xag X14.out.row
    obtain ⟨c0,c1,c2,c3,c4,c5⟩:=Xbv HT14.out
    clear hb14 hg14 hr14 M13 X13 SR13 HT13 hf13
    go_wp2_with fail
    refine (HA2.out J13 hk13.out w14 M14.out.ok).mono ?_
    rintro e15 w15 ⟨vs15,J15,rfl,hb15,hx15,hok15,hrd15⟩
    obtain ⟨so15,sc15,rfl,_,_,_⟩:=id hrd15
    have M15:=Qh (M14.out.ext hb15 hx15 hok15)
    have X15:=Qh (X14.out.ext M14.out.ok hb15 hx15)
    have Y15:=Qh (Y14.out.ext M14.out.ok hb15 hx15)
    have hk15:=Qh (hx15.keep M14.out.ok (Qn _))
    have SR15:=Qh ((hb15.block _ (Array.getElem?_eq_some_iff.1 SR14.out).1).trans SR14.out)
    have hn15:J15 BS=none:=(hx15 _ (Array.getElem?_eq_some_iff.1 SR14.out).1).trans hn13
    have HL15:=Qh hrd15
    clear hb15 hx15 hok15 hrd15 M14 X14 Y14 SR14 HT14 z0 z1 z2 z3 c0 c1 c2 c3 c4 c5 HA2
    go_upto_region 25 with (
     refine Xab rfl rfl 30 _ _ rfl w15.heap.size 0 [.int .u32 7,.int .i64 2,.int .i64 1,.slice so15 L3.length sc15] (arcV 7 2 1 (.slice so15 L3.length sc15)) (by simp [Act.eval]) (by simp [Act.eval]) (by rfl) zeroA 30 (heap_alloc_new _ _) (by simp) (by kernel_rfl) (by simp [Value.oneCell']) #[.int .u32 7,.int .i64 2,.int .i64 1,.slice so15 L3.length sc15] (by rfl) ?_
     intro w16 hg16 hr16)
    have hb16:Below w15.heap.size w15 w16:=((Qb _ _).alloc (Qn _) _).grown hg16 (by simp) (fun k e=>by injection e with e;omega)
    have M16:=Qh (M15.out.quiet hb16)
    have X16:=Qh (X15.out.quiet hb16)
    have Y16:=Qh (Y15.out.quiet hb16)
    have SR16:=Qh ((hb16.block _ (Array.getElem?_eq_some_iff.1 SR15.out).1).trans SR15.out)
    obtain ⟨z0,z1,z2,z3⟩:=Xag Y16.out.row
    obtain ⟨y0,y1,y2,y3⟩:=Xag hr16
    have i1:((r3:Int) != r3)=false:=by simp
    clear hb16 hg16 hr16 M15 X15 Y15 SR15
    go_wp2_with fail
    refine (Xe8 J15 7 2 1 L3 _ _ Y16.out.rd HL15.out w16 M16.out.ok).mono ?_
    rintro e17 w17 ⟨rfl,hb17⟩
    have M17:=Qh (M16.out.quiet hb17)
    have X17:=Qh (X16.out.quiet hb17)
    have SR17:=Qh ((hb17.block _ (Array.getElem?_eq_some_iff.1 SR16.out).1).trans SR16.out)
    clear hb17 M16 X16 Y16 SR16 z0 z1 z2 z3 y0 y1 y2 y3 i1
    go_wp2
    go_roundw
    case rel=>exact ⟨1,J15,by omega,by go_num,M17.out,X17.out,SR17.out,hn15,(HE.out.mono hk13.out).mono hk15.out⟩
    case measure=>simp [intOf]
   ·go_upto_region 23 with (
     refine Xab rfl rfl 3 _ _ rfl BT 1 [.int .i64 date] (.int .i64 date) (by simp [Act.eval]) (by simp [Act.eval]) (by rfl) _ 56 ST11.out (by simp) (by kernel_rfl) (by simp [Value.oneCell']) (sesCs (({ s with date:=date }:Ses)) (.slice a6 s.ents.length c6)).toArray (by rfl) ?_
     intro w12 hg12 hr12)
    have M12:=Qh (M11.out.own hg12 hfT (by omega))
    have X12:=Qh (X11.out.own hg12 (by omega))
    have SR12:=Qh ((hg12.block _ (Array.getElem?_eq_some_iff.1 SR11.out).1 (fun e=>by injection e with e;omega)).trans SR11.out)
    obtain ⟨t,ht⟩:∃t:Ses,({ s with date:=date }:Ses)=t:=⟨_,rfl⟩
    have HEt:=Qh (show RdS tEnt J (.slice a6 s.ents.length c6) t.ents by rw [←ht];exact HE.out)
    rw [ht] at hr12
    obtain ⟨L3,r3,h3⟩:∃L3 r3,appP L t=(L3,r3):=⟨_,_,rfl⟩
    have hA1:=Xdr J (HG.out.mono M12.out.keep) 7 2 1 L HA.out (by omega) (by omega) _ X12.out.rd t _ HEt.out w12 M12.out.ok
    have hA2:=fun J' (hk':∀b c,J b=some c→J' b=some c) W (hW:Ok J' W)=>Xfq J' 7 2 1 L HA.out (by omega) (by omega) _ (X12.out.rd.mono hk') t _ (HEt.out.mono hk') W hW
    rw [h3] at hA1 hA2
    dsimp only at hA1 hA2
    have HA1:=Qh hA1
    have HA2:=Qh hA2
    have HTr:=Qh hr12
    obtain ⟨z0,z1,z2,z3⟩:=Xag X12.out.row
    obtain ⟨c0,c1,c2,c3,c4,c5⟩:=Xbv hr12
    clear ht h3 hA1 hA2 hg12 hr12 M11 X11 SR11 ST11 hfT
    go_wp2_with fail
    refine HA1.out.mono ?_
    rintro e13 w13 ⟨vs13,J13,rfl,hb13,hx13,hok13,hrd13⟩
    obtain ⟨so13,sc13,rfl,_,_,_⟩:=id hrd13
    have M13:=Qh (M12.out.ext hb13 hx13 hok13)
    have X13:=Qh (X12.out.ext M12.out.ok hb13 hx13)
    have hk13:=Qh (hx13.keep M12.out.ok (Qn _))
    have SR13:=Qh ((hb13.block _ (Array.getElem?_eq_some_iff.1 SR12.out).1).trans SR12.out)
    have HT13:=Qh ((hb13.block _ (Array.getElem?_eq_some_iff.1 HTr.out).1).trans HTr.out)
    have hn13:J13 BS=none:=(hx13 _ (Array.getElem?_eq_some_iff.1 SR12.out).1).trans hn
    have HL13:=Qh hrd13
    have hf13:J13 w13.heap.size=none:=hok13.fresh (Qn _)
    clear hb13 hx13 hok13 hrd13 M12 X12 SR12 HTr z0 z1 z2 z3 c0 c1 c2 c3 c4 c5 HA1
    go_upto_region 24 with (
     refine Xab rfl rfl 30 _ _ rfl w13.heap.size 0 [.int .u32 7,.int .i64 2,.int .i64 1,.slice so13 L3.length sc13] (arcV 7 2 1 (.slice so13 L3.length sc13)) (by simp [Act.eval]) (by simp [Act.eval]) (by rfl) zeroA 30 (heap_alloc_new _ _) (by simp) (by kernel_rfl) (by simp [Value.oneCell']) #[.int .u32 7,.int .i64 2,.int .i64 1,.slice so13 L3.length sc13] (by rfl) ?_
     intro w14 hg14 hr14)
    have hb14:Below w13.heap.size w13 w14:=((Qb _ _).alloc (Qn _) _).grown hg14 (by simp) (fun k e=>by injection e with e;omega)
    have M14:=Qh (M13.out.quiet hb14)
    have X14:=Qh (X13.out.quiet hb14)
    have SR14:=Qh ((hb14.block _ (Array.getElem?_eq_some_iff.1 SR13.out).1).trans SR13.out)
    have HT14:=Qh ((hb14.block _ (Array.getElem?_eq_some_iff.1 HT13.out).1).trans HT13.out)
    have Y14:=Qh (show ArB J13 w14 w13.heap.size 7 2 1 (.slice so13 L3.length sc13) L3 from ⟨hf13,HL13.out,hr14⟩)
    obtain ⟨z0,z1,z2,z3⟩:=Xag X14.out.row
    obtain ⟨c0,c1,c2,c3,c4,c5⟩:=Xbv HT14.out
    clear hb14 hg14 hr14 M13 X13 SR13 HT13 hf13
    go_wp2_with fail
    refine (HA2.out J13 hk13.out w14 M14.out.ok).mono ?_
    rintro e15 w15 ⟨vs15,J15,rfl,hb15,hx15,hok15,hrd15⟩
    obtain ⟨so15,sc15,rfl,_,_,_⟩:=id hrd15
    have M15:=Qh (M14.out.ext hb15 hx15 hok15)
    have X15:=Qh (X14.out.ext M14.out.ok hb15 hx15)
    have Y15:=Qh (Y14.out.ext M14.out.ok hb15 hx15)
    have hk15:=Qh (hx15.keep M14.out.ok (Qn _))
    have SR15:=Qh ((hb15.block _ (Array.getElem?_eq_some_iff.1 SR14.out).1).trans SR14.out)
    have hn15:J15 BS=none:=(hx15 _ (Array.getElem?_eq_some_iff.1 SR14.out).1).trans hn13
    have HL15:=Qh hrd15
    clear hb15 hx15 hok15 hrd15 M14 X14 Y14 SR14 HT14 z0 z1 z2 z3 c0 c1 c2 c3 c4 c5 HA2
    go_upto_region 25 with (
     refine Xab rfl rfl 30 _ _ rfl w15.heap.size 0 [.int .u32 7,.int .i64 2,.int .i64 1,.slice so15 L3.length sc15] (arcV 7 2 1 (.slice so15 L3.length sc15)) (by simp [Act.eval]) (by simp [Act.eval]) (by rfl) zeroA 30 (heap_alloc_new _ _) (by simp) (by kernel_rfl) (by simp [Value.oneCell']) #[.int .u32 7,.int .i64 2,.int .i64 1,.slice so15 L3.length sc15] (by rfl) ?_
     intro w16 hg16 hr16)
    have hb16:Below w15.heap.size w15 w16:=((Qb _ _).alloc (Qn _) _).grown hg16 (by simp) (fun k e=>by injection e with e;omega)
    have M16:=Qh (M15.out.quiet hb16)
    have X16:=Qh (X15.out.quiet hb16)
    have Y16:=Qh (Y15.out.quiet hb16)
    have SR16:=Qh ((hb16.block _ (Array.getElem?_eq_some_iff.1 SR15.out).1).trans SR15.out)
    obtain ⟨z0,z1,z2,z3⟩:=Xag Y16.out.row
    obtain ⟨y0,y1,y2,y3⟩:=Xag hr16
    have i1:((r3:Int) != r3)=false:=by simp
    clear hb16 hg16 hr16 M15 X15 Y15 SR15
    go_wp2_with fail
    refine (Xe8 J15 7 2 1 L3 _ _ Y16.out.rd HL15.out w16 M16.out.ok).mono ?_
    rintro e17 w17 ⟨rfl,hb17⟩
    have M17:=Qh (M16.out.quiet hb17)
    have X17:=Qh (X16.out.quiet hb17)
    have SR17:=Qh ((hb17.block _ (Array.getElem?_eq_some_iff.1 SR16.out).1).trans SR16.out)
    clear hb17 M16 X16 Y16 SR16 z0 z1 z2 z3 y0 y1 y2 y3 i1
    go_wp2
    go_roundw
    case rel=>exact ⟨2,J15,by omega,by go_num,M17.out,X17.out,SR17.out,hn15,(HE.out.mono hk13.out).mono hk15.out⟩
    case measure=>simp [intOf]
   ·go_upto_region 23 with (
     refine Xab rfl rfl 9 _ _ rfl BT 2 [S prev] (S prev) (by simp [Act.eval]) (by simp [Act.eval]) (by rfl) _ 56 ST11.out (by simp) (by kernel_rfl) (by simp [Value.oneCell']) (sesCs (({ s with prev:=prev }:Ses)) (.slice a6 s.ents.length c6)).toArray (by rfl) ?_
     intro w12 hg12 hr12)
    have M12:=Qh (M11.out.own hg12 hfT (by omega))
    have X12:=Qh (X11.out.own hg12 (by omega))
    have SR12:=Qh ((hg12.block _ (Array.getElem?_eq_some_iff.1 SR11.out).1 (fun e=>by injection e with e;omega)).trans SR11.out)
    obtain ⟨t,ht⟩:∃t:Ses,({ s with prev:=prev }:Ses)=t:=⟨_,rfl⟩
    have HEt:=Qh (show RdS tEnt J (.slice a6 s.ents.length c6) t.ents by rw [←ht];exact HE.out)
    rw [ht] at hr12
    obtain ⟨L3,r3,h3⟩:∃L3 r3,appP L t=(L3,r3):=⟨_,_,rfl⟩
    have hA1:=Xdr J (HG.out.mono M12.out.keep) 7 2 1 L HA.out (by omega) (by omega) _ X12.out.rd t _ HEt.out w12 M12.out.ok
    have hA2:=fun J' (hk':∀b c,J b=some c→J' b=some c) W (hW:Ok J' W)=>Xfq J' 7 2 1 L HA.out (by omega) (by omega) _ (X12.out.rd.mono hk') t _ (HEt.out.mono hk') W hW
    rw [h3] at hA1 hA2
    dsimp only at hA1 hA2
    have HA1:=Qh hA1
    have HA2:=Qh hA2
    have HTr:=Qh hr12
    obtain ⟨z0,z1,z2,z3⟩:=Xag X12.out.row
    obtain ⟨c0,c1,c2,c3,c4,c5⟩:=Xbv hr12
    clear ht h3 hA1 hA2 hg12 hr12 M11 X11 SR11 ST11 hfT
    go_wp2_with fail
    refine HA1.out.mono ?_
    rintro e13 w13 ⟨vs13,J13,rfl,hb13,hx13,hok13,hrd13⟩
    obtain ⟨so13,sc13,rfl,_,_,_⟩:=id hrd13
    have M13:=Qh (M12.out.ext hb13 hx13 hok13)
    have X13:=Qh (X12.out.ext M12.out.ok hb13 hx13)
    have hk13:=Qh (hx13.keep M12.out.ok (Qn _))
    have SR13:=Qh ((hb13.block _ (Array.getElem?_eq_some_iff.1 SR12.out).1).trans SR12.out)
    have HT13:=Qh ((hb13.block _ (Array.getElem?_eq_some_iff.1 HTr.out).1).trans HTr.out)
    have hn13:J13 BS=none:=(hx13 _ (Array.getElem?_eq_some_iff.1 SR12.out).1).trans hn
    have HL13:=Qh hrd13
    have hf13:J13 w13.heap.size=none:=hok13.fresh (Qn _)
    clear hb13 hx13 hok13 hrd13 M12 X12 SR12 HTr z0 z1 z2 z3 c0 c1 c2 c3 c4 c5 HA1
    go_upto_region 24 with (
     refine Xab rfl rfl 30 _ _ rfl w13.heap.size 0 [.int .u32 7,.int .i64 2,.int .i64 1,.slice so13 L3.length sc13] (arcV 7 2 1 (.slice so13 L3.length sc13)) (by simp [Act.eval]) (by simp [Act.eval]) (by rfl) zeroA 30 (heap_alloc_new _ _) (by simp) (by kernel_rfl) (by simp [Value.oneCell']) #[.int .u32 7,.int .i64 2,.int .i64 1,.slice so13 L3.length sc13] (by rfl) ?_
     intro w14 hg14 hr14)
    have hb14:Below w13.heap.size w13 w14:=((Qb _ _).alloc (Qn _) _).grown hg14 (by simp) (fun k e=>by injection e with e;omega)
    have M14:=Qh (M13.out.quiet hb14)
    have X14:=Qh (X13.out.quiet hb14)
    have SR14:=Qh ((hb14.block _ (Array.getElem?_eq_some_iff.1 SR13.out).1).trans SR13.out)
    have HT14:=Qh ((hb14.block _ (Array.getElem?_eq_some_iff.1 HT13.out).1).trans HT13.out)
    have Y14:=Qh (show ArB J13 w14 w13.heap.size 7 2 1 (.slice so13 L3.length sc13) L3 from ⟨hf13,HL13.out,hr14⟩)
    obtain ⟨z0,z1,z2,z3⟩:=Xag X14.out.row
    obtain ⟨c0,c1,c2,c3,c4,c5⟩:=Xbv HT14.out
    clear hb14 hg14 hr14 M13 X13 SR13 HT13 hf13
    go_wp2_with fail
    refine (HA2.out J13 hk13.out w14 M14.out.ok).mono ?_
    rintro e15 w15 ⟨vs15,J15,rfl,hb15,hx15,hok15,hrd15⟩
    obtain ⟨so15,sc15,rfl,_,_,_⟩:=id hrd15
    have M15:=Qh (M14.out.ext hb15 hx15 hok15)
    have X15:=Qh (X14.out.ext M14.out.ok hb15 hx15)
    have Y15:=Qh (Y14.out.ext M14.out.ok hb15 hx15)
    have hk15:=Qh (hx15.keep M14.out.ok (Qn _))
    have SR15:=Qh ((hb15.block _ (Array.getElem?_eq_some_iff.1 SR14.out).1).trans SR14.out)
    have hn15:J15 BS=none:=(hx15 _ (Array.getElem?_eq_some_iff.1 SR14.out).1).trans hn13
    have HL15:=Qh hrd15
    clear hb15 hx15 hok15 hrd15 M14 X14 Y14 SR14 HT14 z0 z1 z2 z3 c0 c1 c2 c3 c4 c5 HA2
    go_upto_region 25 with (
     refine Xab rfl rfl 30 _ _ rfl w15.heap.size 0 [.int .u32 7,.int .i64 2,.int .i64 1,.slice so15 L3.length sc15] (arcV 7 2 1 (.slice so15 L3.length sc15)) (by simp [Act.eval]) (by simp [Act.eval]) (by rfl) zeroA 30 (heap_alloc_new _ _) (by simp) (by kernel_rfl) (by simp [Value.oneCell']) #[.int .u32 7,.int .i64 2,.int .i64 1,.slice so15 L3.length sc15] (by rfl) ?_
     intro w16 hg16 hr16)
    have hb16:Below w15.heap.size w15 w16:=((Qb _ _).alloc (Qn _) _).grown hg16 (by simp) (fun k e=>by injection e with e;omega)
    have M16:=Qh (M15.out.quiet hb16)
    have X16:=Qh (X15.out.quiet hb16)
    have Y16:=Qh (Y15.out.quiet hb16)
    have SR16:=Qh ((hb16.block _ (Array.getElem?_eq_some_iff.1 SR15.out).1).trans SR15.out)
    obtain ⟨z0,z1,z2,z3⟩:=Xag Y16.out.row
    obtain ⟨y0,y1,y2,y3⟩:=Xag hr16
    have i1:((r3:Int) != r3)=false:=by simp
    clear hb16 hg16 hr16 M15 X15 Y15 SR15
    go_wp2_with fail
    refine (Xe8 J15 7 2 1 L3 _ _ Y16.out.rd HL15.out w16 M16.out.ok).mono ?_
    rintro e17 w17 ⟨rfl,hb17⟩
    have M17:=Qh (M16.out.quiet hb17)
    have X17:=Qh (X16.out.quiet hb17)
    have SR17:=Qh ((hb17.block _ (Array.getElem?_eq_some_iff.1 SR16.out).1).trans SR16.out)
    clear hb17 M16 X16 Y16 SR16 z0 z1 z2 z3 y0 y1 y2 y3 i1
    go_wp2
    go_roundw
    case rel=>exact ⟨3,J15,by omega,by go_num,M17.out,X17.out,SR17.out,hn15,(HE.out.mono hk13.out).mono hk15.out⟩
    case measure=>simp [intOf]
  ·have A5:=Qh M.out
   have d3:decide ((k:Int)<3)=false:=Qf (by omega)
   clear M X SR HE
   go_wp2_with fail
   refine (Haw.out J A5.out.keep _ A5.out.ok).mono ?_
   rintro e6 w6 ⟨rfl,hb6⟩
   have A6:=Qh (A5.out.quiet hb6)
   clear hb6 A5
   go_wp2
   go_ret
   exact ⟨rfl,A6.out.bel⟩
end Go.Proofs.YtjdednajelommaaGreatDoor
