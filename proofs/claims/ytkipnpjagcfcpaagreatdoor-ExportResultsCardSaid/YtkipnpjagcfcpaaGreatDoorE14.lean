/- Lemmas for the claim's theorem;conditions: as each says. -/
import Derived.Test.YtkipnpjagcfcpaaGreatDoorE13
set_option maxHeartbeats 0
set_option maxRecDepth 100000
set_option linter.all false
namespace Go.Proofs.YtkipnpjagcfcpaaGreatDoor
open Go.RowKit
abbrev ZU(vs vf:Value)(t:ae)(x:Unit):List (Option Tmp×Value):=
 [(some 28,.agg #[vs,vf]),(some 29,S t),(some 30,.agg #[vs,vf]),(some 31,S t),(some 32,.bool true),(some 33,.bool true),(some 34,.bool true),(some 35,.bool true),(some 6,.bool true)]
theorem BD{vs vf:Value}{t:ae}{x:Unit}:bL (ZU vs vf t x):=by
 unfold bL;simp
theorem Xgm(I:IH)(hI:dQ I)(v:Value)(l:List bR)(hv:bf lL I v l)(jh:∀x∈l,x.Wf)(m:Int)(hm:0≤m∧m≤18446744073709551615)(d:Int)(hd:0≤d∧d≤255)(w:World)(hw:Ok I w):
 Calls Tryz.prog 3 #[v,.int .u64 m,.int .u8 d] w fun r w'=>r= .returned (.bool true)∧Below w.heap.size w w':=by
 have rH:=Qh (fun w hw=>U7 I hI w hw);have Fa:=Qh (fun w hw=>Xic I v l hv jh w hw);have A0:=Qh (lY.start hw);cases hg:jT l;case false=>
  have e1:il l=0:=by rw[il,hg];rfl
  rw[e1]at Fa;obtain⟨ao,cap,rfl,_,_,_⟩:=id hv;clear e1 hg hv hd hm;go_enter Tryz.func3,Tryz.ntmps3
  go_wp2_with fail
  refine(Fa.O _ A0.O.ok).mono ?_;rintro e1 w1 ⟨rfl,au⟩;have A1:=Qh (A0.O.quiet au);clear au A0;go_wp2_with fail
  refine(rH.O _ A1.O.ok).mono ?_;rintro e2 w2 ⟨rfl,aF⟩;have A2:=Qh (A1.O.quiet aF);clear aF A1;go_wp2;go_ret;exact⟨rfl,A2.O.dE⟩
 case true=>
  have e1:il l=1:=by rw[il,hg];rfl
  rw[e1]at Fa;obtain⟨⟨zw,uL,_⟩,xH⟩:=Xjo jh hg;obtain⟨M,rfl⟩:=Int.eq_ofNat_of_zero_le hm.1;obtain⟨D,rfl⟩:=Int.eq_ofNat_of_zero_le hd.1;have uw:=Qh (fun w hw=>Zt I v l hv uL (by omega) M (by omega) w hw);have Hv:=Qh hv;have Hln:=Qh (U4 (aK l) M l 0 uL);have sP:=Qh (ZM xH);have U8:=Qh (Xp8 xH);have Gj:=Qh uL;obtain⟨ao,cap,rfl,_,_,_⟩:=id hv;generalize dP (aK l) M l 0=fs at*;clear e1 hg hv xH uL;have m2:IntKind.i64.wrap (D:Int)=D:=IntWalk.i64_in _ (by omega);go_enter Tryz.func3,Tryz.ntmps3
  go_wp2_with fail
  refine(Fa.O _ A0.O.ok).mono ?_;rintro e1 w1 ⟨rfl,au⟩;have A1:=Qh (A0.O.quiet au);clear au A0;go_wp2_with fail
  refine(uw.O _ A1.O.ok).mono ?_;rintro e2 w2 ⟨vf,J,rfl,aF,fM,aQ,fT⟩;have Hk:=Qh (show ∀b c,I b=some c→J b=some c from fM.keep A1.O.ok (Qn _));have A2:=Qh (show lY I w J w2 from⟨aQ,Hk.O,A1.O.dE.trans (aF.mono A1.O.dE.size)⟩);obtain⟨fo,fc,rfl,Td,_,_⟩:=id fT;have Hr:=Qh fT;have ZV:J w2.heap.size=none:=A2.O.ok.fresh (Qn _);have fO:w.heap.size≤w2.heap.size:=A2.O.size;have HaJ:=Qh (fun w hw=>U7 J (hI.mono Hk.O) w hw);have IL:=Qh (Hv.O.mono Hk.O);have HC:=Qh Hln.O.1;have FK:=Hln.O.2;have A3:=Qh (A2.O.past (.cells #[.slice ao l.length cap,.slice fo fs.length fc] 28));have RB:=Qh (heap_alloc_new w2 (.cells #[.slice ao l.length cap,.slice fo fs.length fc] 28));have hGJ:=hI.mono Hk.O;clear aF fM aQ fT A1 uw Fa rH A2;by_cases hlt:D<fs.length
  ·have k1:decide ((D:Int)<(fs.length:Int))=true:=Qt (by omega);have y1:=(cell_of_row _ _ 1 _ _ _ RB.O).trans rfl;go_wp2_with (refine nO rfl rfl 26 _ _ rfl w2.heap.size 1 [.slice fo D fc] (.slice fo D fc) (by simp[Act.eval]) (by simp[Act.eval]) (by rfl) _ 28 RB.O (by simp) (by kernel_rfl) (by simp[Value.oneCell']) #[.slice ao l.length cap,.slice fo D fc] (by rfl) ?_)
   intro W9 eQ Dk;have A9:=Qh (show lY I w J W9 from⟨A3.O.ok.grown eQ (fun g h=>by injection h with h;rw[←h];exact ZV),A3.O.keep,A3.O.dE.grown eQ A3.O.dE.size (fun g h=>by injection h with h;omega)⟩);have r0:=(cell_of_row _ _ 0 _ _ _ Dk).trans rfl;have r1:=(cell_of_row _ _ 1 _ _ _ Dk).trans rfl;have HG:=Qh (show bf nY J (.slice fo D fc) (fs.take D)from Hr.O.rR (by omega));have HK:=Qh A9.O.ok;have AZ:=Qh (fun w hw=>UW J hGJ _ _ l (fs.take D) IL.O HG.O Gj.O (by omega) sP.O U8.O (by rw[List.length_take];omega) (fun f h=>HC.O f (List.mem_of_mem_take h)) w hw);have IP:=Qh (fun w hw=>Xij J _ _ l (fs.take D) IL.O HG.O Gj.O (by omega) sP.O U8.O (fun f h=>HC.O f (List.mem_of_mem_take h)) w hw);go_wp2_with fail
   clear eQ Dk RB A3 HG y1 k1 hlt;generalize pQ ⟨l,fs.take D⟩=tx at AZ IP;have q1:(tx==tx)=true:=beq_self_eq_true tx;obtain⟨vs,lS⟩:∃vs,Value.slice ao l.length cap=vs:=⟨_,rfl⟩;obtain⟨vg,Sc⟩:∃vg,Value.slice fo D fc=vg:=⟨_,rfl⟩;rw[lS]at AZ IP r0;rw[Sc]at AZ IP r1;clear Sc lS;refine uW (X:=Unit) (ZU vs vg tx) (pR W9 8 (fun w'=>Below (W9).heap.size (W9) w')) (by kernel_rfl) (by kernel_rfl) ?_ ?_ ?_
   ·exact⟨(),pR.start _ _⟩
   ·rintro x' s' a' w' i eU gI ha hC hi;obtain⟨aV,oi,eX,aB⟩:=mem_ready.1 hi;have ev:=zC BD ha;rcases i with _|_|_|_|_|_|_|_|_|i
    rotate_left 9
    ·simp at eX
    all_goals
     have fZ:=eX;simp at eX;subst eX;simp[Region.binds]at aB;try have hl:=xW 8 8 gI (by decide+kernel) aV
     try have dH:=hC.off hl
     try have r0:=dh dH r0
     try have r1:=dh dH r1
     try have D8:=xW 8 8 gI (by decide+kernel) aV
     try rw[Array.getD_eq_getD_getElem?]at D8
     refine wpOp_step fZ (fun K' hK=> ?_);first|rw[if_pos (by rfl)]|rw[if_pos (by unfold Region.wanted;dsimp only;rw[xw (j:=5) (t:=33) (b:=true) (by rfl) (by simp[ev,fG,aB])];rfl)]
    rotate_left 1
    ·unfold Oper.wp;simp[go_sem,ev,fG,aB,Oper.upon];refine(AZ.O w' (HK.O.below (Qn _) dH)).mono ?_;rintro r4 w4 ⟨rfl,aM⟩;exact hK _ _ ⟨(),iF BD ha rfl aV,hC.call (by decide) hl (dH.trans (aM.mono dH.size))⟩
    rotate_left 1
    ·unfold Oper.wp;simp[go_sem,ev,fG,aB,Oper.upon];refine(IP.O w' (HK.O.below (Qn _) dH)).mono ?_;rintro r4 w4 ⟨rfl,aM⟩;exact hK _ _ ⟨(),iF BD ha rfl aV,hC.call (by decide) hl (dH.trans (aM.mono dH.size))⟩
    rotate_left 2
    ·unfold Oper.wp;simp[go_sem,ev,fG,aB,Oper.upon];refine(HaJ.O w' (HK.O.below (Qn _) dH)).mono ?_;rintro r4 w4 ⟨rfl,aM⟩;exact hK _ _ ⟨(),iF BD ha rfl aV,hC.call (by decide) hl (dH.trans (aM.mono dH.size))⟩
    rotate_left 1
    ·unfold Oper.wp;simp[go_sem,ev,fG,aB,Oper.upon,r0,r1,q1,D8];exact hK _ _ ⟨(),iF BD ha rfl aV,pR.last (hC.off hl) (yI aV)⟩
    all_goals
     unfold Oper.wp;first
     |(simp[go_sem,ev,fG,aB,Oper.upon,r0,r1,q1,D8];exact hK _ _ ⟨(),iF BD ha rfl aV,hC.pure (by decide)⟩)
     |(simp[go_sem,ev,fG,Oper.upon,r0,r1,q1,D8];exact hK _ _ ⟨(),iF BD ha rfl aV,hC.pure (by decide)⟩)
   ·rintro x' s' a' wE gH ha hC;have hP:=hC.on (gH 8 (by decide));rw[vB _ _ _ _ (fun i hi=>by rw[Nat.zero_add];exact gH i (by simpa using hi))]at ha;subst ha;simp only[dZ,Act.put,List.setIfInBounds_toArray,List.set_cons_succ,List.set_cons_zero];go_wp2;go_ret;exact⟨rfl,A9.O.dE.trans (hP.mono A9.O.dE.size)⟩
  ·have k1:decide ((D:Int)<(fs.length:Int))=false:=Qf (by omega);have r0:=(cell_of_row _ _ 0 _ _ _ RB.O).trans rfl;have r1:=(cell_of_row _ _ 1 _ _ _ RB.O).trans rfl;go_wp2_with fail
   obtain⟨W9,Gm⟩:∃W9,w2.alloc (.cells #[.slice ao l.length cap,.slice fo fs.length fc] 28)=W9:=⟨_,rfl⟩;rw[Gm]at A3 r0 r1 ⊢;have A9:=A3;have HK:=Qh A9.O.ok;have AZ:=Qh (fun w hw=>UW J hGJ _ _ l fs IL.O Hr.O Gj.O (by omega) sP.O U8.O (by omega) HC.O w hw);have IP:=Qh (fun w hw=>Xij J _ _ l fs IL.O Hr.O Gj.O (by omega) sP.O U8.O HC.O w hw);clear RB A3 k1 Gm;generalize pQ ⟨l,fs⟩=tx at AZ IP;have q1:(tx==tx)=true:=beq_self_eq_true tx;obtain⟨vs,lS⟩:∃vs,Value.slice ao l.length cap=vs:=⟨_,rfl⟩;obtain⟨vg,Sc⟩:∃vg,Value.slice fo fs.length fc=vg:=⟨_,rfl⟩;rw[lS]at AZ IP r0;rw[Sc]at AZ IP r1;clear Sc lS;refine uW (X:=Unit) (ZU vs vg tx) (pR W9 8 (fun w'=>Below (W9).heap.size (W9) w')) (by kernel_rfl) (by kernel_rfl) ?_ ?_ ?_
   ·exact⟨(),pR.start _ _⟩
   ·rintro x' s' a' w' i eU gI ha hC hi;obtain⟨aV,oi,eX,aB⟩:=mem_ready.1 hi;have ev:=zC BD ha;rcases i with _|_|_|_|_|_|_|_|_|i
    rotate_left 9
    ·simp at eX
    all_goals
     have fZ:=eX;simp at eX;subst eX;simp[Region.binds]at aB;try have hl:=xW 8 8 gI (by decide+kernel) aV
     try have dH:=hC.off hl
     try have r0:=dh dH r0
     try have r1:=dh dH r1
     try have D8:=xW 8 8 gI (by decide+kernel) aV
     try rw[Array.getD_eq_getD_getElem?]at D8
     refine wpOp_step fZ (fun K' hK=> ?_);first|rw[if_pos (by rfl)]|rw[if_pos (by unfold Region.wanted;dsimp only;rw[xw (j:=5) (t:=33) (b:=true) (by rfl) (by simp[ev,fG,aB])];rfl)]
    rotate_left 1
    ·unfold Oper.wp;simp[go_sem,ev,fG,aB,Oper.upon];refine(AZ.O w' (HK.O.below (Qn _) dH)).mono ?_;rintro r4 w4 ⟨rfl,aM⟩;exact hK _ _ ⟨(),iF BD ha rfl aV,hC.call (by decide) hl (dH.trans (aM.mono dH.size))⟩
    rotate_left 1
    ·unfold Oper.wp;simp[go_sem,ev,fG,aB,Oper.upon];refine(IP.O w' (HK.O.below (Qn _) dH)).mono ?_;rintro r4 w4 ⟨rfl,aM⟩;exact hK _ _ ⟨(),iF BD ha rfl aV,hC.call (by decide) hl (dH.trans (aM.mono dH.size))⟩
    rotate_left 2
    ·unfold Oper.wp;simp[go_sem,ev,fG,aB,Oper.upon];refine(HaJ.O w' (HK.O.below (Qn _) dH)).mono ?_;rintro r4 w4 ⟨rfl,aM⟩;exact hK _ _ ⟨(),iF BD ha rfl aV,hC.call (by decide) hl (dH.trans (aM.mono dH.size))⟩
    rotate_left 1
    ·unfold Oper.wp;simp[go_sem,ev,fG,aB,Oper.upon,r0,r1,q1,D8];exact hK _ _ ⟨(),iF BD ha rfl aV,pR.last (hC.off hl) (yI aV)⟩
    all_goals
     unfold Oper.wp;first
     |(simp[go_sem,ev,fG,aB,Oper.upon,r0,r1,q1,D8];exact hK _ _ ⟨(),iF BD ha rfl aV,hC.pure (by decide)⟩)
     |(simp[go_sem,ev,fG,Oper.upon,r0,r1,q1,D8];exact hK _ _ ⟨(),iF BD ha rfl aV,hC.pure (by decide)⟩)
   ·rintro x' s' a' wE gH ha hC;have hP:=hC.on (gH 8 (by decide));rw[vB _ _ _ _ (fun i hi=>by rw[Nat.zero_add];exact gH i (by simpa using hi))]at ha;subst ha;simp only[dZ,Act.put,List.setIfInBounds_toArray,List.set_cons_succ,List.set_cons_zero];go_wp2;go_ret;exact⟨rfl,A9.O.dE.trans (hP.mono A9.O.dE.size)⟩
