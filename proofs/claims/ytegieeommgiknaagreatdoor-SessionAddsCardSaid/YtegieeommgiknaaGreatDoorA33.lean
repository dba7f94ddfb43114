/- Lemmas for the claim's theorem;conditions: as each says. -/
import Derived.Test.YtegieeommgiknaaGreatDoorA32
set_option maxHeartbeats 0
set_option maxRecDepth 100000
set_option linter.all false
namespace Go.Proofs.YtegieeommgiknaaGreatDoor
def gT:af:=[97,98,99]
def cA:ic:=⟨1,[97],[],[],gT⟩
def xC:Xt:=⟨1,0,3⟩
def yC:bD:=⟨1,[97],[],[],3,dW gT,[xC]⟩
def sC:bV:=⟨1,5,[],[yC],gT,[]⟩
theorem Xwe:iR gT=[⟨0,gT⟩]:=by kernel_rfl
theorem Xxd:dw gT=[gT]:=by kernel_rfl
theorem Xwv:jA ⟨[],1,[]⟩ gT=(⟨[⟨dW gT,xC⟩],1,gT⟩,[xC],0):=by
 have h:(iR gT).foldl lV (⟨[],1,[]⟩,[])=(⟨[⟨dW gT,xC⟩],1,gT⟩,[xC]):=by
  rw[Xwe];show lV (⟨[],1,[]⟩,[]) ⟨0,gT⟩=_;rw[lV,if_neg (by decide)];show(dw gT).foldl pO (⟨[],1,[]⟩,[])=_;rw[Xxd];rfl
 rw[jA,if_neg (by decide),if_neg (by decide),h]
theorem Xwu:fQ ⟨[],1,[]⟩ cA=(yC,⟨[⟨dW gT,xC⟩],1,gT⟩):=by
 have h:=Xwv;unfold fQ;rw[if_pos (by rfl),show cA.aI=gT from rfl,h];rfl
theorem Xxm{d:af}(h:d.length=32):dh [] ⟨1,[97],[],[],3,d,[⟨1,0,3⟩]⟩=([⟨1,[97],[],[],3,d,[⟨1,0,3⟩]⟩],0):=by
 obtain⟨a0,a1,a2,a3,a4,a5,a6,a7,a8,a9,b0,b1,b2,b3,b4,b5,b6,b7,b8,b9,c0,c1,c2,c3,c4,c5,c6,c7,c8,c9,d0,d1,rfl⟩:=TN h;kernel_rfl
theorem Xw1{d:af}(h:d.length=32):aX ⟨1,[97],[],[],3,d,[⟨1,0,3⟩]⟩=0:=by
 obtain⟨a0,a1,a2,a3,a4,a5,a6,a7,a8,a9,b0,b1,b2,b3,b4,b5,b6,b7,b8,b9,c0,c1,c2,c3,c4,c5,c6,c7,c8,c9,d0,d1,rfl⟩:=TN h;kernel_rfl
theorem Xv9:fK aN yC 5=(⟨[yC],[]⟩,0):=by
 have h:dh [] yC=([yC],0):=Xxm (TM _);unfold fK;rw[show aN.aF=[]from rfl,h];rfl
theorem Xxq:gQ (dK [] 5) cA=(⟨1,5,[],[yC],⟨[⟨dW gT,xC⟩],1,gT⟩,[yC],[]⟩,0):=by
 have h1:fQ (dK [] 5).bf cA=(yC,⟨[⟨dW gT,xC⟩],1,gT⟩):=Xwu;have h2:fK (dK [] 5).stt yC (dK [] 5).aA=(⟨[yC],[]⟩,0):=Xv9;have h3:aX yC=0:=Xw1 (TM _);unfold gQ;rw[h1];dsimp only;rw[h2,if_neg (by omega),if_neg (by rintro⟨h,_⟩;exact h rfl),if_neg (by rintro(h|h)<;>exact absurd h (by decide)),if_neg (by decide)];rfl
theorem Xvx:kN [] 5 [cA]=([sC],1,0):=by
 have h:dV (dK [] 5) 0 [cA]=(⟨1,5,[],[yC],⟨[⟨dW gT,xC⟩],1,gT⟩,[yC],[]⟩,1,0):=by
  rw[dV,Xxq,if_neg (by decide),dV]
 unfold kN;rw[if_neg (by decide),h];rfl
theorem Ie:cA.Sm:=⟨by decide,by decide,by decide,by decide,by decide,by decide,fun x hx=>(by cases hx)⟩
open Go.RowKit
structure vW (J:IH) (w:World) (B:Nat) (ai dt sp:Int) (vs:Value) (L:List bV):Prop where
 no:J B=none
 rd:aZ fw J vs L
 row:w.heap[B]?=some (.cells #[.int .u32 ai,.int .i64 dt,.int .i64 sp,vs] 30 (0,0))
section
variable {I J J':IH} {w0 w w':World} {B:Nat} {ai dt sp:Int} {vs:Value} {L:List bV}
theorem vW.lt(h:vW J w B ai dt sp vs L):B<w.heap.size:=(Qg h.row)
theorem vW.ext(h:vW J w B ai dt sp vs L)(iZ:Ok J w)(hb:Below w.heap.size w w')(hx:Ext w.heap.size J J'):vW J' w' B ai dt sp vs L:=
 ⟨(hx _ h.lt).trans h.no,h.rd.mono (fun b c hc=>hx.keep iZ (Qn _) b c hc),(hb.block _ h.lt).trans h.row⟩
theorem vW.quiet(h:vW J w B ai dt sp vs L)(hb:Below w.heap.size w w'):vW J w' B ai dt sp vs L:=
 ⟨h.no,h.rd,(hb.block _ h.lt).trans h.row⟩
end
def TP(I:IH)(w:World)(ai dt sp:Int)(L:List bV)(e:Ending)(w':World):Prop:=
 ∃vs J,e= .returned (bW ai dt sp vs)∧Below w.heap.size w w'∧Ext w.heap.size I J∧Ok J w'∧aZ fw J vs L
theorem Xif(I:IH)(hI:fG I)(w:World)(hw:Ok I w):
 Calls Tryz.prog 6 #[] w fun e w'=>e= .returned (.bool true)∧Below w.heap.size w w':=by
 have A0:=(lJ.start hw).past (.cells (Bp cA (.slice none 0 0)).toArray 53);obtain⟨K,hk,_,iZ,_,hr⟩:=one_row (T:=xm) (x:=cA) (cs:=Bp cA (.slice none 0 0)) A0.ok (heap_alloc_new w _) (hw.fresh (Qn _)) ⟨_,rfl,aZ.nil _ _⟩;have Hw:=Qh (TI K (hI.mono hk) 7 0 0 [] Xtq [cA] (by decide) (by decide) (.slice none 0 0) (aZ.nil _ _) 5 _ hr (fun c hc=>by rw[List.mem_singleton.1 hc];exact⟨Ie.wf,by decide,by decide⟩) _ iZ);rw[Xvx]at Hw;have A1:=Qh (show lJ I w K _ from⟨iZ,hk,A0.eU⟩);clear A0 hk iZ hr hI;go_enter Tryz.func6,Tryz.ntmps6
 go_wp2_with fail
 refine Hw.O.mono ?_;rintro e1 w1 ⟨vs,J1,rfl,aG,iY,aO,je⟩;have A2:=Qh (A1.O.ext aG iY aO);obtain⟨a1,c1,rfl⟩:=Xxy (n:=1) je rfl;have Hr:=Qh (show aZ fw J1 (.slice a1 1 c1) [sC]from je);clear aG iY aO je A1 Hw
 go_upto_region 2 with(
  refine fO rfl rfl 30 _ _ rfl w1.heap.size 0 [.int .u32 7,.int .i64 0,.int .i64 0,.slice a1 1 c1] (bW 7 0 0 (.slice a1 1 c1)) (by simp[Act.eval]) (by simp[Act.eval]) (by rfl) cO 30 (heap_alloc_new _ _) (by simp) (by kernel_rfl) (by simp[Value.oneCell']) #[.int .u32 7,.int .i64 0,.int .i64 0,.slice a1 1 c1] (by rfl) ?_;intro w2 hg2 iN)
 have aL:Below w1.heap.size w1 w2:=((Qb _ _).alloc (Qn _) _).grown hg2 (by simp) (fun k e=>by injection e with e;omega);have A3:=Qh (A2.O.quiet aL);obtain⟨z0,z1,z2,z3⟩:=qU iN;obtain⟨x,ve,b,off,cap,cB,dC,⟨c0,c1',c2,c3,c4,c5⟩,h1⟩:=Cx Hr.O A3.O.ok 0 (by decide);obtain rfl:sC=x:=cB;cases dC;obtain⟨e,va,vx,b2,mh,cap2,ul,dC,⟨d0,d1,d2,d3,d4,d5,d6⟩,h2,h3⟩:=wD h1 A3.O.ok 0 (by decide);obtain rfl:yC=e:=ul;cases dC;obtain⟨x,b3,xq,Ig,hlt,dC,x0,x1,x2⟩:=vg h3 A3.O.ok 0 (by decide);obtain rfl:xC=x:=hlt;cases dC;replace c0:w2.cell? ⟨b,off,none⟩=some (.int .i64 1):=c0;have c1:w2.cell? ⟨b,off+1,none⟩=some (.int .i64 5):=c1';replace c2:w2.cell? ⟨b,off+2,none⟩=some (S []):=c2;replace c3:w2.cell? ⟨b,off+3,none⟩=some (.slice (some ⟨b2,mh,none⟩) 1 cap2):=c3;replace c4:w2.cell? ⟨b,off+4,none⟩=some (S [97,98,99]):=c4;replace c5:w2.cell? ⟨b,off+5,none⟩=some (S []):=c5;replace d6:w2.cell? ⟨b2,mh+6,none⟩=some (.slice (some ⟨b3,xq,none⟩) 1 Ig):=d6;replace x0:w2.cell? ⟨b3,xq,none⟩=some (.int .i64 1):=x0;replace x1:w2.cell? ⟨b3,xq+1,none⟩=some (.int .i64 0):=x1;replace x2:w2.cell? ⟨b3,xq+2,none⟩=some (.int .i64 3):=x2;have hz:=block_lt_of_cell z0;clear hg2 iN c1' d0 d1 d2 d3 d4 d5 h1 h2 h3
 go_upto_region 5 with(
  refine fO rfl rfl 56 _ _ rfl w2.heap.size 0 [.int .i64 1,.int .i64 5,S [],.slice (some ⟨b2,mh,none⟩) 1 cap2,S [97,98,99],S []] (.agg #[.int .i64 1,.int .i64 5,S [],.slice (some ⟨b2,mh,none⟩) 1 cap2,S [97,98,99],S []]) (by simp[Act.eval]) (by simp[Act.eval]) (by rfl) uu 56 (heap_alloc_new _ _) (by simp) (by kernel_rfl) (by simp[Value.oneCell']) #[.int .i64 1,.int .i64 5,S [],.slice (some ⟨b2,mh,none⟩) 1 cap2,S [97,98,99],S []] (by rfl) ?_;intro w3 iX jK)
 have dO:Below w2.heap.size w2 w3:=((Qb _ _).alloc (Qn _) _).grown iX (by simp) (fun k e=>by injection e with e;omega);have A4:=Qh (A3.O.quiet dO);replace z0:=aV dO z0;replace d6:=aV dO d6;replace x0:=aV dO x0;replace x1:=aV dO x1;replace x2:=aV dO x2;have s0:w3.cell? ⟨w2.heap.size,0,none⟩=some (.int .i64 1):=(cell_of_row _ _ 0 _ _ _ jK).trans rfl;have s1:w3.cell? ⟨w2.heap.size,1,none⟩=some (.int .i64 5):=(cell_of_row _ _ 1 _ _ _ jK).trans rfl;have s3:w3.cell? ⟨w2.heap.size,3,none⟩=some (.slice (some ⟨b2,mh,none⟩) 1 cap2):=(cell_of_row _ _ 3 _ _ _ jK).trans rfl;have s4:w3.cell? ⟨w2.heap.size,4,none⟩=some (S [97,98,99]):=(cell_of_row _ _ 4 _ _ _ jK).trans rfl;clear c0 c1 c2 c3 c4 c5 z1 z2 z3 iX jK dO A3;go_wp2_with fail
 go_ret;exact⟨rfl,A4.O.eU⟩
open Go.RowKit Go.Lib
structure afV (n k:Nat) (s:af):Prop where
 val:digits s=(n:Nat)
 len:1≤s.length∧s.length≤k
 all:s.all (fun c=>decide (48≤c)&&decide (c≤57))=true
 head:1≤n→s.head?≠some 48
 one:n<10→s.length=1
abbrev XG(so:Option Addr)(ll sc b off n lc k:Nat)(aA:Int)(oc:Option Addr)(cl cc:Nat)(L2:List bV)(cnt rn:Int)(x:Option Addr×Nat):List (Option Tmp×Value):=
 [(some 13,bW 7 2 1 (.slice so ll sc)),(some 14,.slice (some ⟨b,off,none⟩) n lc),(some 15,.int .i64 (k:Int)),(some 16,.pointer (some ⟨b,off+k*2,none⟩)),(some 17,.pointer (some ⟨b,off+k*2,none⟩)),(some 18,.int .i64 aA),(some 19,.slice (some ⟨b,off,none⟩) n lc),(some 20,.int .i64 (k:Int)),(some 21,.pointer (some ⟨b,off+k*2,none⟩)),(some 22,.pointer (some ⟨b,off+k*2+1,none⟩)),(some 23,.slice oc cl cc),(some 24,.tuple #[bW 7 2 1 (.slice x.1 L2.length x.2),.int .i64 cnt,.int .i64 rn]),(some 12,.tuple #[bW 7 2 1 (.slice x.1 L2.length x.2),.int .i64 cnt,.int .i64 rn]),(some 25,bW 7 2 1 (.slice x.1 L2.length x.2)),(some 26,.int .i64 cnt),(some 27,.int .i64 rn),(none,undef)]
theorem TQ{so:Option Addr}{ll sc b off n lc k:Nat}{aA:Int}{oc:Option Addr}{cl cc:Nat}{L2:List bV}{cnt rn:Int}{x:Option Addr×Nat}:bC (XG so ll sc b off n lc k aA oc cl cc L2 cnt rn x):=by
 unfold bC;simp
structure WtM (I:IH) (w0:World) (L:List bV) (J:IH) (W:World) (vs:Value):Prop where
 at_:lJ I w0 J W
 ext:Ext w0.heap.size I J
 OB:J w0.heap.size=none
 O:W.heap[w0.heap.size]?=some (.cells cO 30 (0,0))
 box:vW J W (w0.heap.size+1) 7 2 1 vs L
theorem Xn5 (I:IH) (hI:fG I) (v:Value) (l:List og) (hv:aZ wK I v l) (hc:∀b∈l,∀c∈b.fH,c.Sm) (ht:jo l≤100) (hl:l.length≤100) (w:World) (hw:Ok I w):
 Calls Tryz.prog 10 #[v] w (TP I w 7 2 1 (jU [] l)):=by
 have rJ:∀b∈l,∀c∈b.fH,c.aI.length≤1000:=fun b hb c h=>by have:=(hc b hb c h).aI;omega
 have HA:=Qh (XH rJ (by omega) (by omega))
 have HG:=Qh hI
 have Hv:=Qh hv
 have Hc:=Qh hc
 have wI:=Qh (show (Tryz.prog.info? 30).map (·.size)=some 4 by kernel_rfl)
 have hlen:=hv.bL
 obtain ⟨ao,cap,rfl,_,_,_⟩:=id hv
 obtain ⟨W2,kU⟩:∃W2,((w.alloc (.cells cO 30)).alloc (.cells cO 30))=W2:=⟨_,rfl⟩
 obtain ⟨bS,r0,r1,_⟩:=GX w cO cO 30 30 W2 kU
 have A2:lJ I w I W2:=by rw [←kU];exact ((lJ.start hw).past _).past _
 clear hv hc rJ hI
 go_enter Tryz.func10,Tryz.ntmps10
 go_upto_region 2 with (refine fO rfl rfl 30 _ _ rfl (w.heap.size+1) 0 [.int .u32 7,.int .i64 2,.int .i64 1,.slice none 0 0] (bW 7 2 1 (.slice none 0 0)) (by simp [Act.eval]) (by simp [Act.eval]) (by rfl) cO 30 r1 (by simp) (by kernel_rfl) (by simp [Value.oneCell']) #[.int .u32 7,.int .i64 2,.int .i64 1,.slice none 0 0] (by rfl) ?_
                        intro w3 iX jK)
 have M0:=Qh (show WtM I w (jU [] (l.take 0)) I w3 (.slice none 0 0) from
  ⟨A2.own iX (hw.fresh (by omega)) (by omega),Ext.refl _ _,hw.fresh (Qn _),(iX.block _ (by omega) (fun e=>by injection e with e;omega)).trans r0,⟨hw.fresh (by omega),aZ.nil _ _,jK⟩⟩)
 clear kU r0 r1 A2 iX jK bS
 go_wp2_with fail
 go_loopw [4,9] (fun _ s9 wr=> ∃(k:Nat) (J:IH) (vs:Value),k≤l.length∧s9= .int .i64 k∧WtM I w (jU [] (l.take k)) J wr vs) (fun _ i _=>l.length-(intOf i).toNat)
 case atStart=>exact ⟨0,I,_,Nat.zero_le _,rfl,M0.O⟩
 case round=>
  clear M0
  obtain ⟨k,J,vs,hk,rfl,hM⟩:=hrel
  have M:=Qh hM
  clear hM
  by_cases hlt:k<l.length
  ·obtain ⟨x0,vc,b,off,cap',cB,dC,c0,c1,h1⟩:=XI (Hv.O.mono M.O.at_.keep) M.O.at_.ok k hlt
   cases dC
   have oh:=hlt
   have AA:=Hc.O x0 (by rw [←cB];exact List.getElem_mem hlt)
   have mq:=Qh (Xgf [] l hlt cB)
   have hto:=OC hlt cB
   have ul:=TR l (k+1)
   have Ih:=(fun W (hW:Ok J W)=>TI J (HG.O.mono M.O.at_.keep) 7 2 1 (jU [] (l.take k)) (HA.O k hk) x0.fH (by omega) (by omega) vs M.O.box.rd x0.aA vc h1 (fun c h=>⟨(AA c h).wf,by have:=(AA c h).Da;omega,by have:=(AA c h).aI;omega⟩) W hW)
   obtain ⟨L2,cnt,rn,EZ⟩:∃L2 cnt rn,kN (jU [] (l.take k)) x0.aA x0.fH=(L2,cnt,rn):=⟨_,_,_,rfl⟩
   rw [EZ] at Ih mq
   dsimp only [yZ] at Ih mq
   replace Ih:=Qh Ih
   replace mq:=Qh mq.O
   obtain ⟨so,sc,rfl,_,_,_⟩:=id M.O.box.rd
   obtain ⟨oc,cc,rfl,_,_,_⟩:=id h1
   have bO:=h1.bL
   obtain ⟨z0,z1,z2,z3⟩:=qU M.O.box.row
   have BX:=Qh M.O.box
   clear EZ AA cB h1
   go_wp2_with fail
   refine qR (X:=Option Addr × Nat) (XG so ((jU [] (l.take k)).length) sc b off l.length cap k x0.aA oc x0.fH.length cc L2 cnt rn) (jX wr 11 238 229 239 230 240 231 241 (fun _ _=>True) (fun x w=> ∃J',Ext wr.heap.size J J'∧Ok J' w∧aZ fw J' (.slice x.1 L2.length x.2) L2) (fun _ _=>True) (fun _ _=>True) (fun _ _=>True) (fun x w=> ∃J',Ext wr.heap.size J J'∧Ok J' w∧aZ fw J' (.slice x.1 L2.length x.2) L2) (fun x=>(w.heap.size+1)) 30 16 218 219 (fun x=> #[.int .u32 7,.int .i64 2,.int .i64 1,.slice x.1 L2.length x.2]) (fun x=> #[.int .u32 7,.int .i64 2,.int .i64 1,.slice x.1 L2.length x.2]) (fun x=> #[.int .u32 7,.int .i64 2,.int .i64 1,.slice x.1 L2.length x.2])) (by kernel_rfl) (by kernel_rfl) ?_ ?_ ?_
   ·exact ⟨default,jX.start _ _ trivial⟩
   ·rintro x s' a' w' i bS bO ha hC hi
    obtain ⟨aH,oi,dI,au⟩:=mem_ready.1 hi
    have ev:=vV TQ ha
    have hlt:=oO aH
    rcases i with _|_|_|_|_|_|_|_|_|_|_|_|_|_|_|_|_|i
    rotate_left 17
    ·simp at dI
    all_goals
     have dH:=dI
     simp at dI
     subst dI
     simp [Region.binds] at au
     try have hl:=kz 6 16 bO (by decide +kernel) aH
     try have aT:=hC.off hl
     try have z0:=aV aT z0
     try have z1:=aV aT z1
     try have z2:=aV aT z2
     try have z3:=aV aT z3
     try have c0:=aV aT c0
     try have c1:=aV aT c1
     refine wpOp_step dH (fun K' hK=> ?_)
     rw [if_pos (by rfl)]
    rotate_left 11
    ·unfold Oper.wp
     simp [go_sem,ev,dG,au,Oper.upon]
     refine (Ih.O w' (M.O.at_.ok.below (Qn _) aT)).mono ?_
     rintro r4 w4 ⟨v7,J7,rfl,aS,jL,eY,gN⟩
     obtain ⟨a7,k7,rfl,_,_,_⟩:=id gN
     have ha:=ha.trans (lT (L:=XG so ((jU [] (l.take k)).length) sc b off l.length cap k x0.aA oc x0.fH.length cc L2 cnt rn x) (M:=XG so ((jU [] (l.take k)).length) sc b off l.length cap k x0.aA oc x0.fH.length cc L2 cnt rn (a7,k7)) [11,12,13] rfl (fun j bq=>by
      rcases j with _|_|_|_|_|_|_|_|_|_|_|_|_|_|_|_|_|j<;>first|rfl|(exact absurd (by decide) bq)|simp) (List.forall_mem_cons.2 ⟨gG aH,List.forall_mem_cons.2 ⟨kz 6 12 bO (by kernel_rfl) aH,List.forall_mem_cons.2 ⟨kz 6 13 bO (by kernel_rfl) aH,List.forall_mem_nil _⟩⟩⟩))
     exact hK _ _ ⟨(a7,k7),gD TQ ha rfl aH,hC.step hl (aT.trans (aS.mono aT.size)) (by decide) (fun _=>trivial) (fun _ _=>⟨J7,fun b hb=>jL b (Nat.lt_of_lt_of_le hb aT.size),eY,gN⟩) (fun _ _=>trivial) (fun _ _=>trivial) (fun _ _=>trivial) hlt⟩
    rotate_left 4
    ·have aK:w'.heap[(w.heap.size+1)]? =some (.cells _ 30 (0,0)):=(aT.block _ BX.O.lt).trans BX.O.row
     refine oK 30 _ _ rfl ((w.heap.size+1)) 0 [.int .u32 7,.int .i64 2,.int .i64 1,.slice x.1 L2.length x.2] (bW 7 2 1 (.slice x.1 L2.length x.2)) (by simp [Act.eval,ev,dG,au]) (by simp [Act.eval,ev,dG,au]) (by rfl) _ _ aK (by simp) (by kernel_rfl) (by simp [Value.oneCell']) ?_
     exact hK _ _ ⟨x,dS (d:=none) (v:=undef) TQ ha rfl aH,hC.jP aH (hC.f1 (by first|simpa using au|simp [au]) (gX (by simp [bS])) hl) (gX (by simp [bS])) (gX (by simp [bS])) (by decide) aK (by rfl)⟩
    all_goals
     unfold Oper.wp
     first
     |(simp [go_sem,ev,dG,au,Oper.upon,z0,z1,z2,z3,c0,c1,oh];exact hK _ _ ⟨x,gD TQ ha rfl aH,hC.pure (by decide)⟩)
     |(simp [go_sem,ev,dG,Oper.upon,z0,z1,z2,z3,c0,c1,oh];exact hK _ _ ⟨x,gD TQ ha rfl aH,hC.pure (by decide)⟩)
   ·rintro x s' a' w6 eu ha hC
    obtain ⟨wb,eG,ed,dR,aK⟩:=hC.on (eu 16 (by decide))
    simp only [ite_self] at aK
    rw [qz _ _ _ _ (fun i hi=>by rw [Nat.zero_add];exact eu i (by simpa using hi))] at ha
    subst ha
    simp only [dE,Act.put,List.setIfInBounds_toArray,List.set_cons_succ,List.set_cons_zero]
    obtain ⟨a9,k9⟩:=x
    dsimp only at ed dR aK ⊢
    obtain ⟨J9,jZ,jD,fB⟩:=ed
    have bS:=M.O.at_.size
    have yB:J9 (w.heap.size+1)=none:=(jZ _ BX.O.lt).trans BX.O.no
    have Zq:=BX.O.lt
    have M6:=Qh (show WtM I w (jU [] (l.take (k+1))) J9 w6 (.slice a9 L2.length k9) from
     ⟨(M.O.at_.ext eG jZ jD).own dR yB (by omega),M.O.ext.trans jZ bS,(jZ _ (by omega)).trans M.O.OB,(dR.block _ (by have:=eG.size;omega) (fun e=>by injection e with e;omega)).trans ((eG.block _ (by omega)).trans M.O.O),⟨yB,by rw [mq.O];exact fB,aK⟩⟩)
    clear M BX eG dR aK jZ jD fB z0 z1 z2 z3 c0 c1
    go_wp2
    go_roundw
    case rel=>exact ⟨k+1,J9,_,by omega,by go_num,M6.O⟩
    case measure=>simp [intOf];omega
  ·have mJ:k=l.length:=by omega
   subst mJ
   rw [List.take_length] at M
   obtain ⟨so,sc,rfl,_,_,_⟩:=id M.O.box.rd
   obtain ⟨z0,z1,z2,z3⟩:=qU M.O.box.row
   have bR:=M.O.O
   have Zq:=M.O.box.lt
   go_wp2_with (refine fO rfl rfl 30 _ _ rfl w.heap.size 0 [.int .u32 7,.int .i64 2,.int .i64 1,.slice so (jU [] l).length sc] (bW 7 2 1 (.slice so (jU [] l).length sc)) (by simp [Act.eval]) (by simp [Act.eval]) (by rfl) cO 30 bR (by simp) (by kernel_rfl) (by simp [Value.oneCell']) #[.int .u32 7,.int .i64 2,.int .i64 1,.slice so (jU [] l).length sc] (by rfl) ?_
                intro w9 bK fB)
   exact bodyPost_ret (results_cell_row rfl _ _ w.heap.size _ _ (0,0) _ rfl fB Tryz.underlying30 rfl wI.O) rfl
    ⟨_,J,rfl,M.O.at_.eU.grown bK M.O.at_.size (fun k e=>by injection e with e;omega),M.O.ext,M.O.at_.ok.grown bK (fun g e=>by injection e with e;subst e;exact M.O.OB),M.O.box.rd⟩
