/- Lemmas for the claim's theorem;conditions: as each says. -/
import Derived.Test.YtegieeommgiknaaGreatDoorW33
import Derived.ProofKit
import Derived.Deep.Slices
import Derived.Lib.LaidTab
import Derived.LaidMore
import Derived.Lay
import Derived.Stop.Joined
import Derived.Stop.LaidErr
import Derived.Test.YtegieeommgiknaaGreatDoorCards
import Derived.Test.YtegieeommgiknaaGreatDoorTie
import Derived.HandedShaped
import Derived.SizedLaws
import Derived.Shelf.Vars
set_option maxHeartbeats 0
set_option maxRecDepth 100000
set_option linter.all false
namespace Go.Proofs.YtegieeommgiknaaGreatDoor
open Go.RowKit
variable{P:Program}{W:World}{so:Option Addr}{ll sc b off n lc k:Nat}{aA:Int}{oc:Option Addr}{cl:Nat}{L2:List bV}{cnt rn:Int}{x:(Option Addr×Nat)×Nat}{w:World}{g:Nat}{t e:TypeId}{α H:Type}{W':World}{s:ChangeSpec}
structure SG (I:IH) (w0:World) (L:List bV) (B1 B2:Nat) (J:IH) (W:World) (v1 v2:Value):Prop where
 at_:lJ I w0 J W
 a:vW J W B1 7 0 0 v1 L
 b:vW J W B2 7 0 0 v2 L
abbrev SH(so:Option Addr)(ll sc b off n lc k:Nat)(aA:Int)(oc:Option Addr)(cl cc:Nat)(L2:List bV)(cnt rn:Int)(x:(Option Addr×Nat)×Nat):List (Option Tmp×Value):=
 [(some 24,bW 7 0 0 (.slice so ll sc)),(some 25,.slice (some ⟨b,off,none⟩) n lc),(some 26,.int .i64 (k:Int)),(some 27,.pointer (some ⟨b,off+k*2,none⟩)),(some 28,.pointer (some ⟨b,off+k*2,none⟩)),(some 29,.int .i64 aA),(some 30,.slice (some ⟨b,off,none⟩) n lc),(some 31,.int .i64 (k:Int)),(some 32,.pointer (some ⟨b,off+k*2,none⟩)),(some 33,.pointer (some ⟨b,off+k*2+1,none⟩)),(some 34,.slice oc cl cc),(some 35,.tuple #[bW 7 0 0 (.slice x.1.1 L2.length x.1.2),.int .i64 cnt,.int .i64 rn]),(some 23,.tuple #[bW 7 0 0 (.slice x.1.1 L2.length x.1.2),.int .i64 cnt,.int .i64 rn]),(some 36,bW 7 0 0 (.slice x.1.1 L2.length x.1.2)),(some 37,.int .i64 cnt),(some 38,.int .i64 rn),(some 6,.pointer (some ⟨x.2,0,none⟩)),(none,undef),(some 7,.int .i64 cnt),(some 8,.int .i64 rn)]
theorem SI{cc:Nat}:bC (SH so ll sc b off n lc k aA oc cl cc L2 cnt rn x):=by
 unfold bC;simp
abbrev SK(so:Option Addr)(ll sc b off n lc k:Nat)(aA:Int)(oc:Option Addr)(cl cc:Nat)(L2:List bV)(cnt rn:Int)(x:(Option Addr×Nat)×Nat):List (Option Tmp×Value):=
 [(some 40,bW 7 0 0 (.slice so ll sc)),(some 41,.slice (some ⟨b,off,none⟩) n lc),(some 42,.int .i64 (k:Int)),(some 43,.pointer (some ⟨b,off+k*2,none⟩)),(some 44,.pointer (some ⟨b,off+k*2,none⟩)),(some 45,.int .i64 aA),(some 46,.slice (some ⟨b,off,none⟩) n lc),(some 47,.int .i64 (k:Int)),(some 48,.pointer (some ⟨b,off+k*2,none⟩)),(some 49,.pointer (some ⟨b,off+k*2+1,none⟩)),(some 50,.slice oc cl cc),(some 51,.tuple #[bW 7 0 0 (.slice x.1.1 L2.length x.1.2),.int .i64 cnt,.int .i64 rn]),(some 39,.tuple #[bW 7 0 0 (.slice x.1.1 L2.length x.1.2),.int .i64 cnt,.int .i64 rn]),(some 52,bW 7 0 0 (.slice x.1.1 L2.length x.1.2)),(some 53,.int .i64 cnt),(some 54,.int .i64 rn),(some 9,.pointer (some ⟨x.2,0,none⟩)),(none,undef),(some 10,.int .i64 cnt),(some 11,.int .i64 rn)]
theorem SL{cc:Nat}:bC (SK so ll sc b off n lc k aA oc cl cc L2 cnt rn x):=by
 unfold bC;simp
abbrev wzL(v1 v2:Value):List (Option Tmp×Value):=
 [(some 69,bW 7 0 0 v1),(some 70,bW 7 0 0 v2),(none,undef),(none,undef)]
theorem Wu{v1 v2:Value}:bC (wzL v1 v2):=by
 unfold bC;simp
theorem Xgo(I:IH)(hI:fG I)(v:Value)(l:List og)(hv:aZ wK I v l)(lQ:∀b∈l,b.In)(w:World)(hw:Ok I w):
 Calls Tryz.prog 3 #[v] w fun r w'=>r= .returned (.bool true)∧Below w.heap.size w w':=by
 have Ry:=Qh (fun J (hk:∀b c,I b=some c→J b=some c) w hw=>Xif J (hI.mono hk) w hw);have Zo:=Qh (fun w hw=>Xly I v l hv w hw);have A0:=Qh (lJ.start hw);have HG:=Qh hI;have Hv:=Qh hv;obtain⟨ao,cap,rfl,_,_,_⟩:=id hv;cases hg:vv l;case true=>
  have e1:fI l=1:=by rw[fI,hg];rfl
  rw[e1]at Zo;clear e1 hg hv hI;go_enter Tryz.func3,Tryz.ntmps3
  go_wp2_with fail
  refine(Zo.O _ A0.O.ok).mono ?_;rintro e1 w1 ⟨rfl,aG⟩;have A1:=Qh (A0.O.quiet aG);clear aG A0;go_wp2_with fail
  refine(Ry.O I (fun _ _ h=>h) _ A1.O.ok).mono ?_;rintro e2 w2 ⟨rfl,aL⟩;have A2:=Qh (A1.O.quiet aL);clear aL A1;go_wp2;go_ret;exact⟨rfl,A2.O.eU⟩
 have e1:fI l=0:=by rw[fI,hg];rfl
 rw[e1]at Zo;obtain⟨vL,Mf,Kh⟩:=Xsu lQ hg;have hlen:=hv.bL;have yt:=Qh vL;have HA:=Qh (XH (l:=l) (fun b hb c h=>by have:=(vL b hb c h).aI;omega) (by omega) (by omega));clear e1 hg hv hI vL;go_enter Tryz.func3,Tryz.ntmps3
 go_wp2_with fail
 refine(Zo.O _ A0.O.ok).mono ?_;rintro e1 w1 ⟨rfl,aG⟩;have A1:=Qh (A0.O.quiet aG);clear aG A0;obtain⟨W2,kU⟩:∃W2,((w1.alloc (.cells cO 30)).alloc (.cells cO 30))=W2:=⟨_,rfl⟩;obtain⟨bS,r0,r1,_⟩:=GX w1 cO cO 30 30 W2 kU;have A2:=Qh (show lJ I w I W2 by rw[←kU];exact(A1.O.past _).past _);have AJ:=A1.O.size;have ZE:I w1.heap.size=none:=A1.O.ok.fresh (Qn _);have hf1:I (w1.heap.size+1)=none:=A1.O.ok.fresh (by omega);clear A1
 go_upto_region 4 with(first
  |(refine fO rfl rfl 30 _ _ rfl w1.heap.size 0 [.int .u32 7,.int .i64 0,.int .i64 0,.slice none 0 0] (bW 7 0 0 (.slice none 0 0)) (by simp[Act.eval]) (by simp[Act.eval]) (by rfl) cO 30 r0 (by simp) (by kernel_rfl) (by simp[Value.oneCell']) #[.int .u32 7,.int .i64 0,.int .i64 0,.slice none 0 0] (by rfl) ?_
    intro w2 hg2 iN;have r2:=(hg2.block _ (by omega) (fun e=>by injection e with e;omega)).trans r1)
  |(refine fO rfl rfl 30 _ _ rfl (w1.heap.size+1) 0 [.int .u32 7,.int .i64 0,.int .i64 0,.slice none 0 0] (bW 7 0 0 (.slice none 0 0)) (by simp[Act.eval]) (by simp[Act.eval]) (by rfl) cO 30 r2 (by simp) (by kernel_rfl) (by simp[Value.oneCell']) #[.int .u32 7,.int .i64 0,.int .i64 0,.slice none 0 0] (by rfl) ?_
    intro w3 iX jK))
 have pV:=hg2.size
 have M0:=Qh (show SG I w (jU [] (l.take 0)) w1.heap.size (w1.heap.size+1) I w3 (.slice none 0 0) (.slice none 0 0)from
  ⟨(A2.O.own hg2 ZE (by omega)).own iX hf1 (by omega),⟨ZE,aZ.nil _ _,(iX.block _ (by omega) (fun e=>by injection e with e;omega)).trans iN⟩,⟨hf1,aZ.nil _ _,jK⟩⟩)
 obtain⟨B2,gV⟩:∃B,B=w1.heap.size+1:=⟨_,rfl⟩;rw[←gV]at M0 ⊢;obtain⟨B1,qI⟩:∃B,B=w1.heap.size:=⟨_,rfl⟩;rw[←qI]at M0 ⊢;have Im:B1≠B2:=by omega
 have AC:w.heap.size≤B1∧w.heap.size≤B2:=by omega
 clear kU r0 r1 r2 A2 hg2 iN iX jK bS qI gV ZE hf1 pV;go_wp2_with fail
 go_loopw [5,6,7,8,9,10,11,20] (fun _ _ _ _ _ _ _ s20 wr=> ∃(k:Nat) (J:IH) (v1 v2:Value),k≤l.length∧s20= .int .i64 k∧SG I w (jU [] (l.take k)) B1 B2 J wr v1 v2) (fun _ _ _ _ _ _ _ i _=>l.length-(intOf i).toNat)
 case atStart=>exact⟨0,I,_,_,Nat.zero_le _,rfl,M0.O⟩
 case round=>
  clear M0;obtain⟨k,J,v1,v2,hk,rfl,hM⟩:=hrel;have M:=Qh hM;clear hM;by_cases hlt:k<l.length
  ·obtain⟨x0,vc,b,off,cap',cB,dC,d0,d1,h1⟩:=XI Hv.O hw k hlt;cases dC;have oh:=hlt;have AA:=yt.O x0 (by rw[←cB];exact List.getElem_mem hlt);have mq:=Qh (Xgf [] l hlt cB);have hto:=OC hlt cB;have ul:=TR l (k+1);have NZ:∀c∈x0.fH,c.Wf∧c.ag.length≤1000000∧c.aI.length≤1000:=fun c h=>⟨(AA c h).wf,by have:=(AA c h).Da;omega,by have:=(AA c h).aI;omega⟩;obtain⟨L,hL⟩:∃L,jU [] (l.take k)=L:=⟨_,rfl⟩;have ZL:=HA.O k hk;rw[hL]at ZL mq M;have L9:=(fun J' (SS:∀b c,I b=some c→J' b=some c) v' (hv':aZ fw J' v' L) W (hW:Ok J' W)=>TI J' (HG.O.mono SS) 7 0 0 L ZL x0.fH (by omega) (by omega) v' hv' x0.aA vc (h1.mono SS) NZ W hW);have Mx:=(fun J' (SS:∀b c,I b=some c→J' b=some c) v' (hv':aZ fw J' v' L) W (hW:Ok J' W)=>Xr7 J' 7 0 0 L ZL x0.fH (by omega) (by omega) v' hv' x0.aA vc (h1.mono SS) NZ W hW);obtain⟨L2,cnt,rn,EZ⟩:∃L2 cnt rn,kN L x0.aA x0.fH=(L2,cnt,rn):=⟨_,_,_,rfl⟩;rw[EZ]at L9 Mx mq;dsimp only[yZ]at L9 Mx mq;have Wv:=Qh L9;have Ww:=Qh Mx;obtain⟨so,sc,rfl,_,_,_⟩:=id M.O.a.rd;obtain⟨Wx,Wy,rfl,_,_,_⟩:=id M.O.b.rd;obtain⟨oc,cc,rfl,_,_,_⟩:=id h1;have bO:=h1.bL;have D0:=Qh d0;have D1:=Qh d1;have c0:=aV M.O.at_.eU D0.O;have c1:=aV M.O.at_.eU D1.O;obtain⟨z0,z1,z2,z3⟩:=qU M.O.a.row;have Ih:=Qh (Wv.O J M.O.at_.keep _ M.O.a.rd);clear EZ AA NZ cB h1 L9 Mx ZL d0 d1 Wv hL;go_wp2_with fail
   refine qR (X:=(Option Addr×Nat)×Nat) (SH so L.length sc b off l.length cap k x0.aA oc x0.fH.length cc L2 cnt rn) (jX wr 11 241 232 242 16 243 234 244 (fun x w=>x.2<w.heap.size∧J x.2=none) (fun x w=> ∃J',Ext wr.heap.size J J'∧Ok J' w∧aZ fw J' (.slice x.1.1 L2.length x.1.2) L2∧J' x.2=none) (fun _ _=>True) (fun x w=>w.heap[x.2]?=some (.cells cO 30 (0,0))∧wr.heap.size≤x.2) (fun _ _=>True) (fun x w=>(∃J',Ext wr.heap.size J J'∧Ok J' w∧aZ fw J' (.slice x.1.1 L2.length x.1.2) L2∧J' x.2=none)∧(w.heap[x.2]?=some (.cells cO 30 (0,0))∧wr.heap.size≤x.2)) (fun x=>x.2) 30 17 221 222 (fun x=> #[.int .u32 7,.int .i64 0,.int .i64 0,.slice x.1.1 L2.length x.1.2]) (fun x=> #[.int .u32 7,.int .i64 0,.int .i64 0,.slice x.1.1 L2.length x.1.2]) (fun x=> #[.int .u32 7,.int .i64 0,.int .i64 0,.slice x.1.1 L2.length x.1.2])) (by kernel_rfl) (by kernel_rfl) ?_ ?_ ?_
   ·exact⟨(default,B1),jX.start _ _ ⟨M.O.a.lt,M.O.a.no⟩⟩
   ·rintro x s' a' w' i bS bO ha hC hi;obtain⟨aH,oi,dI,au⟩:=mem_ready.1 hi;have ev:=vV SI ha;have hlt:=oO aH;rcases i with _|_|_|_|_|_|_|_|_|_|_|_|_|_|_|_|_|_|_|_|i
    rotate_left 20
    ·simp at dI
    all_goals
     have dH:=dI;simp at dI;subst dI;simp[Region.binds]at au;try have hl:=kz 6 17 bO (by decide+kernel) aH
     try have aT:=hC.off hl
     try have z0:=aV aT z0
     try have z1:=aV aT z1
     try have z2:=aV aT z2
     try have z3:=aV aT z3
     try have c0:=aV aT c0
     try have c1:=aV aT c1
     refine wpOp_step dH (fun K' hK=> ?_);rw[if_pos (by rfl)]
    rotate_left 11
    ·unfold Oper.wp;simp[go_sem,ev,dG,au,Oper.upon];refine(Ih.O w' (M.O.at_.ok.below (Qn _) aT)).mono ?_;rintro r4 w4 ⟨v7,J7,rfl,aS,jL,eY,gN⟩;obtain⟨a7,k7,rfl,_,_,_⟩:=id gN;have ha:=ha.trans (lT (L:=SH so L.length sc b off l.length cap k x0.aA oc x0.fH.length cc L2 cnt rn x) (M:=SH so L.length sc b off l.length cap k x0.aA oc x0.fH.length cc L2 cnt rn ((a7,k7),x.2)) [11,12,13] rfl (fun j bq=>by
      rcases j with _|_|_|_|_|_|_|_|_|_|_|_|_|_|_|_|_|_|_|_|j<;>first|rfl|(exact absurd (by decide) bq)|simp) (List.forall_mem_cons.2 ⟨gG aH,List.forall_mem_cons.2 ⟨kz 6 12 bO (by kernel_rfl) aH,List.forall_mem_cons.2 ⟨kz 6 13 bO (by kernel_rfl) aH,List.forall_mem_nil _⟩⟩⟩))
     exact hK _ _ ⟨((a7,k7),x.2),gD SI ha rfl aH,hC.step hl (aT.trans (aS.mono aT.size)) (by decide) (fun h=>⟨Nat.lt_of_lt_of_le h.1 aS.size,h.2⟩) (fun _ _=>⟨J7,fun b hb=>jL b (Nat.lt_of_lt_of_le hb aT.size),eY,gN,(jL _ (hC.inv hl).1).trans (hC.inv hl).2⟩) (fun _ _=>trivial) (fun h _=>h.elim (fun e=>absurd e (by decide)) (fun⟨_,_,q⟩=>⟨(aS.block _ (Qg q.1)).trans q.1,q.2⟩)) (fun _ _=>trivial) hlt⟩
    rotate_left 4
    ·unfold Oper.wp;simp[go_sem,ev,dG,au,Oper.upon,z0,z1,z2,z3,c0,c1,oh];have ha:=ha.trans (lT (L:=SH so L.length sc b off l.length cap k x0.aA oc x0.fH.length cc L2 cnt rn x) (M:=SH so L.length sc b off l.length cap k x0.aA oc x0.fH.length cc L2 cnt rn (x.1,w'.heap.size)) [16] rfl (fun j bq=>by
      rcases j with _|_|_|_|_|_|_|_|_|_|_|_|_|_|_|_|_|_|_|_|j<;>first|rfl|(exact absurd (by decide) bq)|simp) (List.forall_mem_cons.2 ⟨gG aH,List.forall_mem_nil _⟩))
     exact hK _ _ ⟨(x.1,w'.heap.size),gD SI ha rfl aH,hC.step hl (aT.trans (((Qb _ _).alloc (Qn _) _).mono aT.size)) (by decide) (fun _=>⟨by simp,M.O.at_.ok.fresh aT.size⟩) (fun h _=>h.elim (fun e=>absurd e (by decide)) (fun⟨_,_,q⟩=>(q.elim fun J9 h9=>⟨J9,h9.1,h9.2.1.below (Qn _) ((Qb w'.heap.size w').alloc (Qn _) (.cells cO 30)),h9.2.2.1,h9.2.1.fresh (Qn _)⟩))) (fun _ _=>trivial) (fun _ _=>⟨heap_alloc_new _ _,aT.size⟩) (fun _ _=>trivial) hlt⟩
    ·have aK:w'.heap[x.2]?=some (.cells _ 30 (0,0)):=(hC.f3 (by first|simpa using au|simp[au]) (gX (by simp[bS])) hl).1;refine oK 30 _ _ rfl (x.2) 0 [.int .u32 7,.int .i64 0,.int .i64 0,.slice x.1.1 L2.length x.1.2] (bW 7 0 0 (.slice x.1.1 L2.length x.1.2)) (by simp[Act.eval,ev,dG,au]) (by simp[Act.eval,ev,dG,au]) (by rfl) _ _ aK (by simp) (by kernel_rfl) (by simp[Value.oneCell']) ?_;exact hK _ _ ⟨x,dS (d:=none) (v:=undef) SI ha rfl aH,hC.jP aH ⟨hC.f1 (by first|simpa using au|simp[au]) (gX (by simp[bS])) hl,hC.f3 (by first|simpa using au|simp[au]) (gX (by simp[bS])) hl⟩ (gX (by simp[bS])) (gX (by simp[bS])) (by decide) aK (by rfl)⟩
    all_goals
     unfold Oper.wp;first
     |(simp[go_sem,ev,dG,au,Oper.upon,z0,z1,z2,z3,c0,c1,oh];exact hK _ _ ⟨x,gD SI ha rfl aH,hC.pure (by decide)⟩)
     |(simp[go_sem,ev,dG,Oper.upon,z0,z1,z2,z3,c0,c1,oh];exact hK _ _ ⟨x,gD SI ha rfl aH,hC.pure (by decide)⟩)
   ·rintro x s' a' w6 eu ha hC;obtain⟨wb,eG,ed,dR,aK⟩:=hC.on (eu 17 (by decide));simp only[ite_self]at aK;rw[qz _ _ _ _ (fun i hi=>by rw[Nat.zero_add];exact eu i (by simpa using hi))]at ha;subst ha;simp only[dE,Act.put,List.setIfInBounds_toArray,List.set_cons_succ,List.set_cons_zero];obtain⟨⟨a6,k6⟩,JR⟩:=x;dsimp only at ed dR aK ⊢;obtain⟨⟨J9,jZ,jD,fB,yB⟩,mR,qW⟩:=ed;have Dc:=M.O.a.lt;have De:=M.O.b.lt;have hwz:=M.O.at_.size;have M6:=Qh (show SG I w L B1 B2 J9 w6 _ _ from⟨(M.O.at_.ext eG jZ jD).own dR yB (by omega),(M.O.a.ext M.O.at_.ok eG jZ).own dR (by omega),(M.O.b.ext M.O.at_.ok eG jZ).own dR (by omega)⟩);have X6:=Qh (show vW J9 w6 JR 7 0 0 (.slice a6 L2.length k6) L2 from⟨yB,fB,aK⟩);have kW:B1≠JR∧B2≠JR:=by omega
    clear M eG dR aK jZ jD fB z0 z1 z2 z3 c0 c1 Dc De Ih hC eu mR qW yB;have c0:=aV M6.O.at_.eU D0.O;have c1:=aV M6.O.at_.eU D1.O;obtain⟨z0,z1,z2,z3⟩:=qU M6.O.b.row;have Ih:=Qh (Ww.O J9 M6.O.at_.keep _ M6.O.b.rd);clear Ww;go_wp2_with fail
    refine qR (X:=(Option Addr×Nat)×Nat) (SK Wx L.length Wy b off l.length cap k x0.aA oc x0.fH.length cc L2 cnt rn) (jX w6 11 241 232 242 16 243 234 244 (fun x w=>x.2<w.heap.size∧J9 x.2=none) (fun x w=> ∃J',Ext w6.heap.size J9 J'∧Ok J' w∧aZ fw J' (.slice x.1.1 L2.length x.1.2) L2∧J' x.2=none) (fun _ _=>True) (fun x w=>w.heap[x.2]?=some (.cells cO 30 (0,0))∧w6.heap.size≤x.2) (fun _ _=>True) (fun x w=>(∃J',Ext w6.heap.size J9 J'∧Ok J' w∧aZ fw J' (.slice x.1.1 L2.length x.1.2) L2∧J' x.2=none)∧(w.heap[x.2]?=some (.cells cO 30 (0,0))∧w6.heap.size≤x.2)) (fun x=>x.2) 30 17 221 222 (fun x=> #[.int .u32 7,.int .i64 0,.int .i64 0,.slice x.1.1 L2.length x.1.2]) (fun x=> #[.int .u32 7,.int .i64 0,.int .i64 0,.slice x.1.1 L2.length x.1.2]) (fun x=> #[.int .u32 7,.int .i64 0,.int .i64 0,.slice x.1.1 L2.length x.1.2])) (by kernel_rfl) (by kernel_rfl) ?_ ?_ ?_
    ·exact⟨(default,B1),jX.start _ _ ⟨M6.O.a.lt,M6.O.a.no⟩⟩
    ·rintro x s' a' w' i bS bO ha hC hi;obtain⟨aH,oi,dI,au⟩:=mem_ready.1 hi;have ev:=vV SL ha;have hlt:=oO aH;rcases i with _|_|_|_|_|_|_|_|_|_|_|_|_|_|_|_|_|_|_|_|i
     rotate_left 20
     ·simp at dI
     all_goals
      have dH:=dI;simp at dI;subst dI;simp[Region.binds]at au;try have hl:=kz 6 17 bO (by decide+kernel) aH
      try have aT:=hC.off hl
      try have z0:=aV aT z0
      try have z1:=aV aT z1
      try have z2:=aV aT z2
      try have z3:=aV aT z3
      try have c0:=aV aT c0
      try have c1:=aV aT c1
      refine wpOp_step dH (fun K' hK=> ?_);rw[if_pos (by rfl)]
     rotate_left 11
     ·unfold Oper.wp;simp[go_sem,ev,dG,au,Oper.upon];refine(Ih.O w' (M6.O.at_.ok.below (Qn _) aT)).mono ?_;rintro r4 w4 ⟨v7,J7,rfl,aS,jL,eY,gN⟩;obtain⟨a7,k7,rfl,_,_,_⟩:=id gN;have ha:=ha.trans (lT (L:=SK Wx L.length Wy b off l.length cap k x0.aA oc x0.fH.length cc L2 cnt rn x) (M:=SK Wx L.length Wy b off l.length cap k x0.aA oc x0.fH.length cc L2 cnt rn ((a7,k7),x.2)) [11,12,13] rfl (fun j bq=>by
       rcases j with _|_|_|_|_|_|_|_|_|_|_|_|_|_|_|_|_|_|_|_|j<;>first|rfl|(exact absurd (by decide) bq)|simp) (List.forall_mem_cons.2 ⟨gG aH,List.forall_mem_cons.2 ⟨kz 6 12 bO (by kernel_rfl) aH,List.forall_mem_cons.2 ⟨kz 6 13 bO (by kernel_rfl) aH,List.forall_mem_nil _⟩⟩⟩))
      exact hK _ _ ⟨((a7,k7),x.2),gD SL ha rfl aH,hC.step hl (aT.trans (aS.mono aT.size)) (by decide) (fun h=>⟨Nat.lt_of_lt_of_le h.1 aS.size,h.2⟩) (fun _ _=>⟨J7,fun b hb=>jL b (Nat.lt_of_lt_of_le hb aT.size),eY,gN,(jL _ (hC.inv hl).1).trans (hC.inv hl).2⟩) (fun _ _=>trivial) (fun h _=>h.elim (fun e=>absurd e (by decide)) (fun⟨_,_,q⟩=>⟨(aS.block _ (Qg q.1)).trans q.1,q.2⟩)) (fun _ _=>trivial) hlt⟩
     rotate_left 4
     ·unfold Oper.wp;simp[go_sem,ev,dG,au,Oper.upon,z0,z1,z2,z3,c0,c1,oh];have ha:=ha.trans (lT (L:=SK Wx L.length Wy b off l.length cap k x0.aA oc x0.fH.length cc L2 cnt rn x) (M:=SK Wx L.length Wy b off l.length cap k x0.aA oc x0.fH.length cc L2 cnt rn (x.1,w'.heap.size)) [16] rfl (fun j bq=>by
       rcases j with _|_|_|_|_|_|_|_|_|_|_|_|_|_|_|_|_|_|_|_|j<;>first|rfl|(exact absurd (by decide) bq)|simp) (List.forall_mem_cons.2 ⟨gG aH,List.forall_mem_nil _⟩))
      exact hK _ _ ⟨(x.1,w'.heap.size),gD SL ha rfl aH,hC.step hl (aT.trans (((Qb _ _).alloc (Qn _) _).mono aT.size)) (by decide) (fun _=>⟨by simp,M6.O.at_.ok.fresh aT.size⟩) (fun h _=>h.elim (fun e=>absurd e (by decide)) (fun⟨_,_,q⟩=>(q.elim fun J9 h9=>⟨J9,h9.1,h9.2.1.below (Qn _) ((Qb w'.heap.size w').alloc (Qn _) (.cells cO 30)),h9.2.2.1,h9.2.1.fresh (Qn _)⟩))) (fun _ _=>trivial) (fun _ _=>⟨heap_alloc_new _ _,aT.size⟩) (fun _ _=>trivial) hlt⟩
     ·have aK:w'.heap[x.2]?=some (.cells _ 30 (0,0)):=(hC.f3 (by first|simpa using au|simp[au]) (gX (by simp[bS])) hl).1;refine oK 30 _ _ rfl (x.2) 0 [.int .u32 7,.int .i64 0,.int .i64 0,.slice x.1.1 L2.length x.1.2] (bW 7 0 0 (.slice x.1.1 L2.length x.1.2)) (by simp[Act.eval,ev,dG,au]) (by simp[Act.eval,ev,dG,au]) (by rfl) _ _ aK (by simp) (by kernel_rfl) (by simp[Value.oneCell']) ?_;exact hK _ _ ⟨x,dS (d:=none) (v:=undef) SL ha rfl aH,hC.jP aH ⟨hC.f1 (by first|simpa using au|simp[au]) (gX (by simp[bS])) hl,hC.f3 (by first|simpa using au|simp[au]) (gX (by simp[bS])) hl⟩ (gX (by simp[bS])) (gX (by simp[bS])) (by decide) aK (by rfl)⟩
     all_goals
      unfold Oper.wp;first
      |(simp[go_sem,ev,dG,au,Oper.upon,z0,z1,z2,z3,c0,c1,oh];exact hK _ _ ⟨x,gD SL ha rfl aH,hC.pure (by decide)⟩)
      |(simp[go_sem,ev,dG,Oper.upon,z0,z1,z2,z3,c0,c1,oh];exact hK _ _ ⟨x,gD SL ha rfl aH,hC.pure (by decide)⟩)
    ·rintro x s' a' w9 eu ha hC;obtain⟨wb,eG,ed,dR,aK⟩:=hC.on (eu 17 (by decide));simp only[ite_self]at aK;rw[qz _ _ _ _ (fun i hi=>by rw[Nat.zero_add];exact eu i (by simpa using hi))]at ha;subst ha;simp only[dE,Act.put,List.setIfInBounds_toArray,List.set_cons_succ,List.set_cons_zero];obtain⟨⟨a9,k9⟩,JS⟩:=x;dsimp only at ed dR aK ⊢;obtain⟨⟨F9,xu,lL,tH,yE⟩,mR,qW⟩:=ed;have Dc:=M6.O.a.lt;have De:=M6.O.b.lt;have OS:=X6.O.lt;have hwz:=M6.O.at_.size;have M9:=Qh (show SG I w L B1 B2 F9 w9 _ _ from⟨(M6.O.at_.ext eG xu lL).own dR yE (by omega),(M6.O.a.ext M6.O.at_.ok eG xu).own dR (by omega),(M6.O.b.ext M6.O.at_.ok eG xu).own dR (by omega)⟩);have Y6:=Qh ((X6.O.ext M6.O.at_.ok eG xu).own dR (by omega:JR≠JS));have X9:=Qh (show vW F9 w9 JS 7 0 0 (.slice a9 L2.length k9) L2 from⟨yE,tH,aK⟩);have jZ:B1≠JS∧B2≠JS∧JR≠JS:=by omega
     clear M6 X6 eG dR aK xu lL tH z0 z1 z2 z3 c0 c1 Dc De OS Ih hC eu mR qW yE;obtain⟨z0,z1,z2,z3⟩:=qU Y6.O.row;obtain⟨y0,y1,y2,y3⟩:=qU X9.O.row;have i1:((rn:Int) !=rn)=false:=by simp
     have i2:(((cnt:Nat):Int) !=cnt)=false:=by simp
     go_wp2_with fail
     refine(Xue F9 7 0 0 L2 _ _ Y6.O.rd X9.O.rd w9 M9.O.at_.ok).mono ?_;rintro e10 mf ⟨rfl,iJ⟩;have l8:=Qh (show SG I w L B1 B2 F9 mf _ _ from⟨M9.O.at_.quiet iJ,M9.O.a.quiet iJ,M9.O.b.quiet iJ⟩);have Z6:=Qh (Y6.O.quiet iJ);have Z9:=Qh (X9.O.quiet iJ);clear M9 Y6 X9 iJ z0 z1 z2 z3 y0 y1 y2 y3;obtain⟨z0,z1,z2,z3⟩:=qU Z6.O.row;obtain⟨y0,y1,y2,y3⟩:=qU Z9.O.row;go_wp2_with fail
     refine qR (X:=Unit) (fun _=>wzL (.slice a6 L2.length k6) (.slice a9 L2.length k9)) (fun _=>oF mf (B1) (B2) [.int .u32 7,.int .i64 0,.int .i64 0,.slice a6 L2.length k6].toArray [.int .u32 7,.int .i64 0,.int .i64 0,.slice a9 L2.length k9].toArray) (by kernel_rfl) (by kernel_rfl) ?_ ?_ ?_
     ·exact⟨(),oF.start _⟩
     ·rintro x s' a' w' i bS bO ha hC hi;obtain⟨aH,oi,dI,au⟩:=mem_ready.1 hi;have ev:=vV Wu ha;rcases i with _|_|_|_|i
      rotate_left 4
      ·simp at dI
      all_goals
       have dH:=dI;simp at dI;subst dI;simp[Region.binds]at au;have z0:=hC.cell z0 kW.1 kW.2;have z1:=hC.cell z1 kW.1 kW.2;have z2:=hC.cell z2 kW.1 kW.2;have z3:=hC.cell z3 kW.1 kW.2;have y0:=hC.cell y0 jZ.1 jZ.2.1;have y1:=hC.cell y1 jZ.1 jZ.2.1;have y2:=hC.cell y2 jZ.1 jZ.2.1;have y3:=hC.cell y3 jZ.1 jZ.2.1;refine wpOp_step dH (fun K' hK=> ?_);rw[if_pos (by rfl)]
      rotate_left 2
      ·refine oK 30 _ _ rfl (B1) 0 [.int .u32 7,.int .i64 0,.int .i64 0,.slice a6 L2.length k6] (bW 7 0 0 (.slice a6 L2.length k6)) (by simp[Act.eval,ev,dG,au]) (by simp[Act.eval,ev,dG,au]) (by rfl) _ _ (hC.zC (gG aH) (kz 4 3 bO (by kernel_rfl) aH) l8.O.a.row) (by simp) (by kernel_rfl) (by simp[Value.oneCell']) ?_;exact hK _ _ ⟨(),dS (d:=none) (v:=undef) Wu ha rfl aH,hC.jP aH (kz 4 3 bO (by kernel_rfl) aH) (by rfl)⟩
      ·refine oK 30 _ _ rfl (B2) 0 [.int .u32 7,.int .i64 0,.int .i64 0,.slice a9 L2.length k9] (bW 7 0 0 (.slice a9 L2.length k9)) (by simp[Act.eval,ev,dG,au]) (by simp[Act.eval,ev,dG,au]) (by rfl) _ _ (hC.jC (gG aH) Im l8.O.b.row) (by simp) (by kernel_rfl) (by simp[Value.oneCell']) ?_;exact hK _ _ ⟨(),dS (d:=none) (v:=undef) Wu ha rfl aH,hC.wH aH (by first|simpa using au.1|simp[au]|(simp at au;exact au.2)) (by rfl)⟩
      all_goals
       unfold Oper.wp;first
       |(simp[go_sem,ev,dG,au,Oper.upon,z0,z1,z2,z3,y0,y1,y2,y3];exact hK _ _ ⟨(),gD Wu ha rfl aH,hC.pure (by decide)⟩)
       |(simp[go_sem,ev,dG,Oper.upon,z0,z1,z2,z3,y0,y1,y2,y3];exact hK _ _ ⟨(),gD Wu ha rfl aH,hC.pure (by decide)⟩)
     ·rintro x s' a' sM eu ha hC;obtain⟨wa,wb,xw,Gr,Me,DY,SV⟩:=hC.done (eu 3 (by decide)) l8.O.a.row l8.O.b.row Im;rw[qz _ _ _ _ (fun i hi=>by rw[Nat.zero_add];exact eu i (by simpa using hi))]at ha;subst ha;simp only[dE,Act.put,List.setIfInBounds_toArray,List.set_cons_succ,List.set_cons_zero];have yT:=l8.O.a.lt;have DZ:=l8.O.b.lt;have hsb:=xw.size;have Zr:=Gr.size;have vT:=Qh (show SG I w (jU [] (l.take (k+1))) B1 B2 F9 sM (.slice a6 L2.length k6) (.slice a9 L2.length k9)from by
       rw[mq.O];exact⟨((l8.O.at_.quiet xw).own Gr l8.O.a.no (by omega)).own Me l8.O.b.no (by omega),⟨l8.O.a.no,Z6.O.rd,DY⟩,⟨l8.O.b.no,Z9.O.rd,SV⟩⟩)
      clear l8 Z6 Z9 xw Gr Me DY SV z0 z1 z2 z3 y0 y1 y2 y3;go_wp2;go_roundw;case rel=>exact⟨k+1,F9,_,_,by omega,by go_num,vT.O⟩
      case measure=>simp[intOf];omega
  ·have A5:=Qh M.O.at_;clear M;go_wp2_with fail
   refine(Ry.O J A5.O.keep _ A5.O.ok).mono ?_;rintro e6 w6 ⟨rfl,gF⟩;have A6:=Qh (A5.O.quiet gF);clear gF A5;go_wp2;go_ret;exact⟨rfl,A6.O.eU⟩
open Go.ChangeShapes Go.WideShapes Go.ChangeAt Go.RowKit
def eF(w:World):IH:=fun b=>match w.heap[b]? with|some (.cells c _ _)=>some c|_=>none
theorem eF.ok(w:World):Ok (eF w) w:=by
 intro b c h;unfold eF at h;split at h
 ·rename_i c' e f hb;cases h;exact⟨e,f,hb⟩
 ·cases h
theorem eF.tJ{name:String}{cs:Array Value}(hg:P.globalNamed name=some g)(h:w.var? P name=some cs):eF w g=some cs:=by
 unfold World.var? at h;rw[hg,Option.bind_some]at h;unfold eF;split at h
 ·rename_i hb;cases h;rw[hb]
 ·cases h
theorem eF.of_cell{a:Addr}{x:Value}(h:w.cell? a=some x):a.spot=none∧ ∃c,eF w a.block=some c∧c[a.off]?=some x:=by
 unfold World.cell? at h;unfold eF;split at h
 ·rename_i c e f hb;split at h
  ·cases h
  ·rename_i hs;refine⟨by cases hsp:a.spot<;>simp_all,c,by rw[hb],h⟩
 ·cases h
def nH{α:Type}(P:Program)(t:TypeId)(T:Ty α)(Wf:α→Prop):Prop:=
 P.cellsOf t=T.size∧0<T.size∧ ∀{H:Type} {enc:TypeId×Value→H} {w:World} {base:Nat} {spare:Nat→Bool} {held:Bool} {fuel:Nat} {cs:List Value} {x:DataW H×List MemPlace},
  DataW.trod enc P w base spare held fuel t cs=some x→ ∃y,T.rd (eF w) cs y∧Wf y
section
variable {α:Type} {P:Program} {T:Ty α} {Wf:α→Prop}
variable {H:Type} {enc:TypeId×Value→H} {w:World} {base:Nat} {spare:Nat→Bool} {held:Bool} {fuel:Nat} {cs:List Value} {x:DataW H×List MemPlace}
theorem nH.slice(ht:P.underlying t=some (.slice e))(he:nH P e T Wf)(h:DataW.trod enc P w base spare held fuel t cs=some x):
 ∃v l,cs=[v]∧aZ T (eF w) v l∧ ∀y∈l,Wf y:=by
 rcases Go.Deep.open_slice ht h with⟨rfl,_⟩|⟨a,len,cap,m,n,D,Pl,rfl,_,hl,hm,WG,_,hi⟩
 ·exact⟨_,[],rfl,aZ.nil _ _,fun _ h=>absurd h (by simp)⟩
 ·have ol:len≤m:=by rw[WG];split<;>omega
  have hx:∀i:Fin len,∃y,(∃cs',T.rd (eF w) cs' y∧ ∀j u,cs'[j]?=some u→w.cell? (a.add (i.1*T.size+j))=some u)∧Wf y:=by
   intro i;obtain⟨cs',hc,ht'⟩:=hi i.1 (by omega);rw[he.1]at hc;obtain⟨y,hy,lQ⟩:=he.2.2 ht';obtain⟨_,bO,DX⟩:=World.cells?_some hc;refine⟨y,⟨cs',hy,fun j u hu=> ?_⟩,lQ⟩;have hj:=(List.getElem?_eq_some_iff.1 hu).1;rw[←hu,←DX j (by omega),Go.Deep.add_add]
  obtain⟨f,hf⟩:=Classical.axiomOfChoice hx;refine⟨_,List.ofFn f,rfl,⟨some a,cap,by rw[List.length_ofFn],by rw[List.length_ofFn];exact hl,hm,fun h0=> ?_⟩,fun y hy=> ?_⟩
  ·rw[List.length_ofFn]at h0;obtain⟨cs0,h1,h2⟩:=(hf ⟨0,h0⟩).1;have hlen:=T.len h1;have tq:=h2 0 _ (List.getElem?_eq_getElem (by rw[hlen];exact he.2.1));have e0:a.add ((⟨0,h0⟩:Fin len).1*T.size+0)=a:=by simp[Addr.add]
   rw[e0]at tq;obtain⟨hs,c,hc,_⟩:=eF.of_cell tq;obtain⟨ab,ao,asp⟩:=a;change asp=none at hs;subst hs;change eF w ab=some c at hc;refine⟨ab,ao,c,rfl,hc,fun i hi=> ?_⟩;rw[List.length_ofFn]at hi;obtain⟨csi,h3,h4⟩:=(hf ⟨i,hi⟩).1;refine⟨csi,by rw[List.getElem_ofFn];exact h3,fun j u hu=> ?_⟩;have h5:=h4 j u hu;rw[Addr.add_lit]at h5;obtain⟨_,c',ii,h6⟩:=eF.of_cell h5;change eF w ab=some c' at ii;rw[hc]at ii;cases ii;exact h6
  ·obtain⟨i,hi,rfl⟩:=List.getElem_of_mem hy;rw[List.getElem_ofFn];exact(hf _).2
theorem nH.arg(ht:P.underlying t=some (.slice e))(he:nH P e T Wf){r:Reach}{b0:Nat}{v:Value}{d:DataW H}{ps:List MemPlace}(hv:Value.okWide P w r b0 t v)(h:DataW.Trod enc P w base spare held t v d ps):
 ∃l,aZ T (eF w) v l∧ ∀y∈l,Wf y:=by
 obtain⟨fuel,hf⟩:=h;obtain⟨v',l,jf,h1,h2⟩:=he.slice ht hf;obtain⟨ao,cap,rfl,_⟩:=id h1;obtain⟨Xq,n',c',rfl⟩:=okWide_slice ht hv;simp[Value.cells]at jf;obtain⟨rfl,rfl,rfl⟩:=jf;exact⟨l,h1,h2⟩
end
theorem Ue:∀{l:List α},l.length=2→ ∃a b,l=[a,b]
 | [a,b],_=>⟨a,b,rfl⟩
theorem Xyd:∀{l:List α},l.length=5→ ∃a b c d e,l=[a,b,c,d,e]
 | [a,b,c,d,e],_=>⟨a,b,c,d,e,rfl⟩
theorem Uf{enc:TypeId×Value→H}(hl:laidOutB P=true)(hb:Below W.heap.size W W'):
 ∀{ts:List TypeId} {vs:List Value} {ds:List (DataW H)} {p:List MemPlace},(ts.all fun t=>P.readableRec t&&decide (t<P.types.size))=true→
 DataW.TrodAll enc P W 0 (fun _=>true) true ts vs ds p→(∀x∈p,x.block<W.heap.size)→DataW.TrodAll enc P W' 0 (fun b=>decide (b<W.heap.size)) true ts vs ds p
 | [],[],[],_,_,h,_=>h
 | [],[],_::_,_,_,h,_=>h.elim
 | [],_::_,_,_,_,h,_=>h.elim
 |_::_,[],_,_,_,h,_=>h.elim
 |_::_,_::_,[],_,_,h,_=>h.elim
 |t::ts,v::vs,d::ds,p,ha,h,hlt=>by
  obtain⟨q,r,h1,h2,rfl⟩:=h;simp only[List.all_cons,Bool.and_eq_true,decide_eq_true_eq]at ha;exact⟨q,r,hb.trod hl ha.1.1 ha.1.2 h1 (fun x hx=>hlt x (List.mem_append_left _ hx)),Uf hl hb ha.2 h2 (fun x hx=>hlt x (List.mem_append_right _ hx)),rfl⟩
theorem Xo5{enc:TypeId×Value→H}(hl:laidOutB P=true){f:Func}{args:Array Value}{ds:List (DataW H)}{before:List MemPlace}{tb:TypeId}
 (hs:s.vars=[]) (hW:DataW.Whole enc P f.params.toList s.vars false W args.toList ds [] before) (hr:f.resultTypes=#[tb]) (hu:P.underlying tb=some .bool)
 (Ch:s.fn H (ds++[])={results:=[.lit (.bool true)],args:=ds}) (au:(f.params.toList.all fun t=>P.readableRec t&&decide (t<P.types.size))=true) (hb:Below W.heap.size W W'):
 s.post enc P f false true false false W args (.bool true) W':=by
 have hlt:∀p∈before,p.block<W.heap.size:=fun p hp=>hW.lt p hp;have QG:=hW;obtain⟨p,q,hA,hV,rfl,_,_⟩:=QG;rw[hs]at hV;have hq:q=[]:=hV;subst hq;refine⟨ds,[],_,[],p,[],hW,?_,?_,?_,World.keptBut_mono (fun x hx=>⟨hx,?_⟩) (hb.frame (· ∈p++[])),fun h=>by cases h⟩
 ·rw[Ch,hr];exact trodAll_mk1 (shut_bool hu true)
 ·rw[Ch];exact Uf hl hb au hA (fun x hx=>hlt x (List.mem_append_left _ hx))
 ·rw[Ch,hs];rfl
 ·exact .inr (.inl (by simpa using hx))
open Go.ChangeShapes Go.WideShapes Go.ChangeAt Go.RowKit
theorem own:ownKnob Tryz.prog.godebug=none:=by kernel_rfl
theorem Xsn:laidOutB Tryz.prog=true:=by kernel_rfl
theorem xy:nH Tryz.prog 60 nk At.Wf:=by
 refine⟨by kernel_rfl,by decide,fun{H enc w base spare held fuel cs x} h=> ?_⟩;obtain⟨xs,n,_,_,hl,qo,hf⟩:=DataW.trod_struct Tryz.underlying60 h;have hc:Tryz.prog.cellsOf 60=2:=by kernel_rfl
 have c3:Tryz.prog.cellsOf 9=1:=by kernel_rfl
 rw[hc]at hl;obtain⟨a,b,rfl⟩:=Ue hl;simp at qo;have h0:=hf 0 _ rfl;have h1:=hf 1 _ rfl;rw[List.getElem?_eq_getElem (by omega)]at h0 h1;simp[c3]at h0 h1;obtain⟨s,e0,_,w0⟩:=DataW.trod_string Tryz.underlying9 h0;obtain⟨t,e1,_,w1⟩:=DataW.trod_string Tryz.underlying9 h1;cases e0;cases e1;have k4:maxLen=9223372036854775807:=rfl;have bS:s.data.toList.length=s.size:=Array.length_toList;have htz:t.data.toList.length=t.size:=Array.length_toList;refine⟨⟨s.data.toList,t.data.toList⟩,?_,?_⟩
 ·rfl
 ·exact⟨by show s.data.toList.length≤_;omega,by show t.data.toList.length≤_;omega⟩
theorem Ug{n nm:String}{d:DataW Unit}{r:List (String×DataW Unit)}{ti:TypeId}{ms:Array (String×TypeId)}
 (h:laidMet P ((n,.iface nm d)::r) W) (hg:P.globalNamed n=some g) (ht:(P.globals[g]?).map (·.type)=some ti) (hi:P.underlying ti=some (.interface ms)):
 ∃tp p,W.var? P n=some #[.iface tp p]:=by
 obtain⟨ps,⟨g0,t0,cs0,f0,p0,q0,Ki,QH,Aj,Kg,_,e0⟩,_,WH⟩:=h;obtain rfl:=Option.some.inj (hg.symm.trans Ki);obtain rfl:=Option.some.inj (ht.symm.trans QH);subst e0;obtain⟨l0⟩:=cs0;obtain⟨f1,u,v,jf,_,_⟩:=iface_of_trod hi Kg;have lv:l0=[.iface u v]:=jf;subst lv;exact⟨u,v,Aj⟩
theorem Xg2(h:laidMetH Tryz.prog Rows.sessionWritesRow.laid W)(Jz:W.ShapedOpen Tryz.prog):fG (eF W):=by
 rw[MakeChecks.laidMetH_plain _ _ _ (by kernel_rfl)]at h;have h2 : Lib.TabIs Tryz.prog W "internal/strconv.uint64pow10" .u64 Lib.pow10Tab :=
  Lib.tabIs_of_head (t:=271) (e:=166) (n:=20) (g:=5) (rest:=(Rows.sessionWritesRow.laid).drop 3) (by kernel_rfl) (by kernel_rfl) Tryz.underlying271 Tryz.underlying166 (by kernel_rfl) (by kernel_rfl) h.tail.tail
 obtain⟨tp1,p1,h3⟩:=Ug (ti:=155) (g:=2) h.tail.tail.tail.tail (by kernel_rfl) (by kernel_rfl) Tryz.underlying155;obtain⟨tp2,p2,h4⟩:=Ug (ti:=155) (g:=1) h.tail.tail.tail.tail.tail (by kernel_rfl) (by kernel_rfl) Tryz.underlying155;obtain⟨m,hm⟩:=cell_of_shapedOpen_int (g:=0) (zero:=#[.int .i64 0]) (t:=3) Jz (of_decide_eq_true (by kernel_rfl)) (by kernel_rfl) rfl (by kernel_rfl) (by kernel_rfl) Tryz.underlying3;obtain⟨_,c,rJ,rH⟩:=eF.of_cell hm;exact⟨eF.tJ (by kernel_rfl) h2,⟨c,m,rJ,rH⟩,⟨tp2,p2,eF.tJ (by kernel_rfl) h4⟩,⟨tp1,p1,eF.tJ (by kernel_rfl) h3⟩⟩
section
variable {H:Type} {enc:TypeId×Value→H}
theorem Xkm{a:Assume}{C:Checked}{os:Os}{f:FuncId}{fn:Func}{conds:List PathCond}{apart fresh handsOn again:Bool}{X:World→Array Value→Prop}
 (hX:∀(w w':World) (args:Array Value),w.heap=w'.heap→X w args→X w' args)
 (own:ownKnob C.prog.godebug=none) (started:os.Started) (noInit:C.prog.inits.idxOf? f=none) (Ch:C.prog.funcs[f]?=some fn)
 (witness:∃(w:World) (tape:Tape) (i:Input),w.os=os∧(w.forCall tape i).Shaped C.prog∧i.vars=[]∧Input.okWide C.prog (w.forCall tape i) .any w.heap.size f i∧
   ((s.pre enc C.prog fn conds apart (w.forCall tape i).memory i.args∧X (w.forCall tape i).memory i.args)∧sizedMet enc C.prog fn (OpenSpec.ofChange s) apart (w.forCall tape i).memory i.args)∧a.holds C.prog (lone (Frame.enter C.prog f i.args .normal) [] (w.forCall tape i)))
 (contract:∀(W:World) (base:Nat) (args:Array Value) (ds gs:List (DataW H)) (before:List MemPlace),
   (∀(j:Nat) t v,fn.params[j]?=some t→args[j]?=some v→Value.okWide C.prog W .any base t v)→
   DataW.Whole enc C.prog fn.params.toList s.vars apart W args.toList ds gs before→
   W.ShapedOpen C.prog→X W args→
   Calls C.prog f args W fun e W'=> ∃v,e= .returned v∧s.post enc C.prog fn apart fresh handsOn again W args v W'):
 ReturnsInHanded a C os f .any (fun w args=>(s.pre enc C.prog fn conds apart w args∧X w args)∧sizedMet enc C.prog fn (OpenSpec.ofChange s) apart w args) (s.post enc C.prog fn apart fresh handsOn again):=by
 refine returnsInHanded_of_calls own started noInit witness ?_;intro w tape i _ Jz _ iZ wS QI;obtain⟨_,_,_,fn',QJ,_,_,_,_,xW⟩:=iZ;have e:fn'=fn:=Option.some.inj (QJ.symm.trans Ch);subst e;obtain⟨⟨⟨ds,gs,before,hw,hc⟩,hx⟩,hz⟩:=wS;have WI:=DataW.Whole.of_heap (w':=w.forCall tape i) (by rfl) hw;refine(contract (w.forCall tape i) w.heap.size i.args ds gs before xW WI Jz (hX _ _ _ (by rfl) hx)).mono fun e W' ⟨v,he,hp⟩=> ?_;subst he;exact ChangeSpec.post_blind hp
end
section
variable {H:Type} {enc:TypeId×Value→H}
end
theorem rQ:nH Tryz.prog 53 xm ic.In:=by
 refine⟨by kernel_rfl,by decide,fun{H enc w base spare held fuel cs x} h=> ?_⟩;obtain⟨xs,n,_,_,hl,qo,hf⟩:=DataW.trod_struct Tryz.underlying53 h;have hc:Tryz.prog.cellsOf 53=5:=by kernel_rfl
 have c2:Tryz.prog.cellsOf 3=1:=by kernel_rfl
 have c3:Tryz.prog.cellsOf 9=1:=by kernel_rfl
 have c4:Tryz.prog.cellsOf 51=1:=by kernel_rfl
 rw[hc]at hl;obtain⟨u0,u1,u2,u3,u4,rfl⟩:=Xyd hl;simp at qo;have h0:=hf 0 _ rfl;have h1:=hf 1 _ rfl;have h2:=hf 2 _ rfl;have h3:=hf 3 _ rfl;have h4:=hf 4 _ rfl;rw[List.getElem?_eq_getElem (by omega)]at h0 h1 h2 h3 h4;simp[c2,c3,c4]at h0 h1 h2 h3 h4;obtain⟨i0,e0,_,w0⟩:=DataW.trod_int Tryz.underlying3 h0;obtain⟨s1,e1,_,w1⟩:=DataW.trod_string Tryz.underlying9 h1;obtain⟨v2,l2,e2,r2,m2⟩:=xy.slice Tryz.underlying51 h2;obtain⟨s3,e3,_,w3⟩:=DataW.trod_string Tryz.underlying9 h3;obtain⟨s4,e4,_,w4⟩:=DataW.trod_string Tryz.underlying9 h4;cases e0;cases e1;cases e2;cases e3;cases e4;rw[Go.Lit.wf_int_iff]at w0;have k2:IntKind.i64.min= -9223372036854775808:=rfl;have k3:IntKind.i64.max=9223372036854775807:=rfl;refine⟨⟨i0,s1.data.toList,l2,s3.data.toList,s4.data.toList⟩,⟨u2,rfl,r2⟩,⟨?_,?_⟩⟩
 ·show _≤i0;omega
 ·show i0≤_;omega
theorem vw:nH Tryz.prog 36 wK og.In:=by
 refine⟨by kernel_rfl,by decide,fun{H enc w base spare held fuel cs x} h=> ?_⟩;obtain⟨xs,n,_,_,hl,qo,hf⟩:=DataW.trod_struct Tryz.underlying36 h;have hc:Tryz.prog.cellsOf 36=2:=by kernel_rfl
 have c2:Tryz.prog.cellsOf 3=1:=by kernel_rfl
 have c4:Tryz.prog.cellsOf 34=1:=by kernel_rfl
 rw[hc]at hl;obtain⟨u0,u1,rfl⟩:=Ue hl;simp at qo;have h0:=hf 0 _ rfl;have h1:=hf 1 _ rfl;rw[List.getElem?_eq_getElem (by omega)]at h0 h1;simp[c2,c4]at h0 h1;obtain⟨i0,e0,_,w0⟩:=DataW.trod_int Tryz.underlying3 h0;obtain⟨v1,l1,e1,r1,m1⟩:=rQ.slice Tryz.underlying34 h1;cases e0;cases e1;rw[Go.Lit.wf_int_iff]at w0;have k2:IntKind.i64.min= -9223372036854775808:=rfl;have k3:IntKind.i64.max=9223372036854775807:=rfl;refine⟨⟨i0,l1⟩,⟨u1,rfl,r1⟩,⟨?_,?_,m1⟩⟩
 ·show _≤i0;omega
 ·show i0≤_;omega
