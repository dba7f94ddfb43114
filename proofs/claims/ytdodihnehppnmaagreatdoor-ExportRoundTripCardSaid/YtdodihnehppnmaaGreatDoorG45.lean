/- Lemmas for the claim's theorem;conditions: as each says. -/
import Derived.Test.YtdodihnehppnmaaGreatDoorG43
import Derived.Test.YtdodihnehppnmaaGreatDoorG44
set_option maxHeartbeats 0
set_option maxRecDepth 100000
set_option linter.all false
namespace Go.Proofs.YtdodihnehppnmaaGreatDoor
open Go.RowKit
variable{L:List dm}
theorem Xw7(hg:∀x∈L,kR x)(d:Int)(h:(jk L d).2=0):(jk L d).1.length≤17+68300*(30*L.length)∨100<L.length:=by
 by_cases hl:L.length≤100
 ·left;have hk:=(Xsc (st:=aS L) (t:=bZ L d) (fun x hx=>CS (Un L d x hx)) (by have:=NW hg d;omega)) (bZ L d).length;have ht:=NW hg d;unfold jk BZ at h ⊢;obtain⟨_,a2⟩:=NM _ _ _ h;rw[a2];unfold vG at hk;rw[List.take_length]at hk;have:=Nat.mul_le_mul_left 68300 ht;omega
 ·right;omega
theorem Xw6(d:Int)(hl:(bZ L d).length≤5000)(h:(jk L d).2=0):yH fZ (jk L d).1= .ok (qH (aS L) (bZ L d)):=by
 unfold jk at*;exact Xp7 (Ji _) hl h
theorem Xuf(d:Int)(h:(jk L d).2=0):∀x∈bZ L d,(bF (aS L) x).2=0:=by
 unfold jk BZ at h;exact(NM _ _ _ h).1
theorem Xw5(d:Int)(h:(jk L d).2≠0):(jk L d).1=[]:=by
 unfold jk BZ at*;exact Xsd _ _ _ h
abbrev UG(n b o tl tc k m:Nat)(c dg:ae)(xv:Value)(x:Nat):List (Option Tmp×Value):=
 [(some 82,.pointer (some ⟨n,4,none⟩)),(some 83,S c),(some 84,.int .i64 (m:Int)),(some 85,.pointer (some ⟨n,4,none⟩)),(some 86,S c),(some 87,.slice (some ⟨x,0,none⟩) 1 1),(some 88,S dg),(some 89,.slice (some ⟨b,o,none⟩) tl tc),(some 90,.int .i64 (k:Int)),(some 91,.pointer (some ⟨b,o+k*7,none⟩)),(some 92,.pointer (some ⟨b,o+k*7+6,none⟩)),(some 93,xv),(some 94,.pointer (some ⟨n+1,4,none⟩)),(none,undef),(some 95,.pointer (some ⟨n+1,5,none⟩)),(none,undef),(some 96,.pointer (some ⟨n+1,6,none⟩)),(none,undef)]
theorem Jy{n b o tl tc k m:Nat}{c dg:ae}{xv:Value}{x:Nat}:dL (UG n b o tl tc k m c dg xv x):=by
 unfold dL;simp
theorem Xfd(I:IH)(hI:dG I)(v:Value)(l:List dm)(hv:bf oK I v l)(iZ:∀x∈l,x.Wf)(d:Int)(w:World)(hw:Ok I w):
 Calls Tryz.prog 10 #[v,.int .i64 d] w fun r w'=>r= .returned (.bool true)∧Below w.heap.size w w':=by
 have vQ:=Qh (fun w hw=>Xil I hI w hw);have Ey:=Qh (fun w hw=>Xh7 I v l hv iZ w hw);have A0:=Qh (lT.start hw);cases hg:jH l;case false=>
  have e1:gX l=0:=by rw[gX,hg];rfl
  rw[e1]at Ey;obtain⟨ao,cap,rfl,_,_,_⟩:=id hv;clear e1 hg hv;go_enter Tryz.func10,Tryz.ntmps10
  go_wp2_with fail
  refine(Ey.O _ A0.O.ok).mono ?_;rintro e1 w1 ⟨rfl,au⟩;have A1:=Qh (A0.O.quiet au);clear au A0;go_wp2_with fail
  refine(vQ.O _ A1.O.ok).mono ?_;rintro e2 w2 ⟨rfl,aD⟩;have A2:=Qh (A1.O.quiet aD);clear aD A1;go_wp2;go_ret;exact⟨rfl,A2.O.fA⟩
 case true=>
  have e1:gX l=1:=by rw[gX,hg];rfl
  obtain⟨⟨xB,sM,_⟩,_⟩:=Xjv iZ hg;rw[e1]at Ey;have Jt:=Qh (fun w hw=>Uo I hI v l hv sM (by omega) d w hw);by_cases hz:(jk l d).2=0;rotate_left
  ·have Sm:=Xw5 d hz;obtain⟨ao,cap,rfl,_,_,_⟩:=id hv;clear e1 hg hv;generalize jk l d=g at*;obtain⟨ct,er⟩:=g;dsimp only at hz Sm Jt;subst Sm;have q1:(er !=0)=true:=by simpa using hz
   have q2:(([]:ae)==[])=true:=rfl;clear hz;go_enter Tryz.func10,Tryz.ntmps10
   go_wp2_with fail
   refine(Ey.O _ A0.O.ok).mono ?_;rintro e1 w1 ⟨rfl,au⟩;have A1:=Qh (A0.O.quiet au);clear au A0;go_wp2_with fail
   refine(Jt.O _ A1.O.ok).mono ?_;rintro e2 w2 ⟨rfl,aD⟩;have A2:=Qh (A1.O.quiet aD);clear aD A1;go_wp2_with fail
   refine(vQ.O _ A2.O.ok).mono ?_;rintro e3 w3 ⟨rfl,bU⟩;have A3:=Qh (A2.O.quiet bU);clear bU A2;go_wp2;go_ret;exact⟨rfl,A3.O.fA⟩
  have EP:=NW sM d;have o9:(jk l d).1.length≤100000000:=by
   rcases Xw7 sM d hz with h|h<;>omega
  have xH:=Qh (fun w hw=>Uj I v l hv d w hw);have Ju:=Qh (fun w hw=>Um I hI v l hv sM (by omega) (lJ d l:Nat) w hw);have N7:=Qh (fun J (hk:∀b c,I b=some c→J b=some c) w hw=>Xnb J (hI.mono hk) (jk l d).1 o9 w hw);rw[Xw6 d (by omega) hz]at N7;have Ru:Hid (∀J (_:∀b c,I b=some c→J b=some c) w (_:Ok J w),Calls Tryz.prog 19 #[S (jk l d).1] w (uT xg J w (qH (aS l) (bZ l d)) 0)):=N7;clear N7;rw[YZ]at Ju;have Lt:=Qh (Xuf d hz);have kw:=Qh (show xR (bZ l d)from Ji (lJ d l));have yX:=Qh (Zq (L:=l) d);obtain⟨ao,cap,rfl,_,_,_⟩:=id hv;clear e1 hg hv;generalize bZ l d=t at*;have LA:=Qh (X0q kw.O (by omega));have vw:=Qh (show(qH (aS l) t).length=t.length by simp[qH]);generalize jk l d=g at*;obtain⟨ct,er⟩:=g;dsimp only at hz Jt Ru Ju;subst hz;have q0:((qH (aS l) t).length:Int)=(t.length:Int):=by rw[vw.O]
  have q1:(((qH (aS l) t).length:Int) !=(t.length:Int))=false:=by rw[vw.O];simp
  clear q0;go_enter Tryz.func10,Tryz.ntmps10
  go_wp2_with fail
  refine(Ey.O _ A0.O.ok).mono ?_;rintro e1 w1 ⟨rfl,au⟩;have A1:=Qh (A0.O.quiet au);clear au A0;go_wp2_with fail
  refine(Jt.O _ A1.O.ok).mono ?_;rintro e2 w2 ⟨rfl,aD⟩;have A2:=Qh (A1.O.quiet aD);clear aD A1;go_wp2_with fail
  refine(xH.O _ A2.O.ok).mono ?_;rintro e3 w3 ⟨rfl,bU⟩;have A3:=Qh (A2.O.quiet bU);clear bU A2;go_wp2_with fail
  refine(Ju.O _ A3.O.ok).mono ?_;rintro e4 w4 ⟨v4,J4,rfl,aL,Ak,bA,zm⟩;obtain⟨a4,c4,rfl,_,_,_⟩:=id zm;have A4:=Qh (A3.O.ext aL Ak bA);have Hk4:=Qh (Ak.keep A3.O.ok (Qn _));have R4:=Qh zm;clear aL Ak bA zm A3;go_wp2_with fail
  refine(Ru.O J4 A4.O.keep _ A4.O.ok).mono ?_;rintro e5 w5 ⟨v5,J5,rfl,aY,MJ,bX,uP⟩;obtain⟨a5,c5,rfl,_,_,_⟩:=id uP;have A5:=Qh (A4.O.ext aY MJ bX);have Hk5:=Qh (MJ.keep A4.O.ok (Qn _));have R5:=Qh uP;clear aY MJ bX uP A4;have T5:=Qh (R4.O.mono Hk5.O);go_wp2_with fail
  go_loopw [11,12,13,14,15,65] (fun s11 _ _ _ _ s65 wr=> ∃(k:Nat) (J:IH),k≤t.length∧s65= .int .i64 k∧lT I w J wr∧(∀b c,J5 b=some c→J b=some c)∧bf bC J s11 (t.take k)) (fun _ _ _ _ _ i _=>t.length-(intOf i).toNat)
  case atStart=>exact⟨0,J5,Nat.zero_le _,rfl,A5.O,fun _ _ h=>h,bf.nil _ _⟩
  case round=>
   clear A5 q1;obtain⟨k,J,hk,rfl,hM,hJ,hag⟩:=hrel;have M:=Qh hM;have HJ:=Qh hJ;have HG:=Qh hag;clear hM hJ hag;have FQ:((t.take k).length:Nat)=k:=by rw[List.length_take];omega
   obtain⟨ga,gc,rfl⟩:=X0d HG.O FQ;clear FQ;by_cases hlt:k<t.length
   ·have TJ:=Qh (T5.O.mono HJ.O);obtain⟨y,va,vx,b,off,cap',bN,di,HX,dV,dX⟩:=oG TJ.O M.O.ok k hlt;cases di;have ni:k<(qH (aS l) t).length:=by rw[vw.O];exact hlt
    obtain⟨c,vc,b2,Kl,cap2,iB,hwv,⟨d0,d1,d2,d3,d4⟩,Rv⟩:=X0t (R5.O.mono HJ.O) M.O.ok k ni;cases hwv;have uS:y∈t:=by rw[←bN];exact List.getElem_mem hlt
    have sQ:=kw.O.mr y uS;have hcx:=Lt.O y uS;have hcc:c=nW y (bF (aS l) y).1:=by rw[←iB,←bN];simp[qH]
    have EA:=Xxy sQ hcx;have iK:=Uf (aS l) y;have ik:=Qh (Xr3 kw.O (by omega) hlt);rw[bN]at ik;have Yf:=Qh sQ;have ZI:=Qh (CS sQ);generalize(bF (aS l) y).1=qU at hcc EA iK;subst hcc;have Rv:bf kT J vc y.ai:=Rv;obtain⟨xa,xc,rfl,_,_,_⟩:=id Rv;obtain⟨xx,xd,hxx,_,_,_⟩:=id dX;subst hxx;have SX:=Qh HX;have VC:=Qh Rv;have VX:=Qh dX;obtain⟨WA,LU⟩:∃WA,(wr.alloc (.cells #[.int .i64 y.ag,S y.af,.slice xa y.ai.length xc,S y.target,S qU] 65)).alloc (.cells (aQ ⟨y.ag,y.af,y.ai,y.target,0,[],[]⟩ (.slice xa y.ai.length xc) (.slice none 0 0)) 26)=WA:=⟨_,rfl⟩;have M1:=Qh (show lT I w J WA by rw[←LU];exact(M.O.past _).past _);have RA:=Qh (show WA.heap[wr.heap.size+1]?=some (.cells (aQ ⟨y.ag,y.af,y.ai,y.target,0,[],[]⟩ (.slice xa y.ai.length xc) (.slice none 0 0)) 26 (0,0)) by
     rw[←LU];have:=heap_alloc_new (wr.alloc (.cells #[.int .i64 y.ag,S y.af,.slice xa y.ai.length xc,S y.target,S qU] 65)) (.cells (aQ ⟨y.ag,y.af,y.ai,y.target,0,[],[]⟩ (.slice xa y.ai.length xc) (.slice none 0 0)) 26);rwa[World.size_alloc]at this)
    have uq:Below wr.heap.size wr WA:=by rw[←LU];exact((Qb _ _).alloc (Qn _) _).alloc (by simp) _
    have YA:=Qh (show WA.cell? ⟨wr.heap.size,4,none⟩=some (S qU) by rw[←LU];exact gD _ (by rw[World.cell?_alloc_new];rfl));have XA:=Qh (SX.O.aA uq).c6;have arq:wr.heap.size+1<WA.heap.size:=by rw[←LU];simp
    have dz:=M.O.fA.size;have HWA:=Qh LU;have AZ:J (wr.heap.size+1)=none:=M.O.ok.fresh (by omega);have aqi:b<wr.heap.size:=block_lt_of_cell SX.O.c0;simp only[nW]at d0 d1 d2 d3 d4;clear iB bN dV dX Rv HX uS sQ hcx M LU uq;go_upto_if 81 with fail
    change Code.wp _ _ _ _ ((wr.alloc (.cells #[.int .i64 y.ag,S y.af,.slice xa y.ai.length xc,S y.target,S qU] 65)).alloc (.cells (aQ ⟨y.ag,y.af,y.ai,y.target,0,[],[]⟩ (.slice xa y.ai.length xc) (.slice none 0 0)) 26));rw[HWA.O];go_cut [11] (fun s11 wx=>s11= .slice ga k gc∧ ∃KC,lT I w J wx∧wx.heap[wr.heap.size+1]?=some (.cells (aQ y (.slice xa y.ai.length xc) KC) 26 (0,0))∧bf mE J KC y.ak)
    case first=>
     by_cases pg:y.ag=1
     ·have q1:(y.ag==1)=true:=by simpa using pg
      have ZJ:y=⟨y.ag,y.af,y.ai,y.target,(qU.length:Nat),bE qU,y.ak⟩:=by
       have:=EA;unfold zX nW at this;dsimp only at this;rw[if_pos pg]at this;exact this.symm
      have fP:y.size=(qU.length:Nat):=congrArg ay.size ZJ;have eZ:y.aj=bE qU:=congrArg ay.aj ZJ;have GQ:=Qh (fun b w hc rO=>Qj b qU (by omega) w hc rO);have HX1:=Qh fP;have TL:=Qh eZ;clear pg ZJ EA fP eZ d0 d1 d2 d3 d4;go_wp2_with fail
      have Ie:(k:Int)<(t.length:Int):=by omega
      have y4:=YA.O;have x6:=XA.O;refine BD (X:=Nat) (UG wr.heap.size b off t.length c4 k qU.length qU (bE qU) (.slice xx y.ak.length xd)) (nT WA 5 239 230 240 231 241 232 242 (fun _ _=>True) (fun x w=>w.cell? ⟨x,0,none⟩=some (S qU)∧x<w.heap.size) (fun _ _=>True) (fun _ _=>True) (fun _ _=>True) (fun _ _=>True) (fun x=>wr.heap.size+1) 26 13 15 17 (fun x=>aQ ⟨y.ag,y.af,y.ai,y.target,(qU.length:Nat),[],[]⟩ (.slice xa y.ai.length xc) (.slice none 0 0)) (fun x=>aQ ⟨y.ag,y.af,y.ai,y.target,(qU.length:Nat),bE qU,[]⟩ (.slice xa y.ai.length xc) (.slice none 0 0)) (fun x=>aQ ⟨y.ag,y.af,y.ai,y.target,(qU.length:Nat),bE qU,[]⟩ (.slice xa y.ai.length xc) (.slice xx y.ak.length xd))) (by kernel_rfl) (by kernel_rfl) ?_ ?_ ?_
      ·exact⟨0,nT.start _ _ trivial⟩
      ·rintro x s' a' w' i eU iK ha hC hi;obtain⟨bO,oi,jb,aG⟩:=mem_ready.1 hi;have ev:=KS Jy ha;have hlt:=CP bO;rcases i with _|_|_|_|_|_|_|_|_|_|_|_|_|_|_|_|_|_|i
       rotate_left 18
       ·simp at jb
       all_goals
        have iD:=jb;simp at jb;subst jb;simp[Region.binds]at aG;try have hl:=FC 6 13 iK (by decide+kernel) bO
        try have jY:=hC.off hl
        have y4:=hC.cell y4 (by show wr.heap.size+1≠wr.heap.size;omega);have x6:=hC.cell x6 (by show wr.heap.size+1≠b;omega);refine wpOp_step iD (fun K' hK=> ?_);first|rw[if_pos (by rfl)]
       rotate_left 5
       ·unfold Oper.wp;simp[go_sem,ev,jL,aG,Oper.upon,y4,x6,Ie];have ha:=ha.trans (Tw (L:=UG wr.heap.size b off t.length c4 k qU.length qU (bE qU) (.slice xx y.ak.length xd) x) (M:=UG wr.heap.size b off t.length c4 k qU.length qU (bE qU) (.slice xx y.ak.length xd) w'.heap.size) [5] rfl (fun j cK=>by
         rcases j with _|_|_|_|_|_|_|_|_|_|_|_|_|_|_|_|_|_|j<;>first|rfl|(exact absurd (by decide) cK)|simp) (List.forall_mem_cons.2 ⟨CO bO,List.forall_mem_nil _⟩))
        exact hK _ _ ⟨w'.heap.size,o6 Jy ha rfl bO,hC.step hl (jY.trans (((Qb _ _).alloc (Qn _) _).mono jY.size)) (by decide) (fun _=>trivial) (fun _ _=>⟨by rw[World.cell?_alloc_new];rfl,by simp⟩) (fun _ _=>trivial) (fun _ _=>trivial) (fun _ _=>trivial) hlt⟩
       ·have sH:=hC.f1 (by first|simpa using aG|simp[aG]) (CQ (by simp[eU])) hl;unfold Oper.wp;simp[go_sem,ev,jL,aG,Oper.upon];refine(GQ.O x w' sH.1 sH.2).mono ?_;rintro r4 w4 ⟨rfl,aL⟩;exact hK _ _ ⟨x,o6 Jy ha rfl bO,hC.step hl (jY.trans (aL.mono jY.size)) (by decide) (fun _=>trivial) (fun q _=>q.elim (fun e=>absurd e (by decide)) (fun⟨_,_,q⟩=>⟨dQ aL q.1,Nat.lt_of_lt_of_le q.2 aL.size⟩)) (fun _ _=>trivial) (fun _ _=>trivial) (fun _ _=>trivial) hlt⟩
       rotate_left 6
       ·have aZ:w'.heap[wr.heap.size+1]?=some (.cells _ 26 (0,0)):=(jY.block _ (Qg RA.O)).trans RA.O;refine Fs 3 _ _ rfl (wr.heap.size+1) 4 [.int .i64 (qU.length:Int)] (.int .i64 (qU.length:Int)) (by simp[Act.eval,ev,jL,aG]) (by simp[Act.eval,ev,jL,aG]) (by rfl) _ _ aZ (by simp) (by kernel_rfl) (by simp[Value.oneCell']) ?_;exact hK _ _ ⟨x,jK (d:=none) (v:=undef) Jy ha rfl bO,hC.BO bO trivial (FC 6 15 iK (by kernel_rfl) bO) (FC 6 17 iK (by kernel_rfl) bO) (by decide) aZ (by rfl)⟩
       rotate_left 1
       ·have aZ:=hC.XE (s1:=13) (by first|simpa using aG|simp[aG]) (CO bO) (FC 6 17 iK (by kernel_rfl) bO);refine Fs 9 _ _ rfl (wr.heap.size+1) 5 [S (bE qU)] (S (bE qU)) (by simp[Act.eval,ev,jL,aG]) (by simp[Act.eval,ev,jL,aG]) (by rfl) _ _ aZ (by simp) (by kernel_rfl) (by simp[Value.oneCell']) ?_;exact hK _ _ ⟨x,jK (d:=none) (v:=undef) Jy ha rfl bO,hC.XC bO (by first|simpa using aG|simp[aG]) (FC 6 17 iK (by kernel_rfl) bO) (by decide) (by rfl)⟩
       rotate_left 1
       ·have aZ:=hC.jr (s1:=13) (s2:=15) (by first|simpa using aG|simp[aG]) (by first|simpa using aG|simp[aG]) (CO bO);refine Fs 24 _ _ rfl (wr.heap.size+1) 6 [.slice xx y.ak.length xd] (.slice xx y.ak.length xd) (by simp[Act.eval,ev,jL,aG]) (by simp[Act.eval,ev,jL,aG]) (by rfl) _ _ aZ (by simp) (by kernel_rfl) (by simp[Value.oneCell']) ?_;exact hK _ _ ⟨x,jK (d:=none) (v:=undef) Jy ha rfl bO,hC.XD bO (by first|simpa using aG|simp[aG]) (by decide) (by rfl)⟩
       all_goals
        unfold Oper.wp;first
        |(simp[go_sem,ev,jL,aG,Oper.upon,y4,x6,Ie];exact hK _ _ ⟨x,o6 Jy ha rfl bO,hC.pure (by decide)⟩)
        |(simp[go_sem,ev,jL,Oper.upon,y4,x6,Ie];exact hK _ _ ⟨x,o6 Jy ha rfl bO,hC.pure (by decide)⟩)
      ·rintro x s' a' wE jQ ha hC;obtain⟨wb,tN,Ef,sZ,aZ⟩:=hC.on (jQ 13 (by decide));rw[if_pos (jQ 17 (by decide))]at aZ;rw[CL _ _ _ _ (fun i hi=>by rw[Nat.zero_add];exact jQ i (by simpa using hi))]at ha;subst ha;simp only[iw,Act.put,List.setIfInBounds_toArray,List.set_cons_succ,List.set_cons_zero];have M2:=(M1.O.quiet tN).own sZ AZ (by omega);clear hC jQ;go_wp2_with fail
       go_meet;case rel=>
        refine⟨by first|rfl|trivial,.slice xx y.ak.length xd,M2,?_,VX.O⟩;show _=some (Obj.cells #[.int .i64 y.ag,S y.af,.slice xa y.ai.length xc,S y.target,.int .i64 y.size,S y.aj,.slice xx y.ak.length xd] 26 (0,0));rw[HX1.O,TL.O];exact aZ
     ·have q1:(y.ag==1)=false:=by simpa using pg
      obtain⟨z1,z2,z3⟩:=Yz Yf.O pg;have HZ1:=Qh z1;have HZ2:=Qh z2;have HZ3:=Qh z3;clear pg z1 z2 z3 EA d0 d1 d2 d3 d4;go_wp2_with fail
      go_meet;case rel=>
       refine⟨by first|rfl|trivial,.slice none 0 0,M1.O,?_,by rw[HZ3.O];exact bf.nil _ _⟩;show _=some (Obj.cells #[.int .i64 y.ag,S y.af,.slice xa y.ai.length xc,S y.target,.int .i64 y.size,S y.aj,.slice none 0 0] 26 (0,0));rw[HZ1.O,HZ2.O];exact RA.O
    case rest=>
     obtain⟨rfl,KC,hM2,aZ,zN⟩:=hcut;have M2:=Qh hM2;have RB:=Qh aZ;have qX:=ZI.O.af;have tH:=ZI.O.target;have Sc:=Qh (fun w hw=>WZ J (hI.mono M2.O.keep) _ (t.take k) HG.O (fun x hx=>yX.O x (List.mem_of_mem_take hx)) (kw.O.vI.sublist (List.take_sublist k t)) (by rw[List.length_take];omega) y _ _ VC.O zN ZI.O.wf (by omega) (by omega) w hw);rw[ik.O]at Sc;obtain⟨yx,yd,rfl,_,_,_⟩:=id zN;have lI:(Tryz.prog.info? 26).map (·.size)=some 7:=by kernel_rfl
     clear hM2 aZ zN d0 d1 d2 d3 d4 M1 RA YA XA HWA SX EA;go_wp2_with (refine wpList_load_row rfl 26 _ rfl (wr.heap.size+1) rfl 26 _ (0,0) _ RB.O Tryz.underlying26 rfl lI ?_)
     refine(Sc.O _ M2.O.ok).mono ?_;rintro e9 w9 ⟨v9,J9,rfl,iq,ZK,FV,DX⟩;have M9:=Qh (M2.O.ext iq ZK FV);have HK9:=Qh (ZK.keep M2.O.ok (Qn _));have HR9:=Qh DX;clear iq ZK FV DX M2 RB Sc;go_wp2;go_roundw;case rel=>exact⟨k+1,J9,by omega,by go_num,M9.O,fun b c h=>HK9.O b c (HJ.O b c h),HR9.O⟩
     case measure=>simp[intOf];omega
   ·have nu:k=t.length:=by omega
    subst nu;rw[List.take_length]at HG;have dq:decide ((t.length:Int)<((qH (aS l) t).length:Int))=false:=by rw[vw.O];simp
    have dn:¬(t.length<(qH (aS l) t).length):=by rw[vw.O];omega
    have TJ:=Qh (T5.O.mono HJ.O);have RF:=Qh (fun w hw=>(show Calls Tryz.prog 32 #[.slice a4 t.length c4,.string ⟨#[]⟩] w (fun e w'=>e= .returned (.tuple #[S (sO t []).1,.int .i64 (sO t []).2])∧Below w.heap.size w w')from Xnf J (hI.mono M.O.keep) _ t TJ.O LA.O [] w hw));have RH:=Qh (fun w hw=>(show Calls Tryz.prog 32 #[.slice ga t.length gc,.string ⟨#[]⟩] w (fun e w'=>e= .returned (.tuple #[S (sO t []).1,.int .i64 (sO t []).2])∧Below w.heap.size w w')from Xnf J (hI.mono M.O.keep) _ t HG.O LA.O [] w hw));have Ro:=Qh (fun w hw=>Xuw J (hI.mono M.O.keep) _ _ t t TJ.O HG.O yX.O yX.O (by omega) (by omega) w hw);generalize sO t []=dg at RF RH;obtain⟨ZL,dge⟩:=dg;dsimp only at RF RH;have q1:(ZL==ZL)=true:=beq_self_eq_true ZL;go_wp2_with fail
    refine(RF.O _ M.O.ok).mono ?_;rintro e6 w6 ⟨rfl,fF⟩;have M6:=Qh (M.O.quiet fF);clear fF;go_wp2_with fail
    refine(RH.O _ M6.O.ok).mono ?_;rintro e7 w7 ⟨rfl,jJ⟩;have M7:=Qh (M6.O.quiet jJ);clear jJ M6;go_wp2_with fail
    refine(Ro.O _ M7.O.ok).mono ?_;rintro e8 w8 ⟨l8,vY,v8,J8,rfl,qB,Oa,pI,I6⟩;have Bv:l8=[]:=(Xg7 kw.O.vI kw.O.vI vY.1 vY.2).trans (Xu1 kw.O.vI);subst Bv;obtain⟨a8,c8,rfl,_,_,_⟩:=id I6;have M8:=Qh (M7.O.ext qB Oa pI);clear qB Oa pI I6 vY M7 Ro;go_wp2_with fail
    refine(vQ.O _ M8.O.ok0).mono ?_;rintro e20 N8 ⟨rfl,rH⟩;go_wp2;go_ret;exact⟨rfl,(M8.O.quiet rH).fA⟩
