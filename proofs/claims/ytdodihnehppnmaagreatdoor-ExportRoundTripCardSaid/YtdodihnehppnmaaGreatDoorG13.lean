/- Lemmas for the claim's theorem;conditions: as each says. -/
import Derived.Test.YtdodihnehppnmaaGreatDoorG12
import Derived.Test.YtdodihnehppnmaaGreatDoorG08
set_option maxHeartbeats 0
set_option maxRecDepth 100000
set_option linter.all false
namespace Go.Proofs.YtdodihnehppnmaaGreatDoor
open Go.RowKit
variable{x:ay}{k:Nat}{e:ay}{l:List At}{n:Nat}
def kQ(l:List At)(k:Nat):ae:=bq l.length++(l.take k).flatMap fun a=>aN a.k++aN a.v
theorem Xd(hk:k<l.length){x:At}(hx:l[k]=x):kQ l (k+1)=kQ l k++(aN x.k++aN x.v):=by
 rw[kQ,kQ,List.take_succ_eq_append_getElem hk,hx,List.flatMap_append,←List.append_assoc];simp
theorem Xe(l:List At)(h:l.length≤k):kQ l k=q8 l:=by rw[kQ,q8,List.take_of_length_le h]
theorem TE(hn:l.length≤16)(h:∀a∈l,a.k.length≤32∧a.v.length≤64)(k:Nat):(kQ l k).length≤2300:=by
 have h1:=Vw (l.take k) fun a ha=>h a (List.mem_of_mem_take ha);have h2:=y9 l.length (by omega);have h3:(l.take k).length≤l.length:=by simp;omega
 unfold kQ;rw[List.length_append];omega
structure lV (x:ay):Prop where
 k1:1≤x.ag
 k6:x.ag≤6
 uW:x.ai.length≤16
 Iy:∀a∈x.ai,a.k.length≤32∧a.v.length≤64
 target:x.target.length≤200
 s0:0≤x.size
 s1:x.size≤65536
 aj:x.aj.length≤32
 af:x.af.length≤200
 TF:∀y∈x.ak,0≤y.s∧y.s≤255∧0≤y.o∧y.o≤2147483647∧1≤y.n∧y.n≤65536
theorem Xhp{f:Bool}:∀{l:List Xt},bM f l=0→ ∀y∈l,cB y=false
 | [],_,y,hy=>by cases hy
 |x::l,h,y,hy=>by
  unfold bM at h;split at h
  ·omega
  split at h
  ·omega
  rename_i k;rcases List.mem_cons.1 hy with rfl|hy
  ·simpa using k
  ·exact Xhp h y hy
theorem Xvn{x:Xt}(h:cB x=false):0≤x.s∧x.s≤255∧0≤x.o∧x.o≤2147483647∧1≤x.n∧x.n≤65536:=by
 unfold cB at h;simp only[Bool.or_eq_false_iff,decide_eq_false_iff_not]at h;omega
theorem CS(h:az x=0):lV x:=by
 have hk:=CF h;have Nh:=(Bj hk.2.2.1).1;unfold az at h;rw[if_neg (by omega)]at h;by_cases h1:aF x.af≠0
 ·rw[if_pos h1]at h;exact absurd h h1
 rw[if_neg h1]at h;split at h
 ·omega
 by_cases h2:mq x.ai≠0
 ·rw[if_pos h2]at h;exact absurd h h2
 rw[if_neg h2]at h;split at h
 ·omega
 rename_i h3;split at h
 ·omega
 rename_i h4;split at h
 ·omega
 rename_i h5;by_cases h6:bM (x.ag==1) x.ak≠0
 ·rw[if_pos h6]at h;exact absurd h h6
 have hc:=Xvb (l:=x.ai) (by omega);refine⟨by omega,by omega,hc.1,hc.2,?_,by omega,by omega,?_,by omega,fun y hy=>Xvn (Xhp (f:=x.ag==1) (Classical.byContradiction h6) y hy)⟩
 ·have ht:bG x=true:=by
   cases hh:bG x with
   |true=>rfl
   |false=>exact absurd (.inr hh) h3
  unfold bG at ht;split at ht
  ·simp at ht;omega
  ·split at ht
   ·have:=WI ht;omega
   ·have:x.target=[]:=by simpa using ht
    rw[this];simp
 ·by_cases pg:x.ag=1
  ·have:¬(x.ag=1∧x.aj.length≠32):=fun q=>h5 (.inl q);omega
  ·have:¬(x.ag≠1∧x.aj≠[]):=fun q=>h5 (.inr q);have hd:x.aj=[]:=Classical.byContradiction fun q=>this ⟨pg,q⟩;rw[hd];simp
theorem CU{n:Int}(h0:0≤n)(h1:n≤140737488355200):(bq n).length≤17:=by
 obtain⟨m,rfl⟩:=Int.eq_ofNat_of_zero_le h0;exact y9 m (by omega)
theorem TG(h:lV x):(dR x).length≤2700:=by
 have h1:=Vx h.uW h.Iy;have h2:=MZ x.ag;have h3:=mQ (bH x.ag) (by omega);have h4:=mQ x.af (by have:=h.af;omega);have h5:=mQ x.target (by have:=h.target;omega);have h6:=h.af;have h7:=h.target;unfold dR;simp only[List.length_append];omega
def Gy(e:ay):ae:=aN (dR e)++bq e.size++aN e.aj++bq e.ak.length
def rD(e:ay)(k:Nat):ae:=Gy e++vL (e.ak.take k)
theorem Xuk(hk:k<e.ak.length){x:Xt}(hx:e.ak[k]=x):rD e (k+1)=rD e k++(bq x.s++bq x.o++bq x.n):=by
 rw[rD,rD,List.take_succ_eq_append_getElem hk,hx,vL,List.flatMap_append,←List.append_assoc];simp[vL]
theorem Xql(e:ay)(h:e.ak.length≤k):rD e k=yh e:=by rw[rD,List.take_of_length_le h];rfl
theorem Xuj(e:ay):rD e 0=Gy e:=by rw[rD,List.take_zero];simp[vL]
theorem Xxa(h:lV x)(hx:x.ak.length≤1000):(Gy x).length≤2900:=by
 have h1:=TG h;have h2:=mQ (dR x) (by omega);have h3:=CU h.s0 (by have:=h.s1;omega);have h4:=mQ x.aj (by have:=h.aj;omega);have h5:=y9 x.ak.length (by omega);have h6:=h.aj;unfold Gy;simp only[List.length_append];omega
theorem Xr5:∀{l:List Xt},(∀y∈l,0≤y.s∧y.s≤255∧0≤y.o∧y.o≤2147483647∧1≤y.n∧y.n≤65536)→(vL l).length≤51*l.length
 | [],_=>by simp[vL]
 |y::l,h=>by
  have h1:=h y (List.mem_cons_self ..);have h2:=Xr5 fun z hz=>h z (List.mem_cons_of_mem _ hz);have h3:=CU (n:=y.s) (by omega) (by omega);have h4:=CU (n:=y.o) (by omega) (by omega);have h5:=CU (n:=y.n) (by omega) (by omega);unfold vL at*;simp only[List.flatMap_cons,List.length_append,List.length_cons];omega
theorem Xqk(h:lV x)(hx:x.ak.length≤1000)(k:Nat):(rD x k).length≤54000:=by
 have h1:=Xxa h hx;have h2:=Xr5 (l:=x.ak.take k) fun y hy=>h.TF y (List.mem_of_mem_take hy);have h3:(x.ak.take k).length≤x.ak.length:=by simp;omega
 unfold rD;rw[List.length_append];omega
theorem Xqm(h:lV x)(hx:x.ak.length≤1000):(yh x).length≤54000:=by
 rw[←Xql x (Qn _)];exact Xqk h hx _
theorem Nu(n:Int)(h0:0≤n)(h1:n≤140737488355200)(w:World):
 Calls Tryz.prog 47 #[.int .i64 n] w fun e w'=>e= .returned (S (bq n))∧Below w.heap.size w w':=by
 obtain⟨m,rfl⟩:=Int.eq_ofNat_of_zero_le h0;exact Nn m (by omega) w
theorem X0z{W:World}{b:Nat}{p q:ae}(h0:W.cell? ⟨b,0,none⟩=some (S p))(h1:W.cell? ⟨b,1,none⟩=some (S q)):nN W b 0 [p,q]:=fun j x hx=>by
 match j with
 |0=>cases hx;exact h0
 |1=>cases hx;exact h1
 |_+2=>simp at hx
theorem Xxb(k:Int)(h1:1≤k)(h2:k≤6)(w:World):
 Calls Tryz.prog 97 #[] w fun e w'=>e= .returned (.slice (some ⟨w.heap.size,0,none⟩) 6 6)∧w'.cell? ⟨w.heap.size,k.toNat-1,none⟩=some (S (bH k))∧Below w.heap.size w w'∧w.heap.size<w'.heap.size:=by
 go_enter Tryz.func97,Tryz.ntmps97
 go_wp2;go_ret;refine⟨rfl,?_,(Qb _ _).alloc (Qn _) _,by simp⟩;have:k=1∨k=2∨k=3∨k=4∨k=5∨k=6:=by omega
 rcases this with rfl|rfl|rfl|rfl|rfl|rfl<;>simp[bH]
theorem aW.far{w w':World}{B:Nat}{va vx:Value}(h:aW w n e va vx)(hb:Below B w w')(hn:n<B):aW w' n e va vx:=
 ⟨(hb.cell hn).trans h.c0,(hb.cell hn).trans h.c1,(hb.cell hn).trans h.c2,(hb.cell hn).trans h.c3,(hb.cell hn).trans h.c4,(hb.cell hn).trans h.c5,(hb.cell hn).trans h.c6⟩
abbrev Nv(n:Nat)(e:ay)(N:ae)(x:Nat×Nat):List (Option Tmp×Value):=
 [(some 13,.slice (some ⟨x.1,0,none⟩) 6 6),(some 14,.pointer (some ⟨n,0,none⟩)),(some 15,.int .i64 e.ag),(some 16,.int .i64 (e.ag-1)),(some 17,.pointer (some ⟨x.1,e.ag.toNat-1,none⟩)),(some 18,S (bH e.ag)),
  (some 19,.pointer (some ⟨n,1,none⟩)),(some 20,S e.af),(some 21,.slice (some ⟨x.2,0,none⟩) 2 2),(some 22,S N),(some 23,.tuple #[.int .i64 (N.length:Int),.nilIface])]
theorem vB{N:ae}{x:Nat×Nat}:dL (Nv n e N x):=by
 unfold dL;simp
theorem Xzd(I:IH)(hI:dG I)(e:ay)(va vx:Value)(dV:bf kT I va e.ai)(dX:bf mE I vx e.ak)(iZ:e.Wf)(mK:e.af.length≤4294967280)(o9:e.target.length≤4294967280)(hc:lV e)(he:az e=0)(w:World)(hw:Ok I w):
 Calls Tryz.prog 42 #[eT e va vx] w fun r w'=>r= .returned (.tuple #[S (dR e),.int .i64 0])∧Below w.heap.size w w':=by
 have j6:=Qh (fun w hw=>TA I hI e va vx dV dX iZ mK o9 w hw);obtain⟨aa,ca,rfl,_,_,_⟩:=id dV;obtain⟨ax,cx,rfl,_,_,_⟩:=id dX;have k1:=hc.k1;have k6:=hc.k6;have PK:=hc.af;have PL:=hc.target;have UT:=hc.uW;have rq:=Qh hc.Iy;have Hc:=Qh hc;rw[he]at j6;have i0:IntKind.i64.wrap (e.ag-1)=e.ag-1:=IntWalk.i64_in _ (by omega);have i1:0≤e.ag-1:=by omega
 have i2:e.ag-1<6:=by omega
 clear he hc;go_enter Tryz.func42,Tryz.ntmps42
 go_wp2_with fail
 refine(j6.O _ (hw.alloc _)).mono ?_;rintro e1 w1 ⟨rfl,au⟩;have gT:=Qh (bS (e:=e) rfl au);have aB:Ok I w1:=(hw.alloc _).below (Qn _) au;have av:=((Qb w.heap.size w).alloc (Qn _) (.cells #[.int .i64 e.ag,S e.af,.slice aa e.ai.length ca,S e.target,.int .i64 e.size,S e.aj,.slice ax e.ak.length cx] 26)).trans (au.mono (by simp));have nI:Lib.IsBuilder 77 5 w1.heap.size w1.heap.size (Lib.byteCells []) (w1.alloc (.cells #[.pointer none,.slice none 0 0] 77)):=Lib.fresh_isBuilder _ _ w1;have cO:w.heap.size<w1.heap.size:=by have:=au.size;simp at this;omega
 go_wp2_with fail
 obtain⟨c0,c1,c2,c3,c4,c5,c6⟩:=aW.past gT.O (.cells #[.pointer none,.slice none 0 0] 77);have uL:=mQ (bH e.ag) (by have:=MZ e.ag;omega);have JG:=MZ e.ag;have hpn:=mQ e.af (by omega);have Ay:eX [bH e.ag,e.af]=aN (bH e.ag)++aN e.af:=by simp[eX]
 have vY:(eX [bH e.ag,e.af]).length≤300:=by rw[Ay,List.length_append];omega
 have bB:=Qh (fun b w hv hw=>Ph I hI b 0 2 2 [bH e.ag,e.af] rfl (Qn _) (by decide) w hv (by omega) hw);obtain⟨N,hN⟩:∃N,eX [bH e.ag,e.af]=N:=⟨_,rfl⟩;rw[hN]at bB vY;rw[Ay]at hN;have HN:=Qh hN;clear Ay hN;obtain⟨W5,Nw⟩:∃W5,w1.alloc (.cells #[.pointer none,.slice none 0 0] 77)=W5:=⟨_,rfl⟩;have tN:Below w1.heap.size w1 W5:=by rw[←Nw];exact(Qb _ _).alloc (Qn _) _
 have PM:Ok I W5:=by rw[←Nw];exact aB.alloc _
 have RU:w1.heap.size<W5.heap.size:=by rw[←Nw];simp
 change Code.wp _ _ _ _ (w1.alloc (.cells #[.pointer none,.slice none 0 0] 77));rw[Nw];rw[Nw]at nI c0 c1;have Om:(e.ag-1).toNat=e.ag.toNat-1:=by omega
 refine BD (X:=Nat×Nat) (Nv w.heap.size e N) (zb W5 10 0 8 [(e.ag.toNat-1,S (bH e.ag))] [(0,S (bH e.ag)),(1,S e.af)] (fun w5=>Lib.IsBuilder 77 5 w1.heap.size w1.heap.size (Lib.byteCells N) w5∧w1.heap.size<w5.heap.size∧Below w1.heap.size w1 w5)) (by kernel_rfl) (by kernel_rfl) ?_ ?_ ?_
 ·exact⟨(0,0),zb.start _ _⟩
 ·rintro x s a' w' i eU iK ha hC hi;obtain⟨bO,oi,jb,aG⟩:=mem_ready.1 hi;rcases i with _|_|_|_|_|_|_|_|_|_|_|i
  rotate_left 11
  ·simp at jb
  all_goals
   have iD:=jb;simp at jb;subst jb;simp[Region.binds]at aG
  ·have hl:s.getD 10 false=false:=ry iK [9,8,5,4,0] (by kernel_rfl) (by rfl) bO;have h4:s.getD 4 false=false:=ry iK [0] (by kernel_rfl) (by rfl) bO;have ha:=ha.trans (Xw3 (L:=Nv w.heap.size e N x) (M:=Nv w.heap.size e N (w'.heap.size,x.2)) 0 4 rfl (fun j h0 h4=>by
    rcases j with _|_|_|_|_|j<;>first|rfl|(exact absurd rfl h0)|(exact absurd rfl h4)|simp) bO h4)
   refine wpOp_step iD (fun K' hK=> ?_);rw[if_pos (by rfl)];unfold Oper.wp;simp[go_sem,Oper.upon];refine(Xxb e.ag k1 k6 w').mono ?_;rintro r2 w2 ⟨rfl,tH,aD,fe⟩;exact hK _ _ ⟨(w'.heap.size,x.2),jK (d:=some 13) (v:= .slice (some ⟨w'.heap.size,0,none⟩) 6 6) vB ha rfl bO,hC.at1 hl aD (by decide) (by decide) (fun p hp=>by simp at hp;subst hp;exact tH)⟩
  ·have e1:a'.tmps[1]?.getD undef= .pointer (some ⟨w.heap.size,0,none⟩):=qR ha (by simp);have hl:s.getD 10 false=false:=ry iK [9,8,5,4,3,2,1] (by kernel_rfl) (by rfl) bO;refine wpOp_step iD (fun K' hK=> ?_);rw[if_pos (by rfl)];unfold Oper.wp;simp[go_sem,e1,Oper.upon];exact hK _ _ ⟨x,jK (d:=some 14) (v:=(.pointer (some ⟨w.heap.size,0,none⟩))) vB ha rfl bO,hC.step hl (Qb _ _) (by decide) (by decide) (by decide)⟩
  ·have e14:a'.tmps[14]?.getD undef= .pointer (some ⟨w.heap.size,0,none⟩):=nO (i:=1) vB ha rfl (by simpa using aG) (by simp);have hl:s.getD 10 false=false:=ry iK [9,8,5,4,3,2] (by kernel_rfl) (by rfl) bO;have c0':=dQ (hC.fA hl) c0;refine wpOp_step iD (fun K' hK=> ?_);rw[if_pos (by rfl)];unfold Oper.wp;simp[go_sem,e14,c0',Oper.upon];exact hK _ _ ⟨x,jK (d:=some 15) (v:= .int .i64 e.ag) vB ha rfl bO,hC.step hl (Qb _ _) (by decide) (by decide) (by decide)⟩
  ·have e15:a'.tmps[15]?.getD undef= .int .i64 e.ag:=nO (i:=2) vB ha rfl (by simpa using aG) (by simp);have hl:s.getD 10 false=false:=ry iK [9,8,5,4,3] (by kernel_rfl) (by rfl) bO;refine wpOp_step iD (fun K' hK=> ?_);rw[if_pos (by rfl)];unfold Oper.wp;simp[go_sem,e15,Oper.upon,i0];exact hK _ _ ⟨x,jK (d:=some 16) (v:= .int .i64 (e.ag-1)) vB ha rfl bO,hC.step hl (Qb _ _) (by decide) (by decide) (by decide)⟩
  ·have e13:a'.tmps[13]?.getD undef= .slice (some ⟨x.1,0,none⟩) 6 6:=nO (i:=0) vB ha rfl (by simpa using aG.1) (by simp);have e16:a'.tmps[16]?.getD undef= .int .i64 (e.ag-1):=nO (i:=3) vB ha rfl (by simpa using aG.2) (by simp);have hl:s.getD 10 false=false:=ry iK [9,8,5,4] (by kernel_rfl) (by rfl) bO;refine wpOp_step iD (fun K' hK=> ?_);rw[if_pos (by rfl)];unfold Oper.wp;simp[go_sem,e13,e16,i2,Om,k1,Oper.upon];exact hK _ _ ⟨x,jK (d:=some 17) (v:= .pointer (some ⟨x.1,e.ag.toNat-1,none⟩)) vB ha rfl bO,hC.step hl (Qb _ _) (by decide) (by decide) (by decide)⟩
  ·have e17:a'.tmps[17]?.getD undef= .pointer (some ⟨x.1,e.ag.toNat-1,none⟩):=nO (i:=4) vB ha rfl (by simpa using aG) (by simp);have hl:s.getD 10 false=false:=ry iK [9,8,5] (by kernel_rfl) (by rfl) bO;have h0:s.getD 0 false=true:=Pj iK [0] 4 0 (by kernel_rfl) (by rfl) (by simpa using aG);have hc:=hC.f1 h0 hl _ (List.mem_singleton.2 rfl);refine wpOp_step iD (fun K' hK=> ?_);rw[if_pos (by rfl)];unfold Oper.wp;simp[go_sem,e17,hc,Oper.upon];exact hK _ _ ⟨x,jK (d:=some 18) (v:=S (bH e.ag)) vB ha rfl bO,hC.step hl (Qb _ _) (by decide) (by decide) (by decide)⟩
  ·have e1:a'.tmps[1]?.getD undef= .pointer (some ⟨w.heap.size,0,none⟩):=qR ha (by simp);have hl:s.getD 10 false=false:=ry iK [9,8,7,6] (by kernel_rfl) (by rfl) bO;refine wpOp_step iD (fun K' hK=> ?_);rw[if_pos (by rfl)];unfold Oper.wp;simp[go_sem,e1,Oper.upon];exact hK _ _ ⟨x,jK (d:=some 19) (v:=(.pointer (some ⟨w.heap.size,1,none⟩))) vB ha rfl bO,hC.step hl (Qb _ _) (by decide) (by decide) (by decide)⟩
  ·have e19:a'.tmps[19]?.getD undef= .pointer (some ⟨w.heap.size,1,none⟩):=nO (i:=6) vB ha rfl (by simpa using aG) (by simp);have hl:s.getD 10 false=false:=ry iK [9,8,7] (by kernel_rfl) (by rfl) bO;have c1':=dQ (hC.fA hl) c1;refine wpOp_step iD (fun K' hK=> ?_);rw[if_pos (by rfl)];unfold Oper.wp;simp[go_sem,e19,c1',Oper.upon];exact hK _ _ ⟨x,jK (d:=some 20) (v:=S e.af) vB ha rfl bO,hC.step hl (Qb _ _) (by decide) (by decide) (by decide)⟩
  ·have e18:a'.tmps[18]?.getD undef=S (bH e.ag):=nO (i:=5) vB ha rfl (by simpa using aG.1) (by simp);have e20:a'.tmps[20]?.getD undef=S e.af:=nO (i:=7) vB ha rfl (by first|simpa using aG.2|simpa using aG.2.1) (by simp);have hl:s.getD 10 false=false:=ry iK [9,8] (by kernel_rfl) (by rfl) bO;have ha:=ha.trans (Xyz (L:=Nv w.heap.size e N x) (M:=Nv w.heap.size e N (x.1,w'.heap.size)) 8 rfl (fun j cK=>by
    rcases j with _|_|_|_|_|_|_|_|_|j<;>first|rfl|(exact absurd rfl cK)|simp) bO)
   refine wpOp_step iD (fun K' hK=> ?_);rw[if_pos (by rfl)];unfold Oper.wp;simp[go_sem,e18,e20,Oper.upon];refine hK _ _ ⟨(x.1,w'.heap.size),jK (d:=some 21) (v:= .slice (some ⟨w'.heap.size,0,none⟩) 2 2) vB ha rfl bO,hC.at2 hl ((Qb _ _).alloc (Qn _) _) (by decide) (by decide) (fun p hp=> ?_)⟩;have fO:=Nl w' [bH e.ag,e.af] 9;simp at hp;rcases hp with rfl|rfl
   ·exact fO 0 _ rfl
   ·exact fO 1 _ rfl
  ·have e21:a'.tmps[21]?.getD undef= .slice (some ⟨x.2,0,none⟩) 2 2:=nO (i:=8) vB ha rfl (by simpa using aG.1) (by simp);have hl:s.getD 10 false=false:=ry iK [9] (by kernel_rfl) (by rfl) bO;have hf2:=hC.f2 (by simpa using aG.1) hl;have fO:nN w' x.2 0 [bH e.ag,e.af]:=X0z (hf2 (0,_) (by simp)) (hf2 (1,_) (by simp));refine wpOp_step iD (fun K' hK=> ?_);rw[if_pos (by rfl)];unfold Oper.wp;simp[go_sem,e21,Oper.upon];refine(bB.O x.2 w' fO (PM.below (Qn _) (hC.fA hl))).mono ?_;rintro r4 w4 ⟨rfl,aL⟩;exact hK _ _ ⟨x,jK (d:=some 22) (v:=S N) vB ha rfl bO,hC.step hl aL (by decide) (by decide) (by decide)⟩
  ·have e22:a'.tmps[22]?.getD undef=S N:=nO (i:=9) vB ha rfl (by first|simpa using aG|simpa using aG.1|simpa using aG.2) (by simp);have e5:a'.tmps[5]?.getD undef= .pointer (some ⟨w1.heap.size,0,none⟩):=qR ha (by simp);have hl:s.getD 10 false=false:=CO bO;have Mr:=hC.fA hl;refine wpOp_step iD (fun K' hK=> ?_);rw[if_pos (by rfl)];unfold Oper.wp;simp[go_sem,e22,e5,Oper.upon];refine(Tryz.Builder_WriteString w1.heap.size w1.heap.size _ _ _ (IK nI Mr) (by rw[ByteArray.size_mk',List.size_toArray];simp[Lib.byteCells];omega) (by have:=Mr.size;omega)).mono ?_;rintro r5 w5 ⟨rfl,yE,aY⟩;refine hK _ _ ⟨x,jK (d:=some 23) (v:= .tuple #[.int .i64 (N.length:Int),.nilIface]) vB ha rfl bO,zb.end' bO ⟨.inr ?_,yE.lt,(tN.trans (Mr.mono (Nat.le_of_lt RU))).trans aY⟩⟩;have:=yE;rw[Lib.strCells_toArray,Lib.byteCells,List.map_nil,List.nil_append]at this;exact this
 rintro x s a' w5 jQ ha hC;obtain⟨yE,jN,uq⟩:=hC.fin (jQ 10 (by decide));rw[CL _ _ _ _ (fun i hi=>by rw[Nat.zero_add];exact jQ i (by simpa using hi))]at ha;subst ha;simp only[iw,Act.put];clear hC jQ;have IY:∀b,w1.heap.size≤b→I b=none:=fun b hb=>aB.fresh hb;have bX:Ok I w5:=aB.below (Qn _) uq;have PN:=Qh yE;have mD:=Qh (gT.O.aA (uq.mono (Qn _)));have bV:=av.trans (uq.mono av.size);have pR:=TE UT rq.O;have Hl:=Qh pR;have hz:bq e.ai.length=kQ e.ai 0:=by rw[kQ,List.take_zero,List.flatMap_nil,List.append_nil]
 have CV:=Qh (fun w hw=>IM I hI e.ai.length (by omega) w hw);rw[hz]at CV;have aq8:=pR 0;clear nI yE au av uq gT c0 c1 c2 c3 c4 c5 c6 aB hz pR bB i0 i1 i2 uL JG hpn tN PM RU Om Nw;obtain⟨c0,c1,c2,c3,c4,c5,c6⟩:=mD.O;go_wp2_with fail
 refine(CV.O _ bX).mono ?_;rintro e6 w6 ⟨rfl,fF⟩;have PO:=IK PN.O fF;have lm:Ok I w6:=bX.below (Qn _) fF;have zf:=Qh (mD.O.aA fF);have iT:=bV.trans (fF.mono bV.size);have Xf:=fF.size;clear fF bV bX mD c0 c1 c2 c3 c4 c5 c6 PN;go_wp2_with fail
 refine(Tryz.Builder_WriteString w1.heap.size w1.heap.size _ _ _ PO (by rw[ByteArray.size_mk',List.size_toArray];simp[Lib.byteCells];omega) (by omega)).mono ?_;rintro e7 w7 ⟨rfl,KH,jJ⟩;have PP:=Qh (show Lib.IsBuilder 77 5 w1.heap.size w1.heap.size (Lib.byteCells (N++kQ e.ai 0)) w7 from .inr (by
  have:=KH;rw[Lib.strCells_toArray,Lib.byteCells,Lib.byteCells,←List.map_append]at this;exact this))
 have nR:=KH.lt;have wU:Below w1.heap.size w6 w7:=jJ;have nQ:Ok I w7:=lm.of_block fun b c hb=>wU.block b (Nat.lt_of_not_le fun h=>by rw[IY b h]at hb;cases hb);have xC:=Qh (zf.O.far wU cO);have qD:=iT.trans (wU.mono (Nat.le_of_lt cO));clear PO KH jJ wU iT lm zf CV;obtain⟨c0,c1,c2,c3,c4,c5,c6⟩:=xC.O;have Hv:=Qh dV;clear dV dX;go_wp2_with fail
 clear c0 c1 c2 c3 c4 c5 c6;go_loopw [32] (fun Kv wr=> ∃k:Nat,k≤e.ai.length∧Kv= .int .i64 k∧Lib.IsBuilder 77 5 w1.heap.size w1.heap.size (Lib.byteCells (N++kQ e.ai k)) wr∧Ok I wr∧aW wr w.heap.size e (.slice aa e.ai.length ca) (.slice ax e.ak.length cx)∧Below w.heap.size w wr∧w1.heap.size<wr.heap.size) (fun i _=>e.ai.length-(intOf i).toNat)
 case atStart=>exact⟨0,Nat.zero_le _,rfl,PP.O,nQ,xC.O,qD,nR⟩
 case round=>
  clear PP xC qD nQ nR Xf jN;obtain⟨k,hk,rfl,tJ,dz,ma,hb,eU⟩:=hrel;have wN:=Qh tJ;have lL:=Qh ma;clear tJ ma;have oW:=Hl.O k;by_cases hlt:k<e.ai.length
  ·obtain⟨x,b,off,cap',bN,di,c0,c1⟩:=uU Hv.O dz k hlt;cases di;have Ms:=rq.O x (by rw[←bN];exact List.getElem_mem hlt);have bB:=Qh (Xd hlt bN);have pg:=mQ x.k (by omega);have sP:=mQ x.v (by omega);have Ay:eX [x.k,x.v]=aN x.k++aN x.v:=by simp[eX]
   have Hs:=Qh (fun w hv hw=>Ph I hI (wr.heap.size+1) 0 2 2 [x.k,x.v] rfl (by simp) (by unfold maxLen;omega) w hv (by rw[Ay];simp;omega) hw);have HS:=Qh (show nN ((wr.alloc (.cells #[S x.k,S x.v] 94)).alloc (.cells #[S x.k,S x.v] 9)) (wr.heap.size+1) 0 [x.k,x.v] by
    have:=Nl (wr.alloc (.cells #[S x.k,S x.v] 94)) [x.k,x.v] 9;rwa[show(wr.alloc (.cells #[S x.k,S x.v] 94)).heap.size=wr.heap.size+1 by simp]at this)
   rw[Ay]at Hs;clear bN Ay;generalize aN x.k=p at bB pg Hs;generalize aN x.v=q at bB sP Hs;generalize kQ e.ai k=u at bB oW wN;go_wp2_with fail
   refine(Hs.O _ HS.O ((dz.alloc _).alloc _)).mono ?_;rintro e1 w2 ⟨rfl,au⟩;have uq:Below wr.heap.size wr w2:=(((Qb _ _).alloc (Qn _) _).alloc (by simp) _).trans (au.mono (by simp;omega));have nI:=IK wN.O uq;have aB:Ok I w2:=dz.below (Qn _) uq;have gT:=Qh (lL.O.aA uq);have fe:=uq.size;have av:=hb.trans (uq.mono hb.size);clear au uq wN c0 c1 HS Hs;go_wp2_with fail
   refine(Tryz.Builder_WriteString w1.heap.size w1.heap.size _ _ _ nI (by rw[ByteArray.size_mk',List.size_toArray];simp[Lib.byteCells];omega) (by omega)).mono ?_;rintro e2 w3 ⟨rfl,mU,aD⟩;have wG:=mU.lt;have u7:=Qh (show Lib.IsBuilder 77 5 w1.heap.size w1.heap.size (Lib.byteCells (N++kQ e.ai (k+1))) w3 from .inr (by
    have:=mU;rw[Lib.strCells_toArray,Lib.byteCells,Lib.byteCells,←List.map_append,List.append_assoc,←bB.O]at this;exact this))
   have wU:Below w1.heap.size w2 w3:=aD;have bQ:Ok I w3:=aB.of_block fun b c hb=>wU.block b (Nat.lt_of_not_le fun h=>by rw[IY b h]at hb;cases hb);have mH:=Qh (gT.O.far wU cO);clear nI mU aB gT aD;go_wp2;go_roundw;case rel=>exact⟨k+1,by omega,by go_num,u7.O,bQ,mH.O,av.trans (wU.mono (Nat.le_of_lt cO)),wG⟩
   case measure=>simp[intOf];omega
  ·have Hn:=Qh (Xe e.ai (k:=k) (by omega));rw[Hn.O]at wN oW;have Oo:=mQ e.target (by omega);have Hnt:=Qh (fun w hw=>IL I hI e.target (by omega) w hw);have Hh:=Qh (show N++q8 e.ai++aN e.target=dR e by rw[←HN.O];rfl);generalize aN e.target=q at Oo Hnt Hh;generalize q8 e.ai=u at wN oW Hh;obtain⟨c0,c1,c2,c3,c4,c5,c6⟩:=lL.O;go_wp2_with fail
   refine(Hnt.O _ dz).mono ?_;rintro e1 w2 ⟨rfl,au⟩;have nI:=IK wN.O au;have fe:=au.size;have av:=hb.trans (au.mono hb.size);clear au wN c0 c1 c2 c3 c4 c5 c6 lL;go_wp2_with fail
   refine(Tryz.Builder_WriteString w1.heap.size w1.heap.size _ _ _ nI (by rw[ByteArray.size_mk',List.size_toArray];simp[Lib.byteCells];omega) (by omega)).mono ?_;rintro e2 w3 ⟨rfl,mU,aD⟩;have wG:=mU.lt;have u7:=Qh (show Lib.IsBuilder 77 5 w1.heap.size w1.heap.size (Lib.byteCells (dR e)) w3 from .inr (by
    have:=mU;rw[Lib.strCells_toArray,Lib.byteCells,Lib.byteCells,←List.map_append,Hh.O]at this;exact this))
   have aK:=av.trans (aD.mono (Nat.le_of_lt cO));clear nI mU aD;go_wp2_with fail
   refine(Tryz.Builder_String_any w1.heap.size w1.heap.size _ _ u7.O (Nat.le_of_lt wG)).mono ?_;rintro e3 w4 ⟨rfl,aL⟩;go_wp2;go_ret2;exact⟨rfl,aK.trans (aL.mono (Nat.le_of_lt cO))⟩
