/- Lemmas for the claim's theorem;conditions: as each says. -/
import Derived.Test.YtkipnpjagcfcpaaGreatDoorE05
import Derived.Defers
set_option maxHeartbeats 0
set_option maxRecDepth 100000
set_option linter.all false
namespace Go.Proofs.YtkipnpjagcfcpaaGreatDoor
open Go.RowKit
variable{W w:World}{n j:Nat}{α:Type}{k:Nat}{I:IH}{s:Array Bool}{x:aG}{a:Act}{i:Nat}{tmps:Array Value}{e:aG}{va vx v:Value}{ops:Array Oper}{g B:Nat}{T:Ty α}{P:Program}{Q:Exit→Act→World→Prop}{z:Int}{E:TypeId}{l:List α}{C:Array Value}{J:IH}{b:Nat}{w':World}{t:TypeId}{c:Array Value}{ba ne:Nat}{o:Oper}{K:Act→World→Prop}{fn:Func}{p:Tmp}{ty:TypeId}{y:aG}{m:Int}{L:List (Option Tmp×Value)}{a':Act}{R:Array Value}
def nX(l:List At)(k:Nat):ae:=aY l.length++(l.take k).flatMap fun a=>aS a.k++aS a.v
theorem Xng{l:List At}(hk:k<l.length){x:At}(hx:l[k]=x):nX l (k+1)=nX l k++(aS x.k++aS x.v):=by
 rw[nX,nX,List.take_succ_eq_append_getElem hk,hx,List.flatMap_append,←List.append_assoc];simp
theorem Xqj(l:List At)(h:l.length≤k):nX l k=u7 l:=by rw[nX,u7,List.take_of_length_le h]
theorem Xqi{l:List At}(hn:l.length≤16)(h:∀a∈l,a.k.length≤32∧a.v.length≤64)(k:Nat):(nX l k).length≤2300:=by
 have h1:=VV (l.take k) fun a ha=>h a (List.mem_of_mem_take ha);have h2:=qP l.length (by omega);have h3:(l.take k).length≤l.length:=by simp;omega
 unfold nX;rw[List.length_append];omega
structure kT (x:aG):Prop where
 k1:1≤x.ai
 k6:x.ai≤6
 DN:x.ag.length≤16
 Pf:∀a∈x.ag,a.k.length≤32∧a.v.length≤64
 target:x.target.length≤200
 s0:0≤x.size
 s1:x.size≤65536
 aj:x.aj.length≤32
 af:x.af.length≤200
 NS:∀y∈x.ak,0≤y.s∧y.s≤255∧0≤y.o∧y.o≤2147483647∧1≤y.n∧y.n≤65536
theorem Xht{f:Bool}:∀{l:List Xt},bK f l=0→ ∀y∈l,bX y=false
 | [],_,y,hy=>by cases hy
 |x::l,h,y,hy=>by
  unfold bK at h;split at h
  ·omega
  split at h
  ·omega
  rename_i k;rcases List.mem_cons.1 hy with rfl|hy
  ·simpa using k
  ·exact Xht h y hy
theorem Xuq{x:Xt}(h:bX x=false):0≤x.s∧x.s≤255∧0≤x.o∧x.o≤2147483647∧1≤x.n∧x.n≤65536:=by
 unfold bX at h;simp only[Bool.or_eq_false_iff,decide_eq_false_iff_not]at h;omega
theorem Bn(h:az x=0):kT x:=by
 have hk:=FO h;have ND:=(BL hk.2.2.1).1;unfold az at h;rw[if_neg (by omega)]at h;by_cases h1:aJ x.af≠0
 ·rw[if_pos h1]at h;exact absurd h h1
 rw[if_neg h1]at h;split at h
 ·omega
 by_cases h2:mQ x.ag≠0
 ·rw[if_pos h2]at h;exact absurd h h2
 rw[if_neg h2]at h;split at h
 ·omega
 rename_i h3;split at h
 ·omega
 rename_i h4;split at h
 ·omega
 rename_i h5;by_cases h6:bK (x.ai==1) x.ak≠0
 ·rw[if_pos h6]at h;exact absurd h h6
 have hc:=Xyk (l:=x.ag) (by omega);refine⟨by omega,by omega,hc.1,hc.2,?_,by omega,by omega,?_,by omega,fun y hy=>Xuq (Xht (f:=x.ai==1) (Classical.byContradiction h6) y hy)⟩
 ·have ht:bJ x=true:=by
   cases hh:bJ x with
   |true=>rfl
   |false=>exact absurd (.inr hh) h3
  unfold bJ at ht;split at ht
  ·simp at ht;omega
  ·split at ht
   ·have:=Xd ht;omega
   ·have:x.target=[]:=by simpa using ht
    rw[this];simp
 ·by_cases mo:x.ai=1
  ·have:¬(x.ai=1∧x.aj.length≠32):=fun q=>h5 (.inl q);omega
  ·have:¬(x.ai≠1∧x.aj≠[]):=fun q=>h5 (.inr q);have hd:x.aj=[]:=Classical.byContradiction fun q=>this ⟨mo,q⟩;rw[hd];simp
theorem Dh{n:Int}(h0:0≤n)(h1:n≤140737488355200):(aY n).length≤17:=by
 obtain⟨m,rfl⟩:=Int.eq_ofNat_of_zero_le h0;exact qP m (by omega)
theorem KS(h:kT x):(dD x).length≤2700:=by
 have h1:=Xwo h.DN h.Pf;have h2:=Tw x.ai;have h3:=pY (bO x.ai) (by omega);have h4:=pY x.af (by have:=h.af;omega);have h5:=pY x.target (by have:=h.target;omega);have h6:=h.af;have h7:=h.target;unfold dD;simp only[List.length_append];omega
def H9(e:aG):ae:=aS (dD e)++aY e.size++aS e.aj++aY e.ak.length
def rA(e:aG)(k:Nat):ae:=H9 e++vT (e.ak.take k)
theorem Xtt(hk:k<e.ak.length){x:Xt}(hx:e.ak[k]=x):rA e (k+1)=rA e k++(aY x.s++aY x.o++aY x.n):=by
 rw[rA,rA,List.take_succ_eq_append_getElem hk,hx,vT,List.flatMap_append,←List.append_assoc];simp[vT]
theorem Xqb(e:aG)(h:e.ak.length≤k):rA e k=yD e:=by rw[rA,List.take_of_length_le h];rfl
theorem Xts(e:aG):rA e 0=H9 e:=by rw[rA,List.take_zero];simp[vT]
theorem Xv6(h:kT x)(hx:x.ak.length≤1000):(H9 x).length≤2900:=by
 have h1:=KS h;have h2:=pY (dD x) (by omega);have h3:=Dh h.s0 (by have:=h.s1;omega);have h4:=pY x.aj (by have:=h.aj;omega);have h5:=qP x.ak.length (by omega);have h6:=h.aj;unfold H9;simp only[List.length_append];omega
theorem Xrk:∀{l:List Xt},(∀y∈l,0≤y.s∧y.s≤255∧0≤y.o∧y.o≤2147483647∧1≤y.n∧y.n≤65536)→(vT l).length≤51*l.length
 | [],_=>by simp[vT]
 |y::l,h=>by
  have h1:=h y (List.mem_cons_self ..);have h2:=Xrk fun z hz=>h z (List.mem_cons_of_mem _ hz);have h3:=Dh (n:=y.s) (by omega) (by omega);have h4:=Dh (n:=y.o) (by omega) (by omega);have h5:=Dh (n:=y.n) (by omega) (by omega);unfold vT at*;simp only[List.flatMap_cons,List.length_append,List.length_cons];omega
theorem Xqa(h:kT x)(hx:x.ak.length≤1000)(k:Nat):(rA x k).length≤54000:=by
 have h1:=Xv6 h hx;have h2:=Xrk (l:=x.ak.take k) fun y hy=>h.NS y (List.mem_of_mem_take hy);have h3:(x.ak.take k).length≤x.ak.length:=by simp;omega
 unfold rA;rw[List.length_append];omega
theorem Xqc(h:kT x)(hx:x.ak.length≤1000):(yD x).length≤54000:=by
 rw[←Xqb x (Qn _)];exact Xqa h hx _
theorem NT(n:Int)(h0:0≤n)(h1:n≤140737488355200)(w:World):
 Calls Tryz.prog 29 #[.int .i64 n] w fun e w'=>e= .returned (S (aY n))∧Below w.heap.size w w':=by
 obtain⟨m,rfl⟩:=Int.eq_ofNat_of_zero_le h0;exact NK m (by omega) w
theorem Xzf{p q:ae}(h0:W.cell? ⟨b,0,none⟩=some (S p))(h1:W.cell? ⟨b,1,none⟩=some (S q)):tY W b 0 [p,q]:=fun j x hx=>by
 match j with
 |0=>cases hx;exact h0
 |1=>cases hx;exact h1
 |_+2=>simp at hx
theorem Xv7(k:Int)(h1:1≤k)(h2:k≤6)(w:World):
 Calls Tryz.prog 63 #[] w fun e w'=>e= .returned (.slice (some ⟨w.heap.size,0,none⟩) 6 6)∧w'.cell? ⟨w.heap.size,k.toNat-1,none⟩=some (S (bO k))∧Below w.heap.size w w'∧w.heap.size<w'.heap.size:=by
 go_enter Tryz.func63,Tryz.ntmps63
 go_wp2;go_ret;refine⟨rfl,?_,(Qb _ _).alloc (Qn _) _,by simp⟩;have:k=1∨k=2∨k=3∨k=4∨k=5∨k=6:=by omega
 rcases this with rfl|rfl|rfl|rfl|rfl|rfl<;>simp[bO]
theorem bn.far(h:bn w n e va vx)(hb:Below B w w')(hn:n<B):bn w' n e va vx:=
 ⟨(hb.cell hn).trans h.c0,(hb.cell hn).trans h.c1,(hb.cell hn).trans h.c2,(hb.cell hn).trans h.c3,(hb.cell hn).trans h.c4,(hb.cell hn).trans h.c5,(hb.cell hn).trans h.c6⟩
abbrev NU(n:Nat)(e:aG)(N:ae)(x:Nat×Nat):List (Option Tmp×Value):=
 [(some 13,.slice (some ⟨x.1,0,none⟩) 6 6),(some 14,.pointer (some ⟨n,0,none⟩)),(some 15,.int .i64 e.ai),(some 16,.int .i64 (e.ai-1)),(some 17,.pointer (some ⟨x.1,e.ai.toNat-1,none⟩)),(some 18,S (bO e.ai)),
  (some 19,.pointer (some ⟨n,1,none⟩)),(some 20,S e.af),(some 21,.slice (some ⟨x.2,0,none⟩) 2 2),(some 22,S N),(some 23,.tuple #[.int .i64 (N.length:Int),.nilIface])]
theorem vF{N:ae}{x:Nat×Nat}:bL (NU n e N x):=by
 unfold bL;simp
theorem Xtx(I:IH)(hI:dQ I)(e:aG)(va vx:Value)(eP:bf lT I va e.ag)(eT:bf mr I vx e.ak)(jh:e.Wf)(nH:e.af.length≤4294967280)(pF:e.target.length≤4294967280)(hc:kT e)(he:az e=0)(w:World)(hw:Ok I w):
 Calls Tryz.prog 26 #[fB e va vx] w fun r w'=>r= .returned (.tuple #[S (dD e),.int .i64 0])∧Below w.heap.size w w':=by
 have kg:=Qh (fun w hw=>Uf I hI e va vx eP eT jh nH pF w hw);obtain⟨aa,ca,rfl,_,_,_⟩:=id eP;obtain⟨ax,cx,rfl,_,_,_⟩:=id eT;have k1:=hc.k1;have k6:=hc.k6;have Qc:=hc.af;have Qd:=hc.target;have Fy:=hc.DN;have q9:=Qh hc.Pf;have Hc:=Qh hc;rw[he]at kg;have i0:IntKind.i64.wrap (e.ai-1)=e.ai-1:=IntWalk.i64_in _ (by omega);have i1:0≤e.ai-1:=by omega
 have i2:e.ai-1<6:=by omega
 clear he hc;go_enter Tryz.func26,Tryz.ntmps26
 go_wp2_with fail
 refine(kg.O _ (hw.alloc _)).mono ?_;rintro e1 w1 ⟨rfl,au⟩;have iq:=Qh (cB (e:=e) rfl au);have aD:Ok I w1:=(hw.alloc _).below (Qn _) au;have av:=((Qb w.heap.size w).alloc (Qn _) (.cells #[.int .i64 e.ai,S e.af,.slice aa e.ag.length ca,S e.target,.int .i64 e.size,S e.aj,.slice ax e.ak.length cx] 35)).trans (au.mono (by simp));have sH:Lib.IsBuilder 71 5 w1.heap.size w1.heap.size (Lib.byteCells []) (w1.alloc (.cells #[.pointer none,.slice none 0 0] 71)):=Lib.fresh_isBuilder _ _ w1;have bY:w.heap.size<w1.heap.size:=by have:=au.size;simp at this;omega
 go_wp2_with fail
 obtain⟨c0,c1,c2,c3,c4,c5,c6⟩:=bn.past iq.O (.cells #[.pointer none,.slice none 0 0] 71);have vO:=pY (bO e.ai) (by have:=Tw e.ai;omega);have zH:=Tw e.ai;have MQ:=pY e.af (by omega);have MR:gJ [bO e.ai,e.af]=aS (bO e.ai)++aS e.af:=by simp[gJ]
 have JW:(gJ [bO e.ai,e.af]).length≤300:=by rw[MR,List.length_append];omega
 have bB:=Qh (fun b w hv hw=>WV I hI b 0 2 2 [bO e.ai,e.af] rfl (Qn _) (by decide) w hv (by omega) hw);obtain⟨N,hN⟩:∃N,gJ [bO e.ai,e.af]=N:=⟨_,rfl⟩;rw[hN]at bB JW;rw[MR]at hN;have HN:=Qh hN;clear MR hN;obtain⟨W5,Bo⟩:∃W5,w1.alloc (.cells #[.pointer none,.slice none 0 0] 71)=W5:=⟨_,rfl⟩;have qh:Below w1.heap.size w1 W5:=by rw[←Bo];exact(Qb _ _).alloc (Qn _) _
 have Qe:Ok I W5:=by rw[←Bo];exact aD.alloc _
 have SG:w1.heap.size<W5.heap.size:=by rw[←Bo];simp
 change Code.wp _ _ _ _ (w1.alloc (.cells #[.pointer none,.slice none 0 0] 71));rw[Bo];rw[Bo]at sH c0 c1;have Vo:(e.ai-1).toNat=e.ai.toNat-1:=by omega
 refine uW (X:=Nat×Nat) (NU w.heap.size e N) (zx W5 10 0 8 [(e.ai.toNat-1,S (bO e.ai))] [(0,S (bO e.ai)),(1,S e.af)] (fun w5=>Lib.IsBuilder 71 5 w1.heap.size w1.heap.size (Lib.byteCells N) w5∧w1.heap.size<w5.heap.size∧Below w1.heap.size w1 w5)) (by kernel_rfl) (by kernel_rfl) ?_ ?_ ?_
 ·exact⟨(0,0),zx.start _ _⟩
 ·rintro x s a' w' i eU gI ha hC hi;obtain⟨aV,oi,eX,aB⟩:=mem_ready.1 hi;rcases i with _|_|_|_|_|_|_|_|_|_|_|i
  rotate_left 11
  ·simp at eX
  all_goals
   have fZ:=eX;simp at eX;subst eX;simp[Region.binds]at aB
  ·have hl:s.getD 10 false=false:=ru gI [9,8,5,4,0] (by kernel_rfl) (by rfl) aV;have h4:s.getD 4 false=false:=ru gI [0] (by kernel_rfl) (by rfl) aV;have ha:=ha.trans (Xv2 (L:=NU w.heap.size e N x) (M:=NU w.heap.size e N (w'.heap.size,x.2)) 0 4 rfl (fun j h0 h4=>by
    rcases j with _|_|_|_|_|j<;>first|rfl|(exact absurd rfl h0)|(exact absurd rfl h4)|simp) aV h4)
   refine wpOp_step fZ (fun K' hK=> ?_);rw[if_pos (by rfl)];unfold Oper.wp;simp[go_sem,Oper.upon];refine(Xv7 e.ai k1 k6 w').mono ?_;rintro r2 w2 ⟨rfl,xJ,aF,fO⟩;exact hK _ _ ⟨(w'.heap.size,x.2),j6 (d:=some 13) (v:= .slice (some ⟨w'.heap.size,0,none⟩) 6 6) vF ha rfl aV,hC.at1 hl aF (by decide) (by decide) (fun p hp=>by simp at hp;subst hp;exact xJ)⟩
  ·have e1:a'.tmps[1]?.getD undef= .pointer (some ⟨w.heap.size,0,none⟩):=qU ha (by simp);have hl:s.getD 10 false=false:=ru gI [9,8,5,4,3,2,1] (by kernel_rfl) (by rfl) aV;refine wpOp_step fZ (fun K' hK=> ?_);rw[if_pos (by rfl)];unfold Oper.wp;simp[go_sem,e1,Oper.upon];exact hK _ _ ⟨x,j6 (d:=some 14) (v:=(.pointer (some ⟨w.heap.size,0,none⟩))) vF ha rfl aV,hC.step hl (Qb _ _) (by decide) (by decide) (by decide)⟩
  ·have e14:a'.tmps[14]?.getD undef= .pointer (some ⟨w.heap.size,0,none⟩):=oq (i:=1) vF ha rfl (by simpa using aB) (by simp);have hl:s.getD 10 false=false:=ru gI [9,8,5,4,3,2] (by kernel_rfl) (by rfl) aV;have c0':=dh (hC.dE hl) c0;refine wpOp_step fZ (fun K' hK=> ?_);rw[if_pos (by rfl)];unfold Oper.wp;simp[go_sem,e14,c0',Oper.upon];exact hK _ _ ⟨x,j6 (d:=some 15) (v:= .int .i64 e.ai) vF ha rfl aV,hC.step hl (Qb _ _) (by decide) (by decide) (by decide)⟩
  ·have e15:a'.tmps[15]?.getD undef= .int .i64 e.ai:=oq (i:=2) vF ha rfl (by simpa using aB) (by simp);have hl:s.getD 10 false=false:=ru gI [9,8,5,4,3] (by kernel_rfl) (by rfl) aV;refine wpOp_step fZ (fun K' hK=> ?_);rw[if_pos (by rfl)];unfold Oper.wp;simp[go_sem,e15,Oper.upon,i0];exact hK _ _ ⟨x,j6 (d:=some 16) (v:= .int .i64 (e.ai-1)) vF ha rfl aV,hC.step hl (Qb _ _) (by decide) (by decide) (by decide)⟩
  ·have e13:a'.tmps[13]?.getD undef= .slice (some ⟨x.1,0,none⟩) 6 6:=oq (i:=0) vF ha rfl (by simpa using aB.1) (by simp);have e16:a'.tmps[16]?.getD undef= .int .i64 (e.ai-1):=oq (i:=3) vF ha rfl (by simpa using aB.2) (by simp);have hl:s.getD 10 false=false:=ru gI [9,8,5,4] (by kernel_rfl) (by rfl) aV;refine wpOp_step fZ (fun K' hK=> ?_);rw[if_pos (by rfl)];unfold Oper.wp;simp[go_sem,e13,e16,i2,Vo,k1,Oper.upon];exact hK _ _ ⟨x,j6 (d:=some 17) (v:= .pointer (some ⟨x.1,e.ai.toNat-1,none⟩)) vF ha rfl aV,hC.step hl (Qb _ _) (by decide) (by decide) (by decide)⟩
  ·have e17:a'.tmps[17]?.getD undef= .pointer (some ⟨x.1,e.ai.toNat-1,none⟩):=oq (i:=4) vF ha rfl (by simpa using aB) (by simp);have hl:s.getD 10 false=false:=ru gI [9,8,5] (by kernel_rfl) (by rfl) aV;have h0:s.getD 0 false=true:=PO gI [0] 4 0 (by kernel_rfl) (by rfl) (by simpa using aB);have hc:=hC.f1 h0 hl _ (List.mem_singleton.2 rfl);refine wpOp_step fZ (fun K' hK=> ?_);rw[if_pos (by rfl)];unfold Oper.wp;simp[go_sem,e17,hc,Oper.upon];exact hK _ _ ⟨x,j6 (d:=some 18) (v:=S (bO e.ai)) vF ha rfl aV,hC.step hl (Qb _ _) (by decide) (by decide) (by decide)⟩
  ·have e1:a'.tmps[1]?.getD undef= .pointer (some ⟨w.heap.size,0,none⟩):=qU ha (by simp);have hl:s.getD 10 false=false:=ru gI [9,8,7,6] (by kernel_rfl) (by rfl) aV;refine wpOp_step fZ (fun K' hK=> ?_);rw[if_pos (by rfl)];unfold Oper.wp;simp[go_sem,e1,Oper.upon];exact hK _ _ ⟨x,j6 (d:=some 19) (v:=(.pointer (some ⟨w.heap.size,1,none⟩))) vF ha rfl aV,hC.step hl (Qb _ _) (by decide) (by decide) (by decide)⟩
  ·have e19:a'.tmps[19]?.getD undef= .pointer (some ⟨w.heap.size,1,none⟩):=oq (i:=6) vF ha rfl (by simpa using aB) (by simp);have hl:s.getD 10 false=false:=ru gI [9,8,7] (by kernel_rfl) (by rfl) aV;have c1':=dh (hC.dE hl) c1;refine wpOp_step fZ (fun K' hK=> ?_);rw[if_pos (by rfl)];unfold Oper.wp;simp[go_sem,e19,c1',Oper.upon];exact hK _ _ ⟨x,j6 (d:=some 20) (v:=S e.af) vF ha rfl aV,hC.step hl (Qb _ _) (by decide) (by decide) (by decide)⟩
  ·have e18:a'.tmps[18]?.getD undef=S (bO e.ai):=oq (i:=5) vF ha rfl (by simpa using aB.1) (by simp);have e20:a'.tmps[20]?.getD undef=S e.af:=oq (i:=7) vF ha rfl (by first|simpa using aB.2|simpa using aB.2.1) (by simp);have hl:s.getD 10 false=false:=ru gI [9,8] (by kernel_rfl) (by rfl) aV;have ha:=ha.trans (Xxo (L:=NU w.heap.size e N x) (M:=NU w.heap.size e N (x.1,w'.heap.size)) 8 rfl (fun j bZ=>by
    rcases j with _|_|_|_|_|_|_|_|_|j<;>first|rfl|(exact absurd rfl bZ)|simp) aV)
   refine wpOp_step fZ (fun K' hK=> ?_);rw[if_pos (by rfl)];unfold Oper.wp;simp[go_sem,e18,e20,Oper.upon];refine hK _ _ ⟨(x.1,w'.heap.size),j6 (d:=some 21) (v:= .slice (some ⟨w'.heap.size,0,none⟩) 2 2) vF ha rfl aV,hC.at2 hl ((Qb _ _).alloc (Qn _) _) (by decide) (by decide) (fun p hp=> ?_)⟩;have gB:=WU w' [bO e.ai,e.af] 9;simp at hp;rcases hp with rfl|rfl
   ·exact gB 0 _ rfl
   ·exact gB 1 _ rfl
  ·have e21:a'.tmps[21]?.getD undef= .slice (some ⟨x.2,0,none⟩) 2 2:=oq (i:=8) vF ha rfl (by simpa using aB.1) (by simp);have hl:s.getD 10 false=false:=ru gI [9] (by kernel_rfl) (by rfl) aV;have hf2:=hC.f2 (by simpa using aB.1) hl;have gB:tY w' x.2 0 [bO e.ai,e.af]:=Xzf (hf2 (0,_) (by simp)) (hf2 (1,_) (by simp));refine wpOp_step fZ (fun K' hK=> ?_);rw[if_pos (by rfl)];unfold Oper.wp;simp[go_sem,e21,Oper.upon];refine(bB.O x.2 w' gB (Qe.below (Qn _) (hC.dE hl))).mono ?_;rintro r4 w4 ⟨rfl,aM⟩;exact hK _ _ ⟨x,j6 (d:=some 22) (v:=S N) vF ha rfl aV,hC.step hl aM (by decide) (by decide) (by decide)⟩
  ·have e22:a'.tmps[22]?.getD undef=S N:=oq (i:=9) vF ha rfl (by first|simpa using aB|simpa using aB.1|simpa using aB.2) (by simp);have e5:a'.tmps[5]?.getD undef= .pointer (some ⟨w1.heap.size,0,none⟩):=qU ha (by simp);have hl:s.getD 10 false=false:=Cb aV;have MP:=hC.dE hl;refine wpOp_step fZ (fun K' hK=> ?_);rw[if_pos (by rfl)];unfold Oper.wp;simp[go_sem,e22,e5,Oper.upon];refine(Tryz.Builder_WriteString w1.heap.size w1.heap.size _ _ _ (NH sH MP) (by rw[ByteArray.size_mk',List.size_toArray];simp[Lib.byteCells];omega) (by have:=MP.size;omega)).mono ?_;rintro r5 w5 ⟨rfl,sJ,bq⟩;refine hK _ _ ⟨x,j6 (d:=some 23) (v:= .tuple #[.int .i64 (N.length:Int),.nilIface]) vF ha rfl aV,zx.end' aV ⟨.inr ?_,sJ.lt,(qh.trans (MP.mono (Nat.le_of_lt SG))).trans bq⟩⟩;have:=sJ;rw[Lib.strCells_toArray,Lib.byteCells,List.map_nil,List.nil_append]at this;exact this
 rintro x s a' w5 gH ha hC;obtain⟨sJ,jZ,vW⟩:=hC.fin (gH 10 (by decide));rw[vB _ _ _ _ (fun i hi=>by rw[Nat.zero_add];exact gH i (by simpa using hi))]at ha;subst ha;simp only[dZ,Act.put];clear hC gH;have Jy:∀b,w1.heap.size≤b→I b=none:=fun b hb=>aD.fresh hb;have df:Ok I w5:=aD.below (Qn _) vW;have Qj:=Qh sJ;have ny:=Qh (iq.O.aA (vW.mono (Qn _)));have bT:=av.trans (vW.mono av.size);have oO:=Xqi Fy q9.O;have Hl:=Qh oO;have hz:aY e.ag.length=nX e.ag 0:=by rw[nX,List.take_zero,List.flatMap_nil,List.append_nil]
 have KT:=Qh (fun w hw=>NJ I hI e.ag.length (by omega) w hw);rw[hz]at KT;have apP:=oO 0;clear sH sJ au av vW iq c0 c1 c2 c3 c4 c5 c6 aD hz oO bB i0 i1 i2 vO zH MQ qh Qe SG Vo Bo;obtain⟨c0,c1,c2,c3,c4,c5,c6⟩:=ny.O;go_wp2_with fail
 refine(KT.O _ df).mono ?_;rintro e6 w6 ⟨rfl,gp⟩;have Qk:=NH Qj.O gp;have lg:Ok I w6:=df.below (Qn _) gp;have zB:=Qh (ny.O.aA gp);have jM:=bT.trans (gp.mono bT.size);have Xx:=gp.size;clear gp bT df ny c0 c1 c2 c3 c4 c5 c6 Qj;go_wp2_with fail
 refine(Tryz.Builder_WriteString w1.heap.size w1.heap.size _ _ _ Qk (by rw[ByteArray.size_mk',List.size_toArray];simp[Lib.byteCells];omega) (by omega)).mono ?_;rintro e7 w7 ⟨rfl,KU,jC⟩;have Ql:=Qh (show Lib.IsBuilder 71 5 w1.heap.size w1.heap.size (Lib.byteCells (N++nX e.ag 0)) w7 from .inr (by
  have:=KU;rw[Lib.strCells_toArray,Lib.byteCells,Lib.byteCells,←List.map_append]at this;exact this))
 have oz:=KU.lt;have Di:Below w1.heap.size w6 w7:=jC;have o6:Ok I w7:=lg.of_block fun b c hb=>Di.block b (Nat.lt_of_not_le fun h=>by rw[Jy b h]at hb;cases hb);have xU:=Qh (zB.O.far Di bY);have uu:=jM.trans (Di.mono (Nat.le_of_lt bY));clear Qk KU jC Di jM lg zB KT;obtain⟨c0,c1,c2,c3,c4,c5,c6⟩:=xU.O;have Hv:=Qh eP;clear eP eT;go_wp2_with fail
 clear c0 c1 c2 c3 c4 c5 c6;go_loopw [32] (fun KL wr=> ∃k:Nat,k≤e.ag.length∧KL= .int .i64 k∧Lib.IsBuilder 71 5 w1.heap.size w1.heap.size (Lib.byteCells (N++nX e.ag k)) wr∧Ok I wr∧bn wr w.heap.size e (.slice aa e.ag.length ca) (.slice ax e.ak.length cx)∧Below w.heap.size w wr∧w1.heap.size<wr.heap.size) (fun i _=>e.ag.length-(intOf i).toNat)
 case atStart=>exact⟨0,Nat.zero_le _,rfl,Ql.O,o6,xU.O,uu,oz⟩
 case round=>
  clear Ql xU uu o6 oz Xx jZ;obtain⟨k,hk,rfl,tH,dA,mG,hb,eU⟩:=hrel;have zU:=Qh tH;have l5:=Qh mG;clear tH mG;have nM:=Hl.O k;by_cases hlt:k<e.ag.length
  ·obtain⟨x,b,off,cap',bH,dn,c0,c1⟩:=zL Hv.O dA k hlt;cases dn;have BK:=q9.O x (by rw[←bH];exact List.getElem_mem hlt);have bB:=Qh (Xng hlt bH);have mo:=pY x.k (by omega);have wI:=pY x.v (by omega);have MR:gJ [x.k,x.v]=aS x.k++aS x.v:=by simp[gJ]
   have Hs:=Qh (fun w hv hw=>WV I hI (wr.heap.size+1) 0 2 2 [x.k,x.v] rfl (by simp) (by unfold maxLen;omega) w hv (by rw[MR];simp;omega) hw);have HS:=Qh (show tY ((wr.alloc (.cells #[S x.k,S x.v] 129)).alloc (.cells #[S x.k,S x.v] 9)) (wr.heap.size+1) 0 [x.k,x.v] by
    have:=WU (wr.alloc (.cells #[S x.k,S x.v] 129)) [x.k,x.v] 9;rwa[show(wr.alloc (.cells #[S x.k,S x.v] 129)).heap.size=wr.heap.size+1 by simp]at this)
   rw[MR]at Hs;clear bH MR;generalize aS x.k=p at bB mo Hs;generalize aS x.v=q at bB wI Hs;generalize nX e.ag k=u at bB nM zU;go_wp2_with fail
   refine(Hs.O _ HS.O ((dA.alloc _).alloc _)).mono ?_;rintro e1 w2 ⟨rfl,au⟩;have vW:Below wr.heap.size wr w2:=(((Qb _ _).alloc (Qn _) _).alloc (by simp) _).trans (au.mono (by simp;omega));have sH:=NH zU.O vW;have aD:Ok I w2:=dA.below (Qn _) vW;have iq:=Qh (l5.O.aA vW);have fO:=vW.size;have av:=hb.trans (vW.mono hb.size);clear au vW zU c0 c1 HS Hs;go_wp2_with fail
   refine(Tryz.Builder_WriteString w1.heap.size w1.heap.size _ _ _ sH (by rw[ByteArray.size_mk',List.size_toArray];simp[Lib.byteCells];omega) (by omega)).mono ?_;rintro e2 w3 ⟨rfl,tZ,aF⟩;have wQ:=tZ.lt;have Ec:=Qh (show Lib.IsBuilder 71 5 w1.heap.size w1.heap.size (Lib.byteCells (N++nX e.ag (k+1))) w3 from .inr (by
    have:=tZ;rw[Lib.strCells_toArray,Lib.byteCells,Lib.byteCells,←List.map_append,List.append_assoc,←bB.O]at this;exact this))
   have Di:Below w1.heap.size w2 w3:=aF;have bN:Ok I w3:=aD.of_block fun b c hb=>Di.block b (Nat.lt_of_not_le fun h=>by rw[Jy b h]at hb;cases hb);have ng:=Qh (iq.O.far Di bY);clear sH tZ aD iq aF;go_wp2;go_roundw;case rel=>exact⟨k+1,by omega,by go_num,Ec.O,bN,ng.O,av.trans (Di.mono (Nat.le_of_lt bY)),wQ⟩
   case measure=>simp[intOf];omega
  ·have Hn:=Qh (Xqj e.ag (k:=k) (by omega));rw[Hn.O]at zU nM;have OP:=pY e.target (by omega);have Hnt:=Qh (fun w hw=>NI I hI e.target (by omega) w hw);have Hh:=Qh (show N++Go.Proofs.YtkipnpjagcfcpaaGreatDoor.u7 e.ag++aS e.target=dD e by rw[←HN.O];rfl);generalize aS e.target=q at OP Hnt Hh;generalize Go.Proofs.YtkipnpjagcfcpaaGreatDoor.u7 e.ag=u at zU nM Hh;obtain⟨c0,c1,c2,c3,c4,c5,c6⟩:=l5.O;go_wp2_with fail
   refine(Hnt.O _ dA).mono ?_;rintro e1 w2 ⟨rfl,au⟩;have sH:=NH zU.O au;have fO:=au.size;have av:=hb.trans (au.mono hb.size);clear au zU c0 c1 c2 c3 c4 c5 c6 l5;go_wp2_with fail
   refine(Tryz.Builder_WriteString w1.heap.size w1.heap.size _ _ _ sH (by rw[ByteArray.size_mk',List.size_toArray];simp[Lib.byteCells];omega) (by omega)).mono ?_;rintro e2 w3 ⟨rfl,tZ,aF⟩;have wQ:=tZ.lt;have Ec:=Qh (show Lib.IsBuilder 71 5 w1.heap.size w1.heap.size (Lib.byteCells (dD e)) w3 from .inr (by
    have:=tZ;rw[Lib.strCells_toArray,Lib.byteCells,Lib.byteCells,←List.map_append,Hh.O]at this;exact this))
   have aL:=av.trans (aF.mono (Nat.le_of_lt bY));clear sH tZ aF;go_wp2_with fail
   refine(Tryz.Builder_String_any w1.heap.size w1.heap.size _ _ Ec.O (Nat.le_of_lt wQ)).mono ?_;rintro e3 w4 ⟨rfl,aM⟩;go_wp2;go_ret2;exact⟨rfl,aL.trans (aM.mono (Nat.le_of_lt bY))⟩
def Et:List ae:=[bO 1,bO 2,bO 3,bO 4,bO 5,bO 6]
theorem Xvt(x:ae):Lib.idxOfS (Et.map fun b=>⟨b.toArray⟩) ⟨x.toArray⟩=kindOf x-1:=by
 have key:∀b:ae,((⟨b.toArray⟩:ByteArray)=⟨x.toArray⟩)↔x=b:=fun b=>by
  constructor
  ·intro h;injection h with h;have:=congrArg Array.toList h;simpa using this.symm
  ·intro h;rw[h]
 unfold Lib.idxOfS Et kindOf;simp only[List.map_cons,List.map_nil,Lib.idxFromS,key];repeat' split
 all_goals simp
theorem Xtv(w:World):Calls Tryz.prog 63 #[] w fun e w'=>e= .returned (.slice (some ⟨w.heap.size,0,none⟩) 6 6)∧w'=w.alloc (.cells (Et.map fun s=>S s).toArray 9):=by
 go_enter Tryz.func63,Tryz.ntmps63
 go_wp2;go_ret;exact⟨rfl,rfl⟩
theorem Xod(h:W.heap[k]?=some (.cells (Et.map fun s=>S s).toArray t (0,0))):
 ∀j,j<(Et.map fun b=>(⟨b.toArray⟩:ByteArray)).length→W.cell? ⟨k,0+j,none⟩=some (.string ((Et.map fun b=>(⟨b.toArray⟩:ByteArray)).getD j ByteArray.empty)):=by
 intro j hj;rw[Nat.zero_add,cell_of_row _ k j _ _ _ h];have hj:j<6:=hj;match j,hj with
 |0,_=>rfl
 |1,_=>rfl
 |2,_=>rfl
 |3,_=>rfl
 |4,_=>rfl
 |5,_=>rfl
structure yQ (I:IH) (w:World) (s:ae) (ba n a:Nat) (W:World):Prop where
 mt:lY I w I W
 rb:vC W n s ba
 at_:uh W ba a
 res:W.heap[w.heap.size]?=some (.cells aC 35 (0,0))
 hb:w.heap.size<ba
section
variable {I:IH} {w W W':World} {s:ae} {ba n a b:Nat}
theorem yQ.aA(h:yQ I w s ba n a W)(hb:Below W.heap.size W W'):yQ I w s ba n a W':=
 ⟨h.mt.quiet hb,h.rb.aA hb,jg h.at_ hb,jg h.res hb,h.hb⟩
theorem yQ.past(h:yQ I w s ba n a W)(o:Obj):yQ I w s ba n a (W.alloc o):=h.aA ((Qb _ _).alloc (Qn _) o)
theorem yQ.read(h:yQ I w s ba n a W)(gG:Ok I w)(ha:uh W' ba b)(hg:W.grownBy W' (some ba)):yQ I w s ba n b W':=
 ⟨⟨h.mt.ok.grown hg (fun g q=>by injection q with q;subst q;exact gG.fresh (Nat.le_of_lt h.hb)),h.mt.keep,h.mt.dE.grown hg h.mt.size (fun g q=>by injection q with q;have:=h.hb;omega)⟩,
  h.rb.own hg (fun g q=>by injection q with q;have:=h.rb.lt;omega),ha,iL h.res hg (fun q=>by injection q with q;have:=h.hb;omega),h.hb⟩
end
theorem Xpe{e:TypeId}{f:Nat×Nat}(h:W.heap[k]?=some (.cells c e f))(u:Value):(W.setCell ⟨k,j,none⟩ u).heap[k]?=some (.cells (c.setIfInBounds j u) e f):=by
 simp[World.setCell,Array.getElem?_modify,h]
theorem NV{o:Obj}(h:W.heap[k]?=some o)(bZ:k≠n)(u:Value):(W.setCell ⟨n,j,none⟩ u).heap[k]?=some o:=by
 rw[Below.heap_setCell _ _ _ _ bZ];exact h
theorem yQ.set{s:ae}{a:Nat}(h:yQ I w s ba n a W)(gG:Ok I w)(hn:n+3<ne)(u:Value):yQ I w s ba n a (W.setCell ⟨ne,j,none⟩ u):=
 ⟨⟨h.mt.ok.setCell (gG.fresh (by have:=h.hb;have:=h.rb.lt;show w.heap.size≤ne;omega)) u,h.mt.keep,h.mt.dE.setCell (by have:=h.hb;have:=h.rb.lt;show w.heap.size≤ne;omega) u⟩,
  ⟨NV h.rb.r0 (by omega) u,NV h.rb.r1 (by omega) u,NV h.rb.r2 (by omega) u,NV h.rb.r3 (by omega) u,h.rb.lt⟩,
  NV h.at_ (by have:=h.rb.lt;omega) u,NV h.res (by have:=h.rb.lt;have:=h.hb;omega) u,h.hb⟩
theorem yQ.grown{W':World}{s:ae}{a:Nat}{row:Option Nat}(h:yQ I w s ba n a W)(gG:Ok I w)(hg:W.grownBy W' row)(hr:∀g,row=some g→n+3<g):yQ I w s ba n a W':=by
 have hlt:=h.rb.lt;have OQ:=h.hb
 exact⟨⟨h.mt.ok.grown hg (fun g q=>gG.fresh (by have:=hr g q;omega)),h.mt.keep,h.mt.dE.grown hg h.mt.size (fun g q=>by have:=hr g q;omega)⟩,
  h.rb.own hg (fun g q=> .inr (hr g q)),iL h.at_ hg (fun q=>by have:=hr _ q;omega),iL h.res hg (fun q=>by have:=hr _ q;omega),h.hb⟩
theorem aP.Qm(h:aP T E I w B v l)(hn:v.ownBlock≠some n)(u:Value):aP T E I (w.setCell ⟨n,j,none⟩ u) B v l:=
 h.kept (row:=some n) ⟨rfl,rfl,rfl,by simp[World.setCell],fun k _ hk=>Below.heap_setCell _ _ _ _ (fun q=>hk (by rw[q]))⟩ (.inr hn)
theorem Xpd{ts te:TypeId}{bytes:Nat}(hE:eZ P ts te T bytes){w0:World}(bE:aP T te I w0 B v l)(y:α)(cs:List Value)(tb ty:TypeId)(hy:T.rd I cs y)
 (jd:(l.length+1)*bytes≤140737488355328) (hl:l.length+1≤9223372036854775807) (hB:B≤w0.heap.size):
 ∃v' w',(Builtin.append_ #[ts,ts] ty #[v,.slice (some ⟨w0.heap.size,0,none⟩) 1 1]).run P (w0.alloc (.cells cs.toArray tb))= .ok v' w'∧aP T te I w' B v' (l++[y])∧w0.grownBy w' v.ownBlock:=by
 obtain⟨i,z,h1,h2,h3,h4,h5,h6,h7⟩:=hE;obtain⟨xs,k1,k2⟩:=bE
 obtain⟨v',w',hr,r1,r2,_⟩:=run_append_own (P:=P) (w0.alloc (.cells cs.toArray tb)) B ts ty te i z T.size bytes h1 h2 h3 h4 h5 h6 h7 v l.length xs (k1.alloc _) ⟨w0.heap.size,0,none⟩ 1 1 cs (by rw[T.len hy,Nat.one_mul])
  (fun j u hu=>by rw[Addr.add_lit,Nat.zero_add,World.cell?_alloc_new];simpa using hu) (T.one hy) (by unfold maxLen;omega) jd (by simp;omega)
 exact⟨v',w',hr,⟨xs++cs,by rw[List.length_append];exact r1,k2.append (bS.one hy)⟩,r2.os,r2.tape,r2.output,by have:=r2.size;simp at this;omega,fun k hk bZ=>(r2.block k (by simp;omega) bZ).trans (Below.heap_alloc _ _ _ hk)⟩
theorem Xd3{E:Prop}
 (hg:o.guard=none) (d x:Operand) (dT sT:TypeId) (hop:o.op=Op.call {callee:=Callee.builtin Builtin.append,args:=#[d,x],argTypes:=#[dT,sT]})
 (v u:Value) (hd:a.eval d=v) (hx:a.eval x=u) {v':Value}  (hr:(Builtin.append_ #[dT,sT] o.type #[v,u]).run P w= .ok v' w') (hK:K (a.put o.dst v') w'):
 if Region.wanted o (yielded ops a.tmps)=true then Oper.wp P o a w K Q else E:=by
 have hw:Region.wanted o (yielded ops a.tmps)=true:=by simp[Region.wanted,hg]
 rw[if_pos hw];unfold Oper.wp;simp[execOp,hop,resolve,invoke,builtin,hd,hx,hr,Result.andThen];exact hK
theorem aP.shape(h:aP T E I w B v l):∃ao cap,v= .slice ao l.length cap:=by
 obtain⟨xs,⟨h1,h2⟩,h3⟩:=h;rcases h2 with⟨e1,e2⟩|⟨g,cap,cur,e1,_⟩
 ·exact⟨none,0,by rw[e1,e2]⟩
 ·exact⟨_,cap,e1⟩
theorem Xt3:(Tryz.prog.info? 129).map (fun i=>(i.zero,i.size,i.bytes))=some (some (.agg #[.string ⟨#[]⟩,.string ⟨#[]⟩]),2,32):=by kernel_rfl
theorem Xt4:eZ Tryz.prog 32 129 lT 32:=eZ.of Tryz.underlying32 Xt3 rfl (by decide) rfl
theorem Xg4(x:ae):0≤kindOf x∧kindOf x≤6:=by
 unfold kindOf;repeat' split
 all_goals omega
theorem ent_row(h:W.heap[k]?=some (.cells (aZ e va vx) 35 (0,0))):bn W k e va vx:=
 ⟨(cell_of_row _ _ 0 _ _ _ h).trans rfl,(cell_of_row _ _ 1 _ _ _ h).trans rfl,(cell_of_row _ _ 2 _ _ _ h).trans rfl,(cell_of_row _ _ 3 _ _ _ h).trans rfl,(cell_of_row _ _ 4 _ _ _ h).trans rfl,(cell_of_row _ _ 5 _ _ _ h).trans rfl,(cell_of_row _ _ 6 _ _ _ h).trans rfl⟩
theorem mW(h:i≠j):(s.setIfInBounds i true).getD j false=s.getD j false:=by
 simp[Array.getD_eq_getD_getElem?,Array.getElem?_setIfInBounds,h]
theorem Xiw:∀(l:List (Option Tmp×Value)) (k:Nat) (s:Array Bool) (a:Act),a.defers=[]→(cK l k s a).defers=[]
 | [],_,_,_,h=>h
 |(d,v)::l,k,s,a,h=>by
  refine Xiw l (k+1) s _ ?_;split
  ·cases d<;>exact h
  ·exact h
abbrev Eu(ne:Nat)(va:Value)(ky:ae)(n:Nat):List (Option Tmp×Value):=
 [(some 35,.pointer (some ⟨ne,2,none⟩)),(some 36,va),(some 37,S ky),(some 38,Cc n),(some 39,undef),(some 40,undef),(some 41,undef),(some 42,undef),(some 43,undef),(none,undef)]
theorem NW{ky:ae}:bL (Eu ne va ky n):=by
 unfold bL;simp
def Jz(I:IH)(w:World)(r:Except Int aG)(e:Ending)(w':World):Prop:=
 match r with
 | .ok x=> ∃va J,e= .returned (fB x va (.slice none 0 0))∧bf lT J va x.ag∧Ext w.heap.size I J∧Ok J w'∧Below w.heap.size w w'
 | .error z=>e=vU z∧Below w.heap.size w w'
theorem Xyb(I:IH)(hI:dQ I)(s:ae)(hs:s.length≤4294967280)(w:World)(hw:Ok I w):
 Calls Tryz.prog 167 #[S s] w (Jz I w (eF s)):=by
 have Hr:=Qh (show eF s=Rb (rdStr s 0) fun nm=>if kindOf nm.1=0 then .error 3 else
  Rb (rdStr s nm.2) fun p=>Rb (ik 400 s p.2) fun n=>Rb (jo s n.1.toNat n.2 []) fun l=>Rb (rdStr s l.2) fun t=>
  if t.2≠s.length then .error 3 else .ok (Ea nm.1 p.1 l.1 t.1)from rfl)
 generalize eF s=R at Hr ⊢;have M1:=Qh (show lY I w I ((w.alloc (.cells aC 35)).alloc (.cells #[.int .i64 0] 3))from((lY.start hw).past _).past _);have H0:=Qh (show((w.alloc (.cells aC 35)).alloc (.cells #[.int .i64 0] 3)).heap[w.heap.size]?=some (.cells aC 35 (0,0)) by
  rw[Below.heap_alloc _ _ _ (by simp),heap_alloc_new])
 have H1:=Qh (show uh ((w.alloc (.cells aC 35)).alloc (.cells #[.int .i64 0] 3)) (w.heap.size+1) 0 by
  have:=heap_alloc_new (w.alloc (.cells aC 35)) (.cells #[.int .i64 0] 3);rw[World.size_alloc]at this;exact this)
 have kJ:=Qh (Xmz s (w.heap.size+1) ((w.alloc (.cells aC 35)).alloc (.cells #[.int .i64 0] 3)) (by simp));rw[show((w.alloc (.cells aC 35)).alloc (.cells #[.int .i64 0] 3)).heap.size=w.heap.size+2 by simp]at kJ;go_enter Tryz.func167,Tryz.ntmps167
 go_wp2_with fail
 refine kJ.O.mono ?_;rintro e W2 ⟨rfl,IW,aF,fO⟩
 have K2:=Qh (show yQ I w s (w.heap.size+1) (w.heap.size+2) 0 W2 from
  ⟨M1.O.quiet (aF.mono (by simp)),IW,jg H1.O (aF.mono (by simp)),jg H0.O (aF.mono (by simp)),by omega⟩)
 clear M1 H0 H1 kJ aF IW;go_wp2_with fail
 refine(Xtv _).mono ?_;rintro e W3 ⟨rfl,rfl⟩;have K3:=Qh (K2.O.past (.cells (Et.map fun s=>S s).toArray 9));have H3:=Qh (heap_alloc_new W2 (.cells (Et.map fun s=>S s).toArray 9));clear K2;go_wp2_with fail
 cases h1:rdStr s 0 with
 |error z=>
  rw[h1]at Hr;refine(KH I hI s hs _ _ 0 _ K3.O.mt.ok K3.O.rb K3.O.at_ (by omega) z (zy h1) h1).mono ?_;rintro e w4 ⟨rfl,aM⟩;exact⟨rfl,by rw[Hr.O];exact⟨rfl,(K3.O.aA aM).mt.dE⟩⟩
 |ok q=>
 obtain⟨nm,a1⟩:=q;rw[h1,aR]at Hr;have xL:=(BZ h1).2.1;refine(KG I hI s hs _ _ 0 _ K3.O.mt.ok K3.O.rb K3.O.at_ (by omega) nm a1 h1).mono ?_;rintro e W4 ⟨rfl,FZ,I6⟩;have K4:=Qh (K3.O.read hw FZ I6);have H4:=iL H3.O I6 (fun q=>by injection q with q;omega);have I7:=(Qg H4);rw[fO]at H4;have I7:w.heap.size+6<W4.heap.size:=by omega
 have wY:=Qh (Tryz.slices_Index_string (w.heap.size+2+4) 0 6 6 (Et.map fun b=>⟨b.toArray⟩) ⟨nm.toArray⟩ W4 (by decide) (by decide) (Xod H4));rw[show(Et.map fun b=>(⟨b.toArray⟩:ByteArray)).take 6=Et.map fun b=>⟨b.toArray⟩from rfl,Xvt]at wY;clear h1 K3 H3 H4 FZ I6;go_wp2_with fail
 refine wY.O.mono ?_;rintro e w4 ⟨rfl,rfl⟩;have hkr:=Xg4 nm;by_cases rM:kindOf nm=0
 ·try dsimp only at Hr
  rw[if_pos rM]at Hr;have d1:decide (kindOf nm-1<0)=true:=Qt (by omega);clear rM hkr wY;go_wp2;exact⟨rfl,by rw[Hr.O];exact⟨rfl,K4.O.mt.dE⟩⟩
 try dsimp only at Hr
 rw[if_neg rM]at Hr;have d1:decide (kindOf nm-1<0)=false:=Qf (by omega);have i1:IntKind.i64.wrap (kindOf nm-1+1)=kindOf nm:=by rw[IntWalk.i64_in _ (by omega)];omega
 clear wY rM;obtain⟨K,hK⟩:∃K,kindOf nm=K:=⟨_,rfl⟩;rw[hK]at d1 i1 hkr;have HKn:=Qh hK;rw[hK];clear hK;go_wp2_with fail
 cases h2:rdStr s a1 with
 |error z=>
  rw[h2]at Hr;refine(KH I hI s hs _ _ a1 _ K4.O.mt.ok K4.O.rb K4.O.at_ (by omega) z (zy h2) h2).mono ?_;rintro e w5 ⟨rfl,bq⟩;exact⟨rfl,by rw[Hr.O];exact⟨rfl,(K4.O.aA bq).mt.dE⟩⟩
 |ok q=>
 obtain⟨pa,a2⟩:=q;rw[h2,aR]at Hr;try dsimp only at Hr
 have uP:=(BZ h2).2.1;refine(KG I hI s hs _ _ a1 _ K4.O.mt.ok K4.O.rb K4.O.at_ (by omega) pa a2 h2).mono ?_;rintro e W5 ⟨rfl,Qo,hg5⟩;have K5:=Qh (K4.O.read hw Qo hg5);have hl5:w.heap.size+6<W5.heap.size:=Nat.lt_of_lt_of_le I7 hg5.size;have K6:=Qh (K5.O.past (.cells (aZ ⟨K,pa,[],[],0,[],[]⟩ (.slice none 0 0) (.slice none 0 0)) 35));have E6:=Qh (heap_alloc_new W5 (.cells (aZ ⟨K,pa,[],[],0,[],[]⟩ (.slice none 0 0) (.slice none 0 0)) 35));clear h2 K4 K5 Qo hg5 I7 i1 d1;go_wp2_with fail
 cases h3:ik 400 s a2 with
 |error z=>
  rw[h3]at Hr;refine(Xg8 I hI s hs _ _ a2 _ K6.O.mt.ok K6.O.rb K6.O.at_ (by omega) 400 z h3).mono ?_;rintro e w6 ⟨rfl,tC⟩;exact⟨rfl,by rw[Hr.O];exact⟨rfl,K6.O.mt.dE.grown tC K6.O.mt.size (fun g q=>by injection q with q;omega)⟩⟩
 |ok q=>
 obtain⟨N,a3⟩:=q;rw[h3,aR]at Hr;try dsimp only at Hr
 have hN:=TS h3;refine(Xi1 I hI s hs _ _ a2 _ K6.O.mt.ok K6.O.rb K6.O.at_ (by omega) 400 N a3 h3).mono ?_;rintro e W7 ⟨rfl,Uh,j5⟩;have K7:=Qh (K6.O.read hw Uh j5);have E7:=Qh (iL E6.O j5 (fun q=>by injection q with q;omega));have Ui:W5.heap.size+1≤W7.heap.size:=by have:=j5.size;simpa using this
 have O7:=Qh (aP.nil lT 129 I W7 (W5.heap.size+1));obtain⟨m,rfl⟩:∃m:Nat,N=(m:Int):=⟨N.toNat,by omega⟩;rw[Int.toNat_natCast]at Hr;obtain⟨L,hL⟩:∃L,jo s m a3 []=L:=⟨_,rfl⟩;rw[hL]at Hr;have HL:=Qh hL;have hm:m≤400:=by omega
 have Da:=hN.2.1;clear h3 hN K6 E6 Uh j5 hL;generalize W5.heap.size=ne at*;go_wp2_with fail
 go_loopw [9,31] (fun s9 Xg wr=> ∃(k a:Nat) (acc:List At) (va:Value),k≤m∧Xg= .int .i64 k∧acc.length=k∧a≤s.length∧yQ I w s (w.heap.size+1) (w.heap.size+2) a wr∧wr.heap[ne]?=some (.cells (aZ ⟨K,pa,[],[],0,[],[]⟩ va (.slice none 0 0)) 35 (0,0))∧aP lT 129 I wr (ne+1) va acc∧ne+1≤wr.heap.size∧jo s (m-k) a acc=L) (fun _ i _=>m-(intOf i).toNat)
 case atStart=>exact⟨0,a3,[],_,Nat.zero_le _,rfl,rfl,Da,K7.O,E7.O,O7.O,Ui,HL.O⟩
 case round=>
  clear K7 E7 O7 HL Ui Da;obtain⟨k,a,acc,va,hk,rfl,CP,ha,hK,hE,hO,bZ,MS⟩:=hrel;have HK:=Qh hK;have HE:=Qh hE;have HO:=Qh hO;have kJ:=Qh MS;have vG:=Qh CP;clear hK hE hO MS CP;by_cases hlt:k<m
  ·go_wp2_with fail
   rw[show m-k=m-(k+1)+1 by omega,jo]at kJ;cases h4:rdStr s a with
   |error z=>
    rw[h4]at kJ;refine(KH I hI s hs _ _ a _ HK.O.mt.ok HK.O.rb HK.O.at_ (by omega) z (zy h4) h4).mono ?_;rintro e w5 ⟨rfl,bq⟩;exact⟨rfl,by rw[Hr.O,←kJ.O];exact⟨rfl,(HK.O.aA bq).mt.dE⟩⟩
   |ok q=>
   obtain⟨ky,a4⟩:=q;rw[h4,aR]at kJ;try dsimp only at kJ
   have FZ:=(BZ h4).2.1;refine(KG I hI s hs _ _ a _ HK.O.mt.ok HK.O.rb HK.O.at_ (by omega) ky a4 h4).mono ?_;rintro e W8 ⟨rfl,Qp,uq⟩;have K8:=Qh (HK.O.read hw Qp uq);have E8:=Qh (iL HE.O uq (fun q=>by injection q with q;omega));have O8:=Qh (HO.O.kept uq (.inr (HO.O.dx (by omega))));have Ev:=Nat.le_trans bZ uq.size;clear h4 HK HE HO Qp uq;have cA:=(ent_row E8.O).c2;go_wp2_with fail
   cases h5:rdStr s a4 with
   |error z=>
    rw[h5]at kJ;have KV:=Qh (fun(W:World) (h1:Ok I W) (h2:vC W (w.heap.size+2) s (w.heap.size+1)) (h3:uh W (w.heap.size+1) a4)=>KH I hI s hs _ _ a4 W h1 h2 h3 (by omega) z (zy h5) h5);refine uW (X:=Unit) (fun _=>Eu ne va ky (w.heap.size+2)) (fun _ s w'=>s.getD 4 false=false∧Below W8.heap.size W8 w') (by kernel_rfl) (by kernel_rfl) ⟨(),by simp,(Qb _ _).drew⟩ ?_ ?_
    ·rintro⟨⟩ s9 a' w' i eU gI ha ⟨xV,dH⟩ hi;obtain⟨aV,oi,eX,aB⟩:=mem_ready.1 hi;have Xy:=dh dH cA;rcases i with _|_|_|_|_|_|_|_|_|_|i
     rotate_left 10
     ·simp at eX
     all_goals
      have fZ:=eX;simp at eX;subst eX;simp[Region.binds]at aB
     ·have e8:a'.tmps[8]?.getD undef=dG ne:=qU ha (by simp[Eu]);refine wpOp_step fZ (fun K' hK=> ?_);rw[if_pos (by rfl)];unfold Oper.wp;simp[go_sem,e8,Oper.upon];exact hK _ _ ⟨(),j6 (d:=some 35) (v:= .pointer (some ⟨ne,2,none⟩)) NW ha rfl aV,by rw[mW (by decide)];exact xV,dH⟩
     ·have e35:a'.tmps[35]?.getD undef= .pointer (some ⟨ne,2,none⟩):=oq (i:=0) NW ha rfl (by simpa using aB) (by simp);refine wpOp_step fZ (fun K' hK=> ?_);rw[if_pos (by rfl)];unfold Oper.wp;simp[go_sem,e35,Xy,Oper.upon];exact hK _ _ ⟨(),j6 (d:=some 36) (v:=va) NW ha rfl aV,by rw[mW (by decide)];exact xV,dH⟩
     ·have e9:a'.tmps[9]?.getD undef=S ky:=qU ha (by simp[Eu]);refine wpOp_step fZ (fun K' hK=> ?_);rw[if_pos (by rfl)];unfold Oper.wp;simp[go_sem,e9,Oper.upon];exact hK _ _ ⟨(),j6 (d:=some 37) (v:=S ky) NW ha rfl aV,by rw[mW (by decide)];exact xV,dH⟩
     ·have e5:a'.tmps[5]?.getD undef=Cc (w.heap.size+2):=qU ha (by simp[Eu]);refine wpOp_step fZ (fun K' hK=> ?_);rw[if_pos (by rfl)];unfold Oper.wp;simp[go_sem,e5,Oper.upon];exact hK _ _ ⟨(),j6 (d:=some 38) (v:=Cc (w.heap.size+2)) NW ha rfl aV,by rw[mW (by decide)];exact xV,dH⟩
     ·have e38:a'.tmps[38]?.getD undef=Cc (w.heap.size+2):=oq (i:=3) NW ha rfl (by simpa using aB) (by simp);have Kw:=K8.O.aA dH;refine wpOp_step fZ (fun K' hK=> ?_);rw[if_pos (by rfl)];unfold Oper.wp;simp[go_sem,e38,Oper.upon];refine(KV.O w' Kw.mt.ok Kw.rb Kw.at_).mono ?_;rintro r9 w9 ⟨rfl,ig⟩;have je:Jz I w R (vU z) w9:=by rw[Hr.O,←kJ.O];exact⟨rfl,(Kw.aA ig).mt.dE⟩
      exact⟨by rw[ha];exact Xiw _ _ _ _ rfl,je⟩
     all_goals
      have h4':s9[4]?.getD false=false:=by simpa using xV
      have h5':s9[5]?.getD false=false:=by
       cases h5:s9[5]?.getD false with
       |false=>rfl
       |true=>
        have h6:=PO gI [4] 5 4 (by kernel_rfl) (by rfl) (by simpa using h5);rw[xV]at h6;cases h6
      simp[h4',h5']at aB
    ·rintro⟨⟩ s9 a' w' gH ha ⟨xV,dH⟩;have:=gH 4 (by decide);rw[xV]at this;cases this
   |ok q=>
   obtain⟨vl,a5⟩:=q;rw[h5,aR]at kJ;try dsimp only at kJ
   have Qo:=(BZ h5).2.1;have KV:=Qh (fun(W:World) (h1:Ok I W) (h2:vC W (w.heap.size+2) s (w.heap.size+1)) (h3:uh W (w.heap.size+1) a4)=>KG I hI s hs _ _ a4 W h1 h2 h3 (by omega) vl a5 h5);have Q1:Ok I W8.drew:=K8.O.mt.ok;have Q2:vC W8.drew (w.heap.size+2) s (w.heap.size+1):=⟨K8.O.rb.r0,K8.O.rb.r1,K8.O.rb.r2,K8.O.rb.r3,K8.O.rb.lt⟩;have Q3:uh W8.drew (w.heap.size+1) a4:=K8.O.at_
   go_region_law (first
                  |(refine Xd3 rfl _ _ 32 32 rfl _ _ (by simp[Act.eval,Act.put]) (by simp[Act.eval,Act.put]) qG ?_)
                  |(go_simp
                    go_at_call 235
                    refine(KV.O _ Q1 Q2 Q3).mono ?_;rintro e w9 ⟨rfl,Xz,uy⟩;have eQ:W8.grownBy w9 (some (w.heap.size+1)):=⟨uy.os,uy.tape,uy.output,uy.size,uy.block⟩;have K9:=Qh (K8.O.read hw Xz eQ);have E9:=Qh (iL E8.O eQ (fun q=>by injection q with q;omega));have O9:=Qh (O8.O.kept eQ (.inr (O8.O.dx (by omega))));have Ci:=Nat.le_trans Ev eQ.size;obtain⟨v10,Dj,qG,xn,jN⟩:=Xpd Xt4 O9.O ⟨ky,vl⟩ [S ky,S vl] 129 32 rfl (by rw[vG.O];omega) (by rw[vG.O];omega) Ci;obtain⟨KW,KX,rfl⟩:=xn.shape;rw[List.length_append]at xn;have XA:=(ent_row E9.O).c2;have cB9:=fP (.cells #[S ky,S vl] 129) XA;have KY:=Qh (iL E9.O jN (O9.O.dx (by omega)));have XC:=(ent_row KY.O).c2;have XD:Dj.frozen? ⟨ne,2,none⟩=false:=by unfold World.frozen?;rw[KY.O];rfl))
   all_goals
    go_wp2;go_roundw;case rel=>exact⟨k+1,a5,acc++[⟨ky,vl⟩],.slice KW (acc.length+1) KX,by omega,by go_num,by rw[List.length_append,vG.O];rfl,Qo,(K9.O.grown hw jN (fun g q=>by have:=O9.O.qZ q;omega)).set hw (by omega) _,Xpe KY.O _,xn.Qm (n:=ne) (xn.dx (by omega)) _,by simpa[World.setCell]using Nat.le_trans Ci jN.size,by rw[←kJ.O]⟩
    case measure=>simp[intOf];omega
  ·have he:k=m:=by omega
   subst he;rw[Nat.sub_self,jo]at kJ;have zZ:=Qh (show R=Rb (rdStr s a) fun t=>if t.2≠s.length then .error 3 else .ok (Ea nm pa acc t.1) by rw[Hr.O,←kJ.O];rfl);have nM:=vG.O;clear Hr kJ vG hk hlt;go_wp2_with fail
   cases h6:rdStr s a with
   |error z=>
    rw[h6]at zZ;refine(KH I hI s hs _ _ a _ HK.O.mt.ok HK.O.rb HK.O.at_ (by omega) z (zy h6) h6).mono ?_;rintro e w8 ⟨rfl,oN⟩;exact⟨rfl,by rw[zZ.O];exact⟨rfl,(HK.O.aA oN).mt.dE⟩⟩
   |ok q=>
   obtain⟨tg,a6⟩:=q;rw[h6,aR]at zZ;try dsimp only at zZ
   have ha6:=(BZ h6).2.1;refine(KG I hI s hs _ _ a _ HK.O.mt.ok HK.O.rb HK.O.at_ (by omega) tg a6 h6).mono ?_;rintro e W8 ⟨rfl,Qp,uq⟩;have K8:=Qh (HK.O.read hw Qp uq);have E8:=Qh (iL HE.O uq (fun q=>by injection q with q;omega));have O8:=Qh (HO.O.kept uq (.inr (HO.O.dx (by omega))));have Ev:=Nat.le_trans bZ uq.size;obtain⟨Ia,Ib,rfl⟩:=O8.O.shape;have FQ:(Tryz.prog.info? 9).map (·.size)=some 1:=by kernel_rfl
   have Cg:(Tryz.prog.info? 35).map (·.size)=some 7:=by kernel_rfl
   clear h6 HK HE HO Qp uq;by_cases CL:a6=s.length
   ·rw[if_neg (by simpa using CL)]at zZ;have k1:((a6:Int) !=(s.length:Int))=false:=by rw[CL];simp
    clear CL
    go_wp2_with (first
                 |(refine nO rfl rfl 9 _ _ rfl ne 3 [S tg] (S tg) (by simp[Act.eval]) (by simp[Act.eval]) (by rfl) _ 35 E8.O (by simp) FQ (by simp[Value.oneCell']) (aZ ⟨K,pa,[],tg,0,[],[]⟩ (.slice Ia acc.length Ib) (.slice none 0 0)) (by rfl) ?_
                   intro W9 eQ Dk;have K9:=Qh (K8.O.grown hw eQ (fun g q=>by injection q with q;omega));have O9:=Qh (O8.O.kept eQ (.inr (O8.O.dx (by omega))));have R9:=Qh Dk;have Ci:=Nat.le_trans Ev eQ.size;have cAt:=cell0 K9.O.at_)
                 |(refine wpList_load_row rfl 35 _ rfl ne rfl 35 _ (0,0) _ R9.O Tryz.underlying35 rfl Cg ?_)
                 |(refine nO rfl rfl 35 _ _ rfl w.heap.size 0 (aZ ⟨K,pa,[],tg,0,[],[]⟩ (.slice Ia acc.length Ib) (.slice none 0 0)).toList (.agg (aZ ⟨K,pa,[],tg,0,[],[]⟩ (.slice Ia acc.length Ib) (.slice none 0 0))) (by simp[Act.eval,Act.put]) (by simp[Act.eval,Act.put]) (by rfl) aC 35 K9.O.res (by simp) Cg (by simp[Value.oneCell']) (aZ ⟨K,pa,[],tg,0,[],[]⟩ (.slice Ia acc.length Ib) (.slice none 0 0)) (by rfl) ?_
                   intro KZ jN qG))
    have La:=O9.O.kept jN (.inr (O9.O.dx (by omega)));have Qq:Ok I KZ:=K9.O.mt.ok.grown jN (fun g q=>by injection q with q;subst q;exact hw.fresh (Qn _));have rC:Below w.heap.size w KZ:=K9.O.mt.dE.grown jN K9.O.mt.size (fun g q=>by injection q with q;omega);obtain⟨J,hx,vH,MS,_⟩:=La.freeze Qq (fun b hb=>hw.fresh (by omega));refine bodyPost_ret (results_cell_row rfl _ _ w.heap.size _ (aZ ⟨K,pa,[],tg,0,[],[]⟩ (.slice Ia acc.length Ib) (.slice none 0 0)) (0,0) _ rfl qG Tryz.underlying35 rfl Cg) rfl ?_;rw[zZ.O];exact⟨_,J,by unfold Ea;rw[HKn.O],MS,hx.mono (by omega),vH,rC⟩
   ·rw[if_pos CL]at zZ;have k1:((a6:Int) !=(s.length:Int))=true:=by
     have:(a6:Int)≠(s.length:Int):=by omega
     simpa using this
    clear CL
    go_wp2_with (refine nO rfl rfl 9 _ _ rfl ne 3 [S tg] (S tg) (by simp[Act.eval]) (by simp[Act.eval]) (by rfl) _ 35 E8.O (by simp) FQ (by simp[Value.oneCell']) (aZ ⟨K,pa,[],tg,0,[],[]⟩ (.slice Ia acc.length Ib) (.slice none 0 0)) (by rfl) ?_
                 intro W9 eQ Dk;have K9:=Qh (K8.O.grown hw eQ (fun g q=>by injection q with q;omega));have cAt:=cell0 K9.O.at_)
    exact⟨rfl,by rw[zZ.O];exact⟨rfl,K9.O.mt.dE⟩⟩
theorem Xua(x y z v:Value): #[x,y,z]++((Array.replicate 17 undef).setIfInBounds 3 v).setIfInBounds 0 v=
 #[x,y,z,v,undef,undef,v,undef,undef,undef,undef,undef,undef,undef,undef,undef,undef,undef,undef,undef]:=by
 apply Array.toList_inj.1;simp[List.replicate]
theorem Xub(v:Value)(xT:TypeId)(w:World):(Instr.typeAssert (.iface 210 v) xT 210 true).run Tryz.prog w= .ok (.tuple #[v,.bool true]) w:=by
 have hu:=Tryz.underlying210;simp[Instr.typeAssert,run_underlying hu,go_sem]
theorem Xye(b1 b2 b3:Nat)(w:World):
 CallsD Tryz.prog 165 #[dG b1,dG b2,dG b3] .returning w fun e u' w'=>e= .returned (.tuple #[])∧u'= .returning∧w'=w:=by
 refine callsD_of_wpS Tryz.func165 rfl fun c₀ cs hu=> ?_;apply wpS_seq;apply wpS_region;simp[wpOpsS,go_sem,recoverD,hu,Tryz.ntmps165,Exit.thenS];rw[Xua];refine wpS_of_wp ?_;go_wp2;refine⟨rfl,.returning,?_,.tuple #[],results_none rfl _ _ _,rfl,rfl,rfl⟩;cases c₀;simp_all
abbrev NY(n:Nat)(x:Int):List (Option Tmp×Value):=
 [(some 17,.agg aC),(some 18,dG n),(some 19,.int .i64 x),(none,undef),(none,undef),(none,undef)]
theorem Ic{x:Int}:bL (NY n x):=by
 unfold bL;simp
def Bk(b:Nat)(n:Nat)(t:TypeId)(c:Array Value)(i:Nat)(s:Array Bool)(W:World):Prop:=
 ∃d,d.size=n∧W.heap[b]?=some (.cells d t (0,0))∧(s.getD i false=true→d=c)
section
variable {b n i:Nat} {t:TypeId} {c:Array Value} {s:Array Bool} {W W':World}
theorem Bk.up(h:Bk b n t c i s W)(hj:j≠i):Bk b n t c i (s.setIfInBounds j true) W:=by
 obtain⟨d,h1,h2,h3⟩:=h;exact⟨d,h1,h2,fun q=>h3 (by rw[←mW hj];exact q)⟩
theorem Bk.own(h:Bk b n t c i s W)(hg:W.grownBy W' (some g))(bZ:b≠g):Bk b n t c i s W':=by
 obtain⟨d,h1,h2,h3⟩:=h;exact⟨d,h1,iL h2 hg (fun q=>bZ (by injection q with q;exact q.symm)),h3⟩
theorem Bk.done(h:W.heap[b]?=some (.cells c t (0,0)))(hn:c.size=n):Bk b n t c i s W:=⟨c,hn,h,fun _=>rfl⟩
end
theorem NZ(ty:TypeId)(x y:Operand)(hd:o.dst=none)(ho:o.op= .store ty x y)
  {tt:TypeId}   (cs:List Value) (v:Value) (hx:a.eval x=dG g) (hy:a.eval y=v) (hv:v.cells=cs.toArray) (iU:c=cs.toArray) (hn:cs.length=n)
 (hb:Bk g n tt c i s w) (hi:(P.info? ty).map (·.size)=some n) (h1:∀v∈cs,v.oneCell'=true)
 (h:∀w',w.grownBy w' (some g)→w'.heap[g]?=some (.cells c tt (0,0))→K a w'):Oper.wp P o a w K Q:=by
 obtain⟨d,e1,e2,_⟩:=hb;subst hn;refine GZ ty x y ho g 0 cs v hx hy hv d tt e2 (by omega) hi h1 ?_;rw[hd];refine h _ BP ?_;rw[setRow_heap w g d _ tt (0,0) e2];congr 2;subst iU;apply Array.toList_inj.1;simp[over,e1]
theorem Xtm:(Tryz.prog.info? 210).map (·.size)=some 1:=by kernel_rfl
theorem Xyf(b1 b2 b3:Nat)(v2 v3:Value)(y:aG)(va vx:Value)(x:Int)(older:List PanicEntry)(w:World)(h1:w.heap[b1]?=some (.cells (aZ y va vx) 35 (0,0)))(h2:w.heap[b2]?=some (.cells #[v2] 3 (0,0)))(h3:w.heap[b3]?=some (.cells #[v3] 36 (0,0)))
 (h12:b1≠b2) (h13:b1≠b3) (h23:b2≠b3):
 CallsD Tryz.prog 165 #[dG b1,dG b2,dG b3] (.panicking ({v:=ug x,recovered:=false}::older)) w fun e u' w'=>
  e= .returned (.tuple #[])∧u'= .panicking ({v:=ug x,recovered:=true}::older)∧w'.heap[b1]?=some (.cells aC 35 (0,0))∧w'.heap[b2]?=some (.cells #[.int .i64 0] 3 (0,0))∧w'.heap[b3]?=some (.cells #[.int .i64 x] 36 (0,0))∧
   ∀B,B≤b1→B≤b2→B≤b3→B≤w.heap.size→Below B w w':=by
 refine callsD_of_wpS Tryz.func165 rfl fun c₀ cs hu=> ?_;apply wpS_seq;apply wpS_region;simp[wpOpsS,go_sem,recoverD,hu,Tryz.ntmps165,Exit.thenS];rw[Xua];refine wpS_of_wp ?_;have hta:=Xub (.agg #[.int .i64 x]) 20;have x8:=(Qg h1);have Dx:=(Qg h2);have SH:=(Qg h3);have R1:=Qh (show(w.alloc (.cells #[.int .i64 x] 210)).drew.heap[b1]?=some (.cells (aZ y va vx) 35 (0,0))from(Below.heap_alloc w _ b1 x8).trans h1);have R2:=Qh (show(w.alloc (.cells #[.int .i64 x] 210)).drew.heap[b2]?=some (.cells #[v2] 3 (0,0))from(Below.heap_alloc w _ b2 Dx).trans h2);have R3:=Qh (show(w.alloc (.cells #[.int .i64 x] 210)).drew.heap[b3]?=some (.cells #[v3] 36 (0,0))from(Below.heap_alloc w _ b3 SH).trans h3);have R0:=Qh (show(w.alloc (.cells #[.int .i64 x] 210)).drew.heap[w.heap.size]?=some (.cells #[.int .i64 x] 210 (0,0))from heap_alloc_new w _);have Cg:(Tryz.prog.info? 35).map (·.size)=some 7:=by kernel_rfl
 have FQ:(Tryz.prog.info? 36).map (·.size)=some 1:=by kernel_rfl
 have Hif:=Xtm;clear h1 h2 h3;go_wp2
 refine uW (X:=Unit) (fun _=>NY w.heap.size x) (fun _ s W=>Bk b1 7 35 aC 3 s W∧Bk b2 1 3 #[.int .i64 0] 4 s W∧Bk b3 1 36 #[.int .i64 x] 5 s W∧W.heap[w.heap.size]?=some (.cells #[.int .i64 x] 210 (0,0))∧
  ∀B,B≤b1→B≤b2→B≤b3→B≤w.heap.size→Below B w W) (by kernel_rfl) (by kernel_rfl) ?_ ?_ ?_
 ·exact⟨(),⟨_,by simp,R1.O,by simp⟩,⟨_,by simp,R2.O,by simp⟩,⟨_,by simp,R3.O,by simp⟩,R0.O,fun B _ _ _ h4=>((Qb _ _).alloc h4 _).drew⟩
 ·rintro⟨⟩ s a' W i eU gI ha ⟨k1,k2,k3,k0,kb⟩ hi;obtain⟨aV,oi,eX,aB⟩:=mem_ready.1 hi;rcases i with _|_|_|_|_|_|i
  rotate_left 6
  ·simp at eX
  all_goals
   have fZ:=eX;simp at eX;subst eX;simp[Region.binds]at aB
  ·refine wpOp_step fZ (fun K' hK=> ?_);rw[if_pos (by rfl)];unfold Oper.wp;simp[go_sem,Oper.upon];exact hK _ _ ⟨(),j6 (d:=some 17) (v:= .agg aC) Ic ha rfl aV,k1.up (by decide),k2.up (by decide),k3.up (by decide),k0,kb⟩
  ·have e4:a'.tmps[4]?.getD undef=dG w.heap.size:=qU ha (by simp[NY]);refine wpOp_step fZ (fun K' hK=> ?_);rw[if_pos (by rfl)];unfold Oper.wp;simp[go_sem,e4,Oper.upon];exact hK _ _ ⟨(),j6 (d:=some 18) (v:=dG w.heap.size) Ic ha rfl aV,k1.up (by decide),k2.up (by decide),k3.up (by decide),k0,kb⟩
  ·have e18:a'.tmps[18]?.getD undef=dG w.heap.size:=oq (i:=1) Ic ha rfl (by simpa using aB) (by simp);have c0:=cell0 k0;refine wpOp_step fZ (fun K' hK=> ?_);rw[if_pos (by rfl)];unfold Oper.wp;simp[go_sem,e18,c0,Oper.upon];exact hK _ _ ⟨(),j6 (d:=some 19) (v:= .int .i64 x) Ic ha rfl aV,k1.up (by decide),k2.up (by decide),k3.up (by decide),k0,kb⟩
  ·have e0:a'.tmps[0]?.getD undef=dG b1:=qU ha (by simp[NY]);have e17:a'.tmps[17]?.getD undef= .agg aC:=oq (i:=0) Ic ha rfl (by simpa using aB) (by simp);refine wpOp_step fZ (fun K' hK=> ?_);rw[if_pos (by rfl)];refine NZ 35 _ _ rfl rfl aC.toList (.agg aC) (by simpa[Act.eval]using e0) (by simpa[Act.eval]using e17) (by rfl) (by rfl) (by rfl) k1 Cg (by simp[Value.oneCell']) ?_;intro W' hg hr;exact hK _ _ ⟨(),j6 (d:=none) (v:=undef) Ic ha rfl aV,.done hr (by rfl),(k2.own hg (Ne.symm h12)).up (by decide),(k3.own hg (Ne.symm h13)).up (by decide),iL k0 hg (fun q=>by injection q with q;omega),fun B h1 h2 h3 h4=>(kb B h1 h2 h3 h4).grown hg (Nat.le_trans h4 (kb B h1 h2 h3 h4).size) (fun g q=>by injection q with q;omega)⟩
  ·have e1:a'.tmps[1]?.getD undef=dG b2:=qU ha (by simp[NY]);refine wpOp_step fZ (fun K' hK=> ?_);rw[if_pos (by rfl)];refine NZ 3 _ _ rfl rfl [.int .i64 0] (.int .i64 0) (by simpa[Act.eval]using e1) (by rfl) (by rfl) (by rfl) (by rfl) k2 FW (by simp[Value.oneCell']) ?_;intro W' hg hr;exact hK _ _ ⟨(),j6 (d:=none) (v:=undef) Ic ha rfl aV,(k1.own hg h12).up (by decide),.done hr (by rfl),(k3.own hg (Ne.symm h23)).up (by decide),iL k0 hg (fun q=>by injection q with q;omega),fun B h1 h2 h3 h4=>(kb B h1 h2 h3 h4).grown hg (Nat.le_trans h4 (kb B h1 h2 h3 h4).size) (fun g q=>by injection q with q;omega)⟩
  ·have e2:a'.tmps[2]?.getD undef=dG b3:=qU ha (by simp[NY]);have e19:a'.tmps[19]?.getD undef= .int .i64 x:=oq (i:=2) Ic ha rfl (by simpa using aB.1) (by simp);refine wpOp_step fZ (fun K' hK=> ?_);rw[if_pos (by rfl)];refine NZ 36 _ _ rfl rfl [.int .i64 x] (.int .i64 x) (by simpa[Act.eval]using e2) (by simpa[Act.eval]using e19) (by rfl) (by rfl) (by rfl) k3 FQ (by simp[Value.oneCell']) ?_;intro W' hg hr;exact hK _ _ ⟨(),j6 (d:=none) (v:=undef) Ic ha rfl aV,(k1.own hg h13).up (by decide),(k2.own hg h23).up (by decide),.done hr (by rfl),iL k0 hg (fun q=>by injection q with q;omega),fun B h1 h2 h3 h4=>(kb B h1 h2 h3 h4).grown hg (Nat.le_trans h4 (kb B h1 h2 h3 h4).size) (fun g q=>by injection q with q;omega)⟩
 ·rintro⟨⟩ s a' W gH ha ⟨⟨d1,_,r1,q1⟩,⟨d2,_,r2,q2⟩,⟨d3,_,r3,q3⟩,k0,kb⟩;have u1:=q1 (gH 3 (by decide));have u2:=q2 (gH 4 (by decide));have u3:=q3 (gH 5 (by decide));subst u1 u2 u3;rw[vB _ _ _ _ (fun k hk=>by rw[Nat.zero_add];exact gH k (by simpa using hk))]at ha;simp only[dZ,Act.put]at ha;subst ha;go_wp2;refine⟨rfl,.panicking ({v:=ug x,recovered:=true}::older),?_,.tuple #[],results_none rfl _ _ _,rfl,rfl,r1,r2,r3,kb⟩;cases c₀;simp_all
theorem Xl0:∀(s:ae) (n a:Nat) (acc l:List At) (b:Nat),jo s n a acc= .ok (l,b)→(∀x∈acc,x.k.length≤s.length∧x.v.length≤s.length)→l.length=acc.length+n∧ ∀x∈l,x.k.length≤s.length∧x.v.length≤s.length
 |s,0,a,acc,l,b,h,ha=>by
  rw[jo]at h;injection h with h
  injection h with h1 h2
  subst h1;exact⟨rfl,ha⟩
 |s,n+1,a,acc,l,b,h,ha=>by
  rw[jo]at h;cases h1:rdStr s a with
  |error e=>rw[h1]at h;cases h
  |ok p=>
   rw[h1,aR]at h;cases h2:rdStr s p.2 with
   |error e=>rw[h2]at h;cases h
   |ok q=>
    rw[h2,aR]at h;have:=Xl0 s n q.2 _ l b h (fun x hx=>by
     rcases List.mem_append.1 hx with hx|hx
     ·exact ha x hx
     ·rw[List.mem_singleton.1 hx];exact⟨Nat.le_of_lt (BZ (x:=p.1) (n:=p.2) h1).2.2,Nat.le_of_lt (BZ (x:=q.1) (n:=q.2) h2).2.2⟩)
    refine⟨?_,this.2⟩;rw[this.1,List.length_append];simp;omega
structure Qr (s:ae) (e:aG):Prop where
 kd:0≤e.ai∧e.ai≤6
 pa:e.af.length≤s.length
 tg:e.target.length≤s.length
 al:e.ag.length≤400
 at_:∀x∈e.ag,x.k.length≤s.length∧x.v.length≤s.length
 sz:e.size=0
 dg:e.aj=[]
 xs:e.ak=[]
theorem Xsi{s:ae}(h:eF s= .ok e):Qr s e:=by
 unfold eF at h;cases h1:rdStr s 0 with
 |error z=>rw[h1]at h;cases h
 |ok p=>
  rw[h1,aR]at h;split at h
  ·cases h
  ·cases h2:rdStr s p.2 with
   |error z=>rw[h2]at h;cases h
   |ok q=>
    rw[h2,aR]at h;cases h3:ik 400 s q.2 with
    |error z=>rw[h3]at h;cases h
    |ok n=>
     rw[h3,aR]at h;cases h4:jo s n.1.toNat n.2 []with
     |error z=>rw[h4]at h;cases h
     |ok l=>
      rw[h4,aR]at h;cases h5:rdStr s l.2 with
      |error z=>rw[h5]at h;cases h
      |ok t=>
       rw[h5,aR]at h;split at h
       ·cases h
       ·injection h with h
        subst h;have hn:=TS (x:=n.1) (n:=n.2) h3;have hl:=Xl0 s _ _ _ l.1 l.2 h4 (by simp);refine⟨Xg4 _,Nat.le_of_lt (BZ (x:=q.1) (n:=q.2) h2).2.2,Nat.le_of_lt (BZ (x:=t.1) (n:=t.2) h5).2.2,?_,hl.2,rfl,rfl,rfl⟩;show l.1.length≤400;rw[hl.1];simp;omega
abbrev Ie(n:Nat)(vx:Value)(a b:Int):List (Option Tmp×Value):=
 [(some 46,.pointer (some ⟨n+1,6,none⟩)),(some 47,vx),(some 48,.int .i64 a),(some 49,.int .i64 b),(some 50,zW (n+4)),(some 51,undef),(some 52,undef),(some 53,undef),(some 54,undef),(some 55,undef),(none,undef)]
theorem Lb{a b:Int}:bL (Ie n vx a b):=by
 unfold bL;simp
theorem Xt1:(Tryz.prog.info? 110).map (fun i=>(i.zero,i.size,i.bytes))=some (some (.agg #[.int .i64 0,.int .i64 0,.int .i64 0]),3,24):=by kernel_rfl
theorem Xt2:eZ Tryz.prog 33 110 mr 24:=eZ.of Tryz.underlying33 Xt1 rfl (by decide) rfl
def Ig(I:IH)(w:World)(r:Rd aG)(e:Ending)(w':World):Prop:=
 match r with
 | .ok (x,n)=> ∃va vx J,e= .returned (.tuple #[fB x va vx,.int .i64 (n:Int),.int .i64 0])∧bf lT J va x.ag∧bf mr J vx x.ak∧Ext w.heap.size I J∧Ok J w'∧Below w.heap.size w w'
 | .error z=>e= .returned (.tuple #[.agg aC,.int .i64 0,.int .i64 z])∧Below w.heap.size w w'
theorem Xu8{q r:Tmp}{tz tu:TypeId}(h:fn.results=#[.cell p ty,.cell q tz,.cell r tu])(tmps:Array Value)(P:Program)(w:World):
 (results fn tmps).run P w=
   ((asAddr (tmps.getD p undef)).run P w).andThen fun a w₁=>((loadVar ty a).run P w₁).andThen fun v w₂=>
   ((asAddr (tmps.getD q undef)).run P w₂).andThen fun a w₁=>((loadVar tz a).run P w₁).andThen fun v2 w₂=>
   ((asAddr (tmps.getD r undef)).run P w₂).andThen fun a w₁=>((loadVar tu a).run P w₁).andThen fun v3 w₂=> .ok (.tuple #[v,v2,v3]) w₂:=by
 simp only[results,h];simp[Sem.run_bind,Result.andThen]
theorem Xkc{a b:Value}(h4:tmps.getD 4 undef=dG (n+1))(h5:tmps.getD 5 undef=dG (n+2))(h6:tmps.getD 6 undef=dG (n+3))
 (r1:W.heap[n+1]?=some (.cells C 35 (0,0))) (hC:C.size=7) (r2:W.heap[n+2]?=some (.cells #[a] 3 (0,0))) (r3:W.heap[n+3]?=some (.cells #[b] 36 (0,0))):
 (results Tryz.f102 tmps).run Tryz.prog W= .ok (.tuple #[.agg C,a,b]) W:=by
 have Cg:(Tryz.prog.info? 35).map (·.size)=some C.size:=by rw[hC];kernel_rfl
 have c2:=cell0 r2;have c3:=cell0 r3;rw[Xu8 rfl,h4,h5,h6];have L1:(loadVar 35 ⟨n+1,0,none⟩).run Tryz.prog W= .ok (.agg C) W:=run_loadVar_row _ (n+1) 35 35 C (0,0) _ r1 Tryz.underlying35 rfl Cg;have L2:(loadVar 3 ⟨n+2,0,none⟩).run Tryz.prog W= .ok a W:=by simp[go_sem,c2]
 have L3:(loadVar 36 ⟨n+3,0,none⟩).run Tryz.prog W= .ok b W:=by simp[go_sem,c3]
 simp[asAddr,L1,L2,L3,Result.andThen]
def Uj(Q:Exit→Act→World→Prop):Exit→Act→World→Prop
 | .panic _,_,_=>False
 |e,a,w=>Q e a w
theorem Xys{c:Code}(h:c.wp P (Uj Q) a w):c.wp P Q a w:=
 Code.wp_mono (fun e a w h=>by
  cases e with
  |panic _=>exact h.elim
  |_=>exact h) h
theorem Uj.normal(h:Q .normal a w):Uj Q .normal a w:=h
theorem Xp5:∀(l:List (Option Tmp×Value)) (k:Nat) (s:Array Bool) (a:Act),(cK l k s a).defers=a.defers
 | [],_,_,_=>rfl
 |(d,v)::l,k,s,a=>by
  rw[cK,Xp5 l];split
  ·cases d<;>rfl
  ·rfl
theorem Xpi:∀(s:ae) (n a:Nat) (acc l:List Xt) (b:Nat),jq s n a acc= .ok (l,b)→(∀x∈acc,x.Wf)→l.length=acc.length+n∧ ∀x∈l,x.Wf
 |s,0,a,acc,l,b,h,ha=>by
  rw[jq]at h;injection h with h
  injection h with h1 h2
  subst h1;exact⟨rfl,ha⟩
 |s,n+1,a,acc,l,b,h,ha=>by
  rw[jq]at h;cases h1:rdNum s a with
  |error e=>rw[h1]at h;cases h
  |ok p=>
   rw[h1,aR]at h;cases h2:rdNum s p.2 with
   |error e=>rw[h2]at h;cases h
   |ok q=>
    rw[h2,aR]at h;cases h3:rdNum s q.2 with
    |error e=>rw[h3]at h;cases h
    |ok r=>
     rw[h3,aR]at h;have:=Xpi s n r.2 _ l b h (fun x hx=>by
      rcases List.mem_append.1 hx with hx|hx
      ·exact ha x hx
      ·rw[List.mem_singleton.1 hx];have e1:=(GQ (x:=p.1) (n:=p.2) h1).2.2;have e2:=(GQ (x:=q.1) (n:=q.2) h2).2.2;have e3:=(GQ (x:=r.1) (n:=r.2) h3).2.2;refine⟨⟨?_,?_⟩,⟨?_,?_⟩,⟨?_,?_⟩⟩<;>simp only<;>omega)
     refine⟨?_,this.2⟩;rw[this.1,List.length_append];simp;omega
theorem Xv5{hh:ae}(h:Qr hh x)(hl:hh.length≤4294967280)(hz: -2147483648≤z∧z≤2147483647){dg:ae}(hd:dg.length≤4294967280){l:List Xt}(hx:∀y∈l,y.Wf):(bU x z dg l).Wf:=by
 obtain⟨k1,k2,k3,k4,k5,k6,k7,k8⟩:=h;refine⟨by show _≤x.ai;omega,by show x.ai≤_;omega,by show x.af.length≤_;omega,fun y hy=> ?_,by show x.target.length≤_;omega,by show _≤z;omega,by show z≤_;omega,by show dg.length≤_;omega,hx⟩;have:=k5 y hy;exact⟨by omega,by omega⟩
theorem lY.ok0(h:lY I w J W):Ok I W:=fun b c hb=>h.ok b c (h.keep b c hb)
structure xq (I:IH) (w:World) (s:ae) (J:IH) (a:Nat) (W:World):Prop where
 mt:lY I w J W
 ex:Ext w.heap.size I J
 fr:∀g,w.heap.size≤g→g<w.heap.size+8→J g=none
 rb:vC W (w.heap.size+4) s w.heap.size
 at_:uh W w.heap.size a
 r2:W.heap[w.heap.size+2]?=some (.cells #[.int .i64 0] 3 (0,0))
 r3:W.heap[w.heap.size+3]?=some (.cells #[.int .i64 0] 36 (0,0))
 sz:w.heap.size+8≤W.heap.size
section
variable {I J J':IH} {w W W':World} {s:ae} {a b:Nat}
theorem xq.aA(h:xq I w s J a W)(hb:Below W.heap.size W W'):xq I w s J a W':=
 ⟨h.mt.quiet hb,h.ex,h.fr,h.rb.aA hb,jg h.at_ hb,jg h.r2 hb,jg h.r3 hb,Nat.le_trans h.sz hb.size⟩
theorem xq.ext(h:xq I w s J a W)(hb:Below W.heap.size W W')(hx:Ext W.heap.size J J')(gG:Ok J' W'):xq I w s J' a W':=
 ⟨h.mt.ext hb hx gG,h.ex.trans (hx.mono (by have:=h.sz;omega)) (Qn _),fun g h1 h2=>by rw[hx g (by have:=h.sz;omega)];exact h.fr g h1 h2,h.rb.aA hb,jg h.at_ hb,jg h.r2 hb,jg h.r3 hb,Nat.le_trans h.sz hb.size⟩
theorem xq.grown(h:xq I w s J a W){row:Option Nat}(hg:W.grownBy W' row)(hr:∀g,row=some g→J g=none∧(g=w.heap.size+1∨w.heap.size+7<g)):xq I w s J a W':=by
 exact⟨⟨h.mt.ok.grown hg (fun g q=>(hr g q).1),h.mt.keep,h.mt.dE.grown hg h.mt.size (fun g q=>by have:=(hr g q).2;omega)⟩,h.ex,h.fr,
  h.rb.own hg (fun g q=>by have:=(hr g q).2;omega),iL h.at_ hg (fun q=>by have:=(hr _ q).2;omega),iL h.r2 hg (fun q=>by have:=(hr _ q).2;omega),iL h.r3 hg (fun q=>by have:=(hr _ q).2;omega),Nat.le_trans h.sz hg.size⟩
theorem xq.own(h:xq I w s J a W)(hg:W.grownBy W' (some (w.heap.size+1))):xq I w s J a W':=h.grown hg (fun g q=>by injection q with q;subst q;exact⟨h.fr _ (by omega) (by omega),.inl rfl⟩)
theorem xq.read(h:xq I w s J a W)(ha:uh W' w.heap.size b)(hg:W.grownBy W' (some w.heap.size)):xq I w s J b W':=
 ⟨⟨h.mt.ok.grown hg (fun g q=>by injection q with q;subst q;exact h.fr _ (Qn _) (by omega)),h.mt.keep,h.mt.dE.grown hg h.mt.size (fun g q=>by injection q with q;omega)⟩,h.ex,h.fr,
  h.rb.own hg (fun g q=>by injection q with q;omega),ha,iL h.r2 hg (fun q=>by injection q with q;omega),iL h.r3 hg (fun q=>by injection q with q;omega),Nat.le_trans h.sz hg.size⟩
end
abbrev xu(n:Nat):List Deferred:=[{target:=Target.fn (Fn.func 165) #[dG (n+1),dG (n+2),dG (n+3)],args:=#[]}]
theorem Xm8(h4:tmps.getD 4 undef=dG (w.heap.size+1))(h5:tmps.getD 5 undef=dG (w.heap.size+2))(h6:tmps.getD 6 undef=dG (w.heap.size+3))
 (xK:Below w.heap.size w W) (r2:W.heap[w.heap.size+2]?=some (.cells #[.int .i64 0] 3 (0,0))) (r3:W.heap[w.heap.size+3]?=some (.cells #[.int .i64 0] 36 (0,0))) (hE:W.heap[w.heap.size+1]?=some (.cells (aZ y va vx) 35 (0,0))):
 Leaves Tryz.prog Tryz.f102 tmps (Ig I w (.error z)) (xu w.heap.size) (.panicking [{v:=ug z,recovered:=false}]) W:=by
 refine leaves_cons (by simp) rfl ((Xyf (w.heap.size+1) (w.heap.size+2) (w.heap.size+3) _ _ y va vx z [] W hE r2 r3 (by omega) (by omega) (by omega)).mono ?_);rintro e u' w' ⟨rfl,rfl,r1,r2,r3,hb⟩;exact⟨_,Xkc h4 h5 h6 r1 rfl r2 r3,rfl,xK.trans ((hb w.heap.size (by omega) (by omega) (by omega) xK.size))⟩
theorem Lc{s:ae}{a:Nat}{R:Rd aG}(hR:R= .error z)(h4:tmps.getD 4 undef=dG (w.heap.size+1))(h5:tmps.getD 5 undef=dG (w.heap.size+2))(h6:tmps.getD 6 undef=dG (w.heap.size+3))
 (hK:xq I w s J a W) (hE:W.heap[w.heap.size+1]?=some (.cells (aZ y va vx) 35 (0,0))):
 Leaves Tryz.prog Tryz.f102 tmps (Ig I w R) (xu w.heap.size) (.panicking [{v:=ug z,recovered:=false}]) W:=
 hR▸Xm8 h4 h5 h6 hK.mt.dE hK.r2 hK.r3 hE
theorem Xw2{R:Ending→World→Prop}{a b:Value}(h4:tmps.getD 4 undef=dG (n+1))(h5:tmps.getD 5 undef=dG (n+2))(h6:tmps.getD 6 undef=dG (n+3))
 (r1:W.heap[n+1]?=some (.cells C 35 (0,0))) (hC:C.size=7) (r2:W.heap[n+2]?=some (.cells #[a] 3 (0,0))) (r3:W.heap[n+3]?=some (.cells #[b] 36 (0,0)))
 (hR:R (.returned (.tuple #[.agg C,a,b])) W):Leaves Tryz.prog Tryz.f102 tmps R (xu n) .returning W:=by
 refine leaves_cons (by simp) rfl ((Xye (n+1) (n+2) (n+3) W).mono ?_);rintro e u' w' ⟨rfl,rfl,rfl⟩;exact⟨_,Xkc h4 h5 h6 r1 hC r2 r3,hR⟩
theorem Xm0(I:IH)(hI:dQ I)(s:ae)(hs:s.length≤4294967280)(w:World)(hw:Ok I w):
 Calls Tryz.prog 102 #[S s,.int .i64 0] w (Ig I w (jJ s 0)):=by
 have Hr:=Qh (show jJ s 0=Rb (rdStr s 0) fun h=>Rb (eF h.1) fun e=>Rb (rdNum s h.2) fun z=>Rb (rdStr s z.2) fun d=>Rb (ik 65536 s d.2) fun n=>Rb (jq s n.1.toNat n.2 []) fun l=>
  kz (bU e z.1 d.1 l.1) l.2 from rfl)
 generalize jJ s 0=R at Hr ⊢;have d0:decide ((s.length:Int)<0)=false:=Qf (by omega);have kJ:=Qh (Xmz s w.heap.size ((((w.alloc (.cells #[.int .i64 0] 3)).alloc (.cells aC 35)).alloc (.cells #[.int .i64 0] 3)).alloc (.cells #[.int .i64 0] 36)) (by simp;omega));have A0:=Qh (Xpy w #[.int .i64 0] aC #[.int .i64 0] #[.int .i64 0] 3 35 3 36);have A1:=Qh (Xpz w #[.int .i64 0] aC #[.int .i64 0] #[.int .i64 0] 3 35 3 36);have A2:=Qh (Xp0 w #[.int .i64 0] aC #[.int .i64 0] #[.int .i64 0] 3 35 3 36);have A3:=Qh (Xp1 w #[.int .i64 0] aC #[.int .i64 0] #[.int .i64 0] 3 35 3 36);have M0:=Qh ((((lY.start hw).past (.cells #[.int .i64 0] 3)).past (.cells aC 35)).past (.cells #[.int .i64 0] 3) |>.past (.cells #[.int .i64 0] 36));go_enter_defers Tryz.func102,Tryz.ntmps102
 go_wp2_with fail
 refine kJ.O.mono ?_;rintro e W1 ⟨rfl,Sq,au,bY⟩;rw[show((((w.alloc (.cells #[.int .i64 0] 3)).alloc (.cells aC 35)).alloc (.cells #[.int .i64 0] 3)).alloc (.cells #[.int .i64 0] 36)).heap.size=w.heap.size+4 by simp]at*;have K1:=Qh (show xq I w s I 0 W1 from⟨M0.O.quiet (au.mono (by simp)),Ext.refl _ _,fun g h1 _=>hw.fresh h1,Sq,jg A0.O (au.mono (by simp)),jg A2.O (au.mono (by simp)),jg A3.O (au.mono (by simp)),by omega⟩);have E1:=Qh (jg A1.O (au.mono (by simp)));clear A0 A1 A2 A3 M0 kJ au Sq;go_wp2_with fail
 have lV:(Tryz.prog.info? 35).map (·.size)=some 7:=by kernel_rfl
 have Dw:(Tryz.prog.info? 9).map (·.size)=some 1:=by kernel_rfl
 cases h1:rdStr s 0 with
 |error z=>
  rw[h1,dJ]at Hr;refine(KH I hI s hs _ _ 0 _ K1.O.mt.ok K1.O.rb K1.O.at_ (by omega) z (zy h1) h1).mono ?_;rintro e w4 ⟨rfl,aM⟩;exact Lc Hr.O (y:=⟨0,[],[],[],0,[],[]⟩) (va:= .slice none 0 0) (vx:= .slice none 0 0) rfl rfl rfl (K1.O.aA aM) (jg E1.O aM)
 |ok q=>
 obtain⟨hh,a1⟩:=q;rw[h1,aR]at Hr;try dsimp only at Hr
 have xL:=(BZ h1).2;refine(KG I hI s hs _ _ 0 _ K1.O.mt.ok K1.O.rb K1.O.at_ (by omega) hh a1 h1).mono ?_;rintro e W2 ⟨rfl,uP,hg2⟩;have K2:=Qh (K1.O.read uP hg2);have E2:=Qh (iL E1.O hg2 (fun q=>by injection q with q;omega));clear h1 K1 E1 uP hg2 bY;go_wp2_with fail
 have Bp:=Xyb I hI hh (by omega) W2 K2.O.mt.ok;cases h2:eF hh with
 |error z=>
  rw[h2,dJ]at Hr;rw[h2]at Bp;refine Bp.mono ?_;rintro e w4 ⟨rfl,aM⟩;exact Lc Hr.O (y:=⟨0,[],[],[],0,[],[]⟩) (va:= .slice none 0 0) (vx:= .slice none 0 0) rfl rfl rfl (K2.O.aA aM) (jg E2.O aM)
 |ok x=>
 rw[h2,aR]at Hr;rw[h2]at Bp;refine Bp.mono ?_;rintro e W3 ⟨va,J,rfl,eP,Uk,hJ,cO⟩;have hox:=Qh (Xsi h2);obtain⟨Gb,Gd,XE,_⟩:=id eP;subst XE;have K3:=Qh (K2.O.ext cO Uk hJ);have E3:=Qh (jg E2.O cO);have HV:=Qh eP;clear h2 K2 E2 cO Uk hJ Bp eP
 go_wp2_with (refine nO rfl rfl 35 _ _ rfl (w.heap.size+1) 0 (aZ x (.slice Gb x.ag.length Gd) (.slice none 0 0)).toList (.agg (aZ x (.slice Gb x.ag.length Gd) (.slice none 0 0))) (by simp[Act.eval,Act.put]) (by simp[Act.eval,Act.put]) (by rfl) aC 35 E3.O (by simp) lV (by simp[Value.oneCell']) (aZ x (.slice Gb x.ag.length Gd) (.slice none 0 0)) (by rfl) ?_
              intro W4 I6 AA;have K4:=Qh (K3.O.own I6);have E4:=Qh AA)
 cases h3:rdNum s a1 with
 |error z=>
  rw[h3,dJ]at Hr;refine(PR I hI s hs _ _ a1 _ K4.O.mt.ok0 K4.O.rb K4.O.at_ (by omega) z (Eh h3) h3).mono ?_;rintro e w4 ⟨rfl,aM⟩;exact Lc Hr.O rfl rfl rfl (K4.O.aA aM) (jg E4.O aM)
 |ok q=>
 obtain⟨zz,a2⟩:=q;rw[h3,aR]at Hr;try dsimp only at Hr
 have uP:=(GQ h3).2;refine(NN I hI s hs _ _ a1 _ K4.O.mt.ok0 K4.O.rb K4.O.at_ (by omega) zz a2 h3).mono ?_;rintro e W5 ⟨rfl,Qs,hg5⟩;have K5:=Qh (K4.O.read Qs hg5);have E5:=Qh (iL E4.O hg5 (fun q=>by injection q with q;omega));clear h3 K3 E3 K4 E4 Qs hg5 I6 AA
 go_wp2_with (refine nO rfl rfl 3 _ _ rfl (w.heap.size+1) 4 [.int .i64 zz] (.int .i64 zz) (by simp[Act.eval,Act.put]) (by simp[Act.eval,Act.put]) (by rfl) (aZ x (.slice Gb x.ag.length Gd) (.slice none 0 0)) 35 E5.O (by simp) FW (by simp[Value.oneCell']) (aZ {x with size:=zz} (.slice Gb x.ag.length Gd) (.slice none 0 0)) (by rfl) ?_
              intro W6 tC zA;have K6:=Qh (K5.O.own tC);have E6:=Qh zA)
 cases h4:rdStr s a2 with
 |error z=>
  rw[h4,dJ]at Hr;refine(KH I hI s hs _ _ a2 _ K6.O.mt.ok0 K6.O.rb K6.O.at_ (by omega) z (zy h4) h4).mono ?_;rintro e w4 ⟨rfl,aM⟩;exact Lc Hr.O rfl rfl rfl (K6.O.aA aM) (jg E6.O aM)
 |ok q=>
 obtain⟨dg,a3⟩:=q;rw[h4,aR]at Hr;try dsimp only at Hr
 have Da:=(BZ h4).2;refine(KG I hI s hs _ _ a2 _ K6.O.mt.ok0 K6.O.rb K6.O.at_ (by omega) dg a3 h4).mono ?_;rintro e W7 ⟨rfl,Qu,j5⟩;have K7:=Qh (K6.O.read Qu j5);have E7:=Qh (iL E6.O j5 (fun q=>by injection q with q;omega));clear h4 K5 E5 K6 E6 Qu j5 tC zA
 go_wp2_with (refine nO rfl rfl 9 _ _ rfl (w.heap.size+1) 5 [S dg] (S dg) (by simp[Act.eval,Act.put]) (by simp[Act.eval,Act.put]) (by rfl) (aZ {x with size:=zz} (.slice Gb x.ag.length Gd) (.slice none 0 0)) 35 E7.O (by simp) Dw (by simp[Value.oneCell']) (aZ (bU x zz dg []) (.slice Gb x.ag.length Gd) (.slice none 0 0)) (by rfl) ?_
              intro W8 uq hr8;have K8:=Qh (K7.O.own uq);have E8:=Qh hr8)
 cases h5:ik 65536 s a3 with
 |error z=>
  rw[h5,dJ]at Hr;refine(Xg8 I hI s hs _ _ a3 _ K8.O.mt.ok0 K8.O.rb K8.O.at_ (by omega) 65536 z h5).mono ?_;rintro e w6 ⟨rfl,tC⟩;rw[Hr.O];exact Xm8 rfl rfl rfl (K8.O.mt.dE.grown tC K8.O.mt.size (fun g q=>by injection q with q;omega)) (iL K8.O.r2 tC (fun q=>by injection q with q;omega)) (iL K8.O.r3 tC (fun q=>by injection q with q;omega)) (iL E8.O tC (fun q=>by injection q with q;omega))
 |ok q=>
 obtain⟨N,a4⟩:=q;rw[h5,aR]at Hr;try dsimp only at Hr
 have hN:=TS h5;refine(Xi1 I hI s hs _ _ a3 _ K8.O.mt.ok0 K8.O.rb K8.O.at_ (by omega) 65536 N a4 h5).mono ?_;rintro e W9 ⟨rfl,Qv,eQ⟩;have K9:=Qh (K8.O.read Qv eQ);have E9:=Qh (iL E8.O eQ (fun q=>by injection q with q;omega));have O9:=Qh (aP.nil mr 110 J W9 W9.heap.size);have XF:∀b,W9.heap.size≤b→J b=none:=fun b hb=>K9.O.mt.ok.fresh hb;obtain⟨m,rfl⟩:∃m:Nat,N=(m:Int):=⟨N.toNat,by omega⟩;rw[Int.toNat_natCast]at Hr;obtain⟨L,hL⟩:∃L,jq s m a4 []=L:=⟨_,rfl⟩;rw[hL]at Hr;have HL:=Qh hL;have hm:m≤65536:=by omega
 have FZ:=hN.2.1;have akO:=K9.O.sz;clear h5 hN K7 E7 K8 E8 Qv eQ uq hr8 hL;generalize hN9:W9.heap.size=N9 at*;go_wp2_with fail
 have HL0:=HL;go_loopw [10,11,40] (fun s10 s11 s40 wr=> ∃(k a:Nat) (acc:List Xt) (vx:Value),k≤m∧s40= .int .i64 k∧acc.length=k∧a≤s.length∧xq I w s J a wr∧wr.heap[w.heap.size+1]?=some (.cells (aZ (bU x zz dg []) (.slice Gb x.ag.length Gd) vx) 35 (0,0))∧aP mr 110 J wr N9 vx acc∧N9≤wr.heap.size∧jq s (m-k) a acc=L) (fun _ _ i _=>m-(intOf i).toNat)
 case atStart=>exact⟨0,a4,[],_,Nat.zero_le _,rfl,rfl,FZ,K9.O,E9.O,O9.O,Nat.le_of_eq hN9.symm,HL.O⟩
 case round=>
  clear K9 E9 O9 HL FZ hN9;obtain⟨k,a,acc,vx,hk,rfl,CP,ha,hK,hE,hO,bZ,MS⟩:=hrel;have HK:=Qh hK;have HE:=Qh hE;have HO:=Qh hO;have kJ:=Qh MS;have vG:=Qh CP;clear hK hE hO MS CP;by_cases hlt:k<m
  ·go_wp2_with fail
   rw[show m-k=m-(k+1)+1 by omega,jq]at kJ;cases h4:rdNum s a with
   |error z=>
    rw[h4,dJ]at kJ;refine(PR I hI s hs _ _ a _ HK.O.mt.ok0 HK.O.rb HK.O.at_ (by omega) z (Eh h4) h4).mono ?_;rintro e w5 ⟨rfl,bq⟩;exact Lc (Hr.O.trans (by rw[←kJ.O];rfl)) rfl rfl rfl (HK.O.aA bq) (jg HE.O bq)
   |ok q=>
   obtain⟨ss,a5⟩:=q;rw[h4,aR]at kJ;try dsimp only at kJ
   have Qo:=(GQ h4).2;refine(NN I hI s hs _ _ a _ HK.O.mt.ok0 HK.O.rb HK.O.at_ (by omega) ss a5 h4).mono ?_;rintro e V1 ⟨rfl,Qw,hg1⟩;have K1:=Qh (HK.O.read Qw hg1);have E1:=Qh (iL HE.O hg1 (fun q=>by injection q with q;omega));have O1:=Qh (HO.O.kept hg1 (.inr (HO.O.dx (by omega))));have hne1:=Nat.le_trans bZ hg1.size;clear h4 HK HE HO Qw hg1;go_wp2_with fail
   cases h5:rdNum s a5 with
   |error z=>
    rw[h5,dJ]at kJ;refine(PR I hI s hs _ _ a5 _ K1.O.mt.ok0 K1.O.rb K1.O.at_ (by omega) z (Eh h5) h5).mono ?_;rintro e w5 ⟨rfl,bq⟩;exact Lc (Hr.O.trans (by rw[←kJ.O];rfl)) rfl rfl rfl (K1.O.aA bq) (jg E1.O bq)
   |ok q=>
   obtain⟨oo,a6⟩:=q;rw[h5,aR]at kJ;try dsimp only at kJ
   have ha6:=(GQ h5).2;refine(NN I hI s hs _ _ a5 _ K1.O.mt.ok0 K1.O.rb K1.O.at_ (by omega) oo a6 h5).mono ?_;rintro e W8 ⟨rfl,Qx,hg2⟩;have K8:=Qh (K1.O.read Qx hg2);have E8:=Qh (iL E1.O hg2 (fun q=>by injection q with q;omega));have O8:=Qh (O1.O.kept hg2 (.inr (O1.O.dx (by omega))));have Ev:=Nat.le_trans hne1 hg2.size;clear h5 K1 E1 O1 Qx hg2;have cA:=(ent_row E8.O).c6;go_wp2_with fail
   cases h6:rdNum s a6 with
   |error z=>
    rw[h6,dJ]at kJ;have hRz:R= .error z:=Hr.O.trans (by rw[←kJ.O];rfl);have KV:=Qh (fun(W:World) (h1:Ok I W) (h2:vC W (w.heap.size+4) s w.heap.size) (h3:uh W w.heap.size a6)=>PR I hI s hs _ _ a6 W h1 h2 h3 (by omega) z (Eh h6) h6);refine uW (X:=Unit) (fun _=>Ie w.heap.size vx ss oo) (fun _ s w'=>s.getD 5 false=false∧Below W8.heap.size W8 w') (by kernel_rfl) (by kernel_rfl) ⟨(),by simp,(Qb _ _).drew⟩ ?_ ?_
    ·rintro⟨⟩ s9 a' w' i eU gI ha ⟨xV,dH⟩ hi;obtain⟨aV,oi,eX,aB⟩:=mem_ready.1 hi;have Xy:=dh dH cA;rcases i with _|_|_|_|_|_|_|_|_|_|_|i
     rotate_left 11
     ·simp at eX
     all_goals
      have fZ:=eX;simp at eX;subst eX;simp[Region.binds]at aB
     ·have e8:a'.tmps[4]?.getD undef=dG (w.heap.size+1):=qU ha (by simp[Ie]);refine wpOp_step fZ (fun K' hK=> ?_);rw[if_pos (by rfl)];unfold Oper.wp;simp[go_sem,e8,Oper.upon];exact hK _ _ ⟨(),j6 (d:=some 46) (v:= .pointer (some ⟨w.heap.size+1,6,none⟩)) Lb ha rfl aV,by rw[mW (by decide)];exact xV,dH⟩
     ·have e35:a'.tmps[46]?.getD undef= .pointer (some ⟨w.heap.size+1,6,none⟩):=oq (i:=0) Lb ha rfl (by simpa using aB) (by simp);refine wpOp_step fZ (fun K' hK=> ?_);rw[if_pos (by rfl)];unfold Oper.wp;simp[go_sem,e35,Xy,Oper.upon];exact hK _ _ ⟨(),j6 (d:=some 47) (v:=vx) Lb ha rfl aV,by rw[mW (by decide)];exact xV,dH⟩
     ·have e9:a'.tmps[10]?.getD undef= .int .i64 ss:=qU ha (by simp[Ie]);refine wpOp_step fZ (fun K' hK=> ?_);rw[if_pos (by rfl)];unfold Oper.wp;simp[go_sem,e9,Oper.upon];exact hK _ _ ⟨(),j6 (d:=some 48) (v:= .int .i64 ss) Lb ha rfl aV,by rw[mW (by decide)];exact xV,dH⟩
     ·have e9:a'.tmps[11]?.getD undef= .int .i64 oo:=qU ha (by simp[Ie]);refine wpOp_step fZ (fun K' hK=> ?_);rw[if_pos (by rfl)];unfold Oper.wp;simp[go_sem,e9,Oper.upon];exact hK _ _ ⟨(),j6 (d:=some 49) (v:= .int .i64 oo) Lb ha rfl aV,by rw[mW (by decide)];exact xV,dH⟩
     ·have e5:a'.tmps[7]?.getD undef=zW (w.heap.size+4):=qU ha (by simp[Ie]);refine wpOp_step fZ (fun K' hK=> ?_);rw[if_pos (by rfl)];unfold Oper.wp;simp[go_sem,e5,Oper.upon];exact hK _ _ ⟨(),j6 (d:=some 50) (v:=zW (w.heap.size+4)) Lb ha rfl aV,by rw[mW (by decide)];exact xV,dH⟩
     ·have e38:a'.tmps[50]?.getD undef=zW (w.heap.size+4):=oq (i:=4) Lb ha rfl (by simpa using aB) (by simp);have Kw:=K8.O.aA dH;refine wpOp_step fZ (fun K' hK=> ?_);rw[if_pos (by rfl)];unfold Oper.wp;simp[go_sem,e38,Oper.upon];refine(KV.O w' Kw.mt.ok0 Kw.rb Kw.at_).mono ?_;rintro r9 w9 ⟨rfl,ig⟩;have e4:a'.tmps[4]?.getD undef=dG (w.heap.size+1):=qU ha (by simp[Ie]);have e5:a'.tmps[5]?.getD undef=dG (w.heap.size+2):=qU ha (by simp[Ie]);have e6:a'.tmps[6]?.getD undef=dG (w.heap.size+3):=qU ha (by simp[Ie]);have hd:a'.defers=xu w.heap.size:=by rw[ha,Xp5]
      have key:Leaves Tryz.prog Tryz.f102 a'.tmps (Ig I w R) a'.defers (.panicking [{v:=ug z,recovered:=false}]) w9:=by
       rw[hd];exact Lc hRz (by rw[Array.getD_eq_getD_getElem?];exact e4) (by rw[Array.getD_eq_getD_getElem?];exact e5) (by rw[Array.getD_eq_getD_getElem?];exact e6) (Kw.aA ig) (jg (jg E8.O dH) ig)
      exact key
     all_goals
      have h4':s9[5]?.getD false=false:=by simpa using xV
      have h5':s9[6]?.getD false=false:=by
       cases h5:s9[6]?.getD false with
       |false=>rfl
       |true=>
        have h6:=PO gI [5] 6 5 (by kernel_rfl) (by rfl) (by simpa using h5);rw[xV]at h6;cases h6
      simp[h4',h5']at aB
    ·rintro⟨⟩ s9 a' w' gH ha ⟨xV,dH⟩;have:=gH 5 (by decide);rw[xV]at this;cases this
   |ok q=>
   obtain⟨nn,a7⟩:=q;rw[h6,aR]at kJ;try dsimp only at kJ
   have Uh:=(GQ h6).2;have KV:=Qh (fun(W:World) (h1:Ok I W) (h2:vC W (w.heap.size+4) s w.heap.size) (h3:uh W w.heap.size a6)=>NN I hI s hs _ _ a6 W h1 h2 h3 (by omega) nn a7 h6);have Q1:Ok I W8.drew:=K8.O.mt.ok0;have Q2:vC W8.drew (w.heap.size+4) s w.heap.size:=⟨K8.O.rb.r0,K8.O.rb.r1,K8.O.rb.r2,K8.O.rb.r3,K8.O.rb.lt⟩;have Q3:uh W8.drew w.heap.size a6:=K8.O.at_;refine Xys ?_
   go_region_law (first
                  |(refine Xd3 rfl _ _ 33 33 rfl _ _ (by simp[Act.eval,Act.put]) (by simp[Act.eval,Act.put]) qG ?_)
                  |(go_simp
                    go_at_call 234
                    refine(KV.O _ Q1 Q2 Q3).mono ?_;rintro e w9 ⟨rfl,Xz,uy⟩;have eQ:W8.grownBy w9 (some w.heap.size):=⟨uy.os,uy.tape,uy.output,uy.size,uy.block⟩;have K9:=Qh (K8.O.read Xz eQ);have E9:=Qh (iL E8.O eQ (fun q=>by injection q with q;omega));have O9:=Qh (O8.O.kept eQ (.inr (O8.O.dx (by omega))));have Ci:=Nat.le_trans Ev eQ.size;obtain⟨v10,Dj,qG,xn,jN⟩:=Xpd Xt2 O9.O ⟨ss,oo,nn⟩ [.int .i64 ss,.int .i64 oo,.int .i64 nn] 110 33 rfl (by rw[vG.O];omega) (by rw[vG.O];omega) Ci;obtain⟨KW,KX,rfl⟩:=xn.shape;rw[List.length_append]at xn;have XA:=(ent_row E9.O).c6;have cB9:=fP (.cells #[.int .i64 ss,.int .i64 oo,.int .i64 nn] 110) XA;have KY:=Qh (iL E9.O jN (O9.O.dx (by omega)));have XC:=(ent_row KY.O).c6;have XD:Dj.frozen? ⟨w.heap.size+1,6,none⟩=false:=by unfold World.frozen?;rw[KY.O];rfl))
   all_goals
    refine Uj.normal ?_;go_wp2;go_roundw;case rel=>exact⟨k+1,a7,acc++[⟨ss,oo,nn⟩],.slice KW (acc.length+1) KX,by omega,by go_num,by rw[List.length_append,vG.O];rfl,Uh.1,(K9.O.grown jN (fun g q=>by have:=O9.O.qZ q;exact⟨XF g this,by omega⟩)).own ⟨rfl,rfl,rfl,by simp[World.setCell],fun k _ hk=>Below.heap_setCell _ _ _ _ (fun q=>hk (by rw[q]))⟩,Xpe KY.O _,xn.Qm (n:=w.heap.size+1) (xn.dx (by omega)) _,by simpa[World.setCell]using Nat.le_trans Ci jN.size,by rw[←kJ.O]⟩
    case measure=>simp[intOf];omega
  ·have he:k=m:=by omega
   subst he;rw[Nat.sub_self,jq]at kJ;have zZ:=Qh (show R=kz (bU x zz dg acc) a by rw[Hr.O,←kJ.O];rfl);clear Hr hk hlt;obtain⟨Ia,Ib,rfl⟩:=HO.O.shape;have HE2:=Qh (show wr.heap[w.heap.size+1]?=some (.cells (aZ (bU x zz dg acc) (.slice Gb x.ag.length Gd) (.slice Ia acc.length Ib)) 35 (0,0))from HE.O);go_wp2_with (refine wpList_load_row rfl 35 _ rfl (w.heap.size+1) rfl 35 _ (0,0) _ HE2.O Tryz.underlying35 rfl lV ?_)
   have hLe:jq s k a4 []= .ok (acc,a):=by rw[HL0.O,←kJ.O]
   have OS:=(Xpi s k a4 [] acc a hLe (by simp)).2;have jh:=Xv5 hox.O (by omega) ⟨uP.2.1,uP.2.2⟩ (dg:=dg) (by omega) OS;obtain⟨J2,fM,aQ,Ld,_⟩:=HO.O.freeze HK.O.mt.ok XF;have kp:∀b c,J b=some c→J2 b=some c:=fun b c hc=>by
    rw[fM b (by
     rcases Nat.lt_or_ge b N9 with h|h
     ·exact h
     ·rw[XF b h]at hc;cases hc)]
    exact hc
   have Le:=bf.mono kp HV.O;have M2:lY I w J2 wr:=⟨aQ,fun b c h=>kp b c (HK.O.mt.keep b c h),HK.O.mt.dE⟩;have Qy:=Qh (HK.O.ex.trans (fM.mono (show w.heap.size≤N9 by omega)) (Qn _));have FR2:=Qh (fun g (h1:w.heap.size≤g) (h2:g<w.heap.size+8)=>(fM g (by omega)).trans (HK.O.fr g h1 h2));refine(Uf J2 (hI.mono M2.keep) (bU x zz dg acc) _ _ Le Ld jh (by show x.af.length≤_;have:=hox.O.pa;omega) (by show x.target.length≤_;have:=hox.O.tg;omega) wr aQ).mono ?_;rintro e V1 ⟨rfl,au⟩;have K2:=Qh (show xq I w s J2 a V1 from⟨M2.quiet au,Qy.O,FR2.O,HK.O.rb.aA au,jg HK.O.at_ au,jg HK.O.r2 au,jg HK.O.r3 au,Nat.le_trans HK.O.sz au.size⟩);have E2:=Qh (jg HE2.O au);have VA:=Qh Le;have VX:=Qh Ld;unfold kz at zZ;clear hLe OS jh fM aQ Ld Le M2 FR2 HK HE HE2 HO vG au HL0 kJ kp;by_cases hz:az (bU x zz dg acc)=0
   ·rw[hz,if_neg (by simp)]at zZ;rw[hz];clear hz;go_wp2_with fail
    have zf:(Tryz.prog.info? 36).map (·.size)=some 1:=by kernel_rfl
    obtain⟨C,hC⟩:∃C,C=aZ (bU x zz dg acc) (.slice Gb x.ag.length Gd) (.slice Ia acc.length Ib):=⟨_,rfl⟩;have E2C:=E2.O;rw[←hC]at E2C;have Ul:C.size=7:=by rw[hC];rfl
    have hC1:∀v∈C.toList,v.oneCell'=true:=by rw[hC];simp[Value.oneCell']
    have hCT:=(by simpa using Ul:C.toList.length=7)
    refine uW (X:=Unit) (fun _=> [(some 63,.agg C),(some 64,.int .i64 (a:Int)),(none,undef),(none,undef),(none,undef)])
     (fun _ s W=>W.heap[w.heap.size+1]?=some (.cells C 35 (0,0))∧Bk (w.heap.size+2) 1 3 #[.int .i64 (a:Int)] 3 s W∧Bk (w.heap.size+3) 1 36 #[.int .i64 0] 4 s W∧uh W w.heap.size a∧Ok J2 W∧Below w.heap.size w W) (by kernel_rfl) (by kernel_rfl)
     ⟨(),E2C,⟨_,by simp,K2.O.r2,by simp⟩,⟨_,by simp,K2.O.r3,by simp⟩,K2.O.at_,K2.O.mt.ok,K2.O.mt.dE.drew⟩ ?_ ?_
    ·have zK:bL [(some 63,.agg C),(some 64,.int .i64 (a:Int)),(none,undef),(none,undef),(none,undef)]:=by unfold bL;simp
     rintro⟨⟩ s9 a' W i eU gI ha ⟨k1,k2,k3,k0,ko,kb⟩ hi;obtain⟨aV,oi,eX,aB⟩:=mem_ready.1 hi;rcases i with _|_|_|_|_|i
     rotate_left 5
     ·simp at eX
     all_goals
      have fZ:=eX;simp at eX;subst eX;simp[Region.binds]at aB
     ·have e4:a'.tmps[4]?.getD undef=dG (w.heap.size+1):=qU ha (by simp);refine wpOp_step fZ (fun K' hK=> ?_);rw[if_pos (by rfl)];refine wp_load_row 35 _ rfl (w.heap.size+1) (by simpa[Act.eval]using e4) 35 C (0,0) _ k1 Tryz.underlying35 rfl (by rw[Ul];exact lV) ?_;exact hK _ _ ⟨(),j6 (d:=some 63) (v:= .agg C) zK ha rfl aV,k1,k2.up (by decide),k3.up (by decide),k0,ko,kb⟩
     ·have e3:a'.tmps[3]?.getD undef=dG w.heap.size:=qU ha (by simp);have c0:=cell0 k0;refine wpOp_step fZ (fun K' hK=> ?_);rw[if_pos (by rfl)];unfold Oper.wp;simp[go_sem,e3,c0,Oper.upon];exact hK _ _ ⟨(),j6 (d:=some 64) (v:= .int .i64 (a:Int)) zK ha rfl aV,k1,k2.up (by decide),k3.up (by decide),k0,ko,kb⟩
     ·have e4:a'.tmps[4]?.getD undef=dG (w.heap.size+1):=qU ha (by simp);have e63:a'.tmps[63]?.getD undef= .agg C:=oq (i:=0) zK ha rfl (by simpa using aB) (by simp);refine wpOp_step fZ (fun K' hK=> ?_);rw[if_pos (by rfl)];refine NZ (n:=7) (i:=2) (s:=s9) 35 _ _ rfl rfl C.toList (.agg C) (by simpa[Act.eval]using e4) (by simpa[Act.eval]using e63) (by simp[Value.cells]) (by simp) hCT ⟨C,Ul,k1,fun _=>rfl⟩ lV hC1 ?_;intro W' hg hr;exact hK _ _ ⟨(),j6 (d:=none) (v:=undef) zK ha rfl aV,hr,(k2.own hg (by omega)).up (by decide),(k3.own hg (by omega)).up (by decide),iL k0 hg (fun q=>by injection q with q;omega),ko.grown hg (fun g q=>by injection q with q;subst q;exact K2.O.fr _ (by omega) (by omega)),kb.grown hg kb.size (fun g q=>by injection q with q;omega)⟩
     ·have e5:a'.tmps[5]?.getD undef=dG (w.heap.size+2):=qU ha (by simp);have e64:a'.tmps[64]?.getD undef= .int .i64 (a:Int):=oq (i:=1) zK ha rfl (by simpa using aB.1) (by simp);refine wpOp_step fZ (fun K' hK=> ?_);rw[if_pos (by rfl)];refine NZ 3 _ _ rfl rfl [.int .i64 (a:Int)] (.int .i64 (a:Int)) (by simpa[Act.eval]using e5) (by simpa[Act.eval]using e64) (by rfl) (by rfl) (by rfl) k2 FW (by simp[Value.oneCell']) ?_;intro W' hg hr;exact hK _ _ ⟨(),j6 (d:=none) (v:=undef) zK ha rfl aV,iL k1 hg (fun q=>by injection q with q;omega),.done hr (by rfl),(k3.own hg (by omega)).up (by decide),iL k0 hg (fun q=>by injection q with q;omega),ko.grown hg (fun g q=>by injection q with q;subst q;exact K2.O.fr _ (by omega) (by omega)),kb.grown hg kb.size (fun g q=>by injection q with q;omega)⟩
     ·have e6:a'.tmps[6]?.getD undef=dG (w.heap.size+3):=qU ha (by simp);refine wpOp_step fZ (fun K' hK=> ?_);rw[if_pos (by rfl)];refine NZ 36 _ _ rfl rfl [.int .i64 0] (.int .i64 0) (by simpa[Act.eval]using e6) (by rfl) (by rfl) (by rfl) (by rfl) k3 zf (by simp[Value.oneCell']) ?_;intro W' hg hr;exact hK _ _ ⟨(),j6 (d:=none) (v:=undef) zK ha rfl aV,iL k1 hg (fun q=>by injection q with q;omega),(k2.own hg (by omega)).up (by decide),.done hr (by rfl),iL k0 hg (fun q=>by injection q with q;omega),ko.grown hg (fun g q=>by injection q with q;subst q;exact K2.O.fr _ (by omega) (by omega)),kb.grown hg kb.size (fun g q=>by injection q with q;omega)⟩
    ·rintro⟨⟩ s9 a' W gH ha ⟨k1,⟨d2,_,r2,q2⟩,⟨d3,_,r3,q3⟩,k0,ko,kb⟩;have u2:=q2 (gH 3 (by decide));have u3:=q3 (gH 4 (by decide));subst u2 u3;rw[vB _ _ _ _ (fun k hk=>by rw[Nat.zero_add];exact gH k (by simpa using hk))]at ha;simp only[dZ,Act.put]at ha;subst ha;go_wp2;refine Xw2 (n:=w.heap.size) rfl rfl rfl k1 Ul r2 r3 ?_;rw[zZ.O,hC];exact⟨_,_,J2,rfl,VA.O,VX.O,Qy.O,ko,kb⟩
   ·rw[if_pos hz]at zZ;obtain⟨cz,SI⟩:∃cz,az (bU x zz dg acc)=cz:=⟨_,rfl⟩;rw[SI]at zZ hz ⊢;have hzb:(cz !=0)=true:=by simpa using hz
    clear hz SI;have R2':=Qh K2.O.r2;have R3':=Qh K2.O.r3;have zf:(Tryz.prog.info? 36).map (·.size)=some 1:=by kernel_rfl
    go_wp2_with (first
                 |(refine nO rfl rfl 35 _ _ rfl (w.heap.size+1) 0 aC.toList (.agg aC) (by simp[Act.eval,Act.put]) (by simp[Act.eval,Act.put]) (by rfl) _ 35 E2.O (by simp) lV (by simp[Value.oneCell']) aC (by rfl) ?_
                   intro X1 XG rx1;have P1:=Qh rx1;have Q2:=Qh (iL R2'.O XG (fun q=>by injection q with q;omega));have Q3:=Qh (iL R3'.O XG (fun q=>by injection q with q;omega));have B1:=Qh (K2.O.mt.dE.grown XG K2.O.mt.size (fun g q=>by injection q with q;omega)))
                 |(refine nO rfl rfl 3 _ _ rfl (w.heap.size+2) 0 [.int .i64 0] (.int .i64 0) (by simp[Act.eval,Act.put]) (by simp[Act.eval,Act.put]) (by rfl) _ 3 Q2.O (by simp) FW (by simp[Value.oneCell']) #[.int .i64 0] (by rfl) ?_
                   intro X2 XH rx2;have P1:=Qh (iL P1.O XH (fun q=>by injection q with q;omega));have P2:=Qh rx2;have Q3:=Qh (iL Q3.O XH (fun q=>by injection q with q;omega));have B2:=Qh (B1.O.grown XH B1.O.size (fun g q=>by injection q with q;omega)))
                 |(refine nO rfl rfl 36 _ _ rfl (w.heap.size+3) 0 [.int .i64 cz] (.int .i64 cz) (by simp[Act.eval,Act.put]) (by simp[Act.eval,Act.put]) (by rfl) _ 36 Q3.O (by simp) zf (by simp[Value.oneCell']) #[.int .i64 cz] (by rfl) ?_
                   intro X3 XI rx3;have P1:=Qh (iL P1.O XI (fun q=>by injection q with q;omega));have P2:=Qh (iL P2.O XI (fun q=>by injection q with q;omega));have P3:=Qh rx3;have B3:=Qh (B2.O.grown XI B2.O.size (fun g q=>by injection q with q;omega))))
    refine Xw2 (n:=w.heap.size) rfl rfl rfl P1.O rfl P2.O P3.O ?_;rw[zZ.O];exact⟨rfl,B3.O⟩
def akY(s:ae)(a:Nat)(c:UInt8):Int:=if a+(upTo s a c).length<s.length then((a+(upTo s a c).length:Nat):Int)else -1
def XJ(s:ae)(a k:Nat)(c:UInt8):Prop:=∀x∈(s.drop a).take (k-a),x≠c
def akZ(t:ae):Int:=if jm t=true then((PM (dW 0 t):Nat):Int)else 0


def ni{α:Type}(z:α)(r:Rd α)(a:Nat)(e:Int):α×Nat×Int:=if e≠0 then(z,a,e)else match r with| .ok p=>(p.1,p.2,0)| .error c=>(z,0,c)
theorem z8(z:α)(r:Rd α)(a:Nat){e:Int}(h:e≠0):ni z r a e=(z,a,e):=by unfold ni;rw[if_pos h]
theorem Um(z x:α)(a b:Nat):ni z (.ok (x,b)) a 0=(x,b,0):=by unfold ni;rw[if_neg (by simp)]
theorem Aa(z:α)(c:Int)(a:Nat):ni z (.error c) a 0=(z,0,c):=by unfold ni;rw[if_neg (by simp)]
def Cj(most:Int)(s:ae)(a:Nat)(e:Int):Int×Nat×Int:=
 let p:=ni 0 (rdNum s a) a e
 if p.2.2≠0 then(0,p.2)else if p.1<0∨most<p.1 then(0,p.2.1,2)else p
def Ih(s:ae):Nat→Nat→Int→List At→List At×Nat×Int
 |0,a,e,acc=>(acc,a,e)
 |n+1,a,e,acc=>if e≠0 then(acc,a,e)else
  Ih s n (ni [] (rdStr s (ni [] (rdStr s a) a e).2.1) (ni [] (rdStr s a) a e).2.1 (ni [] (rdStr s a) a e).2.2).2.1 (ni [] (rdStr s (ni [] (rdStr s a) a e).2.1) (ni [] (rdStr s a) a e).2.1 (ni [] (rdStr s a) a e).2.2).2.2
   (acc++[⟨(ni [] (rdStr s a) a e).1,(ni [] (rdStr s (ni [] (rdStr s a) a e).2.1) (ni [] (rdStr s a) a e).2.1 (ni [] (rdStr s a) a e).2.2).1⟩])
def kUp(x:ae):Nat→Int
 |0=>0
 |i+1=>if bO ((i:Int)+1)=x then(i:Int)+1 else kUp x i
theorem Cn(z:α)(p:α×Nat)(a:Nat):ni z (.ok p) a 0=(p.1,p.2,0):=Um z p.1 a p.2
theorem Xwy{s:ae}{a:Nat}{x:Int}(h:ik m s a= .ok (x,b)):Cj m s a 0=(x,b,0):=by
 unfold ik at h;unfold Cj;cases hn:rdNum s a with
 |error e=>rw[hn]at h;cases h
 |ok p=>
  rw[hn,aR]at h;rw[Cn];split at h
  ·cases h
  ·rename_i hk;injection h with h
   subst h;simp only;rw[if_neg (by simp),if_neg hk]
theorem Xwz{s:ae}{a:Nat}(h:ik m s a= .error z):(Cj m s a 0).2.2=z∧(Cj m s a 0).1=0:=by
 have hz:=Xb h;unfold ik at h;unfold Cj;cases hn:rdNum s a with
 |error e=>
  rw[hn]at h;injection h with h
  subst h;rw[Aa];simp only;rw[if_pos (by simpa using hz)];exact⟨rfl,rfl⟩
 |ok p=>
  rw[hn,aR]at h;rw[Cn];split at h
  ·rename_i hk;injection h with h
   subst h;simp only;rw[if_neg (by simp),if_pos hk];exact⟨rfl,rfl⟩
  ·cases h
theorem Lf(m:Int)(s:ae)(a:Nat){e:Int}(h:e≠0):Cj m s a e=(0,a,e):=by
 unfold Cj;rw[z8 _ _ _ h];simp only;rw[if_pos h]
theorem N7(s:ae)(n a:Nat){e:Int}(h:e≠0)(acc:List At):Ih s n a e acc=(acc,a,e):=by
 cases n with
 |zero=>rfl
 |succ n=>rw[Ih,if_pos h]
theorem Xw0(s:ae):∀(n a:Nat) (acc:List At),(∀l b,jo s n a acc= .ok (l,b)→Ih s n a 0 acc=(l,b,0))∧(∀z,jo s n a acc= .error z→(Ih s n a 0 acc).2.2=z∧(z !=0)=true)
 |0,a,acc=>by
  refine⟨fun l b h=> ?_,fun z h=> ?_⟩
  ·rw[jo]at h;injection h with h
   injection h with h1 h2
   subst h1 h2;rfl
  ·rw[jo]at h;cases h
 |n+1,a,acc=>by
  rw[jo,Ih,if_neg (by simp)];cases h1:rdStr s a with
  |error c=>
   have hc:=zy h1;simp only[Aa];rw[z8 _ _ _ (by simpa using hc),N7 _ _ _ (by simpa using hc)];exact⟨fun l b h=>(by cases h),fun z h=>(by injection h with h;subst h;exact⟨rfl,hc⟩)⟩
  |ok p=>
   simp only[Cn,aR];cases h2:rdStr s p.2 with
   |error c=>
    have hc:=zy h2;simp only[Aa];rw[N7 _ _ _ (by simpa using hc)];exact⟨fun l b h=>(by cases h),fun z h=>(by injection h with h;subst h;exact⟨rfl,hc⟩)⟩
   |ok q=>
    simp only[Cn,aR];exact Xw0 s n q.2 (acc++[⟨p.1,q.1⟩])
def Ew(s:ae):aG×Int:=
 let p:=ni [] (rdStr s 0) 0 0
 let z:=if p.2.2=0∧kindOf p.1=0 then 3 else p.2.2
 let q:=ni [] (rdStr s p.2.1) p.2.1 z
 let n:=Cj 400 s q.2.1 q.2.2
 let l:=Ih s n.1.toNat n.2.1 n.2.2 []
 let t:=ni [] (rdStr s l.2.1) l.2.1 l.2.2
 (⟨kindOf p.1,q.1,l.1,t.1,0,[],[]⟩,if t.2.2=0∧t.2.1≠s.length then 3 else t.2.2)
theorem Xxc(s:ae):(∀x,eF s= .ok x→Ew s=(x,0))∧ ∀z,eF s= .error z→(Ew s).2=z∧(z !=0)=true:=by
 unfold eF Ew;cases h1:rdStr s 0 with
 |error c=>
  have hc:=zy h1;have kQ:c≠0:=by simpa using hc
  simp only[Aa,dJ];rw[if_neg (fun h=>kQ h.1),z8 _ _ _ kQ];simp only[Lf _ _ _ kQ,N7 _ _ _ kQ,z8 _ _ _ kQ];rw[if_neg (fun h=>kQ h.1)];exact⟨fun x h=>(by cases h),fun z h=>(by injection h with h;subst h;exact⟨rfl,hc⟩)⟩
 |ok p=>
  simp only[Cn,aR];by_cases hk:kindOf p.1=0
  ·rw[if_pos hk,if_pos ⟨by trivial,hk⟩];have h3:(3:Int)≠0:=by decide
   simp only[z8 _ _ _ h3,Lf _ _ _ h3,N7 _ _ _ h3];exact⟨fun x h=>(by cases h),fun z h=>(by injection h with h;subst h;exact⟨rfl,rfl⟩)⟩
  ·rw[if_neg hk,if_neg (fun h=>hk h.2)];cases h2:rdStr s p.2 with
   |error c=>
    have hc:=zy h2;have kQ:c≠0:=by simpa using hc
    simp only[Aa,dJ,Lf _ _ _ kQ,N7 _ _ _ kQ,z8 _ _ _ kQ];rw[if_neg (fun h=>kQ h.1)];exact⟨fun x h=>(by cases h),fun z h=>(by injection h with h;subst h;exact⟨rfl,hc⟩)⟩
   |ok q=>
    simp only[Cn,aR];cases h3:ik 400 s q.2 with
    |error c=>
     have hc:=Xb h3;have kQ:c≠0:=by simpa using hc
     obtain⟨e1,e2⟩:=Xwz h3;have hcc:(Cj 400 s q.2 0).2.2≠0:=by rw[e1];exact kQ
     simp only[dJ,N7 _ _ _ hcc,z8 _ _ _ hcc];rw[if_neg (fun h=>hcc h.1)];exact⟨fun x h=>(by cases h),fun z h=>(by injection h with h;subst h;exact⟨e1,hc⟩)⟩
    |ok n=>
     rw[Xwy (x:=n.1) (b:=n.2) h3];simp only[aR];obtain⟨k1,k2⟩:=Xw0 s n.1.toNat n.2 [];cases h4:jo s n.1.toNat n.2 []with
     |error c=>
      obtain⟨e1,hc⟩:=k2 c h4;have kQ:c≠0:=by simpa using hc
      have hcc:(Ih s n.1.toNat n.2 0 []).2.2≠0:=by rw[e1];exact kQ
      simp only[dJ,z8 _ _ _ hcc];rw[if_neg (fun h=>hcc h.1)];exact⟨fun x h=>(by cases h),fun z h=>(by injection h with h;subst h;exact⟨e1,hc⟩)⟩
     |ok l=>
      rw[k1 l.1 l.2 h4];simp only[aR];cases h5:rdStr s l.2 with
      |error c=>
       have hc:=zy h5;have kQ:c≠0:=by simpa using hc
       simp only[Aa,dJ];rw[if_neg (fun h=>kQ h.1)];exact⟨fun x h=>(by cases h),fun z h=>(by injection h with h;subst h;exact⟨rfl,hc⟩)⟩
      |ok t=>
       simp only[Cn,aR];by_cases ht:t.2=s.length
       ·rw[if_neg (by simpa using ht),if_neg (fun h=>h.2 ht)];exact⟨fun x h=>(by injection h with h;subst h;rfl),fun z h=>(by cases h)⟩
       ·rw[if_pos ht,if_pos ⟨by trivial,ht⟩];exact⟨fun x h=>(by cases h),fun z h=>(by injection h with h;subst h;exact⟨rfl,rfl⟩)⟩
def XK(s nm q:ae)(l:List At)(t:ae×Nat×Int):aG×Int:=(⟨kindOf nm,q,l,t.1,0,[],[]⟩,if t.2.2=0∧t.2.1≠s.length then 3 else t.2.2)
def XL(s nm q:ae)(l:List At×Nat×Int):aG×Int:=XK s nm q l.1 (ni [] (rdStr s l.2.1) l.2.1 l.2.2)
def XM(s nm q:ae)(n:Int×Nat×Int):aG×Int:=XL s nm q (Ih s n.1.toNat n.2.1 n.2.2 [])
def XN(s nm:ae)(q:ae×Nat×Int):aG×Int:=XM s nm q.1 (Cj 400 s q.2.1 q.2.2)
def ak2(s:ae)(p:ae×Nat×Int):aG×Int:=XN s p.1 (ni [] (rdStr s p.2.1) p.2.1 (if p.2.2=0∧kindOf p.1=0 then 3 else p.2.2))
abbrev xhL(n:Nat)(C:Array Value)(z:Int):List (Option Tmp×Value):=
 [(some 87,.agg C),(some 88,dG (n+1)),(some 89,dG (n+1)),(some 90,.pointer (some ⟨n+1,2,none⟩)),(some 91,.int .i64 z),(none,undef),(some 3,.int .i64 z)]
theorem N8{u:Tmp}(h:fn.results=#[.cell p ty,.tmp u])(tmps:Array Value)(P:Program)(W:World){d:TypeDesc}(hp:tmps.getD p undef=dG g)
 (hg:W.heap[g]?=some (.cells C t (0,0))) (hd:(match d with| .struct _| .array _ _=>true|_=>false)=true) (hu:P.underlying ty=some d) (hi:(P.info? ty).map (·.size)=some C.size):
 (results fn tmps).run P W= .ok (.tuple #[.agg C,tmps.getD u undef]) W:=by
 have L1:(loadVar ty ⟨g,0,none⟩).run P W= .ok (.agg C) W:=run_loadVar_row W g t ty C (0,0) d hg hu (by cases d<;>first|rfl|cases hd) hi;have hp':tmps[p]?.getD undef=dG g:=by simpa using hp
 simp[results,h,hp',asAddr,L1,Sem.run_bind,Result.andThen]
section
variable {I:IH} {w W W':World} {s:ae} {a b:Nat} {z y:Int}
end
def Ii(s:ae)(a:Nat)(e:Int):Xt×Nat×Int:=
 let p:=ni 0 (rdNum s a) a e
 let q:=ni 0 (rdNum s p.2.1) p.2.1 p.2.2
 let r:=ni 0 (rdNum s q.2.1) q.2.1 q.2.2
 (⟨p.1,q.1,r.1⟩,r.2.1,r.2.2)
def JA(s:ae):Nat→Nat→Int→List Xt→List Xt×Nat×Int
 |0,a,e,acc=>(acc,a,e)
 |n+1,a,e,acc=>if e≠0 then(acc,a,e)else JA s n (Ii s a e).2.1 (Ii s a e).2.2 (acc++[(Ii s a e).1])
theorem JB(s:ae)(n a:Nat){e:Int}(h:e≠0)(acc:List Xt):JA s n a e acc=(acc,a,e):=by
 cases n with
 |zero=>rfl
 |succ n=>rw[JA,if_pos h]
theorem Xwx(s:ae):∀(n a:Nat) (acc:List Xt),(∀l b,jq s n a acc= .ok (l,b)→JA s n a 0 acc=(l,b,0))∧(∀z,jq s n a acc= .error z→(JA s n a 0 acc).2.2=z∧(z !=0)=true)
 |0,a,acc=>by
  refine⟨fun l b h=> ?_,fun z h=> ?_⟩
  ·rw[jq]at h;injection h with h
   injection h with h1 h2
   subst h1 h2;rfl
  ·rw[jq]at h;cases h
 |n+1,a,acc=>by
  rw[jq,JA,if_neg (by simp)];unfold Ii;cases h1:rdNum s a with
  |error c=>
   have hc:=Eh h1;have kQ:c≠0:=by simpa using hc
   simp only[Aa,z8 _ _ _ kQ,dJ,JB _ _ _ kQ];exact⟨fun l b h=>(by cases h),fun z h=>(by injection h with h;subst h;exact⟨rfl,hc⟩)⟩
  |ok p=>
   simp only[Cn,aR];cases h2:rdNum s p.2 with
   |error c=>
    have hc:=Eh h2;have kQ:c≠0:=by simpa using hc
    simp only[Aa,z8 _ _ _ kQ,dJ,JB _ _ _ kQ];exact⟨fun l b h=>(by cases h),fun z h=>(by injection h with h;subst h;exact⟨rfl,hc⟩)⟩
   |ok q=>
    simp only[Cn,aR];cases h3:rdNum s q.2 with
    |error c=>
     have hc:=Eh h3;have kQ:c≠0:=by simpa using hc
     simp only[Aa,dJ,JB _ _ _ kQ];exact⟨fun l b h=>(by cases h),fun z h=>(by injection h with h;subst h;exact⟨rfl,hc⟩)⟩
    |ok r=>
     simp only[Cn,aR];exact Xwx s n r.2 _
def Qz(t:ae×Nat×Int):aG×Int:=if t.2.2=0 then Ew t.1 else(⟨0,[],[],[],0,[],[]⟩,t.2.2)
def XO(s:ae):aG×Nat×Int:=
 let t:=ni [] (rdStr s 0) 0 0
 let e:=Qz t
 let z:=ni 0 (rdNum s t.2.1) t.2.1 e.2
 let d:=ni [] (rdStr s z.2.1) z.2.1 z.2.2
 let n:=Cj 65536 s d.2.1 d.2.2
 let l:=JA s n.1.toNat n.2.1 n.2.2 []
 (bU e.1 z.1 d.1 l.1,l.2.1,l.2.2)
def Co(s:ae):Rd aG:=
 Rb (rdStr s 0) fun h=>Rb (eF h.1) fun e=>Rb (rdNum s h.2) fun z=>Rb (rdStr s z.2) fun d=>Rb (ik 65536 s d.2) fun n=>Rb (jq s n.1.toNat n.2 []) fun l=>
 .ok (bU e z.1 d.1 l.1,l.2)
theorem Xwu{β γ:Type}(r:Except Int α)(f:α→Except Int β)(g:β→Except Int γ):Rb (Rb r f) g=Rb r fun x=>Rb (f x) g:=by
 cases r<;>rfl
theorem Xvd(s:ae):jJ s 0=Rb (Co s) fun p=>kz p.1 p.2:=by
 unfold jJ Co;simp only[Xwu,aR]
theorem Xyw(s:ae):(∀x b,Co s= .ok (x,b)→XO s=(x,b,0))∧ ∀z,Co s= .error z→(XO s).2.2=z∧(z !=0)=true:=by
 unfold Co XO Qz;cases h1:rdStr s 0 with
 |error c=>
  have hc:=zy h1;have kQ:c≠0:=by simpa using hc
  simp only[Aa,dJ];rw[if_neg kQ];simp only[z8 _ _ _ kQ,Lf _ _ _ kQ,JB _ _ _ kQ];exact⟨fun x b h=>(by cases h),fun z h=>(by injection h with h;subst h;exact⟨rfl,hc⟩)⟩
 |ok t=>
  simp only[Cn,aR,if_true];obtain⟨k1,k2⟩:=Xxc t.1;cases h2:eF t.1 with
  |error c=>
   obtain⟨e1,hc⟩:=k2 c h2;have kQ:(Ew t.1).2≠0:=by rw[e1];simpa using hc
   simp only[dJ,z8 _ _ _ kQ,Lf _ _ _ kQ,JB _ _ _ kQ];exact⟨fun x b h=>(by cases h),fun z h=>(by injection h with h;subst h;exact⟨e1,hc⟩)⟩
  |ok e=>
   rw[k1 e h2];simp only[aR];cases h3:rdNum s t.2 with
   |error c=>
    have hc:=Eh h3;have kQ:c≠0:=by simpa using hc
    simp only[Aa,dJ,z8 _ _ _ kQ,Lf _ _ _ kQ,JB _ _ _ kQ];exact⟨fun x b h=>(by cases h),fun z h=>(by injection h with h;subst h;exact⟨rfl,hc⟩)⟩
   |ok z=>
    simp only[Cn,aR];cases h4:rdStr s z.2 with
    |error c=>
     have hc:=zy h4;have kQ:c≠0:=by simpa using hc
     simp only[Aa,dJ,Lf _ _ _ kQ,JB _ _ _ kQ];exact⟨fun x b h=>(by cases h),fun z h=>(by injection h with h;subst h;exact⟨rfl,hc⟩)⟩
    |ok d=>
     simp only[Cn,aR];cases h5:ik 65536 s d.2 with
     |error c=>
      have hc:=Xb h5;have kQ:c≠0:=by simpa using hc
      obtain⟨e1,e2⟩:=Xwz h5;have hcc:(Cj 65536 s d.2 0).2.2≠0:=by rw[e1];exact kQ
      simp only[dJ,JB _ _ _ hcc];exact⟨fun x b h=>(by cases h),fun z h=>(by injection h with h;subst h;exact⟨e1,hc⟩)⟩
     |ok n=>
      rw[Xwy (x:=n.1) (b:=n.2) h5];simp only[aR];obtain⟨k1,k2⟩:=Xwx s n.1.toNat n.2 [];cases h6:jq s n.1.toNat n.2 []with
      |error c=>
       obtain⟨e1,hc⟩:=k2 c h6;simp only[dJ];exact⟨fun x b h=>(by cases h),fun z h=>(by injection h with h;subst h;exact⟨e1,hc⟩)⟩
      |ok l=>
       rw[k1 l.1 l.2 h6];simp only[aR];exact⟨fun x b h=>(by injection h with h;injection h with h1 h2;subst h1 h2;rfl),fun z h=>(by cases h)⟩
def fG:List (Option Tmp×Value)→Nat→Array Bool→Tmp→Value→Value
 | [],_,_,_,d=>d
 |(e,u)::l,k,s,t,d=>if e=some t then(if s.getD k false=true then u else d)else fG l (k+1) s t d
theorem XP:∀(l:List (Option Tmp×Value)) (k:Nat) (s:Array Bool) (a:Act) (t:Tmp),bL l→t<a.tmps.size→(cK l k s a).eval (.tmp t)=fG l k s t (a.eval (.tmp t))
 | [],_,_,_,_,_,_=>rfl
 |(e,u)::l,k,s,a,t,hp,ht=>by
  obtain⟨h1,h2⟩:=List.pairwise_cons.1 hp;rw[cK,fG];by_cases he:e=some t
  ·subst he;rw[if_pos rfl,Ub l _ _ _ _ fun p hp=>h1 p hp t rfl];split
   ·simp[Act.eval,Act.put,ht]
   ·rfl
  ·rw[if_neg he];by_cases hs:s.getD k false=true
   ·rw[if_pos hs,XP l _ _ _ _ h2 (by rw[Xpn];exact ht),Xik a u he]
   ·rw[if_neg hs];exact XP l _ _ _ _ h2 ht
theorem zC(hp:bL L)(ha:a'=cK L 0 s a)(t:Tmp)(ht:t<a.tmps.size):a'.tmps[t]?.getD undef=fG L 0 s t (a.tmps[t]?.getD undef):=by
 have h:=XP L 0 s a t hp ht;rw[←ha]at h;simpa[Act.eval]using h
theorem iF{d:Tmp}(hp:bL L)(ha:a'=cK L 0 s a)(hi:L[i]?=some (some d,v))(aV:s.getD i true=false):
 ({tmps:=a'.tmps.setIfInBounds d v,defers:=a'.defers}:Act)=cK L 0 (s.setIfInBounds i true) a:=j6 (d:=some d) hp ha hi aV
def uz(ops:Array Oper):Nat→Nat→Nat→Bool
 |0,k,i=>k==i
 |f+1,k,i=>k==i || (match ops[k]? with|some o=>o.after.any fun e=>Region.binds .any e&&uz ops f e.on i|none=>false)
theorem Xph(h:GY ops s):∀(f k i:Nat),uz ops f k i=true→s.getD k false=true→s.getD i false=true
 |0,k,i,hr,hk=>by
  have:k=i:=by simpa[uz]using hr
  subst this;exact hk
 |f+1,k,i,hr,hk=>by
  rw[uz,Bool.or_eq_true]at hr;rcases hr with hr|hr
  ·have:k=i:=by simpa using hr
   subst this;exact hk
  ·cases ho:ops[k]? with
   |none=>rw[ho]at hr;cases hr
   |some o=>
    rw[ho]at hr;simp only[Array.any_eq_true,Bool.and_eq_true]at hr;obtain⟨n,hn,h3,h4⟩:=hr;exact Xph h f _ i h4 (h k o ho hk _ (Array.getElem_mem hn) h3)
theorem xW(f k:Nat)(h:GY ops s)(hp:uz ops f k i=true)(aV:s.getD i true=false):s.getD k false=false:=by
 cases hk:s.getD k false with
 |false=>rfl
 |true=>have:=Xph h f k i hp hk;rw[Cb aV]at this;cases this
theorem Un(h:(s.setIfInBounds i true).getD g false=false):s.getD g false=false:=by
 by_cases e:i=g
 ·subst e;cases hg:s.getD i false with
  |false=>rfl
  |true=>
   have hlt:i<s.size:=by
    rcases Nat.lt_or_ge i s.size with h'|h'
    ·exact h'
    ·rw[Eg h']at hg;cases hg
   rw[KF hlt]at h;cases h
 ·rwa[getD_set_ne false e]at h
theorem Uo(h:(s.setIfInBounds i true).getD j false=true):i=j∨s.getD j false=true:=by
 by_cases e:i=j
 ·exact .inl e
 ·rw[getD_set_ne false e]at h;exact .inr h
structure vX {X:Type} (W:World) (j1 g1 j2 g2 j3 g3 j4 g4:Nat) (G0 G1 G2 G3 G4 Fin:X→World→Prop) (m:X→Nat) (t:TypeId) (s1 s2 s3:Nat) (R1 R2 R3:X→Array Value) (x:X) (s:Array Bool) (w:World):Prop where
 off:s.getD s1 false=false→Below W.heap.size W w
 inv:s.getD s1 false=false→G0 x w
 f1:s.getD j1 false=true→s.getD g1 false=false→s.getD s1 false=false→G1 x w
 f2:s.getD j2 false=true→s.getD g2 false=false→s.getD s1 false=false→G2 x w
 f3:s.getD j3 false=true→s.getD g3 false=false→s.getD s1 false=false→G3 x w
 f4:s.getD j4 false=true→s.getD g4 false=false→s.getD s1 false=false→G4 x w
 on:s.getD s1 false=true→ ∃wb,Below W.heap.size W wb∧Fin x wb∧wb.grownBy w (some (m x))∧
  w.heap[m x]?=some (.cells (if s.getD s3 false=true then R3 x else if s.getD s2 false=true then R2 x else R1 x) t (0,0))
section
variable {X:Type} {W w w':World} {j1 g1 j2 g2 j3 g3 j4 g4:Nat} {G0 G1 G2 G3 G4 Fin:X→World→Prop} {m:X→Nat} {t:TypeId} {s1 s2 s3:Nat} {R1 R2 R3:X→Array Value} {x:X} {s:Array Bool} {i:Nat}
theorem vX.start(n:Nat)(x:X)(h0:G0 x {W with drawn:=W.drawn+1}):vX W j1 g1 j2 g2 j3 g3 j4 g4 G0 G1 G2 G3 G4 Fin m t s1 s2 s3 R1 R2 R3 x (Array.replicate n false) {W with drawn:=W.drawn+1}:=
 ⟨fun _=>(Qb _ _).drew,fun _=>h0,fun h=>(by rw[xR]at h;cases h),fun h=>(by rw[xR]at h;cases h),fun h=>(by rw[xR]at h;cases h),fun h=>(by rw[xR]at h;cases h),fun h=>(by rw[xR]at h;cases h)⟩
theorem vX.pure(h:vX W j1 g1 j2 g2 j3 g3 j4 g4 G0 G1 G2 G3 G4 Fin m t s1 s2 s3 R1 R2 R3 x s w)(hd:i≠j1∧i≠j2∧i≠j3∧i≠s1∧i≠s2∧i≠s3∧i≠j4):vX W j1 g1 j2 g2 j3 g3 j4 g4 G0 G1 G2 G3 G4 Fin m t s1 s2 s3 R1 R2 R3 x (s.setIfInBounds i true) w:=by
 obtain⟨h1,h2,h3,h4,h5,h6,h7⟩:=hd;refine⟨?_,?_,?_,?_,?_,?_,?_⟩
 ·rw[getD_set_ne false h4];exact h.off
 ·rw[getD_set_ne false h4];exact h.inv
 ·rw[getD_set_ne false h1,getD_set_ne false h4];exact fun a b=>h.f1 a (Un b)
 ·rw[getD_set_ne false h2,getD_set_ne false h4];exact fun a b=>h.f2 a (Un b)
 ·rw[getD_set_ne false h3,getD_set_ne false h4];exact fun a b=>h.f3 a (Un b)
 ·rw[getD_set_ne false h7,getD_set_ne false h4];exact fun a b=>h.f4 a (Un b)
 ·rw[getD_set_ne false h4,getD_set_ne false h5,getD_set_ne false h6];exact h.on
theorem vX.Ab(h:vX W j1 g1 j2 g2 j3 g3 j4 g4 G0 G1 G2 G3 G4 Fin m t s1 s2 s3 R1 R2 R3 x s w)(aV:s.getD s1 true=false)(hf:Fin x w)(h2:s.getD s2 false=false)(h3:s.getD s3 false=false)(hd:s1≠s2∧s1≠s3)
 {cur:Array Value} (hg:w.heap[m x]?=some (.cells cur t (0,0)))  (hR:R=R1 x):vX W j1 g1 j2 g2 j3 g3 j4 g4 G0 G1 G2 G3 G4 Fin m t s1 s2 s3 R1 R2 R3 x (s.setIfInBounds s1 true) (w.setRow (m x) R):=by
 have e:=KF (yI aV);have hl:s.getD s1 false=false:=Cb aV;refine⟨fun q=>(by rw[e]at q;cases q),fun q=>(by rw[e]at q;cases q),fun _ _ q=>(by rw[e]at q;cases q),fun _ _ q=>(by rw[e]at q;cases q),fun _ _ q=>(by rw[e]at q;cases q),fun _ _ q=>(by rw[e]at q;cases q),fun _=>⟨w,h.off hl,hf,BP,?_⟩⟩;rw[getD_set_ne false hd.1,getD_set_ne false hd.2,h2,h3,hR];exact setRow_heap w (m x) cur _ t (0,0) hg
end
structure Bq {X:Type} (W:World) (j1 j2 j3 j4:Nat) (G1 G2 G3 G4:X→World→Prop) (x:X) (s:Array Bool) (w:World):Prop where
 off:Below W.heap.size W w
 f1:s.getD j1 false=true→G1 x w
 f2:s.getD j2 false=true→G2 x w
 f3:s.getD j3 false=true→G3 x w
 f4:s.getD j4 false=true→G4 x w
section
variable {X:Type} {W w w':World} {j1 j2 j3 j4:Nat} {G1 G2 G3 G4:X→World→Prop} {x:X} {s:Array Bool} {i:Nat}
theorem Bq.start(n:Nat)(x:X):Bq W j1 j2 j3 j4 G1 G2 G3 G4 x (Array.replicate n false) {W with drawn:=W.drawn+1}:=
 ⟨(Qb _ _).drew,fun h=>(by rw[xR]at h;cases h),fun h=>(by rw[xR]at h;cases h),fun h=>(by rw[xR]at h;cases h),fun h=>(by rw[xR]at h;cases h)⟩
theorem Bq.pure(h:Bq W j1 j2 j3 j4 G1 G2 G3 G4 x s w)(hd:i≠j1∧i≠j2∧i≠j3∧i≠j4):Bq W j1 j2 j3 j4 G1 G2 G3 G4 x (s.setIfInBounds i true) w:=by
 obtain⟨h1,h2,h3,h4⟩:=hd;refine⟨h.off,?_,?_,?_,?_⟩
 ·rw[getD_set_ne false h1];exact h.f1
 ·rw[getD_set_ne false h2];exact h.f2
 ·rw[getD_set_ne false h3];exact h.f3
 ·rw[getD_set_ne false h4];exact h.f4
theorem Bq.step(h:Bq W j1 j2 j3 j4 G1 G2 G3 G4 x s w)(hb:Below W.heap.size W w'){x':X}
 (k1:i=j1∨(s.getD j1 false=true∧G1 x w)→G1 x' w') (k2:i=j2∨(s.getD j2 false=true∧G2 x w)→G2 x' w') (k3:i=j3∨(s.getD j3 false=true∧G3 x w)→G3 x' w') (k4:i=j4∨(s.getD j4 false=true∧G4 x w)→G4 x' w'):
 Bq W j1 j2 j3 j4 G1 G2 G3 G4 x' (s.setIfInBounds i true) w':=
 ⟨hb,fun a=>k1 ((Uo a).imp id fun q=>⟨q,h.f1 q⟩),fun a=>k2 ((Uo a).imp id fun q=>⟨q,h.f2 q⟩),fun a=>k3 ((Uo a).imp id fun q=>⟨q,h.f3 q⟩),fun a=>k4 ((Uo a).imp id fun q=>⟨q,h.f4 q⟩)⟩
end
structure Pt2 (W:World) (m1 m2:Nat) (R1 R2:Array Value) (s:Array Bool) (w:World):Prop where
 eq:w=if s.getD 3 false=true then(({W with drawn:=W.drawn+1}:World).setRow m1 R1).setRow m2 R2 else if s.getD 2 false=true then({W with drawn:=W.drawn+1}:World).setRow m1 R1 else{W with drawn:=W.drawn+1}
section
variable {W w:World} {m1 m2:Nat} {R1 R2:Array Value} {s:Array Bool} {i:Nat}
end
theorem one_row{cs:List Value}{x:α}(hw:Ok J W)(hg:W.heap[g]?=some (.cells cs.toArray E (0,0)))(hn:J g=none)(hx:T.rd J cs x):
 ∃J',(∀b c,J b=some c→J' b=some c)∧Ext g J J'∧Ok J' W∧(∀b,b≠g→J' b=J b)∧bf T J' (.slice (some ⟨g,0,none⟩) 1 1) [x]:=by
 have uM:∀b c,J b=some c→(J.add g cs.toArray) b=some c:=fun b c hc=>by
  unfold IH.add;by_cases e:b=g
  ·subst e;rw[hn]at hc;cases hc
  ·rw[if_neg e];exact hc
 refine⟨J.add g cs.toArray,uM,Ext.add (Qn _) J _,hw.add hg,fun b hb=>by simp[IH.add,hb],⟨_,1,rfl,Qn _,by unfold maxLen;omega,fun _=>⟨g,0,cs.toArray,rfl,by simp[IH.add],fun i hi=> ?_⟩⟩⟩;have h0:i=0:=by simp at hi;omega
 subst h0;refine⟨cs,T.mono uM hx,fun j u hu=> ?_⟩;simpa using hu
theorem xw{t:Tmp}{b:Bool}(ho:(ops[j]?).bind (·.dst)=some t)(h:tmps[t]?.getD undef= .bool b):yielded ops tmps j=some b:=by
 unfold yielded;rw[ho];cases ht:tmps[t]? with
 |none=>rw[ht]at h;cases h
 |some v=>rw[ht]at h;have h:v= .bool b:=h;subst h;simp[ht]
section
variable {X:Type} {W w w':World} {j1 g1 j2 g2 j3 g3 j4 g4:Nat} {G0 G1 G2 G3 G4 Fin:X→World→Prop} {m:X→Nat} {t:TypeId} {s1 s2 s3:Nat} {R1 R2 R3:X→Array Value} {x:X} {s:Array Bool}
theorem vX.cell(h:vX W j1 g1 j2 g2 j3 g3 j4 g4 G0 G1 G2 G3 G4 Fin m t s1 s2 s3 R1 R2 R3 x s w){a:Addr}(hc:W.cell? a=some v)(bZ:m x≠a.block):w.cell? a=some v:=by
 cases hs:s.getD s1 false with
 |false=>exact dh (h.off hs) hc
 |true=>
  obtain⟨wb,hb,_,hg,_⟩:=h.on hs;exact xP hg (fun q=>bZ (by injection q)) (dh hb hc)
end
theorem XQ{t:Tmp}(ho:(ops[j]?).bind (·.dst)=some t)(h:tmps[t]?.getD undef=undef):yielded ops tmps j=none:=by
 unfold yielded;rw[ho];cases ht:tmps[t]? with
 |none=>simp[ht]
 |some v=>rw[ht]at h;have h:v=undef:=h;subst h;simp[ht,undef]
structure Cq (W:World) (i1 i2 s1 s2:Nat) (t:TypeId) (Z R1 R2:Array Value) (x:Nat×Nat) (s:Array Bool) (w:World):Prop where
 dE:Below W.heap.size W w
 b1:s.getD i1 false=true→W.heap.size≤x.1∧w.heap[x.1]?=some (.cells (if s.getD s1 false=true then R1 else Z) t (0,0))
 b2:s.getD i2 false=true→W.heap.size≤x.2∧w.heap[x.2]?=some (.cells (if s.getD s2 false=true then R2 else Z) t (0,0))
 ne:s.getD i1 false=true→s.getD i2 false=true→x.1≠x.2
section
variable {W w:World} {i1 i2 s1 s2:Nat} {t:TypeId} {Z R1 R2:Array Value} {x:Nat×Nat} {s:Array Bool} {i:Nat}
theorem Cq.start(n:Nat)(x:Nat×Nat):Cq W i1 i2 s1 s2 t Z R1 R2 x (Array.replicate n false) {W with drawn:=W.drawn+1}:=
 ⟨(Qb _ _).drew,fun h=>(by rw[xR]at h;cases h),fun h=>(by rw[xR]at h;cases h),fun h=>(by rw[xR]at h;cases h)⟩
theorem Cq.pure(h:Cq W i1 i2 s1 s2 t Z R1 R2 x s w)(hd:i≠i1∧i≠i2∧i≠s1∧i≠s2):Cq W i1 i2 s1 s2 t Z R1 R2 x (s.setIfInBounds i true) w:=by
 obtain⟨h1,h2,h3,h4⟩:=hd;refine⟨h.dE,?_,?_,?_⟩
 ·rw[getD_set_ne false h1,getD_set_ne false h3];exact h.b1
 ·rw[getD_set_ne false h2,getD_set_ne false h4];exact h.b2
 ·rw[getD_set_ne false h1,getD_set_ne false h2];exact h.ne
theorem Cq.XR(h:Cq W i1 i2 s1 s2 t Z R1 R2 x s w)(hd:i1≠i2∧i1≠s1∧i1≠s2)(h1:s.getD s1 false=false):Cq W i1 i2 s1 s2 t Z R1 R2 (w.heap.size,x.2) (s.setIfInBounds i1 true) (w.alloc (.cells Z t)):=by
 obtain⟨d1,d2,d3⟩:=hd;refine⟨h.dE.alloc h.dE.size _,fun _=>⟨h.dE.size,?_⟩,?_,fun _ hq=> ?_⟩
 ·rw[getD_set_ne false d2,h1];exact heap_alloc_new w _
 ·rw[getD_set_ne false d1,getD_set_ne false d3];intro q;obtain⟨k1,k2⟩:=h.b2 q;exact⟨k1,(Below.heap_alloc w _ _ (Qg k2)).trans k2⟩
 ·rw[getD_set_ne false d1]at hq;have:=(Qi (h.b2 hq).2).1;show w.heap.size≠x.2;omega
theorem Cq.Ab(h:Cq W i1 i2 s1 s2 t Z R1 R2 x s w)(aV:s.getD s1 true=false)(hd:s1≠i1∧s1≠i2∧s1≠s2)(h1:s.getD i1 false=true)(hR:R=R1):Cq W i1 i2 s1 s2 t Z R1 R2 x (s.setIfInBounds s1 true) (w.setRow x.1 R):=by
 obtain⟨d1,d2,d3⟩:=hd;obtain⟨k1,k2⟩:=h.b1 h1;refine⟨h.dE.grown BP h.dE.size (fun g q=>by injection q with q;omega),fun _=>⟨k1,?_⟩,?_,?_⟩
 ·rw[KF (yI aV),if_pos rfl,hR];exact setRow_heap w x.1 _ _ t (0,0) k2
 ·rw[getD_set_ne false d2,getD_set_ne false d3];intro q;obtain⟨k3,k4⟩:=h.b2 q;exact⟨k3,iL k4 BP (fun e=>h.ne h1 q (by injection e))⟩
 ·rw[getD_set_ne false d1,getD_set_ne false d2];exact h.ne
end
def XT(e:aG)(z:Int)(d:ae)(l:List Xt×Nat×Int):aG×Nat×Int:=(bU e z d l.1,l.2.1,l.2.2)
def XU(s:ae)(e:aG)(z:Int)(d:ae)(n:Int×Nat×Int):aG×Nat×Int:=XT e z d (JA s n.1.toNat n.2.1 n.2.2 [])
def XV(s:ae)(e:aG)(z:Int)(d:ae×Nat×Int):aG×Nat×Int:=XU s e z d.1 (Cj 65536 s d.2.1 d.2.2)
def XW(s:ae)(e:aG)(z:Int×Nat×Int):aG×Nat×Int:=XV s e z.1 (ni [] (rdStr s z.2.1) z.2.1 z.2.2)
def ak6(s:ae)(a:Nat)(e:aG×Int):aG×Nat×Int:=XW s e.1 (ni 0 (rdNum s a) a e.2)
def QA(x y:Int)(r:Int×Nat×Int):Xt×Nat×Int:=(⟨x,y,r.1⟩,r.2.1,r.2.2)
def QB(s:ae)(x:Int)(q:Int×Nat×Int):Xt×Nat×Int:=QA x q.1 (ni 0 (rdNum s q.2.1) q.2.1 q.2.2)
def aek(s:ae)(p:Int×Nat×Int):Xt×Nat×Int:=QB s p.1 (ni 0 (rdNum s p.2.1) p.2.1 p.2.2)
section
variable {I J J':IH} {w W W':World} {s:ae} {m a b:Nat} {z y:Int}
end
abbrev dzL(n:Nat)(z:Int)(x:Unit):List (Option Tmp×Value):=
 [(some 86,.agg aC),(some 87,.pointer (some ⟨n+1,0,none⟩)),(some 88,.pointer (some ⟨n+1,0,none⟩)),(some 89,.pointer (some ⟨n+1,2,none⟩)),(some 90,.int .i64 z),(none,undef),(some 5,.int .i64 0),(some 6,.int .i64 z)]
abbrev dkL(n m a:Nat)(e:aG)(va vx:Value)(x:Unit):List (Option Tmp×Value):=
 [(some 91,fB e va vx),(some 92,.pointer (some ⟨n+1,0,none⟩)),(some 93,.pointer (some ⟨n+1,0,none⟩)),(some 94,.pointer (some ⟨n+1,1,none⟩)),(some 95,.int .i64 (a:Int)),(none,undef),(some 5,.int .i64 (a:Int)),(some 6,.int .i64 0)]
def ckH(h:Nat)(b:UInt8):Nat:=(2*h+40503*(b.toNat+1))%65536
def Ex:ae→Nat→Nat→Nat
 | [],i,_=>i
 |b::r,i,h=>if i+1=96∨(16≤i+1∧ckH h b<2048)then i+1 else Ex r (i+1) (ckH h b)
def Ey(s:ae):Nat:=Ex s 0 0
def Br:Nat→ae→List ae
 |0,_=> []
 |n+1,s=>if s=[]then []else s.take (Ey s)::Br n (s.drop (Ey s))
def Ij(s:ae):List ae:=Br s.length s
structure Sg where
 n:Int
 d:ae
def rD:ae→Nat
 | []=>0
 |b::r=>if b=0 then rD r+1 else 0
def Ez(d:ae):List Sg:=if d=[]then []else [⟨0,d⟩]
def Lg:Nat→ae→ae→List Sg
 |0,acc,_=>Ez acc
 |f+1,acc,r=>
  if r=[]then Ez acc
  else if 32≤rD r then Ez acc++⟨(rD r:Nat),[]⟩::Lg f [] (r.drop (rD r))
  else Lg f (acc++r.take (max (rD r) 1)) (r.drop (max (rD r) 1))
def XX(acc r:ae):List Sg:=Lg r.length acc r
def JC(s:ae):List Sg:=XX [] s
def aem(l:List Sg):Nat:=(l.map fun g=>g.n.toNat+g.d.length).sum
structure Ck where
 d:ae
 x:Xt
structure EA where
 XY:List Ck
 mh:Int
 str:ae
def JD:List Ck→ae→Option Xt
 | [],_=>none
 |c::l,d=>if c.d=d then some c.x else JD l d
def QC(l:List Xt)(x:Xt):List Xt:=
 match l.getLast? with
 |none=> [x]
 |some y=>if x.s≠0∧y.s=x.s∧y.o+y.n=x.o then l.dropLast++[⟨y.s,y.o,y.n+x.n⟩]else l++[x]
def QD(S:EA)(c:ae):Xt:=⟨S.mh,(S.str.length:Nat),(c.length:Nat)⟩
def QE(S:EA)(c:ae):EA×Xt:=
 match JD S.XY (dM c)with
 |some x=>(S,x)
 |none=>(⟨S.XY++[⟨dM c,QD S c⟩],S.mh,S.str++c⟩,QD S c)
def XZ(p:EA×List Xt)(c:ae):EA×List Xt:=((QE p.1 c).1,QC p.2 (QE p.1 c).2)
def QF(p:EA×List Xt)(g:Sg):EA×List Xt:=if g.d=[]then(p.1,QC p.2 ⟨0,0,g.n⟩)else(Ij g.d).foldl XZ p
def ak7(S:EA)(c:ae):EA×List Xt×Int:=
 if S.mh<1∨255<S.mh then(S,[],1)else if 65536<c.length then(S,[],6)
 else(((JC c).foldl QF (S,[])).1,((JC c).foldl QF (S,[])).2,0)
def X0(S:EA)(n:Int):EA×Int:=if n<1∨255<n then(S,2)else if n≤S.mh then(S,14)else(⟨S.XY,n,[]⟩,0)
def uA(st:List ae)(x:Xt):Bool:=decide (x.n<0) || decide (x.o<0) || decide (x.s<0) || decide ((st.length:Int)<x.s) || (x.s==0&&x.o !=0)
def lK(st:List ae)(x:Xt):ae:=st.getD (x.s-1).toNat []
def jV(st:List ae):List Xt→ae→ae×Int
 | [],out=>(out,0)
 |x::r,out=>
  if uA st x=true then([],2)
  else if 0<x.s∧(((lK st x).length:Int)<x.o∨((lK st x).length:Int)-x.o<x.n)then([],2)
  else if 65536-(out.length:Int)<x.n then([],6)
  else jV st r (out++if x.s=0 then List.replicate x.n.toNat 0 else((lK st x).drop x.o.toNat).take x.n.toNat)
def l7(st:List ae)(l:List Xt):ae×Int:=jV st l []
