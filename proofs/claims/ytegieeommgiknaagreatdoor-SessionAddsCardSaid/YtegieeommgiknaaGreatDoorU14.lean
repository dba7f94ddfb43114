/- Lemmas for the claim's theorem;conditions: as each says. -/
import Derived.Test.YtegieeommgiknaaGreatDoorU13
set_option maxHeartbeats 0
set_option maxRecDepth 100000
set_option linter.all false
namespace Go.Proofs.YtegieeommgiknaaGreatDoor
open Go.RowKit
variable{w:World}{b n:Nat}{s:bV}{ops:Array Oper}{w':World}{ve:Value}{i k B:Nat}{a:Act}{W:World}{e:bD}{acc r:af}
structure yh (W:World) (last j1 j2:Nat) (cs1 cs2:List (Nat×Value)) (fin:World→Prop) (x:Nat×Nat) (s:Array Bool) (w:World):Prop where
 eU:s.getD last false=false→Below W.heap.size W w
 f1:s.getD j1 false=true→s.getD last false=false→ ∀p∈cs1,w.cell? ⟨x.1,p.1,none⟩=some p.2
 f2:s.getD j2 false=true→s.getD last false=false→ ∀p∈cs2,w.cell? ⟨x.2,p.1,none⟩=some p.2
 fin:s.getD last false=true→fin w
section
variable {W w w':World} {last j1 j2:Nat} {cs1 cs2:List (Nat×Value)} {fin:World→Prop} {x:Nat×Nat} {s:Array Bool}
theorem yh.start(n:Nat)(x:Nat×Nat):yh W last j1 j2 cs1 cs2 fin x (Array.replicate n false) {W with drawn:=W.drawn+1}:=
 ⟨fun _=>(Qb _ _).drew,fun h=>(by rw[wJ]at h;cases h),fun h=>(by rw[wJ]at h;cases h),fun h=>(by rw[wJ]at h;cases h)⟩
theorem yh.step(h:yh W last j1 j2 cs1 cs2 fin x s w)(hl:s.getD last false=false)(hb:Below w.heap.size w w')(h1:i≠j1)(h2:i≠j2)(h3:i≠last):yh W last j1 j2 cs1 cs2 fin x (s.setIfInBounds i true) w':=by
 refine⟨fun _=>(h.eU hl).trans (hb.mono (h.eU hl).size),?_,?_,?_⟩
 ·rw[getD_set_ne false h1];exact fun a _ p hp=>aV hb (h.f1 a hl p hp)
 ·rw[getD_set_ne false h2];exact fun a _ p hp=>aV hb (h.f2 a hl p hp)
 ·rw[getD_set_ne false h3,hl];intro q;cases q
theorem yh.at1(h:yh W last j1 j2 cs1 cs2 fin x s w)(hl:s.getD last false=false)(hb:Below w.heap.size w w')(h2:j1≠j2)(h3:j1≠last)(hc:∀p∈cs1,w'.cell? ⟨n,p.1,none⟩=some p.2):yh W last j1 j2 cs1 cs2 fin (n,x.2) (s.setIfInBounds j1 true) w':=by
 refine⟨fun _=>(h.eU hl).trans (hb.mono (h.eU hl).size),fun _ _=>hc,?_,?_⟩
 ·rw[getD_set_ne false h2];exact fun a _ p hp=>aV hb (h.f2 a hl p hp)
 ·rw[getD_set_ne false h3,hl];intro q;cases q
theorem yh.at2(h:yh W last j1 j2 cs1 cs2 fin x s w)(hl:s.getD last false=false)(hb:Below w.heap.size w w')(h1:j2≠j1)(h3:j2≠last)(hc:∀p∈cs2,w'.cell? ⟨n,p.1,none⟩=some p.2):yh W last j1 j2 cs1 cs2 fin (x.1,n) (s.setIfInBounds j2 true) w':=by
 refine⟨fun _=>(h.eU hl).trans (hb.mono (h.eU hl).size),?_,fun _ _=>hc,?_⟩
 ·rw[getD_set_ne false h1];exact fun a _ p hp=>aV hb (h.f1 a hl p hp)
 ·rw[getD_set_ne false h3,hl];intro q;cases q
theorem yh.end'(aH:s.getD last true=false)(hf:fin w'):yh W last j1 j2 cs1 cs2 fin x (s.setIfInBounds last true) w':=by
 have e:=y9 (oO aH);exact⟨fun q=>(by rw[e]at q;cases q),fun _ q=>(by rw[e]at q;cases q),fun _ q=>(by rw[e]at q;cases q),fun _=>hf⟩
end
def Lt(ops:Array Oper)(s:Array Bool):Prop:=∀i o,ops[i]?=some o→s.getD i false=true→ ∀e∈o.after,Region.binds .any e=true→s.getD e.on false=true
def BN(ops:Array Oper):List Nat→Bool
 |i::j::r=>(match ops[i]? with|some o=>o.after.any fun e=>Region.binds .any e&&e.on==j|none=>false)&&BN ops (j::r)
 |_=>true
theorem Xkz{s:Array Bool}(h:Lt ops s):∀(p:List Nat) (k i:Nat),BN ops (k::p)=true→(k::p).getLast?=some i→s.getD k false=true→s.getD i false=true
 | [],k,i,_,hl,hk=>by simp at hl;exact hl▸hk
 |j::r,k,i,hp,hl,hk=>by
  unfold BN at hp;rw[Bool.and_eq_true]at hp;obtain⟨h1,h2⟩:=hp;cases ho:ops[k]? with
  |none=>rw[ho]at h1;simp at h1
  |some o=>
   rw[ho]at h1;simp only[Array.any_eq_true,Bool.and_eq_true,beq_iff_eq]at h1;obtain⟨n,hn,h3,h4⟩:=h1;exact Xkz h r j i h2 (by simpa using hl) (h4▸h k o ho hk _ (Array.getElem_mem hn) h3)
theorem gU{s:Array Bool}(h:Lt ops s)(p:List Nat)(hp:BN ops (k::p)=true)(hl:(k::p).getLast?=some i)(aH:s.getD i true=false):s.getD k false=false:=by
 cases hk:s.getD k false with
 |false=>rfl
 |true=>have:=Xkz h p k i hp hl hk;rw[gG aH]at this;cases this
theorem Xxa{s:Array Bool}(h:Lt ops s)(hi:i∈Region.ready .any ops s):Lt ops (s.setIfInBounds i true):=by
 obtain⟨aH,oi,dI,au⟩:=mem_ready.1 hi;have up:∀j,s.getD j false=true→(s.setIfInBounds i true).getD j false=true:=fun j hj=>by
  by_cases e:i=j
  ·subst e;exact y9 (oO aH)
  ·rw[getD_set_ne false e];exact hj
 intro j o ho hj e he hb;by_cases c:i=j
 ·subst c;rw[dI]at ho;cases ho;exact up _ (au e he hb)
 ·rw[getD_set_ne false c]at hj;exact up _ (h j o ho hj e he hb)
theorem Xux{L M:List (Option Tmp×Value)}{s:Array Bool}(i k:Nat)(hl:L.length=M.length)(h:∀j,j≠i→j≠k→L[j]?=M[j]?)(aH:s.getD i true=false)(hk:s.getD k false=false):dN L 0 s a=dN M 0 s a:=
 YG _ _ _ _ _ hl fun j hj=>by
  rw[Nat.zero_add]at hj;exact h j (fun e=>by rw[e,gG aH]at hj;cases hj) (fun e=>by rw[e,hk]at hj;cases hj)
theorem qR{P:Program}{Q:Exit→Act→World→Prop}{X:Type}{id:Nat}(L:X→List (Option Tmp×Value))(C:X→Array Bool→World→Prop)(hm:P.follows .mixedOrders=true)(hb:Du ops=true)(h0:∃x,C x (Array.replicate ops.size false) {w with drawn:=w.drawn+1})
 (xZ:∀x s a' w' i,s.size=ops.size→Lt ops s→a'=dN (L x) 0 s a→C x s w'→i∈Region.ready .any ops s→wpOp P ops Q i (fun a'' w''=> ∃y,a''=dN (L y) 0 (s.setIfInBounds i true) a∧C y (s.setIfInBounds i true) w'') a' w')
 (vR:∀x s a' w',(∀i,i<ops.size→s.getD i false=true)→a'=dN (L x) 0 s a→C x s w'→Q .normal a' w'):(Code.region id ops true).wp P Q a w:=by
 refine Xhk (X:=X) L (fun x s w'=>Lt ops s∧C x s w') hm hb ?_ ?_ ?_
 ·obtain⟨x,hx⟩:=h0;exact⟨x,fun i _ _ q=>(by rw[wJ]at q;cases q),hx⟩
 ·rintro x s a' w' i bS ha ⟨bO,hC⟩ hi;exact wpOp_mono (fun a'' w'' ⟨y,h1,h2⟩=>⟨y,h1,Xxa bO hi,h2⟩) (xZ x s a' w' i bS bO ha hC hi)
 ·rintro x s a' w' eu ha ⟨_,hC⟩;exact vR x s a' w' eu ha hC
theorem R7(n:Int)(h0:0≤n)(h1:n≤140737488355200)(w:World):
 Calls Tryz.prog 106 #[.int .i64 n] w fun e w'=>e= .returned (S (gm n))∧Below w.heap.size w w':=by
 obtain⟨m,rfl⟩:=Int.eq_ofNat_of_zero_le h0;exact UM m (by omega) w
theorem R8(I:IH)(hI:fG I)(n:Int)(h0:0≤n)(h1:n≤140737488355200)(w:World)(hw:Ok I w):
 Calls Tryz.prog 102 #[.int .i64 n] w fun e w'=>e= .returned (S (gm n))∧Below w.heap.size w w':=by
 obtain⟨m,rfl⟩:=Int.eq_ofNat_of_zero_le h0;exact UJ I hI m (by omega) w hw
theorem Xyc{p q:af}(h0:W.cell? ⟨b,0,none⟩=some (S p))(h1:W.cell? ⟨b,1,none⟩=some (S q)):xH W b 0 [p,q]:=fun j x hx=>by
 match j with
 |0=>cases hx;exact h0
 |1=>cases hx;exact h1
 |_+2=>simp at hx
theorem Xk1{T e:TypeId}{bs:List Value}(h:Lib.IsBuilder T e B b bs w)(o:Obj):Lib.IsBuilder T e B b bs (w.alloc o):=IE h ((Qb _ _).alloc (Qn _) _)
theorem Xu1(k:Int)(h1:1≤k)(h2:k≤6)(w:World):
 Calls Tryz.prog 193 #[] w fun e w'=>e= .returned (.slice (some ⟨w.heap.size,0,none⟩) 6 6)∧w'.cell? ⟨w.heap.size,k.toNat-1,none⟩=some (S (gp k))∧Below w.heap.size w w'∧w.heap.size<w'.heap.size:=by
 go_enter Tryz.func193,Tryz.ntmps193
 go_wp2;go_ret;refine⟨rfl,?_,(Qb _ _).alloc (Qn _) _,by simp⟩;have:k=1∨k=2∨k=3∨k=4∨k=5∨k=6:=by omega
 rcases this with rfl|rfl|rfl|rfl|rfl|rfl<;>simp[gp]
theorem bP.far{va vx:Value}(h:bP w n e va vx)(hb:Below B w w')(hn:n<B):bP w' n e va vx:=
 ⟨(hb.cell hn).trans h.c0,(hb.cell hn).trans h.c1,(hb.cell hn).trans h.c2,(hb.cell hn).trans h.c3,(hb.cell hn).trans h.c4,(hb.cell hn).trans h.c5,(hb.cell hn).trans h.c6⟩
abbrev R9(n:Nat)(e:bD)(N:af)(x:Nat×Nat):List (Option Tmp×Value):=
 [(some 13,.slice (some ⟨x.1,0,none⟩) 6 6),(some 14,.pointer (some ⟨n,0,none⟩)),(some 15,.int .i64 e.av),(some 16,.int .i64 (e.av-1)),(some 17,.pointer (some ⟨x.1,e.av.toNat-1,none⟩)),(some 18,S (gp e.av)),
  (some 19,.pointer (some ⟨n,1,none⟩)),(some 20,S e.aj),(some 21,.slice (some ⟨x.2,0,none⟩) 2 2),(some 22,S N),(some 23,.tuple #[.int .i64 (N.length:Int),.nilIface])]
theorem yK{N:af}{x:Nat×Nat}:bC (R9 n e N x):=by
 unfold bC;simp
theorem Xw2(I:IH)(hI:fG I)(e:bD)(va vx:Value)(gK:aZ nk I va e.ag)(kw:aZ mU I vx e.aC)(lQ:e.Wf)(qp:e.aj.length≤4294967280)(zu:e.target.length≤4294967280)(hc:sS e)(he:aX e=0)(w:World)(hw:Ok I w):
 Calls Tryz.prog 151 #[iF e va vx] w fun r w'=>r= .returned (.tuple #[S (kT e),.int .i64 0])∧Below w.heap.size w w':=by
 have mY:=Qh (fun w hw=>Yp I hI e va vx gK kw lQ qp zu w hw);obtain⟨aa,ca,rfl,_,_,_⟩:=id gK;obtain⟨ax,cx,rfl,_,_,_⟩:=id kw;have k1:=hc.k1;have k6:=hc.k6;have U8:=hc.aj;have U9:=hc.target;have SQ:=hc.La;have Dk:=Qh hc.UH;have Hc:=Qh hc;rw[he]at mY;have i0:IntKind.i64.wrap (e.av-1)=e.av-1:=IntWalk.i64_in _ (by omega);have i1:0≤e.av-1:=by omega
 have i2:e.av-1<6:=by omega
 clear he hc;go_enter Tryz.func151,Tryz.ntmps151
 go_wp2_with fail
 refine(mY.O _ (hw.alloc _)).mono ?_;rintro e1 w1 ⟨rfl,aG⟩;have kJ:=Qh (dP (e:=e) rfl aG);have aO:Ok I w1:=(hw.alloc _).below (Qn _) aG;have aM:=((Qb w.heap.size w).alloc (Qn _) (.cells #[.int .i64 e.av,S e.aj,.slice aa e.ag.length ca,S e.target,.int .i64 e.size,S e.aD,.slice ax e.aC.length cx] 63)).trans (aG.mono (by simp));have qC:Lib.IsBuilder 153 5 w1.heap.size w1.heap.size (Lib.byteCells []) (w1.alloc (.cells #[.pointer none,.slice none 0 0] 153)):=Lib.fresh_isBuilder _ _ w1;have dJ:w.heap.size<w1.heap.size:=by have:=aG.size;simp at this;omega
 go_wp2_with fail
 obtain⟨c0,c1,c2,c3,c4,c5,c6⟩:=bP.past kJ.O (.cells #[.pointer none,.slice none 0 0] 153);have Al:=vD (gp e.av) (by have:=Ym e.av;omega);have Gw:=Ym e.av;have WW:=vD e.aj (by omega);have Rb:jv [gp e.av,e.aj]=fA (gp e.av)++fA e.aj:=by simp[jv]
 have Kv:(jv [gp e.av,e.aj]).length≤300:=by rw[Rb,List.length_append];omega
 have bI:=Qh (fun b w hv hw=>Xib I hI b 0 2 2 [gp e.av,e.aj] rfl (Qn _) (by decide) w hv (by omega) hw);obtain⟨N,hN⟩:∃N,jv [gp e.av,e.aj]=N:=⟨_,rfl⟩;rw[hN]at bI Kv;rw[Rb]at hN;have HN:=Qh hN;clear Rb hN;obtain⟨W5,NC⟩:∃W5,w1.alloc (.cells #[.pointer none,.slice none 0 0] 153)=W5:=⟨_,rfl⟩;have eG:Below w1.heap.size w1 W5:=by rw[←NC];exact(Qb _ _).alloc (Qn _) _
 have CK:Ok I W5:=by rw[←NC];exact aO.alloc _
 have WX:w1.heap.size<W5.heap.size:=by rw[←NC];simp
 change Code.wp _ _ _ _ (w1.alloc (.cells #[.pointer none,.slice none 0 0] 153));rw[NC];rw[NC]at qC c0 c1;have hkn:(e.av-1).toNat=e.av.toNat-1:=by omega
 refine qR (X:=Nat×Nat) (R9 w.heap.size e N) (yh W5 10 0 8 [(e.av.toNat-1,S (gp e.av))] [(0,S (gp e.av)),(1,S e.aj)] (fun w5=>Lib.IsBuilder 153 5 w1.heap.size w1.heap.size (Lib.byteCells N) w5∧w1.heap.size<w5.heap.size∧Below w1.heap.size w1 w5)) (by kernel_rfl) (by kernel_rfl) ?_ ?_ ?_
 ·exact⟨(0,0),yh.start _ _⟩
 ·rintro x s a' w' i bS bO ha hC hi;obtain⟨aH,oi,dI,au⟩:=mem_ready.1 hi;rcases i with _|_|_|_|_|_|_|_|_|_|_|i
  rotate_left 11
  ·simp at dI
  all_goals
   have dH:=dI;simp at dI;subst dI;simp[Region.binds]at au
  ·have hl:s.getD 10 false=false:=gU bO [9,8,5,4,0] (by kernel_rfl) (by rfl) aH;have h4:s.getD 4 false=false:=gU bO [0] (by kernel_rfl) (by rfl) aH;have ha:=ha.trans (Xux (L:=R9 w.heap.size e N x) (M:=R9 w.heap.size e N (w'.heap.size,x.2)) 0 4 rfl (fun j h0 h4=>by
    rcases j with _|_|_|_|_|j<;>first|rfl|(exact absurd rfl h0)|(exact absurd rfl h4)|simp) aH h4)
   refine wpOp_step dH (fun K' hK=> ?_);rw[if_pos (by rfl)];unfold Oper.wp;simp[go_sem,Oper.upon];refine(Xu1 e.av k1 k6 w').mono ?_;rintro r2 w2 ⟨rfl,rH,aL,gJ⟩;exact hK _ _ ⟨(w'.heap.size,x.2),dS (d:=some 13) (v:= .slice (some ⟨w'.heap.size,0,none⟩) 6 6) yK ha rfl aH,hC.at1 hl aL (by decide) (by decide) (fun p hp=>by simp at hp;subst hp;exact rH)⟩
  ·have e1:a'.tmps[1]?.getD undef= .pointer (some ⟨w.heap.size,0,none⟩):=oL ha (by simp);have hl:s.getD 10 false=false:=gU bO [9,8,5,4,3,2,1] (by kernel_rfl) (by rfl) aH;refine wpOp_step dH (fun K' hK=> ?_);rw[if_pos (by rfl)];unfold Oper.wp;simp[go_sem,e1,Oper.upon];exact hK _ _ ⟨x,dS (d:=some 14) (v:=(.pointer (some ⟨w.heap.size,0,none⟩))) yK ha rfl aH,hC.step hl (Qb _ _) (by decide) (by decide) (by decide)⟩
  ·have e14:a'.tmps[14]?.getD undef= .pointer (some ⟨w.heap.size,0,none⟩):=gI (i:=1) yK ha rfl (by simpa using au) (by simp);have hl:s.getD 10 false=false:=gU bO [9,8,5,4,3,2] (by kernel_rfl) (by rfl) aH;have c0':=aV (hC.eU hl) c0;refine wpOp_step dH (fun K' hK=> ?_);rw[if_pos (by rfl)];unfold Oper.wp;simp[go_sem,e14,c0',Oper.upon];exact hK _ _ ⟨x,dS (d:=some 15) (v:= .int .i64 e.av) yK ha rfl aH,hC.step hl (Qb _ _) (by decide) (by decide) (by decide)⟩
  ·have e15:a'.tmps[15]?.getD undef= .int .i64 e.av:=gI (i:=2) yK ha rfl (by simpa using au) (by simp);have hl:s.getD 10 false=false:=gU bO [9,8,5,4,3] (by kernel_rfl) (by rfl) aH;refine wpOp_step dH (fun K' hK=> ?_);rw[if_pos (by rfl)];unfold Oper.wp;simp[go_sem,e15,Oper.upon,i0];exact hK _ _ ⟨x,dS (d:=some 16) (v:= .int .i64 (e.av-1)) yK ha rfl aH,hC.step hl (Qb _ _) (by decide) (by decide) (by decide)⟩
  ·have e13:a'.tmps[13]?.getD undef= .slice (some ⟨x.1,0,none⟩) 6 6:=gI (i:=0) yK ha rfl (by simpa using au.1) (by simp);have e16:a'.tmps[16]?.getD undef= .int .i64 (e.av-1):=gI (i:=3) yK ha rfl (by simpa using au.2) (by simp);have hl:s.getD 10 false=false:=gU bO [9,8,5,4] (by kernel_rfl) (by rfl) aH;refine wpOp_step dH (fun K' hK=> ?_);rw[if_pos (by rfl)];unfold Oper.wp;simp[go_sem,e13,e16,i2,hkn,k1,Oper.upon];exact hK _ _ ⟨x,dS (d:=some 17) (v:= .pointer (some ⟨x.1,e.av.toNat-1,none⟩)) yK ha rfl aH,hC.step hl (Qb _ _) (by decide) (by decide) (by decide)⟩
  ·have e17:a'.tmps[17]?.getD undef= .pointer (some ⟨x.1,e.av.toNat-1,none⟩):=gI (i:=4) yK ha rfl (by simpa using au) (by simp);have hl:s.getD 10 false=false:=gU bO [9,8,5] (by kernel_rfl) (by rfl) aH;have h0:s.getD 0 false=true:=Xkz bO [0] 4 0 (by kernel_rfl) (by rfl) (by simpa using au);have hc:=hC.f1 h0 hl _ (List.mem_singleton.2 rfl);refine wpOp_step dH (fun K' hK=> ?_);rw[if_pos (by rfl)];unfold Oper.wp;simp[go_sem,e17,hc,Oper.upon];exact hK _ _ ⟨x,dS (d:=some 18) (v:=S (gp e.av)) yK ha rfl aH,hC.step hl (Qb _ _) (by decide) (by decide) (by decide)⟩
  ·have e1:a'.tmps[1]?.getD undef= .pointer (some ⟨w.heap.size,0,none⟩):=oL ha (by simp);have hl:s.getD 10 false=false:=gU bO [9,8,7,6] (by kernel_rfl) (by rfl) aH;refine wpOp_step dH (fun K' hK=> ?_);rw[if_pos (by rfl)];unfold Oper.wp;simp[go_sem,e1,Oper.upon];exact hK _ _ ⟨x,dS (d:=some 19) (v:=(.pointer (some ⟨w.heap.size,1,none⟩))) yK ha rfl aH,hC.step hl (Qb _ _) (by decide) (by decide) (by decide)⟩
  ·have e19:a'.tmps[19]?.getD undef= .pointer (some ⟨w.heap.size,1,none⟩):=gI (i:=6) yK ha rfl (by simpa using au) (by simp);have hl:s.getD 10 false=false:=gU bO [9,8,7] (by kernel_rfl) (by rfl) aH;have c1':=aV (hC.eU hl) c1;refine wpOp_step dH (fun K' hK=> ?_);rw[if_pos (by rfl)];unfold Oper.wp;simp[go_sem,e19,c1',Oper.upon];exact hK _ _ ⟨x,dS (d:=some 20) (v:=S e.aj) yK ha rfl aH,hC.step hl (Qb _ _) (by decide) (by decide) (by decide)⟩
  ·have e18:a'.tmps[18]?.getD undef=S (gp e.av):=gI (i:=5) yK ha rfl (by simpa using au.1) (by simp);have e20:a'.tmps[20]?.getD undef=S e.aj:=gI (i:=7) yK ha rfl (by first|simpa using au.2|simpa using au.2.1) (by simp);have hl:s.getD 10 false=false:=gU bO [9,8] (by kernel_rfl) (by rfl) aH;have ha:=ha.trans (YH (L:=R9 w.heap.size e N x) (M:=R9 w.heap.size e N (x.1,w'.heap.size)) 8 rfl (fun j bq=>by
    rcases j with _|_|_|_|_|_|_|_|_|j<;>first|rfl|(exact absurd rfl bq)|simp) aH)
   refine wpOp_step dH (fun K' hK=> ?_);rw[if_pos (by rfl)];unfold Oper.wp;simp[go_sem,e18,e20,Oper.upon];refine hK _ _ ⟨(x.1,w'.heap.size),dS (d:=some 21) (v:= .slice (some ⟨w'.heap.size,0,none⟩) 2 2) yK ha rfl aH,hC.at2 hl ((Qb _ _).alloc (Qn _) _) (by decide) (by decide) (fun p hp=> ?_)⟩;have jO:=Xjf w' [gp e.av,e.aj] 9;simp at hp;rcases hp with rfl|rfl
   ·exact jO 0 _ rfl
   ·exact jO 1 _ rfl
  ·have e21:a'.tmps[21]?.getD undef= .slice (some ⟨x.2,0,none⟩) 2 2:=gI (i:=8) yK ha rfl (by simpa using au.1) (by simp);have hl:s.getD 10 false=false:=gU bO [9] (by kernel_rfl) (by rfl) aH;have WE:=hC.f2 (by simpa using au.1) hl;have jO:xH w' x.2 0 [gp e.av,e.aj]:=Xyc (WE (0,_) (by simp)) (WE (1,_) (by simp));refine wpOp_step dH (fun K' hK=> ?_);rw[if_pos (by rfl)];unfold Oper.wp;simp[go_sem,e21,Oper.upon];refine(bI.O x.2 w' jO (CK.below (Qn _) (hC.eU hl))).mono ?_;rintro r4 w4 ⟨rfl,aS⟩;exact hK _ _ ⟨x,dS (d:=some 22) (v:=S N) yK ha rfl aH,hC.step hl aS (by decide) (by decide) (by decide)⟩
  ·have e22:a'.tmps[22]?.getD undef=S N:=gI (i:=9) yK ha rfl (by first|simpa using au|simpa using au.1|simpa using au.2) (by simp);have e5:a'.tmps[5]?.getD undef= .pointer (some ⟨w1.heap.size,0,none⟩):=oL ha (by simp);have hl:s.getD 10 false=false:=gG aH;have uY:=hC.eU hl;refine wpOp_step dH (fun K' hK=> ?_);rw[if_pos (by rfl)];unfold Oper.wp;simp[go_sem,e22,e5,Oper.upon];refine(Tryz.Builder_WriteString w1.heap.size w1.heap.size _ _ _ (IE qC uY) (by rw[ByteArray.size_mk',List.size_toArray];simp[Lib.byteCells];omega) (by have:=uY.size;omega)).mono ?_;rintro r5 w5 ⟨rfl,zT,df⟩;refine hK _ _ ⟨x,dS (d:=some 23) (v:= .tuple #[.int .i64 (N.length:Int),.nilIface]) yK ha rfl aH,yh.end' aH ⟨.inr ?_,zT.lt,(eG.trans (uY.mono (Nat.le_of_lt WX))).trans df⟩⟩;have:=zT;rw[Lib.strCells_toArray,Lib.byteCells,List.map_nil,List.nil_append]at this;exact this
 rintro x s a' w5 eu ha hC;obtain⟨zT,kX,uT⟩:=hC.fin (eu 10 (by decide));rw[qz _ _ _ _ (fun i hi=>by rw[Nat.zero_add];exact eu i (by simpa using hi))]at ha;subst ha;simp only[dE,Act.put];clear hC eu;have sU:∀b,w1.heap.size≤b→I b=none:=fun b hb=>aO.fresh hb;have fZ:Ok I w5:=aO.below (Qn _) uT;have Lu:=Qh zT;have oW:=Qh (kJ.O.aR (uT.mono (Qn _)));have eH:=aM.trans (uT.mono aM.size);have vN:=Xpq SQ Dk.O;have Hl:=Qh vN;have hz:gm e.ag.length=qD e.ag 0:=by rw[qD,List.take_zero,List.flatMap_nil,List.append_nil]
 have Hnu:=Qh (fun w hw=>UJ I hI e.ag.length (by omega) w hw);rw[hz]at Hnu;have as2:=vN 0;clear qC zT aG aM uT kJ c0 c1 c2 c3 c4 c5 c6 aO hz vN bI i0 i1 i2 Al Gw WW eG CK WX hkn NC;obtain⟨c0,c1,c2,c3,c4,c5,c6⟩:=oW.O;go_wp2_with fail
 refine(Hnu.O _ fZ).mono ?_;rintro e6 w6 ⟨rfl,gF⟩;have Va:=IE Lu.O gF;have fF:Ok I w6:=fZ.below (Qn _) gF;have Cr:=Qh (oW.O.aR gF);have lY:=eH.trans (gF.mono eH.size);have acN:=gF.size;clear gF eH fZ oW c0 c1 c2 c3 c4 c5 c6 Lu;go_wp2_with fail
 refine(Tryz.Builder_WriteString w1.heap.size w1.heap.size _ _ _ Va (by rw[ByteArray.size_mk',List.size_toArray];simp[Lib.byteCells];omega) (by omega)).mono ?_;rintro e7 w7 ⟨rfl,xN,ji⟩;have Dv:=Qh (show Lib.IsBuilder 153 5 w1.heap.size w1.heap.size (Lib.byteCells (N++qD e.ag 0)) w7 from .inr (by
  have:=xN;rw[Lib.strCells_toArray,Lib.byteCells,Lib.byteCells,←List.map_append]at this;exact this))
 have mZ:=xN.lt;have Il:Below w1.heap.size w6 w7:=ji;have eY:Ok I w7:=fF.of_block fun b c hb=>Il.block b (Nat.lt_of_not_le fun h=>by rw[sU b h]at hb;cases hb);have yH:=Qh (Cr.O.far Il dJ);have sD:=lY.trans (Il.mono (Nat.le_of_lt dJ));clear Va xN ji Il lY fF Cr Hnu;obtain⟨c0,c1,c2,c3,c4,c5,c6⟩:=yH.O;have Hv:=Qh gK;clear gK kw;go_wp2_with fail
 clear c0 c1 c2 c3 c4 c5 c6;go_loopw [32] (fun Pf wr=> ∃k:Nat,k≤e.ag.length∧Pf= .int .i64 k∧Lib.IsBuilder 153 5 w1.heap.size w1.heap.size (Lib.byteCells (N++qD e.ag k)) wr∧Ok I wr∧bP wr w.heap.size e (.slice aa e.ag.length ca) (.slice ax e.aC.length cx)∧Below w.heap.size w wr∧w1.heap.size<wr.heap.size) (fun i _=>e.ag.length-(intOf i).toNat)
 case atStart=>exact⟨0,Nat.zero_le _,rfl,Dv.O,eY,yH.O,sD,mZ⟩
 case round=>
  clear Dv yH sD eY mZ acN kX;obtain⟨k,hk,rfl,qx,eX,rU,hb,bS⟩:=hrel;have ww:=Qh qx;have sP:=Qh rU;clear qx rU;have ug:=Hl.O k;by_cases hlt:k<e.ag.length
  ·obtain⟨x,b,off,cap',cB,dC,c0,c1⟩:=yD Hv.O eX k hlt;cases dC;have hax:=Dk.O x (by rw[←cB];exact List.getElem_mem hlt);have bI:=Qh (Xm5 hlt cB);have ql:=vD x.k (by omega);have uV:=vD x.v (by omega);have Rb:jv [x.k,x.v]=fA x.k++fA x.v:=by simp[jv]
   have Hs:=Qh (fun w hv hw=>Xib I hI (wr.heap.size+1) 0 2 2 [x.k,x.v] rfl (by simp) (by unfold maxLen;omega) w hv (by rw[Rb];simp;omega) hw);have HS:=Qh (show xH ((wr.alloc (.cells #[S x.k,S x.v] 60)).alloc (.cells #[S x.k,S x.v] 9)) (wr.heap.size+1) 0 [x.k,x.v] by
    have:=Xjf (wr.alloc (.cells #[S x.k,S x.v] 60)) [x.k,x.v] 9;rwa[show(wr.alloc (.cells #[S x.k,S x.v] 60)).heap.size=wr.heap.size+1 by simp]at this)
   rw[Rb]at Hs;clear cB Rb;generalize fA x.k=p at bI ql Hs;generalize fA x.v=q at bI uV Hs;generalize qD e.ag k=u at bI ug ww;go_wp2_with fail
   refine(Hs.O _ HS.O ((eX.alloc _).alloc _)).mono ?_;rintro e1 w2 ⟨rfl,aG⟩;have uT:Below wr.heap.size wr w2:=(((Qb _ _).alloc (Qn _) _).alloc (by simp) _).trans (aG.mono (by simp;omega));have qC:=IE ww.O uT;have aO:Ok I w2:=eX.below (Qn _) uT;have kJ:=Qh (sP.O.aR uT);have gJ:=uT.size;have aM:=hb.trans (uT.mono hb.size);clear aG uT ww c0 c1 HS Hs;go_wp2_with fail
   refine(Tryz.Builder_WriteString w1.heap.size w1.heap.size _ _ _ qC (by rw[ByteArray.size_mk',List.size_toArray];simp[Lib.byteCells];omega) (by omega)).mono ?_;rintro e2 w3 ⟨rfl,oZ,aL⟩;have oD:=oZ.lt;have IG:=Qh (show Lib.IsBuilder 153 5 w1.heap.size w1.heap.size (Lib.byteCells (N++qD e.ag (k+1))) w3 from .inr (by
    have:=oZ;rw[Lib.strCells_toArray,Lib.byteCells,Lib.byteCells,←List.map_append,List.append_assoc,←bI.O]at this;exact this))
   have Il:Below w1.heap.size w2 w3:=aL;have fo:Ok I w3:=aO.of_block fun b c hb=>Il.block b (Nat.lt_of_not_le fun h=>by rw[sU b h]at hb;cases hb);have om:=Qh (kJ.O.far Il dJ);clear qC oZ aO kJ aL;go_wp2;go_roundw;case rel=>exact⟨k+1,by omega,by go_num,IG.O,fo,om.O,aM.trans (Il.mono (Nat.le_of_lt dJ)),oD⟩
   case measure=>simp[intOf];omega
  ·have Hn:=Qh (Xpr e.ag (k:=k) (by omega));rw[Hn.O]at ww ug;have Te:=vD e.target (by omega);have Hnt:=Qh (fun w hw=>RQ I hI e.target (by omega) w hw);have Hh:=Qh (show N++zP e.ag++fA e.target=kT e by rw[←HN.O];rfl);generalize fA e.target=q at Te Hnt Hh;generalize zP e.ag=u at ww ug Hh;obtain⟨c0,c1,c2,c3,c4,c5,c6⟩:=sP.O;go_wp2_with fail
   refine(Hnt.O _ eX).mono ?_;rintro e1 w2 ⟨rfl,aG⟩;have qC:=IE ww.O aG;have gJ:=aG.size;have aM:=hb.trans (aG.mono hb.size);clear aG ww c0 c1 c2 c3 c4 c5 c6 sP;go_wp2_with fail
   refine(Tryz.Builder_WriteString w1.heap.size w1.heap.size _ _ _ qC (by rw[ByteArray.size_mk',List.size_toArray];simp[Lib.byteCells];omega) (by omega)).mono ?_;rintro e2 w3 ⟨rfl,oZ,aL⟩;have oD:=oZ.lt;have IG:=Qh (show Lib.IsBuilder 153 5 w1.heap.size w1.heap.size (Lib.byteCells (kT e)) w3 from .inr (by
    have:=oZ;rw[Lib.strCells_toArray,Lib.byteCells,Lib.byteCells,←List.map_append,Hh.O]at this;exact this))
   have bH:=aM.trans (aL.mono (Nat.le_of_lt dJ));clear qC oZ aL;go_wp2_with fail
   refine(Tryz.Builder_String_any w1.heap.size w1.heap.size _ _ IG.O (Nat.le_of_lt oD)).mono ?_;rintro e3 w4 ⟨rfl,aS⟩;go_wp2;go_ret2;exact⟨rfl,bH.trans (aS.mono (Nat.le_of_lt dJ))⟩
theorem Vb{u v z:af}(h:Lib.BuilderAt 153 5 b b (.pointer (some ⟨b,0,none⟩)) (Lib.byteCells u++Lib.strCells ⟨v.toArray⟩) w)(e:u++v=z):Lib.IsBuilder 153 5 b b (Lib.byteCells z) w:= .inr (by
 rw[Lib.strCells_toArray,show Lib.byteCells u++Lib.byteCells v=Lib.byteCells z by rw[←e];simp[Lib.byteCells]]at h;exact h)
theorem Xs9(I:IH)(hI:fG I)(e:bD)(va vx:Value)(gK:aZ nk I va e.ag)(kw:aZ mU I vx e.aC)(lQ:e.Wf)(qp:e.aj.length≤4294967280)(zu:e.target.length≤4294967280)(hc:sS e)(he:aX e=0)(hx:e.aC.length≤1000)(w:World)(hw:Ok I w):
 Calls Tryz.prog 104 #[iF e va vx] w fun r w'=>r= .returned (.tuple #[S (yJ e),.int .i64 0])∧Below w.heap.size w w':=by
 have mY:=Qh (fun w hw=>Xw2 I hI e va vx gK kw lQ qp zu hc he w hw);obtain⟨aa,ca,rfl,_,_,_⟩:=id gK;obtain⟨ax,cx,rfl,_,_,_⟩:=id kw;have Hv:=Qh kw;have ky:=hc.s0;have uX:=hc.s1;have afo:=hc.aD;have Hxs:=Qh hc.YE;have Hl:=Qh (Xks hc hx);have vN:=Hl.O 0;have YI:=Xim hc;have Hz:=Qh (show fA (kT e)++gm e.size++fA e.aD++gm e.aC.length=qF e 0 from(Xmn e).symm);have yT:=vD (kT e) (by omega);have DZ:=Av ky (by omega);have Og:=vD e.aD (by omega);have Kh:=Gf e.aC.length (by omega);have H1:=Qh (fun w hw=>RQ I hI (kT e) (by omega) w hw);have H2:=Qh (fun w hw=>R8 I hI e.size ky (by omega) w hw);have H3:=Qh (fun w hw=>RQ I hI e.aD (by omega) w hw);have H4:=Qh (fun w hw=>UJ I hI e.aC.length (by omega) w hw);clear gK kw hc he;generalize fA (kT e)=p1 at Hz yT H1;generalize gm e.size=p2 at Hz DZ H2;generalize fA e.aD=p3 at Hz Og H3;generalize gm (e.aC.length:Int)=p4 at Hz Kh H4;generalize kT e=hd at mY H1 YI yT;go_enter Tryz.func104,Tryz.ntmps104
 go_wp2_with fail
 refine(mY.O _ (hw.alloc _)).mono ?_;rintro e1 w1 ⟨rfl,aG⟩;have kJ:=Qh (dP (e:=e) rfl aG);have aO:Ok I w1:=(hw.alloc _).below (Qn _) aG;have aM:=((Qb w.heap.size w).alloc (Qn _) (.cells #[.int .i64 e.av,S e.aj,.slice aa e.ag.length ca,S e.target,.int .i64 e.size,S e.aD,.slice ax e.aC.length cx] 63)).trans (aG.mono (by simp));have qC:Lib.IsBuilder 153 5 w1.heap.size w1.heap.size (Lib.byteCells []) (w1.alloc (.cells #[.pointer none,.slice none 0 0] 153)):=Lib.fresh_isBuilder _ _ w1;have dJ:w.heap.size<w1.heap.size:=by have:=aG.size;simp at this;omega
 have sU:∀b,w1.heap.size≤b→I b=none:=fun b hb=>aO.fresh hb;have Dw:=Qh (bP.past kJ.O (.cells #[.pointer none,.slice none 0 0] 153));have qh:Ok I (w1.alloc (.cells #[.pointer none,.slice none 0 0] 153)):=aO.alloc _;obtain⟨c0,c1,c2,c3,c4,c5,c6⟩:=Dw.O;have e4:=cell_regrown c4;have e5:=cell_regrown c5;have e6:=cell_regrown c6;clear aG mY c0 c1 c2 c3;go_wp2_with fail
 refine zI 15 (by kernel_rfl) (by kernel_rfl) ?_;simp only[List.take_succ_cons,List.take_zero,List.drop_succ_cons,List.drop_zero];repeat(go_big_quiet_step ((with_reducible first|exact Calls.regrown_of (H1.O _ (qh.below (Qn _) (below_regrown _ _ _)))|exact Calls.regrown_of (H2.O _ (qh.below (Qn _) (below_regrown _ _ _)))|exact Calls.regrown_of (H3.O _ (qh.below (Qn _) (below_regrown _ _ _)))|exact Calls.regrown_of (H4.O _ (qh.below (Qn _) (below_regrown _ _ _))))))
 refine wpQuiet_nil ?_;intro w2 bJ;have aL:Below ((w1.alloc (.cells #[.pointer none,.slice none 0 0] 153))).heap.size ((w1.alloc (.cells #[.pointer none,.slice none 0 0] 153))) w2:=by
  obtain⟨pq,rfl⟩:=bJ;exact below_regrown _ _ _
 clear bJ;have oZ:=IE qC aL;have bn:Ok I w2:=qh.below (Qn _) aL;have nX:=Qh (Dw.O.aR aL);have bH:Below w.heap.size w w2:=(aM.alloc (by have:=aM.size;omega) (.cells #[.pointer none,.slice none 0 0] 153)).trans (aL.mono (by simp;omega));have gJ:w1.heap.size≤w2.heap.size:=by have:=aL.size;simp at this;omega
 clear e4 e5 e6 c4 c5 c6 aL kJ Dw qC aO qh aM H1 H2 H3 H4;go_wp2_with fail
 refine(Tryz.Builder_WriteString w1.heap.size w1.heap.size _ _ _ oZ (by rw[ByteArray.size_mk',List.size_toArray];simp[Lib.byteCells];omega) (by omega)).mono ?_;rintro e7 w7 ⟨rfl,xN,ji⟩;have mZ:=xN.lt;have Dv:=Qh (Vb (z:=qF e 0) xN (by rw[←Hz.O];simp));have eY:Ok I w7:=bn.of_block fun b c hb=>ji.block b (Nat.lt_of_not_le fun h=>by rw[sU b h]at hb;cases hb);have yH:=Qh (nX.O.far ji dJ);have sD:=bH.trans (ji.mono (Nat.le_of_lt dJ));clear oZ xN ji bH bn nX vN gJ;obtain⟨c0,c1,c2,c3,c4,c5,c6⟩:=yH.O;go_wp2_with fail
 clear c0 c1 c2 c3 c4 c5 c6;go_loopw [36] (fun s36 wr=> ∃k:Nat,k≤e.aC.length∧s36= .int .i64 k∧Lib.IsBuilder 153 5 w1.heap.size w1.heap.size (Lib.byteCells (qF e k)) wr∧Ok I wr∧Below w.heap.size w wr∧w1.heap.size<wr.heap.size) (fun i _=>e.aC.length-(intOf i).toNat)
 case atStart=>exact⟨0,Nat.zero_le _,rfl,Dv.O,eY,sD,mZ⟩
 case round=>
  clear Dv yH sD eY mZ;obtain⟨k,hk,rfl,qx,eX,hb,bS⟩:=hrel;have ww:=Qh qx;clear qx;have ug:=Hl.O k;by_cases hlt:k<e.aC.length
  ·obtain⟨x,b,off,cap',cB,dC,c0,c1,c2⟩:=vg Hv.O eX k hlt;cases dC;obtain⟨y0,y1,y2,y3,y4,y5⟩:=Hxs.O x (by rw[←cB];exact List.getElem_mem hlt);have bI:=Qh (Xmo hlt cB);have Az:=Av (n:=x.s) (by omega) (by omega);have Ky:=Av (n:=x.o) (by omega) (by omega);have BL:=Av (n:=x.n) (by omega) (by omega);have H1:=Qh (fun w hw=>R8 I hI x.s (by omega) (by omega) w hw);have H2:=Qh (fun w hw=>R8 I hI x.o (by omega) (by omega) w hw);have H3:=Qh (fun w hw=>R8 I hI x.n (by omega) (by omega) w hw);have Vd:Ok I (wr.alloc (.cells #[.int .i64 x.s,.int .i64 x.o,.int .i64 x.n] 65)):=eX.alloc _;have g0:=cell_regrown (show(wr.alloc (.cells #[.int .i64 x.s,.int .i64 x.o,.int .i64 x.n] 65)).cell? ⟨wr.heap.size,0,none⟩=some (.int .i64 x.s) by simp);have g1:=cell_regrown (show(wr.alloc (.cells #[.int .i64 x.s,.int .i64 x.o,.int .i64 x.n] 65)).cell? ⟨wr.heap.size,1,none⟩=some (.int .i64 x.o) by simp);have g2:=cell_regrown (show(wr.alloc (.cells #[.int .i64 x.s,.int .i64 x.o,.int .i64 x.n] 65)).cell? ⟨wr.heap.size,2,none⟩=some (.int .i64 x.n) by simp);clear cB;generalize gm x.s=q1 at bI Az H1;generalize gm x.o=q2 at bI Ky H2;generalize gm x.n=q3 at bI BL H3;generalize qF e k=u at bI ug ww;go_wp2_with fail
   refine zI 11 (by kernel_rfl) (by kernel_rfl) ?_;simp only[List.take_succ_cons,List.take_zero,List.drop_succ_cons,List.drop_zero];repeat(go_big_quiet_step ((with_reducible first|exact Calls.regrown_of (H1.O _ (Vd.below (Qn _) (below_regrown _ _ _)))|exact Calls.regrown_of (H2.O _ (Vd.below (Qn _) (below_regrown _ _ _)))|exact Calls.regrown_of (H3.O _ (Vd.below (Qn _) (below_regrown _ _ _))))))
   refine wpQuiet_nil ?_;intro w2 bJ;have aL:Below ((wr.alloc (.cells #[.int .i64 x.s,.int .i64 x.o,.int .i64 x.n] 65))).heap.size ((wr.alloc (.cells #[.int .i64 x.s,.int .i64 x.o,.int .i64 x.n] 65))) w2:=by
    obtain⟨pq,rfl⟩:=bJ;exact below_regrown _ _ _
   clear bJ;have oZ:=IE (Xk1 ww.O _) aL;have bn:Ok I w2:=Vd.below (Qn _) aL;have bH:Below w.heap.size w w2:=(hb.alloc hb.size (.cells #[.int .i64 x.s,.int .i64 x.o,.int .i64 x.n] 65)).trans (aL.mono (by have:=hb.size;simp;omega));have gJ:w1.heap.size≤w2.heap.size:=by have:=aL.size;simp at this;omega
   clear g0 g1 g2 aL Vd ww c0 c1 c2 H1 H2 H3;go_wp2_with fail
   refine(Tryz.Builder_WriteString w1.heap.size w1.heap.size _ _ _ oZ (by rw[ByteArray.size_mk',List.size_toArray];simp[Lib.byteCells];omega) (by omega)).mono ?_;rintro e7 w7 ⟨rfl,xN,ji⟩;have mZ:=xN.lt;have Dv:=Qh (Vb (z:=qF e (k+1)) xN (by rw[bI.O];simp));have eY:Ok I w7:=bn.of_block fun b c hb=>ji.block b (Nat.lt_of_not_le fun h=>by rw[sU b h]at hb;cases hb);have sD:=bH.trans (ji.mono (Nat.le_of_lt dJ));clear oZ xN ji bH bn;go_wp2;go_roundw;case rel=>exact⟨k+1,by omega,by go_num,Dv.O,eY,sD,mZ⟩
   case measure=>simp[intOf];omega
  ·have Hn:=Qh (Xkt e (k:=k) (by omega));rw[Hn.O]at ww;go_wp2_with fail
   refine(Tryz.Builder_String_any w1.heap.size w1.heap.size _ _ ww.O (Nat.le_of_lt bS)).mono ?_;rintro e3 w4 ⟨rfl,aS⟩;go_wp2;go_ret2;exact⟨rfl,hb.trans (aS.mono (Nat.le_of_lt dJ))⟩
abbrev kC(s:bV)(ve:Value):List Value:=[.int .i64 s.num,.int .i64 s.aA,S s.bE,ve,S s.aU,S s.sl]
abbrev nD(s:bV)(ve:Value):Value:= .agg #[.int .i64 s.num,.int .i64 s.aA,S s.bE,ve,S s.aU,S s.sl]
def fw:Ty bV where
 size:=6
 rd:=fun I cs s=> ∃ve,cs=kC s ve∧aZ bM I ve s.aB
 len:=fun⟨_,h,_⟩=>by rw[h];rfl
 one:=fun⟨ve,h,h1⟩ u hu=>by
  rw[h]at hu;simp at hu;rcases hu with rfl|rfl|rfl|rfl|rfl|rfl<;>first|rfl|exact h1.one
 mono:=fun hI ⟨ve,h,h1⟩=>⟨ve,h,h1.mono hI⟩
structure Ve (w:World) (b o:Nat) (s:bV) (ve:Value):Prop where
 c0:w.cell? ⟨b,o,none⟩=some (.int .i64 s.num)
 c1:w.cell? ⟨b,o+1,none⟩=some (.int .i64 s.aA)
 c2:w.cell? ⟨b,o+2,none⟩=some (S s.bE)
 c3:w.cell? ⟨b,o+3,none⟩=some ve
 c4:w.cell? ⟨b,o+4,none⟩=some (S s.aU)
 c5:w.cell? ⟨b,o+5,none⟩=some (S s.sl)
structure lD (w:World) (n:Nat) (s:bV) (ve:Value):Prop where
 c0:w.cell? ⟨n,0,none⟩=some (.int .i64 s.num)
 c1:w.cell? ⟨n,1,none⟩=some (.int .i64 s.aA)
 c2:w.cell? ⟨n,2,none⟩=some (S s.bE)
 c3:w.cell? ⟨n,3,none⟩=some ve
 c4:w.cell? ⟨n,4,none⟩=some (S s.aU)
 c5:w.cell? ⟨n,5,none⟩=some (S s.sl)
theorem lD.aR(h:lD w b s ve)(hb:Below w.heap.size w w'):lD w' b s ve:=
 ⟨aV hb h.c0,aV hb h.c1,aV hb h.c2,aV hb h.c3,aV hb h.c4,aV hb h.c5⟩
theorem lD.past(h:lD w b s ve)(x:Obj):lD (w.alloc x) b s ve:=
 ⟨kM x h.c0,kM x h.c1,kM x h.c2,kM x h.c3,kM x h.c4,kM x h.c5⟩
theorem lD.far(h:lD w b s ve)(hb:Below B w w')(hn:b<B):lD w' b s ve:=
 ⟨(hb.cell hn).trans h.c0,(hb.cell hn).trans h.c1,(hb.cell hn).trans h.c2,(hb.cell hn).trans h.c3,(hb.cell hn).trans h.c4,(hb.cell hn).trans h.c5⟩
theorem GD{t:TypeId}(hn:n=W.heap.size)(hb:Below (W.alloc (.cells #[.int .i64 s.num,.int .i64 s.aA,S s.bE,ve,S s.aU,S s.sl] t)).heap.size (W.alloc (.cells #[.int .i64 s.num,.int .i64 s.aA,S s.bE,ve,S s.aU,S s.sl] t)) w'):lD w' n s ve:=by
 subst hn;exact lD.aR ⟨by simp,by simp,by simp,by simp,by simp,by simp⟩ hb
theorem Cx{I:IH}{v:Value}{l:List bV}(h:aZ fw I v l)(hw:Ok I w)(i:Nat)(hi:i<l.length):∃x ve b off cap,l[i]=x∧v= .slice (some ⟨b,off,none⟩) l.length cap∧
 Ve w b (off+i*6) x ve∧aZ bM I ve x.aB:=by
 obtain⟨b,off,cap,cs,hv,⟨ve,jf,h1⟩,hc⟩:=h.at_ hw hi;subst jf;exact⟨_,ve,b,off,cap,rfl,hv,⟨hc 0 _ rfl,hc 1 _ rfl,hc 2 _ rfl,hc 3 _ rfl,hc 4 _ rfl,hc 5 _ rfl⟩,h1⟩
structure aoT (s:bV):Prop where
 BO:s.aB.length≤30
 aU:s.aU.length≤1000
 bE:s.bE.length≤100
 sl:s.sl.length≤2100
 wf:∀e∈s.aB,e.Wf
 aj:∀e∈s.aB,e.aj.length≤300
 target:∀e∈s.aB,e.target.length≤300
 aC:∀e∈s.aB,e.aC.length≤30
 num: -9223372036854775808≤s.num∧s.num≤9223372036854775807
 aA: -9223372036854775808≤s.aA∧s.aA≤9223372036854775807
def o7(s:bV)(k:Nat):af:=rW s++(s.aB.take k).flatMap yJ
theorem Xlk(hk:k<s.aB.length){x:bD}(hx:s.aB[k]=x):o7 s (k+1)=o7 s k++yJ x:=by
 rw[o7,o7,List.take_succ_eq_append_getElem hk,hx,List.flatMap_append,←List.append_assoc];simp
theorem Xor(s:bV)(h:s.aB.length≤k):o7 s k=lu s:=by rw[o7,List.take_of_length_le h];rfl
theorem PC(s:af):(dW s).length≤32:=by
 unfold dW;rw[List.length_map];exact Xgz _ 8
theorem Xph:∀{l:List bD},(∀e∈l,sS e∧e.aC.length≤1000)→(l.flatMap yJ).length≤54000*l.length
 | [],_=>by simp
 |e::l,h=>by
  have h1:=Xku (h e (List.mem_cons_self ..)).1 (h e (List.mem_cons_self ..)).2;have h2:=Xph fun x hx=>h x (List.mem_cons_of_mem _ hx);simp only[List.flatMap_cons,List.length_append,List.length_cons];omega
def I7(h:Nat)(b:UInt8):Nat:=(2*h+40503*(b.toNat+1))%65536
def iH:af→Nat→Nat→Nat
 | [],i,_=>i
 |b::r,i,h=>if i+1=96∨(16≤i+1∧I7 h b<2048)then i+1 else iH r (i+1) (I7 h b)
def jb(s:af):Nat:=iH s 0 0
theorem Xis:∀(r:af) (i h:Nat),i≤iH r i h∧iH r i h≤i+r.length
 | [],i,h=>⟨Qn _,by simp[iH]⟩
 |b::r,i,h=>by
  have:=Xis r (i+1) (I7 h b);rw[iH,List.length_cons];split<;>omega
theorem Xqw(b:UInt8)(r:af)(i h:Nat):i<iH (b::r) i h:=by
 have:=(Xis r (i+1) (I7 h b)).1;rw[iH];split<;>omega
theorem Vf{s:af}(h:s≠[]):0<jb s:=by
 cases s with
 |nil=>exact absurd rfl h
 |cons b r=>exact Xqw b r 0 0
theorem Xiq(s:af):jb s≤s.length:=by have:=(Xis s 0 0).2;unfold jb;omega
def ng:Nat→af→List af
 |0,_=> []
 |n+1,s=>if s=[]then []else s.take (jb s)::ng n (s.drop (jb s))
def dw(s:af):List af:=ng s.length s
theorem Xjx:∀(n m:Nat) (s:af),s.length≤n→s.length≤m→ng n s=ng m s
 |0,m,s,h,_=>by
  have:s=[]:=List.eq_nil_of_length_eq_zero (by omega);subst this;cases m<;>simp[ng]
 |n+1,0,s,_,h=>by
  have:s=[]:=List.eq_nil_of_length_eq_zero (by omega);subst this;simp[ng]
 |n+1,m+1,s,h1,h2=>by
  rw[ng,ng];by_cases h0:s=[]
  ·rw[if_pos h0,if_pos h0]
  ·have hp:=Vf h0;rw[if_neg h0,if_neg h0,Xjx n m _ (by rw[List.length_drop];omega) (by rw[List.length_drop];omega)]
theorem Xjw:dw []=[]:=rfl
theorem Xfj{s:af}(h:s≠[]):dw s=s.take (jb s)::dw (s.drop (jb s)):=by
 have hp:=Vf h;have hl:0<s.length:=List.length_pos_iff.2 h;obtain⟨n,hn⟩:∃n,s.length=n+1:=⟨s.length-1,by omega⟩;unfold dw;rw[hn,ng,if_neg h,Xjx n (s.drop (jb s)).length _ (by rw[List.length_drop];omega) (Qn _)]
theorem YJ:∀(n:Nat) (s:af),s.length≤n→(dw s).flatten=s∧(∀c∈dw s,c≠[])∧(dw s).length≤s.length
 |0,s,h=>by
  have:s=[]:=List.eq_nil_of_length_eq_zero (by omega);subst this;exact⟨rfl,fun _ h=>(by cases h),Qn _⟩
 |n+1,s,h=>by
  by_cases h0:s=[]
  ·subst h0;exact⟨rfl,fun _ h=>(by cases h),Qn _⟩
  ·have hp:=Vf h0;have hf:=Xiq s;obtain⟨h1,h2,h3⟩:=YJ n (s.drop (jb s)) (by rw[List.length_drop];omega);rw[List.length_drop]at h3;rw[Xfj h0];refine⟨by rw[List.flatten_cons,h1,List.take_append_drop],fun c hc=> ?_,by rw[List.length_cons];omega⟩;rcases List.mem_cons.1 hc with rfl|hc
   ·intro e;have:=congrArg List.length e;rw[List.length_take]at this;simp at this;rcases this with h|h
    ·omega
    ·exact h0 h
   ·exact h2 c hc
theorem Xfk(s:af):(dw s).flatten=s:=(YJ _ s (Qn _)).1
theorem Xtn{s:af}:∀c∈dw s,c≠[]:=(YJ _ s (Qn _)).2.1
theorem YK(s:af):(dw s).length≤s.length:=(YJ _ s (Qn _)).2.2
structure Sg where
 n:Int
 d:af
def dY:af→Nat
 | []=>0
 |b::r=>if b=0 then dY r+1 else 0
theorem YL:∀s:af,dY s≤s.length
 | []=>Qn _
 |b::r=>by
  have:=YL r;rw[dY,List.length_cons];split<;>omega
def jJ(d:af):List Sg:=if d=[]then []else [⟨0,d⟩]
def uP:Nat→af→af→List Sg
 |0,acc,_=>jJ acc
 |f+1,acc,r=>
  if r=[]then jJ acc
  else if 32≤dY r then jJ acc++⟨(dY r:Nat),[]⟩::uP f [] (r.drop (dY r))
  else uP f (acc++r.take (max (dY r) 1)) (r.drop (max (dY r) 1))
def oJ(acc r:af):List Sg:=uP r.length acc r
def iR(s:af):List Sg:=oJ [] s
theorem YM:∀(n m:Nat) (acc r:af),r.length≤n→r.length≤m→uP n acc r=uP m acc r
 |0,m,acc,r,h,_=>by
  have:r=[]:=List.eq_nil_of_length_eq_zero (by omega);subst this;cases m<;>simp[uP]
 |n+1,0,acc,r,_,h=>by
  have:r=[]:=List.eq_nil_of_length_eq_zero (by omega);subst this;simp[uP]
 |n+1,m+1,acc,r,h1,h2=>by
  rw[uP,uP];by_cases h0:r=[]
  ·rw[if_pos h0,if_pos h0]
  ·have hl:0<r.length:=List.length_pos_iff.2 h0;rw[if_neg h0,if_neg h0];by_cases h3:32≤dY r
   ·rw[if_pos h3,if_pos h3,YM n m _ _ (by rw[List.length_drop];omega) (by rw[List.length_drop];omega)]
   ·rw[if_neg h3,if_neg h3,YM n m _ _ (by rw[List.length_drop];omega) (by rw[List.length_drop];omega)]
theorem Xrw(acc:af):oJ acc []=jJ acc:=rfl
theorem Xot(h0:r≠[])(h:32≤dY r):oJ acc r=jJ acc++⟨(dY r:Nat),[]⟩::oJ [] (r.drop (dY r)):=by
 have hl:0<r.length:=List.length_pos_iff.2 h0;obtain⟨n,hn⟩:∃n,r.length=n+1:=⟨r.length-1,by omega⟩;unfold oJ;rw[hn,uP,if_neg h0,if_pos h,YM n _ _ _ (by rw[List.length_drop];omega) (Qn _)]
theorem Xou(h0:r≠[])(h:¬32≤dY r):oJ acc r=oJ (acc++r.take (max (dY r) 1)) (r.drop (max (dY r) 1)):=by
 have hl:0<r.length:=List.length_pos_iff.2 h0;obtain⟨n,hn⟩:∃n,r.length=n+1:=⟨r.length-1,by omega⟩;unfold oJ;rw[hn,uP,if_neg h0,if_neg h,YM n _ _ _ (by rw[List.length_drop];omega) (Qn _)]
def iU(l:List Sg):Nat:=(l.map fun g=>g.n.toNat+g.d.length).sum
theorem Vg(g:Sg)(l:List Sg):iU (g::l)=g.n.toNat+g.d.length+iU l:=by simp[iU]
theorem Xlm(a b:List Sg):iU (a++b)=iU a+iU b:=by simp[iU]
theorem Xfi(d:af):iU (jJ d)=d.length∧ ∀g∈jJ d,(g.n=0∧g.d≠[])∨(0<g.n∧g.d=[]):=by
 unfold jJ;split
 ·rename_i h;subst h;exact⟨rfl,fun _ h=>(by cases h)⟩
 ·rename_i h;refine⟨by simp[iU],fun g hg=> ?_⟩;simp at hg;subst hg;exact .inl ⟨rfl,h⟩
theorem YN:∀(f:Nat) (acc r:af),r.length≤f→iU (uP f acc r)=acc.length+r.length∧ ∀g∈uP f acc r,(g.n=0∧g.d≠[])∨(0<g.n∧g.d=[])
 |0,acc,r,h=>by
  have:r=[]:=List.eq_nil_of_length_eq_zero (by omega);subst this;exact Xfi acc
 |f+1,acc,r,h=>by
  rw[uP];by_cases h0:r=[]
  ·subst h0;rw[if_pos rfl];exact Xfi acc
  ·have hl:0<r.length:=List.length_pos_iff.2 h0;have hz:=YL r;rw[if_neg h0];by_cases h3:32≤dY r
   ·rw[if_pos h3];obtain⟨h1,h2⟩:=YN f [] (r.drop (dY r)) (by rw[List.length_drop];omega);obtain⟨d1,d2⟩:=Xfi acc;rw[List.length_drop]at h1;refine⟨by rw[Xlm,Vg,h1,d1];simp;omega,fun g hg=> ?_⟩;rcases List.mem_append.1 hg with hg|hg
    ·exact d2 g hg
    ·rcases List.mem_cons.1 hg with rfl|hg
     ·exact .inr ⟨by show(0:Int)<(dY r:Nat);omega,rfl⟩
     ·exact h2 g hg
   ·rw[if_neg h3];obtain⟨h1,h2⟩:=YN f (acc++r.take (max (dY r) 1)) (r.drop (max (dY r) 1)) (by rw[List.length_drop];omega);refine⟨by rw[h1];simp;omega,h2⟩
theorem Vh(s:af):iU (iR s)=s.length:=by
 have:=(YN s.length [] s (Qn _)).1;simpa[iR,oJ]using this
theorem YO{s:af}:∀g∈iR s,(g.n=0∧g.d≠[])∨(0<g.n∧g.d=[]):=(YN s.length [] s (Qn _)).2
theorem Xhu:∀{l:List Sg},(∀g∈l,(g.n=0∧g.d≠[])∨(0<g.n∧g.d=[]))→l.length≤iU l
 | [],_=>Qn _
 |g::l,h=>by
  have h1:=h g (List.mem_cons_self ..);have h2:=Xhu (l:=l) fun x hx=>h x (List.mem_cons_of_mem _ hx);rw[Vg,List.length_cons];rcases h1 with⟨_,h1⟩|⟨h1,_⟩
  ·have:=List.length_pos_iff.2 h1;omega
  ·omega
theorem Xj9(s:af):(iR s).length≤s.length:=by rw[←Vh s];exact Xhu YO
structure Ck where
 d:af
 x:Xt
structure ib where
 aJ:List Ck
 bg:Int
 str:af
def gZ:List Ck→af→Option Xt
 | [],_=>none
 |c::l,d=>if c.d=d then some c.x else gZ l d
def kH(l:List Xt)(x:Xt):List Xt:=
 match l.getLast? with
 |none=> [x]
 |some y=>if x.s≠0∧y.s=x.s∧y.o+y.n=x.o then l.dropLast++[⟨y.s,y.o,y.n+x.n⟩]else l++[x]
def nO(S:ib)(c:af):Xt:=⟨S.bg,(S.str.length:Nat),(c.length:Nat)⟩
def Lv(S:ib)(c:af):ib×Xt:=
 match gZ S.aJ (dW c)with
 |some x=>(S,x)
 |none=>(⟨S.aJ++[⟨dW c,nO S c⟩],S.bg,S.str++c⟩,nO S c)
def pO(p:ib×List Xt)(c:af):ib×List Xt:=((Lv p.1 c).1,kH p.2 (Lv p.1 c).2)
def lV(p:ib×List Xt)(g:Sg):ib×List Xt:=if g.d=[]then(p.1,kH p.2 ⟨0,0,g.n⟩)else(dw g.d).foldl pO p
def jA(S:ib)(c:af):ib×List Xt×Int:=
 if S.bg<1∨255<S.bg then(S,[],1)else if 65536<c.length then(S,[],6)
 else(((iR c).foldl lV (S,[])).1,((iR c).foldl lV (S,[])).2,0)
def gM(S:ib)(n:Int):ib×Int:=if n<1∨255<n then(S,2)else if n≤S.bg then(S,14)else(⟨S.aJ,n,[]⟩,0)
def zU(st:List af)(x:Xt):Bool:=decide (x.n<0) || decide (x.o<0) || decide (x.s<0) || decide ((st.length:Int)<x.s) || (x.s==0&&x.o !=0)
def lZ(st:List af)(x:Xt):af:=st.getD (x.s-1).toNat []
def lH(st:List af):List Xt→af→af×Int
 | [],out=>(out,0)
 |x::r,out=>
  if zU st x=true then([],2)
  else if 0<x.s∧(((lZ st x).length:Int)<x.o∨((lZ st x).length:Int)-x.o<x.n)then([],2)
  else if 65536-(out.length:Int)<x.n then([],6)
  else lH st r (out++if x.s=0 then List.replicate x.n.toNat 0 else((lZ st x).drop x.o.toNat).take x.n.toNat)
def tF(st:List af)(l:List Xt):af×Int:=lH st l []
theorem Xpx(l:List Xt)(x:Xt):(kH l x).length≤l.length+1∧0<(kH l x).length:=by
 unfold kH;split
 ·simp
 ·rename_i y hy;have hl:0<l.length:=by cases l with
   |nil=>simp at hy
   |cons a l=>simp
  split<;>simp<;>omega
