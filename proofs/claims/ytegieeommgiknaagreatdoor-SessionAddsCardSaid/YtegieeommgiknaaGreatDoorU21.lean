/- Lemmas for the claim's theorem;conditions: as each says. -/
import Derived.Test.YtegieeommgiknaaGreatDoorU20
set_option maxHeartbeats 0
set_option maxRecDepth 100000
set_option linter.all false
namespace Go.Proofs.YtegieeommgiknaaGreatDoor
variable{n:Nat}{L:List bV}{m:Nat}{q:ib}{k:Nat}{x:bV}{b i:Nat}{s:oC}{e:bD}{aA:Int}{h h':List Ho}{w:World}{ve vk vt vh:Value}{α:Type}{p:α→Bool}{l:List α}
structure Cu (n:Nat) (s:oC):Prop where
 ok:Py n s
 GR:II s.aF
theorem Xrs:Cu 0 aN:=⟨Xwc,fun _ h=>(by cases h)⟩
theorem Cu.mono(h:Cu n s)(hm:n≤m):Cu m s:=⟨h.ok.mono hm,h.GR⟩
theorem Xj4(h:Cu n s)(e:bD)(d:Int)(hp:e.aj.length≤300)(ht:e.target.length≤300):Cu (n+1) (fK s e d).1:=by
 refine⟨Xt5 h.ok e d,?_⟩;unfold fK;split
 ·exact h.GR
 ·rename_i h1;split
  ·exact h.GR
  ·split
   ·exact h.GR
   ·have ha:=Xfl (t:=s.aF) (e:=e) (by omega);obtain⟨_,hx⟩:=tK.1 ha;intro z hz;rw[hx]at hz;rcases(Xwx h.ok.aF.Ir e z).1 hz with⟨_,rfl⟩|⟨hz,_⟩
    ·omega
    ·exact h.GR z hz
theorem Xrx:∀(l:List bD) {n:Nat} {s:oC} (_:Cu n s) (d:Int),(∀e∈l,e.aj.length≤300∧e.target.length≤300)→Cu (n+l.length) (nN s d l)
 | [],_,_,h,_,_=>h
 |e::l,n,s,h,d,hl=>by
  have he:=hl e (List.mem_cons_self ..);have:=Xrx l (Xj4 h e d he.1 he.2) d fun x hx=>hl x (List.mem_cons_of_mem _ hx);exact this.mono (by simp;omega)
theorem Xov(s:oC)(d:Int)(l:List bD)(e:bD):nN s d (l++[e])=(fK (nN s d l) e d).1:=by simp[nN]
theorem Xua{d:Int}{l:List bD}(hk:k<l.length)(he:l[k]=e):nN s d (l.take (k+1))=(fK (nN s d (l.take k)) e d).1:=by
 rw[List.take_succ_eq_append_getElem hk,he,Xov]
theorem Xvl{l:List bV}(hk:k<l.length)(hx:l[k]=x):aP s (l.take (k+1))=nN (aP s (l.take k)) x.aA x.aB:=by
 rw[List.take_succ_eq_append_getElem hk,hx,Xq4];rfl
def pairs(l:List bV):List (bV×bD):=l.flatMap fun s=>s.aB.map fun e=>(s,e)
def Y3(s:oC)(q:bV×bD):oC:=(fK s q.2 q.1.aA).1
theorem Xln(x:bV):∀(l:List bD) (s:oC),nN s x.aA l=(l.map fun e=>(x,e)).foldl Y3 s
 | [],_=>rfl
 |e::l,s=>by
  rw[List.map_cons,List.foldl_cons];exact Xln x l _
theorem Xi6:∀(l:List bV) (s:oC),aP s l=(pairs l).foldl Y3 s
 | [],_=>rfl
 |x::l,s=>by
  rw[pairs,List.flatMap_cons,List.foldl_append,←Xln];exact Xi6 l _
def adJ(p:af):oC→List (bV×bD)→List Pz
 |_,[]=> []
 |s,q::r=>(if I5 s p q.2 then [⟨q.1.num,q.1.aA,q.2⟩]else [])++adJ p (Y3 s q) r
theorem Xko:∀(l:List (bV×bD)) {n:Nat} {s:oC} (_:Cu n s),(∀q∈l,q.2.aj.length≤300∧q.2.target.length≤300)→Cu (n+l.length) (l.foldl Y3 s)
 | [],_,_,h,_=>h
 |q::l,n,s,h,hl=>by
  have he:=hl q (List.mem_cons_self ..);have:=Xko l (Xj4 h q.2 q.1.aA he.1 he.2) fun x hx=>hl x (List.mem_cons_of_mem _ hx);exact this.mono (by simp;omega)
def adL(s:bV):Bool:=decide (100<s.bE.length) || (decide (1000<s.aU.length) || (decide (2100<s.sl.length) || ((decide (12<s.aB.length)&&decide (s.aB.length≠401)) || s.aB.any Iy)))
def VA(s:bV):Bool:=decide (30<s.aB.length) || adL s
def wtS(s:bV):Nat:=s.aU.length+10*s.aB.length
def wtL(l:List bV):Nat:=(l.map wtS).sum
def aqF(l:List bV):Bool:=decide (8<l.length) || (l.any VA || decide (20000<wtL l))
structure bV.Wf (s:bV):Prop where
 num: -9223372036854775808≤s.num∧s.num≤9223372036854775807
 aA: -9223372036854775808≤s.aA∧s.aA≤9223372036854775807
 aB:∀e∈s.aB,e.Wf
theorem Ru(hk:k<l.length){x:α}(hx:l[k]=x)(h1:(l.take k).any p=false)(h2:p x=false):(l.take (k+1)).any p=false:=by
 rw[List.take_succ_eq_append_getElem hk,hx,List.any_append,h1];simp[h2]
theorem Rt(hk:k<l.length){x:α}(hx:l[k]=x)(h:p x=true):l.any p=true:=
 List.any_eq_true.2 ⟨x,by rw[←hx];exact List.getElem_mem hk,h⟩
structure ic where
 av:Int
 aj:af
 ag:List At
 target:af
 aI:af
variable{c:ic}
structure fU where
 num:Int
 aA:Int
 bE:af
 aB:List bD
 bf:ib
 aF:List bD
 holds:List Ho
variable{d:fU}
def qY:fU:=⟨0,0,[],[],⟨[],0,[]⟩,[],[]⟩
def fQ(q:ib)(c:ic):bD×ib:=
 if c.av=1 then(⟨c.av,c.aj,c.ag,c.target,(c.aI.length:Nat),dW c.aI,(jA q c.aI).2.1⟩,(jA q c.aI).1)
 else(⟨c.av,c.aj,c.ag,c.target,0,[],[]⟩,q)
def fU.stt(d:fU):oC:=⟨d.aF,d.holds⟩
def gQ(d:fU)(c:ic):fU×Int:=
 if aX (fQ d.bf c).1≠0 then(d,aX (fQ d.bf c).1)
 else if c.av≠1∧c.aI≠[]then(d,1)
 else if 400≤d.aB.length∨14680064<(fQ d.bf c).2.str.length then(d,6)
 else if(fK d.stt (fQ d.bf c).1 d.aA).2≠0 then(d,(fK d.stt (fQ d.bf c).1 d.aA).2)
 else(⟨d.num,d.aA,d.bE,d.aB++[(fQ d.bf c).1],(fQ d.bf c).2,(fK d.stt (fQ d.bf c).1 d.aA).1.aF,(fK d.stt (fQ d.bf c).1 d.aA).1.holds⟩,0)
def bF(d:fU):bV:=⟨d.num,d.aA,d.bE,d.aB,d.bf.str,[]⟩
def dV:fU→Nat→List ic→fU×Nat×Int
 |d,i,[]=>(d,i,0)
 |d,i,c::l=>if(gQ d c).2≠0 then(d,i,(gQ d c).2)else dV (gQ d c).1 (i+1) l
def mi(st:List af)(q:ib)(e:bD):ib:=if e.av=1 then(jA q (tF st e.aC).1).1 else q
def LP(st:List af)(q:ib)(x:bV):ib:=x.aB.foldl (mi st) (gM q x.num).1
def AP:ib:=⟨[],0,[]⟩
def bT(L:List bV):List af:=L.map fun x=>x.aU
def bB(L:List bV):ib:=L.foldl (LP (bT L)) AP
def dD(L:List bV):af:=match L.getLast? with|none=> []|some x=>dW (lu x)
def fP(L:List bV):Int:=match L.getLast? with|none=>0|some x=>x.aA
def dK(L:List bV)(aA:Int):fU:=⟨(L.length:Nat)+1,aA,dD L,[],⟨(bB L).aJ,(L.length:Nat)+1,[]⟩,(aP aN L).aF,bY (aP aN L).holds aA⟩
def bQ(L:List bV)(aA:Int):Int:=if 255≤L.length then 6 else if aA<0∨1000000000<aA then 2 else if aA<fP L then 14 else 0
def jB(L:List bV)(aA:Int):fU×Int:=if bQ L aA≠0 then(qY,bQ L aA)else(dK L aA,0)
def ik(L:List bV)(s:bV):Int:=if 255≤L.length then 6 else if s.num≠(L.length:Nat)+1∨(L≠[]∧s.aA<fP L)then 14 else if s.bE≠dD L then 20 else 0
def nZ(L:List bV)(s:bV):List bV×Int:=if ik L s≠0 then(L,ik L s)else(L++[s],0)
def kN(L:List bV)(aA:Int)(l:List ic):List bV×Nat×Int:=
 if bQ L aA≠0 then(L,0,bQ L aA)
 else if(dV (dK L aA) 0 l).2.2≠0 then(L,(dV (dK L aA) 0 l).2.1,(dV (dK L aA) 0 l).2.2)
 else(L++[bF (dV (dK L aA) 0 l).1],l.length,0)
theorem Xya{l:List Xt}{x y:Xt}(h:y∈kH l x){m:Int}(hl:∀z∈l,z.s≤m)(hx:x.s≤m):y.s≤m:=by
 unfold kH at h;split at h
 ·rw[List.mem_singleton.1 h];exact hx
 ·rename_i z hz;split at h
  ·rcases List.mem_append.1 h with h|h
   ·exact hl y (List.dropLast_subset _ h)
   ·rw[List.mem_singleton.1 h];exact hl z (List.mem_of_getLast? hz)
  ·rcases List.mem_append.1 h with h|h
   ·exact hl y h
   ·rw[List.mem_singleton.1 h];exact hx
structure Si (m:Int) (c:Ck):Prop where
 x:XB 65536 c.x
 s:c.x.s≤m
 d:c.d.length≤32
theorem Xxt(s:af):(dW s).length≤32:=PC s
structure yO (q:ib):Prop where
 s0:1≤q.bg
 s1:q.bg≤255
 str:q.str.length≤4294901760
 cx:∀c∈q.aJ,Si q.bg c
structure Ka (q:ib) (b:Nat) (p:ib×List Xt):Prop where
 bg:p.1.bg=q.bg
 str:p.1.str.length≤q.str.length+b
 aJ:p.1.aJ.length≤q.aJ.length+b
 len:p.2.length≤b
 cx:∀c∈p.1.aJ,Si q.bg c
 xs:∀x∈p.2,XB (65536*b) x
 x0:∀x∈p.2,x.s≤q.bg
theorem Ka.add{p:ib×List Xt}(h:Ka q b p)(hn:1≤n){x:Xt}(hx:XB 65536 x)(hs:x.s≤q.bg):Ka q (b+n) (p.1,kH p.2 x):=
 ⟨h.bg,Nat.le_trans h.str (by omega),Nat.le_trans h.aJ (by omega),by have:=(Xpx p.2 x).1;have:=h.len;show(kH p.2 x).length≤_;omega,h.cx,
   fun z hz=>(Xtv (by decide) h.xs hx (by omega) z hz).mono (by omega),fun z hz=>Xya hz h.x0 hs⟩
theorem Xt6(hq:yO q){p:ib×List Xt}(h:Ka q b p){c:af}(hc:c≠[])(hb:b+c.length≤65536):Ka q (b+c.length) (pO p c):=by
 have hl:=List.length_pos_iff.2 hc;have hs:=h.bg;obtain⟨s,l⟩:=p;cases hf:gZ s.aJ (dW c)with
 |some x=>
  obtain⟨k,hk,rfl⟩:=YQ hf;rw[Xny hf];exact h.add hl (h.cx k hk).x (h.cx k hk).s
 |none=>
  have h1:=h.str;have h2:=hq.str;have h3:=hq.s0;have h4:=hq.s1;dsimp only at h1 hs;have hx:XB 65536 (nO s c)∧(nO s c).s≤q.bg:=by
   unfold XB nO;simp only;omega
  have ha:=h.add hl hx.1 hx.2;rw[Xnx hf];refine⟨hs,?_,?_,ha.len,fun k hk=> ?_,ha.xs,ha.x0⟩
  ·have:=h.str;simp at*;omega
  ·have:=h.aJ;simp at*;omega
  ·rcases List.mem_append.1 hk with hk|hk
   ·exact h.cx k hk
   ·rw[List.mem_singleton.1 hk];exact⟨hx.1,hx.2,Xxt c⟩
theorem Xjg(hq:yO q):∀{l:List af} {b:Nat} {p:ib×List Xt},Ka q b p→(∀c∈l,c≠[])→b+l.flatten.length≤65536→Ka q (b+l.flatten.length) (l.foldl pO p)
 | [],b,p,h,_,_=>by simpa using h
 |c::l,b,p,h,hl,hb=>by
  rw[List.flatten_cons,List.length_append]at hb ⊢;have:=Xjg hq (Xt6 hq h (hl c (List.mem_cons_self ..)) (by omega)) (fun x hx=>hl x (List.mem_cons_of_mem _ hx)) (by omega);rw[List.foldl_cons,←Nat.add_assoc];exact this
theorem Xj5(hq:yO q):∀{l:List Sg} {b:Nat} {p:ib×List Xt},Ka q b p→(∀g∈l,(g.n=0∧g.d≠[])∨(0<g.n∧g.d=[]))→b+iU l≤65536→Ka q (b+iU l) (l.foldl lV p)
 | [],b,p,h,_,_=>by simpa[iU]using h
 |g::l,b,p,h,hl,hb=>by
  rw[Vg]at hb ⊢;have hr:=fun x hx=>hl x (List.mem_cons_of_mem _ hx);rw[List.foldl_cons,←Nat.add_assoc];rcases hl g (List.mem_cons_self ..)with⟨h0,h1⟩|⟨h0,h1⟩
  ·rw[lV,if_neg h1];have e:=Xfk g.d;have h2:=Xjg hq (l:=dw g.d) h Xtn (by rw[e];omega);rw[e]at h2;have h3:=Xj5 hq (l:=l) (b:=b+(g.n.toNat+g.d.length)) (by rw[h0];simpa using h2) hr (by omega);exact h3
  ·rw[lV,if_pos h1];have SX:=hq.s0;have h2:=h.add (n:=g.n.toNat+g.d.length) (by omega) (x:=⟨0,0,g.n⟩) (by unfold XB;simp only;omega) (by show(0:Int)≤_;omega);exact Xj5 hq h2 hr (by omega)
theorem Y4(hq:yO q){c:af}(hc:c.length≤65536):Ka q c.length ((jA q c).1,(jA q c).2.1)∧(jA q c).2.2=0:=by
 have h1:=hq.s0;have h2:=hq.s1;have h:=Xj5 hq (l:=iR c) (b:=0) (p:=(q,[])) ⟨rfl,Qn _,Qn _,Qn _,hq.cx,fun _ h=>(by cases h),fun _ h=>(by cases h)⟩ YO (by rw[Vh];omega);rw[Vh,Nat.zero_add]at h;rw[jA,if_neg (by omega),if_neg (by omega)];exact⟨h,rfl⟩
theorem Xpf{st:List af}:∀{l:List Xt} {out:af},out.length≤65536→(lH st l out).1.length≤65536
 | [],out,h=>h
 |x::l,out,h=>by
  rw[lH];split
  ·simp
  ·rename_i h1;split
   ·simp
   ·split
    ·simp
    ·rename_i h2 h3;refine Xpf ?_;rw[List.length_append];split
     ·rw[List.length_replicate];omega
     ·rw[List.length_take];omega
theorem Xo(st:List af)(l:List Xt):(tF st l).1.length≤65536:=Xpf (by simp)
structure ic.Wf (c:ic):Prop where
 k0: -9223372036854775808≤c.av
 k1:c.av≤9223372036854775807
 aj:c.aj.length≤4294967280
 ag:∀x∈c.ag,x.Wf
 target:c.target.length≤4294967280
 aI:c.aI.length≤65536
theorem Xla(h:aX e=0):e.Wf:=by
 have k:=R6 h;have:=k.aj;have:=k.target;have:=k.aD;have:=k.k1;have:=k.k6;have:=k.s0;have:=k.s1;refine⟨by omega,by omega,by omega,fun x hx=> ?_,by omega,by omega,by omega,by omega,fun x hx=> ?_⟩
 ·have:=k.UH x hx;exact⟨by omega,by omega⟩
 ·have:=k.YE x hx;exact⟨⟨by omega,by omega⟩,⟨by omega,by omega⟩,⟨by omega,by omega⟩⟩
structure lU (n:Nat) (d:fU):Prop where
 st:Cu n d.stt
 aB:d.aB.length≤n
 s0:1≤d.bf.bg
 s1:d.bf.bg≤255
 str:d.bf.str.length≤65536*n
 aJ:d.bf.aJ.length≤65536*n
 cx:∀c∈d.bf.aJ,Si d.bf.bg c
 aA:0≤d.aA∧d.aA≤1000000000
theorem lU.mono(h:lU n d)(hm:n≤m):lU m d:=
 ⟨h.st.mono hm,Nat.le_trans h.aB hm,h.s0,h.s1,Nat.le_trans h.str (by omega),Nat.le_trans h.aJ (by omega),h.cx,h.aA⟩
theorem lU.bf(h:lU n d)(hn:n≤60000):yO d.bf:=⟨h.s0,h.s1,by have:=h.str;omega,h.cx⟩
structure adN (q:ib) (b:Nat) (r:bD×ib):Prop where
 bg:r.2.bg=q.bg
 str:r.2.str.length≤q.str.length+b
 aJ:r.2.aJ.length≤q.aJ.length+b
 cx:∀c∈r.2.aJ,Si q.bg c
 len:r.1.aC.length≤b
 xs:∀x∈r.1.aC,XB (65536*b) x
 x0:∀x∈r.1.aC,x.s≤q.bg
theorem Y5(hq:yO q)(hc:c.aI.length≤65536):adN q c.aI.length (fQ q c):=by
 unfold fQ;split
 ·have h:=(Y4 hq hc).1;exact⟨h.bg,h.str,h.aJ,h.cx,h.len,h.xs,h.x0⟩
 ·exact⟨rfl,Nat.le_add_right _ _,Nat.le_add_right _ _,hq.cx,Nat.zero_le _,fun _ h=>(by cases h),fun _ h=>(by cases h)⟩
theorem Xxu(s:af):(dW s).length≤32:=PC s
theorem Y7(hq:yO q)(hc:c.Wf):(fQ q c).1.Wf:=by
 have hl:=hc.aI;have hb:=Y5 hq hl;have hx:∀x∈(fQ q c).1.aC,x.Wf:=fun x hx=>by
  have:=hb.xs x hx;unfold XB at this;exact⟨⟨by omega,by omega⟩,⟨by omega,by omega⟩,⟨by omega,by omega⟩⟩
 have hp:=hc.aj;have ht:=hc.target;have hs:=Xxu c.aI;unfold fQ at hx ⊢;split
 ·rename_i hk;rw[if_pos hk]at hx;exact⟨hc.k0,hc.k1,by show c.aj.length≤_;omega,hc.ag,by show c.target.length≤_;omega,by show _≤((c.aI.length:Nat):Int);omega,by show((c.aI.length:Nat):Int)≤_;omega,by show(dW c.aI).length≤_;omega,hx⟩
 ·exact⟨hc.k0,hc.k1,by show c.aj.length≤_;omega,hc.ag,by show c.target.length≤_;omega,by show(-9223372036854775808:Int)≤0;decide,by show(0:Int)≤9223372036854775807;decide,by show(0:Nat)≤9223372036854775807;decide,fun _ h=>(by cases h)⟩
theorem Xji(q:ib)(c:ic):(fQ q c).1.av=c.av∧(fQ q c).1.aj=c.aj∧(fQ q c).1.ag=c.ag∧(fQ q c).1.target=c.target:=by
 unfold fQ;split<;>exact⟨rfl,rfl,rfl,rfl⟩
theorem VB(h:aX e=0):e.aj.length≤300∧e.target.length≤300:=by
 have k:=R6 h;have:=k.aj;have:=k.target;omega
theorem Xi7(d:fU)(c:ic):((gQ d c).2≠0∧(gQ d c).1=d)∨((gQ d c).2=0∧aX (fQ d.bf c).1=0∧(c.av=1∨c.aI=[])∧d.aB.length<400∧(fQ d.bf c).2.str.length≤14680064∧(fK d.stt (fQ d.bf c).1 d.aA).2=0∧
 (gQ d c).1=⟨d.num,d.aA,d.bE,d.aB++[(fQ d.bf c).1],(fQ d.bf c).2,(fK d.stt (fQ d.bf c).1 d.aA).1.aF,(fK d.stt (fQ d.bf c).1 d.aA).1.holds⟩):=by
 unfold gQ;by_cases h1:aX (fQ d.bf c).1≠0
 ·rw[if_pos h1];exact .inl ⟨h1,rfl⟩
 rw[if_neg h1];by_cases h2:c.av≠1∧c.aI≠[]
 ·rw[if_pos h2];exact .inl ⟨(by decide:(1:Int)≠0),rfl⟩
 rw[if_neg h2];by_cases h3:400≤d.aB.length∨14680064<(fQ d.bf c).2.str.length
 ·rw[if_pos h3];exact .inl ⟨(by decide:(6:Int)≠0),rfl⟩
 rw[if_neg h3];by_cases h4:(fK d.stt (fQ d.bf c).1 d.aA).2≠0
 ·rw[if_pos h4];exact .inl ⟨h4,rfl⟩
 rw[if_neg h4];refine .inr ⟨rfl,by omega,?_,by omega,by omega,by omega,rfl⟩;by_cases hk:c.av=1
 ·exact .inl hk
 ·exact .inr (Classical.byContradiction fun q=>h2 ⟨hk,q⟩)
theorem TK(h:lU n d)(hn:n≤60000)(hc:c.aI.length≤65536):lU (n+1) (gQ d c).1:=by
 rcases Xi7 d c with⟨_,e⟩|⟨_,h1,_,_,_,h5,e⟩
 ·rw[e];exact h.mono (by omega)
 ·have hb:=Y5 (h.bf hn) hc;have hs:=VB h1;have jO:=Xj4 h.st (fQ d.bf c).1 d.aA hs.1 hs.2;rw[e];have:=h.aB;have:=hb.str;have:=hb.aJ;have:=h.str;have:=h.aJ;refine⟨jO,by simp;omega,by rw[hb.bg];exact h.s0,by rw[hb.bg];exact h.s1,by show(fQ d.bf c).2.str.length≤_;omega,by show(fQ d.bf c).2.aJ.length≤_;omega,fun k hk=> ?_,h.aA⟩;show Si (fQ d.bf c).2.bg k;rw[hb.bg];exact hb.cx k hk
theorem Xxr(l:List Ho)(d:Int):bY (bY l d) d=bY l d:=by
 unfold bY;rw[List.filter_filter];simp
theorem Xtu{d:Int}(hh:bY h d=bY h' d)(k:Int)(p:af):kE h k p d=kE h' k p d:=by
 unfold kE ig lh;rw[hh]
theorem Xts{d:Int}(hh:bY h d=bY h' d)(e:bD):appH h e d=appH h' e d:=by
 unfold appH;rw[hh]
theorem Xri{t:List bD}{d:Int}(hh:bY h d=bY h' d)(e:bD):
 (fK ⟨t,h⟩ e d).2=(fK ⟨t,h'⟩ e d).2∧((fK ⟨t,h'⟩ e d).2=0→(fK ⟨t,h⟩ e d).1=(fK ⟨t,h'⟩ e d).1):=by
 have ha:rE ⟨t,h⟩ e d=rE ⟨t,h'⟩ e d:=by
  unfold rE;dsimp only;rw[Xtu hh]
 unfold fK;rw[ha];dsimp only;rw[Xts hh];by_cases h1:(dh t e).2≠0
 ·rw[if_pos h1,if_pos h1];exact⟨rfl,fun q=>absurd q h1⟩
 rw[if_neg h1,if_neg h1];by_cases h2:rE ⟨t,h'⟩ e d≠0
 ·rw[if_pos h2,if_pos h2];exact⟨rfl,fun q=>absurd q h2⟩
 rw[if_neg h2,if_neg h2];by_cases h3:(appH h' e d).2≠0
 ·rw[if_pos h3,if_pos h3];exact⟨rfl,fun q=>absurd q h3⟩
 rw[if_neg h3,if_neg h3];exact⟨rfl,fun _=>rfl⟩
theorem Xj0{d:Int}:∀{l:List bD} {s:oC},sV d s l→(fK (nN s d l) e d).2=0→sV d s (l++[e])
 | [],s,_,h=>⟨h,trivial⟩
 |x::l,s,⟨h1,h2⟩,h=>⟨h1,Xj0 h2 h⟩
theorem Xpu{d:Int}:∀{l:List bD} {s:oC},sV d s l→ ∀(j:Nat) (h:j<l.length),(fK (nN s d (l.take j)) l[j] d).2=0
 |x::l,s,⟨h1,h2⟩,0,_=>h1
 |x::l,s,⟨h1,h2⟩,j+1,h=>Xpu h2 j (by simpa using h)
theorem Xi5:∀{L:List bV} {s:oC},xS s L→sV x.aA (aP s L) x.aB→xS s (L++[x])
 | [],s,_,h=>⟨h,trivial⟩
 |y::L,s,⟨h1,h2⟩,h=>⟨h1,Xi5 h2 h⟩
theorem Xm8:∀{L:List bV} {s:oC},xS s L→ ∀(k:Nat) (h:k<L.length),sV L[k].aA (aP s (L.take k)) L[k].aB
 |x::L,s,⟨h1,h2⟩,0,_=>h1
 |x::L,s,⟨h1,h2⟩,k+1,h=>Xm8 h2 k (by simpa using h)
theorem Xm9{d:Int}:∀{l:List bD} {s:oC},sV d s l→ ∀e∈l,aX e=0
 | [],_,_,e,he=>by cases he
 |x::l,s,⟨h1,h2⟩,e,he=>by
  rcases List.mem_cons.1 he with rfl|he
  ·exact(Xrj h1).2.2
  ·exact Xm9 h2 e he
structure VC (i:Nat) (x:bV):Prop where
 num:x.num=(i:Nat)+1
 aA:0≤x.aA∧x.aA≤1000000000
 bE:x.bE.length≤32
 sl:x.sl=[]
 aU:x.aU.length≤14680064
 aC:∀e∈x.aB,e.aC.length≤1000
 xs:∀e∈x.aB,∀y∈e.aC,0≤y.s∧y.s≤(i:Nat)+1
structure eT (n m:Nat) (L:List bV):Prop where
 len:L.length≤m
 tot:(pairs L).length≤n
 all:xS aN L
 bg:∀i x,L[i]?=some x→VC i x
theorem Xtq:eT 0 0 []:=⟨Qn _,Qn _,trivial,fun i x h=>by simp at h⟩
theorem eT.mono{n' m':Nat}(h:eT n m L)(hn:n≤n')(hm:m≤m'):eT n' m' L:=⟨Nat.le_trans h.len hm,Nat.le_trans h.tot hn,h.all,h.bg⟩
theorem eT.at_(h:eT n m L)(hk:k<L.length)(hx:L[k]=x):VC k x:=h.bg k x (by rw[List.getElem?_eq_getElem hk,hx])
theorem eT.VD(h:eT n m L)(hk:k<L.length)(hx:L[k]=x):sV x.aA (aP aN (L.take k)) x.aB:=by
 have:=Xm8 h.all k hk;rw[hx]at this;exact this
theorem eT.err(h:eT n m L)(hx:x∈L):∀e∈x.aB,aX e=0:=by
 obtain⟨k,hk,e⟩:=List.getElem_of_mem hx;exact Xm9 (h.VD hk e)
theorem Xee(a b:List bV):pairs (a++b)=pairs a++pairs b:=by simp[pairs]
theorem Xgj(x:bV):(pairs [x]).length=x.aB.length:=by simp[pairs]
theorem VE(hk:k<L.length)(hx:L[k]=x):(pairs (L.take k)).length+x.aB.length≤(pairs L).length:=by
 have e:L=L.take k++([x]++L.drop (k+1)):=by
  rw[←hx];simp
 have:=congrArg (fun l=>(pairs l).length) e;simp only[Xee,List.length_append,Xgj]at this;omega
theorem eT.aB(h:eT n m L)(hx:x∈L):x.aB.length≤n:=by
 obtain⟨k,hk,e⟩:=List.getElem_of_mem hx;have:=VE hk e;have:=h.tot;omega
theorem Xqp(hk:k<L.length)(hx:L[k]=x):(pairs (L.take (k+1))).length=(pairs (L.take k)).length+x.aB.length:=by
 rw[List.take_succ_eq_append_getElem hk,hx,Xee,List.length_append,Xgj]
theorem eT.sin(h:eT n m L)(hk:k<L.length)(hx:L[k]=x)(j:Nat)(hj:j≤x.aB.length):Cu n (nN (aP aN (L.take k)) x.aA (x.aB.take j)):=by
 have hp:=VE hk hx;have ht:=h.tot;have h1:Cu (0+(pairs (L.take k)).length) (aP aN (L.take k)):=by
  rw[Xi6];refine Xko _ Xrs fun q hq=> ?_;obtain⟨s,hs,hq'⟩:=List.mem_flatMap.1 hq;obtain⟨e,he,rfl⟩:=List.mem_map.1 hq';exact VB (h.err (List.mem_of_mem_take hs) e he)
 have h2:=Xrx (x.aB.take j) h1 x.aA fun e he=>VB (h.err (by rw[←hx];exact List.getElem_mem hk) e (List.mem_of_mem_take he));refine h2.mono ?_;rw[List.length_take];omega
theorem eT.xg(h:eT n m L):Cu n (aP aN L):=by
 have h1:Cu (0+(pairs L).length) (aP aN L):=by
  rw[Xi6];refine Xko _ Xrs fun q hq=> ?_;obtain⟨s,hs,hq'⟩:=List.mem_flatMap.1 hq;obtain⟨e,he,rfl⟩:=List.mem_map.1 hq';exact VB (h.err hs e he)
 exact h1.mono (by have:=h.tot;omega)
structure zl (i b:Nat) (q:ib):Prop where
 bg:q.bg=(i:Nat)
 str:q.str.length≤65536*b
 aJ:q.aJ.length≤65536*b
 cx:∀c∈q.aJ,Si q.bg c
theorem Xwp:zl 0 0 AP:=⟨rfl,Qn _,Qn _,fun _ h=>(by cases h)⟩
theorem zl.mono{c:Nat}(h:zl i b q)(hc:b≤c):zl i c q:=⟨h.bg,Nat.le_trans h.str (by omega),Nat.le_trans h.aJ (by omega),h.cx⟩
theorem zl.begin(h:zl i b q)(hi:i<255):gM q ((i:Nat)+1)=(⟨q.aJ,(i:Nat)+1,[]⟩,0)∧zl (i+1) b ⟨q.aJ,(i:Nat)+1,[]⟩:=by
 have hs:=h.bg;refine⟨by rw[gM,if_neg (by omega),if_neg (by omega)],by show((i:Nat):Int)+1=((i+1:Nat):Int);omega,Nat.zero_le _,h.aJ,fun c hc=>⟨(h.cx c hc).x,?_,(h.cx c hc).d⟩⟩;have:=(h.cx c hc).s;show c.x.s≤(i:Int)+1;omega
theorem zl.VF(h:zl i b q)(h0:1≤i)(h1:i≤255)(hb:b≤60000):yO q:=⟨by rw[h.bg];omega,by rw[h.bg];omega,by have:=h.str;omega,h.cx⟩
theorem zl.step(h:zl i b q)(h0:1≤i)(h1:i≤255)(hb:b≤60000)(st:List af)(e:bD):zl i (b+1) (mi st q e):=by
 unfold mi;split
 ·have hl:=Xo st e.aC;have hp:=(Y4 (h.VF h0 h1 hb) hl).1;have h1:=hp.str;have h2:=hp.aJ;have h3:=h.str;have h4:=h.aJ;dsimp only at h1 h2;exact⟨by rw[hp.bg];exact h.bg,by omega,by omega,fun c hc=>by rw[hp.bg];exact hp.cx c hc⟩
 ·exact h.mono (by omega)
theorem zl.fold(h0:1≤i)(h1:i≤255)(st:List af):∀(l:List bD) {b:Nat} {q:ib},zl i b q→b+l.length≤60000→zl i (b+l.length) (l.foldl (mi st) q)
 | [],b,q,h,_=>h
 |e::l,b,q,h,hb=>by
  rw[List.length_cons]at hb ⊢;have:=zl.fold h0 h1 st l (h.step h0 h1 (by omega) st e) (by omega);rw[show b+(l.length+1)=b+1+l.length by omega];exact this
def nA(st:List af)(L:List bV)(k:Nat):ib:=(L.take k).foldl (LP st) AP
theorem Xlo(st:List af)(hk:k<L.length)(hx:L[k]=x):nA st L (k+1)=LP st (nA st L k) x:=by
 unfold nA;rw[List.take_succ_eq_append_getElem hk,hx,List.foldl_append];rfl
theorem Ot(L:List bV):nA (bT L) L L.length=bB L:=by unfold nA bB;rw[List.take_length]
theorem eT.Y8(h:eT n m L)(hn:n≤60000)(hm:m≤254)(st:List af):∀k,k≤L.length→zl k (pairs (L.take k)).length (nA st L k)
 |0,_=>Xwp
 |k+1,hk=>by
  have ih:=h.Y8 hn hm st k (by omega);have hl:=h.len;obtain⟨x,hx⟩:∃x,L[k]=x:=⟨_,rfl⟩;have hp:=VE (show k<L.length by omega) hx;have ht:=h.tot;rw[Xlo st (by omega) hx,LP,(h.at_ (by omega) hx).num,(ih.begin (by omega)).1];have:=zl.fold (i:=k+1) (by omega) (by omega) st x.aB (ih.begin (by omega)).2 (by omega);rw[Xqp (by omega) hx];exact this
theorem eT.wZ(h:eT n m L)(hn:n≤60000)(hm:m≤254):zl L.length n (bB L):=by
 have:=h.Y8 hn hm (bT L) L.length (Qn _);rw[Ot,List.take_length]at this;exact this.mono h.tot
theorem Xmh(st:List af)(k:Nat):∀{l:List Xt} (out:af),(∀x∈l,0≤x.s∧x.s≤(k:Nat))→k≤st.length→lH (st.take k) l out=lH st l out
 | [],_,_,_=>rfl
 |x::l,out,h,hk=>by
  have hx:=h x (List.mem_cons_self ..);have ih:=fun o=>Xmh st k (l:=l) o (fun y hy=>h y (List.mem_cons_of_mem _ hy)) hk;have h1:zU (st.take k) x=zU st x:=by
   unfold zU;rw[List.length_take,Qf (show ¬(((min k st.length:Nat):Int)<x.s) by omega),Qf (show ¬((st.length:Int)<x.s) by omega)]
  rw[lH,lH,h1];by_cases h0:x.s=0
  ·simp only[ih,h0];rfl
  ·have h2:lZ (st.take k) x=lZ st x:=by
    unfold lZ;rw[List.getD_eq_getElem?_getD,List.getD_eq_getElem?_getD,List.getElem?_take_of_lt (by omega)]
   simp only[ih,h2]
theorem Xsy(st:List af)(k:Nat){l:List Xt}(h:∀x∈l,0≤x.s∧x.s≤(k:Nat))(hk:k≤st.length):tF (st.take k) l=tF st l:=Xmh st k [] h hk
theorem Xvv(h:bQ L aA=0):L.length<255∧0≤aA∧aA≤1000000000∧fP L≤aA:=by
 unfold bQ at h;split at h
 ·omega
 ·split at h
  ·omega
  ·split at h
   ·omega
   ·omega
theorem Xn4(L:List bV):(dD L).length≤32:=by
 unfold dD;split
 ·exact Nat.zero_le _
 ·exact PC _
structure DN (L:List bV) (d:fU):Prop where
 num:d.num=(L.length:Nat)+1
 bE:d.bE=dD L
 last:fP L≤d.aA
 bg:d.bf.bg=(L.length:Nat)+1
 str:d.bf.str.length≤14680064
 all:sV d.aA (aP aN L) d.aB
 aF:d.aF=(nN (aP aN L) d.aA d.aB).aF
 holds:bY d.holds d.aA=bY (nN (aP aN L) d.aA d.aB).holds d.aA
 aC:∀e∈d.aB,e.aC.length≤1000
 xs:∀e∈d.aB,∀y∈e.aC,0≤y.s∧y.s≤(L.length:Nat)+1
theorem Xsh(L:List bV)(h:bQ L aA=0):DN L (dK L aA):=
 ⟨rfl,rfl,(Xvv h).2.2.2,rfl,Nat.zero_le _,trivial,rfl,Xxr _ _,fun _ h=>(by cases h),fun _ h=>(by cases h)⟩
theorem Ox(h:eT n m L)(hn:n≤60000)(hm:m≤254)(hb:bQ L aA=0):lU n (dK L aA):=by
 have hr:=h.wZ hn hm;have hs:=h.xg;have Y9:=Xvv hb;have aqT:=hr.bg;refine⟨⟨⟨hs.ok.aF,hs.ok.holds.act aA,hs.ok.Bc,Nat.le_trans (List.length_filter_le _ _) hs.ok.hlen⟩,hs.GR⟩,Nat.zero_le _,?_,?_,Nat.zero_le _,hr.aJ,fun c hc=>⟨(hr.cx c hc).x,?_,(hr.cx c hc).d⟩,Y9.2.1,Y9.2.2.1⟩
 ·show(1:Int)≤(L.length:Nat)+1;omega
 ·show((L.length:Nat):Int)+1≤255;omega
 ·have:=(hr.cx c hc).s;show c.x.s≤((L.length:Nat):Int)+1;omega
theorem Xx9(h:lU n d)(hn:n≤60000)(hi:DN L d)(hc:c.aI.length≤1000):DN L (gQ d c).1:=by
 rcases Xi7 d c with⟨_,e⟩|⟨_,h1,_,_,h4,h5,e⟩
 ·rw[e];exact hi
 ·have hb:=Y5 (h.bf hn) (show c.aI.length≤65536 by omega);have ht:d.stt=⟨(nN (aP aN L) d.aA d.aB).aF,d.holds⟩:=by rw[←hi.aF];rfl
  obtain⟨k1,k2⟩:=Xri (t:=(nN (aP aN L) d.aA d.aB).aF) hi.holds (fQ d.bf c).1;rw[←ht]at k1 k2;have h5':(fK (nN (aP aN L) d.aA d.aB) (fQ d.bf c).1 d.aA).2=0:=by rw[h5]at k1;exact k1.symm
  have k3:=k2 h5';rw[e];have Xd:nN (aP aN L) d.aA (d.aB++[(fQ d.bf c).1])=(fK d.stt (fQ d.bf c).1 d.aA).1:=by rw[Xov];exact k3.symm
  refine⟨hi.num,hi.bE,hi.last,by show(fQ d.bf c).2.bg=_;rw[hb.bg];exact hi.bg,h4,Xj0 hi.all h5',?_,?_,fun x hx=> ?_,fun x hx=> ?_⟩
  ·show _=(nN (aP aN L) d.aA (d.aB++[(fQ d.bf c).1])).aF;rw[Xd]
  ·show _=bY (nN (aP aN L) d.aA (d.aB++[(fQ d.bf c).1])).holds d.aA;rw[Xd]
  ·rcases List.mem_append.1 hx with hx|hx
   ·exact hi.aC x hx
   ·rw[List.mem_singleton.1 hx];have:=hb.len;omega
  ·rcases List.mem_append.1 hx with hx|hx
   ·exact hi.xs x hx
   ·rw[List.mem_singleton.1 hx];intro y hy;have ni:=hb.xs y hy;have iY:=hb.x0 y hy;rw[hi.bg]at iY;unfold XB at ni;exact⟨ni.1,iY⟩
theorem Xvm(d:fU)(c:ic):(gQ d c).1.num=d.num∧(gQ d c).1.aA=d.aA∧(gQ d c).1.bE=d.bE∧(gQ d c).1.aB.length≤d.aB.length+1:=by
 rcases Xi7 d c with⟨_,e⟩|⟨_,_,_,_,_,_,e⟩
 ·rw[e];exact⟨rfl,rfl,rfl,by omega⟩
 ·rw[e];exact⟨rfl,rfl,rfl,by simp⟩
theorem XF:∀{l:List ic} {n:Nat} {d:fU} (i:Nat),lU n d→n+l.length≤60000→DN L d→(∀c∈l,c.aI.length≤1000)→
 lU (n+l.length) (dV d i l).1∧DN L (dV d i l).1∧(dV d i l).1.aA=d.aA∧(dV d i l).1.aB.length≤d.aB.length+l.length
 | [],n,d,i,h,_,hi,_=>⟨h,hi,rfl,Qn _⟩
 |c::l,n,d,i,h,hn,hi,hc=>by
  rw[List.length_cons]at hn;have h1:=hc c (List.mem_cons_self ..);rw[dV];split
  ·exact⟨h.mono (by omega),hi,rfl,by simp⟩
  ·have ha:=TK h (by omega) (show c.aI.length≤65536 by omega);obtain⟨r1,r2,r3,r4⟩:=XF (i+1) ha (by omega) (Xx9 h (by omega) hi h1) (fun x hx=>hc x (List.mem_cons_of_mem _ hx));have hs:=Xvm d c;rw[List.length_cons];exact⟨r1.mono (by omega),r2,r3.trans hs.2.1,by omega⟩
theorem Xx8(hl:L.length<255)(hi:DN L d):ik L (bF d)=0:=by
 have h1:=hi.num;have h2:=hi.bE;have h3:=hi.last;unfold ik bF;dsimp only;rw[if_neg (by omega),if_neg (by rintro(h|⟨_,h⟩)<;>omega),if_neg (by simpa using h2)]
theorem Xtk(h:eT n m L)(hi:DN L d)(hd:0≤d.aA∧d.aA≤1000000000):eT (n+d.aB.length) (m+1) (L++[bF d]):=by
 refine⟨by rw[List.length_append];have:=h.len;simp;omega,by rw[Xee,List.length_append,Xgj];have:=h.tot;show _+d.aB.length≤_;omega,Xi5 h.all hi.all,fun i x hx=> ?_⟩;by_cases hl:i<L.length
 ·rw[List.getElem?_append_left hl]at hx;exact h.bg i x hx
 ·rw[List.getElem?_append_right (by omega)]at hx;obtain⟨e,hx⟩:i-L.length=0∧bF d=x:=by
   cases hh:i-L.length with
   |zero=>rw[hh]at hx;exact⟨rfl,by simpa using hx⟩
   |succ k=>rw[hh]at hx;simp at hx
  have Od:i=L.length:=by omega
  subst hx Od;exact⟨hi.num,hd,by show d.bE.length≤_;rw[hi.bE];exact Xn4 L,rfl,hi.str,hi.aC,hi.xs⟩
theorem Xra(h:eT n m L){l:List ic}(hn:n+l.length≤60000)(hm:m≤254)(hc:∀c∈l,c.aI.length≤1000):eT (n+l.length) (m+1) (kN L aA l).1:=by
 unfold kN;split
 ·exact h.mono (by omega) (by omega)
 ·rename_i hb;have hb:bQ L aA=0:=by omega
  split
  ·exact h.mono (by omega) (by omega)
  ·obtain⟨r1,r2,r3,r4⟩:=XF 0 (Ox h (by omega) hm hb) hn (Xsh L hb) hc;have:=Xtk h r2 r1.aA;refine this.mono ?_ (Qn _);have e:(dK L aA).aB.length=0:=rfl;omega
open Go.RowKit
abbrev bW(ai dt sp:Int)(vs:Value):Value:= .agg #[.int .u32 ai,.int .i64 dt,.int .i64 sp,vs]
abbrev gP(d:fU)(ve vk vt vh:Value):Value:= .agg #[.int .i64 d.num,.int .i64 d.aA,S d.bE,ve,vk,.int .i64 d.bf.bg,S d.bf.str,vt,vh]
structure NJ (w:World) (n:Nat) (d:fU) (ve vk vt vh:Value):Prop where
 c0:w.cell? ⟨n,0,none⟩=some (.int .i64 d.num)
 c1:w.cell? ⟨n,1,none⟩=some (.int .i64 d.aA)
 c2:w.cell? ⟨n,2,none⟩=some (S d.bE)
 c3:w.cell? ⟨n,3,none⟩=some ve
 c4:w.cell? ⟨n,4,none⟩=some vk
 c5:w.cell? ⟨n,5,none⟩=some (.int .i64 d.bf.bg)
 c6:w.cell? ⟨n,6,none⟩=some (S d.bf.str)
 c7:w.cell? ⟨n,7,none⟩=some vt
 c8:w.cell? ⟨n,8,none⟩=some vh
theorem NJ.aR{w':World}(h:NJ w b d ve vk vt vh)(hb:Below w.heap.size w w'):NJ w' b d ve vk vt vh:=
 ⟨aV hb h.c0,aV hb h.c1,aV hb h.c2,aV hb h.c3,aV hb h.c4,aV hb h.c5,aV hb h.c6,aV hb h.c7,aV hb h.c8⟩
theorem NJ.past(h:NJ w b d ve vk vt vh)(x:Obj):NJ (w.alloc x) b d ve vk vt vh:=
 ⟨kM x h.c0,kM x h.c1,kM x h.c2,kM x h.c3,kM x h.c4,kM x h.c5,kM x h.c6,kM x h.c7,kM x h.c8⟩
theorem drB_row{t:TypeId}(h:w.heap[b]?=some (.cells #[.int .i64 d.num,.int .i64 d.aA,S d.bE,ve,vk,.int .i64 d.bf.bg,S d.bf.str,vt,vh] t (0,0))):NJ w b d ve vk vt vh:=
 ⟨(cell_of_row w b 0 _ _ _ h).trans rfl,(cell_of_row w b 1 _ _ _ h).trans rfl,(cell_of_row w b 2 _ _ _ h).trans rfl,(cell_of_row w b 3 _ _ _ h).trans rfl,(cell_of_row w b 4 _ _ _ h).trans rfl,(cell_of_row w b 5 _ _ _ h).trans rfl,(cell_of_row w b 6 _ _ _ h).trans rfl,(cell_of_row w b 7 _ _ _ h).trans rfl,(cell_of_row w b 8 _ _ _ h).trans rfl⟩
theorem eT.CL(h:eT n m L)(hn:n≤400)(hm:m≤254):∀x∈L,Dz x:=fun x hx=>by
 obtain⟨k,hk,e⟩:=List.getElem_of_mem hx;have hs:=h.at_ hk e;have hl:=h.len;exact⟨by rw[hs.num];omega,hs.aA,hs.bE,hs.aU,Nat.le_trans (h.aB hx) hn,h.err hx,fun e he=>Xla (h.err hx e he),hs.aC⟩
theorem MV(L:List bV):L=[]∨ ∃k,∃hk:k<L.length,L.length=k+1∧L.getLast?=some L[k]:=by
 rcases Nat.eq_zero_or_pos L.length with h|h
 ·exact .inl (List.eq_nil_of_length_eq_zero h)
 ·refine .inr ⟨L.length-1,by omega,by omega,?_⟩;rw[List.getLast?_eq_getElem?,List.getElem?_eq_getElem (by omega)]
theorem Xu(I:IH)(hI:fG I)(ai dt sp:Int)(L:List bV)(vs:Value)(fV:aZ fw I vs L)(hL:∀x∈L,Dz x)(w:World)(hw:Ok I w):
 Calls Tryz.prog 24 #[bW ai dt sp vs] w fun e w'=>e= .returned (S (dD L))∧Below w.heap.size w w':=by
 obtain⟨ao,co,rfl,_,_,_⟩:=id fV;rcases MV L with rfl|⟨k,hk,hlen,kI⟩
 ·go_enter Tryz.func24,Tryz.ntmps24
  go_wp2;go_ret;exact⟨rfl,(Qb _ _).alloc (Qn _) _⟩
 ·have Hn:=Qh (show dD L=dW (lu L[k]) by unfold dD;rw[kI]);obtain⟨x,ve,b,off,cap',cB,dC,DX,mG⟩:=Cx fV (hw.alloc (.cells #[.int .u32 ai,.int .i64 dt,.int .i64 sp,.slice ao L.length co] 30)) k hk;cases dC;obtain⟨c0,c1,c2,c3,c4,c5⟩:=DX;have Hd:=Qh (fun w hw=>Xro I hI x ve mG (hL x (by rw[←cB];exact List.getElem_mem hk)) w hw);rw[cB]at Hn;have m1:IntKind.i64.wrap (k:Int)=(k:Int):=IntWalk.i64_in _ (by have:=fV.bL;omega);have z1:(((k+1:Nat):Int)==0)=false:=by simp;omega
  have i1:(k:Int)<((k+1:Nat):Int):=by omega
  rw[Hn.O];rw[hlen]at c0 c1 c2 c3 c4 c5 ⊢;clear fV cB kI hlen mG Hn;go_enter Tryz.func24,Tryz.ntmps24
  go_wp2_with fail
  refine(Hd.O _ (hw.alloc _)).mono ?_;rintro e w1 ⟨rfl,aG⟩;go_wp2;go_ret;exact⟨rfl,((Qb _ _).alloc (Qn _) _).trans (aG.mono (by simp))⟩
theorem Xo1(I:IH)(ai dt sp:Int)(L:List bV)(vs:Value)(fV:aZ fw I vs L)(hL:∀x∈L,Dz x)(w:World)(hw:Ok I w):
 Calls Tryz.prog 28 #[bW ai dt sp vs] w fun e w'=>e= .returned (S (dD L))∧Below w.heap.size w w':=by
 obtain⟨ao,co,rfl,_,_,_⟩:=id fV;rcases MV L with rfl|⟨k,hk,hlen,kI⟩
 ·go_enter Tryz.func28,Tryz.ntmps28
  go_wp2;go_ret;exact⟨rfl,(Qb _ _).alloc (Qn _) _⟩
 ·have Hn:=Qh (show dD L=dW (lu L[k]) by unfold dD;rw[kI]);obtain⟨x,ve,b,off,cap',cB,dC,DX,mG⟩:=Cx fV (hw.alloc (.cells #[.int .u32 ai,.int .i64 dt,.int .i64 sp,.slice ao L.length co] 30)) k hk;cases dC;obtain⟨c0,c1,c2,c3,c4,c5⟩:=DX;have Hd:=Qh (fun w hw=>Xqk I x ve mG (hL x (by rw[←cB];exact List.getElem_mem hk)) w hw);rw[cB]at Hn;have m1:IntKind.i64.wrap (k:Int)=(k:Int):=IntWalk.i64_in _ (by have:=fV.bL;omega);have z1:(((k+1:Nat):Int)==0)=false:=by simp;omega
  have i1:(k:Int)<((k+1:Nat):Int):=by omega
  rw[Hn.O];rw[hlen]at c0 c1 c2 c3 c4 c5 ⊢;clear fV cB kI hlen mG Hn;go_enter Tryz.func28,Tryz.ntmps28
  go_wp2_with fail
  refine(Hd.O _ (hw.alloc _)).mono ?_;rintro e w1 ⟨rfl,aG⟩;go_wp2;go_ret;exact⟨rfl,((Qb _ _).alloc (Qn _) _).trans (aG.mono (by simp))⟩
theorem Xv(I:IH)(ai dt sp:Int)(L:List bV)(vs:Value)(fV:aZ fw I vs L)(w:World)(hw:Ok I w):
 Calls Tryz.prog 22 #[bW ai dt sp vs] w fun e w'=>e= .returned (.int .i64 (fP L))∧Below w.heap.size w w':=by
 obtain⟨ao,co,rfl,_,_,_⟩:=id fV;rcases MV L with rfl|⟨k,hk,hlen,kI⟩
 ·go_enter Tryz.func22,Tryz.ntmps22
  go_wp2;go_ret;exact⟨rfl,(Qb _ _).alloc (Qn _) _⟩
 ·have Hn:=Qh (show fP L=L[k].aA by unfold fP;rw[kI]);obtain⟨x,ve,b,off,cap',cB,dC,DX,mG⟩:=Cx fV (hw.alloc (.cells #[.int .u32 ai,.int .i64 dt,.int .i64 sp,.slice ao L.length co] 30)) k hk;cases dC;obtain⟨c0,c1,c2,c3,c4,c5⟩:=DX;rw[cB]at Hn;have m1:IntKind.i64.wrap (k:Int)=(k:Int):=IntWalk.i64_in _ (by have:=fV.bL;omega);have z1:(((k+1:Nat):Int)==0)=false:=by simp;omega
  have i1:(k:Int)<((k+1:Nat):Int):=by omega
  rw[Hn.O];rw[hlen]at c0 c1 c2 c3 c4 c5 ⊢;clear fV cB kI hlen mG Hn;go_enter Tryz.func22,Tryz.ntmps22
  go_wp2;go_ret;exact⟨rfl,(Qb _ _).alloc (Qn _) _⟩
theorem Xd9:(Tryz.prog.info? 60).map (fun i=>(i.zero,i.size,i.bytes))=some (some (.agg #[.string ⟨#[]⟩,.string ⟨#[]⟩]),2,32):=by kernel_rfl
theorem Xp3(I:IH)(v:Value)(l:List _)(hv:aZ nk I v l)(w:World)(hw:Ok I w)(iw:l.length*32≤140737488355328):
 Calls Tryz.prog 59 #[v] w fun e w'=> ∃v',e= .returned v'∧aQ nk 60 I w' w.heap.size v' l∧Below w.heap.size w w':=by
 obtain⟨i0,hi,pg,qL,wX⟩:=info_parts Xd9;have q22:∀(w:World) (a:Option Addr) (n c n' c':Nat),(binOp .eql 51 (.slice a n c) (.slice none n' c')).run Tryz.prog w= .ok (.bool a.isNone) w:=fun w a n c n' c'=>Lib.run_eql_slice_nil w _ _ a n c n' c' Tryz.underlying51;obtain⟨ao,cap,xs,rfl,fu,iv,hL,hx⟩:=hv.cells hw (by decide);have HL:=Qh hL;have Hx:=Qh hx;clear hL hx hv;cases ao with
 |none=>
  have h0:l.length=0:=by
   rcases Nat.eq_zero_or_pos l.length with h|h
   ·exact h
   ·obtain⟨b,off,arr,e,_⟩:=Hx.O h;cases e
  have:l=[]:=List.eq_nil_of_length_eq_zero h0;subst this;go_enter Tryz.func59,Tryz.ntmps59
  go_wp2;go_ret;exact⟨_,rfl,aQ.nil _ _ _ _ _,Qb _ _⟩
 |some a=>
  go_enter Tryz.func59,Tryz.ntmps59
  go_wp2_with (at_builtin;refine wpList_append_own _ rfl _ _ 51 rfl w.heap.size 60 i0 _ 2 32 Tryz.underlying51 hi pg qL wX rfl (by decide) _ _ _ rfl (World.ownsRow_made w #[] 0 (Qn _) (Nat.zero_le _) (by simp)) a l.length cap xs rfl ?qc1 ?qc2 ?qc3 ?qc4 ?qc5 ?qc6 ?_)
  case qc1=>exact HL.O.1
  case qc2=>
   intro j u hj;have hl:0<l.length:=by
    have:=(List.getElem?_eq_some_iff.1 hj).1;rw[HL.O.1]at this;rcases Nat.eq_zero_or_pos l.length with h|h
    ·rw[h]at this;omega
    ·exact h
   obtain⟨b,off,arr,e,_,hb,hc⟩:=Hx.O hl;cases e;rw[Addr.add_lit];rw[World.cell?_alloc_lt _ _ _ hb];exact hc j u hj
  case qc3=>exact HL.O.oneCell
  case qc4=>rw[Nat.zero_add];omega
  case qc5=>rw[Nat.zero_add];exact iw
  case qc6=>simp
  intro v' w1 bU nT _;go_wp2;go_ret;refine⟨v',rfl,⟨xs,(by have hq:=bU;first|exact hq|(simp at hq;exact hq)),HL.O⟩,?_⟩;exact((Qb _ w).alloc (Qn _) _).grown nT (by simp) (by intro k hk;simp[Value.ownBlock]at hk;omega)
theorem Xd4:(Tryz.prog.info? 56).map (fun i=>(i.zero,i.size,i.bytes))=some (some (.agg #[.int .i64 0,.int .i64 0,.string ⟨#[]⟩,.slice none 0 0,.string ⟨#[]⟩,.string ⟨#[]⟩]),6,88):=by kernel_rfl
theorem Xnj(I:IH)(v:Value)(l:List _)(hv:aZ fw I v l)(w:World)(hw:Ok I w)(iw:l.length*88≤140737488355328):
 Calls Tryz.prog 48 #[v] w fun e w'=> ∃v',e= .returned v'∧aQ fw 56 I w' w.heap.size v' l∧Below w.heap.size w w':=by
 obtain⟨i0,hi,pg,qL,wX⟩:=info_parts Xd4;have q22:∀(w:World) (a:Option Addr) (n c n' c':Nat),(binOp .eql 28 (.slice a n c) (.slice none n' c')).run Tryz.prog w= .ok (.bool a.isNone) w:=fun w a n c n' c'=>Lib.run_eql_slice_nil w _ _ a n c n' c' Tryz.underlying28;obtain⟨ao,cap,xs,rfl,fu,iv,hL,hx⟩:=hv.cells hw (by decide);have HL:=Qh hL;have Hx:=Qh hx;clear hL hx hv;cases ao with
 |none=>
  have h0:l.length=0:=by
   rcases Nat.eq_zero_or_pos l.length with h|h
   ·exact h
   ·obtain⟨b,off,arr,e,_⟩:=Hx.O h;cases e
  have:l=[]:=List.eq_nil_of_length_eq_zero h0;subst this;go_enter Tryz.func48,Tryz.ntmps48
  go_wp2;go_ret;exact⟨_,rfl,aQ.nil _ _ _ _ _,Qb _ _⟩
 |some a=>
  go_enter Tryz.func48,Tryz.ntmps48
  go_wp2_with (at_builtin;refine wpList_append_own _ rfl _ _ 28 rfl w.heap.size 56 i0 _ 6 88 Tryz.underlying28 hi pg qL wX rfl (by decide) _ _ _ rfl (World.ownsRow_made w #[] 0 (Qn _) (Nat.zero_le _) (by simp)) a l.length cap xs rfl ?qc1 ?qc2 ?qc3 ?qc4 ?qc5 ?qc6 ?_)
  case qc1=>exact HL.O.1
  case qc2=>
   intro j u hj;have hl:0<l.length:=by
    have:=(List.getElem?_eq_some_iff.1 hj).1;rw[HL.O.1]at this;rcases Nat.eq_zero_or_pos l.length with h|h
    ·rw[h]at this;omega
    ·exact h
   obtain⟨b,off,arr,e,_,hb,hc⟩:=Hx.O hl;cases e;rw[Addr.add_lit];rw[World.cell?_alloc_lt _ _ _ hb];exact hc j u hj
  case qc3=>exact HL.O.oneCell
  case qc4=>rw[Nat.zero_add];omega
  case qc5=>rw[Nat.zero_add];exact iw
  case qc6=>simp
  intro v' w1 bU nT _;go_wp2;go_ret;refine⟨v',rfl,⟨xs,(by have hq:=bU;first|exact hq|(simp at hq;exact hq)),HL.O⟩,?_⟩;exact((Qb _ w).alloc (Qn _) _).grown nT (by simp) (by intro k hk;simp[Value.ownBlock]at hk;omega)
theorem Xsz(t:List bD)(p:af):(mV t p).2=(gu t p).isSome:=by
 unfold mV;cases gu t p<;>rfl
theorem Xlj(I:IH)(hI:fG I)(d:fU)(ve vk vt vh:Value)(hvt:aZ bM I vt d.aF)(hvh:aZ ku I vh d.holds)(hk:yf d.holds)(hnh:d.holds.length≤100000)(e:bD)(va vx:Value)(gK:aZ nk I va e.ag)(kw:aZ mU I vx e.aC)(ql:1≤e.av)(qp:e.aj.length≤4294967280)(w:World)(hw:Ok I w):
 Calls Tryz.prog 36 #[gP d ve vk vt vh,iF e va vx] w fun r w'=>r= .returned (.int .i64 (rE d.stt e d.aA))∧Below w.heap.size w w':=by
 obtain⟨ye,bx,hg⟩:∃ye bx,mV d.aF e.aj=(ye,bx):=⟨_,_,rfl⟩;have Hg:=Qh (fun w hw=>(by have:=Xvs I vt d.aF hvt e.aj w hw;rwa[hg]at this:Calls Tryz.prog 73 #[vt,S e.aj] w (O5 I w (ye,bx))));have PW:=Qh (fun w hw=>Xp8 I hI vh d.holds hvh hk hnh e va vx gK kw qp d.aA w hw);obtain⟨at',ct,rfl,_,_,_⟩:=id hvt;obtain⟨ah,ch,rfl,_,_,_⟩:=id hvh;obtain⟨aa,ca,rfl,_,_,_⟩:=id gK;obtain⟨ax,cx,rfl,_,_,_⟩:=id kw;have DB:=Qh (show NJ ((w.alloc (.cells #[.int .i64 d.num,.int .i64 d.aA,S d.bE,ve,vk,.int .i64 d.bf.bg,S d.bf.str,.slice at' d.aF.length ct,.slice ah d.holds.length ch] 46)).alloc (.cells #[.int .i64 e.av,S e.aj,.slice aa e.ag.length ca,S e.target,.int .i64 e.size,S e.aD,.slice ax e.aC.length cx] 63)) w.heap.size d ve vk (.slice at' d.aF.length ct) (.slice ah d.holds.length ch)from(drB_row (heap_alloc_new _ _)).past _);have EB:=Qh (show bP ((w.alloc (.cells #[.int .i64 d.num,.int .i64 d.aA,S d.bE,ve,vk,.int .i64 d.bf.bg,S d.bf.str,.slice at' d.aF.length ct,.slice ah d.holds.length ch] 46)).alloc (.cells #[.int .i64 e.av,S e.aj,.slice aa e.ag.length ca,S e.target,.int .i64 e.size,S e.aD,.slice ax e.aC.length cx] 63)) (w.heap.size+1) e (.slice aa e.ag.length ca) (.slice ax e.aC.length cx)from dP (by simp) (Qb _ _));have aL:Below w.heap.size w ((w.alloc (.cells #[.int .i64 d.num,.int .i64 d.aA,S d.bE,ve,vk,.int .i64 d.bf.bg,S d.bf.str,.slice at' d.aF.length ct,.slice ah d.holds.length ch] 46)).alloc (.cells #[.int .i64 e.av,S e.aj,.slice aa e.ag.length ca,S e.target,.int .i64 e.size,S e.aD,.slice ax e.aC.length cx] 63)):=((Qb w.heap.size w).alloc (Qn _) _).alloc (by simp) _;have vI:rE d.stt e d.aA=if 3<e.av∨bx=true then kE d.holds e.av e.aj d.aA else 0:=by
  unfold rE;have h2:=Xsz d.aF e.aj;rw[hg]at h2;rw[show bx=(gu d.aF e.aj).isSome from h2];rfl
 clear hvt hvh gK kw hg;have k1:decide ((1:Int)≤e.av)=true:=Qt ql;cases bx;case true=>
  have Hn:=Qh (show rE d.stt e d.aA=kE d.holds e.av e.aj d.aA by rw[vI,if_pos (.inr rfl)]);clear vI ql;go_enter Tryz.func36,Tryz.ntmps36
  go_wp2_with fail
  refine(Hg.O _ ((hw.alloc _).alloc _)).mono ?_;rintro r1 w1 ⟨va1,vx1,rfl,je,iN,aG⟩;obtain⟨aq,cq,rfl,_,_,_⟩:=id je;obtain⟨ES,ET,rfl,_,_,_⟩:=id iN;have aO:Ok I (w1.alloc (.cells #[.int .i64 ye.av,S ye.aj,.slice aq ye.ag.length cq,S ye.target,.int .i64 ye.size,S ye.aD,.slice ES ye.aC.length ET] 63)):=(((hw.alloc _).alloc _).below (Qn _) aG).alloc _;have VG:=(DB.O.aR aG).past (.cells #[.int .i64 ye.av,S ye.aj,.slice aq ye.ag.length cq,S ye.target,.int .i64 ye.size,S ye.aD,.slice ES ye.aC.length ET] 63);have yV:=(EB.O.aR aG).past (.cells #[.int .i64 ye.av,S ye.aj,.slice aq ye.ag.length cq,S ye.target,.int .i64 ye.size,S ye.aD,.slice ES ye.aC.length ET] 63);have aM:=(aL.trans (aG.mono aL.size)).alloc (by have:=(aL.trans (aG.mono aL.size)).size;omega) (.cells #[.int .i64 ye.av,S ye.aj,.slice aq ye.ag.length cq,S ye.target,.int .i64 ye.size,S ye.aD,.slice ES ye.aC.length ET] 63);obtain⟨d0,d1,d2,d3,d4,d5,d6⟩:=yV;obtain⟨c0,c1,c2,c3,c4,c5,c6,c7,c8⟩:=VG;clear aG aL je iN Hg;go_wp2_with fail
  refine(PW.O _ aO).mono ?_;rintro r2 w2 ⟨rfl,aL⟩;go_wp2;go_ret;rw[Hn.O];exact⟨rfl,aM.trans (aL.mono aM.size)⟩
 case false=>
  by_cases h3:e.av≤3
  ·have Hn:=Qh (show rE d.stt e d.aA=0 by rw[vI,if_neg (by simp;omega)]);have k3:decide (e.av≤3)=true:=Qt h3;clear vI ql h3;go_enter Tryz.func36,Tryz.ntmps36
   go_wp2_with fail
   refine(Hg.O _ ((hw.alloc _).alloc _)).mono ?_;rintro r1 w1 ⟨va1,vx1,rfl,je,iN,aG⟩;obtain⟨aq,cq,rfl,_,_,_⟩:=id je;obtain⟨ES,ET,rfl,_,_,_⟩:=id iN;have aO:Ok I (w1.alloc (.cells #[.int .i64 ye.av,S ye.aj,.slice aq ye.ag.length cq,S ye.target,.int .i64 ye.size,S ye.aD,.slice ES ye.aC.length ET] 63)):=(((hw.alloc _).alloc _).below (Qn _) aG).alloc _;have VG:=(DB.O.aR aG).past (.cells #[.int .i64 ye.av,S ye.aj,.slice aq ye.ag.length cq,S ye.target,.int .i64 ye.size,S ye.aD,.slice ES ye.aC.length ET] 63);have yV:=(EB.O.aR aG).past (.cells #[.int .i64 ye.av,S ye.aj,.slice aq ye.ag.length cq,S ye.target,.int .i64 ye.size,S ye.aD,.slice ES ye.aC.length ET] 63);have aM:=(aL.trans (aG.mono aL.size)).alloc (by have:=(aL.trans (aG.mono aL.size)).size;omega) (.cells #[.int .i64 ye.av,S ye.aj,.slice aq ye.ag.length cq,S ye.target,.int .i64 ye.size,S ye.aD,.slice ES ye.aC.length ET] 63);obtain⟨d0,d1,d2,d3,d4,d5,d6⟩:=yV;obtain⟨c0,c1,c2,c3,c4,c5,c6,c7,c8⟩:=VG;clear aG aL je iN Hg;go_wp2;go_ret;rw[Hn.O];exact⟨rfl,aM⟩
  ·have Hn:=Qh (show rE d.stt e d.aA=kE d.holds e.av e.aj d.aA by rw[vI,if_pos (.inl (by omega))]);have k3:decide (e.av≤3)=false:=Qf h3;clear vI ql h3;go_enter Tryz.func36,Tryz.ntmps36
   go_wp2_with fail
   refine(Hg.O _ ((hw.alloc _).alloc _)).mono ?_;rintro r1 w1 ⟨va1,vx1,rfl,je,iN,aG⟩;obtain⟨aq,cq,rfl,_,_,_⟩:=id je;obtain⟨ES,ET,rfl,_,_,_⟩:=id iN;have aO:Ok I (w1.alloc (.cells #[.int .i64 ye.av,S ye.aj,.slice aq ye.ag.length cq,S ye.target,.int .i64 ye.size,S ye.aD,.slice ES ye.aC.length ET] 63)):=(((hw.alloc _).alloc _).below (Qn _) aG).alloc _;have VG:=(DB.O.aR aG).past (.cells #[.int .i64 ye.av,S ye.aj,.slice aq ye.ag.length cq,S ye.target,.int .i64 ye.size,S ye.aD,.slice ES ye.aC.length ET] 63);have yV:=(EB.O.aR aG).past (.cells #[.int .i64 ye.av,S ye.aj,.slice aq ye.ag.length cq,S ye.target,.int .i64 ye.size,S ye.aD,.slice ES ye.aC.length ET] 63);have aM:=(aL.trans (aG.mono aL.size)).alloc (by have:=(aL.trans (aG.mono aL.size)).size;omega) (.cells #[.int .i64 ye.av,S ye.aj,.slice aq ye.ag.length cq,S ye.target,.int .i64 ye.size,S ye.aD,.slice ES ye.aC.length ET] 63);obtain⟨d0,d1,d2,d3,d4,d5,d6⟩:=yV;obtain⟨c0,c1,c2,c3,c4,c5,c6,c7,c8⟩:=VG;clear aG aL je iN Hg;go_wp2_with fail
   refine(PW.O _ aO).mono ?_;rintro r2 w2 ⟨rfl,aL⟩;go_wp2;go_ret;rw[Hn.O];exact⟨rfl,aM.trans (aL.mono aM.size)⟩
