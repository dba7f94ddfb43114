/- Lemmas for the claim's theorem;conditions: as each says. -/
import Derived.Test.YtmdfjnhfhidmhaaGreatDoorQ23
set_option maxHeartbeats 0
set_option maxRecDepth 100000
set_option linter.all false
namespace Go.Proofs.YtmdfjnhfhidmhaaGreatDoor
open Go.RowKit
variable{n:Nat}{L:List bu}{m k:Nat}{x:bu}{b:Nat}{s:jw}{e:aQ}{i:Nat}{az:Int}{h h':List Ho}{w:World}{ve vk vt vh:Value}{α:Type}{p:α→Bool}{l:List α}
abbrev agO(n:Nat)(num az:Int)(bq st p1 p2 p3 p4 sm p6 p7 v6 v10 v15 v21 v26:af)(ao:Option Addr)(le co:Nat)(x:Nat×Nat):List (Option Tmp×Value):=
 [(some 7,.pointer (some ⟨n,0,none⟩)),(some 8,.int .i64 num),(some 9,S p1),(some 10,.pointer (some ⟨n,1,none⟩)),(some 11,.int .i64 az),(some 12,S p2),(some 13,S v6),(some 14,.pointer (some ⟨n,2,none⟩)),(some 15,S bq),(some 16,S p3),(some 17,S v10),(some 18,.pointer (some ⟨n,4,none⟩)),(some 19,S st),(some 20,.int .i64 (st.length:Int)),(some 21,S p4),(some 22,S v15),(some 23,.pointer (some ⟨n,4,none⟩)),(some 24,S st),(some 25,.slice (some ⟨x.1,0,none⟩) 1 1),(some 26,S sm),(some 27,S p6),(some 28,S v21),(some 29,.pointer (some ⟨n,3,none⟩)),(some 30,.slice ao le co),(some 31,.int .i64 (le:Int)),(some 32,S p7),(some 33,S v26),(some 3,S v26)]
def meaning(x y:aQ):Bool:=decide (x.aj=y.aj)&&decide (x.au=y.au)&&decide (x.av=y.av)&&decide (x.size=y.size)&&decide (x.aI=y.aI)
def rJ:List aQ→List aQ→List af
 | [],[]=> []
 |x::a,[]=>x.ag::rJ a []
 | [],y::b=>y.ag::rJ [] b
 |x::a,y::b=>if mP x y then x.ag::rJ a (y::b)else if mP y x then y.ag::rJ (x::a) b else if meaning x y then rJ a b else x.ag::rJ a b
termination_by a b=>a.length+b.length
def agP(l:List af):Prop:=l.Pairwise fun p q=>ic (els p) (els q)=true
def RS(a b:List aQ)(p:af):Prop:=(∃x∈a,x.ag=p∧ ∀y∈b,y.ag=p→meaning x y=false)∨(∃y∈b,y.ag=p∧ ∀x∈a,x.ag≠p)
theorem YZ{d:Int}(h:(cZ s e d).2=0):bG s.aK e=((bG s.aK e).1,0)∧(cZ s e d).1.aK=Df s.aK e∧aL e=0:=by
 unfold cZ at*;split at h
 ·contradiction
 ·rename_i h1;have ha:=Rb (t:=s.aK) (e:=e) (by omega);obtain⟨hp,hx⟩:=l8.1 ha;split at h
  ·contradiction
  ·rename_i h2;split at h
   ·contradiction
   ·rename_i h3;rw[if_neg h1,if_neg h2,if_neg h3];exact⟨ha,hx,hp.C8⟩
def Y0(i:Option aQ)(l:List EW):Option aQ:=l.foldl (fun _ v=>if v.e.aj=4 then none else some v.e) i
def lV(d:Int):jw→List aQ→Prop
 |_,[]=>True
 |s,e::es=>(cZ s e d).2=0∧lV d (cZ s e d).1 es
def qg:jw→List bu→Prop
 |_,[]=>True
 |s,x::xs=>lV x.az s x.aB∧qg (iZ s x.az x.aB) xs
structure Y1 (i:Nat) (bq:af) (az:Int) (x:bu):Prop where
 dig:(pR x).2=0
 num:x.num=i+1
 az:az≤x.az
 bq:x.bq=bq
theorem Xmr(s:jw)(a b:List bu):bg s (a++b)=bg (bg s a) b:=List.foldl_append
def writes(p:af)(e:aQ):Bool:=decide (e.aj≤3)&&e.ag==p
def Oo(p:af)(l:List bu):Nat:=(l.flatMap fun x=>x.aB.filter (writes p)).length
def keeps(v:EW):Bool:=decide (v.e.aj≠4)
def DD:Bool→List EW→Prop
 |_,[]=>True
 |r,v::vs=>if v.e.aj=4 then r=false∧DD true vs else DD false vs
structure u6 (n:Nat) (s:jw):Prop where
 ok:EU n s
 AU:xK s.aK
theorem Y2:u6 0 bf:=⟨Xrt,fun _ h=>(by cases h)⟩
theorem u6.mono(h:u6 n s)(hm:n≤m):u6 m s:=⟨h.ok.mono hm,h.AU⟩
theorem RU(h:u6 n s)(e:aQ)(d:Int)(hp:e.ag.length≤300)(ht:e.av.length≤300):u6 (n+1) (cZ s e d).1:=by
 refine⟨Xpf h.ok e d,?_⟩;unfold cZ;split
 ·exact h.AU
 ·rename_i h1;split
  ·exact h.AU
  ·split
   ·exact h.AU
   ·have ha:=Rb (t:=s.aK) (e:=e) (by omega);obtain⟨_,hx⟩:=l8.1 ha;intro z hz;rw[hx]at hz;rcases(Xr4 h.ok.aK.yw e z).1 hz with⟨_,rfl⟩|⟨hz,_⟩
    ·omega
    ·exact h.AU z hz
theorem Y3:∀(l:List aQ) {n:Nat} {s:jw} (_:u6 n s) (d:Int),(∀e∈l,e.ag.length≤300∧e.av.length≤300)→u6 (n+l.length) (iZ s d l)
 | [],_,_,h,_,_=>h
 |e::l,n,s,h,d,hl=>by
  have he:=hl e (List.mem_cons_self ..);have:=Y3 l (RU h e d he.1 he.2) d fun x hx=>hl x (List.mem_cons_of_mem _ hx);exact this.mono (by simp;omega)
theorem Y4(s:jw)(d:Int)(l:List aQ)(e:aQ):iZ s d (l++[e])=(cZ (iZ s d l) e d).1:=by simp[iZ]
theorem Xpq{d:Int}{l:List aQ}(hk:k<l.length)(he:l[k]=e):iZ s d (l.take (k+1))=(cZ (iZ s d (l.take k)) e d).1:=by
 rw[List.take_succ_eq_append_getElem hk,he,Y4]
theorem Xq1{l:List bu}(hk:k<l.length)(hx:l[k]=x):bg s (l.take (k+1))=iZ (bg s (l.take k)) x.az x.aB:=by
 rw[List.take_succ_eq_append_getElem hk,hx,Xmr];rfl
def pairs(l:List bu):List (bu×aQ):=l.flatMap fun s=>s.aB.map fun e=>(s,e)
def Oq(s:jw)(q:bu×aQ):jw:=(cZ s q.2 q.1.az).1
theorem Y5(x:bu):∀(l:List aQ) (s:jw),iZ s x.az l=(l.map fun e=>(x,e)).foldl Oq s
 | [],_=>rfl
 |e::l,s=>by
  rw[List.map_cons,List.foldl_cons];exact Y5 x l _
theorem RV:∀(l:List bu) (s:jw),bg s l=(pairs l).foldl Oq s
 | [],_=>rfl
 |x::l,s=>by
  rw[pairs,List.flatMap_cons,List.foldl_append,←Y5];exact RV l _
def RX(p:af):jw→List (bu×aQ)→List EW
 |_,[]=> []
 |s,q::r=>(if zG s p q.2 then [⟨q.1.num,q.1.az,q.2⟩]else [])++RX p (Oq s q) r
theorem RY:∀(l:List (bu×aQ)) {n:Nat} {s:jw} (_:u6 n s),(∀q∈l,q.2.ag.length≤300∧q.2.av.length≤300)→u6 (n+l.length) (l.foldl Oq s)
 | [],_,_,h,_=>h
 |q::l,n,s,h,hl=>by
  have he:=hl q (List.mem_cons_self ..);have:=RY l (RU h q.2 q.1.az he.1 he.2) fun x hx=>hl x (List.mem_cons_of_mem _ hx);exact this.mono (by simp;omega)
def RZ(s:bu):Bool:=decide (100<s.bq.length) || (decide (1000<s.aV.length) || (decide (2100<s.sl.length) || ((decide (12<s.aB.length)&&decide (s.aB.length≠401)) || s.aB.any yV)))
def KL(s:bu):Bool:=decide (30<s.aB.length) || RZ s
def wtS(s:bu):Nat:=s.aV.length+10*s.aB.length
def wtL(l:List bu):Nat:=(l.map wtS).sum
def agV(l:List bu):Bool:=decide (8<l.length) || (l.any KL || decide (20000<wtL l))
structure bu.Wf (s:bu):Prop where
 num: -9223372036854775808≤s.num∧s.num≤9223372036854775807
 az: -9223372036854775808≤s.az∧s.az≤9223372036854775807
 aB:∀e∈s.aB,e.Wf
theorem R4(hk:k<l.length){x:α}(hx:l[k]=x)(h1:(l.take k).any p=false)(h2:p x=false):(l.take (k+1)).any p=false:=by
 rw[List.take_succ_eq_append_getElem hk,hx,List.any_append,h1];simp[h2]
theorem R5(hk:k<l.length){x:α}(hx:l[k]=x)(h:p x=true):l.any p=true:=
 List.any_eq_true.2 ⟨x,by rw[←hx];exact List.getElem_mem hk,h⟩
structure gy where
 aj:Int
 ag:af
 au:List At
 av:af
 aF:af
variable{c:gy}
structure fP where
 num:Int
 az:Int
 bq:af
 aB:List aQ
 bL:dX
 aK:List aQ
 aC:List Ho
variable{d:fP}
def xS:fP:=⟨0,0,[],[],⟨[],0,[]⟩,[],[]⟩
def dw(q:dX)(c:gy):aQ×dX:=
 if c.aj=1 then(⟨c.aj,c.ag,c.au,c.av,(c.aF.length:Nat),dA c.aF,(jE q c.aF).2.1⟩,(jE q c.aF).1)
 else(⟨c.aj,c.ag,c.au,c.av,0,[],[]⟩,q)
def fP.stt(d:fP):jw:=⟨d.aK,d.aC⟩
def gp(d:fP)(c:gy):fP×Int:=
 if aL (dw d.bL c).1≠0 then(d,aL (dw d.bL c).1)
 else if c.aj≠1∧c.aF≠[]then(d,1)
 else if 400≤d.aB.length∨14680064<(dw d.bL c).2.str.length then(d,6)
 else if(cZ d.stt (dw d.bL c).1 d.az).2≠0 then(d,(cZ d.stt (dw d.bL c).1 d.az).2)
 else(⟨d.num,d.az,d.bq,d.aB++[(dw d.bL c).1],(dw d.bL c).2,(cZ d.stt (dw d.bL c).1 d.az).1.aK,(cZ d.stt (dw d.bL c).1 d.az).1.aC⟩,0)
def dI(d:fP):bu:=⟨d.num,d.az,d.bq,d.aB,d.bL.str,[]⟩
def dU:fP→Nat→List gy→fP×Nat×Int
 |d,i,[]=>(d,i,0)
 |d,i,c::l=>if(gp d c).2≠0 then(d,i,(gp d c).2)else dU (gp d c).1 (i+1) l
def mD(st:List af)(q:dX)(e:aQ):dX:=if e.aj=1 then(jE q (qQ st e.aD).1).1 else q
def BZ(st:List af)(q:dX)(x:bu):dX:=x.aB.foldl (mD st) (gG q x.num).1
def Ca:dX:=⟨[],0,[]⟩
def bP(L:List bu):List af:=L.map fun x=>x.aV
def di(L:List bu):dX:=L.foldl (BZ (bP L)) Ca
def dV(L:List bu):af:=match L.getLast? with|none=> []|some x=>dA (jY x)
def iJ(L:List bu):Int:=match L.getLast? with|none=>0|some x=>x.az
def eQ(L:List bu)(az:Int):fP:=⟨(L.length:Nat)+1,az,dV L,[],⟨(di L).aM,(L.length:Nat)+1,[]⟩,(bg bf L).aK,bO (bg bf L).aC az⟩
def bX(L:List bu)(az:Int):Int:=if 255≤L.length then 6 else if az<0∨1000000000<az then 2 else if az<iJ L then 14 else 0
def oK(L:List bu)(az:Int):fP×Int:=if bX L az≠0 then(xS,bX L az)else(eQ L az,0)
def jF(L:List bu)(s:bu):Int:=if 255≤L.length then 6 else if s.num≠(L.length:Nat)+1∨(L≠[]∧s.az<iJ L)then 14 else if s.bq≠dV L then 20 else 0
def uK(L:List bu)(s:bu):List bu×Int:=if jF L s≠0 then(L,jF L s)else(L++[s],0)
def lI(L:List bu)(az:Int)(l:List gy):List bu×Nat×Int:=
 if bX L az≠0 then(L,0,bX L az)
 else if(dU (eQ L az) 0 l).2.2≠0 then(L,(dU (eQ L az) 0 l).2.1,(dU (eQ L az) 0 l).2.2)
 else(L++[dI (dU (eQ L az) 0 l).1],l.length,0)
theorem Xtm{l:List Xt}{x y:Xt}(h:y∈iE l x){m:Int}(hl:∀z∈l,z.s≤m)(hx:x.s≤m):y.s≤m:=by
 unfold iE at h;split at h
 ·rw[List.mem_singleton.1 h];exact hx
 ·rename_i z hz;split at h
  ·rcases List.mem_append.1 h with h|h
   ·exact hl y (List.dropLast_subset _ h)
   ·rw[List.mem_singleton.1 h];exact hl z (List.mem_of_getLast? hz)
  ·rcases List.mem_append.1 h with h|h
   ·exact hl y h
   ·rw[List.mem_singleton.1 h];exact hx
structure Ii (m:Int) (c:Ck):Prop where
 x:XB 65536 c.x
 s:c.x.s≤m
 d:c.d.length≤32
theorem Xs8(s:af):(dA s).length≤32:=Ia s
structure qW (q:dX):Prop where
 s0:1≤q.aW
 s1:q.aW≤255
 str:q.str.length≤4294901760
 cx:∀c∈q.aM,Ii q.aW c
structure AV (q:dX) (b:Nat) (p:dX×List Xt):Prop where
 aW:p.1.aW=q.aW
 str:p.1.str.length≤q.str.length+b
 aM:p.1.aM.length≤q.aM.length+b
 len:p.2.length≤b
 cx:∀c∈p.1.aM,Ii q.aW c
 xs:∀x∈p.2,XB (65536*b) x
 x0:∀x∈p.2,x.s≤q.aW
theorem AV.add{q:dX}{p:dX×List Xt}(h:AV q b p)(hn:1≤n){x:Xt}(hx:XB 65536 x)(hs:x.s≤q.aW):AV q (b+n) (p.1,iE p.2 x):=
 ⟨h.aW,Nat.le_trans h.str (by omega),Nat.le_trans h.aM (by omega),by have:=(Yr p.2 x).1;have:=h.len;show(iE p.2 x).length≤_;omega,h.cx,
   fun z hz=>(Yy (by decide) h.xs hx (by omega) z hz).mono (by omega),fun z hz=>Xtm hz h.x0 hs⟩
theorem Xpg{q:dX}(hq:qW q){p:dX×List Xt}(h:AV q b p){c:af}(hc:c≠[])(hb:b+c.length≤65536):AV q (b+c.length) (nX p c):=by
 have hl:=List.length_pos_iff.2 hc;have hs:=h.aW;obtain⟨s,l⟩:=p;cases hf:eP s.aM (dA c)with
 |some x=>
  obtain⟨k,hk,rfl⟩:=Ry hf;rw[YF hf];exact h.add hl (h.cx k hk).x (h.cx k hk).s
 |none=>
  have h1:=h.str;have h2:=hq.str;have h3:=hq.s0;have h4:=hq.s1;dsimp only at h1 hs;have hx:XB 65536 (jO s c)∧(jO s c).s≤q.aW:=by
   unfold XB jO;simp only;omega
  have ha:=h.add hl hx.1 hx.2;rw[YG hf];refine⟨hs,?_,?_,ha.len,fun k hk=> ?_,ha.xs,ha.x0⟩
  ·have:=h.str;simp at*;omega
  ·have:=h.aM;simp at*;omega
  ·rcases List.mem_append.1 hk with hk|hk
   ·exact h.cx k hk
   ·rw[List.mem_singleton.1 hk];exact⟨hx.1,hx.2,Xs8 c⟩
theorem Y6{q:dX}(hq:qW q):∀{l:List af} {b:Nat} {p:dX×List Xt},AV q b p→(∀c∈l,c≠[])→b+l.flatten.length≤65536→AV q (b+l.flatten.length) (l.foldl nX p)
 | [],b,p,h,_,_=>by simpa using h
 |c::l,b,p,h,hl,hb=>by
  rw[List.flatten_cons,List.length_append]at hb ⊢;have:=Y6 hq (Xpg hq h (hl c (List.mem_cons_self ..)) (by omega)) (fun x hx=>hl x (List.mem_cons_of_mem _ hx)) (by omega);rw[List.foldl_cons,←Nat.add_assoc];exact this
theorem R6{q:dX}(hq:qW q):∀{l:List Sg} {b:Nat} {p:dX×List Xt},AV q b p→(∀g∈l,(g.n=0∧g.d≠[])∨(0<g.n∧g.d=[]))→b+gm l≤65536→AV q (b+gm l) (l.foldl lG p)
 | [],b,p,h,_,_=>by simpa[gm]using h
 |g::l,b,p,h,hl,hb=>by
  rw[NY]at hb ⊢;have hr:=fun x hx=>hl x (List.mem_cons_of_mem _ hx);rw[List.foldl_cons,←Nat.add_assoc];rcases hl g (List.mem_cons_self ..)with⟨h0,h1⟩|⟨h0,h1⟩
  ·rw[lG,if_neg h1];have e:=Yo g.d;have h2:=Y6 hq (l:=bN g.d) h Xor (by rw[e];omega);rw[e]at h2;have h3:=R6 hq (l:=l) (b:=b+(g.n.toNat+g.d.length)) (by rw[h0];simpa using h2) hr (by omega);exact h3
  ·rw[lG,if_pos h1];have UC:=hq.s0;have h2:=h.add (n:=g.n.toNat+g.d.length) (by omega) (x:=⟨0,0,g.n⟩) (by unfold XB;simp only;omega) (by show(0:Int)≤_;omega);exact R6 hq h2 hr (by omega)
theorem R7{q:dX}(hq:qW q){c:af}(hc:c.length≤65536):AV q c.length ((jE q c).1,(jE q c).2.1)∧(jE q c).2.2=0:=by
 have h1:=hq.s0;have h2:=hq.s1;have h:=R6 hq (l:=gX c) (b:=0) (p:=(q,[])) ⟨rfl,Qn _,Qn _,Qn _,hq.cx,fun _ h=>(by cases h),fun _ h=>(by cases h)⟩ Ru (by rw[N7];omega);rw[N7,Nat.zero_add]at h;rw[jE,if_neg (by omega),if_neg (by omega)];exact⟨h,rfl⟩
theorem Y7{st:List af}:∀{l:List Xt} {out:af},out.length≤65536→(jP st l out).1.length≤65536
 | [],out,h=>h
 |x::l,out,h=>by
  rw[jP];split
  ·simp
  ·rename_i h1;split
   ·simp
   ·split
    ·simp
    ·rename_i h2 h3;refine Y7 ?_;rw[List.length_append];split
     ·rw[List.length_replicate];omega
     ·rw[List.length_take];omega
theorem Y8(st:List af)(l:List Xt):(qQ st l).1.length≤65536:=Y7 (by simp)
structure gy.Wf (c:gy):Prop where
 k0: -9223372036854775808≤c.aj
 k1:c.aj≤9223372036854775807
 ag:c.ag.length≤4294967280
 au:∀x∈c.au,x.Wf
 av:c.av.length≤4294967280
 aF:c.aF.length≤65536
theorem R8(h:aL e=0):e.Wf:=by
 have k:=NQ h;have:=k.ag;have:=k.av;have:=k.aI;have:=k.k1;have:=k.k6;have:=k.s0;have:=k.s1;refine⟨by omega,by omega,by omega,fun x hx=> ?_,by omega,by omega,by omega,by omega,fun x hx=> ?_⟩
 ·have:=k.Nt x hx;exact⟨by omega,by omega⟩
 ·have:=k.Rf x hx;exact⟨⟨by omega,by omega⟩,⟨by omega,by omega⟩,⟨by omega,by omega⟩⟩
structure lJ (n:Nat) (d:fP):Prop where
 st:u6 n d.stt
 aB:d.aB.length≤n
 s0:1≤d.bL.aW
 s1:d.bL.aW≤255
 str:d.bL.str.length≤65536*n
 aM:d.bL.aM.length≤65536*n
 cx:∀c∈d.bL.aM,Ii d.bL.aW c
 az:0≤d.az∧d.az≤1000000000
theorem lJ.mono(h:lJ n d)(hm:n≤m):lJ m d:=
 ⟨h.st.mono hm,Nat.le_trans h.aB hm,h.s0,h.s1,Nat.le_trans h.str (by omega),Nat.le_trans h.aM (by omega),h.cx,h.az⟩
theorem lJ.bL(h:lJ n d)(hn:n≤60000):qW d.bL:=⟨h.s0,h.s1,by have:=h.str;omega,h.cx⟩
structure R9 (q:dX) (b:Nat) (r:aQ×dX):Prop where
 aW:r.2.aW=q.aW
 str:r.2.str.length≤q.str.length+b
 aM:r.2.aM.length≤q.aM.length+b
 cx:∀c∈r.2.aM,Ii q.aW c
 len:r.1.aD.length≤b
 xs:∀x∈r.1.aD,XB (65536*b) x
 x0:∀x∈r.1.aD,x.s≤q.aW
theorem Sa{q:dX}(hq:qW q)(hc:c.aF.length≤65536):R9 q c.aF.length (dw q c):=by
 unfold dw;split
 ·have h:=(R7 hq hc).1;exact⟨h.aW,h.str,h.aM,h.cx,h.len,h.xs,h.x0⟩
 ·exact⟨rfl,Nat.le_add_right _ _,Nat.le_add_right _ _,hq.cx,Nat.zero_le _,fun _ h=>(by cases h),fun _ h=>(by cases h)⟩
theorem Xs9(s:af):(dA s).length≤32:=Ia s
theorem Sb{q:dX}(hq:qW q)(hc:c.Wf):(dw q c).1.Wf:=by
 have hl:=hc.aF;have hb:=Sa hq hl;have hx:∀x∈(dw q c).1.aD,x.Wf:=fun x hx=>by
  have:=hb.xs x hx;unfold XB at this;exact⟨⟨by omega,by omega⟩,⟨by omega,by omega⟩,⟨by omega,by omega⟩⟩
 have hp:=hc.ag;have ht:=hc.av;have hs:=Xs9 c.aF;unfold dw at hx ⊢;split
 ·rename_i hk;rw[if_pos hk]at hx;exact⟨hc.k0,hc.k1,by show c.ag.length≤_;omega,hc.au,by show c.av.length≤_;omega,by show _≤((c.aF.length:Nat):Int);omega,by show((c.aF.length:Nat):Int)≤_;omega,by show(dA c.aF).length≤_;omega,hx⟩
 ·exact⟨hc.k0,hc.k1,by show c.ag.length≤_;omega,hc.au,by show c.av.length≤_;omega,by show(-9223372036854775808:Int)≤0;decide,by show(0:Int)≤9223372036854775807;decide,by show(0:Nat)≤9223372036854775807;decide,fun _ h=>(by cases h)⟩
theorem Xl8(q:dX)(c:gy):(dw q c).1.aj=c.aj∧(dw q c).1.ag=c.ag∧(dw q c).1.au=c.au∧(dw q c).1.av=c.av:=by
 unfold dw;split<;>exact⟨rfl,rfl,rfl,rfl⟩
theorem KM(h:aL e=0):e.ag.length≤300∧e.av.length≤300:=by
 have k:=NQ h;have:=k.ag;have:=k.av;omega
theorem Sc(d:fP)(c:gy):((gp d c).2≠0∧(gp d c).1=d)∨((gp d c).2=0∧aL (dw d.bL c).1=0∧(c.aj=1∨c.aF=[])∧d.aB.length<400∧(dw d.bL c).2.str.length≤14680064∧(cZ d.stt (dw d.bL c).1 d.az).2=0∧
 (gp d c).1=⟨d.num,d.az,d.bq,d.aB++[(dw d.bL c).1],(dw d.bL c).2,(cZ d.stt (dw d.bL c).1 d.az).1.aK,(cZ d.stt (dw d.bL c).1 d.az).1.aC⟩):=by
 unfold gp;by_cases h1:aL (dw d.bL c).1≠0
 ·rw[if_pos h1];exact .inl ⟨h1,rfl⟩
 rw[if_neg h1];by_cases h2:c.aj≠1∧c.aF≠[]
 ·rw[if_pos h2];exact .inl ⟨(by decide:(1:Int)≠0),rfl⟩
 rw[if_neg h2];by_cases h3:400≤d.aB.length∨14680064<(dw d.bL c).2.str.length
 ·rw[if_pos h3];exact .inl ⟨(by decide:(6:Int)≠0),rfl⟩
 rw[if_neg h3];by_cases h4:(cZ d.stt (dw d.bL c).1 d.az).2≠0
 ·rw[if_pos h4];exact .inl ⟨h4,rfl⟩
 rw[if_neg h4];refine .inr ⟨rfl,by omega,?_,by omega,by omega,by omega,rfl⟩;by_cases hk:c.aj=1
 ·exact .inl hk
 ·exact .inr (Classical.byContradiction fun q=>h2 ⟨hk,q⟩)
theorem Y9(h:lJ n d)(hn:n≤60000)(hc:c.aF.length≤65536):lJ (n+1) (gp d c).1:=by
 rcases Sc d c with⟨_,e⟩|⟨_,h1,_,_,_,h5,e⟩
 ·rw[e];exact h.mono (by omega)
 ·have hb:=Sa (h.bL hn) hc;have hs:=KM h1;have kN:=RU h.st (dw d.bL c).1 d.az hs.1 hs.2;rw[e];have:=h.aB;have:=hb.str;have:=hb.aM;have:=h.str;have:=h.aM;refine⟨kN,by simp;omega,by rw[hb.aW];exact h.s0,by rw[hb.aW];exact h.s1,by show(dw d.bL c).2.str.length≤_;omega,by show(dw d.bL c).2.aM.length≤_;omega,fun k hk=> ?_,h.az⟩;show Ii (dw d.bL c).2.aW k;rw[hb.aW];exact hb.cx k hk
theorem Xs6(l:List Ho)(d:Int):bO (bO l d) d=bO l d:=by
 unfold bO;rw[List.filter_filter];simp
theorem Xo4{d:Int}(hh:bO h d=bO h' d)(k:Int)(p:af):kG h k p d=kG h' k p d:=by
 unfold kG kg pg;rw[hh]
theorem Xo1{d:Int}(hh:bO h d=bO h' d)(e:aQ):appH h e d=appH h' e d:=by
 unfold appH;rw[hh]
theorem Xm1{t:List aQ}{d:Int}(hh:bO h d=bO h' d)(e:aQ):
 (cZ ⟨t,h⟩ e d).2=(cZ ⟨t,h'⟩ e d).2∧((cZ ⟨t,h'⟩ e d).2=0→(cZ ⟨t,h⟩ e d).1=(cZ ⟨t,h'⟩ e d).1):=by
 have ha:nz ⟨t,h⟩ e d=nz ⟨t,h'⟩ e d:=by
  unfold nz;dsimp only;rw[Xo4 hh]
 unfold cZ;rw[ha];dsimp only;rw[Xo1 hh];by_cases h1:(bG t e).2≠0
 ·rw[if_pos h1,if_pos h1];exact⟨rfl,fun q=>absurd q h1⟩
 rw[if_neg h1,if_neg h1];by_cases h2:nz ⟨t,h'⟩ e d≠0
 ·rw[if_pos h2,if_pos h2];exact⟨rfl,fun q=>absurd q h2⟩
 rw[if_neg h2,if_neg h2];by_cases h3:(appH h' e d).2≠0
 ·rw[if_pos h3,if_pos h3];exact⟨rfl,fun q=>absurd q h3⟩
 rw[if_neg h3,if_neg h3];exact⟨rfl,fun _=>rfl⟩
theorem Za{d:Int}:∀{l:List aQ} {s:jw},lV d s l→(cZ (iZ s d l) e d).2=0→lV d s (l++[e])
 | [],s,_,h=>⟨h,trivial⟩
 |x::l,s,⟨h1,h2⟩,h=>⟨h1,Za h2 h⟩
theorem Zb{d:Int}:∀{l:List aQ} {s:jw},lV d s l→ ∀(j:Nat) (h:j<l.length),(cZ (iZ s d (l.take j)) l[j] d).2=0
 |x::l,s,⟨h1,h2⟩,0,_=>h1
 |x::l,s,⟨h1,h2⟩,j+1,h=>Zb h2 j (by simpa using h)
theorem Zc:∀{L:List bu} {s:jw},qg s L→lV x.az (bg s L) x.aB→qg s (L++[x])
 | [],s,_,h=>⟨h,trivial⟩
 |y::L,s,⟨h1,h2⟩,h=>⟨h1,Zc h2 h⟩
theorem Zd:∀{L:List bu} {s:jw},qg s L→ ∀(k:Nat) (h:k<L.length),lV L[k].az (bg s (L.take k)) L[k].aB
 |x::L,s,⟨h1,h2⟩,0,_=>h1
 |x::L,s,⟨h1,h2⟩,k+1,h=>Zd h2 k (by simpa using h)
theorem Ze{d:Int}:∀{l:List aQ} {s:jw},lV d s l→ ∀e∈l,aL e=0
 | [],_,_,e,he=>by cases he
 |x::l,s,⟨h1,h2⟩,e,he=>by
  rcases List.mem_cons.1 he with rfl|he
  ·exact(YZ h1).2.2
  ·exact Ze h2 e he
structure KN (i:Nat) (x:bu):Prop where
 num:x.num=(i:Nat)+1
 az:0≤x.az∧x.az≤1000000000
 bq:x.bq.length≤32
 sl:x.sl=[]
 aV:x.aV.length≤14680064
 aD:∀e∈x.aB,e.aD.length≤1000
 xs:∀e∈x.aB,∀y∈e.aD,0≤y.s∧y.s≤(i:Nat)+1
structure cO (n m:Nat) (L:List bu):Prop where
 len:L.length≤m
 tot:(pairs L).length≤n
 all:qg bf L
 aW:∀i x,L[i]?=some x→KN i x
theorem Zf:cO 0 0 []:=⟨Qn _,Qn _,trivial,fun i x h=>by simp at h⟩
theorem cO.mono{n' m':Nat}(h:cO n m L)(hn:n≤n')(hm:m≤m'):cO n' m' L:=⟨Nat.le_trans h.len hm,Nat.le_trans h.tot hn,h.all,h.aW⟩
theorem cO.at_(h:cO n m L)(hk:k<L.length)(hx:L[k]=x):KN k x:=h.aW k x (by rw[List.getElem?_eq_getElem hk,hx])
theorem cO.KO(h:cO n m L)(hk:k<L.length)(hx:L[k]=x):lV x.az (bg bf (L.take k)) x.aB:=by
 have:=Zd h.all k hk;rw[hx]at this;exact this
theorem cO.err(h:cO n m L)(hx:x∈L):∀e∈x.aB,aL e=0:=by
 obtain⟨k,hk,e⟩:=List.getElem_of_mem hx;exact Ze (h.KO hk e)
theorem Sd(a b:List bu):pairs (a++b)=pairs a++pairs b:=by simp[pairs]
theorem Si(x:bu):(pairs [x]).length=x.aB.length:=by simp[pairs]
theorem KP(hk:k<L.length)(hx:L[k]=x):(pairs (L.take k)).length+x.aB.length≤(pairs L).length:=by
 have e:L=L.take k++([x]++L.drop (k+1)):=by
  rw[←hx];simp
 have:=congrArg (fun l=>(pairs l).length) e;simp only[Sd,List.length_append,Si]at this;omega
theorem cO.aB(h:cO n m L)(hx:x∈L):x.aB.length≤n:=by
 obtain⟨k,hk,e⟩:=List.getElem_of_mem hx;have:=KP hk e;have:=h.tot;omega
theorem Xma(hk:k<L.length)(hx:L[k]=x):(pairs (L.take (k+1))).length=(pairs (L.take k)).length+x.aB.length:=by
 rw[List.take_succ_eq_append_getElem hk,hx,Sd,List.length_append,Si]
theorem cO.sin(h:cO n m L)(hk:k<L.length)(hx:L[k]=x)(j:Nat)(hj:j≤x.aB.length):u6 n (iZ (bg bf (L.take k)) x.az (x.aB.take j)):=by
 have hp:=KP hk hx;have ht:=h.tot;have h1:u6 (0+(pairs (L.take k)).length) (bg bf (L.take k)):=by
  rw[RV];refine RY _ Y2 fun q hq=> ?_;obtain⟨s,hs,Vk⟩:=List.mem_flatMap.1 hq;obtain⟨e,he,rfl⟩:=List.mem_map.1 Vk;exact KM (h.err (List.mem_of_mem_take hs) e he)
 have h2:=Y3 (x.aB.take j) h1 x.az fun e he=>KM (h.err (by rw[←hx];exact List.getElem_mem hk) e (List.mem_of_mem_take he));refine h2.mono ?_;rw[List.length_take];omega
theorem cO.vQ(h:cO n m L):u6 n (bg bf L):=by
 have h1:u6 (0+(pairs L).length) (bg bf L):=by
  rw[RV];refine RY _ Y2 fun q hq=> ?_;obtain⟨s,hs,Vk⟩:=List.mem_flatMap.1 hq;obtain⟨e,he,rfl⟩:=List.mem_map.1 Vk;exact KM (h.err hs e he)
 exact h1.mono (by have:=h.tot;omega)
structure rM (i b:Nat) (q:dX):Prop where
 aW:q.aW=(i:Nat)
 str:q.str.length≤65536*b
 aM:q.aM.length≤65536*b
 cx:∀c∈q.aM,Ii q.aW c
theorem Xry:rM 0 0 Ca:=⟨rfl,Qn _,Qn _,fun _ h=>(by cases h)⟩
theorem rM.mono{c:Nat}{q:dX}(h:rM i b q)(hc:b≤c):rM i c q:=⟨h.aW,Nat.le_trans h.str (by omega),Nat.le_trans h.aM (by omega),h.cx⟩
theorem rM.begin{q:dX}(h:rM i b q)(hi:i<255):gG q ((i:Nat)+1)=(⟨q.aM,(i:Nat)+1,[]⟩,0)∧rM (i+1) b ⟨q.aM,(i:Nat)+1,[]⟩:=by
 have hs:=h.aW;refine⟨by rw[gG,if_neg (by omega),if_neg (by omega)],by show((i:Nat):Int)+1=((i+1:Nat):Int);omega,Nat.zero_le _,h.aM,fun c hc=>⟨(h.cx c hc).x,?_,(h.cx c hc).d⟩⟩;have:=(h.cx c hc).s;show c.x.s≤(i:Int)+1;omega
theorem rM.KQ{q:dX}(h:rM i b q)(h0:1≤i)(h1:i≤255)(hb:b≤60000):qW q:=⟨by rw[h.aW];omega,by rw[h.aW];omega,by have:=h.str;omega,h.cx⟩
theorem rM.step{q:dX}(h:rM i b q)(h0:1≤i)(h1:i≤255)(hb:b≤60000)(st:List af)(e:aQ):rM i (b+1) (mD st q e):=by
 unfold mD;split
 ·have hl:=Y8 st e.aD;have hp:=(R7 (h.KQ h0 h1 hb) hl).1;have h1:=hp.str;have h2:=hp.aM;have h3:=h.str;have h4:=h.aM;dsimp only at h1 h2;exact⟨by rw[hp.aW];exact h.aW,by omega,by omega,fun c hc=>by rw[hp.aW];exact hp.cx c hc⟩
 ·exact h.mono (by omega)
theorem rM.fold(h0:1≤i)(h1:i≤255)(st:List af):∀(l:List aQ) {b:Nat} {q:dX},rM i b q→b+l.length≤60000→rM i (b+l.length) (l.foldl (mD st) q)
 | [],b,q,h,_=>h
 |e::l,b,q,h,hb=>by
  rw[List.length_cons]at hb ⊢;have:=rM.fold h0 h1 st l (h.step h0 h1 (by omega) st e) (by omega);rw[show b+(l.length+1)=b+1+l.length by omega];exact this
def mE(st:List af)(L:List bu)(k:Nat):dX:=(L.take k).foldl (BZ st) Ca
theorem Zg(st:List af)(hk:k<L.length)(hx:L[k]=x):mE st L (k+1)=BZ st (mE st L k) x:=by
 unfold mE;rw[List.take_succ_eq_append_getElem hk,hx,List.foldl_append];rfl
theorem Sj(L:List bu):mE (bP L) L L.length=di L:=by unfold mE di;rw[List.take_length]
theorem cO.Ot(h:cO n m L)(hn:n≤60000)(hm:m≤254)(st:List af):∀k,k≤L.length→rM k (pairs (L.take k)).length (mE st L k)
 |0,_=>Xry
 |k+1,hk=>by
  have ih:=h.Ot hn hm st k (by omega);have hl:=h.len;obtain⟨x,hx⟩:∃x,L[k]=x:=⟨_,rfl⟩;have hp:=KP (show k<L.length by omega) hx;have ht:=h.tot;rw[Zg st (by omega) hx,BZ,(h.at_ (by omega) hx).num,(ih.begin (by omega)).1];have:=rM.fold (i:=k+1) (by omega) (by omega) st x.aB (ih.begin (by omega)).2 (by omega);rw[Xma (by omega) hx];exact this
theorem cO.zO(h:cO n m L)(hn:n≤60000)(hm:m≤254):rM L.length n (di L):=by
 have:=h.Ot hn hm (bP L) L.length (Qn _);rw[Sj,List.take_length]at this;exact this.mono h.tot
theorem Zh(st:List af)(k:Nat):∀{l:List Xt} (out:af),(∀x∈l,0≤x.s∧x.s≤(k:Nat))→k≤st.length→jP (st.take k) l out=jP st l out
 | [],_,_,_=>rfl
 |x::l,out,h,hk=>by
  have hx:=h x (List.mem_cons_self ..);have ih:=fun o=>Zh st k (l:=l) o (fun y hy=>h y (List.mem_cons_of_mem _ hy)) hk;have h1:sH (st.take k) x=sH st x:=by
   unfold sH;rw[List.length_take,Qf (show ¬(((min k st.length:Nat):Int)<x.s) by omega),Qf (show ¬((st.length:Int)<x.s) by omega)]
  rw[jP,jP,h1];by_cases h0:x.s=0
  ·simp only[ih,h0];rfl
  ·have h2:iI (st.take k) x=iI st x:=by
    unfold iI;rw[List.getD_eq_getElem?_getD,List.getD_eq_getElem?_getD,List.getElem?_take_of_lt (by omega)]
   simp only[ih,h2]
theorem Xn9(st:List af)(k:Nat){l:List Xt}(h:∀x∈l,0≤x.s∧x.s≤(k:Nat))(hk:k≤st.length):qQ (st.take k) l=qQ st l:=Zh st k [] h hk
theorem Zi(h:bX L az=0):L.length<255∧0≤az∧az≤1000000000∧iJ L≤az:=by
 unfold bX at h;split at h
 ·omega
 ·split at h
  ·omega
  ·split at h
   ·omega
   ·omega
theorem Xj8(L:List bu):(dV L).length≤32:=by
 unfold dV;split
 ·exact Nat.zero_le _
 ·exact Ia _
structure vR (L:List bu) (d:fP):Prop where
 num:d.num=(L.length:Nat)+1
 bq:d.bq=dV L
 last:iJ L≤d.az
 aW:d.bL.aW=(L.length:Nat)+1
 str:d.bL.str.length≤14680064
 all:lV d.az (bg bf L) d.aB
 aK:d.aK=(iZ (bg bf L) d.az d.aB).aK
 aC:bO d.aC d.az=bO (iZ (bg bf L) d.az d.aB).aC d.az
 aD:∀e∈d.aB,e.aD.length≤1000
 xs:∀e∈d.aB,∀y∈e.aD,0≤y.s∧y.s≤(L.length:Nat)+1
theorem Zj(L:List bu)(h:bX L az=0):vR L (eQ L az):=
 ⟨rfl,rfl,(Zi h).2.2.2,rfl,Nat.zero_le _,trivial,rfl,Xs6 _ _,fun _ h=>(by cases h),fun _ h=>(by cases h)⟩
theorem Sk(h:cO n m L)(hn:n≤60000)(hm:m≤254)(hb:bX L az=0):lJ n (eQ L az):=by
 have hr:=h.zO hn hm;have hs:=h.vQ;have Ou:=Zi hb;have ag9:=hr.aW;refine⟨⟨⟨hs.ok.aK,hs.ok.aC.act az,hs.ok.xP,Nat.le_trans (List.length_filter_le _ _) hs.ok.hlen⟩,hs.AU⟩,Nat.zero_le _,?_,?_,Nat.zero_le _,hr.aM,fun c hc=>⟨(hr.cx c hc).x,?_,(hr.cx c hc).d⟩,Ou.2.1,Ou.2.2.1⟩
 ·show(1:Int)≤(L.length:Nat)+1;omega
 ·show((L.length:Nat):Int)+1≤255;omega
 ·have:=(hr.cx c hc).s;show c.x.s≤((L.length:Nat):Int)+1;omega
theorem Xtl(h:lJ n d)(hn:n≤60000)(hi:vR L d)(hc:c.aF.length≤1000):vR L (gp d c).1:=by
 rcases Sc d c with⟨_,e⟩|⟨_,h1,_,_,h4,h5,e⟩
 ·rw[e];exact hi
 ·have hb:=Sa (h.bL hn) (show c.aF.length≤65536 by omega);have ht:d.stt=⟨(iZ (bg bf L) d.az d.aB).aK,d.aC⟩:=by rw[←hi.aK];rfl
  obtain⟨k1,k2⟩:=Xm1 (t:=(iZ (bg bf L) d.az d.aB).aK) hi.aC (dw d.bL c).1;rw[←ht]at k1 k2;have h5':(cZ (iZ (bg bf L) d.az d.aB) (dw d.bL c).1 d.az).2=0:=by rw[h5]at k1;exact k1.symm
  have k3:=k2 h5';rw[e];have MM:iZ (bg bf L) d.az (d.aB++[(dw d.bL c).1])=(cZ d.stt (dw d.bL c).1 d.az).1:=by rw[Y4];exact k3.symm
  refine⟨hi.num,hi.bq,hi.last,by show(dw d.bL c).2.aW=_;rw[hb.aW];exact hi.aW,h4,Za hi.all h5',?_,?_,fun x hx=> ?_,fun x hx=> ?_⟩
  ·show _=(iZ (bg bf L) d.az (d.aB++[(dw d.bL c).1])).aK;rw[MM]
  ·show _=bO (iZ (bg bf L) d.az (d.aB++[(dw d.bL c).1])).aC d.az;rw[MM]
  ·rcases List.mem_append.1 hx with hx|hx
   ·exact hi.aD x hx
   ·rw[List.mem_singleton.1 hx];have:=hb.len;omega
  ·rcases List.mem_append.1 hx with hx|hx
   ·exact hi.xs x hx
   ·rw[List.mem_singleton.1 hx];intro y hy;have uP:=hb.xs y hy;have kM:=hb.x0 y hy;rw[hi.aW]at kM;unfold XB at uP;exact⟨uP.1,kM⟩
theorem Xq3(d:fP)(c:gy):(gp d c).1.num=d.num∧(gp d c).1.az=d.az∧(gp d c).1.bq=d.bq∧(gp d c).1.aB.length≤d.aB.length+1:=by
 rcases Sc d c with⟨_,e⟩|⟨_,_,_,_,_,_,e⟩
 ·rw[e];exact⟨rfl,rfl,rfl,by omega⟩
 ·rw[e];exact⟨rfl,rfl,rfl,by simp⟩
theorem Sl:∀{l:List gy} {n:Nat} {d:fP} (i:Nat),lJ n d→n+l.length≤60000→vR L d→(∀c∈l,c.aF.length≤1000)→
 lJ (n+l.length) (dU d i l).1∧vR L (dU d i l).1∧(dU d i l).1.az=d.az∧(dU d i l).1.aB.length≤d.aB.length+l.length
 | [],n,d,i,h,_,hi,_=>⟨h,hi,rfl,Qn _⟩
 |c::l,n,d,i,h,hn,hi,hc=>by
  rw[List.length_cons]at hn;have h1:=hc c (List.mem_cons_self ..);rw[dU];split
  ·exact⟨h.mono (by omega),hi,rfl,by simp⟩
  ·have ha:=Y9 h (by omega) (show c.aF.length≤65536 by omega);obtain⟨r1,r2,r3,r4⟩:=Sl (i+1) ha (by omega) (Xtl h (by omega) hi h1) (fun x hx=>hc x (List.mem_cons_of_mem _ hx));have hs:=Xq3 d c;rw[List.length_cons];exact⟨r1.mono (by omega),r2,r3.trans hs.2.1,by omega⟩
theorem Xtk(hl:L.length<255)(hi:vR L d):jF L (dI d)=0:=by
 have h1:=hi.num;have h2:=hi.bq;have h3:=hi.last;unfold jF dI;dsimp only;rw[if_neg (by omega),if_neg (by rintro(h|⟨_,h⟩)<;>omega),if_neg (by simpa using h2)]
theorem Xop(h:cO n m L)(hi:vR L d)(hd:0≤d.az∧d.az≤1000000000):cO (n+d.aB.length) (m+1) (L++[dI d]):=by
 refine⟨by rw[List.length_append];have:=h.len;simp;omega,by rw[Sd,List.length_append,Si];have:=h.tot;show _+d.aB.length≤_;omega,Zc h.all hi.all,fun i x hx=> ?_⟩;by_cases hl:i<L.length
 ·rw[List.getElem?_append_left hl]at hx;exact h.aW i x hx
 ·rw[List.getElem?_append_right (by omega)]at hx;obtain⟨e,hx⟩:i-L.length=0∧dI d=x:=by
   cases hh:i-L.length with
   |zero=>rw[hh]at hx;exact⟨rfl,by simpa using hx⟩
   |succ k=>rw[hh]at hx;simp at hx
  have IY:i=L.length:=by omega
  subst hx IY;exact⟨hi.num,hd,by show d.bq.length≤_;rw[hi.bq];exact Xj8 L,rfl,hi.str,hi.aD,hi.xs⟩
theorem Xmu(h:cO n m L){l:List gy}(hn:n+l.length≤60000)(hm:m≤254)(hc:∀c∈l,c.aF.length≤1000):cO (n+l.length) (m+1) (lI L az l).1:=by
 unfold lI;split
 ·exact h.mono (by omega) (by omega)
 ·rename_i hb;have hb:bX L az=0:=by omega
  split
  ·exact h.mono (by omega) (by omega)
  ·obtain⟨r1,r2,r3,r4⟩:=Sl 0 (Sk h (by omega) hm hb) hn (Zj L hb) hc;have:=Xop h r2 r1.az;refine this.mono ?_ (Qn _);have e:(eQ L az).aB.length=0:=rfl;omega
abbrev ed(ai dt sp:Int)(vs:Value):Value:= .agg #[.int .u32 ai,.int .i64 dt,.int .i64 sp,vs]
abbrev kD(d:fP)(ve vk vt vh:Value):Value:= .agg #[.int .i64 d.num,.int .i64 d.az,S d.bq,ve,vk,.int .i64 d.bL.aW,S d.bL.str,vt,vh]
structure DF (w:World) (n:Nat) (d:fP) (ve vk vt vh:Value):Prop where
 c0:w.cell? ⟨n,0,none⟩=some (.int .i64 d.num)
 c1:w.cell? ⟨n,1,none⟩=some (.int .i64 d.az)
 c2:w.cell? ⟨n,2,none⟩=some (S d.bq)
 c3:w.cell? ⟨n,3,none⟩=some ve
 c4:w.cell? ⟨n,4,none⟩=some vk
 c5:w.cell? ⟨n,5,none⟩=some (.int .i64 d.bL.aW)
 c6:w.cell? ⟨n,6,none⟩=some (S d.bL.str)
 c7:w.cell? ⟨n,7,none⟩=some vt
 c8:w.cell? ⟨n,8,none⟩=some vh
theorem DF.aX{w':World}(h:DF w b d ve vk vt vh)(hb:Below w.heap.size w w'):DF w' b d ve vk vt vh:=
 ⟨bI hb h.c0,bI hb h.c1,bI hb h.c2,bI hb h.c3,bI hb h.c4,bI hb h.c5,bI hb h.c6,bI hb h.c7,bI hb h.c8⟩
theorem DF.past(h:DF w b d ve vk vt vh)(x:Obj):DF (w.alloc x) b d ve vk vt vh:=
 ⟨jH x h.c0,jH x h.c1,jH x h.c2,jH x h.c3,jH x h.c4,jH x h.c5,jH x h.c6,jH x h.c7,jH x h.c8⟩
theorem drB_row{t:TypeId}(h:w.heap[b]?=some (.cells #[.int .i64 d.num,.int .i64 d.az,S d.bq,ve,vk,.int .i64 d.bL.aW,S d.bL.str,vt,vh] t (0,0))):DF w b d ve vk vt vh:=
 ⟨(cell_of_row w b 0 _ _ _ h).trans rfl,(cell_of_row w b 1 _ _ _ h).trans rfl,(cell_of_row w b 2 _ _ _ h).trans rfl,(cell_of_row w b 3 _ _ _ h).trans rfl,(cell_of_row w b 4 _ _ _ h).trans rfl,(cell_of_row w b 5 _ _ _ h).trans rfl,(cell_of_row w b 6 _ _ _ h).trans rfl,(cell_of_row w b 7 _ _ _ h).trans rfl,(cell_of_row w b 8 _ _ _ h).trans rfl⟩
theorem cO.KR(h:cO n m L)(hn:n≤400)(hm:m≤254):∀x∈L,zL x:=fun x hx=>by
 obtain⟨k,hk,e⟩:=List.getElem_of_mem hx;have hs:=h.at_ hk e;have hl:=h.len;exact⟨by rw[hs.num];omega,hs.az,hs.bq,hs.aV,Nat.le_trans (h.aB hx) hn,h.err hx,fun e he=>R8 (h.err hx e he),hs.aD⟩
theorem Sn(L:List bu):L=[]∨ ∃k,∃hk:k<L.length,L.length=k+1∧L.getLast?=some L[k]:=by
 rcases Nat.eq_zero_or_pos L.length with h|h
 ·exact .inl (List.eq_nil_of_length_eq_zero h)
 ·refine .inr ⟨L.length-1,by omega,by omega,?_⟩;rw[List.getLast?_eq_getElem?,List.getElem?_eq_getElem (by omega)]
theorem Zk(I:IH)(hI:cB I)(ai dt sp:Int)(L:List bu)(vs:Value)(je:aY iO I vs L)(hL:∀x∈L,zL x)(w:World)(hw:Ok I w):
 Calls Tryz.prog 61 #[ed ai dt sp vs] w fun e w'=>e= .returned (S (dV L))∧Below w.heap.size w w':=by
 obtain⟨ao,co,rfl,_,_,_⟩:=id je;rcases Sn L with rfl|⟨k,hk,hlen,qB⟩
 ·go_enter Tryz.func61,Tryz.ntmps61
  go_wp2;go_ret;exact⟨rfl,(Qb _ _).alloc (Qn _) _⟩
 ·have Hn:=Qh (show dV L=dA (jY L[k]) by unfold dV;rw[qB]);obtain⟨x,ve,b,off,cap',dz,dC,MN,qf⟩:=Kv je (hw.alloc (.cells #[.int .u32 ai,.int .i64 dt,.int .i64 sp,.slice ao L.length co] 63)) k hk;cases dC;obtain⟨c0,c1,c2,c3,c4,c5⟩:=MN;have Hd:=Qh (fun w hw=>Xm9 I hI x ve qf (hL x (by rw[←dz];exact List.getElem_mem hk)) w hw);rw[dz]at Hn;have m1:IntKind.i64.wrap (k:Int)=(k:Int):=IntWalk.i64_in _ (by have:=je.bK;omega);have z1:(((k+1:Nat):Int)==0)=false:=by simp;omega
  have i1:(k:Int)<((k+1:Nat):Int):=by omega
  rw[Hn.q];rw[hlen]at c0 c1 c2 c3 c4 c5 ⊢;clear je dz qB hlen qf Hn;go_enter Tryz.func61,Tryz.ntmps61
  go_wp2_with fail
  refine(Hd.q _ (hw.alloc _)).mono ?_;rintro e w1 ⟨rfl,aG⟩;go_wp2;go_ret;exact⟨rfl,((Qb _ _).alloc (Qn _) _).trans (aG.mono (by simp))⟩
theorem Zl(I:IH)(ai dt sp:Int)(L:List bu)(vs:Value)(je:aY iO I vs L)(w:World)(hw:Ok I w):
 Calls Tryz.prog 59 #[ed ai dt sp vs] w fun e w'=>e= .returned (.int .i64 (iJ L))∧Below w.heap.size w w':=by
 obtain⟨ao,co,rfl,_,_,_⟩:=id je;rcases Sn L with rfl|⟨k,hk,hlen,qB⟩
 ·go_enter Tryz.func59,Tryz.ntmps59
  go_wp2;go_ret;exact⟨rfl,(Qb _ _).alloc (Qn _) _⟩
 ·have Hn:=Qh (show iJ L=L[k].az by unfold iJ;rw[qB]);obtain⟨x,ve,b,off,cap',dz,dC,MN,qf⟩:=Kv je (hw.alloc (.cells #[.int .u32 ai,.int .i64 dt,.int .i64 sp,.slice ao L.length co] 63)) k hk;cases dC;obtain⟨c0,c1,c2,c3,c4,c5⟩:=MN;rw[dz]at Hn;have m1:IntKind.i64.wrap (k:Int)=(k:Int):=IntWalk.i64_in _ (by have:=je.bK;omega);have z1:(((k+1:Nat):Int)==0)=false:=by simp;omega
  have i1:(k:Int)<((k+1:Nat):Int):=by omega
  rw[Hn.q];rw[hlen]at c0 c1 c2 c3 c4 c5 ⊢;clear je dz qB hlen qf Hn;go_enter Tryz.func59,Tryz.ntmps59
  go_wp2;go_ret;exact⟨rfl,(Qb _ _).alloc (Qn _) _⟩
theorem Xe6:(Tryz.prog.info? 107).map (fun i=>(i.zero,i.size,i.bytes))=some (some (.agg #[.string ⟨#[]⟩,.string ⟨#[]⟩]),2,32):=by kernel_rfl
theorem Xl0(I:IH)(v:Value)(l:List _)(hv:aY lv I v l)(w:World)(hw:Ok I w)(eU:l.length*32≤140737488355328):
 Calls Tryz.prog 109 #[v] w fun e w'=> ∃v',e= .returned v'∧aN lv 107 I w' w.heap.size v' l∧Below w.heap.size w w':=by
 obtain⟨i0,hi,nN,lM,oW⟩:=info_parts Xe6;have q22:∀(w:World) (a:Option Addr) (n c n' c':Nat),(binOp .eql 23 (.slice a n c) (.slice none n' c')).run Tryz.prog w= .ok (.bool a.isNone) w:=fun w a n c n' c'=>Lib.run_eql_slice_nil w _ _ a n c n' c' Tryz.underlying23;obtain⟨ao,cap,xs,rfl,dM,gV,hL,hx⟩:=hv.cells hw (by decide);have HL:=Qh hL;have Hx:=Qh hx;clear hL hx hv;cases ao with
 |none=>
  have h0:l.length=0:=by
   rcases Nat.eq_zero_or_pos l.length with h|h
   ·exact h
   ·obtain⟨b,off,arr,e,_⟩:=Hx.q h;cases e
  have:l=[]:=List.eq_nil_of_length_eq_zero h0;subst this;go_enter Tryz.func109,Tryz.ntmps109
  go_wp2;go_ret;exact⟨_,rfl,aN.nil _ _ _ _ _,Qb _ _⟩
 |some a=>
  go_enter Tryz.func109,Tryz.ntmps109
  go_wp2_with (at_builtin;refine wpList_append_own _ rfl _ _ 23 rfl w.heap.size 107 i0 _ 2 32 Tryz.underlying23 hi nN lM oW rfl (by decide) _ _ _ rfl (World.ownsRow_made w #[] 0 (Qn _) (Nat.zero_le _) (by simp)) a l.length cap xs rfl ?qc1 ?qc2 ?qc3 ?qc4 ?qc5 ?qc6 ?_)
  case qc1=>exact HL.q.1
  case qc2=>
   intro j u hj;have hl:0<l.length:=by
    have:=(List.getElem?_eq_some_iff.1 hj).1;rw[HL.q.1]at this;rcases Nat.eq_zero_or_pos l.length with h|h
    ·rw[h]at this;omega
    ·exact h
   obtain⟨b,off,arr,e,_,hb,hc⟩:=Hx.q hl;cases e;rw[Addr.add_lit];rw[World.cell?_alloc_lt _ _ _ hb];exact hc j u hj
  case qc3=>exact HL.q.oneCell
  case qc4=>rw[Nat.zero_add];omega
  case qc5=>rw[Nat.zero_add];exact eU
  case qc6=>simp
  intro v' w1 bM jf _;go_wp2;go_ret;refine⟨v',rfl,⟨xs,(by have hq:=bM;first|exact hq|(simp at hq;exact hq)),HL.q⟩,?_⟩;exact((Qb _ w).alloc (Qn _) _).grown jf (by simp) (by intro k hk;simp[Value.ownBlock]at hk;omega)
theorem Zm:(Tryz.prog.info? 76).map (fun i=>(i.zero,i.size,i.bytes))=some (some (.agg #[.int .i64 0,.int .i64 0,.string ⟨#[]⟩,.slice none 0 0,.string ⟨#[]⟩,.string ⟨#[]⟩]),6,88):=by kernel_rfl
theorem Xjx(I:IH)(v:Value)(l:List _)(hv:aY iO I v l)(w:World)(hw:Ok I w)(eU:l.length*88≤140737488355328):
 Calls Tryz.prog 101 #[v] w fun e w'=> ∃v',e= .returned v'∧aN iO 76 I w' w.heap.size v' l∧Below w.heap.size w w':=by
 obtain⟨i0,hi,nN,lM,oW⟩:=info_parts Zm;have q22:∀(w:World) (a:Option Addr) (n c n' c':Nat),(binOp .eql 61 (.slice a n c) (.slice none n' c')).run Tryz.prog w= .ok (.bool a.isNone) w:=fun w a n c n' c'=>Lib.run_eql_slice_nil w _ _ a n c n' c' Tryz.underlying61;obtain⟨ao,cap,xs,rfl,dM,gV,hL,hx⟩:=hv.cells hw (by decide);have HL:=Qh hL;have Hx:=Qh hx;clear hL hx hv;cases ao with
 |none=>
  have h0:l.length=0:=by
   rcases Nat.eq_zero_or_pos l.length with h|h
   ·exact h
   ·obtain⟨b,off,arr,e,_⟩:=Hx.q h;cases e
  have:l=[]:=List.eq_nil_of_length_eq_zero h0;subst this;go_enter Tryz.func101,Tryz.ntmps101
  go_wp2;go_ret;exact⟨_,rfl,aN.nil _ _ _ _ _,Qb _ _⟩
 |some a=>
  go_enter Tryz.func101,Tryz.ntmps101
  go_wp2_with (at_builtin;refine wpList_append_own _ rfl _ _ 61 rfl w.heap.size 76 i0 _ 6 88 Tryz.underlying61 hi nN lM oW rfl (by decide) _ _ _ rfl (World.ownsRow_made w #[] 0 (Qn _) (Nat.zero_le _) (by simp)) a l.length cap xs rfl ?qc1 ?qc2 ?qc3 ?qc4 ?qc5 ?qc6 ?_)
  case qc1=>exact HL.q.1
  case qc2=>
   intro j u hj;have hl:0<l.length:=by
    have:=(List.getElem?_eq_some_iff.1 hj).1;rw[HL.q.1]at this;rcases Nat.eq_zero_or_pos l.length with h|h
    ·rw[h]at this;omega
    ·exact h
   obtain⟨b,off,arr,e,_,hb,hc⟩:=Hx.q hl;cases e;rw[Addr.add_lit];rw[World.cell?_alloc_lt _ _ _ hb];exact hc j u hj
  case qc3=>exact HL.q.oneCell
  case qc4=>rw[Nat.zero_add];omega
  case qc5=>rw[Nat.zero_add];exact eU
  case qc6=>simp
  intro v' w1 bM jf _;go_wp2;go_ret;refine⟨v',rfl,⟨xs,(by have hq:=bM;first|exact hq|(simp at hq;exact hq)),HL.q⟩,?_⟩;exact((Qb _ w).alloc (Qn _) _).grown jf (by simp) (by intro k hk;simp[Value.ownBlock]at hk;omega)
theorem Xsc(t:List aQ)(p:af):(l7 t p).2=(dP t p).isSome:=by
 unfold l7;cases dP t p<;>rfl
theorem Xh8(I:IH)(hI:cB I)(d:fP)(ve vk vt vh:Value)(Sq:aY bJ I vt d.aK)(Sr:aY jh I vh d.aC)(hk:rU d.aC)(hnh:d.aC.length≤100000)(e:aQ)(va vx:Value)(gW:aY lv I va e.au)(j6:aY kQ I vx e.aD)(sW:1≤e.aj)(nO:e.ag.length≤4294967280)(w:World)(hw:Ok I w):
 Calls Tryz.prog 68 #[kD d ve vk vt vh,fG e va vx] w fun r w'=>r= .returned (.int .i64 (nz d.stt e d.az))∧Below w.heap.size w w':=by
 obtain⟨ye,bx,hg⟩:∃ye bx,l7 d.aK e.ag=(ye,bx):=⟨_,_,rfl⟩;have Hg:=Qh (fun w hw=>(by have:=WY I vt d.aK Sq e.ag w hw;rwa[hg]at this:Calls Tryz.prog 111 #[vt,S e.ag] w (Jr I w (ye,bx))));have Zn:=Qh (fun w hw=>Xl4 I hI vh d.aC Sr hk hnh e va vx gW j6 nO d.az w hw);obtain⟨at',ct,rfl,_,_,_⟩:=id Sq;obtain⟨ah,ch,rfl,_,_,_⟩:=id Sr;obtain⟨aa,ca,rfl,_,_,_⟩:=id gW;obtain⟨ax,cx,rfl,_,_,_⟩:=id j6;have DB:=Qh (show DF ((w.alloc (.cells #[.int .i64 d.num,.int .i64 d.az,S d.bq,ve,vk,.int .i64 d.bL.aW,S d.bL.str,.slice at' d.aK.length ct,.slice ah d.aC.length ch] 43)).alloc (.cells #[.int .i64 e.aj,S e.ag,.slice aa e.au.length ca,S e.av,.int .i64 e.size,S e.aI,.slice ax e.aD.length cx] 81)) w.heap.size d ve vk (.slice at' d.aK.length ct) (.slice ah d.aC.length ch)from(drB_row (heap_alloc_new _ _)).past _);have EB:=Qh (show eY ((w.alloc (.cells #[.int .i64 d.num,.int .i64 d.az,S d.bq,ve,vk,.int .i64 d.bL.aW,S d.bL.str,.slice at' d.aK.length ct,.slice ah d.aC.length ch] 43)).alloc (.cells #[.int .i64 e.aj,S e.ag,.slice aa e.au.length ca,S e.av,.int .i64 e.size,S e.aI,.slice ax e.aD.length cx] 81)) (w.heap.size+1) e (.slice aa e.au.length ca) (.slice ax e.aD.length cx)from eO (by simp) (Qb _ _));have aP:Below w.heap.size w ((w.alloc (.cells #[.int .i64 d.num,.int .i64 d.az,S d.bq,ve,vk,.int .i64 d.bL.aW,S d.bL.str,.slice at' d.aK.length ct,.slice ah d.aC.length ch] 43)).alloc (.cells #[.int .i64 e.aj,S e.ag,.slice aa e.au.length ca,S e.av,.int .i64 e.size,S e.aI,.slice ax e.aD.length cx] 81)):=((Qb w.heap.size w).alloc (Qn _) _).alloc (by simp) _;have qX:nz d.stt e d.az=if 3<e.aj∨bx=true then kG d.aC e.aj e.ag d.az else 0:=by
  unfold nz;have h2:=Xsc d.aK e.ag;rw[hg]at h2;rw[show bx=(dP d.aK e.ag).isSome from h2];rfl
 clear Sq Sr gW j6 hg;have k1:decide ((1:Int)≤e.aj)=true:=Qt sW;cases bx;case true=>
  have Hn:=Qh (show nz d.stt e d.az=kG d.aC e.aj e.ag d.az by rw[qX,if_pos (.inr rfl)]);clear qX sW;go_enter Tryz.func68,Tryz.ntmps68
  go_wp2_with fail
  refine(Hg.q _ ((hw.alloc _).alloc _)).mono ?_;rintro r1 w1 ⟨Zo,Zp,rfl,fE,iA,aG⟩;obtain⟨aq,cq,rfl,_,_,_⟩:=id fE;obtain⟨wV,wW,rfl,_,_,_⟩:=id iA;have aS:Ok I (w1.alloc (.cells #[.int .i64 ye.aj,S ye.ag,.slice aq ye.au.length cq,S ye.av,.int .i64 ye.size,S ye.aI,.slice wV ye.aD.length wW] 81)):=(((hw.alloc _).alloc _).below (Qn _) aG).alloc _;have KS:=(DB.q.aX aG).past (.cells #[.int .i64 ye.aj,S ye.ag,.slice aq ye.au.length cq,S ye.av,.int .i64 ye.size,S ye.aI,.slice wV ye.aD.length wW] 81);have AX:=(EB.q.aX aG).past (.cells #[.int .i64 ye.aj,S ye.ag,.slice aq ye.au.length cq,S ye.av,.int .i64 ye.size,S ye.aI,.slice wV ye.aD.length wW] 81);have aO:=(aP.trans (aG.mono aP.size)).alloc (by have:=(aP.trans (aG.mono aP.size)).size;omega) (.cells #[.int .i64 ye.aj,S ye.ag,.slice aq ye.au.length cq,S ye.av,.int .i64 ye.size,S ye.aI,.slice wV ye.aD.length wW] 81);obtain⟨d0,d1,d2,d3,d4,d5,d6⟩:=AX;obtain⟨c0,c1,c2,c3,c4,c5,c6,c7,c8⟩:=KS;clear aG aP fE iA Hg;go_wp2_with fail
  refine(Zn.q _ aS).mono ?_;rintro r2 w2 ⟨rfl,aP⟩;go_wp2;go_ret;rw[Hn.q];exact⟨rfl,aO.trans (aP.mono aO.size)⟩
 case false=>
  by_cases h3:e.aj≤3
  ·have Hn:=Qh (show nz d.stt e d.az=0 by rw[qX,if_neg (by simp;omega)]);have k3:decide (e.aj≤3)=true:=Qt h3;clear qX sW h3;go_enter Tryz.func68,Tryz.ntmps68
   go_wp2_with fail
   refine(Hg.q _ ((hw.alloc _).alloc _)).mono ?_;rintro r1 w1 ⟨Zo,Zp,rfl,fE,iA,aG⟩;obtain⟨aq,cq,rfl,_,_,_⟩:=id fE;obtain⟨wV,wW,rfl,_,_,_⟩:=id iA;have aS:Ok I (w1.alloc (.cells #[.int .i64 ye.aj,S ye.ag,.slice aq ye.au.length cq,S ye.av,.int .i64 ye.size,S ye.aI,.slice wV ye.aD.length wW] 81)):=(((hw.alloc _).alloc _).below (Qn _) aG).alloc _;have KS:=(DB.q.aX aG).past (.cells #[.int .i64 ye.aj,S ye.ag,.slice aq ye.au.length cq,S ye.av,.int .i64 ye.size,S ye.aI,.slice wV ye.aD.length wW] 81);have AX:=(EB.q.aX aG).past (.cells #[.int .i64 ye.aj,S ye.ag,.slice aq ye.au.length cq,S ye.av,.int .i64 ye.size,S ye.aI,.slice wV ye.aD.length wW] 81);have aO:=(aP.trans (aG.mono aP.size)).alloc (by have:=(aP.trans (aG.mono aP.size)).size;omega) (.cells #[.int .i64 ye.aj,S ye.ag,.slice aq ye.au.length cq,S ye.av,.int .i64 ye.size,S ye.aI,.slice wV ye.aD.length wW] 81);obtain⟨d0,d1,d2,d3,d4,d5,d6⟩:=AX;obtain⟨c0,c1,c2,c3,c4,c5,c6,c7,c8⟩:=KS;clear aG aP fE iA Hg;go_wp2;go_ret;rw[Hn.q];exact⟨rfl,aO⟩
  ·have Hn:=Qh (show nz d.stt e d.az=kG d.aC e.aj e.ag d.az by rw[qX,if_pos (.inl (by omega))]);have k3:decide (e.aj≤3)=false:=Qf h3;clear qX sW h3;go_enter Tryz.func68,Tryz.ntmps68
   go_wp2_with fail
   refine(Hg.q _ ((hw.alloc _).alloc _)).mono ?_;rintro r1 w1 ⟨Zo,Zp,rfl,fE,iA,aG⟩;obtain⟨aq,cq,rfl,_,_,_⟩:=id fE;obtain⟨wV,wW,rfl,_,_,_⟩:=id iA;have aS:Ok I (w1.alloc (.cells #[.int .i64 ye.aj,S ye.ag,.slice aq ye.au.length cq,S ye.av,.int .i64 ye.size,S ye.aI,.slice wV ye.aD.length wW] 81)):=(((hw.alloc _).alloc _).below (Qn _) aG).alloc _;have KS:=(DB.q.aX aG).past (.cells #[.int .i64 ye.aj,S ye.ag,.slice aq ye.au.length cq,S ye.av,.int .i64 ye.size,S ye.aI,.slice wV ye.aD.length wW] 81);have AX:=(EB.q.aX aG).past (.cells #[.int .i64 ye.aj,S ye.ag,.slice aq ye.au.length cq,S ye.av,.int .i64 ye.size,S ye.aI,.slice wV ye.aD.length wW] 81);have aO:=(aP.trans (aG.mono aP.size)).alloc (by have:=(aP.trans (aG.mono aP.size)).size;omega) (.cells #[.int .i64 ye.aj,S ye.ag,.slice aq ye.au.length cq,S ye.av,.int .i64 ye.size,S ye.aI,.slice wV ye.aD.length wW] 81);obtain⟨d0,d1,d2,d3,d4,d5,d6⟩:=AX;obtain⟨c0,c1,c2,c3,c4,c5,c6,c7,c8⟩:=KS;clear aG aP fE iA Hg;go_wp2_with fail
   refine(Zn.q _ aS).mono ?_;rintro r2 w2 ⟨rfl,aP⟩;go_wp2;go_ret;rw[Hn.q];exact⟨rfl,aO.trans (aP.mono aO.size)⟩
