/- Lemmas for the claim's theorem;conditions: as each says. -/
import Derived.Test.YtmdfjnhfhidmhaaGreatDoorJ13
import Derived.Test.YtmdfjnhfhidmhaaGreatDoorJ17
import Derived.Test.YtmdfjnhfhidmhaaGreatDoorJ10
set_option maxHeartbeats 0
set_option maxRecDepth 100000
set_option linter.all false
namespace Go.Proofs.YtmdfjnhfhidmhaaGreatDoor
open Go.RowKit
variable{n i k:Nat}{s:Array Bool}{L:List dK}{w:World}{b m:Nat}{q:fM}{a:Act}{x:dK}{v:Value}{e:aT}{ops:Array Oper}{B:Nat}{P:Program}{w':World}{ve:Value}{id:Nat}{d:Option Tmp}{t:Tmp}{a':Act}{Q:Exit→Act→World→Prop}{I:IH}{vx:Value}{M:List (Option Tmp×Value)}{X α:Type}{T:Ty α}{ts te:TypeId}{bytes:Nat}{ys:List α}{W:World}{p:fM×List Xt}{aG:Int}
def rH(l:List At)(k:Nat):af:=gB l.length++(l.take k).flatMap fun a=>fG a.k++fG a.v
theorem Xs1{l:List At}(hk:k<l.length){x:At}(hx:l[k]=x):rH l (k+1)=rH l k++(fG x.k++fG x.v):=by
 rw[rH,rH,List.take_succ_eq_append_getElem hk,hx,List.flatMap_append,←List.append_assoc];simp
theorem Xu3(l:List At)(h:l.length≤k):rH l k=Ak l:=by rw[rH,Ak,List.take_of_length_le h]
theorem Xu2{l:List At}(hn:l.length≤16)(h:∀a∈l,a.k.length≤32∧a.v.length≤64)(k:Nat):(rH l k).length≤2300:=by
 have h1:=Xj (l.take k) fun a ha=>h a (List.mem_of_mem_take ha);have h2:=Ib l.length (by omega);have h3:(l.take k).length≤l.length:=by simp;omega
 unfold rH;rw[List.length_append];omega
structure tK (x:aT):Prop where
 k1:1≤x.au
 k6:x.au≤6
 Lv:x.aj.length≤16
 UC:∀a∈x.aj,a.k.length≤32∧a.v.length≤64
 target:x.target.length≤200
 s0:0≤x.size
 s1:x.size≤65536
 av:x.av.length≤32
 ag:x.ag.length≤200
 YD:∀y∈x.aA,0≤y.s∧y.s≤255∧0≤y.o∧y.o≤2147483647∧1≤y.n∧y.n≤65536
theorem Xgu{f:Bool}:∀{l:List Xt},bW f l=0→ ∀y∈l,dh y=false
 | [],_,y,hy=>by cases hy
 |x::l,h,y,hy=>by
  unfold bW at h;split at h
  ·omega
  split at h
  ·omega
  rename_i k;rcases List.mem_cons.1 hy with rfl|hy
  ·simpa using k
  ·exact Xgu h y hy
theorem Xtd{x:Xt}(h:dh x=false):0≤x.s∧x.s≤255∧0≤x.o∧x.o≤2147483647∧1≤x.n∧x.n≤65536:=by
 unfold dh at h;simp only[Bool.or_eq_false_iff,decide_eq_false_iff_not]at h;omega
theorem Va{x:aT}(h:aP x=0):tK x:=by
 have hk:=Gm h;have zV:=(Ey hk.2.2.1).1;unfold aP at h;rw[if_neg (by omega)]at h;by_cases h1:aO x.ag≠0
 ·rw[if_pos h1]at h;exact absurd h h1
 rw[if_neg h1]at h;split at h
 ·omega
 by_cases h2:mK x.aj≠0
 ·rw[if_pos h2]at h;exact absurd h h2
 rw[if_neg h2]at h;split at h
 ·omega
 rename_i h3;split at h
 ·omega
 rename_i h4;split at h
 ·omega
 rename_i h5;by_cases h6:bW (x.au==1) x.aA≠0
 ·rw[if_pos h6]at h;exact absurd h h6
 have hc:=Xwt (l:=x.aj) (by omega);refine⟨by omega,by omega,hc.1,hc.2,?_,by omega,by omega,?_,by omega,fun y hy=>Xtd (Xgu (f:=x.au==1) (Classical.byContradiction h6) y hy)⟩
 ·have ht:bO x=true:=by
   cases hh:bO x with
   |true=>rfl
   |false=>exact absurd (.inr hh) h3
  unfold bO at ht;split at ht
  ·simp at ht;omega
  ·split at ht
   ·have:=Yp ht;omega
   ·have:x.target=[]:=by simpa using ht
    rw[this];simp
 ·by_cases vZ:x.au=1
  ·have:¬(x.au=1∧x.av.length≠32):=fun q=>h5 (.inl q);omega
  ·have:¬(x.au≠1∧x.av≠[]):=fun q=>h5 (.inr q);have hd:x.av=[]:=Classical.byContradiction fun q=>this ⟨vZ,q⟩;rw[hd];simp
theorem Eb{n:Int}(h0:0≤n)(h1:n≤140737488355200):(gB n).length≤17:=by
 obtain⟨m,rfl⟩:=Int.eq_ofNat_of_zero_le h0;exact Ib m (by omega)
theorem Xll{x:aT}(h:tK x):(mO x).length≤2700:=by
 have h1:=Xu1 h.Lv h.UC;have h2:=Xi x.au;have h3:=yw (fu x.au) (by omega);have h4:=yw x.ag (by have:=h.ag;omega);have h5:=yw x.target (by have:=h.target;omega);have h6:=h.ag;have h7:=h.target;unfold mO;simp only[List.length_append];omega
def IR(e:aT):af:=fG (mO e)++gB e.size++fG e.av++gB e.aA.length
def qC(e:aT)(k:Nat):af:=IR e++Kj (e.aA.take k)
theorem Xsf(hk:k<e.aA.length){x:Xt}(hx:e.aA[k]=x):qC e (k+1)=qC e k++(gB x.s++gB x.o++gB x.n):=by
 rw[qC,qC,List.take_succ_eq_append_getElem hk,hx,Kj,List.flatMap_append,←List.append_assoc];simp[Kj]
theorem Xoj(e:aT)(h:e.aA.length≤k):qC e k=yR e:=by rw[qC,List.take_of_length_le h];rfl
theorem Xse(e:aT):qC e 0=IR e:=by rw[qC,List.take_zero];simp[Kj]
theorem Xun{x:aT}(h:tK x)(hx:x.aA.length≤1000):(IR x).length≤2900:=by
 have h1:=Xll h;have h2:=yw (mO x) (by omega);have h3:=Eb h.s0 (by have:=h.s1;omega);have h4:=yw x.av (by have:=h.av;omega);have h5:=Ib x.aA.length (by omega);have h6:=h.av;unfold IR;simp only[List.length_append];omega
theorem Xp9:∀{l:List Xt},(∀y∈l,0≤y.s∧y.s≤255∧0≤y.o∧y.o≤2147483647∧1≤y.n∧y.n≤65536)→(Kj l).length≤51*l.length
 | [],_=>by simp[Kj]
 |y::l,h=>by
  have h1:=h y (List.mem_cons_self ..);have h2:=Xp9 fun z hz=>h z (List.mem_cons_of_mem _ hz);have h3:=Eb (n:=y.s) (by omega) (by omega);have h4:=Eb (n:=y.o) (by omega) (by omega);have h5:=Eb (n:=y.n) (by omega) (by omega);unfold Kj at*;simp only[List.flatMap_cons,List.length_append,List.length_cons];omega
theorem Xoi{x:aT}(h:tK x)(hx:x.aA.length≤1000)(k:Nat):(qC x k).length≤54000:=by
 have h1:=Xun h hx;have h2:=Xp9 (l:=x.aA.take k) fun y hy=>h.YD y (List.mem_of_mem_take hy);have h3:(x.aA.take k).length≤x.aA.length:=by simp;omega
 unfold qC;rw[List.length_append];omega
theorem Xok{x:aT}(h:tK x)(hx:x.aA.length≤1000):(yR x).length≤54000:=by
 rw[←Xoj x (Qn _)];exact Xoi h hx _
section
variable {P:Program} {ops:Array Oper} {md:Region.Mode} {Q:Exit→Act→World→Prop}
def uZ(s:Array Bool):Nat:=s.toList.countP (!·)
theorem Xi9:∀(l:List Bool) (i:Nat),l[i]?=some false→(l.set i true).countP (!·)+1=l.countP (!·)
 | [],_,h=>absurd h (by simp)
 |b::l,0,h=>by
  simp at h;subst h;simp
 |b::l,i+1,h=>by
  have:=Xi9 l i (by simpa using h);simp only[List.set_cons_succ,List.countP_cons];omega
theorem Xi3(h:s.getD i true=false):s.toList[i]?=some false:=by
 rw[Array.getElem?_toList];rw[Array.getD_eq_getD_getElem?]at h;cases hs:s[i]? with
 |none=>rw[hs]at h;simp at h
 |some b=>rw[hs]at h;simpa using h
theorem Xlf(h:s.getD i true=false):uZ (s.setIfInBounds i true)+1=uZ s:=by
 unfold uZ;rw[Array.toList_setIfInBounds];exact Xi9 _ _ (Xi3 h)
theorem Xrq(h:s.getD i true=false):0<uZ s:=by have:=Xlf h;omega
theorem Xqd{J:Array Bool→Act→World→Prop}(vK:∀s a w i,J s a w→i∈Region.ready md ops s→wpOp P ops Q i (fun a' w'=>J (s.setIfInBounds i true) a' w') a w)
 (sU:∀s a w,J s a w→Region.ready md ops s=[]→Q .normal a w):∀(f:Nat) (s:Array Bool) (a:Act) (w:World),uZ s≤f→J s a w→wpAny P md ops Q f s a w:=by
 intro f;induction f with
 |zero=>
  intro s a w hf hJ;have hr:Region.ready md ops s=[]:=by
   cases h:Region.ready md ops s with
   |nil=>rfl
   |cons j l=>
    have:=Xrq (mem_ready.1 (show j∈Region.ready md ops s by rw[h];exact List.mem_cons_self ..)).1;omega
  exact⟨hr,sU s a w hJ hr⟩
 |succ f ih=>
  intro s a w hf hJ;refine⟨sU s a w hJ,fun i hi=>wpOp_mono (fun a' w' h=>ih _ _ _ ?_ h) (vK s a w i hJ hi)⟩;have:=Xlf (mem_ready.1 hi).1;omega
theorem Xm9(n:Nat):uZ (Array.replicate n false)=n:=by
 simp[uZ,List.countP_replicate]
theorem Xjh(J:Array Bool→Act→World→Prop)(hm:P.follows .mixedOrders=true)(h0:J (Array.replicate ops.size false) a {w with drawn:=w.drawn+1})
 (vK:∀s a w i,J s a w→i∈Region.ready .any ops s→wpOp P ops Q i (fun a' w'=>J (s.setIfInBounds i true) a' w') a w)
 (sU:∀s a w,J s a w→Region.ready .any ops s=[]→Q .normal a w):(Code.region id ops true).wp P Q a w:=
 wp_region_any hm (Xqd vK sU _ _ _ _ (by rw[Xm9];exact Qn _) h0)
def df:List (Option Tmp×Value)→Nat→Array Bool→Act→Act
 | [],_,_,a=>a
 |(d,v)::l,k,s,a=>df l (k+1) s (if s.getD k false then a.put d v else a)
theorem Xre(a:Act){e:Option Tmp}(u v:Value)(h:∀t,d=some t→e≠some t):(a.put d u).put e v=(a.put e v).put d u:=by
 cases d with
 |none=>rfl
 |some d=>
  cases e with
  |none=>rfl
  |some e=>
   have bn:d≠e:=fun h'=>h d rfl (by rw[h']);simp only[Act.put];rw[Array.setIfInBounds_comm _ _ bn]
def cO(l:List (Option Tmp×Value)):Prop:=l.Pairwise fun p q=> ∀t,p.1=some t→q.1≠some t
theorem YE:∀(l:List (Option Tmp×Value)) (k:Nat) (s:Array Bool) (a:Act) (d:Option Tmp) (v:Value),(∀p∈l,∀t,d=some t→p.1≠some t)→df l k s (a.put d v)=(df l k s a).put d v
 | [],_,_,_,_,_,_=>rfl
 |(e,u)::l,k,s,a,d,v,h=>by
  rw[df,df];split
  ·rw[Xre a v u (h (e,u) (List.mem_cons_self ..)),YE l _ _ _ _ _ fun p hp=>h p (List.mem_cons_of_mem _ hp)]
  ·rw[YE l _ _ _ _ _ fun p hp=>h p (List.mem_cons_of_mem _ hp)]
theorem Xi5:∀(l:List (Option Tmp×Value)) (k:Nat) (s:Array Bool) (a:Act) (i:Nat),i<k→df l k (s.setIfInBounds i true) a=df l k s a
 | [],_,_,_,_,_=>rfl
 |(e,u)::l,k,s,a,i,h=>by
  rw[df,df,getD_set_ne false (by omega),Xi5 l (k+1) s _ i (by omega)]
theorem Xog:∀(l:List (Option Tmp×Value)) (k i:Nat) (s:Array Bool) (a:Act) (d:Option Tmp) (v:Value),cO l→l[i]?=some (d,v)→s.getD (k+i) true=false→(df l k s a).put d v=df l k (s.setIfInBounds (k+i) true) a
 | [],_,_,_,_,_,_,_,h,_=>absurd h (by simp)
 |(e,u)::l,k,0,s,a,d,v,hp,h,hs=>by
  simp at h;obtain⟨rfl,rfl⟩:=h;have hf:s.getD k false=false:=by
   rw[Nat.add_zero]at hs;rw[Array.getD_eq_getD_getElem?]at hs ⊢;cases hk:s[k]? with
   |none=>rw[hk]at hs;simp at hs
   |some b=>rw[hk]at hs;simpa using hs
  have ht:(s.setIfInBounds k true).getD k false=true:=by
   have hlt:k<s.size:=by
    rw[Nat.add_zero]at hs;have:=Xi3 hs;have:=(List.getElem?_eq_some_iff.1 this).1;simpa using this
   simp[Array.getD_eq_getD_getElem?,hlt]
  simp only[Nat.add_zero];rw[df,df,ht,hf];simp only[Bool.false_eq_true,if_false,if_true];rw[Xi5 l (k+1) s _ k (by omega),YE];exact fun p hm t=>(List.pairwise_cons.1 hp).1 p hm t
 |(e,u)::l,k,i+1,s,a,d,v,hp,h,hs=>by
  rw[df,df,getD_set_ne false (by omega),show k+(i+1)=k+1+i by omega];exact Xog l (k+1) i s _ d v (List.pairwise_cons.1 hp).2 (by simpa using h) (by rw[←hs];congr 1;omega)
theorem Xhc(a:Act)(v:Value)(h:d≠some t):(a.put d v).eval (.tmp t)=a.eval (.tmp t):=
 Act.eval_put fun d' hd e=>h (by rw[hd];injection e with e;rw[e])
theorem Xn1(a:Act)(d:Option Tmp)(v:Value):(a.put d v).tmps.size=a.tmps.size:=by cases d<;>simp[Act.put]
theorem Vb:∀(l:List (Option Tmp×Value)) (k:Nat) (s:Array Bool) (a:Act) (t:Tmp),(∀p∈l,p.1≠some t)→(df l k s a).eval (.tmp t)=a.eval (.tmp t)
 | [],_,_,_,_,_=>rfl
 |(e,u)::l,k,s,a,t,h=>by
  rw[df,Vb l _ _ _ _ fun p hp=>h p (List.mem_cons_of_mem _ hp)];split
  ·exact Xhc a u (h (e,u) (List.mem_cons_self ..))
  ·rfl
theorem Xlr:∀(l:List (Option Tmp×Value)) (k i:Nat) (s:Array Bool) (a:Act) (t:Tmp) (v:Value),cO l→l[i]?=some (some t,v)→s.getD (k+i) false=true→t<a.tmps.size→(df l k s a).eval (.tmp t)=v
 | [],_,_,_,_,_,_,_,h,_,_=>absurd h (by simp)
 |(e,u)::l,k,0,s,a,t,v,hp,h,hs,ht=>by
  simp at h;obtain⟨rfl,rfl⟩:=h;rw[Nat.add_zero]at hs;rw[df,hs,if_pos rfl,Vb l _ _ _ _ fun p hm e=>(List.pairwise_cons.1 hp).1 p hm t rfl e];simp[Act.put,Act.eval,Array.getD_eq_getD_getElem?,ht]
 |(e,u)::l,k,i+1,s,a,t,v,hp,h,hs,ht=>by
  rw[df];refine Xlr l (k+1) i s _ t v (List.pairwise_cons.1 hp).2 (by simpa using h) (by rw[←hs];congr 1;omega) ?_;split
  ·rw[Xn1];exact ht
  ·exact ht
theorem Vd:∀(l m:List (Option Tmp×Value)) (k:Nat) (s:Array Bool) (a:Act),l.length=m.length→(∀i,s.getD (k+i) false=true→l[i]?=m[i]?)→df l k s a=df m k s a
 | [],[],_,_,_,_,_=>rfl
 | [],_::_,_,_,_,h,_=>absurd h (by simp)
 |_::_,[],_,_,_,h,_=>absurd h (by simp)
 |(e,u)::l,(f,v)::m,k,s,a,hl,h=>by
  rw[df,df];have jd:∀a',df l (k+1) s a'=df m (k+1) s a':=fun a'=>Vd l m (k+1) s a' (by simpa using hl) fun i hi=>by
   have:=h (i+1) (by rw[←hi];congr 1;omega);simpa using this
  cases hk:s.getD k false
  ·simp only[Bool.false_eq_true,if_false];exact jd a
  ·have:=h 0 hk;simp at this;obtain⟨rfl,rfl⟩:=this;simp only[if_true];exact jd _
theorem Xsd(l:List (Option Tmp×Value))(a:Act):∀(k n:Nat),df l k (Array.replicate n false) a=a:=by
 induction l generalizing a with
 |nil=>intro k n;rfl
 |cons p l ih=>
  intro k n;obtain⟨d,v⟩:=p;have:(Array.replicate n false).getD k false=false:=by
   rw[Array.getD_eq_getD_getElem?];rw[Array.getElem?_replicate];split<;>rfl
  rw[df,this];simp only[Bool.false_eq_true,if_false];exact ih a _ _
end
section
variable {P:Program} {ops:Array Oper} {Q:Exit→Act→World→Prop}
def aeN(ops:Array Oper):Bool:=(List.range ops.size).all fun i=>((ops[i]?).map fun o=>o.after.all fun e=>decide (e.on<i)).getD true
def eH:List (Option Tmp×Value)→Act→Act
 | [],a=>a
 |(d,v)::l,a=>eH l (a.put d v)
theorem xL:∀(l:List (Option Tmp×Value)) (k:Nat) (s:Array Bool) (a:Act),(∀i,i<l.length→s.getD (k+i) false=true)→df l k s a=eH l a
 | [],_,_,_,_=>rfl
 |(d,v)::l,k,s,a,h=>by
  have h0:=h 0 (by simp);rw[Nat.add_zero]at h0;rw[df,h0,if_pos rfl,eH];exact xL l (k+1) s _ fun i hi=>by
   have:=h (i+1) (by simp;omega);rw[←this];congr 1;omega
end
theorem eO{L:List (Option Tmp×Value)}(hp:cO L)(ha:a'=df L 0 s a)(hi:L[i]?=some (d,v))(aN:s.getD i true=false):a'.put d v=df L 0 (s.setIfInBounds i true) a:=by
 have h:=Xog L 0 i s a d v hp hi (by rw[Nat.zero_add];exact aN);rw[ha,h,Nat.zero_add]
theorem gT{L:List (Option Tmp×Value)}(hp:cO L)(ha:a'=df L 0 s a)(hi:L[i]?=some (some t,v))(hs:s.getD i false=true)(ht:t<a.tmps.size):a'.tmps[t]?.getD undef=v:=by
 have h:=Xlr L 0 i s a t v hp hi (by rw[Nat.zero_add];exact hs) ht;rw[←ha]at h;simpa[Act.eval]using h
theorem oD{L:List (Option Tmp×Value)}(ha:a'=df L 0 s a)(h:∀p∈L,p.1≠some t):a'.tmps[t]?.getD undef=a.tmps[t]?.getD undef:=by
 have h:=Vb L 0 s a t h;rw[←ha]at h;simpa[Act.eval]using h
theorem jZ(h:s.getD i true=false):s.getD i false=false:=by
 rw[Array.getD_eq_getD_getElem?]at h ⊢;cases hs:s[i]? with
 |none=>rfl
 |some b=>rw[hs]at h;simpa using h
theorem u6(h:s.getD i true=false):i<s.size:=by
 rcases Nat.lt_or_ge i s.size with h'|h'
 ·exact h'
 ·rw[Array.getD_eq_getD_getElem?,Array.getElem?_eq_none h']at h;simp at h
theorem zf(n i:Nat):(Array.replicate n false).getD i false=false:=by
 rw[Array.getD_eq_getD_getElem?,Array.getElem?_replicate];split<;>rfl
theorem zY(h:i<s.size):(s.setIfInBounds i true).getD i false=true:=by
 rw[Array.getD_eq_getD_getElem?,Array.getElem?_setIfInBounds_self_of_lt h];rfl
theorem YF{L:List (Option Tmp×Value)}(i:Nat)(hl:L.length=M.length)(h:∀j,j≠i→L[j]?=M[j]?)(aN:s.getD i true=false):df L 0 s a=df M 0 s a:=
 Vd _ _ _ _ _ hl fun j hj=>by
  rw[Nat.zero_add]at hj;exact h j fun e=>by rw[e,jZ aN]at hj;cases hj
def AA(ops:Array Oper):Bool:=(List.range ops.size).all fun i=>((ops[i]?).map fun o=>o.after.all fun e=> !(Region.binds .any e) || decide (e.on<i)).getD true
theorem Xw1(hb:AA ops=true)(hr:Region.ready .any ops s=[])(dM:s.size=ops.size):∀i,i<ops.size→s.getD i false=true:=by
 intro i;induction i using Nat.strongRecOn with
 |_ i ih=>
  intro hi;cases hs:s.getD i false with
  |true=>rfl
  |false=>
   exfalso;have Wo:s.getD i true=false:=by
    rw[Array.getD_eq_getD_getElem?]at hs ⊢;have hlt:i<s.size:=by omega
    rw[Array.getElem?_eq_getElem hlt]at hs ⊢;simpa using hs
   have:i∈Region.ready .any ops s:=mem_ready.2 ⟨Wo,ops[i],Array.getElem?_eq_getElem hi,fun e he nX=> ?_⟩
   ·rw[hr]at this;exact absurd this (by simp)
   ·have h:=List.all_eq_true.1 hb i (List.mem_range.2 hi);rw[Array.getElem?_eq_getElem hi]at h;simp only[Option.map_some,Option.getD_some]at h;obtain⟨j,hj,rfl⟩:=Array.getElem_of_mem he;have h2:=Array.all_eq_true.1 h j hj;rw[nX]at h2;have h3:ops[i].after[j].on<i:=by simpa using h2
    exact ih _ h3 (by omega)
theorem Xgx(L:X→List (Option Tmp×Value))(C:X→Array Bool→World→Prop)(hm:P.follows .mixedOrders=true)(hb:AA ops=true)(h0:∃x,C x (Array.replicate ops.size false) {w with drawn:=w.drawn+1})
 (vK:∀x s a' w' i,s.size=ops.size→a'=df (L x) 0 s a→C x s w'→i∈Region.ready .any ops s→wpOp P ops Q i (fun a'' w''=> ∃y,a''=df (L y) 0 (s.setIfInBounds i true) a∧C y (s.setIfInBounds i true) w'') a' w')
 (sU:∀x s a' w',(∀i,i<ops.size→s.getD i false=true)→a'=df (L x) 0 s a→C x s w'→Q .normal a' w'):(Code.region id ops true).wp P Q a w:=by
 refine Xjh (fun s a' w'=>s.size=ops.size∧ ∃x,a'=df (L x) 0 s a∧C x s w') hm ?_ ?_ ?_
 ·obtain⟨x,hx⟩:=h0;exact⟨by simp,x,(Xsd _ _ _ _).symm,hx⟩
 ·rintro s a' w' i ⟨dM,x,ha,hx⟩ hi;exact wpOp_mono (fun a'' w'' ⟨y,h1,h2⟩=>⟨by simpa using dM,y,h1,h2⟩) (vK x s a' w' i dM ha hx hi)
 ·rintro s a' w' ⟨dM,x,ha,hx⟩ hr;exact sU x s a' w' (Xw1 hb hr dM) ha hx
theorem Xg5{ty:TypeId}(hE:dS P ts te T bytes){l:List α}(bg:aK T te I w B v l)(hy:iV T I w vx ys)
 (fO:(l.length+ys.length)*bytes≤140737488355328) (hl:l.length+ys.length≤9223372036854775807) (hB:B≤w.heap.size):
 ∃v' w',(Builtin.append_ #[ts,ts] ty #[v,vx]).run P w= .ok v' w'∧aK T te I w' B v' (l++ys)∧w.grownBy w' v.ownBlock∧ ∀g,v'.ownBlock=some g→v.ownBlock=some g∨w.heap.size≤g:=by
 obtain⟨i,z,h1,h2,h3,h4,h5,h6,h7⟩:=hE;obtain⟨ao,c,cs,rfl,k1,k2⟩:=hy;obtain⟨xs,k3,k4⟩:=bg;rcases Nat.eq_zero_or_pos ys.length with h0|h0
 ·have:ys=[]:=List.eq_nil_of_length_eq_zero h0;subst this;have hv:∃b n cap,v= .slice b n cap∧n≤cap:=by
   rcases k3.2 with⟨h8,_⟩|⟨g,cap,cur,h8,_,_,h9,_⟩
   ·exact⟨_,_,_,h8,Qn _⟩
   ·exact⟨_,_,_,h8,h9⟩
  obtain⟨b,n,cap,rfl,hn⟩:=hv;refine⟨_,w,Xdq h1 h2 w b ao n cap c hn,⟨xs,by rw[List.append_nil];exact k3,by rw[List.append_nil];exact k4⟩,⟨rfl,rfl,rfl,Qn _,fun _ _ _=>rfl⟩,fun g hg=> .inl hg⟩
 ·obtain⟨ad,rfl,fE⟩:=k2 h0;obtain⟨v',w',hr,r1,r2,_,r4⟩:=run_append_own_at (P:=P) w B ts ty te i z T.size bytes h1 h2 h3 h4 h5 h6 h7 v l.length xs k3 ad ys.length c cs k1.1 fE k1.oneCell (by unfold maxLen;omega) fO hB;refine⟨v',w',hr,⟨xs++cs,by rw[List.length_append];exact r1,k4.append k1⟩,r2,fun g hg=> ?_⟩;rcases r4 with r4|r4
  ·exact .inl (r4▸hg)
  ·rw[r4]at hg;exact .inr (by cases hg;exact Qn _)
theorem Mt(hE:dS P ts te T bytes){o:Oper}{K:Act→World→Prop}(s x:Operand)
 (ho:o.op= .call {callee:= .builtin .append,args:=#[s,x],argTypes:=#[ts,ts]})   {l:List α} (hs:a.eval s=v) (bg:aK T te I w B v l)   (hx:a.eval x=vx) (hy:iV T I w vx ys)
 (fO:(l.length+ys.length)*bytes≤140737488355328) (hl:l.length+ys.length≤9223372036854775807) (hB:B≤w.heap.size)
 (h:∀v' w',aK T te I w' B v' (l++ys)→w.grownBy w' v.ownBlock→(∀g,v'.ownBlock=some g→v.ownBlock=some g∨w.heap.size≤g)→K (a.put o.dst v') w'):Oper.wp P o a w K Q:=by
 obtain⟨v',w',hr,h1,h2,h3⟩:=Xg5 (ty:=o.type) hE bg hy fO hl hB;unfold Oper.wp execOp;simp only[ho,resolve,invoke,builtin,Sem.run_bind,Sem.run_pure,Result.andThen_ok,List.map_toArray,List.map_cons,List.map_nil,hs,hx,hr];exact h v' w' h1 h2 h3
structure IU where
 e:Nat
 b:Nat
 v1:Value
 v2:Value
structure wU {α:Type} (T:Ty α) (E:TypeId) (I:IH) (w3:World) (l:List α) (y:α) (row:Array Value) (i0 i2 i4 i5:Nat) (x:IU) (s:Array Bool) (w:World):Prop where
 eY:Below w3.heap.size w3 w
 p0:s.getD i0 false=true→s.getD i2 false=false→aK T E I w w3.heap.size (.slice (some ⟨x.e,0,none⟩) 0 0) []
 p2:s.getD i2 false=true→s.getD i5 false=false→aK T E I w w3.heap.size x.v1 l
 p4:s.getD i4 false=true→s.getD i5 false=false→w.heap[x.b]?=some (.cells row E (0,0))
 p5:s.getD i5 false=true→aK T E I w w3.heap.size x.v2 (l++[y])
 n0:s.getD i0 false=true→s.getD i2 false=false→s.getD i4 false=true→x.e≠x.b
 n2:s.getD i2 false=true→s.getD i4 false=true→s.getD i5 false=false→x.v1.ownBlock≠some x.b
 o2:s.getD i2 false=true→s.getD i0 false=true
 o5:s.getD i5 false=true→s.getD i2 false=true∧s.getD i4 false=true
section
variable {α:Type} {T:Ty α} {E:TypeId} {I:IH} {w3 w w':World} {l:List α} {y:α} {row:Array Value} {i0 i2 i4 i5:Nat} {x:IU} {s:Array Bool}
theorem wU.start(n:Nat)(x:IU):wU T E I w3 l y row i0 i2 i4 i5 x (Array.replicate n false) {w3 with drawn:=w3.drawn+1}:=by
 refine⟨(Qb _ _).drew,?_,?_,?_,?_,?_,?_,?_,?_⟩<;>(intro h;rw[zf]at h;cases h)
theorem zZ{l:List α}{g:Nat}(h:aK T E I w B v l)(hg:v.ownBlock=some g):B≤g∧g<w.heap.size:=by
 obtain⟨xs,h1,_⟩:=h;exact h1.lt g hg
theorem wU.step(h:wU T E I w3 l y row i0 i2 i4 i5 x s w)(hb:Below w.heap.size w w')(h0:i≠i0)(h2:i≠i2)(h4:i≠i4)(h5:i≠i5):wU T E I w3 l y row i0 i2 i4 i5 x (s.setIfInBounds i true) w':=by
 have e0:(s.setIfInBounds i true).getD i0 false=s.getD i0 false:=getD_set_ne false h0;have e2:(s.setIfInBounds i true).getD i2 false=s.getD i2 false:=getD_set_ne false h2;have e4:(s.setIfInBounds i true).getD i4 false=s.getD i4 false:=getD_set_ne false h4;have e5:(s.setIfInBounds i true).getD i5 false=s.getD i5 false:=getD_set_ne false h5;refine⟨h.eY.trans (hb.mono h.eY.size),?_,?_,?_,?_,?_,?_,?_,?_⟩<;>simp only[e0,e2,e4,e5]
 ·exact fun a b=>(h.p0 a b).below hb
 ·exact fun a b=>(h.p2 a b).below hb
 ·exact fun a b=>(hb.block _ (Qi (h.p4 a b)).1).trans (h.p4 a b)
 ·exact fun a=>(h.p5 a).below hb
 ·exact h.n0
 ·exact h.n2
 ·exact h.o2
 ·exact h.o5
theorem wU.at0(h:wU T E I w3 l y row i0 i2 i4 i5 x s w)(aN:s.getD i0 true=false)(hd:i0<i2∧i2<i4∧i4<i5):wU T E I w3 l y row i0 i2 i4 i5 {x with e:=w.heap.size} (s.setIfInBounds i0 true) (w.alloc (.cells #[] E)):=by
 have u0:=jZ aN;have e0:=zY (u6 aN);have e2:(s.setIfInBounds i0 true).getD i2 false=s.getD i2 false:=getD_set_ne false (by omega);have e4:(s.setIfInBounds i0 true).getD i4 false=s.getD i4 false:=getD_set_ne false (by omega);have e5:(s.setIfInBounds i0 true).getD i5 false=s.getD i5 false:=getD_set_ne false (by omega);have f2:s.getD i2 false=false:=by
  cases q:s.getD i2 false with
  |false=>rfl
  |true=>rw[h.o2 q]at u0;cases u0
 have f5:s.getD i5 false=false:=by
  cases q:s.getD i5 false with
  |false=>rfl
  |true=>rw[(h.o5 q).1]at f2;cases f2
 refine⟨h.eY.alloc h.eY.size _,?_,?_,?_,?_,?_,?_,?_,?_⟩<;>simp only[e0,e2,e4,e5,f2,f5,Bool.false_eq_true,false_imp_iff,forall_const]
 ·have h7:=(World.ownsRow_made w #[] 0 (Qn _) (Nat.zero_le _) (e:=E) (size:=T.size) (by simp));exact aK.lower (show aK T E I _ w.heap.size _ []from⟨[],h7,bA.nil _ _⟩) h.eY.size
 ·exact fun a=>(Below.heap_alloc _ _ _ (Qi (h.p4 a f5)).1).trans (h.p4 a f5)
 ·intro a;have:=(Qi (h.p4 a f5)).1;show w.heap.size≠x.b;omega
theorem wU.at4(h:wU T E I w3 l y row i0 i2 i4 i5 x s w)(aN:s.getD i4 true=false)(hd:i0<i2∧i2<i4∧i4<i5):wU T E I w3 l y row i0 i2 i4 i5 {x with b:=w.heap.size} (s.setIfInBounds i4 true) (w.alloc (.cells row E)):=by
 have u4:=jZ aN;have e4:=zY (u6 aN);have e0:(s.setIfInBounds i4 true).getD i0 false=s.getD i0 false:=getD_set_ne false (by omega);have e2:(s.setIfInBounds i4 true).getD i2 false=s.getD i2 false:=getD_set_ne false (by omega);have e5:(s.setIfInBounds i4 true).getD i5 false=s.getD i5 false:=getD_set_ne false (by omega);have f5:s.getD i5 false=false:=by
  cases q:s.getD i5 false with
  |false=>rfl
  |true=>rw[(h.o5 q).2]at u4;cases u4
 refine⟨h.eY.alloc h.eY.size _,?_,?_,?_,?_,?_,?_,?_,?_⟩<;>simp only[e0,e2,e4,e5,f5,Bool.false_eq_true,false_imp_iff,forall_const]
 ·exact fun a b=>(h.p0 a b).alloc _
 ·exact fun a=>(h.p2 a f5).alloc _
 ·exact heap_alloc_new w _
 ·intro a b;have:=(zZ (g:=x.e) (h.p0 a b) (by simp[Value.ownBlock])).2;show x.e≠w.heap.size;omega
 ·intro a q;have:=(zZ (h.p2 a f5) q).2;have:w.heap.size<w.heap.size:=this;omega
 ·exact h.o2
theorem wU.at2(h:wU T E I w3 l y row i0 i2 i4 i5 x s w)(aN:s.getD i2 true=false)(h0:s.getD i0 false=true)(hd:i0<i2∧i2<i4∧i4<i5)(ho:aK T E I w' w3.heap.size v ([]++l))(hg:w.grownBy w' (some x.e))
 (hl:∀g,v.ownBlock=some g→some x.e=some g∨w.heap.size≤g):wU T E I w3 l y row i0 i2 i4 i5 {x with v1:=v} (s.setIfInBounds i2 true) w':=by
 have u2:=jZ aN;have e2:=zY (u6 aN);have e0:(s.setIfInBounds i2 true).getD i0 false=s.getD i0 false:=getD_set_ne false (by omega);have e4:(s.setIfInBounds i2 true).getD i4 false=s.getD i4 false:=getD_set_ne false (by omega);have e5:(s.setIfInBounds i2 true).getD i5 false=s.getD i5 false:=getD_set_ne false (by omega);have f5:s.getD i5 false=false:=by
  cases q:s.getD i5 false with
  |false=>rfl
  |true=>rw[(h.o5 q).1]at u2;cases u2
 have he:=zZ (g:=x.e) (h.p0 h0 u2) (by simp[Value.ownBlock]);refine⟨h.eY.grown hg h.eY.size (fun k e=>by cases e;exact he.1),?_,?_,?_,?_,?_,?_,?_,?_⟩<;>simp only[e0,e2,e4,e5,f5,h0,Bool.false_eq_true,Bool.true_eq_false,false_imp_iff,forall_const]
 ·simpa using ho
 ·intro a;have hb:=h.p4 a f5;exact(hg.block _ (Qg hb) (fun q=>h.n0 h0 u2 a (Option.some.inj q).symm)).trans hb
 ·intro a q;have hb:=(Qi (h.p4 a f5)).1;rcases hl _ q with q|q
  ·exact h.n0 h0 u2 a (Option.some.inj q)
  ·have:w.heap.size≤x.b:=q;omega
theorem wU.xM(h:wU T E I w3 l y row i0 i2 i4 i5 x s w)(aN:s.getD i5 true=false)(h2:s.getD i2 false=true)(h4:s.getD i4 false=true)(hd:i0<i2∧i2<i4∧i4<i5)(ho:aK T E I w' w3.heap.size v (l++[y]))(hg:w.grownBy w' x.v1.ownBlock):
 wU T E I w3 l y row i0 i2 i4 i5 {x with v2:=v} (s.setIfInBounds i5 true) w':=by
 have u5:=jZ aN;have e5:=zY (u6 aN);have e0:(s.setIfInBounds i5 true).getD i0 false=s.getD i0 false:=getD_set_ne false (by omega);have e2:(s.setIfInBounds i5 true).getD i2 false=s.getD i2 false:=getD_set_ne false (by omega);have e4:(s.setIfInBounds i5 true).getD i4 false=s.getD i4 false:=getD_set_ne false (by omega);refine⟨h.eY.grown hg h.eY.size (fun k e=>(zZ (h.p2 h2 u5) e).1),?_,?_,?_,?_,?_,?_,?_,?_⟩<;>simp only[e0,e2,e4,e5,h2,h4,Bool.true_eq_false,false_imp_iff,forall_const,implies_true,and_self]
 ·exact ho
 ·exact h.o2 h2
end
structure xN (W:World) (last j1 j2:Nat) (cs1 cs2:List (Nat×Value)) (fin:World→Prop) (x:Nat×Nat) (s:Array Bool) (w:World):Prop where
 eY:s.getD last false=false→Below W.heap.size W w
 f1:s.getD j1 false=true→s.getD last false=false→ ∀p∈cs1,w.cell? ⟨x.1,p.1,none⟩=some p.2
 f2:s.getD j2 false=true→s.getD last false=false→ ∀p∈cs2,w.cell? ⟨x.2,p.1,none⟩=some p.2
 fin:s.getD last false=true→fin w
section
variable {W w w':World} {last j1 j2:Nat} {cs1 cs2:List (Nat×Value)} {fin:World→Prop} {x:Nat×Nat} {s:Array Bool}
theorem xN.start(n:Nat)(x:Nat×Nat):xN W last j1 j2 cs1 cs2 fin x (Array.replicate n false) {W with drawn:=W.drawn+1}:=
 ⟨fun _=>(Qb _ _).drew,fun h=>(by rw[zf]at h;cases h),fun h=>(by rw[zf]at h;cases h),fun h=>(by rw[zf]at h;cases h)⟩
theorem xN.step(h:xN W last j1 j2 cs1 cs2 fin x s w)(hl:s.getD last false=false)(hb:Below w.heap.size w w')(h1:i≠j1)(h2:i≠j2)(h3:i≠last):xN W last j1 j2 cs1 cs2 fin x (s.setIfInBounds i true) w':=by
 refine⟨fun _=>(h.eY hl).trans (hb.mono (h.eY hl).size),?_,?_,?_⟩
 ·rw[getD_set_ne false h1];exact fun a _ p hp=>bK hb (h.f1 a hl p hp)
 ·rw[getD_set_ne false h2];exact fun a _ p hp=>bK hb (h.f2 a hl p hp)
 ·rw[getD_set_ne false h3,hl];intro q;cases q
theorem xN.um(h:xN W last j1 j2 cs1 cs2 fin x s w)(hl:s.getD last false=false)(hb:Below w.heap.size w w')(h2:j1≠j2)(h3:j1≠last)(hc:∀p∈cs1,w'.cell? ⟨n,p.1,none⟩=some p.2):xN W last j1 j2 cs1 cs2 fin (n,x.2) (s.setIfInBounds j1 true) w':=by
 refine⟨fun _=>(h.eY hl).trans (hb.mono (h.eY hl).size),fun _ _=>hc,?_,?_⟩
 ·rw[getD_set_ne false h2];exact fun a _ p hp=>bK hb (h.f2 a hl p hp)
 ·rw[getD_set_ne false h3,hl];intro q;cases q
theorem xN.at2(h:xN W last j1 j2 cs1 cs2 fin x s w)(hl:s.getD last false=false)(hb:Below w.heap.size w w')(h1:j2≠j1)(h3:j2≠last)(hc:∀p∈cs2,w'.cell? ⟨n,p.1,none⟩=some p.2):xN W last j1 j2 cs1 cs2 fin (x.1,n) (s.setIfInBounds j2 true) w':=by
 refine⟨fun _=>(h.eY hl).trans (hb.mono (h.eY hl).size),?_,fun _ _=>hc,?_⟩
 ·rw[getD_set_ne false h1];exact fun a _ p hp=>bK hb (h.f1 a hl p hp)
 ·rw[getD_set_ne false h3,hl];intro q;cases q
theorem xN.end'(aN:s.getD last true=false)(hf:fin w'):xN W last j1 j2 cs1 cs2 fin x (s.setIfInBounds last true) w':=by
 have e:=zY (u6 aN);exact⟨fun q=>(by rw[e]at q;cases q),fun _ q=>(by rw[e]at q;cases q),fun _ q=>(by rw[e]at q;cases q),fun _=>hf⟩
end
def IV(ops:Array Oper)(s:Array Bool):Prop:=∀i o,ops[i]?=some o→s.getD i false=true→ ∀e∈o.after,Region.binds .any e=true→s.getD e.on false=true
def zg(ops:Array Oper):List Nat→Bool
 |i::j::r=>(match ops[i]? with|some o=>o.after.any fun e=>Region.binds .any e&&e.on==j|none=>false)&&zg ops (j::r)
 |_=>true
theorem YG(h:IV ops s):∀(p:List Nat) (k i:Nat),zg ops (k::p)=true→(k::p).getLast?=some i→s.getD k false=true→s.getD i false=true
 | [],k,i,_,hl,hk=>by simp at hl;exact hl▸hk
 |j::r,k,i,hp,hl,hk=>by
  unfold zg at hp;rw[Bool.and_eq_true]at hp;obtain⟨h1,h2⟩:=hp;cases ho:ops[k]? with
  |none=>rw[ho]at h1;simp at h1
  |some o=>
   rw[ho]at h1;simp only[Array.any_eq_true,Bool.and_eq_true,beq_iff_eq]at h1;obtain⟨n,hn,h3,h4⟩:=h1;exact YG h r j i h2 (by simpa using hl) (h4▸h k o ho hk _ (Array.getElem_mem hn) h3)
theorem iH(h:IV ops s)(p:List Nat)(hp:zg ops (k::p)=true)(hl:(k::p).getLast?=some i)(aN:s.getD i true=false):s.getD k false=false:=by
 cases hk:s.getD k false with
 |false=>rfl
 |true=>have:=YG h p k i hp hl hk;rw[jZ aN]at this;cases this
theorem Xwr(h:IV ops s)(hi:i∈Region.ready .any ops s):IV ops (s.setIfInBounds i true):=by
 obtain⟨aN,oi,fP,aC⟩:=mem_ready.1 hi;have up:∀j,s.getD j false=true→(s.setIfInBounds i true).getD j false=true:=fun j hj=>by
  by_cases e:i=j
  ·subst e;exact zY (u6 aN)
  ·rw[getD_set_ne false e];exact hj
 intro j o ho hj e he hb;by_cases c:i=j
 ·subst c;rw[fP]at ho;cases ho;exact up _ (aC e he hb)
 ·rw[getD_set_ne false c]at hj;exact up _ (h j o ho hj e he hb)
theorem Xuk{L:List (Option Tmp×Value)}(i k:Nat)(hl:L.length=M.length)(h:∀j,j≠i→j≠k→L[j]?=M[j]?)(aN:s.getD i true=false)(hk:s.getD k false=false):df L 0 s a=df M 0 s a:=
 Vd _ _ _ _ _ hl fun j hj=>by
  rw[Nat.zero_add]at hj;exact h j (fun e=>by rw[e,jZ aN]at hj;cases hj) (fun e=>by rw[e,hk]at hj;cases hj)
theorem yz(L:X→List (Option Tmp×Value))(C:X→Array Bool→World→Prop)(hm:P.follows .mixedOrders=true)(hb:AA ops=true)(h0:∃x,C x (Array.replicate ops.size false) {w with drawn:=w.drawn+1})
 (vK:∀x s a' w' i,s.size=ops.size→IV ops s→a'=df (L x) 0 s a→C x s w'→i∈Region.ready .any ops s→wpOp P ops Q i (fun a'' w''=> ∃y,a''=df (L y) 0 (s.setIfInBounds i true) a∧C y (s.setIfInBounds i true) w'') a' w')
 (sU:∀x s a' w',(∀i,i<ops.size→s.getD i false=true)→a'=df (L x) 0 s a→C x s w'→Q .normal a' w'):(Code.region id ops true).wp P Q a w:=by
 refine Xgx (X:=X) L (fun x s w'=>IV ops s∧C x s w') hm hb ?_ ?_ ?_
 ·obtain⟨x,hx⟩:=h0;exact⟨x,fun i _ _ q=>(by rw[zf]at q;cases q),hx⟩
 ·rintro x s a' w' i dM ha ⟨dC,hC⟩ hi;exact wpOp_mono (fun a'' w'' ⟨y,h1,h2⟩=>⟨y,h1,Xwr dC hi,h2⟩) (vK x s a' w' i dM dC ha hC hi)
 ·rintro x s a' w' gz ha ⟨_,hC⟩;exact sU x s a' w' gz ha hC
theorem Xxy(n:Int)(h0:0≤n)(h1:n≤140737488355200)(w:World):
 Calls Tryz.prog 157 #[.int .i64 n] w fun e w'=>e= .returned (S (gB n))∧Below w.heap.size w w':=by
 obtain⟨m,rfl⟩:=Int.eq_ofNat_of_zero_le h0;exact Xk4 m (by omega) w
theorem O9(I:IH)(hI:eG I)(n:Int)(h0:0≤n)(h1:n≤140737488355200)(w:World)(hw:Ok I w):
 Calls Tryz.prog 153 #[.int .i64 n] w fun e w'=>e= .returned (S (gB n))∧Below w.heap.size w w':=by
 obtain⟨m,rfl⟩:=Int.eq_ofNat_of_zero_le h0;exact QW I hI m (by omega) w hw
theorem Xxx{p q:af}(h0:W.cell? ⟨b,0,none⟩=some (S p))(h1:W.cell? ⟨b,1,none⟩=some (S q)):uV W b 0 [p,q]:=fun j x hx=>by
 match j with
 |0=>cases hx;exact h0
 |1=>cases hx;exact h1
 |_+2=>simp at hx
theorem Xj9{T e:TypeId}{bs:List Value}(h:Lib.IsBuilder T e B b bs w)(o:Obj):Lib.IsBuilder T e B b bs (w.alloc o):=EW h ((Qb _ _).alloc (Qn _) _)
theorem Xuo(k:Int)(h1:1≤k)(h2:k≤6)(w:World):
 Calls Tryz.prog 243 #[] w fun e w'=>e= .returned (.slice (some ⟨w.heap.size,0,none⟩) 6 6)∧w'.cell? ⟨w.heap.size,k.toNat-1,none⟩=some (S (fu k))∧Below w.heap.size w w'∧w.heap.size<w'.heap.size:=by
 go_enter Tryz.func243,Tryz.ntmps243
 go_wp2;go_ret;refine⟨rfl,?_,(Qb _ _).alloc (Qn _) _,by simp⟩;have:k=1∨k=2∨k=3∨k=4∨k=5∨k=6:=by omega
 rcases this with rfl|rfl|rfl|rfl|rfl|rfl<;>simp[fu]
theorem bB.far{va:Value}(h:bB w n e va vx)(hb:Below B w w')(hn:n<B):bB w' n e va vx:=
 ⟨(hb.cell hn).trans h.c0,(hb.cell hn).trans h.c1,(hb.cell hn).trans h.c2,(hb.cell hn).trans h.c3,(hb.cell hn).trans h.c4,(hb.cell hn).trans h.c5,(hb.cell hn).trans h.c6⟩
abbrev Pb(n:Nat)(e:aT)(N:af)(x:Nat×Nat):List (Option Tmp×Value):=
 [(some 13,.slice (some ⟨x.1,0,none⟩) 6 6),(some 14,.pointer (some ⟨n,0,none⟩)),(some 15,.int .i64 e.au),(some 16,.int .i64 (e.au-1)),(some 17,.pointer (some ⟨x.1,e.au.toNat-1,none⟩)),(some 18,S (fu e.au)),
  (some 19,.pointer (some ⟨n,1,none⟩)),(some 20,S e.ag),(some 21,.slice (some ⟨x.2,0,none⟩) 2 2),(some 22,S N),(some 23,.tuple #[.int .i64 (N.length:Int),.nilIface])]
theorem wC{N:af}{x:Nat×Nat}:cO (Pb n e N x):=by
 unfold cO;simp
theorem Xwi(I:IH)(hI:eG I)(e:aT)(va vx:Value)(fq:aZ lD I va e.aj)(kJ:aZ lY I vx e.aA)(l7:e.Wf)(nV:e.ag.length≤4294967280)(xh:e.target.length≤4294967280)(hc:tK e)(he:aP e=0)(w:World)(hw:Ok I w):
 Calls Tryz.prog 202 #[gN e va vx] w fun r w'=>r= .returned (.tuple #[S (mO e),.int .i64 0])∧Below w.heap.size w w':=by
 have mg:=Qh (fun w hw=>U4 I hI e va vx fq kJ l7 nV xh w hw);obtain⟨aa,ca,rfl,_,_,_⟩:=id fq;obtain⟨ax,cx,rfl,_,_,_⟩:=id kJ;have k1:=hc.k1;have k6:=hc.k6;have aeO:=hc.ag;have aeP:=hc.target;have hna:=hc.Lv;have D8:=Qh hc.UC;have Hc:=Qh hc;rw[he]at mg;have i0:IntKind.i64.wrap (e.au-1)=e.au-1:=IntWalk.i64_in _ (by omega);have i1:0≤e.au-1:=by omega
 have i2:e.au-1<6:=by omega
 clear he hc;go_enter Tryz.func202,Tryz.ntmps202
 go_wp2_with fail
 refine(mg.O _ (hw.alloc _)).mono ?_;rintro e1 w1 ⟨rfl,aD⟩;have kU:=Qh (dx (e:=e) rfl aD);have aM:Ok I w1:=(hw.alloc _).below (Qn _) aD;have aH:=((Qb w.heap.size w).alloc (Qn _) (.cells #[.int .i64 e.au,S e.ag,.slice aa e.aj.length ca,S e.target,.int .i64 e.size,S e.av,.slice ax e.aA.length cx] 81)).trans (aD.mono (by simp));have om:Lib.IsBuilder 203 5 w1.heap.size w1.heap.size (Lib.byteCells []) (w1.alloc (.cells #[.pointer none,.slice none 0 0] 203)):=Lib.fresh_isBuilder _ _ w1;have bZ:w.heap.size<w1.heap.size:=by have:=aD.size;simp at this;omega
 go_wp2_with fail
 obtain⟨c0,c1,c2,c3,c4,c5,c6⟩:=bB.past kU.O (.cells #[.pointer none,.slice none 0 0] 203);have yn:=yw (fu e.au) (by have:=Xi e.au;omega);have GU:=Xi e.au;have TN:=yw e.ag (by omega);have Oy:iA [fu e.au,e.ag]=fG (fu e.au)++fG e.ag:=by simp[iA]
 have GQ:(iA [fu e.au,e.ag]).length≤300:=by rw[Oy,List.length_append];omega
 have bu:=Qh (fun b w hv hw=>Xhi I hI b 0 2 2 [fu e.au,e.ag] rfl (Qn _) (by decide) w hv (by omega) hw);obtain⟨N,hN⟩:∃N,iA [fu e.au,e.ag]=N:=⟨_,rfl⟩;rw[hN]at bu GQ;rw[Oy]at hN;have HN:=Qh hN;clear Oy hN;obtain⟨W5,Ku⟩:∃W5,w1.alloc (.cells #[.pointer none,.slice none 0 0] 203)=W5:=⟨_,rfl⟩;have gV:Below w1.heap.size w1 W5:=by rw[←Ku];exact(Qb _ _).alloc (Qn _) _
 have Fb:Ok I W5:=by rw[←Ku];exact aM.alloc _
 have TP:w1.heap.size<W5.heap.size:=by rw[←Ku];simp
 change Code.wp _ _ _ _ (w1.alloc (.cells #[.pointer none,.slice none 0 0] 203));rw[Ku];rw[Ku]at om c0 c1;have hkn:(e.au-1).toNat=e.au.toNat-1:=by omega
 refine yz (X:=Nat×Nat) (Pb w.heap.size e N) (xN W5 10 0 8 [(e.au.toNat-1,S (fu e.au))] [(0,S (fu e.au)),(1,S e.ag)] (fun w5=>Lib.IsBuilder 203 5 w1.heap.size w1.heap.size (Lib.byteCells N) w5∧w1.heap.size<w5.heap.size∧Below w1.heap.size w1 w5)) (by kernel_rfl) (by kernel_rfl) ?_ ?_ ?_
 ·exact⟨(0,0),xN.start _ _⟩
 ·rintro x s a' w' i dM dC ha hC hi;obtain⟨aN,oi,fP,aC⟩:=mem_ready.1 hi;rcases i with _|_|_|_|_|_|_|_|_|_|_|i
  rotate_left 11
  ·simp at fP
  all_goals
   have dV:=fP;simp at fP;subst fP;simp[Region.binds]at aC
  ·have hl:s.getD 10 false=false:=iH dC [9,8,5,4,0] (by kernel_rfl) (by rfl) aN;have h4:s.getD 4 false=false:=iH dC [0] (by kernel_rfl) (by rfl) aN;have ha:=ha.trans (Xuk (L:=Pb w.heap.size e N x) (M:=Pb w.heap.size e N (w'.heap.size,x.2)) 0 4 rfl (fun j h0 h4=>by
    rcases j with _|_|_|_|_|j<;>first|rfl|(exact absurd rfl h0)|(exact absurd rfl h4)|simp) aN h4)
   refine wpOp_step dV (fun K' hK=> ?_);rw[if_pos (by rfl)];unfold Oper.wp;simp[go_sem,Oper.upon];refine(Xuo e.au k1 k6 w').mono ?_;rintro r2 w2 ⟨rfl,yj,aL,eZ⟩;exact hK _ _ ⟨(w'.heap.size,x.2),eO (d:=some 13) (v:= .slice (some ⟨w'.heap.size,0,none⟩) 6 6) wC ha rfl aN,hC.um hl aL (by decide) (by decide) (fun p hp=>by simp at hp;subst hp;exact yj)⟩
  ·have e1:a'.tmps[1]?.getD undef= .pointer (some ⟨w.heap.size,0,none⟩):=oD ha (by simp);have hl:s.getD 10 false=false:=iH dC [9,8,5,4,3,2,1] (by kernel_rfl) (by rfl) aN;refine wpOp_step dV (fun K' hK=> ?_);rw[if_pos (by rfl)];unfold Oper.wp;simp[go_sem,e1,Oper.upon];exact hK _ _ ⟨x,eO (d:=some 14) (v:=(.pointer (some ⟨w.heap.size,0,none⟩))) wC ha rfl aN,hC.step hl (Qb _ _) (by decide) (by decide) (by decide)⟩
  ·have e14:a'.tmps[14]?.getD undef= .pointer (some ⟨w.heap.size,0,none⟩):=gT (i:=1) wC ha rfl (by simpa using aC) (by simp);have hl:s.getD 10 false=false:=iH dC [9,8,5,4,3,2] (by kernel_rfl) (by rfl) aN;have c0':=bK (hC.eY hl) c0;refine wpOp_step dV (fun K' hK=> ?_);rw[if_pos (by rfl)];unfold Oper.wp;simp[go_sem,e14,c0',Oper.upon];exact hK _ _ ⟨x,eO (d:=some 15) (v:= .int .i64 e.au) wC ha rfl aN,hC.step hl (Qb _ _) (by decide) (by decide) (by decide)⟩
  ·have e15:a'.tmps[15]?.getD undef= .int .i64 e.au:=gT (i:=2) wC ha rfl (by simpa using aC) (by simp);have hl:s.getD 10 false=false:=iH dC [9,8,5,4,3] (by kernel_rfl) (by rfl) aN;refine wpOp_step dV (fun K' hK=> ?_);rw[if_pos (by rfl)];unfold Oper.wp;simp[go_sem,e15,Oper.upon,i0];exact hK _ _ ⟨x,eO (d:=some 16) (v:= .int .i64 (e.au-1)) wC ha rfl aN,hC.step hl (Qb _ _) (by decide) (by decide) (by decide)⟩
  ·have e13:a'.tmps[13]?.getD undef= .slice (some ⟨x.1,0,none⟩) 6 6:=gT (i:=0) wC ha rfl (by simpa using aC.1) (by simp);have e16:a'.tmps[16]?.getD undef= .int .i64 (e.au-1):=gT (i:=3) wC ha rfl (by simpa using aC.2) (by simp);have hl:s.getD 10 false=false:=iH dC [9,8,5,4] (by kernel_rfl) (by rfl) aN;refine wpOp_step dV (fun K' hK=> ?_);rw[if_pos (by rfl)];unfold Oper.wp;simp[go_sem,e13,e16,i2,hkn,k1,Oper.upon];exact hK _ _ ⟨x,eO (d:=some 17) (v:= .pointer (some ⟨x.1,e.au.toNat-1,none⟩)) wC ha rfl aN,hC.step hl (Qb _ _) (by decide) (by decide) (by decide)⟩
  ·have e17:a'.tmps[17]?.getD undef= .pointer (some ⟨x.1,e.au.toNat-1,none⟩):=gT (i:=4) wC ha rfl (by simpa using aC) (by simp);have hl:s.getD 10 false=false:=iH dC [9,8,5] (by kernel_rfl) (by rfl) aN;have h0:s.getD 0 false=true:=YG dC [0] 4 0 (by kernel_rfl) (by rfl) (by simpa using aC);have hc:=hC.f1 h0 hl _ (List.mem_singleton.2 rfl);refine wpOp_step dV (fun K' hK=> ?_);rw[if_pos (by rfl)];unfold Oper.wp;simp[go_sem,e17,hc,Oper.upon];exact hK _ _ ⟨x,eO (d:=some 18) (v:=S (fu e.au)) wC ha rfl aN,hC.step hl (Qb _ _) (by decide) (by decide) (by decide)⟩
  ·have e1:a'.tmps[1]?.getD undef= .pointer (some ⟨w.heap.size,0,none⟩):=oD ha (by simp);have hl:s.getD 10 false=false:=iH dC [9,8,7,6] (by kernel_rfl) (by rfl) aN;refine wpOp_step dV (fun K' hK=> ?_);rw[if_pos (by rfl)];unfold Oper.wp;simp[go_sem,e1,Oper.upon];exact hK _ _ ⟨x,eO (d:=some 19) (v:=(.pointer (some ⟨w.heap.size,1,none⟩))) wC ha rfl aN,hC.step hl (Qb _ _) (by decide) (by decide) (by decide)⟩
  ·have e19:a'.tmps[19]?.getD undef= .pointer (some ⟨w.heap.size,1,none⟩):=gT (i:=6) wC ha rfl (by simpa using aC) (by simp);have hl:s.getD 10 false=false:=iH dC [9,8,7] (by kernel_rfl) (by rfl) aN;have c1':=bK (hC.eY hl) c1;refine wpOp_step dV (fun K' hK=> ?_);rw[if_pos (by rfl)];unfold Oper.wp;simp[go_sem,e19,c1',Oper.upon];exact hK _ _ ⟨x,eO (d:=some 20) (v:=S e.ag) wC ha rfl aN,hC.step hl (Qb _ _) (by decide) (by decide) (by decide)⟩
  ·have e18:a'.tmps[18]?.getD undef=S (fu e.au):=gT (i:=5) wC ha rfl (by simpa using aC.1) (by simp);have e20:a'.tmps[20]?.getD undef=S e.ag:=gT (i:=7) wC ha rfl (by first|simpa using aC.2|simpa using aC.2.1) (by simp);have hl:s.getD 10 false=false:=iH dC [9,8] (by kernel_rfl) (by rfl) aN;have ha:=ha.trans (YF (L:=Pb w.heap.size e N x) (M:=Pb w.heap.size e N (x.1,w'.heap.size)) 8 rfl (fun j bn=>by
    rcases j with _|_|_|_|_|_|_|_|_|j<;>first|rfl|(exact absurd rfl bn)|simp) aN)
   refine wpOp_step dV (fun K' hK=> ?_);rw[if_pos (by rfl)];unfold Oper.wp;simp[go_sem,e18,e20,Oper.upon];refine hK _ _ ⟨(x.1,w'.heap.size),eO (d:=some 21) (v:= .slice (some ⟨w'.heap.size,0,none⟩) 2 2) wC ha rfl aN,hC.at2 hl ((Qb _ _).alloc (Qn _) _) (by decide) (by decide) (fun p hp=> ?_)⟩;have jk:=Xip w' [fu e.au,e.ag] 9;simp at hp;rcases hp with rfl|rfl
   ·exact jk 0 _ rfl
   ·exact jk 1 _ rfl
  ·have e21:a'.tmps[21]?.getD undef= .slice (some ⟨x.2,0,none⟩) 2 2:=gT (i:=8) wC ha rfl (by simpa using aC.1) (by simp);have hl:s.getD 10 false=false:=iH dC [9] (by kernel_rfl) (by rfl) aN;have hf2:=hC.f2 (by simpa using aC.1) hl;have jk:uV w' x.2 0 [fu e.au,e.ag]:=Xxx (hf2 (0,_) (by simp)) (hf2 (1,_) (by simp));refine wpOp_step dV (fun K' hK=> ?_);rw[if_pos (by rfl)];unfold Oper.wp;simp[go_sem,e21,Oper.upon];refine(bu.O x.2 w' jk (Fb.below (Qn _) (hC.eY hl))).mono ?_;rintro r4 w4 ⟨rfl,aR⟩;exact hK _ _ ⟨x,eO (d:=some 22) (v:=S N) wC ha rfl aN,hC.step hl aR (by decide) (by decide) (by decide)⟩
  ·have e22:a'.tmps[22]?.getD undef=S N:=gT (i:=9) wC ha rfl (by first|simpa using aC|simpa using aC.1|simpa using aC.2) (by simp);have e5:a'.tmps[5]?.getD undef= .pointer (some ⟨w1.heap.size,0,none⟩):=oD ha (by simp);have hl:s.getD 10 false=false:=jZ aN;have p8:=hC.eY hl;refine wpOp_step dV (fun K' hK=> ?_);rw[if_pos (by rfl)];unfold Oper.wp;simp[go_sem,e22,e5,Oper.upon];refine(Tryz.Builder_WriteString w1.heap.size w1.heap.size _ _ _ (EW om p8) (by rw[ByteArray.size_mk',List.size_toArray];simp[Lib.byteCells];omega) (by have:=p8.size;omega)).mono ?_;rintro r5 w5 ⟨rfl,xO,bM⟩;refine hK _ _ ⟨x,eO (d:=some 23) (v:= .tuple #[.int .i64 (N.length:Int),.nilIface]) wC ha rfl aN,xN.end' aN ⟨.inr ?_,xO.lt,(gV.trans (p8.mono (Nat.le_of_lt TP))).trans bM⟩⟩;have:=xO;rw[Lib.strCells_toArray,Lib.byteCells,List.map_nil,List.nil_append]at this;exact this
 rintro x s a' w5 gz ha hC;obtain⟨xO,jM,vg⟩:=hC.fin (gz 10 (by decide));rw[xL _ _ _ _ (fun i hi=>by rw[Nat.zero_add];exact gz i (by simpa using hi))]at ha;subst ha;simp only[eH,Act.put];clear hC gz;have qg:∀b,w1.heap.size≤b→I b=none:=fun b hb=>aM.fresh hb;have dL:Ok I w5:=aM.below (Qn _) vg;have IW:=Qh xO;have mU:=Qh (kU.O.aQ (vg.mono (Qn _)));have dE:=aH.trans (vg.mono aH.size);have tT:=Xu2 hna D8.O;have Hl:=Qh tT;have hz:gB e.aj.length=rH e.aj 0:=by rw[rH,List.take_zero,List.flatMap_nil,List.append_nil]
 have YH:=Qh (fun w hw=>QW I hI e.aj.length (by omega) w hw);rw[hz]at YH;have arQ:=tT 0;clear om xO aD aH vg kU c0 c1 c2 c3 c4 c5 c6 aM hz tT bu i0 i1 i2 yn GU TN gV Fb TP hkn Ku;obtain⟨c0,c1,c2,c3,c4,c5,c6⟩:=mU.O;go_wp2_with fail
 refine(YH.O _ dL).mono ?_;rintro e6 w6 ⟨rfl,fF⟩;have Rb:=EW IW.O fF;have iO:Ok I w6:=dL.below (Qn _) fF;have zX:=Qh (mU.O.aQ fF);have kH:=dE.trans (fF.mono dE.size);have YI:=fF.size;clear fF dE dL mU c0 c1 c2 c3 c4 c5 c6 IW;go_wp2_with fail
 refine(Tryz.Builder_WriteString w1.heap.size w1.heap.size _ _ _ Rb (by rw[ByteArray.size_mk',List.size_toArray];simp[Lib.byteCells];omega) (by omega)).mono ?_;rintro e7 w7 ⟨rfl,vv,ji⟩;have AB:=Qh (show Lib.IsBuilder 203 5 w1.heap.size w1.heap.size (Lib.byteCells (N++rH e.aj 0)) w7 from .inr (by
  have:=vv;rw[Lib.strCells_toArray,Lib.byteCells,Lib.byteCells,←List.map_append]at this;exact this))
 have lu:=vv.lt;have Kv:Below w1.heap.size w6 w7:=ji;have iP:Ok I w7:=iO.of_block fun b c hb=>Kv.block b (Nat.lt_of_not_le fun h=>by rw[qg b h]at hb;cases hb);have wB:=Qh (zX.O.far Kv bZ);have pM:=kH.trans (Kv.mono (Nat.le_of_lt bZ));clear Rb vv ji Kv kH iO zX YH;obtain⟨c0,c1,c2,c3,c4,c5,c6⟩:=wB.O;have Hv:=Qh fq;clear fq kJ;go_wp2_with fail
 clear c0 c1 c2 c3 c4 c5 c6;go_loopw [32] (fun Mg wr=> ∃k:Nat,k≤e.aj.length∧Mg= .int .i64 k∧Lib.IsBuilder 203 5 w1.heap.size w1.heap.size (Lib.byteCells (N++rH e.aj k)) wr∧Ok I wr∧bB wr w.heap.size e (.slice aa e.aj.length ca) (.slice ax e.aA.length cx)∧Below w.heap.size w wr∧w1.heap.size<wr.heap.size) (fun i _=>e.aj.length-(intOf i).toNat)
 case atStart=>exact⟨0,Nat.zero_le _,rfl,AB.O,iP,wB.O,pM,lu⟩
 case round=>
  clear AB wB pM iP lu YI jM;obtain⟨k,hk,rfl,nX,dG,ug,hb,dM⟩:=hrel;have tJ:=Qh nX;have vO:=Qh ug;clear nX ug;have uI:=Hl.O k;by_cases hlt:k<e.aj.length
  ·obtain⟨x,b,off,cap',dA,cZ,c0,c1⟩:=yK Hv.O dG k hlt;cases cZ;have hax:=D8.O x (by rw[←dA];exact List.getElem_mem hlt);have bu:=Qh (Xs1 hlt dA);have vZ:=yw x.k (by omega);have yD:=yw x.v (by omega);have Oy:iA [x.k,x.v]=fG x.k++fG x.v:=by simp[iA]
   have Hs:=Qh (fun w hv hw=>Xhi I hI (wr.heap.size+1) 0 2 2 [x.k,x.v] rfl (by simp) (by unfold maxLen;omega) w hv (by rw[Oy];simp;omega) hw);have HS:=Qh (show uV ((wr.alloc (.cells #[S x.k,S x.v] 107)).alloc (.cells #[S x.k,S x.v] 9)) (wr.heap.size+1) 0 [x.k,x.v] by
    have:=Xip (wr.alloc (.cells #[S x.k,S x.v] 107)) [x.k,x.v] 9;rwa[show(wr.alloc (.cells #[S x.k,S x.v] 107)).heap.size=wr.heap.size+1 by simp]at this)
   rw[Oy]at Hs;clear dA Oy;generalize fG x.k=p at bu vZ Hs;generalize fG x.v=q at bu yD Hs;generalize rH e.aj k=u at bu uI tJ;go_wp2_with fail
   refine(Hs.O _ HS.O ((dG.alloc _).alloc _)).mono ?_;rintro e1 w2 ⟨rfl,aD⟩;have vg:Below wr.heap.size wr w2:=(((Qb _ _).alloc (Qn _) _).alloc (by simp) _).trans (aD.mono (by simp;omega));have om:=EW tJ.O vg;have aM:Ok I w2:=dG.below (Qn _) vg;have kU:=Qh (vO.O.aQ vg);have eZ:=vg.size;have aH:=hb.trans (vg.mono hb.size);clear aD vg tJ c0 c1 HS Hs;go_wp2_with fail
   refine(Tryz.Builder_WriteString w1.heap.size w1.heap.size _ _ _ om (by rw[ByteArray.size_mk',List.size_toArray];simp[Lib.byteCells];omega) (by omega)).mono ?_;rintro e2 w3 ⟨rfl,mV,aL⟩;have pJ:=mV.lt;have EX:=Qh (show Lib.IsBuilder 203 5 w1.heap.size w1.heap.size (Lib.byteCells (N++rH e.aj (k+1))) w3 from .inr (by
    have:=mV;rw[Lib.strCells_toArray,Lib.byteCells,Lib.byteCells,←List.map_append,List.append_assoc,←bu.O]at this;exact this))
   have Kv:Below w1.heap.size w2 w3:=aL;have eT:Ok I w3:=aM.of_block fun b c hb=>Kv.block b (Nat.lt_of_not_le fun h=>by rw[qg b h]at hb;cases hb);have l8:=Qh (kU.O.far Kv bZ);clear om mV aM kU aL;go_wp2;go_roundw;case rel=>exact⟨k+1,by omega,by go_num,EX.O,eT,l8.O,aH.trans (Kv.mono (Nat.le_of_lt bZ)),pJ⟩
   case measure=>simp[intOf];omega
  ·have Hn:=Qh (Xu3 e.aj (k:=k) (by omega));rw[Hn.O]at tJ uI;have PP:=yw e.target (by omega);have Hnt:=Qh (fun w hw=>O6 I hI e.target (by omega) w hw);have Hh:=Qh (show N++Ak e.aj++fG e.target=mO e by rw[←HN.O];rfl);generalize fG e.target=q at PP Hnt Hh;generalize Ak e.aj=u at tJ uI Hh;obtain⟨c0,c1,c2,c3,c4,c5,c6⟩:=vO.O;go_wp2_with fail
   refine(Hnt.O _ dG).mono ?_;rintro e1 w2 ⟨rfl,aD⟩;have om:=EW tJ.O aD;have eZ:=aD.size;have aH:=hb.trans (aD.mono hb.size);clear aD tJ c0 c1 c2 c3 c4 c5 c6 vO;go_wp2_with fail
   refine(Tryz.Builder_WriteString w1.heap.size w1.heap.size _ _ _ om (by rw[ByteArray.size_mk',List.size_toArray];simp[Lib.byteCells];omega) (by omega)).mono ?_;rintro e2 w3 ⟨rfl,mV,aL⟩;have pJ:=mV.lt;have EX:=Qh (show Lib.IsBuilder 203 5 w1.heap.size w1.heap.size (Lib.byteCells (mO e)) w3 from .inr (by
    have:=mV;rw[Lib.strCells_toArray,Lib.byteCells,Lib.byteCells,←List.map_append,Hh.O]at this;exact this))
   have aY:=aH.trans (aL.mono (Nat.le_of_lt bZ));clear om mV aL;go_wp2_with fail
   refine(Tryz.Builder_String_any w1.heap.size w1.heap.size _ _ EX.O (Nat.le_of_lt pJ)).mono ?_;rintro e3 w4 ⟨rfl,aR⟩;go_wp2;go_ret2;exact⟨rfl,aY.trans (aR.mono (Nat.le_of_lt bZ))⟩
theorem Rc{u v z:af}(h:Lib.BuilderAt 203 5 b b (.pointer (some ⟨b,0,none⟩)) (Lib.byteCells u++Lib.strCells ⟨v.toArray⟩) w)(e:u++v=z):Lib.IsBuilder 203 5 b b (Lib.byteCells z) w:= .inr (by
 rw[Lib.strCells_toArray,show Lib.byteCells u++Lib.byteCells v=Lib.byteCells z by rw[←e];simp[Lib.byteCells]]at h;exact h)
theorem Xsi(I:IH)(hI:eG I)(e:aT)(va vx:Value)(fq:aZ lD I va e.aj)(kJ:aZ lY I vx e.aA)(l7:e.Wf)(nV:e.ag.length≤4294967280)(xh:e.target.length≤4294967280)(hc:tK e)(he:aP e=0)(hx:e.aA.length≤1000)(w:World)(hw:Ok I w):
 Calls Tryz.prog 155 #[gN e va vx] w fun r w'=>r= .returned (.tuple #[S (yR e),.int .i64 0])∧Below w.heap.size w w':=by
 have mg:=Qh (fun w hw=>Xwi I hI e va vx fq kJ l7 nV xh hc he w hw);obtain⟨aa,ca,rfl,_,_,_⟩:=id fq;obtain⟨ax,cx,rfl,_,_,_⟩:=id kJ;have Hv:=Qh kJ;have lC:=hc.s0;have qj:=hc.s1;have arR:=hc.av;have Hxs:=Qh hc.YD;have Hl:=Qh (Xoi hc hx);have tT:=Hl.O 0;have hhl:=Xll hc;have Hz:=Qh (show fG (mO e)++gB e.size++fG e.av++gB e.aA.length=qC e 0 from(Xse e).symm);have Eo:=yw (mO e) (by omega);have La:=Eb lC (by omega);have TQ:=yw e.av (by omega);have hl4:=Ib e.aA.length (by omega);have H1:=Qh (fun w hw=>O6 I hI (mO e) (by omega) w hw);have H2:=Qh (fun w hw=>O9 I hI e.size lC (by omega) w hw);have H3:=Qh (fun w hw=>O6 I hI e.av (by omega) w hw);have H4:=Qh (fun w hw=>QW I hI e.aA.length (by omega) w hw);clear fq kJ hc he;generalize fG (mO e)=p1 at Hz Eo H1;generalize gB e.size=p2 at Hz La H2;generalize fG e.av=p3 at Hz TQ H3;generalize gB (e.aA.length:Int)=p4 at Hz hl4 H4;generalize mO e=hd at mg H1 hhl Eo;go_enter Tryz.func155,Tryz.ntmps155
 go_wp2_with fail
 refine(mg.O _ (hw.alloc _)).mono ?_;rintro e1 w1 ⟨rfl,aD⟩;have kU:=Qh (dx (e:=e) rfl aD);have aM:Ok I w1:=(hw.alloc _).below (Qn _) aD;have aH:=((Qb w.heap.size w).alloc (Qn _) (.cells #[.int .i64 e.au,S e.ag,.slice aa e.aj.length ca,S e.target,.int .i64 e.size,S e.av,.slice ax e.aA.length cx] 81)).trans (aD.mono (by simp));have om:Lib.IsBuilder 203 5 w1.heap.size w1.heap.size (Lib.byteCells []) (w1.alloc (.cells #[.pointer none,.slice none 0 0] 203)):=Lib.fresh_isBuilder _ _ w1;have bZ:w.heap.size<w1.heap.size:=by have:=aD.size;simp at this;omega
 have qg:∀b,w1.heap.size≤b→I b=none:=fun b hb=>aM.fresh hb;have AC:=Qh (bB.past kU.O (.cells #[.pointer none,.slice none 0 0] 203));have nR:Ok I (w1.alloc (.cells #[.pointer none,.slice none 0 0] 203)):=aM.alloc _;obtain⟨c0,c1,c2,c3,c4,c5,c6⟩:=AC.O;have e4:=cell_regrown c4;have e5:=cell_regrown c5;have e6:=cell_regrown c6;clear aD mg c0 c1 c2 c3;go_wp2_with fail
 refine xy 15 (by kernel_rfl) (by kernel_rfl) ?_;simp only[List.take_succ_cons,List.take_zero,List.drop_succ_cons,List.drop_zero];repeat(go_big_quiet_step ((with_reducible first|exact Calls.regrown_of (H1.O _ (nR.below (Qn _) (below_regrown _ _ _)))|exact Calls.regrown_of (H2.O _ (nR.below (Qn _) (below_regrown _ _ _)))|exact Calls.regrown_of (H3.O _ (nR.below (Qn _) (below_regrown _ _ _)))|exact Calls.regrown_of (H4.O _ (nR.below (Qn _) (below_regrown _ _ _))))))
 refine wpQuiet_nil ?_;intro w2 bq;have aL:Below ((w1.alloc (.cells #[.pointer none,.slice none 0 0] 203))).heap.size ((w1.alloc (.cells #[.pointer none,.slice none 0 0] 203))) w2:=by
  obtain⟨pq,rfl⟩:=bq;exact below_regrown _ _ _
 clear bq;have mV:=EW om aL;have aX:Ok I w2:=nR.below (Qn _) aL;have oH:=Qh (AC.O.aQ aL);have aY:Below w.heap.size w w2:=(aH.alloc (by have:=aH.size;omega) (.cells #[.pointer none,.slice none 0 0] 203)).trans (aL.mono (by simp;omega));have eZ:w1.heap.size≤w2.heap.size:=by have:=aL.size;simp at this;omega
 clear e4 e5 e6 c4 c5 c6 aL kU AC om aM nR aH H1 H2 H3 H4;go_wp2_with fail
 refine(Tryz.Builder_WriteString w1.heap.size w1.heap.size _ _ _ mV (by rw[ByteArray.size_mk',List.size_toArray];simp[Lib.byteCells];omega) (by omega)).mono ?_;rintro e7 w7 ⟨rfl,vv,ji⟩;have lu:=vv.lt;have AB:=Qh (Rc (z:=qC e 0) vv (by rw[←Hz.O];simp));have iP:Ok I w7:=aX.of_block fun b c hb=>ji.block b (Nat.lt_of_not_le fun h=>by rw[qg b h]at hb;cases hb);have wB:=Qh (oH.O.far ji bZ);have pM:=aY.trans (ji.mono (Nat.le_of_lt bZ));clear mV vv ji aY aX oH tT eZ;obtain⟨c0,c1,c2,c3,c4,c5,c6⟩:=wB.O;go_wp2_with fail
 clear c0 c1 c2 c3 c4 c5 c6;go_loopw [36] (fun YJ wr=> ∃k:Nat,k≤e.aA.length∧YJ= .int .i64 k∧Lib.IsBuilder 203 5 w1.heap.size w1.heap.size (Lib.byteCells (qC e k)) wr∧Ok I wr∧Below w.heap.size w wr∧w1.heap.size<wr.heap.size) (fun i _=>e.aA.length-(intOf i).toNat)
 case atStart=>exact⟨0,Nat.zero_le _,rfl,AB.O,iP,pM,lu⟩
 case round=>
  clear AB wB pM iP lu;obtain⟨k,hk,rfl,nX,dG,hb,dM⟩:=hrel;have tJ:=Qh nX;clear nX;have uI:=Hl.O k;by_cases hlt:k<e.aA.length
  ·obtain⟨x,b,off,cap',dA,cZ,c0,c1,c2⟩:=xA Hv.O dG k hlt;cases cZ;obtain⟨y0,y1,y2,y3,y4,y5⟩:=Hxs.O x (by rw[←dA];exact List.getElem_mem hlt);have bu:=Qh (Xsf hlt dA);have K8:=Eb (n:=x.s) (by omega) (by omega);have PO:=Eb (n:=x.o) (by omega) (by omega);have CU:=Eb (n:=x.n) (by omega) (by omega);have H1:=Qh (fun w hw=>O9 I hI x.s (by omega) (by omega) w hw);have H2:=Qh (fun w hw=>O9 I hI x.o (by omega) (by omega) w hw);have H3:=Qh (fun w hw=>O9 I hI x.n (by omega) (by omega) w hw);have Re:Ok I (wr.alloc (.cells #[.int .i64 x.s,.int .i64 x.o,.int .i64 x.n] 109)):=dG.alloc _;have g0:=cell_regrown (show(wr.alloc (.cells #[.int .i64 x.s,.int .i64 x.o,.int .i64 x.n] 109)).cell? ⟨wr.heap.size,0,none⟩=some (.int .i64 x.s) by simp);have g1:=cell_regrown (show(wr.alloc (.cells #[.int .i64 x.s,.int .i64 x.o,.int .i64 x.n] 109)).cell? ⟨wr.heap.size,1,none⟩=some (.int .i64 x.o) by simp);have g2:=cell_regrown (show(wr.alloc (.cells #[.int .i64 x.s,.int .i64 x.o,.int .i64 x.n] 109)).cell? ⟨wr.heap.size,2,none⟩=some (.int .i64 x.n) by simp);clear dA;generalize gB x.s=q1 at bu K8 H1;generalize gB x.o=q2 at bu PO H2;generalize gB x.n=q3 at bu CU H3;generalize qC e k=u at bu uI tJ;go_wp2_with fail
   refine xy 11 (by kernel_rfl) (by kernel_rfl) ?_;simp only[List.take_succ_cons,List.take_zero,List.drop_succ_cons,List.drop_zero];repeat(go_big_quiet_step ((with_reducible first|exact Calls.regrown_of (H1.O _ (Re.below (Qn _) (below_regrown _ _ _)))|exact Calls.regrown_of (H2.O _ (Re.below (Qn _) (below_regrown _ _ _)))|exact Calls.regrown_of (H3.O _ (Re.below (Qn _) (below_regrown _ _ _))))))
   refine wpQuiet_nil ?_;intro w2 bq;have aL:Below ((wr.alloc (.cells #[.int .i64 x.s,.int .i64 x.o,.int .i64 x.n] 109))).heap.size ((wr.alloc (.cells #[.int .i64 x.s,.int .i64 x.o,.int .i64 x.n] 109))) w2:=by
    obtain⟨pq,rfl⟩:=bq;exact below_regrown _ _ _
   clear bq;have mV:=EW (Xj9 tJ.O _) aL;have aX:Ok I w2:=Re.below (Qn _) aL;have aY:Below w.heap.size w w2:=(hb.alloc hb.size (.cells #[.int .i64 x.s,.int .i64 x.o,.int .i64 x.n] 109)).trans (aL.mono (by have:=hb.size;simp;omega));have eZ:w1.heap.size≤w2.heap.size:=by have:=aL.size;simp at this;omega
   clear g0 g1 g2 aL Re tJ c0 c1 c2 H1 H2 H3;go_wp2_with fail
   refine(Tryz.Builder_WriteString w1.heap.size w1.heap.size _ _ _ mV (by rw[ByteArray.size_mk',List.size_toArray];simp[Lib.byteCells];omega) (by omega)).mono ?_;rintro e7 w7 ⟨rfl,vv,ji⟩;have lu:=vv.lt;have AB:=Qh (Rc (z:=qC e (k+1)) vv (by rw[bu.O];simp));have iP:Ok I w7:=aX.of_block fun b c hb=>ji.block b (Nat.lt_of_not_le fun h=>by rw[qg b h]at hb;cases hb);have pM:=aY.trans (ji.mono (Nat.le_of_lt bZ));clear mV vv ji aY aX;go_wp2;go_roundw;case rel=>exact⟨k+1,by omega,by go_num,AB.O,iP,pM,lu⟩
   case measure=>simp[intOf];omega
  ·have Hn:=Qh (Xoj e (k:=k) (by omega));rw[Hn.O]at tJ;go_wp2_with fail
   refine(Tryz.Builder_String_any w1.heap.size w1.heap.size _ _ tJ.O (Nat.le_of_lt dM)).mono ?_;rintro e3 w4 ⟨rfl,aR⟩;go_wp2;go_ret2;exact⟨rfl,hb.trans (aR.mono (Nat.le_of_lt bZ))⟩
abbrev Rf(s:dK)(ve:Value):List Value:=[.int .i64 s.num,.int .i64 s.aG,S s.bR,ve,S s.bC,S s.sl]
abbrev Dj(s:dK)(ve:Value):Value:= .agg #[.int .i64 s.num,.int .i64 s.aG,S s.bR,ve,S s.bC,S s.sl]
def AJ:Ty dK where
 size:=6
 rd:=fun I cs s=> ∃ve,cs=Rf s ve∧aZ bQ I ve s.aB
 len:=fun⟨_,h,_⟩=>by rw[h];rfl
 one:=fun⟨ve,h,h1⟩ u hu=>by
  rw[h]at hu;simp at hu;rcases hu with rfl|rfl|rfl|rfl|rfl|rfl<;>first|rfl|exact h1.one
 mono:=fun hI ⟨ve,h,h1⟩=>⟨ve,h,h1.mono hI⟩
structure Rh (w:World) (b o:Nat) (s:dK) (ve:Value):Prop where
 c0:w.cell? ⟨b,o,none⟩=some (.int .i64 s.num)
 c1:w.cell? ⟨b,o+1,none⟩=some (.int .i64 s.aG)
 c2:w.cell? ⟨b,o+2,none⟩=some (S s.bR)
 c3:w.cell? ⟨b,o+3,none⟩=some ve
 c4:w.cell? ⟨b,o+4,none⟩=some (S s.bC)
 c5:w.cell? ⟨b,o+5,none⟩=some (S s.sl)
structure mD (w:World) (n:Nat) (s:dK) (ve:Value):Prop where
 c0:w.cell? ⟨n,0,none⟩=some (.int .i64 s.num)
 c1:w.cell? ⟨n,1,none⟩=some (.int .i64 s.aG)
 c2:w.cell? ⟨n,2,none⟩=some (S s.bR)
 c3:w.cell? ⟨n,3,none⟩=some ve
 c4:w.cell? ⟨n,4,none⟩=some (S s.bC)
 c5:w.cell? ⟨n,5,none⟩=some (S s.sl)
theorem mD.aQ{s:dK}(h:mD w b s ve)(hb:Below w.heap.size w w'):mD w' b s ve:=
 ⟨bK hb h.c0,bK hb h.c1,bK hb h.c2,bK hb h.c3,bK hb h.c4,bK hb h.c5⟩
theorem mD.past{s:dK}(h:mD w b s ve)(x:Obj):mD (w.alloc x) b s ve:=
 ⟨kP x h.c0,kP x h.c1,kP x h.c2,kP x h.c3,kP x h.c4,kP x h.c5⟩
theorem mD.far{s:dK}(h:mD w b s ve)(hb:Below B w w')(hn:b<B):mD w' b s ve:=
 ⟨(hb.cell hn).trans h.c0,(hb.cell hn).trans h.c1,(hb.cell hn).trans h.c2,(hb.cell hn).trans h.c3,(hb.cell hn).trans h.c4,(hb.cell hn).trans h.c5⟩
theorem Ri{s:dK}{t:TypeId}(hn:n=W.heap.size)(hb:Below (W.alloc (.cells #[.int .i64 s.num,.int .i64 s.aG,S s.bR,ve,S s.bC,S s.sl] t)).heap.size (W.alloc (.cells #[.int .i64 s.num,.int .i64 s.aG,S s.bR,ve,S s.bC,S s.sl] t)) w'):mD w' n s ve:=by
 subst hn;exact mD.aQ ⟨by simp,by simp,by simp,by simp,by simp,by simp⟩ hb
theorem YK{l:List dK}(h:aZ AJ I v l)(hw:Ok I w)(i:Nat)(hi:i<l.length):∃x ve b off cap,l[i]=x∧v= .slice (some ⟨b,off,none⟩) l.length cap∧
 Rh w b (off+i*6) x ve∧aZ bQ I ve x.aB:=by
 obtain⟨b,off,cap,cs,hv,⟨ve,fE,h1⟩,hc⟩:=h.at_ hw hi;subst fE;exact⟨_,ve,b,off,cap,rfl,hv,⟨hc 0 _ rfl,hc 1 _ rfl,hc 2 _ rfl,hc 3 _ rfl,hc 4 _ rfl,hc 5 _ rfl⟩,h1⟩
structure amJ (s:dK):Prop where
 Cn:s.aB.length≤30
 bC:s.bC.length≤1000
 bR:s.bR.length≤100
 sl:s.sl.length≤2100
 wf:∀e∈s.aB,e.Wf
 ag:∀e∈s.aB,e.ag.length≤300
 target:∀e∈s.aB,e.target.length≤300
 aA:∀e∈s.aB,e.aA.length≤30
 num: -9223372036854775808≤s.num∧s.num≤9223372036854775807
 aG: -9223372036854775808≤s.aG∧s.aG≤9223372036854775807
def qD(s:dK)(k:Nat):af:=rA s++(s.aB.take k).flatMap yR
theorem Xqx{s:dK}(hk:k<s.aB.length){x:aT}(hx:s.aB[k]=x):qD s (k+1)=qD s k++yR x:=by
 rw[qD,qD,List.take_succ_eq_append_getElem hk,hx,List.flatMap_append,←List.append_assoc];simp
theorem Xtq(s:dK)(h:s.aB.length≤k):qD s k=nE s:=by rw[qD,List.take_of_length_le h];rfl
theorem Rj(s:af):(fA s).length≤32:=by
 unfold fA;rw[List.length_map];exact Xf7 _ 8
theorem Xoh:∀{l:List aT},(∀e∈l,tK e∧e.aA.length≤1000)→(l.flatMap yR).length≤54000*l.length
 | [],_=>by simp
 |e::l,h=>by
  have h1:=Xok (h e (List.mem_cons_self ..)).1 (h e (List.mem_cons_self ..)).2;have h2:=Xoh fun x hx=>h x (List.mem_cons_of_mem _ hx);simp only[List.flatMap_cons,List.length_append,List.length_cons];omega
structure Ab (n:Nat) (s:mG):Prop where
 ok:L9 n s
 IX:ET s.aI
theorem Xqu:Ab 0 cB:=⟨Xvr,fun _ h=>(by cases h)⟩
theorem Ab.mono{s:mG}(h:Ab n s)(hm:n≤m):Ab m s:=⟨h.ok.mono hm,h.IX⟩
theorem YL{s:mG}(h:Ab n s)(e:aT)(d:Int)(hp:e.ag.length≤300)(ht:e.target.length≤300):Ab (n+1) (gq s e d).1:=by
 refine⟨Xtl h.ok e d,?_⟩;unfold gq;split
 ·exact h.IX
 ·rename_i h1;split
  ·exact h.IX
  ·split
   ·exact h.IX
   ·have ha:=X0 (t:=s.aI) (e:=e) (by omega);obtain⟨_,hx⟩:=qm.1 ha;intro z hz;rw[hx]at hz;rcases(Xwd h.ok.aI.BN e z).1 hz with⟨_,rfl⟩|⟨hz,_⟩
    ·omega
    ·exact h.IX z hz
theorem Xq0:∀(l:List aT) {n:Nat} {s:mG} (_:Ab n s) (d:Int),(∀e∈l,e.ag.length≤300∧e.target.length≤300)→Ab (n+l.length) (pK s d l)
 | [],_,_,h,_,_=>h
 |e::l,n,s,h,d,hl=>by
  have he:=hl e (List.mem_cons_self ..);have:=Xq0 l (YL h e d he.1 he.2) d fun x hx=>hl x (List.mem_cons_of_mem _ hx);exact this.mono (by simp;omega)
theorem Xtt(s:mG)(d:Int)(l:List aT)(e:aT):pK s d (l++[e])=(gq (pK s d l) e d).1:=by simp[pK]
theorem Xts{s:mG}{d:Int}{l:List aT}(hk:k<l.length)(he:l[k]=e):pK s d (l.take (k+1))=(gq (pK s d (l.take k)) e d).1:=by
 rw[List.take_succ_eq_append_getElem hk,he,Xtt]
theorem Xva{s:mG}{l:List dK}(hk:k<l.length)(hx:l[k]=x):bY s (l.take (k+1))=pK (bY s (l.take k)) x.aG x.aB:=by
 rw[List.take_succ_eq_append_getElem hk,hx,Xp8];rfl
def pairs(l:List dK):List (dK×aT):=l.flatMap fun s=>s.aB.map fun e=>(s,e)
def Ve(s:mG)(q:dK×aT):mG:=(gq s q.2 q.1.aG).1
theorem Xkv(x:dK):∀(l:List aT) (s:mG),pK s x.aG l=(l.map fun e=>(x,e)).foldl Ve s
 | [],_=>rfl
 |e::l,s=>by
  rw[List.map_cons,List.foldl_cons];exact Xkv x l _
theorem YM:∀(l:List dK) (s:mG),bY s l=(pairs l).foldl Ve s
 | [],_=>rfl
 |x::l,s=>by
  rw[pairs,List.flatMap_cons,List.foldl_append,←Xkv];exact YM l _
def YN(p:af):mG→List (dK×aT)→List Mc
 |_,[]=> []
 |s,q::r=>(if EO s p q.2 then [⟨q.1.num,q.1.aG,q.2⟩]else [])++YN p (Ve s q) r
theorem YO:∀(l:List (dK×aT)) {n:Nat} {s:mG} (_:Ab n s),(∀q∈l,q.2.ag.length≤300∧q.2.target.length≤300)→Ab (n+l.length) (l.foldl Ve s)
 | [],_,_,h,_=>h
 |q::l,n,s,h,hl=>by
  have he:=hl q (List.mem_cons_self ..);have:=YO l (YL h q.2 q.1.aG he.1 he.2) fun x hx=>hl x (List.mem_cons_of_mem _ hx);exact this.mono (by simp;omega)
def YP(s:dK):Bool:=decide (100<s.bR.length) || (decide (1000<s.bC.length) || (decide (2100<s.sl.length) || ((decide (12<s.aB.length)&&decide (s.aB.length≠401)) || s.aB.any EI)))
def Rk(s:dK):Bool:=decide (30<s.aB.length) || YP s
def wtS(s:dK):Nat:=s.bC.length+10*s.aB.length
def wtL(l:List dK):Nat:=(l.map wtS).sum
def amR(l:List dK):Bool:=decide (8<l.length) || (l.any Rk || decide (20000<wtL l))
structure dK.Wf (s:dK):Prop where
 num: -9223372036854775808≤s.num∧s.num≤9223372036854775807
 aG: -9223372036854775808≤s.aG∧s.aG≤9223372036854775807
 aB:∀e∈s.aB,e.Wf
structure jK where
 au:Int
 ag:af
 aj:List At
 target:af
 aF:af
variable{c:jK}
structure ig where
 num:Int
 aG:Int
 bR:af
 aB:List aT
 aU:fM
 aI:List aT
 holds:List Ho
def zh:ig:=⟨0,0,[],[],⟨[],0,[]⟩,[],[]⟩
def fI(q:fM)(c:jK):aT×fM:=
 if c.au=1 then(⟨c.au,c.ag,c.aj,c.target,(c.aF.length:Nat),fA c.aF,(jL q c.aF).2.1⟩,(jL q c.aF).1)
 else(⟨c.au,c.ag,c.aj,c.target,0,[],[]⟩,q)
def ig.stt(d:ig):mG:=⟨d.aI,d.holds⟩
def iy(d:ig)(c:jK):ig×Int:=
 if aP (fI d.aU c).1≠0 then(d,aP (fI d.aU c).1)
 else if c.au≠1∧c.aF≠[]then(d,1)
 else if 400≤d.aB.length∨14680064<(fI d.aU c).2.str.length then(d,6)
 else if(gq d.stt (fI d.aU c).1 d.aG).2≠0 then(d,(gq d.stt (fI d.aU c).1 d.aG).2)
 else(⟨d.num,d.aG,d.bR,d.aB++[(fI d.aU c).1],(fI d.aU c).2,(gq d.stt (fI d.aU c).1 d.aG).1.aI,(gq d.stt (fI d.aU c).1 d.aG).1.holds⟩,0)
def vw(d:ig):dK:=⟨d.num,d.aG,d.bR,d.aB,d.aU.str,[]⟩
def zi:ig→Nat→List jK→ig×Nat×Int
 |d,i,[]=>(d,i,0)
 |d,i,c::l=>if(iy d c).2≠0 then(d,i,(iy d c).2)else zi (iy d c).1 (i+1) l
def qE(st:List af)(q:fM)(e:aT):fM:=if e.au=1 then(jL q (wu st e.aA).1).1 else q
def IY(st:List af)(q:fM)(x:dK):fM:=x.aB.foldl (qE st) (jE q x.num).1
def IZ:fM:=⟨[],0,[]⟩
def dN(L:List dK):List af:=L.map fun x=>x.bC
def eQ(L:List dK):fM:=L.foldl (IY (dN L)) IZ
def iW(L:List dK):af:=match L.getLast? with|none=> []|some x=>fA (nE x)
def nI(L:List dK):Int:=match L.getLast? with|none=>0|some x=>x.aG
def jT(L:List dK)(aG:Int):ig:=⟨(L.length:Nat)+1,aG,iW L,[],⟨(eQ L).aJ,(L.length:Nat)+1,[]⟩,(bY cB L).aI,dP (bY cB L).holds aG⟩
def gY(L:List dK)(aG:Int):Int:=if 255≤L.length then 6 else if aG<0∨1000000000<aG then 2 else if aG<nI L then 14 else 0
def vz(L:List dK)(aG:Int):ig×Int:=if gY L aG≠0 then(zh,gY L aG)else(jT L aG,0)
def Fe(L:List dK)(s:dK):Int:=if 255≤L.length then 6 else if s.num≠(L.length:Nat)+1∨(L≠[]∧s.aG<nI L)then 14 else if s.bR≠iW L then 20 else 0
def amS(L:List dK)(s:dK):List dK×Int:=if Fe L s≠0 then(L,Fe L s)else(L++[s],0)
def YQ(L:List dK)(aG:Int)(l:List jK):List dK×Nat×Int:=
 if gY L aG≠0 then(L,0,gY L aG)
 else if(zi (jT L aG) 0 l).2.2≠0 then(L,(zi (jT L aG) 0 l).2.1,(zi (jT L aG) 0 l).2.2)
 else(L++[vw (zi (jT L aG) 0 l).1],l.length,0)
theorem Xxu{l:List Xt}{x y:Xt}(h:y∈jr l x){m:Int}(hl:∀z∈l,z.s≤m)(hx:x.s≤m):y.s≤m:=by
 unfold jr at h;split at h
 ·rw[List.mem_singleton.1 h];exact hx
 ·rename_i z hz;split at h
  ·rcases List.mem_append.1 h with h|h
   ·exact hl y (List.dropLast_subset _ h)
   ·rw[List.mem_singleton.1 h];exact hl z (List.mem_of_getLast? hz)
  ·rcases List.mem_append.1 h with h|h
   ·exact hl y h
   ·rw[List.mem_singleton.1 h];exact hx
structure Pd (m:Int) (c:Ck):Prop where
 x:XB 65536 c.x
 s:c.x.s≤m
 d:c.d.length≤32
theorem Xw5(s:af):(fA s).length≤32:=Rj s
structure wD (q:fM):Prop where
 s0:1≤q.aV
 s1:q.aV≤255
 str:q.str.length≤4294901760
 cx:∀c∈q.aJ,Pd q.aV c
structure Gt (q:fM) (b:Nat) (p:fM×List Xt):Prop where
 aV:p.1.aV=q.aV
 str:p.1.str.length≤q.str.length+b
 aJ:p.1.aJ.length≤q.aJ.length+b
 len:p.2.length≤b
 cx:∀c∈p.1.aJ,Pd q.aV c
 xs:∀x∈p.2,XB (65536*b) x
 x0:∀x∈p.2,x.s≤q.aV
theorem Gt.add(h:Gt q b p)(hn:1≤n){x:Xt}(hx:XB 65536 x)(hs:x.s≤q.aV):Gt q (b+n) (p.1,jr p.2 x):=
 ⟨h.aV,Nat.le_trans h.str (by omega),Nat.le_trans h.aJ (by omega),by have:=(Xox p.2 x).1;have:=h.len;show(jr p.2 x).length≤_;omega,h.cx,
   fun z hz=>(Xs7 (by decide) h.xs hx (by omega) z hz).mono (by omega),fun z hz=>Xxu hz h.x0 hs⟩
theorem Xtm(hq:wD q)(h:Gt q b p){c:af}(hc:c≠[])(hb:b+c.length≤65536):Gt q (b+c.length) (oK p c):=by
 have hl:=List.length_pos_iff.2 hc;have hs:=h.aV;obtain⟨s,l⟩:=p;cases hf:fB s.aJ (fA c)with
 |some x=>
  obtain⟨k,hk,rfl⟩:=U1 hf;rw[Yf hf];exact h.add hl (h.cx k hk).x (h.cx k hk).s
 |none=>
  have h1:=h.str;have h2:=hq.str;have h3:=hq.s0;have h4:=hq.s1;dsimp only at h1 hs;have hx:XB 65536 (lL s c)∧(lL s c).s≤q.aV:=by
   unfold XB lL;simp only;omega
  have ha:=h.add hl hx.1 hx.2;rw[Yg hf];refine⟨hs,?_,?_,ha.len,fun k hk=> ?_,ha.xs,ha.x0⟩
  ·have:=h.str;simp at*;omega
  ·have:=h.aJ;simp at*;omega
  ·rcases List.mem_append.1 hk with hk|hk
   ·exact h.cx k hk
   ·rw[List.mem_singleton.1 hk];exact⟨hx.1,hx.2,Xw5 c⟩
theorem Xiq(hq:wD q):∀{l:List af} {b:Nat} {p:fM×List Xt},Gt q b p→(∀c∈l,c≠[])→b+l.flatten.length≤65536→Gt q (b+l.flatten.length) (l.foldl oK p)
 | [],b,p,h,_,_=>by simpa using h
 |c::l,b,p,h,hl,hb=>by
  rw[List.flatten_cons,List.length_append]at hb ⊢;have:=Xiq hq (Xtm hq h (hl c (List.mem_cons_self ..)) (by omega)) (fun x hx=>hl x (List.mem_cons_of_mem _ hx)) (by omega);rw[List.foldl_cons,←Nat.add_assoc];exact this
theorem YR(hq:wD q):∀{l:List Sg} {b:Nat} {p:fM×List Xt},Gt q b p→(∀g∈l,(g.n=0∧g.d≠[])∨(0<g.n∧g.d=[]))→b+gJ l≤65536→Gt q (b+gJ l) (l.foldl mq p)
 | [],b,p,h,_,_=>by simpa[gJ]using h
 |g::l,b,p,h,hl,hb=>by
  rw[Qa]at hb ⊢;have hr:=fun x hx=>hl x (List.mem_cons_of_mem _ hx);rw[List.foldl_cons,←Nat.add_assoc];rcases hl g (List.mem_cons_self ..)with⟨h0,h1⟩|⟨h0,h1⟩
  ·rw[mq,if_neg h1];have e:=WR g.d;have h2:=Xiq hq (l:=bT g.d) h Xsx (by rw[e];omega);rw[e]at h2;have h3:=YR hq (l:=l) (b:=b+(g.n.toNat+g.d.length)) (by rw[h0];simpa using h2) hr (by omega);exact h3
  ·rw[mq,if_pos h1];have PI:=hq.s0;have h2:=h.add (n:=g.n.toNat+g.d.length) (by omega) (x:=⟨0,0,g.n⟩) (by unfold XB;simp only;omega) (by show(0:Int)≤_;omega);exact YR hq h2 hr (by omega)
theorem Vf(hq:wD q){c:af}(hc:c.length≤65536):Gt q c.length ((jL q c).1,(jL q c).2.1)∧(jL q c).2.2=0:=by
 have h1:=hq.s0;have h2:=hq.s1;have h:=YR hq (l:=iK c) (b:=0) (p:=(q,[])) ⟨rfl,Qn _,Qn _,Qn _,hq.cx,fun _ h=>(by cases h),fun _ h=>(by cases h)⟩ Uu (by rw[Qc];omega);rw[Qc,Nat.zero_add]at h;rw[jL,if_neg (by omega),if_neg (by omega)];exact⟨h,rfl⟩
theorem Xof{st:List af}:∀{l:List Xt} {out:af},out.length≤65536→(mP st l out).1.length≤65536
 | [],out,h=>h
 |x::l,out,h=>by
  rw[mP];split
  ·simp
  ·rename_i h1;split
   ·simp
   ·split
    ·simp
    ·rename_i h2 h3;refine Xof ?_;rw[List.length_append];split
     ·rw[List.length_replicate];omega
     ·rw[List.length_take];omega
theorem Xod(st:List af)(l:List Xt):(wu st l).1.length≤65536:=Xof (by simp)
structure jK.Wf (c:jK):Prop where
 k0: -9223372036854775808≤c.au
 k1:c.au≤9223372036854775807
 ag:c.ag.length≤4294967280
 aj:∀x∈c.aj,x.Wf
 target:c.target.length≤4294967280
 aF:c.aF.length≤65536
theorem Xkj(h:aP e=0):e.Wf:=by
 have k:=Va h;have:=k.ag;have:=k.target;have:=k.av;have:=k.k1;have:=k.k6;have:=k.s0;have:=k.s1;refine⟨by omega,by omega,by omega,fun x hx=> ?_,by omega,by omega,by omega,by omega,fun x hx=> ?_⟩
 ·have:=k.UC x hx;exact⟨by omega,by omega⟩
 ·have:=k.YD x hx;exact⟨⟨by omega,by omega⟩,⟨by omega,by omega⟩,⟨by omega,by omega⟩⟩
structure lv (n:Nat) (d:ig):Prop where
 st:Ab n d.stt
 aB:d.aB.length≤n
 s0:1≤d.aU.aV
 s1:d.aU.aV≤255
 str:d.aU.str.length≤65536*n
 aJ:d.aU.aJ.length≤65536*n
 cx:∀c∈d.aU.aJ,Pd d.aU.aV c
 aG:0≤d.aG∧d.aG≤1000000000
theorem lv.mono{d:ig}(h:lv n d)(hm:n≤m):lv m d:=
 ⟨h.st.mono hm,Nat.le_trans h.aB hm,h.s0,h.s1,Nat.le_trans h.str (by omega),Nat.le_trans h.aJ (by omega),h.cx,h.aG⟩
theorem lv.aU{d:ig}(h:lv n d)(hn:n≤60000):wD d.aU:=⟨h.s0,h.s1,by have:=h.str;omega,h.cx⟩
structure YS (q:fM) (b:Nat) (r:aT×fM):Prop where
 aV:r.2.aV=q.aV
 str:r.2.str.length≤q.str.length+b
 aJ:r.2.aJ.length≤q.aJ.length+b
 cx:∀c∈r.2.aJ,Pd q.aV c
 len:r.1.aA.length≤b
 xs:∀x∈r.1.aA,XB (65536*b) x
 x0:∀x∈r.1.aA,x.s≤q.aV
theorem YT(hq:wD q)(hc:c.aF.length≤65536):YS q c.aF.length (fI q c):=by
 unfold fI;split
 ·have h:=(Vf hq hc).1;exact⟨h.aV,h.str,h.aJ,h.cx,h.len,h.xs,h.x0⟩
 ·exact⟨rfl,Nat.le_add_right _ _,Nat.le_add_right _ _,hq.cx,Nat.zero_le _,fun _ h=>(by cases h),fun _ h=>(by cases h)⟩
theorem Xw6(s:af):(fA s).length≤32:=Rj s
theorem Vg(hq:wD q)(hc:c.Wf):(fI q c).1.Wf:=by
 have hl:=hc.aF;have hb:=YT hq hl;have hx:∀x∈(fI q c).1.aA,x.Wf:=fun x hx=>by
  have:=hb.xs x hx;unfold XB at this;exact⟨⟨by omega,by omega⟩,⟨by omega,by omega⟩,⟨by omega,by omega⟩⟩
 have hp:=hc.ag;have ht:=hc.target;have hs:=Xw6 c.aF;unfold fI at hx ⊢;split
 ·rename_i hk;rw[if_pos hk]at hx;exact⟨hc.k0,hc.k1,by show c.ag.length≤_;omega,hc.aj,by show c.target.length≤_;omega,by show _≤((c.aF.length:Nat):Int);omega,by show((c.aF.length:Nat):Int)≤_;omega,by show(fA c.aF).length≤_;omega,hx⟩
 ·exact⟨hc.k0,hc.k1,by show c.ag.length≤_;omega,hc.aj,by show c.target.length≤_;omega,by show(-9223372036854775808:Int)≤0;decide,by show(0:Int)≤9223372036854775807;decide,by show(0:Nat)≤9223372036854775807;decide,fun _ h=>(by cases h)⟩
theorem Xis(q:fM)(c:jK):(fI q c).1.au=c.au∧(fI q c).1.ag=c.ag∧(fI q c).1.aj=c.aj∧(fI q c).1.target=c.target:=by
 unfold fI;split<;>exact⟨rfl,rfl,rfl,rfl⟩
theorem Rl(h:aP e=0):e.ag.length≤300∧e.target.length≤300:=by
 have k:=Va h;have:=k.ag;have:=k.target;omega
theorem Xmc(d:ig)(c:jK):((iy d c).2≠0∧(iy d c).1=d)∨((iy d c).2=0∧aP (fI d.aU c).1=0∧(c.au=1∨c.aF=[])∧d.aB.length<400∧(fI d.aU c).2.str.length≤14680064∧(gq d.stt (fI d.aU c).1 d.aG).2=0∧
 (iy d c).1=⟨d.num,d.aG,d.bR,d.aB++[(fI d.aU c).1],(fI d.aU c).2,(gq d.stt (fI d.aU c).1 d.aG).1.aI,(gq d.stt (fI d.aU c).1 d.aG).1.holds⟩):=by
 unfold iy;by_cases h1:aP (fI d.aU c).1≠0
 ·rw[if_pos h1];exact .inl ⟨h1,rfl⟩
 rw[if_neg h1];by_cases h2:c.au≠1∧c.aF≠[]
 ·rw[if_pos h2];exact .inl ⟨(by decide:(1:Int)≠0),rfl⟩
 rw[if_neg h2];by_cases h3:400≤d.aB.length∨14680064<(fI d.aU c).2.str.length
 ·rw[if_pos h3];exact .inl ⟨(by decide:(6:Int)≠0),rfl⟩
 rw[if_neg h3];by_cases h4:(gq d.stt (fI d.aU c).1 d.aG).2≠0
 ·rw[if_pos h4];exact .inl ⟨h4,rfl⟩
 rw[if_neg h4];refine .inr ⟨rfl,by omega,?_,by omega,by omega,by omega,rfl⟩;by_cases hk:c.au=1
 ·exact .inl hk
 ·exact .inr (Classical.byContradiction fun q=>h2 ⟨hk,q⟩)
theorem Xvl{d:ig}(h:lv n d)(hn:n≤60000)(hc:c.aF.length≤65536):lv (n+1) (iy d c).1:=by
 rcases Xmc d c with⟨_,e⟩|⟨_,h1,_,_,_,h5,e⟩
 ·rw[e];exact h.mono (by omega)
 ·have hb:=YT (h.aU hn) hc;have hs:=Rl h1;have jk:=YL h.st (fI d.aU c).1 d.aG hs.1 hs.2;rw[e];have:=h.aB;have:=hb.str;have:=hb.aJ;have:=h.str;have:=h.aJ;refine⟨jk,by simp;omega,by rw[hb.aV];exact h.s0,by rw[hb.aV];exact h.s1,by show(fI d.aU c).2.str.length≤_;omega,by show(fI d.aU c).2.aJ.length≤_;omega,fun k hk=> ?_,h.aG⟩;show Pd (fI d.aU c).2.aV k;rw[hb.aV];exact hb.cx k hk
theorem Xow{d:Int}:∀{l:List aT} {s:mG},uQ d s l→ ∀(j:Nat) (h:j<l.length),(gq (pK s d (l.take j)) l[j] d).2=0
 |x::l,s,⟨h1,h2⟩,0,_=>h1
 |x::l,s,⟨h1,h2⟩,j+1,h=>Xow h2 j (by simpa using h)
theorem Xma:∀{L:List dK} {s:mG},Aw s L→ ∀(k:Nat) (h:k<L.length),uQ L[k].aG (bY s (L.take k)) L[k].aB
 |x::L,s,⟨h1,h2⟩,0,_=>h1
 |x::L,s,⟨h1,h2⟩,k+1,h=>Xma h2 k (by simpa using h)
theorem Xmb{d:Int}:∀{l:List aT} {s:mG},uQ d s l→ ∀e∈l,aP e=0
 | [],_,_,e,he=>by cases he
 |x::l,s,⟨h1,h2⟩,e,he=>by
  rcases List.mem_cons.1 he with rfl|he
  ·exact(Xqn h1).2.2
  ·exact Xmb h2 e he
structure Ro (i:Nat) (x:dK):Prop where
 num:x.num=(i:Nat)+1
 aG:0≤x.aG∧x.aG≤1000000000
 bR:x.bR.length≤32
 sl:x.sl=[]
 bC:x.bC.length≤14680064
 aA:∀e∈x.aB,e.aA.length≤1000
 xs:∀e∈x.aB,∀y∈e.aA,0≤y.s∧y.s≤(i:Nat)+1
structure iD (n m:Nat) (L:List dK):Prop where
 len:L.length≤m
 tot:(pairs L).length≤n
 all:Aw cB L
 aV:∀i x,L[i]?=some x→Ro i x
theorem Rp:iD 0 0 []:=⟨Qn _,Qn _,trivial,fun i x h=>by simp at h⟩
theorem iD.at_(h:iD n m L)(hk:k<L.length)(hx:L[k]=x):Ro k x:=h.aV k x (by rw[List.getElem?_eq_getElem hk,hx])
theorem iD.Rq(h:iD n m L)(hk:k<L.length)(hx:L[k]=x):uQ x.aG (bY cB (L.take k)) x.aB:=by
 have:=Xma h.all k hk;rw[hx]at this;exact this
theorem iD.err(h:iD n m L)(hx:x∈L):∀e∈x.aB,aP e=0:=by
 obtain⟨k,hk,e⟩:=List.getElem_of_mem hx;exact Xmb (h.Rq hk e)
theorem Xf6(a b:List dK):pairs (a++b)=pairs a++pairs b:=by simp[pairs]
theorem Xix(x:dK):(pairs [x]).length=x.aB.length:=by simp[pairs]
theorem Rs(hk:k<L.length)(hx:L[k]=x):(pairs (L.take k)).length+x.aB.length≤(pairs L).length:=by
 have e:L=L.take k++([x]++L.drop (k+1)):=by
  rw[←hx];simp
 have:=congrArg (fun l=>(pairs l).length) e;simp only[Xf6,List.length_append,Xix]at this;omega
theorem iD.aB(h:iD n m L)(hx:x∈L):x.aB.length≤n:=by
 obtain⟨k,hk,e⟩:=List.getElem_of_mem hx;have:=Rs hk e;have:=h.tot;omega
theorem Xps(hk:k<L.length)(hx:L[k]=x):(pairs (L.take (k+1))).length=(pairs (L.take k)).length+x.aB.length:=by
 rw[List.take_succ_eq_append_getElem hk,hx,Xf6,List.length_append,Xix]
theorem iD.sin(h:iD n m L)(hk:k<L.length)(hx:L[k]=x)(j:Nat)(hj:j≤x.aB.length):Ab n (pK (bY cB (L.take k)) x.aG (x.aB.take j)):=by
 have hp:=Rs hk hx;have ht:=h.tot;have h1:Ab (0+(pairs (L.take k)).length) (bY cB (L.take k)):=by
  rw[YM];refine YO _ Xqu fun q hq=> ?_;obtain⟨s,hs,hq'⟩:=List.mem_flatMap.1 hq;obtain⟨e,he,rfl⟩:=List.mem_map.1 hq';exact Rl (h.err (List.mem_of_mem_take hs) e he)
 have h2:=Xq0 (x.aB.take j) h1 x.aG fun e he=>Rl (h.err (by rw[←hx];exact List.getElem_mem hk) e (List.mem_of_mem_take he));refine h2.mono ?_;rw[List.length_take];omega
theorem iD.Ff(h:iD n m L):Ab n (bY cB L):=by
 have h1:Ab (0+(pairs L).length) (bY cB L):=by
  rw[YM];refine YO _ Xqu fun q hq=> ?_;obtain⟨s,hs,hq'⟩:=List.mem_flatMap.1 hq;obtain⟨e,he,rfl⟩:=List.mem_map.1 hq';exact Rl (h.err hs e he)
 exact h1.mono (by have:=h.tot;omega)
structure wV (i b:Nat) (q:fM):Prop where
 aV:q.aV=(i:Nat)
 str:q.str.length≤65536*b
 aJ:q.aJ.length≤65536*b
 cx:∀c∈q.aJ,Pd q.aV c
theorem Xvv:wV 0 0 IZ:=⟨rfl,Qn _,Qn _,fun _ h=>(by cases h)⟩
theorem wV.mono{c:Nat}(h:wV i b q)(hc:b≤c):wV i c q:=⟨h.aV,Nat.le_trans h.str (by omega),Nat.le_trans h.aJ (by omega),h.cx⟩
theorem wV.begin(h:wV i b q)(hi:i<255):jE q ((i:Nat)+1)=(⟨q.aJ,(i:Nat)+1,[]⟩,0)∧wV (i+1) b ⟨q.aJ,(i:Nat)+1,[]⟩:=by
 have hs:=h.aV;refine⟨by rw[jE,if_neg (by omega),if_neg (by omega)],by show((i:Nat):Int)+1=((i+1:Nat):Int);omega,Nat.zero_le _,h.aJ,fun c hc=>⟨(h.cx c hc).x,?_,(h.cx c hc).d⟩⟩;have:=(h.cx c hc).s;show c.x.s≤(i:Int)+1;omega
theorem wV.Rt(h:wV i b q)(h0:1≤i)(h1:i≤255)(hb:b≤60000):wD q:=⟨by rw[h.aV];omega,by rw[h.aV];omega,by have:=h.str;omega,h.cx⟩
theorem wV.step(h:wV i b q)(h0:1≤i)(h1:i≤255)(hb:b≤60000)(st:List af)(e:aT):wV i (b+1) (qE st q e):=by
 unfold qE;split
 ·have hl:=Xod st e.aA;have hp:=(Vf (h.Rt h0 h1 hb) hl).1;have h1:=hp.str;have h2:=hp.aJ;have h3:=h.str;have h4:=h.aJ;dsimp only at h1 h2;exact⟨by rw[hp.aV];exact h.aV,by omega,by omega,fun c hc=>by rw[hp.aV];exact hp.cx c hc⟩
 ·exact h.mono (by omega)
theorem wV.fold(h0:1≤i)(h1:i≤255)(st:List af):∀(l:List aT) {b:Nat} {q:fM},wV i b q→b+l.length≤60000→wV i (b+l.length) (l.foldl (qE st) q)
 | [],b,q,h,_=>h
 |e::l,b,q,h,hb=>by
  rw[List.length_cons]at hb ⊢;have:=wV.fold h0 h1 st l (h.step h0 h1 (by omega) st e) (by omega);rw[show b+(l.length+1)=b+1+l.length by omega];exact this
def qF(st:List af)(L:List dK)(k:Nat):fM:=(L.take k).foldl (IY st) IZ
theorem Xkw(st:List af)(hk:k<L.length)(hx:L[k]=x):qF st L (k+1)=IY st (qF st L k) x:=by
 unfold qF;rw[List.take_succ_eq_append_getElem hk,hx,List.foldl_append];rfl
theorem YU(L:List dK):qF (dN L) L L.length=eQ L:=by unfold qF eQ;rw[List.take_length]
theorem iD.Vh(h:iD n m L)(hn:n≤60000)(hm:m≤254)(st:List af):∀k,k≤L.length→wV k (pairs (L.take k)).length (qF st L k)
 |0,_=>Xvv
 |k+1,hk=>by
  have ih:=h.Vh hn hm st k (by omega);have hl:=h.len;obtain⟨x,hx⟩:∃x,L[k]=x:=⟨_,rfl⟩;have hp:=Rs (show k<L.length by omega) hx;have ht:=h.tot;rw[Xkw st (by omega) hx,IY,(h.at_ (by omega) hx).num,(ih.begin (by omega)).1];have:=wV.fold (i:=k+1) (by omega) (by omega) st x.aB (ih.begin (by omega)).2 (by omega);rw[Xps (by omega) hx];exact this
theorem iD.Fg(h:iD n m L)(hn:n≤60000)(hm:m≤254):wV L.length n (eQ L):=by
 have:=h.Vh hn hm (dN L) L.length (Qn _);rw[YU,List.take_length]at this;exact this.mono h.tot
theorem Xlo(st:List af)(k:Nat):∀{l:List Xt} (out:af),(∀x∈l,0≤x.s∧x.s≤(k:Nat))→k≤st.length→mP (st.take k) l out=mP st l out
 | [],_,_,_=>rfl
 |x::l,out,h,hk=>by
  have hx:=h x (List.mem_cons_self ..);have ih:=fun o=>Xlo st k (l:=l) o (fun y hy=>h y (List.mem_cons_of_mem _ hy)) hk;have h1:xK (st.take k) x=xK st x:=by
   unfold xK;rw[List.length_take,Qf (show ¬(((min k st.length:Nat):Int)<x.s) by omega),Qf (show ¬((st.length:Int)<x.s) by omega)]
  rw[mP,mP,h1];by_cases h0:x.s=0
  ·simp only[ih,h0];rfl
  ·have h2:kR (st.take k) x=kR st x:=by
    unfold kR;rw[List.getD_eq_getElem?_getD,List.getD_eq_getElem?_getD,List.getElem?_take_of_lt (by omega)]
   simp only[ih,h2]
theorem Xr4(st:List af)(k:Nat){l:List Xt}(h:∀x∈l,0≤x.s∧x.s≤(k:Nat))(hk:k≤st.length):wu (st.take k) l=wu st l:=Xlo st k [] h hk
theorem Xxq(h:gY L aG=0):L.length<255∧0≤aG∧aG≤1000000000∧nI L≤aG:=by
 unfold gY at h;split at h
 ·omega
 ·split at h
  ·omega
  ·split at h
   ·omega
   ·omega
structure am1 (L:List dK) (d:ig):Prop where
 num:d.num=(L.length:Nat)+1
 bR:d.bR=iW L
 last:nI L≤d.aG
 aV:d.aU.aV=(L.length:Nat)+1
 str:d.aU.str.length≤14680064
 all:uQ d.aG (bY cB L) d.aB
 aI:d.aI=(pK (bY cB L) d.aG d.aB).aI
 holds:dP d.holds d.aG=dP (pK (bY cB L) d.aG d.aB).holds d.aG
 aA:∀e∈d.aB,e.aA.length≤1000
 xs:∀e∈d.aB,∀y∈e.aA,0≤y.s∧y.s≤(L.length:Nat)+1
theorem YV(h:iD n m L)(hn:n≤60000)(hm:m≤254)(hb:gY L aG=0):lv n (jT L aG):=by
 have hr:=h.Fg hn hm;have hs:=h.Ff;have Vi:=Xxq hb;have am2:=hr.aV;refine⟨⟨⟨hs.ok.aI,hs.ok.holds.act aG,hs.ok.C8,Nat.le_trans (List.length_filter_le _ _) hs.ok.hlen⟩,hs.IX⟩,Nat.zero_le _,?_,?_,Nat.zero_le _,hr.aJ,fun c hc=>⟨(hr.cx c hc).x,?_,(hr.cx c hc).d⟩,Vi.2.1,Vi.2.2.1⟩
 ·show(1:Int)≤(L.length:Nat)+1;omega
 ·show((L.length:Nat):Int)+1≤255;omega
 ·have:=(hr.cx c hc).s;show c.x.s≤((L.length:Nat):Int)+1;omega
structure Acc where
 owner:af
 b:Int
 f:Int
 ub:Int
 uf:Int
deriving DecidableEq
variable{l:List Acc}
structure jG where
 owner:af
 c:jK
variable{r:jG}
def fD(a:Acc):Int:=if comp a.owner=false then 7 else if a.b<0∨a.f<0∨a.ub<0∨a.uf<0 then 2 else if a.b<a.ub∨a.f<a.uf then 16 else 0
def jv:Option Acc→List Acc→Int
 |_,[]=>0
 |q,a::l=>if fD a≠0 then fD a else if(q.any fun p=> !(Op.bytesLess p.owner a.owner))then 14 else jv (some a) l
def gZ(l:List Acc):Int:=jv none l
def dF(c:jK):Int:=if c.au=1 then(c.aF.length:Nat)else 0
def dZ(c:jK):Int:=if c.au=1∨c.au=2∨c.au=3 then 1 else 0
def YW(l:List Acc)(o:af):Nat:=l.findIdx fun a=>a.owner==o
def uo(a:Acc)(c:jK):Acc:=⟨a.owner,a.b,a.f,a.ub+dF c,a.uf+dZ c⟩
def mW(a:Acc)(c:jK):Prop:=a.b-a.ub<dF c∨a.f-a.uf<dZ c
instance (a:Acc) (c:jK):Decidable (mW a c):=by unfold mW;exact inferInstance
def jU:List Acc→List Acc→jG→List Acc×Int
 |_,[],_=>([],9)
 |pre,a::l,r=>if a.owner=r.owner then(if mW a r.c then([],16)else(pre++uo a r.c::l,0))else jU (pre++[a]) l r
def bV(l:List Acc)(r:jG):List Acc×Int:=jU [] l r
structure xP where
 d:ig
 l:List Acc
 es:List Int
def pO(s:xP)(r:jG):xP:=
 if(bV s.l r).2≠0 then⟨s.d,s.l,s.es++[(bV s.l r).2]⟩
 else if(iy s.d r.c).2≠0 then⟨s.d,s.l,s.es++[(iy s.d r.c).2]⟩
 else⟨(iy s.d r.c).1,(bV s.l r).1,s.es++[0]⟩
def vB(d:ig)(l:List Acc)(rs:List jG):xP:=rs.foldl pO ⟨d,l,[]⟩
def jV(r:jG):Nat:=10+r.owner.length+r.c.ag.length+r.c.target.length+r.c.aF.length+(r.c.aj.map fun a=>10+a.k.length+a.v.length).sum
def bN(l:List jG):Nat:=(l.map jV).sum
structure Acc.Ok (a:Acc):Prop where
 own:comp a.owner=true
 Vj:0≤a.ub
 Vk:a.ub≤a.b
 Vl:0≤a.uf
 Vm:a.uf≤a.f
theorem Xtb{a:Acc}(h:fD a=0):a.Ok:=by
 unfold fD at h;split at h
 ·omega
 ·rename_i h1;split at h
  ·omega
  ·split at h
   ·omega
   ·exact⟨by simpa using h1,by omega,by omega,by omega,by omega⟩
def zk(l:List Acc):Prop:=l.Pairwise fun a b=>Op.bytesLess a.owner b.owner=true
theorem YX:∀{l:List Acc} {q:Option Acc},jv q l=0→(∀a∈l,a.Ok)∧zk l∧ ∀p,q=some p→ ∀a∈l,Op.bytesLess p.owner a.owner=true
 | [],_,_=>⟨fun _ h=>(by cases h),List.Pairwise.nil,fun _ _ _ h=>(by cases h)⟩
 |a::l,q,h=>by
  rw[jv]at h;by_cases h1:fD a≠0
  ·rw[if_pos h1]at h;exact absurd h h1
  rw[if_neg h1]at h;have ha:a.Ok:=Xtb (by omega);by_cases h2:(q.any fun p=> !(Op.bytesLess p.owner a.owner))=true
  ·rw[if_pos h2]at h;exact absurd h (by decide)
  rw[if_neg h2]at h;obtain⟨i1,i2,i3⟩:=YX h;refine⟨fun x hx=> ?_,List.pairwise_cons.2 ⟨fun x hx=>i3 a rfl x hx,i2⟩,fun p hp x hx=> ?_⟩
  ·rcases List.mem_cons.1 hx with rfl|hx
   ·exact ha
   ·exact i1 x hx
  ·subst hp;have QY:Op.bytesLess p.owner a.owner=true:=by simpa using h2
   rcases List.mem_cons.1 hx with rfl|hx
   ·exact QY
   ·exact PY QY (i3 a rfl x hx)
theorem Xs9(h:gZ l=0):(∀a∈l,a.Ok)∧zk l:=⟨(YX h).1,(YX h).2.1⟩
theorem Xgd(r:jG):∀(l pre:List Acc),(jU pre l r=([],9)∧ ∀a∈l,a.owner≠r.owner)∨
 ∃A a B,l=A++a::B∧(∀x∈A,x.owner≠r.owner)∧a.owner=r.owner∧jU pre l r=if mW a r.c then([],16)else(pre++A++uo a r.c::B,0)
 | [],pre=> .inl ⟨rfl,fun _ h=>(by cases h)⟩
 |a::l,pre=>by
  by_cases ho:a.owner=r.owner
  ·refine .inr ⟨[],a,l,rfl,fun _ h=>(by cases h),ho,?_⟩;rw[jU,if_pos ho,List.append_nil]
  ·rw[jU,if_neg ho];rcases Xgd r l (pre++[a])with⟨h1,h2⟩|⟨A,b,B,rfl,h2,h3,h4⟩
   ·refine .inl ⟨h1,fun x hx=> ?_⟩;rcases List.mem_cons.1 hx with rfl|hx
    ·exact ho
    ·exact h2 x hx
   ·refine .inr ⟨a::A,b,B,rfl,fun x hx=> ?_,h3,?_⟩
    ·rcases List.mem_cons.1 hx with rfl|hx
     ·exact ho
     ·exact h2 x hx
    ·rw[h4];simp
theorem Xge(l:List Acc)(r:jG):(bV l r=([],9)∧ ∀a∈l,a.owner≠r.owner)∨
 ∃A a B,l=A++a::B∧(∀x∈A,x.owner≠r.owner)∧a.owner=r.owner∧bV l r=if mW a r.c then([],16)else(A++uo a r.c::B,0):=Xgd r l []
theorem YY(c:jK):0≤dF c∧0≤dZ c∧dZ c≤1:=by
 unfold dF dZ;refine⟨?_,?_,?_⟩<;>split<;>omega
theorem Xxa{a:Acc}(h:a.Ok)(hn:¬mW a c):(uo a c).Ok:=by
 have:=h.Vj;have:=h.Vk;have:=h.Vl;have:=h.Vm;have hc:=YY c;unfold mW at hn;refine⟨h.own,?_,?_,?_,?_⟩<;>(unfold uo;dsimp only;omega)
theorem Xsy{m:List Acc}(h:∀a∈l,a.Ok)(hs:zk l)(hc:bV l r=(m,0)):(∀a∈m,a.Ok)∧zk m∧m.length=l.length:=by
 rcases Xge l r with⟨e,_⟩|⟨A,a,B,rfl,_,_,e⟩
 ·rw[e]at hc;cases hc
 ·rw[e]at hc;split at hc
  ·cases hc
  ·rename_i hn;cases hc;refine⟨fun x hx=> ?_,?_,by simp⟩
   ·rcases List.mem_append.1 hx with hx|hx
    ·exact h x (List.mem_append_left _ hx)
    ·rcases List.mem_cons.1 hx with rfl|hx
     ·exact Xxa (h a (by simp)) hn
     ·exact h x (by simp[hx])
   ·unfold zk at hs ⊢;rw[List.pairwise_append,List.pairwise_cons]at hs ⊢;refine⟨hs.1,⟨hs.2.1.1,hs.2.1.2⟩,fun x hx y hy=> ?_⟩;rcases List.mem_cons.1 hy with rfl|hy
    ·exact hs.2.2 x hx a (List.mem_cons_self ..)
    ·exact hs.2.2 x hx y (List.mem_cons_of_mem _ hy)
def AL(r:jG)(a:Acc):Acc:=if a.owner=r.owner then uo a r.c else a
theorem Xw7(hs:zk l):l.Pairwise fun a b=>a.owner≠b.owner:=hs.imp fun{a b} h e=>by
 rw[e,zU]at h;cases h
theorem Xn7(h:∀x∈l,x.owner≠r.owner):l.map (AL r)=l:=by
 have:∀x∈l,AL r x=id x:=fun x hx=>by unfold AL;rw[if_neg (h x hx)];rfl
 rw[List.map_congr_left this,List.map_id]
theorem Xnk{m:List Acc}(hs:zk l)(hc:bV l r=(m,0)):m=l.map (AL r)∧ ∃a∈l,a.owner=r.owner∧ ¬mW a r.c:=by
 rcases Xge l r with⟨e,_⟩|⟨A,a,B,rfl,hA,ho,e⟩
 ·rw[e]at hc;cases hc
 ·rw[e]at hc;split at hc
  ·cases hc
  ·rename_i hn;cases hc;refine⟨?_,a,by simp,ho,hn⟩;have bn:=Xw7 hs;rw[List.pairwise_append,List.pairwise_cons]at bn;have hB:∀x∈B,x.owner≠r.owner:=fun x hx e=>bn.2.1.1 x hx (by rw[ho,e]);rw[List.map_append,List.map_cons,Xn7 hA,Xn7 hB];congr 1;unfold AL;rw[if_pos ho]
def afg(a:Acc)(l:List (jG×Int)):Acc:=l.foldl (fun a p=>if p.1.owner=a.owner∧p.2=0 then uo a p.1.c else a) a
theorem YZ(s:xP)(r:jG):(∃e,e≠0∧pO s r=⟨s.d,s.l,s.es++[e]⟩∧((bV s.l r).2=e∨((bV s.l r).2=0∧(iy s.d r.c).2=e)))∨
 ((bV s.l r).2=0∧(iy s.d r.c).2=0∧pO s r=⟨(iy s.d r.c).1,(bV s.l r).1,s.es++[0]⟩):=by
 unfold pO;by_cases h1:(bV s.l r).2≠0
 ·rw[if_pos h1];exact .inl ⟨_,h1,rfl,.inl rfl⟩
 rw[if_neg h1];by_cases h2:(iy s.d r.c).2≠0
 ·rw[if_pos h2];exact .inl ⟨_,h2,rfl,.inr ⟨by omega,rfl⟩⟩
 rw[if_neg h2];exact .inr ⟨by omega,by omega,rfl⟩
structure oN (l:List Acc):Prop where
 ok:∀a∈l,a.Ok
 BN:zk l
theorem oN.of(h:gZ l=0):oN l:=⟨(Xs9 h).1,(Xs9 h).2⟩
theorem oN.AO{m:List Acc}(h:oN l)(hc:bV l r=(m,0)):oN m∧m.length=l.length:=by
 obtain⟨h1,h2,h3⟩:=Xsy h.ok h.BN hc;exact⟨⟨h1,h2⟩,h3⟩
