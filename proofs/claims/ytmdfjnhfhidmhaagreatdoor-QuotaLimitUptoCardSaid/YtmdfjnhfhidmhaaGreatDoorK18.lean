/-
  Walks and laws that the claim's theorem uses: texts DgB EeP Inv Inw RfA RfC EeA EeB SeA HiS SnP SnQ SnR QuP QuQ, joined; comments out. Conditions: as each theorem says.
-/
import Derived.Test.YtmdfjnhfhidmhaaGreatDoorK13
import Derived.Test.YtmdfjnhfhidmhaaGreatDoorK17
import Derived.Test.YtmdfjnhfhidmhaaGreatDoorK10
set_option linter.all false
namespace Go.Proofs.YtmdfjnhfhidmhaaGreatDoor
open Go.RowKit
def attK (l:List At) (k:Nat):Bytes:=numP l.length++(l.take k).flatMap fun a=>netP a.k++netP a.v
theorem Xpq {l:List At} {k:Nat} (hk:k<l.length) {x:At} (hx:l[k]=x):attK l (k+1)=attK l k++(netP x.k++netP x.v):=by
 rw [attK,attK,List.take_succ_eq_append_getElem hk,hx,List.flatMap_append,←List.append_assoc]
 simp
theorem Xrv (l:List At) {k:Nat} (h:l.length≤k):attK l k=attP l:=by rw [attK,attP,List.take_of_length_le h]
theorem Xru {l:List At} (hn:l.length≤16) (h:∀a∈l,a.k.length≤32∧a.v.length≤64) (k:Nat):(attK l k).length≤2300:=by
 have h1:=Xh5 (l.take k) fun a ha=>h a (List.mem_of_mem_take ha)
 have h2:=Xbu l.length (by omega)
 have h3:(l.take k).length≤l.length:=by simp;omega
 unfold attK
 rw [List.length_append]
 omega
end Go.Proofs.YtmdfjnhfhidmhaaGreatDoor
namespace Go.Proofs.YtmdfjnhfhidmhaaGreatDoor
structure EncOk (x:Ent):Prop where
 k1:1≤x.kind
 k6:x.kind≤6
 natt:x.attrs.length≤16
 att:∀a∈x.attrs,a.k.length≤32∧a.v.length≤64
 target:x.target.length≤200
 s0:0≤x.size
 s1:x.size≤65536
 digest:x.digest.length≤32
 path:x.path.length≤200
 xts:∀y∈x.exts,0≤y.s∧y.s≤255∧0≤y.o∧y.o≤2147483647∧1≤y.n∧y.n≤65536
theorem Xe0 {f:Bool}:∀ {l:List Xt},xtsErr f l=0→ ∀y∈l,xtBad y=false
 | [],_,y,hy=>by cases hy
 |x::l,h,y,hy=>by
  unfold xtsErr at h
  split at h
  ·omega
  split at h
  ·omega
  rename_i k
  rcases List.mem_cons.1 hy with rfl|hy
  ·simpa using k
  ·exact Xe0 h y hy
theorem Xp3 {x:Xt} (h:xtBad x=false):0≤x.s∧x.s≤255∧0≤x.o∧x.o≤2147483647∧1≤x.n∧x.n≤65536:=by
 unfold xtBad at h
 simp only [Bool.or_eq_false_iff,decide_eq_false_iff_not] at h
 omega
theorem Xex {x:Ent} (h:entErr x=0):EncOk x:=by
 have hk:=Xbo h
 have hpp:=(Xbw hk.2.2.1).1
 unfold entErr at h
 rw [if_neg (by omega)] at h
 by_cases h1:pathErr x.path≠0
 ·rw [if_pos h1] at h;exact absurd h h1
 rw [if_neg h1] at h
 split at h
 ·omega
 by_cases h2:chk x.attrs≠0
 ·rw [if_pos h2] at h;exact absurd h h2
 rw [if_neg h2] at h
 split at h
 ·omega
 rename_i h3
 split at h
 ·omega
 rename_i h4
 split at h
 ·omega
 rename_i h5
 by_cases h6:xtsErr (x.kind==1) x.exts≠0
 ·rw [if_pos h6] at h;exact absurd h h6
 have hc:=Xt0 (l:=x.attrs) (by omega)
 refine ⟨by omega,by omega,hc.1,hc.2,?_,by omega,by omega,?_,by omega,fun y hy=>Xp3 (Xe0 (f:=x.kind==1) (Classical.byContradiction h6) y hy)⟩
 ·have ht:targetOk x=true:=by
   cases hh:targetOk x with
   |true=>rfl
   |false=>exact absurd (.inr hh) h3
  unfold targetOk at ht
  split at ht
  ·simp at ht;omega
  ·split at ht
   ·have:=Xg5 ht;omega
   ·have:x.target= []:=by simpa using ht
    rw [this];simp
 ·by_cases hk1:x.kind=1
  ·have:¬(x.kind=1∧x.digest.length≠32):=fun q=>h5 (.inl q)
   omega
  ·have:¬(x.kind≠1∧x.digest≠ []):=fun q=>h5 (.inr q)
   have hd:x.digest= []:=Classical.byContradiction fun q=>this ⟨hk1,q⟩
   rw [hd];simp
theorem Xbp {n:Int} (h0:0≤n) (h1:n≤140737488355200):(numP n).length≤17:=by
 obtain ⟨m,rfl⟩:=Int.eq_ofNat_of_zero_le h0
 exact Xbu m (by omega)
theorem Xi5 {x:Ent} (h:EncOk x):(headE x).length≤2700:=by
 have h1:=Xrt h.natt h.att
 have h2:=Xff x.kind
 have h3:=Xa0 (nameP x.kind) (by omega)
 have h4:=Xa0 x.path (by have:=h.path;omega)
 have h5:=Xa0 x.target (by have:=h.target;omega)
 have h6:=h.path
 have h7:=h.target
 unfold headE
 simp only [List.length_append]
 omega
def encF (e:Ent):Bytes:=netP (headE e)++numP e.size++netP e.digest++numP e.exts.length
def encK (e:Ent) (k:Nat):Bytes:=encF e++xtP (e.exts.take k)
theorem Xo7 {e:Ent} {k:Nat} (hk:k<e.exts.length) {x:Xt} (hx:e.exts[k]=x):encK e (k+1)=encK e k++(numP x.s++numP x.o++numP x.n):=by
 rw [encK,encK,List.take_succ_eq_append_getElem hk,hx,xtP,List.flatMap_append,←List.append_assoc]
 simp [xtP]
theorem Xlr (e:Ent) {k:Nat} (h:e.exts.length≤k):encK e k=encE e:=by rw [encK,List.take_of_length_le h];rfl
theorem Xo6 (e:Ent):encK e 0=encF e:=by rw [encK,List.take_zero];simp [xtP]
theorem Xrd {x:Ent} (h:EncOk x) (hx:x.exts.length≤1000):(encF x).length≤2900:=by
 have h1:=Xi5 h
 have h2:=Xa0 (headE x) (by omega)
 have h3:=Xbp h.s0 (by have:=h.s1;omega)
 have h4:=Xa0 x.digest (by have:=h.digest;omega)
 have h5:=Xbu x.exts.length (by omega)
 have h6:=h.digest
 unfold encF
 simp only [List.length_append]
 omega
theorem Xnj:∀ {l:List Xt},(∀y∈l,0≤y.s∧y.s≤255∧0≤y.o∧y.o≤2147483647∧1≤y.n∧y.n≤65536)→(xtP l).length≤51*l.length
 | [],_=>by simp [xtP]
 |y::l,h=>by
  have h1:=h y (List.mem_cons_self ..)
  have h2:=Xnj fun z hz=>h z (List.mem_cons_of_mem _ hz)
  have h3:=Xbp (n:=y.s) (by omega) (by omega)
  have h4:=Xbp (n:=y.o) (by omega) (by omega)
  have h5:=Xbp (n:=y.n) (by omega) (by omega)
  unfold xtP at*
  simp only [List.flatMap_cons,List.length_append,List.length_cons]
  omega
theorem Xlq {x:Ent} (h:EncOk x) (hx:x.exts.length≤1000) (k:Nat):(encK x k).length≤54000:=by
 have h1:=Xrd h hx
 have h2:=Xnj (l:=x.exts.take k) fun y hy=>h.xts y (List.mem_of_mem_take hy)
 have h3:(x.exts.take k).length≤x.exts.length:=by simp;omega
 unfold encK
 rw [List.length_append]
 omega
theorem Xls {x:Ent} (h:EncOk x) (hx:x.exts.length≤1000):(encE x).length≤54000:=by
 rw [←Xlr x (Qn _)]
 exact Xlq h hx _
end Go.Proofs.YtmdfjnhfhidmhaaGreatDoor
namespace Go.Proofs.YtmdfjnhfhidmhaaGreatDoor
open Go.RowKit
section
variable {P:Program} {ops:Array Oper} {md:Region.Mode} {Q:Exit→Act→World→Prop}
def leftN (s:Array Bool):Nat:=s.toList.countP (!·)
theorem Xg6:∀(l:List Bool) (i:Nat),l[i]? =some false→(l.set i true).countP (!·)+1=l.countP (!·)
 | [],_,h=>absurd h (by simp)
 |b::l,0,h=>by
  simp at h
  subst h
  simp
 |b::l,i+1,h=>by
  have:=Xg6 l i (by simpa using h)
  simp only [List.set_cons_succ,List.countP_cons]
  omega
theorem Xg0 {s:Array Bool} {i:Nat} (h:s.getD i true=false):s.toList[i]? =some false:=by
 rw [Array.getElem?_toList]
 rw [Array.getD_eq_getD_getElem?] at h
 cases hs:s[i]? with
 |none=>rw [hs] at h;simp at h
 |some b=>rw [hs] at h;simpa using h
theorem Xiw {s:Array Bool} {i:Nat} (h:s.getD i true=false):leftN (s.setIfInBounds i true)+1=leftN s:=by
 unfold leftN
 rw [Array.toList_setIfInBounds]
 exact Xg6 _ _ (Xg0 h)
theorem Xoq {s:Array Bool} {i:Nat} (h:s.getD i true=false):0<leftN s:=by have:=Xiw h;omega
theorem Xnn {J:Array Bool→Act→World→Prop} (hstep:∀s a w i,J s a w→i∈Region.ready md ops s→wpOp P ops Q i (fun a' w'=>J (s.setIfInBounds i true) a' w') a w)
 (hend:∀s a w,J s a w→Region.ready md ops s= []→Q .normal a w):∀(f:Nat) (s:Array Bool) (a:Act) (w:World),leftN s≤f→J s a w→wpAny P md ops Q f s a w:=by
 intro f
 induction f with
 |zero=>
  intro s a w hf hJ
  have hr:Region.ready md ops s= []:=by
   cases h:Region.ready md ops s with
   |nil=>rfl
   |cons j l=>
    have:=Xoq (mem_ready.1 (show j∈Region.ready md ops s by rw [h];exact List.mem_cons_self ..)).1
    omega
  exact ⟨hr,hend s a w hJ hr⟩
 |succ f ih=>
  intro s a w hf hJ
  refine ⟨hend s a w hJ,fun i hi=>wpOp_mono (fun a' w' h=>ih _ _ _ ?_ h) (hstep s a w i hJ hi)⟩
  have:=Xiw (mem_ready.1 hi).1
  omega
theorem Xkj (n:Nat):leftN (Array.replicate n false)=n:=by
 simp [leftN,List.countP_replicate]
theorem Xhb {id:Nat} {a:Act} {w:World} (J:Array Bool→Act→World→Prop) (hm:P.follows .mixedOrders=true) (h0:J (Array.replicate ops.size false) a { w with drawn:=w.drawn+1 })
 (hstep:∀s a w i,J s a w→i∈Region.ready .any ops s→wpOp P ops Q i (fun a' w'=>J (s.setIfInBounds i true) a' w') a w)
 (hend:∀s a w,J s a w→Region.ready .any ops s= []→Q .normal a w):(Code.region id ops true).wp P Q a w:=
 wp_region_any hm (Xnn hstep hend _ _ _ _ (by rw [Xkj];exact Qn _) h0)
def fillA:List (Option Tmp × Value)→Nat→Array Bool→Act→Act
 | [],_,_,a=>a
 |(d,v)::l,k,s,a=>fillA l (k+1) s (if s.getD k false then a.put d v else a)
theorem Xod (a:Act) {d e:Option Tmp} (u v:Value) (h:∀t,d=some t→e≠some t):(a.put d u).put e v=(a.put e v).put d u:=by
 cases d with
 |none=>rfl
 |some d=>
  cases e with
  |none=>rfl
  |some e=>
   have hne:d≠e:=fun h'=>h d rfl (by rw [h'])
   simp only [Act.put]
   rw [Array.setIfInBounds_comm _ _ hne]
def ApartF (l:List (Option Tmp × Value)):Prop:=l.Pairwise fun p q=> ∀t,p.1=some t→q.1≠some t
theorem Xhv:∀(l:List (Option Tmp × Value)) (k:Nat) (s:Array Bool) (a:Act) (d:Option Tmp) (v:Value),(∀p∈l,∀t,d=some t→p.1≠some t)→fillA l k s (a.put d v)=(fillA l k s a).put d v
 | [],_,_,_,_,_,_=>rfl
 |(e,u)::l,k,s,a,d,v,h=>by
  rw [fillA,fillA]
  split
  ·rw [Xod a v u (h (e,u) (List.mem_cons_self ..)),Xhv l _ _ _ _ _ fun p hp=>h p (List.mem_cons_of_mem _ hp)]
  ·rw [Xhv l _ _ _ _ _ fun p hp=>h p (List.mem_cons_of_mem _ hp)]
theorem Xg3:∀(l:List (Option Tmp × Value)) (k:Nat) (s:Array Bool) (a:Act) (i:Nat),i<k→fillA l k (s.setIfInBounds i true) a=fillA l k s a
 | [],_,_,_,_,_=>rfl
 |(e,u)::l,k,s,a,i,h=>by
  rw [fillA,fillA,getD_set_ne false (by omega),Xg3 l (k+1) s _ i (by omega)]
theorem Xlo:∀(l:List (Option Tmp × Value)) (k i:Nat) (s:Array Bool) (a:Act) (d:Option Tmp) (v:Value),ApartF l→l[i]? =some (d,v)→s.getD (k+i) true=false→(fillA l k s a).put d v=fillA l k (s.setIfInBounds (k+i) true) a
 | [],_,_,_,_,_,_,_,h,_=>absurd h (by simp)
 |(e,u)::l,k,0,s,a,d,v,hp,h,hs=>by
  simp at h
  obtain ⟨rfl,rfl⟩:=h
  have hf:s.getD k false=false:=by
   rw [Nat.add_zero] at hs
   rw [Array.getD_eq_getD_getElem?] at hs ⊢
   cases hk:s[k]? with
   |none=>rw [hk] at hs;simp at hs
   |some b=>rw [hk] at hs;simpa using hs
  have ht:(s.setIfInBounds k true).getD k false=true:=by
   have hlt:k<s.size:=by
    rw [Nat.add_zero] at hs
    have:=Xg0 hs
    have:=(List.getElem?_eq_some_iff.1 this).1
    simpa using this
   simp [Array.getD_eq_getD_getElem?,hlt]
  simp only [Nat.add_zero]
  rw [fillA,fillA,ht,hf]
  simp only [Bool.false_eq_true,if_false,if_true]
  rw [Xg3 l (k+1) s _ k (by omega),Xhv]
  exact fun p hm t=>(List.pairwise_cons.1 hp).1 p hm t
 |(e,u)::l,k,i+1,s,a,d,v,hp,h,hs=>by
  rw [fillA,fillA,getD_set_ne false (by omega),show k+(i+1)=k+1+i by omega]
  exact Xlo l (k+1) i s _ d v (List.pairwise_cons.1 hp).2 (by simpa using h) (by rw [←hs];congr 1;omega)
theorem Xfb (a:Act) {d:Option Tmp} {t:Tmp} (v:Value) (h:d≠some t):(a.put d v).eval (.tmp t)=a.eval (.tmp t):=
 Act.eval_put fun d' hd e=>h (by rw [hd];injection e with e;rw [e])
theorem Xk9 (a:Act) (d:Option Tmp) (v:Value):(a.put d v).tmps.size=a.tmps.size:=by cases d<;>simp [Act.put]
theorem Xb6:∀(l:List (Option Tmp × Value)) (k:Nat) (s:Array Bool) (a:Act) (t:Tmp),(∀p∈l,p.1≠some t)→(fillA l k s a).eval (.tmp t)=a.eval (.tmp t)
 | [],_,_,_,_,_=>rfl
 |(e,u)::l,k,s,a,t,h=>by
  rw [fillA,Xb6 l _ _ _ _ fun p hp=>h p (List.mem_cons_of_mem _ hp)]
  split
  ·exact Xfb a u (h (e,u) (List.mem_cons_self ..))
  ·rfl
theorem Xjd:∀(l:List (Option Tmp × Value)) (k i:Nat) (s:Array Bool) (a:Act) (t:Tmp) (v:Value),ApartF l→l[i]? =some (some t,v)→s.getD (k+i) false=true→t<a.tmps.size→(fillA l k s a).eval (.tmp t)=v
 | [],_,_,_,_,_,_,_,h,_,_=>absurd h (by simp)
 |(e,u)::l,k,0,s,a,t,v,hp,h,hs,ht=>by
  simp at h
  obtain ⟨rfl,rfl⟩:=h
  rw [Nat.add_zero] at hs
  rw [fillA,hs,if_pos rfl,Xb6 l _ _ _ _ fun p hm e=>(List.pairwise_cons.1 hp).1 p hm t rfl e]
  simp [Act.put,Act.eval,Array.getD_eq_getD_getElem?,ht]
 |(e,u)::l,k,i+1,s,a,t,v,hp,h,hs,ht=>by
  rw [fillA]
  refine Xjd l (k+1) i s _ t v (List.pairwise_cons.1 hp).2 (by simpa using h) (by rw [←hs];congr 1;omega) ?_
  split
  ·rw [Xk9];exact ht
  ·exact ht
theorem Xc2:∀(l m:List (Option Tmp × Value)) (k:Nat) (s:Array Bool) (a:Act),l.length=m.length→(∀i,s.getD (k+i) false=true→l[i]? =m[i]?)→fillA l k s a=fillA m k s a
 | [],[],_,_,_,_,_=>rfl
 | [],_::_,_,_,_,h,_=>absurd h (by simp)
 |_::_,[],_,_,_,h,_=>absurd h (by simp)
 |(e,u)::l,(f,v)::m,k,s,a,hl,h=>by
  rw [fillA,fillA]
  have hrest:∀a',fillA l (k+1) s a'=fillA m (k+1) s a':=fun a'=>Xc2 l m (k+1) s a' (by simpa using hl) fun i hi=>by
   have:=h (i+1) (by rw [←hi];congr 1;omega)
   simpa using this
  cases hk:s.getD k false
  ·simp only [Bool.false_eq_true,if_false];exact hrest a
  ·have:=h 0 hk
   simp at this
   obtain ⟨rfl,rfl⟩:=this
   simp only [if_true];exact hrest _
theorem Xo4 (l:List (Option Tmp × Value)) (a:Act):∀(k n:Nat),fillA l k (Array.replicate n false) a=a:=by
 induction l generalizing a with
 |nil=>intro k n;rfl
 |cons p l ih=>
  intro k n
  obtain ⟨d,v⟩:=p
  have:(Array.replicate n false).getD k false=false:=by
   rw [Array.getD_eq_getD_getElem?]
   rw [Array.getElem?_replicate]
   split<;>rfl
  rw [fillA,this]
  simp only [Bool.false_eq_true,if_false]
  exact ih a _ _
end
section
variable {P:Program} {ops:Array Oper} {Q:Exit→Act→World→Prop}
def backB (ops:Array Oper):Bool:=(List.range ops.size).all fun i=>((ops[i]?).map fun o=>o.after.all fun e=>decide (e.on<i)).getD true
def fillAll:List (Option Tmp × Value)→Act→Act
 | [],a=>a
 |(d,v)::l,a=>fillAll l (a.put d v)
theorem Xa6:∀(l:List (Option Tmp × Value)) (k:Nat) (s:Array Bool) (a:Act),(∀i,i<l.length→s.getD (k+i) false=true)→fillA l k s a=fillAll l a
 | [],_,_,_,_=>rfl
 |(d,v)::l,k,s,a,h=>by
  have h0:=h 0 (by simp)
  rw [Nat.add_zero] at h0
  rw [fillA,h0,if_pos rfl,fillAll]
  exact Xa6 l (k+1) s _ fun i hi=>by
   have:=h (i+1) (by simp;omega)
   rw [←this];congr 1;omega
end
theorem Xac {L:List (Option Tmp × Value)} {s:Array Bool} {a a':Act} {i:Nat} {d:Option Tmp} {v:Value} (hp:ApartF L) (ha:a'=fillA L 0 s a) (hi:L[i]? =some (d,v)) (hun:s.getD i true=false):a'.put d v=fillA L 0 (s.setIfInBounds i true) a:=by
 have h:=Xlo L 0 i s a d v hp hi (by rw [Nat.zero_add];exact hun)
 rw [ha,h,Nat.zero_add]
theorem Xap {L:List (Option Tmp × Value)} {s:Array Bool} {a a':Act} {i:Nat} {t:Tmp} {v:Value} (hp:ApartF L) (ha:a'=fillA L 0 s a) (hi:L[i]? =some (some t,v)) (hs:s.getD i false=true) (ht:t<a.tmps.size):a'.tmps[t]?.getD undef=v:=by
 have h:=Xjd L 0 i s a t v hp hi (by rw [Nat.zero_add];exact hs) ht
 rw [←ha] at h
 simpa [Act.eval] using h
theorem Xbe {L:List (Option Tmp × Value)} {s:Array Bool} {a a':Act} {t:Tmp} (ha:a'=fillA L 0 s a) (h:∀p∈L,p.1≠some t):a'.tmps[t]?.getD undef=a.tmps[t]?.getD undef:=by
 have h:=Xb6 L 0 s a t h
 rw [←ha] at h
 simpa [Act.eval] using h
theorem Xam {s:Array Bool} {i:Nat} (h:s.getD i true=false):s.getD i false=false:=by
 rw [Array.getD_eq_getD_getElem?] at h ⊢
 cases hs:s[i]? with
 |none=>rfl
 |some b=>rw [hs] at h;simpa using h
theorem Xc9 {s:Array Bool} {i:Nat} (h:s.getD i true=false):i<s.size:=by
 rcases Nat.lt_or_ge i s.size with h'|h'
 ·exact h'
 ·rw [Array.getD_eq_getD_getElem?,Array.getElem?_eq_none h'] at h;simp at h
theorem Xa5 (n i:Nat):(Array.replicate n false).getD i false=false:=by
 rw [Array.getD_eq_getD_getElem?,Array.getElem?_replicate]
 split<;>rfl
theorem Xaz {s:Array Bool} {i:Nat} (h:i<s.size):(s.setIfInBounds i true).getD i false=true:=by
 rw [Array.getD_eq_getD_getElem?,Array.getElem?_setIfInBounds_self_of_lt h];rfl
theorem Xo5 {L M:List (Option Tmp × Value)} {s:Array Bool} {a:Act} (i:Nat) (hl:L.length=M.length) (h:∀j,j≠i→L[j]? =M[j]?) (hun:s.getD i true=false):fillA L 0 s a=fillA M 0 s a:=
 Xc2 _ _ _ _ _ hl fun j hj=>by
  rw [Nat.zero_add] at hj
  exact h j fun e=>by rw [e,Xam hun] at hj;cases hj
def backB2 (ops:Array Oper):Bool:=(List.range ops.size).all fun i=>((ops[i]?).map fun o=>o.after.all fun e=> !(Region.binds .any e) || decide (e.on<i)).getD true
theorem Xt8 {ops:Array Oper} {s:Array Bool} (hb:backB2 ops=true) (hr:Region.ready .any ops s= []) (hsz:s.size=ops.size):∀i,i<ops.size→s.getD i false=true:=by
 intro i
 induction i using Nat.strongRecOn with
 |_ i ih=>
  intro hi
  cases hs:s.getD i false with
  |true=>rfl
  |false=>
   exfalso
   have hs':s.getD i true=false:=by
    rw [Array.getD_eq_getD_getElem?] at hs ⊢
    have hlt:i<s.size:=by omega
    rw [Array.getElem?_eq_getElem hlt] at hs ⊢
    simpa using hs
   have:i∈Region.ready .any ops s:=mem_ready.2 ⟨hs',ops[i],Array.getElem?_eq_getElem hi,fun e he hbd=> ?_⟩
   ·rw [hr] at this;exact absurd this (by simp)
   ·have h:=List.all_eq_true.1 hb i (List.mem_range.2 hi)
    rw [Array.getElem?_eq_getElem hi] at h
    simp only [Option.map_some,Option.getD_some] at h
    obtain ⟨j,hj,rfl⟩:=Array.getElem_of_mem he
    have h2:=Array.all_eq_true.1 h j hj
    rw [hbd] at h2
    have h3:ops[i].after[j].on<i:=by simpa using h2
    exact ih _ h3 (by omega)
theorem Xe1 {P:Program} {ops:Array Oper} {Q:Exit→Act→World→Prop} {X:Type} {id:Nat} {a:Act} {w:World} (L:X→List (Option Tmp × Value)) (C:X→Array Bool→World→Prop) (hm:P.follows .mixedOrders=true) (hb:backB2 ops=true) (h0:∃x,C x (Array.replicate ops.size false) { w with drawn:=w.drawn+1 })
 (hstep:∀x s a' w' i,s.size=ops.size→a'=fillA (L x) 0 s a→C x s w'→i∈Region.ready .any ops s→wpOp P ops Q i (fun a'' w''=> ∃y,a''=fillA (L y) 0 (s.setIfInBounds i true) a∧C y (s.setIfInBounds i true) w'') a' w')
 (hend:∀x s a' w',(∀i,i<ops.size→s.getD i false=true)→a'=fillA (L x) 0 s a→C x s w'→Q .normal a' w'):(Code.region id ops true).wp P Q a w:=by
 refine Xhb (fun s a' w'=>s.size=ops.size∧ ∃x,a'=fillA (L x) 0 s a∧C x s w') hm ?_ ?_ ?_
 ·obtain ⟨x,hx⟩:=h0
  exact ⟨by simp,x,(Xo4 _ _ _ _).symm,hx⟩
 ·rintro s a' w' i ⟨hsz,x,ha,hx⟩ hi
  exact wpOp_mono (fun a'' w'' ⟨y,h1,h2⟩=>⟨by simpa using hsz,y,h1,h2⟩) (hstep x s a' w' i hsz ha hx hi)
 ·rintro s a' w' ⟨hsz,x,ha,hx⟩ hr
  exact hend x s a' w' (Xt8 hb hr hsz) ha hx
theorem Xe7 {P:Program} {α:Type} {T:Ty α} {I:IH} {ts te ty:TypeId} {bytes:Nat} (hE:ElemOk P ts te T bytes) {w:World} {B:Nat} {v:Value} {l:List α} (hown:OwnS T te I w B v l) {vx:Value} {ys:List α} (hy:SrcS T I w vx ys)
 (hbig:(l.length+ys.length)*bytes≤140737488355328) (hl:l.length+ys.length≤9223372036854775807) (hB:B≤w.heap.size):
 ∃v' w',(Builtin.append_ #[ts,ts] ty #[v,vx]).run P w= .ok v' w'∧OwnS T te I w' B v' (l++ys)∧w.grownBy w' v.ownBlock∧ ∀g,v'.ownBlock=some g→v.ownBlock=some g∨w.heap.size≤g:=by
 obtain ⟨i,z,h1,h2,h3,h4,h5,h6,h7⟩:=hE
 obtain ⟨ao,c,cs,rfl,k1,k2⟩:=hy
 obtain ⟨xs,k3,k4⟩:=hown
 rcases Nat.eq_zero_or_pos ys.length with h0|h0
 ·have:ys= []:=List.eq_nil_of_length_eq_zero h0
  subst this
  have hv:∃b n cap,v= .slice b n cap∧n≤cap:=by
   rcases k3.2 with ⟨h8,_⟩|⟨g,cap,cur,h8,_,_,h9,_⟩
   ·exact ⟨_,_,_,h8,Qn _⟩
   ·exact ⟨_,_,_,h8,h9⟩
  obtain ⟨b,n,cap,rfl,hn⟩:=hv
  refine ⟨_,w,Xe6 h1 h2 w b ao n cap c hn,⟨xs,by rw [List.append_nil];exact k3,by rw [List.append_nil];exact k4⟩,⟨rfl,rfl,rfl,Qn _,fun _ _ _=>rfl⟩,fun g hg=> .inl hg⟩
 ·obtain ⟨ad,rfl,hcs⟩:=k2 h0
  obtain ⟨v',w',hr,r1,r2,_,r4⟩:=run_append_own_at (P:=P) w B ts ty te i z T.size bytes h1 h2 h3 h4 h5 h6 h7 v l.length xs k3 ad ys.length c cs k1.1 hcs k1.oneCell (by unfold maxLen;omega) hbig hB
  refine ⟨v',w',hr,⟨xs++cs,by rw [List.length_append];exact r1,k4.append k1⟩,r2,fun g hg=> ?_⟩
  rcases r4 with r4|r4
  ·exact .inl (r4▸hg)
  ·rw [r4] at hg
   exact .inr (by cases hg;exact Qn _)
theorem Xdf {P:Program} {α:Type} {T:Ty α} {I:IH} {ts te:TypeId} {bytes:Nat} (hE:ElemOk P ts te T bytes) {w:World} {o:Oper} {a:Act} {K:Act→World→Prop} {Q:Exit→Act→World→Prop} (s x:Operand)
 (ho:o.op= .call { callee:= .builtin .append,args:= #[s,x],argTypes:= #[ts,ts] }) {B:Nat} {v:Value} {l:List α} (hs:a.eval s=v) (hown:OwnS T te I w B v l) {vx:Value} {ys:List α} (hx:a.eval x=vx) (hy:SrcS T I w vx ys)
 (hbig:(l.length+ys.length)*bytes≤140737488355328) (hl:l.length+ys.length≤9223372036854775807) (hB:B≤w.heap.size)
 (h:∀v' w',OwnS T te I w' B v' (l++ys)→w.grownBy w' v.ownBlock→(∀g,v'.ownBlock=some g→v.ownBlock=some g∨w.heap.size≤g)→K (a.put o.dst v') w'):Oper.wp P o a w K Q:=by
 obtain ⟨v',w',hr,h1,h2,h3⟩:=Xe7 (ty:=o.type) hE hown hy hbig hl hB
 unfold Oper.wp execOp
 simp only [ho,resolve,invoke,builtin,Sem.run_bind,Sem.run_pure,Result.andThen_ok,List.map_toArray,List.map_cons,List.map_nil,hs,hx,hr]
 exact h v' w' h1 h2 h3
structure A2X where
 e:Nat
 b:Nat
 v1:Value
 v2:Value
structure A2C {α:Type} (T:Ty α) (E:TypeId) (I:IH) (w3:World) (l:List α) (y:α) (row:Array Value) (i0 i2 i4 i5:Nat) (x:A2X) (s:Array Bool) (w:World):Prop where
 bel:Below w3.heap.size w3 w
 p0:s.getD i0 false=true→s.getD i2 false=false→OwnS T E I w w3.heap.size (.slice (some ⟨x.e,0,none⟩) 0 0) []
 p2:s.getD i2 false=true→s.getD i5 false=false→OwnS T E I w w3.heap.size x.v1 l
 p4:s.getD i4 false=true→s.getD i5 false=false→w.heap[x.b]? =some (.cells row E (0,0))
 p5:s.getD i5 false=true→OwnS T E I w w3.heap.size x.v2 (l++ [y])
 n0:s.getD i0 false=true→s.getD i2 false=false→s.getD i4 false=true→x.e≠x.b
 n2:s.getD i2 false=true→s.getD i4 false=true→s.getD i5 false=false→x.v1.ownBlock≠some x.b
 o2:s.getD i2 false=true→s.getD i0 false=true
 o5:s.getD i5 false=true→s.getD i2 false=true∧s.getD i4 false=true
section
variable {α:Type} {T:Ty α} {E:TypeId} {I:IH} {w3 w w':World} {l:List α} {y:α} {row:Array Value} {i0 i2 i4 i5:Nat} {x:A2X} {s:Array Bool}
theorem Xda {v:Value} {l:List α} {B g:Nat} (h:OwnS T E I w B v l) (hg:v.ownBlock=some g):B≤g∧g<w.heap.size:=by
 obtain ⟨xs,h1,_⟩:=h
 exact h1.lt g hg
end
structure QbC (W:World) (last j1 j2:Nat) (cs1 cs2:List (Nat × Value)) (fin:World→Prop) (x:Nat × Nat) (s:Array Bool) (w:World):Prop where
 bel:s.getD last false=false→Below W.heap.size W w
 f1:s.getD j1 false=true→s.getD last false=false→ ∀p∈cs1,w.cell? ⟨x.1,p.1,none⟩=some p.2
 f2:s.getD j2 false=true→s.getD last false=false→ ∀p∈cs2,w.cell? ⟨x.2,p.1,none⟩=some p.2
 fin:s.getD last false=true→fin w
section
variable {W w w':World} {last j1 j2:Nat} {cs1 cs2:List (Nat × Value)} {fin:World→Prop} {x:Nat × Nat} {s:Array Bool}
theorem QbC.start (n:Nat) (x:Nat × Nat):QbC W last j1 j2 cs1 cs2 fin x (Array.replicate n false) { W with drawn:=W.drawn+1 }:=
 ⟨fun _=>(Qb _ _).drew,fun h=>(by rw [Xa5] at h;cases h),fun h=>(by rw [Xa5] at h;cases h),fun h=>(by rw [Xa5] at h;cases h)⟩
theorem QbC.step (h:QbC W last j1 j2 cs1 cs2 fin x s w) (hl:s.getD last false=false) (hb:Below w.heap.size w w') {i:Nat} (h1:i≠j1) (h2:i≠j2) (h3:i≠last):QbC W last j1 j2 cs1 cs2 fin x (s.setIfInBounds i true) w':=by
 refine ⟨fun _=>(h.bel hl).trans (hb.mono (h.bel hl).size),?_,?_,?_⟩
 ·rw [getD_set_ne false h1]
  exact fun a _ p hp=>Xaa hb (h.f1 a hl p hp)
 ·rw [getD_set_ne false h2]
  exact fun a _ p hp=>Xaa hb (h.f2 a hl p hp)
 ·rw [getD_set_ne false h3,hl]
  intro q
  cases q
theorem QbC.at1 (h:QbC W last j1 j2 cs1 cs2 fin x s w) (hl:s.getD last false=false) (hb:Below w.heap.size w w') (h2:j1≠j2) (h3:j1≠last) {n:Nat} (hc:∀p∈cs1,w'.cell? ⟨n,p.1,none⟩=some p.2):QbC W last j1 j2 cs1 cs2 fin (n,x.2) (s.setIfInBounds j1 true) w':=by
 refine ⟨fun _=>(h.bel hl).trans (hb.mono (h.bel hl).size),fun _ _=>hc,?_,?_⟩
 ·rw [getD_set_ne false h2]
  exact fun a _ p hp=>Xaa hb (h.f2 a hl p hp)
 ·rw [getD_set_ne false h3,hl]
  intro q
  cases q
theorem QbC.at2 (h:QbC W last j1 j2 cs1 cs2 fin x s w) (hl:s.getD last false=false) (hb:Below w.heap.size w w') (h1:j2≠j1) (h3:j2≠last) {n:Nat} (hc:∀p∈cs2,w'.cell? ⟨n,p.1,none⟩=some p.2):QbC W last j1 j2 cs1 cs2 fin (x.1,n) (s.setIfInBounds j2 true) w':=by
 refine ⟨fun _=>(h.bel hl).trans (hb.mono (h.bel hl).size),?_,fun _ _=>hc,?_⟩
 ·rw [getD_set_ne false h1]
  exact fun a _ p hp=>Xaa hb (h.f1 a hl p hp)
 ·rw [getD_set_ne false h3,hl]
  intro q
  cases q
theorem QbC.end' (hun:s.getD last true=false) (hf:fin w'):QbC W last j1 j2 cs1 cs2 fin x (s.setIfInBounds last true) w':=by
 have e:=Xaz (Xc9 hun)
 exact ⟨fun q=>(by rw [e] at q;cases q),fun _ q=>(by rw [e] at q;cases q),fun _ q=>(by rw [e] at q;cases q),fun _=>hf⟩
end
def Clo (ops:Array Oper) (s:Array Bool):Prop:= ∀i o,ops[i]? =some o→s.getD i false=true→ ∀e∈o.after,Region.binds .any e=true→s.getD e.on false=true
def pathB (ops:Array Oper):List Nat→Bool
 |i::j::r=>(match ops[i]? with|some o=>o.after.any fun e=>Region.binds .any e&&e.on==j|none=>false)&&pathB ops (j::r)
 |_=>true
theorem Xh1 {ops:Array Oper} {s:Array Bool} (h:Clo ops s):∀(p:List Nat) (k i:Nat),pathB ops (k::p)=true→(k::p).getLast? =some i→s.getD k false=true→s.getD i false=true
 | [],k,i,_,hl,hk=>by simp at hl;exact hl▸hk
 |j::r,k,i,hp,hl,hk=>by
  unfold pathB at hp
  rw [Bool.and_eq_true] at hp
  obtain ⟨h1,h2⟩:=hp
  cases ho:ops[k]? with
  |none=>rw [ho] at h1;simp at h1
  |some o=>
   rw [ho] at h1
   simp only [Array.any_eq_true,Bool.and_eq_true,beq_iff_eq] at h1
   obtain ⟨n,hn,h3,h4⟩:=h1
   exact Xh1 h r j i h2 (by simpa using hl) (h4▸h k o ho hk _ (Array.getElem_mem hn) h3)
theorem Xae {ops:Array Oper} {s:Array Bool} (h:Clo ops s) (p:List Nat) {k i:Nat} (hp:pathB ops (k::p)=true) (hl:(k::p).getLast? =some i) (hun:s.getD i true=false):s.getD k false=false:=by
 cases hk:s.getD k false with
 |false=>rfl
 |true=>have:=Xh1 h p k i hp hl hk;rw [Xam hun] at this;cases this
theorem Xtw {ops:Array Oper} {s:Array Bool} (h:Clo ops s) {i:Nat} (hi:i∈Region.ready .any ops s):Clo ops (s.setIfInBounds i true):=by
 obtain ⟨hun,oi,hoi,hall⟩:=mem_ready.1 hi
 have up:∀j,s.getD j false=true→(s.setIfInBounds i true).getD j false=true:=fun j hj=>by
  by_cases e:i=j
  ·subst e;exact Xaz (Xc9 hun)
  ·rw [getD_set_ne false e];exact hj
 intro j o ho hj e he hb
 by_cases c:i=j
 ·subst c
  rw [hoi] at ho
  cases ho
  exact up _ (hall e he hb)
 ·rw [getD_set_ne false c] at hj
  exact up _ (h j o ho hj e he hb)
theorem Xq9 {L M:List (Option Tmp × Value)} {s:Array Bool} {a:Act} (i k:Nat) (hl:L.length=M.length) (h:∀j,j≠i→j≠k→L[j]? =M[j]?) (hun:s.getD i true=false) (hk:s.getD k false=false):fillA L 0 s a=fillA M 0 s a:=
 Xc2 _ _ _ _ _ hl fun j hj=>by
  rw [Nat.zero_add] at hj
  exact h j (fun e=>by rw [e,Xam hun] at hj;cases hj) (fun e=>by rw [e,hk] at hj;cases hj)
theorem Xak {P:Program} {ops:Array Oper} {Q:Exit→Act→World→Prop} {X:Type} {id:Nat} {a:Act} {w:World} (L:X→List (Option Tmp × Value)) (C:X→Array Bool→World→Prop) (hm:P.follows .mixedOrders=true) (hb:backB2 ops=true) (h0:∃x,C x (Array.replicate ops.size false) { w with drawn:=w.drawn+1 })
 (hstep:∀x s a' w' i,s.size=ops.size→Clo ops s→a'=fillA (L x) 0 s a→C x s w'→i∈Region.ready .any ops s→wpOp P ops Q i (fun a'' w''=> ∃y,a''=fillA (L y) 0 (s.setIfInBounds i true) a∧C y (s.setIfInBounds i true) w'') a' w')
 (hend:∀x s a' w',(∀i,i<ops.size→s.getD i false=true)→a'=fillA (L x) 0 s a→C x s w'→Q .normal a' w'):(Code.region id ops true).wp P Q a w:=by
 refine Xe1 (X:=X) L (fun x s w'=>Clo ops s∧C x s w') hm hb ?_ ?_ ?_
 ·obtain ⟨x,hx⟩:=h0
  exact ⟨x,fun i _ _ q=>(by rw [Xa5] at q;cases q),hx⟩
 ·rintro x s a' w' i hsz ha ⟨hcl,hC⟩ hi
  exact wpOp_mono (fun a'' w'' ⟨y,h1,h2⟩=>⟨y,h1,Xtw hcl hi,h2⟩) (hstep x s a' w' i hsz hcl ha hC hi)
 ·rintro x s a' w' hup ha ⟨_,hC⟩
  exact hend x s a' w' hup ha hC
theorem Xux (n:Int) (h0:0≤n) (h1:n≤140737488355200) (w:World):
 Calls Tryz.prog 157 #[.int .i64 n] w fun e w'=>e= .returned (S (numP n))∧Below w.heap.size w w':=by
 obtain ⟨m,rfl⟩:=Int.eq_ofNat_of_zero_le h0
 exact Xim m (by omega) w
theorem Xd4 (I:IH) (hI:Glob I) (n:Int) (h0:0≤n) (h1:n≤140737488355200) (w:World) (hw:Ok I w):
 Calls Tryz.prog 153 #[.int .i64 n] w fun e w'=>e= .returned (S (numP n))∧Below w.heap.size w w':=by
 obtain ⟨m,rfl⟩:=Int.eq_ofNat_of_zero_le h0
 exact Xce I hI m (by omega) w hw
theorem Xuw {W:World} {b:Nat} {p q:Bytes} (h0:W.cell? ⟨b,0,none⟩=some (S p)) (h1:W.cell? ⟨b,1,none⟩=some (S q)):StrsAt W b 0 [p,q]:=fun j x hx=>by
 match j with
 |0=>cases hx;exact h0
 |1=>cases hx;exact h1
 |_+2=>simp at hx
theorem Xh3 {T e:TypeId} {B b:Nat} {bs:List Value} {w:World} (h:Lib.IsBuilder T e B b bs w) (o:Obj):Lib.IsBuilder T e B b bs (w.alloc o):=Xau h ((Qb _ _).alloc (Qn _) _)
set_option maxRecDepth 100000 in
theorem Xre (k:Int) (h1:1≤k) (h2:k≤6) (w:World):
 Calls Tryz.prog 243 #[] w fun e w'=>e= .returned (.slice (some ⟨w.heap.size,0,none⟩) 6 6)∧w'.cell? ⟨w.heap.size,k.toNat-1,none⟩=some (S (nameP k))∧Below w.heap.size w w'∧w.heap.size<w'.heap.size:=by
 go_enter Tryz.func243,Tryz.ntmps243
 go_wp2
 go_ret
 refine ⟨rfl,?_,(Qb _ _).alloc (Qn _) _,by simp⟩
 have:k=1∨k=2∨k=3∨k=4∨k=5∨k=6:=by omega
 rcases this with rfl|rfl|rfl|rfl|rfl|rfl<;>simp [nameP]
theorem EntB.far {w w':World} {n B:Nat} {e:Ent} {va vx:Value} (h:EntB w n e va vx) (hb:Below B w w') (hn:n<B):EntB w' n e va vx:=
 ⟨(hb.cell hn).trans h.c0,(hb.cell hn).trans h.c1,(hb.cell hn).trans h.c2,(hb.cell hn).trans h.c3,(hb.cell hn).trans h.c4,(hb.cell hn).trans h.c5,(hb.cell hn).trans h.c6⟩
abbrev hdL (n:Nat) (e:Ent) (N:Bytes) (x:Nat × Nat):List (Option Tmp × Value):=
 [(some 13,.slice (some ⟨x.1,0,none⟩) 6 6),(some 14,.pointer (some ⟨n,0,none⟩)),(some 15,.int .i64 e.kind),(some 16,.int .i64 (e.kind-1)),(some 17,.pointer (some ⟨x.1,e.kind.toNat-1,none⟩)),(some 18,S (nameP e.kind)),
  (some 19,.pointer (some ⟨n,1,none⟩)),(some 20,S e.path),(some 21,.slice (some ⟨x.2,0,none⟩) 2 2),(some 22,S N),(some 23,.tuple #[.int .i64 (N.length:Int),.nilIface])]
theorem Xar {n:Nat} {e:Ent} {N:Bytes} {x:Nat × Nat}:ApartF (hdL n e N x):=by
 unfold ApartF
 simp
set_option maxRecDepth 100000 in
set_option maxHeartbeats 4000000 in
theorem Xtk (I:IH) (hI:Glob I) (e:Ent) (va vx:Value) (hva:RdS tAt I va e.attrs) (hvx:RdS tXt I vx e.exts) (hwf:e.Wf) (hpl:e.path.length≤4294967280) (htl:e.target.length≤4294967280) (hc:EncOk e) (he:entErr e=0) (w:World) (hw:Ok I w):
 Calls Tryz.prog 202 #[entV e va vx] w fun r w'=>r= .returned (.tuple #[S (headE e),.int .i64 0])∧Below w.heap.size w w':=by
 have Hck:=Qh (fun w hw=>Xey I hI e va vx hva hvx hwf hpl htl w hw)
 obtain ⟨aa,ca,rfl,_,_,_⟩:=id hva
 obtain ⟨ax,cx,rfl,_,_,_⟩:=id hvx
 have k1:=hc.k1
 have k6:=hc.k6
 have hp200:=hc.path
 have ht200:=hc.target
 have hna:=hc.natt
 have Hat:=Qh hc.att
 have Hc:=Qh hc
 rw [he] at Hck
 have i0:IntKind.i64.wrap (e.kind-1)=e.kind-1:=IntWalk.i64_in _ (by omega)
 have i1:0≤e.kind-1:=by omega
 have i2:e.kind-1<6:=by omega
 clear he hc
 go_enter Tryz.func202,Tryz.ntmps202
 go_wp2_with fail
 refine (Hck.out _ (hw.alloc _)).mono ?_
 rintro e1 w1 ⟨rfl,hb1⟩
 have HB1:=Qh (entB (e:=e) rfl hb1)
 have hok1:Ok I w1:=(hw.alloc _).below (Qn _) hb1
 have hb1':=((Qb w.heap.size w).alloc (Qn _) (.cells #[.int .i64 e.kind,S e.path,.slice aa e.attrs.length ca,S e.target,.int .i64 e.size,S e.digest,.slice ax e.exts.length cx] 81)).trans (hb1.mono (by simp))
 have hbd1:Lib.IsBuilder 203 5 w1.heap.size w1.heap.size (Lib.byteCells []) (w1.alloc (.cells #[.pointer none,.slice none 0 0] 203)):=Lib.fresh_isBuilder _ _ w1
 have hsz1:w.heap.size<w1.heap.size:=by have:=hb1.size;simp at this;omega
 go_wp2_with fail
 obtain ⟨c0,c1,c2,c3,c4,c5,c6⟩:=EntB.past HB1.out (.cells #[.pointer none,.slice none 0 0] 203)
 have hnl:=Xa0 (nameP e.kind) (by have:=Xff e.kind;omega)
 have hnn:=Xff e.kind
 have hpn:=Xa0 e.path (by omega)
 have hns:netsP [nameP e.kind,e.path]=netP (nameP e.kind)++netP e.path:=by simp [netsP]
 have hsl:(netsP [nameP e.kind,e.path]).length≤300:=by rw [hns,List.length_append];omega
 have Hst:=Qh (fun b w hv hw=>Xfe I hI b 0 2 2 [nameP e.kind,e.path] rfl (Qn _) (by decide) w hv (by omega) hw)
 obtain ⟨N,hN⟩:∃N,netsP [nameP e.kind,e.path]=N:=⟨_,rfl⟩
 rw [hN] at Hst hsl
 rw [hns] at hN
 have HN:=Qh hN
 clear hns hN
 obtain ⟨W5,hW5⟩:∃W5,w1.alloc (.cells #[.pointer none,.slice none 0 0] 203)=W5:=⟨_,rfl⟩
 have hbW:Below w1.heap.size w1 W5:=by rw [←hW5];exact (Qb _ _).alloc (Qn _) _
 have hokW:Ok I W5:=by rw [←hW5];exact hok1.alloc _
 have hszW:w1.heap.size<W5.heap.size:=by rw [←hW5];simp
 change Code.wp _ _ _ _ (w1.alloc (.cells #[.pointer none,.slice none 0 0] 203))
 rw [hW5]
 rw [hW5] at hbd1 c0 c1
 have hkn:(e.kind-1).toNat=e.kind.toNat-1:=by omega
 refine Xak (X:=Nat × Nat) (hdL w.heap.size e N) (QbC W5 10 0 8 [(e.kind.toNat-1,S (nameP e.kind))] [(0,S (nameP e.kind)),(1,S e.path)] (fun w5=>Lib.IsBuilder 203 5 w1.heap.size w1.heap.size (Lib.byteCells N) w5∧w1.heap.size<w5.heap.size∧Below w1.heap.size w1 w5)) (by kernel_rfl) (by kernel_rfl) ?_ ?_ ?_
 ·exact ⟨(0,0),QbC.start _ _⟩
 ·rintro x s a' w' i hsz hcl ha hC hi
  obtain ⟨hun,oi,hoi,hall⟩:=mem_ready.1 hi
  rcases i with _|_|_|_|_|_|_|_|_|_|_|i
  rotate_left 11
  ·simp at hoi
  all_goals
   have hoj:=hoi
   simp at hoi
   subst hoi
   simp [Region.binds] at hall
  ·have hl:s.getD 10 false=false:=Xae hcl [9,8,5,4,0] (by kernel_rfl) (by rfl) hun
   have h4:s.getD 4 false=false:=Xae hcl [0] (by kernel_rfl) (by rfl) hun
   have ha:=ha.trans (Xq9 (L:=hdL w.heap.size e N x) (M:=hdL w.heap.size e N (w'.heap.size,x.2)) 0 4 rfl (fun j h0 h4=>by
    rcases j with _|_|_|_|_|j<;>first|rfl|(exact absurd rfl h0)|(exact absurd rfl h4)|simp) hun h4)
   refine wpOp_step hoj (fun K' hK=> ?_)
   rw [if_pos (by rfl)]
   unfold Oper.wp
   simp [go_sem,Oper.upon]
   refine (Xre e.kind k1 k6 w').mono ?_
   rintro r2 w2 ⟨rfl,hc2,hb2,hsz2⟩
   exact hK _ _ ⟨(w'.heap.size,x.2),Xac (d:=some 13) (v:= .slice (some ⟨w'.heap.size,0,none⟩) 6 6) Xar ha rfl hun,hC.at1 hl hb2 (by decide) (by decide) (fun p hp=>by simp at hp;subst hp;exact hc2)⟩
  ·have e1:a'.tmps[1]?.getD undef= .pointer (some ⟨w.heap.size,0,none⟩):=Xbe ha (by simp)
   have hl:s.getD 10 false=false:=Xae hcl [9,8,5,4,3,2,1] (by kernel_rfl) (by rfl) hun
   refine wpOp_step hoj (fun K' hK=> ?_)
   rw [if_pos (by rfl)]
   unfold Oper.wp
   simp [go_sem,e1,Oper.upon]
   exact hK _ _ ⟨x,Xac (d:=some 14) (v:=(.pointer (some ⟨w.heap.size,0,none⟩))) Xar ha rfl hun,hC.step hl (Qb _ _) (by decide) (by decide) (by decide)⟩
  ·have e14:a'.tmps[14]?.getD undef= .pointer (some ⟨w.heap.size,0,none⟩):=Xap (i:=1) Xar ha rfl (by simpa using hall) (by simp)
   have hl:s.getD 10 false=false:=Xae hcl [9,8,5,4,3,2] (by kernel_rfl) (by rfl) hun
   have c0':=Xaa (hC.bel hl) c0
   refine wpOp_step hoj (fun K' hK=> ?_)
   rw [if_pos (by rfl)]
   unfold Oper.wp
   simp [go_sem,e14,c0',Oper.upon]
   exact hK _ _ ⟨x,Xac (d:=some 15) (v:= .int .i64 e.kind) Xar ha rfl hun,hC.step hl (Qb _ _) (by decide) (by decide) (by decide)⟩
  ·have e15:a'.tmps[15]?.getD undef= .int .i64 e.kind:=Xap (i:=2) Xar ha rfl (by simpa using hall) (by simp)
   have hl:s.getD 10 false=false:=Xae hcl [9,8,5,4,3] (by kernel_rfl) (by rfl) hun
   refine wpOp_step hoj (fun K' hK=> ?_)
   rw [if_pos (by rfl)]
   unfold Oper.wp
   simp [go_sem,e15,Oper.upon,i0]
   exact hK _ _ ⟨x,Xac (d:=some 16) (v:= .int .i64 (e.kind-1)) Xar ha rfl hun,hC.step hl (Qb _ _) (by decide) (by decide) (by decide)⟩
  ·have e13:a'.tmps[13]?.getD undef= .slice (some ⟨x.1,0,none⟩) 6 6:=Xap (i:=0) Xar ha rfl (by simpa using hall.1) (by simp)
   have e16:a'.tmps[16]?.getD undef= .int .i64 (e.kind-1):=Xap (i:=3) Xar ha rfl (by simpa using hall.2) (by simp)
   have hl:s.getD 10 false=false:=Xae hcl [9,8,5,4] (by kernel_rfl) (by rfl) hun
   refine wpOp_step hoj (fun K' hK=> ?_)
   rw [if_pos (by rfl)]
   unfold Oper.wp
   simp [go_sem,e13,e16,i2,hkn,k1,Oper.upon]
   exact hK _ _ ⟨x,Xac (d:=some 17) (v:= .pointer (some ⟨x.1,e.kind.toNat-1,none⟩)) Xar ha rfl hun,hC.step hl (Qb _ _) (by decide) (by decide) (by decide)⟩
  ·have e17:a'.tmps[17]?.getD undef= .pointer (some ⟨x.1,e.kind.toNat-1,none⟩):=Xap (i:=4) Xar ha rfl (by simpa using hall) (by simp)
   have hl:s.getD 10 false=false:=Xae hcl [9,8,5] (by kernel_rfl) (by rfl) hun
   have h0:s.getD 0 false=true:=Xh1 hcl [0] 4 0 (by kernel_rfl) (by rfl) (by simpa using hall)
   have hc:=hC.f1 h0 hl _ (List.mem_singleton.2 rfl)
   refine wpOp_step hoj (fun K' hK=> ?_)
   rw [if_pos (by rfl)]
   unfold Oper.wp
   simp [go_sem,e17,hc,Oper.upon]
   exact hK _ _ ⟨x,Xac (d:=some 18) (v:=S (nameP e.kind)) Xar ha rfl hun,hC.step hl (Qb _ _) (by decide) (by decide) (by decide)⟩
  ·have e1:a'.tmps[1]?.getD undef= .pointer (some ⟨w.heap.size,0,none⟩):=Xbe ha (by simp)
   have hl:s.getD 10 false=false:=Xae hcl [9,8,7,6] (by kernel_rfl) (by rfl) hun
   refine wpOp_step hoj (fun K' hK=> ?_)
   rw [if_pos (by rfl)]
   unfold Oper.wp
   simp [go_sem,e1,Oper.upon]
   exact hK _ _ ⟨x,Xac (d:=some 19) (v:=(.pointer (some ⟨w.heap.size,1,none⟩))) Xar ha rfl hun,hC.step hl (Qb _ _) (by decide) (by decide) (by decide)⟩
  ·have e19:a'.tmps[19]?.getD undef= .pointer (some ⟨w.heap.size,1,none⟩):=Xap (i:=6) Xar ha rfl (by simpa using hall) (by simp)
   have hl:s.getD 10 false=false:=Xae hcl [9,8,7] (by kernel_rfl) (by rfl) hun
   have c1':=Xaa (hC.bel hl) c1
   refine wpOp_step hoj (fun K' hK=> ?_)
   rw [if_pos (by rfl)]
   unfold Oper.wp
   simp [go_sem,e19,c1',Oper.upon]
   exact hK _ _ ⟨x,Xac (d:=some 20) (v:=S e.path) Xar ha rfl hun,hC.step hl (Qb _ _) (by decide) (by decide) (by decide)⟩
  ·have e18:a'.tmps[18]?.getD undef=S (nameP e.kind):=Xap (i:=5) Xar ha rfl (by simpa using hall.1) (by simp)
   have e20:a'.tmps[20]?.getD undef=S e.path:=Xap (i:=7) Xar ha rfl (by first|simpa using hall.2|simpa using hall.2.1) (by simp)
   have hl:s.getD 10 false=false:=Xae hcl [9,8] (by kernel_rfl) (by rfl) hun
   have ha:=ha.trans (Xo5 (L:=hdL w.heap.size e N x) (M:=hdL w.heap.size e N (x.1,w'.heap.size)) 8 rfl (fun j hne=>by
    rcases j with _|_|_|_|_|_|_|_|_|j<;>first|rfl|(exact absurd rfl hne)|simp) hun)
   refine wpOp_step hoj (fun K' hK=> ?_)
   rw [if_pos (by rfl)]
   unfold Oper.wp
   simp [go_sem,e18,e20,Oper.upon]
   refine hK _ _ ⟨(x.1,w'.heap.size),Xac (d:=some 21) (v:= .slice (some ⟨w'.heap.size,0,none⟩) 2 2) Xar ha rfl hun,hC.at2 hl ((Qb _ _).alloc (Qn _) _) (by decide) (by decide) (fun p hp=> ?_)⟩
   have hst:=Xgm w' [nameP e.kind,e.path] 9
   simp at hp
   rcases hp with rfl|rfl
   ·exact hst 0 _ rfl
   ·exact hst 1 _ rfl
  ·have e21:a'.tmps[21]?.getD undef= .slice (some ⟨x.2,0,none⟩) 2 2:=Xap (i:=8) Xar ha rfl (by simpa using hall.1) (by simp)
   have hl:s.getD 10 false=false:=Xae hcl [9] (by kernel_rfl) (by rfl) hun
   have hf2:=hC.f2 (by simpa using hall.1) hl
   have hst:StrsAt w' x.2 0 [nameP e.kind,e.path]:=Xuw (hf2 (0,_) (by simp)) (hf2 (1,_) (by simp))
   refine wpOp_step hoj (fun K' hK=> ?_)
   rw [if_pos (by rfl)]
   unfold Oper.wp
   simp [go_sem,e21,Oper.upon]
   refine (Hst.out x.2 w' hst (hokW.below (Qn _) (hC.bel hl))).mono ?_
   rintro r4 w4 ⟨rfl,hb4⟩
   exact hK _ _ ⟨x,Xac (d:=some 22) (v:=S N) Xar ha rfl hun,hC.step hl hb4 (by decide) (by decide) (by decide)⟩
  ·have e22:a'.tmps[22]?.getD undef=S N:=Xap (i:=9) Xar ha rfl (by first|simpa using hall|simpa using hall.1|simpa using hall.2) (by simp)
   have e5:a'.tmps[5]?.getD undef= .pointer (some ⟨w1.heap.size,0,none⟩):=Xbe ha (by simp)
   have hl:s.getD 10 false=false:=Xam hun
   have hbx:=hC.bel hl
   refine wpOp_step hoj (fun K' hK=> ?_)
   rw [if_pos (by rfl)]
   unfold Oper.wp
   simp [go_sem,e22,e5,Oper.upon]
   refine (Tryz.Builder_WriteString w1.heap.size w1.heap.size _ _ _ (Xau hbd1 hbx) (by rw [ByteArray.size_mk',List.size_toArray];simp [Lib.byteCells];omega) (by have:=hbx.size;omega)).mono ?_
   rintro r5 w5 ⟨rfl,hbd5,hb5⟩
   refine hK _ _ ⟨x,Xac (d:=some 23) (v:= .tuple #[.int .i64 (N.length:Int),.nilIface]) Xar ha rfl hun,QbC.end' hun ⟨.inr ?_,hbd5.lt,(hbW.trans (hbx.mono (Nat.le_of_lt hszW))).trans hb5⟩⟩
   have:=hbd5
   rw [Lib.strCells_toArray,Lib.byteCells,List.map_nil,List.nil_append] at this
   exact this
 rintro x s a' w5 hup ha hC
 obtain ⟨hbd5,hsz5,hbA⟩:=hC.fin (hup 10 (by decide))
 rw [Xa6 _ _ _ _ (fun i hi=>by rw [Nat.zero_add];exact hup i (by simpa using hi))] at ha
 subst ha
 simp only [fillAll,Act.put]
 clear hC hup
 have hok1f:∀b,w1.heap.size≤b→I b=none:=fun b hb=>hok1.fresh hb
 have hok5:Ok I w5:=hok1.below (Qn _) hbA
 have Hbd5:=Qh hbd5
 have HB5:=Qh (HB1.out.thru (hbA.mono (Qn _)))
 have hb5':=hb1'.trans (hbA.mono hb1'.size)
 have hl0:=Xru hna Hat.out
 have Hl:=Qh hl0
 have hz:numP e.attrs.length=attK e.attrs 0:=by rw [attK,List.take_zero,List.flatMap_nil,List.append_nil]
 have Hnu:=Qh (fun w hw=>Xce I hI e.attrs.length (by omega) w hw)
 rw [hz] at Hnu
 have hl0':=hl0 0
 clear hbd1 hbd5 hb1 hb1' hbA HB1 c0 c1 c2 c3 c4 c5 c6 hok1 hz hl0 Hst i0 i1 i2 hnl hnn hpn hbW hokW hszW hkn hW5
 obtain ⟨c0,c1,c2,c3,c4,c5,c6⟩:=HB5.out
 go_wp2_with fail
 refine (Hnu.out _ hok5).mono ?_
 rintro e6 w6 ⟨rfl,hb6⟩
 have hbd6:=Xau Hbd5.out hb6
 have hok6:Ok I w6:=hok5.below (Qn _) hb6
 have HB6:=Qh (HB5.out.thru hb6)
 have hb6':=hb5'.trans (hb6.mono hb5'.size)
 have hsz6:=hb6.size
 clear hb6 hb5' hok5 HB5 c0 c1 c2 c3 c4 c5 c6 Hbd5
 go_wp2_with fail
 refine (Tryz.Builder_WriteString w1.heap.size w1.heap.size _ _ _ hbd6 (by rw [ByteArray.size_mk',List.size_toArray];simp [Lib.byteCells];omega) (by omega)).mono ?_
 rintro e7 w7 ⟨rfl,hbd7,hb7⟩
 have Hbd7:=Qh (show Lib.IsBuilder 203 5 w1.heap.size w1.heap.size (Lib.byteCells (N++attK e.attrs 0)) w7 from .inr (by
  have:=hbd7
  rw [Lib.strCells_toArray,Lib.byteCells,Lib.byteCells,←List.map_append] at this
  exact this))
 have hsz7:=hbd7.lt
 have hbB:Below w1.heap.size w6 w7:=hb7
 have hok7:Ok I w7:=hok6.of_block fun b c hb=>hbB.block b (Nat.lt_of_not_le fun h=>by rw [hok1f b h] at hb;cases hb)
 have HB7:=Qh (HB6.out.far hbB hsz1)
 have hb7':=hb6'.trans (hbB.mono (Nat.le_of_lt hsz1))
 clear hbd6 hbd7 hb7 hbB hb6' hok6 HB6 Hnu
 obtain ⟨c0,c1,c2,c3,c4,c5,c6⟩:=HB7.out
 have Hv:=Qh hva
 clear hva hvx
 go_wp2_with fail
 clear c0 c1 c2 c3 c4 c5 c6
 go_loopw [32] (fun s32 wr=> ∃k:Nat,k≤e.attrs.length∧s32= .int .i64 k∧Lib.IsBuilder 203 5 w1.heap.size w1.heap.size (Lib.byteCells (N++attK e.attrs k)) wr∧Ok I wr∧EntB wr w.heap.size e (.slice aa e.attrs.length ca) (.slice ax e.exts.length cx)∧Below w.heap.size w wr∧w1.heap.size<wr.heap.size) (fun i _=>e.attrs.length-(intOf i).toNat)
 case atStart=>exact ⟨0,Nat.zero_le _,rfl,Hbd7.out,hok7,HB7.out,hb7',hsz7⟩
 case round=>
  clear Hbd7 HB7 hb7' hok7 hsz7 hsz6 hsz5
  obtain ⟨k,hk,rfl,hbd,hwr,hBe,hb,hsz⟩:=hrel
  have Hbd:=Qh hbd
  have HBe:=Qh hBe
  clear hbd hBe
  have hal:=Hl.out k
  by_cases hlt:k<e.attrs.length
  ·obtain ⟨x,b,off,cap',hlx,hvv,c0,c1⟩:=atAt Hv.out hwr k hlt
   cases hvv
   have hax:=Hat.out x (by rw [←hlx];exact List.getElem_mem hlt)
   have Hst:=Qh (Xpq hlt hlx)
   have hk1:=Xa0 x.k (by omega)
   have hk2:=Xa0 x.v (by omega)
   have hns:netsP [x.k,x.v]=netP x.k++netP x.v:=by simp [netsP]
   have Hs:=Qh (fun w hv hw=>Xfe I hI (wr.heap.size+1) 0 2 2 [x.k,x.v] rfl (by simp) (by unfold maxLen;omega) w hv (by rw [hns];simp;omega) hw)
   have HS:=Qh (show StrsAt ((wr.alloc (.cells #[S x.k,S x.v] 107)).alloc (.cells #[S x.k,S x.v] 9)) (wr.heap.size+1) 0 [x.k,x.v] by
    have:=Xgm (wr.alloc (.cells #[S x.k,S x.v] 107)) [x.k,x.v] 9
    rwa [show (wr.alloc (.cells #[S x.k,S x.v] 107)).heap.size=wr.heap.size+1 by simp] at this)
   rw [hns] at Hs
   clear hlx hns
   generalize netP x.k=p at Hst hk1 Hs
   generalize netP x.v=q at Hst hk2 Hs
   generalize attK e.attrs k=u at Hst hal Hbd
   go_wp2_with fail
   refine (Hs.out _ HS.out ((hwr.alloc _).alloc _)).mono ?_
   rintro e1 w2 ⟨rfl,hb1⟩
   have hbA:Below wr.heap.size wr w2:=(((Qb _ _).alloc (Qn _) _).alloc (by simp) _).trans (hb1.mono (by simp;omega))
   have hbd1:=Xau Hbd.out hbA
   have hok1:Ok I w2:=hwr.below (Qn _) hbA
   have HB1:=Qh (HBe.out.thru hbA)
   have hsz2:=hbA.size
   have hb1':=hb.trans (hbA.mono hb.size)
   clear hb1 hbA Hbd c0 c1 HS Hs
   go_wp2_with fail
   refine (Tryz.Builder_WriteString w1.heap.size w1.heap.size _ _ _ hbd1 (by rw [ByteArray.size_mk',List.size_toArray];simp [Lib.byteCells];omega) (by omega)).mono ?_
   rintro e2 w3 ⟨rfl,hbd2,hb2⟩
   have hsz3:=hbd2.lt
   have Hbd2:=Qh (show Lib.IsBuilder 203 5 w1.heap.size w1.heap.size (Lib.byteCells (N++attK e.attrs (k+1))) w3 from .inr (by
    have:=hbd2
    rw [Lib.strCells_toArray,Lib.byteCells,Lib.byteCells,←List.map_append,List.append_assoc,←Hst.out] at this
    exact this))
   have hbB:Below w1.heap.size w2 w3:=hb2
   have hok3:Ok I w3:=hok1.of_block fun b c hb=>hbB.block b (Nat.lt_of_not_le fun h=>by rw [hok1f b h] at hb;cases hb)
   have HB3:=Qh (HB1.out.far hbB hsz1)
   clear hbd1 hbd2 hok1 HB1 hb2
   go_wp2
   go_roundw
   case rel=>exact ⟨k+1,by omega,by go_num,Hbd2.out,hok3,HB3.out,hb1'.trans (hbB.mono (Nat.le_of_lt hsz1)),hsz3⟩
   case measure=>simp [intOf];omega
  ·have Hn:=Qh (Xrv e.attrs (k:=k) (by omega))
   rw [Hn.out] at Hbd hal
   have htn:=Xa0 e.target (by omega)
   have Hnt:=Qh (fun w hw=>Xbx I hI e.target (by omega) w hw)
   have Hh:=Qh (show N++attP e.attrs++netP e.target=headE e by rw [←HN.out];rfl)
   generalize netP e.target=q at htn Hnt Hh
   generalize attP e.attrs=u at Hbd hal Hh
   obtain ⟨c0,c1,c2,c3,c4,c5,c6⟩:=HBe.out
   go_wp2_with fail
   refine (Hnt.out _ hwr).mono ?_
   rintro e1 w2 ⟨rfl,hb1⟩
   have hbd1:=Xau Hbd.out hb1
   have hsz2:=hb1.size
   have hb1':=hb.trans (hb1.mono hb.size)
   clear hb1 Hbd c0 c1 c2 c3 c4 c5 c6 HBe
   go_wp2_with fail
   refine (Tryz.Builder_WriteString w1.heap.size w1.heap.size _ _ _ hbd1 (by rw [ByteArray.size_mk',List.size_toArray];simp [Lib.byteCells];omega) (by omega)).mono ?_
   rintro e2 w3 ⟨rfl,hbd2,hb2⟩
   have hsz3:=hbd2.lt
   have Hbd2:=Qh (show Lib.IsBuilder 203 5 w1.heap.size w1.heap.size (Lib.byteCells (headE e)) w3 from .inr (by
    have:=hbd2
    rw [Lib.strCells_toArray,Lib.byteCells,Lib.byteCells,←List.map_append,Hh.out] at this
    exact this))
   have hb2':=hb1'.trans (hb2.mono (Nat.le_of_lt hsz1))
   clear hbd1 hbd2 hb2
   go_wp2_with fail
   refine (Tryz.Builder_String_any w1.heap.size w1.heap.size _ _ Hbd2.out (Nat.le_of_lt hsz3)).mono ?_
   rintro e3 w4 ⟨rfl,hb4⟩
   go_wp2
   go_ret2
   exact ⟨rfl,hb2'.trans (hb4.mono (Nat.le_of_lt hsz1))⟩
theorem Xb3 {b:Nat} {u v z:Bytes} {w:World} (h:Lib.BuilderAt 203 5 b b (.pointer (some ⟨b,0,none⟩)) (Lib.byteCells u++Lib.strCells ⟨v.toArray⟩) w) (e:u++v=z):Lib.IsBuilder 203 5 b b (Lib.byteCells z) w:= .inr (by
 rw [Lib.strCells_toArray,show Lib.byteCells u++Lib.byteCells v=Lib.byteCells z by rw [←e];simp [Lib.byteCells]] at h
 exact h)
set_option maxRecDepth 100000 in
set_option maxHeartbeats 4000000 in
theorem Xpa (I:IH) (hI:Glob I) (e:Ent) (va vx:Value) (hva:RdS tAt I va e.attrs) (hvx:RdS tXt I vx e.exts) (hwf:e.Wf) (hpl:e.path.length≤4294967280) (htl:e.target.length≤4294967280) (hc:EncOk e) (he:entErr e=0) (hx:e.exts.length≤1000) (w:World) (hw:Ok I w):
 Calls Tryz.prog 155 #[entV e va vx] w fun r w'=>r= .returned (.tuple #[S (encE e),.int .i64 0])∧Below w.heap.size w w':=by
 have Hck:=Qh (fun w hw=>Xtk I hI e va vx hva hvx hwf hpl htl hc he w hw)
 obtain ⟨aa,ca,rfl,_,_,_⟩:=id hva
 obtain ⟨ax,cx,rfl,_,_,_⟩:=id hvx
 have Hv:=Qh hvx
 have hs0:=hc.s0
 have hs1:=hc.s1
 have hd32:=hc.digest
 have Hxs:=Qh hc.xts
 have Hl:=Qh (Xlq hc hx)
 have hl0:=Hl.out 0
 have hhl:=Xi5 hc
 have Hz:=Qh (show netP (headE e)++numP e.size++netP e.digest++numP e.exts.length=encK e 0 from (Xo6 e).symm)
 have hl1:=Xa0 (headE e) (by omega)
 have hl2:=Xbp hs0 (by omega)
 have hl3:=Xa0 e.digest (by omega)
 have hl4:=Xbu e.exts.length (by omega)
 have H1:=Qh (fun w hw=>Xbx I hI (headE e) (by omega) w hw)
 have H2:=Qh (fun w hw=>Xd4 I hI e.size hs0 (by omega) w hw)
 have H3:=Qh (fun w hw=>Xbx I hI e.digest (by omega) w hw)
 have H4:=Qh (fun w hw=>Xce I hI e.exts.length (by omega) w hw)
 clear hva hvx hc he
 generalize netP (headE e)=p1 at Hz hl1 H1
 generalize numP e.size=p2 at Hz hl2 H2
 generalize netP e.digest=p3 at Hz hl3 H3
 generalize numP (e.exts.length:Int)=p4 at Hz hl4 H4
 generalize headE e=hd at Hck H1 hhl hl1
 go_enter Tryz.func155,Tryz.ntmps155
 go_wp2_with fail
 refine (Hck.out _ (hw.alloc _)).mono ?_
 rintro e1 w1 ⟨rfl,hb1⟩
 have HB1:=Qh (entB (e:=e) rfl hb1)
 have hok1:Ok I w1:=(hw.alloc _).below (Qn _) hb1
 have hb1':=((Qb w.heap.size w).alloc (Qn _) (.cells #[.int .i64 e.kind,S e.path,.slice aa e.attrs.length ca,S e.target,.int .i64 e.size,S e.digest,.slice ax e.exts.length cx] 81)).trans (hb1.mono (by simp))
 have hbd1:Lib.IsBuilder 203 5 w1.heap.size w1.heap.size (Lib.byteCells []) (w1.alloc (.cells #[.pointer none,.slice none 0 0] 203)):=Lib.fresh_isBuilder _ _ w1
 have hsz1:w.heap.size<w1.heap.size:=by have:=hb1.size;simp at this;omega
 have hok1f:∀b,w1.heap.size≤b→I b=none:=fun b hb=>hok1.fresh hb
 have HB1a:=Qh (EntB.past HB1.out (.cells #[.pointer none,.slice none 0 0] 203))
 have hok1a:Ok I (w1.alloc (.cells #[.pointer none,.slice none 0 0] 203)):=hok1.alloc _
 obtain ⟨c0,c1,c2,c3,c4,c5,c6⟩:=HB1a.out
 have e4:=cell_regrown c4
 have e5:=cell_regrown c5
 have e6:=cell_regrown c6
 clear hb1 Hck c0 c1 c2 c3
 go_wp2_with fail
 refine Xba 15 (by kernel_rfl) (by kernel_rfl) ?_
 simp only [List.take_succ_cons,List.take_zero,List.drop_succ_cons,List.drop_zero]
 repeat (go_big_quiet_step ((with_reducible first|exact Calls.regrown_of (H1.out _ (hok1a.below (Qn _) (below_regrown _ _ _)))|exact Calls.regrown_of (H2.out _ (hok1a.below (Qn _) (below_regrown _ _ _)))|exact Calls.regrown_of (H3.out _ (hok1a.below (Qn _) (below_regrown _ _ _)))|exact Calls.regrown_of (H4.out _ (hok1a.below (Qn _) (below_regrown _ _ _))))))
 refine wpQuiet_nil ?_
 intro w2 hwq
 have hb2:Below ((w1.alloc (.cells #[.pointer none,.slice none 0 0] 203))).heap.size ((w1.alloc (.cells #[.pointer none,.slice none 0 0] 203))) w2:=by
  obtain ⟨pq,rfl⟩:=hwq
  exact below_regrown _ _ _
 clear hwq
 have hbd2:=Xau hbd1 hb2
 have hok2:Ok I w2:=hok1a.below (Qn _) hb2
 have HB2:=Qh (HB1a.out.thru hb2)
 have hb2':Below w.heap.size w w2:=(hb1'.alloc (by have:=hb1'.size;omega) (.cells #[.pointer none,.slice none 0 0] 203)).trans (hb2.mono (by simp;omega))
 have hsz2:w1.heap.size≤w2.heap.size:=by have:=hb2.size;simp at this;omega
 clear e4 e5 e6 c4 c5 c6 hb2 HB1 HB1a hbd1 hok1 hok1a hb1' H1 H2 H3 H4
 go_wp2_with fail
 refine (Tryz.Builder_WriteString w1.heap.size w1.heap.size _ _ _ hbd2 (by rw [ByteArray.size_mk',List.size_toArray];simp [Lib.byteCells];omega) (by omega)).mono ?_
 rintro e7 w7 ⟨rfl,hbd7,hb7⟩
 have hsz7:=hbd7.lt
 have Hbd7:=Qh (Xb3 (z:=encK e 0) hbd7 (by rw [←Hz.out];simp))
 have hok7:Ok I w7:=hok2.of_block fun b c hb=>hb7.block b (Nat.lt_of_not_le fun h=>by rw [hok1f b h] at hb;cases hb)
 have HB7:=Qh (HB2.out.far hb7 hsz1)
 have hb7':=hb2'.trans (hb7.mono (Nat.le_of_lt hsz1))
 clear hbd2 hbd7 hb7 hb2' hok2 HB2 hl0 hsz2
 obtain ⟨c0,c1,c2,c3,c4,c5,c6⟩:=HB7.out
 go_wp2_with fail
 clear c0 c1 c2 c3 c4 c5 c6
 go_loopw [36] (fun s36 wr=> ∃k:Nat,k≤e.exts.length∧s36= .int .i64 k∧Lib.IsBuilder 203 5 w1.heap.size w1.heap.size (Lib.byteCells (encK e k)) wr∧Ok I wr∧Below w.heap.size w wr∧w1.heap.size<wr.heap.size) (fun i _=>e.exts.length-(intOf i).toNat)
 case atStart=>exact ⟨0,Nat.zero_le _,rfl,Hbd7.out,hok7,hb7',hsz7⟩
 case round=>
  clear Hbd7 HB7 hb7' hok7 hsz7
  obtain ⟨k,hk,rfl,hbd,hwr,hb,hsz⟩:=hrel
  have Hbd:=Qh hbd
  clear hbd
  have hal:=Hl.out k
  by_cases hlt:k<e.exts.length
  ·obtain ⟨x,b,off,cap',hlx,hvv,c0,c1,c2⟩:=xtAt Hv.out hwr k hlt
   cases hvv
   obtain ⟨y0,y1,y2,y3,y4,y5⟩:=Hxs.out x (by rw [←hlx];exact List.getElem_mem hlt)
   have Hst:=Qh (Xo7 hlt hlx)
   have hm1:=Xbp (n:=x.s) (by omega) (by omega)
   have hm2:=Xbp (n:=x.o) (by omega) (by omega)
   have hm3:=Xbp (n:=x.n) (by omega) (by omega)
   have H1:=Qh (fun w hw=>Xd4 I hI x.s (by omega) (by omega) w hw)
   have H2:=Qh (fun w hw=>Xd4 I hI x.o (by omega) (by omega) w hw)
   have H3:=Qh (fun w hw=>Xd4 I hI x.n (by omega) (by omega) w hw)
   have hwa:Ok I (wr.alloc (.cells #[.int .i64 x.s,.int .i64 x.o,.int .i64 x.n] 109)):=hwr.alloc _
   have g0:=cell_regrown (show (wr.alloc (.cells #[.int .i64 x.s,.int .i64 x.o,.int .i64 x.n] 109)).cell? ⟨wr.heap.size,0,none⟩=some (.int .i64 x.s) by simp)
   have g1:=cell_regrown (show (wr.alloc (.cells #[.int .i64 x.s,.int .i64 x.o,.int .i64 x.n] 109)).cell? ⟨wr.heap.size,1,none⟩=some (.int .i64 x.o) by simp)
   have g2:=cell_regrown (show (wr.alloc (.cells #[.int .i64 x.s,.int .i64 x.o,.int .i64 x.n] 109)).cell? ⟨wr.heap.size,2,none⟩=some (.int .i64 x.n) by simp)
   clear hlx
   generalize numP x.s=q1 at Hst hm1 H1
   generalize numP x.o=q2 at Hst hm2 H2
   generalize numP x.n=q3 at Hst hm3 H3
   generalize encK e k=u at Hst hal Hbd
   go_wp2_with fail
   refine Xba 11 (by kernel_rfl) (by kernel_rfl) ?_
   simp only [List.take_succ_cons,List.take_zero,List.drop_succ_cons,List.drop_zero]
   repeat (go_big_quiet_step ((with_reducible first|exact Calls.regrown_of (H1.out _ (hwa.below (Qn _) (below_regrown _ _ _)))|exact Calls.regrown_of (H2.out _ (hwa.below (Qn _) (below_regrown _ _ _)))|exact Calls.regrown_of (H3.out _ (hwa.below (Qn _) (below_regrown _ _ _))))))
   refine wpQuiet_nil ?_
   intro w2 hwq
   have hb2:Below ((wr.alloc (.cells #[.int .i64 x.s,.int .i64 x.o,.int .i64 x.n] 109))).heap.size ((wr.alloc (.cells #[.int .i64 x.s,.int .i64 x.o,.int .i64 x.n] 109))) w2:=by
    obtain ⟨pq,rfl⟩:=hwq
    exact below_regrown _ _ _
   clear hwq
   have hbd2:=Xau (Xh3 Hbd.out _) hb2
   have hok2:Ok I w2:=hwa.below (Qn _) hb2
   have hb2':Below w.heap.size w w2:=(hb.alloc hb.size (.cells #[.int .i64 x.s,.int .i64 x.o,.int .i64 x.n] 109)).trans (hb2.mono (by have:=hb.size;simp;omega))
   have hsz2:w1.heap.size≤w2.heap.size:=by have:=hb2.size;simp at this;omega
   clear g0 g1 g2 hb2 hwa Hbd c0 c1 c2 H1 H2 H3
   go_wp2_with fail
   refine (Tryz.Builder_WriteString w1.heap.size w1.heap.size _ _ _ hbd2 (by rw [ByteArray.size_mk',List.size_toArray];simp [Lib.byteCells];omega) (by omega)).mono ?_
   rintro e7 w7 ⟨rfl,hbd7,hb7⟩
   have hsz7:=hbd7.lt
   have Hbd7:=Qh (Xb3 (z:=encK e (k+1)) hbd7 (by rw [Hst.out];simp))
   have hok7:Ok I w7:=hok2.of_block fun b c hb=>hb7.block b (Nat.lt_of_not_le fun h=>by rw [hok1f b h] at hb;cases hb)
   have hb7':=hb2'.trans (hb7.mono (Nat.le_of_lt hsz1))
   clear hbd2 hbd7 hb7 hb2' hok2
   go_wp2
   go_roundw
   case rel=>exact ⟨k+1,by omega,by go_num,Hbd7.out,hok7,hb7',hsz7⟩
   case measure=>simp [intOf];omega
  ·have Hn:=Qh (Xlr e (k:=k) (by omega))
   rw [Hn.out] at Hbd
   go_wp2_with fail
   refine (Tryz.Builder_String_any w1.heap.size w1.heap.size _ _ Hbd.out (Nat.le_of_lt hsz)).mono ?_
   rintro e3 w4 ⟨rfl,hb4⟩
   go_wp2
   go_ret2
   exact ⟨rfl,hb.trans (hb4.mono (Nat.le_of_lt hsz1))⟩
abbrev sesCs (s:Ses) (ve:Value):List Value:= [.int .i64 s.num,.int .i64 s.date,S s.prev,ve,S s.stream,S s.sl]
abbrev sesV (s:Ses) (ve:Value):Value:= .agg #[.int .i64 s.num,.int .i64 s.date,S s.prev,ve,S s.stream,S s.sl]
def tSes:Ty Ses where
 size:=6
 rd:=fun I cs s=> ∃ve,cs=sesCs s ve∧RdS tEnt I ve s.ents
 len:=fun ⟨_,h,_⟩=>by rw [h];rfl
 one:=fun ⟨ve,h,h1⟩ u hu=>by
  rw [h] at hu
  simp at hu
  rcases hu with rfl|rfl|rfl|rfl|rfl|rfl<;>first|rfl|exact h1.one
 mono:=fun hI ⟨ve,h,h1⟩=>⟨ve,h,h1.mono hI⟩
structure SesAt (w:World) (b o:Nat) (s:Ses) (ve:Value):Prop where
 c0:w.cell? ⟨b,o,none⟩=some (.int .i64 s.num)
 c1:w.cell? ⟨b,o+1,none⟩=some (.int .i64 s.date)
 c2:w.cell? ⟨b,o+2,none⟩=some (S s.prev)
 c3:w.cell? ⟨b,o+3,none⟩=some ve
 c4:w.cell? ⟨b,o+4,none⟩=some (S s.stream)
 c5:w.cell? ⟨b,o+5,none⟩=some (S s.sl)
structure SesB (w:World) (n:Nat) (s:Ses) (ve:Value):Prop where
 c0:w.cell? ⟨n,0,none⟩=some (.int .i64 s.num)
 c1:w.cell? ⟨n,1,none⟩=some (.int .i64 s.date)
 c2:w.cell? ⟨n,2,none⟩=some (S s.prev)
 c3:w.cell? ⟨n,3,none⟩=some ve
 c4:w.cell? ⟨n,4,none⟩=some (S s.stream)
 c5:w.cell? ⟨n,5,none⟩=some (S s.sl)
theorem SesB.thru {w w':World} {b:Nat} {s:Ses} {ve:Value} (h:SesB w b s ve) (hb:Below w.heap.size w w'):SesB w' b s ve:=
 ⟨Xaa hb h.c0,Xaa hb h.c1,Xaa hb h.c2,Xaa hb h.c3,Xaa hb h.c4,Xaa hb h.c5⟩
theorem SesB.past {w:World} {b:Nat} {s:Ses} {ve:Value} (h:SesB w b s ve) (x:Obj):SesB (w.alloc x) b s ve:=
 ⟨Xad x h.c0,Xad x h.c1,Xad x h.c2,Xad x h.c3,Xad x h.c4,Xad x h.c5⟩
theorem SesB.far {w w':World} {b B:Nat} {s:Ses} {ve:Value} (h:SesB w b s ve) (hb:Below B w w') (hn:b<B):SesB w' b s ve:=
 ⟨(hb.cell hn).trans h.c0,(hb.cell hn).trans h.c1,(hb.cell hn).trans h.c2,(hb.cell hn).trans h.c3,(hb.cell hn).trans h.c4,(hb.cell hn).trans h.c5⟩
theorem sesB {W w':World} {s:Ses} {ve:Value} {t:TypeId} {n:Nat} (hn:n=W.heap.size) (hb:Below (W.alloc (.cells #[.int .i64 s.num,.int .i64 s.date,S s.prev,ve,S s.stream,S s.sl] t)).heap.size (W.alloc (.cells #[.int .i64 s.num,.int .i64 s.date,S s.prev,ve,S s.stream,S s.sl] t)) w'):SesB w' n s ve:=by
 subst hn
 exact SesB.thru ⟨by simp,by simp,by simp,by simp,by simp,by simp⟩ hb
theorem Xsm {I:IH} {v:Value} {l:List Ses} {w:World} (h:RdS tSes I v l) (hw:Ok I w) (i:Nat) (hi:i<l.length):∃x ve b off cap,l[i]=x∧v= .slice (some ⟨b,off,none⟩) l.length cap∧
 SesAt w b (off+i*6) x ve∧RdS tEnt I ve x.ents:=by
 obtain ⟨b,off,cap,cs,hv,⟨ve,hcs,h1⟩,hc⟩:=h.at_ hw hi
 subst hcs
 exact ⟨_,ve,b,off,cap,rfl,hv,⟨hc 0 _ rfl,hc 1 _ rfl,hc 2 _ rfl,hc 3 _ rfl,hc 4 _ rfl,hc 5 _ rfl⟩,h1⟩
structure SesG (s:Ses):Prop where
 nents:s.ents.length≤30
 stream:s.stream.length≤1000
 prev:s.prev.length≤100
 sl:s.sl.length≤2100
 wf:∀e∈s.ents,e.Wf
 path:∀e∈s.ents,e.path.length≤300
 target:∀e∈s.ents,e.target.length≤300
 exts:∀e∈s.ents,e.exts.length≤30
 num: -9223372036854775808≤s.num∧s.num≤9223372036854775807
 date: -9223372036854775808≤s.date∧s.date≤9223372036854775807
def sesK (s:Ses) (k:Nat):Bytes:=sesHead s++(s.ents.take k).flatMap encE
theorem Xn2 {s:Ses} {k:Nat} (hk:k<s.ents.length) {x:Ent} (hx:s.ents[k]=x):sesK s (k+1)=sesK s k++encE x:=by
 rw [sesK,sesK,List.take_succ_eq_append_getElem hk,hx,List.flatMap_append,←List.append_assoc]
 simp
theorem Xqf (s:Ses) {k:Nat} (h:s.ents.length≤k):sesK s k=sesText s:=by rw [sesK,List.take_of_length_le h];rfl
theorem Xdh (s:Bytes):(sumP s).length≤32:=by
 unfold sumP
 rw [List.length_map]
 exact Xeg _ 8
theorem Xlp:∀ {l:List Ent},(∀e∈l,EncOk e∧e.exts.length≤1000)→(l.flatMap encE).length≤54000*l.length
 | [],_=>by simp
 |e::l,h=>by
  have h1:=Xls (h e (List.mem_cons_self ..)).1 (h e (List.mem_cons_self ..)).2
  have h2:=Xlp fun x hx=>h x (List.mem_cons_of_mem _ hx)
  simp only [List.flatMap_cons,List.length_append,List.length_cons]
  omega
end Go.Proofs.YtmdfjnhfhidmhaaGreatDoor
namespace Go.Proofs.YtmdfjnhfhidmhaaGreatDoor
structure SIn (n:Nat) (s:Stt):Prop where
 ok:SOk n s
 sml:SmlT s.tree
theorem Xn1:SIn 0 nilS:=⟨Xsk,fun _ h=>(by cases h)⟩
theorem SIn.mono {n m:Nat} {s:Stt} (h:SIn n s) (hm:n≤m):SIn m s:=⟨h.ok.mono hm,h.sml⟩
theorem Xhd {n:Nat} {s:Stt} (h:SIn n s) (e:Ent) (d:Int) (hp:e.path.length≤300) (ht:e.target.length≤300):SIn (n+1) (stpP s e d).1:=by
 refine ⟨Xqa h.ok e d,?_⟩
 unfold stpP
 split
 ·exact h.sml
 ·rename_i h1
  split
  ·exact h.sml
  ·split
   ·exact h.sml
   ·have ha:=Xde (t:=s.tree) (e:=e) (by omega)
    obtain ⟨_,hx⟩:=applyT_iff.1 ha
    intro z hz
    rw [hx] at hz
    rcases (Xtc h.ok.tree.srt e z).1 hz with ⟨_,rfl⟩|⟨hz,_⟩
    ·omega
    ·exact h.sml z hz
theorem Xn4:∀(l:List Ent) {n:Nat} {s:Stt} (_:SIn n s) (d:Int),(∀e∈l,e.path.length≤300∧e.target.length≤300)→SIn (n+l.length) (runS s d l)
 | [],_,_,h,_,_=>h
 |e::l,n,s,h,d,hl=>by
  have he:=hl e (List.mem_cons_self ..)
  have:=Xn4 l (Xhd h e d he.1 he.2) d fun x hx=>hl x (List.mem_cons_of_mem _ hx)
  exact this.mono (by simp;omega)
theorem Xqk (s:Stt) (d:Int) (l:List Ent) (e:Ent):runS s d (l++ [e])=(stpP (runS s d l) e d).1:=by simp [runS]
theorem Xqj {s:Stt} {d:Int} {l:List Ent} {k:Nat} (hk:k<l.length) {e:Ent} (he:l[k]=e):runS s d (l.take (k+1))=(stpP (runS s d (l.take k)) e d).1:=by
 rw [List.take_succ_eq_append_getElem hk,he,Xqk]
theorem Xr3 {s:Stt} {l:List Ses} {k:Nat} (hk:k<l.length) {x:Ses} (hx:l[k]=x):aftS s (l.take (k+1))=runS (aftS s (l.take k)) x.date x.ents:=by
 rw [List.take_succ_eq_append_getElem hk,hx,Xnh];rfl
def pairs (l:List Ses):List (Ses × Ent):=l.flatMap fun s=>s.ents.map fun e=>(s,e)
def stq (s:Stt) (q:Ses × Ent):Stt:=(stpP s q.2 q.1.date).1
theorem Xij (x:Ses):∀(l:List Ent) (s:Stt),runS s x.date l=(l.map fun e=>(x,e)).foldl stq s
 | [],_=>rfl
 |e::l,s=>by
  rw [List.map_cons,List.foldl_cons]
  exact Xij x l _
theorem Xf8:∀(l:List Ses) (s:Stt),aftS s l=(pairs l).foldl stq s
 | [],_=>rfl
 |x::l,s=>by
  rw [pairs,List.flatMap_cons,List.foldl_append,←Xij]
  exact Xf8 l _
def verQ (p:Bytes):Stt→List (Ses × Ent)→List Ver
 |_,[]=> []
 |s,q::r=>(if verHit s p q.2 then [⟨q.1.num,q.1.date,q.2⟩] else [])++verQ p (stq s q) r
theorem Xhu:∀(l:List (Ses × Ent)) {n:Nat} {s:Stt} (_:SIn n s),(∀q∈l,q.2.path.length≤300∧q.2.target.length≤300)→SIn (n+l.length) (l.foldl stq s)
 | [],_,_,h,_=>h
 |q::l,n,s,h,hl=>by
  have he:=hl q (List.mem_cons_self ..)
  have:=Xhu l (Xhd h q.2 q.1.date he.1 he.2) fun x hx=>hl x (List.mem_cons_of_mem _ hx)
  exact this.mono (by simp;omega)
def gr40 (s:Ses):Bool:=decide (100<s.prev.length) || (decide (1000<s.stream.length) || (decide (2100<s.sl.length) || ((decide (12<s.ents.length)&&decide (s.ents.length≠401)) || s.ents.any greatE)))
def gr41s (s:Ses):Bool:=decide (30<s.ents.length) || gr40 s
def wtS (s:Ses):Nat:=s.stream.length+10*s.ents.length
def wtL (l:List Ses):Nat:=(l.map wtS).sum
def gr41 (l:List Ses):Bool:=decide (8<l.length) || (l.any gr41s || decide (20000<wtL l))
structure Ses.Wf (s:Ses):Prop where
 num: -9223372036854775808≤s.num∧s.num≤9223372036854775807
 date: -9223372036854775808≤s.date∧s.date≤9223372036854775807
 ents:∀e∈s.ents,e.Wf
end Go.Proofs.YtmdfjnhfhidmhaaGreatDoor
namespace Go.Proofs.YtmdfjnhfhidmhaaGreatDoor
structure Chg where
 kind:Int
 path:Bytes
 attrs:List At
 target:Bytes
 content:Bytes
structure Drf where
 num:Int
 date:Int
 prev:Bytes
 ents:List Ent
 sto:Sto
 tree:List Ent
 holds:List Ho
def nilD:Drf:=⟨0,0,[],[],⟨[],0,[]⟩,[],[]⟩
def recP (q:Sto) (c:Chg):Ent × Sto:=
 if c.kind=1 then (⟨c.kind,c.path,c.attrs,c.target,(c.content.length:Nat),sumP c.content,(putP q c.content).2.1⟩,(putP q c.content).1)
 else (⟨c.kind,c.path,c.attrs,c.target,0,[],[]⟩,q)
def Drf.stt (d:Drf):Stt:=⟨d.tree,d.holds⟩
def addP (d:Drf) (c:Chg):Drf × Int:=
 if entErr (recP d.sto c).1≠0 then (d,entErr (recP d.sto c).1)
 else if c.kind≠1∧c.content≠ [] then (d,1)
 else if 400≤d.ents.length∨14680064<(recP d.sto c).2.str.length then (d,6)
 else if (stpP d.stt (recP d.sto c).1 d.date).2≠0 then (d,(stpP d.stt (recP d.sto c).1 d.date).2)
 else (⟨d.num,d.date,d.prev,d.ents++ [(recP d.sto c).1],(recP d.sto c).2,(stpP d.stt (recP d.sto c).1 d.date).1.tree,(stpP d.stt (recP d.sto c).1 d.date).1.holds⟩,0)
def closeP (d:Drf):Ses:=⟨d.num,d.date,d.prev,d.ents,d.sto.str,[]⟩
def addsP:Drf→Nat→List Chg→Drf × Nat × Int
 |d,i,[]=>(d,i,0)
 |d,i,c::l=>if (addP d c).2≠0 then (d,i,(addP d c).2) else addsP (addP d c).1 (i+1) l
def stoE (st:List Bytes) (q:Sto) (e:Ent):Sto:=if e.kind=1 then (putP q (getP st e.exts).1).1 else q
def stoS (st:List Bytes) (q:Sto) (x:Ses):Sto:=x.ents.foldl (stoE st) (beginP q x.num).1
def nilQ:Sto:=⟨[],0,[]⟩
def strsP (L:List Ses):List Bytes:=L.map fun x=>x.stream
def repQ (L:List Ses):Sto:=L.foldl (stoS (strsP L)) nilQ
def lastDig (L:List Ses):Bytes:=match L.getLast? with|none=> []|some x=>sumP (sesText x)
def lastDt (L:List Ses):Int:=match L.getLast? with|none=>0|some x=>x.date
def openP (L:List Ses) (date:Int):Drf:=⟨(L.length:Nat)+1,date,lastDig L,[],⟨(repQ L).cks,(L.length:Nat)+1,[]⟩,(aftS nilS L).tree,actP (aftS nilS L).holds date⟩
def begErr (L:List Ses) (date:Int):Int:=if 255≤L.length then 6 else if date<0∨1000000000<date then 2 else if date<lastDt L then 14 else 0
def begP (L:List Ses) (date:Int):Drf × Int:=if begErr L date≠0 then (nilD,begErr L date) else (openP L date,0)
def appErr (L:List Ses) (s:Ses):Int:=if 255≤L.length then 6 else if s.num≠(L.length:Nat)+1∨(L≠ []∧s.date<lastDt L) then 14 else if s.prev≠lastDig L then 20 else 0
def appP (L:List Ses) (s:Ses):List Ses × Int:=if appErr L s≠0 then (L,appErr L s) else (L++ [s],0)
def wrtP (L:List Ses) (date:Int) (l:List Chg):List Ses × Nat × Int:=
 if begErr L date≠0 then (L,0,begErr L date)
 else if (addsP (openP L date) 0 l).2.2≠0 then (L,(addsP (openP L date) 0 l).2.1,(addsP (openP L date) 0 l).2.2)
 else (L++ [closeP (addsP (openP L date) 0 l).1],l.length,0)
theorem Xuu {l:List Xt} {x y:Xt} (h:y∈addX l x) {m:Int} (hl:∀z∈l,z.s≤m) (hx:x.s≤m):y.s≤m:=by
 unfold addX at h
 split at h
 ·rw [List.mem_singleton.1 h];exact hx
 ·rename_i z hz
  split at h
  ·rcases List.mem_append.1 h with h|h
   ·exact hl y (List.dropLast_subset _ h)
   ·rw [List.mem_singleton.1 h];exact hl z (List.mem_of_getLast? hz)
  ·rcases List.mem_append.1 h with h|h
   ·exact hl y h
   ·rw [List.mem_singleton.1 h];exact hx
structure CkW (m:Int) (c:Ck):Prop where
 x:XB 65536 c.x
 s:c.x.s≤m
 d:c.d.length≤32
theorem Xub (s:Bytes):(sumP s).length≤32:=Xdh s
structure StoW (q:Sto):Prop where
 s0:1≤q.ses
 s1:q.ses≤255
 str:q.str.length≤4294901760
 cx:∀c∈q.cks,CkW q.ses c
structure StB (q:Sto) (b:Nat) (p:Sto × List Xt):Prop where
 ses:p.1.ses=q.ses
 str:p.1.str.length≤q.str.length+b
 cks:p.1.cks.length≤q.cks.length+b
 len:p.2.length≤b
 cx:∀c∈p.1.cks,CkW q.ses c
 xs:∀x∈p.2,XB (65536*b) x
 x0:∀x∈p.2,x.s≤q.ses
theorem StB.add {q:Sto} {b n:Nat} {p:Sto × List Xt} (h:StB q b p) (hn:1≤n) {x:Xt} (hx:XB 65536 x) (hs:x.s≤q.ses):StB q (b+n) (p.1,addX p.2 x):=
 ⟨h.ses,Nat.le_trans h.str (by omega),Nat.le_trans h.cks (by omega),by have:=(Xl9 p.2 x).1;have:=h.len;show (addX p.2 x).length≤_;omega,h.cx,
   fun z hz=>(Xpx (by decide) h.xs hx (by omega) z hz).mono (by omega),fun z hz=>Xuu hz h.x0 hs⟩
theorem Xqb {q:Sto} (hq:StoW q) {b:Nat} {p:Sto × List Xt} (h:StB q b p) {c:Bytes} (hc:c≠ []) (hb:b+c.length≤65536):StB q (b+c.length) (putO p c):=by
 have hl:=List.length_pos_iff.2 hc
 have hs:=h.ses
 obtain ⟨s,l⟩:=p
 cases hf:findX s.cks (sumP c) with
 |some x=>
  obtain ⟨k,hk,rfl⟩:=Xfu hf
  rw [Xoc hf]
  exact h.add hl (h.cx k hk).x (h.cx k hk).s
 |none=>
  have h1:=h.str
  have h2:=hq.str
  have h3:=hq.s0
  have h4:=hq.s1
  dsimp only at h1 hs
  have hx:XB 65536 (newX s c)∧(newX s c).s≤q.ses:=by
   unfold XB newX
   simp only
   omega
  have ha:=h.add hl hx.1 hx.2
  rw [Xob hf]
  refine ⟨hs,?_,?_,ha.len,fun k hk=> ?_,ha.xs,ha.x0⟩
  ·have:=h.str;simp at *;omega
  ·have:=h.cks;simp at *;omega
  ·rcases List.mem_append.1 hk with hk|hk
   ·exact h.cx k hk
   ·rw [List.mem_singleton.1 hk];exact ⟨hx.1,hx.2,Xub c⟩
theorem Xgn {q:Sto} (hq:StoW q):∀ {l:List Bytes} {b:Nat} {p:Sto × List Xt},StB q b p→(∀c∈l,c≠ [])→b+l.flatten.length≤65536→StB q (b+l.flatten.length) (l.foldl putO p)
 | [],b,p,h,_,_=>by simpa using h
 |c::l,b,p,h,hl,hb=>by
  rw [List.flatten_cons,List.length_append] at hb ⊢
  have:=Xgn hq (Xqb hq h (hl c (List.mem_cons_self ..)) (by omega)) (fun x hx=>hl x (List.mem_cons_of_mem _ hx)) (by omega)
  rw [List.foldl_cons,←Nat.add_assoc]
  exact this
theorem Xhe {q:Sto} (hq:StoW q):∀ {l:List Sg} {b:Nat} {p:Sto × List Xt},StB q b p→(∀g∈l,(g.n=0∧g.d≠ [])∨(0<g.n∧g.d= []))→b+segSz l≤65536→StB q (b+segSz l) (l.foldl putG p)
 | [],b,p,h,_,_=>by simpa [segSz] using h
 |g::l,b,p,h,hl,hb=>by
  rw [Xcy] at hb ⊢
  have hr:=fun x hx=>hl x (List.mem_cons_of_mem _ hx)
  rw [List.foldl_cons,←Nat.add_assoc]
  rcases hl g (List.mem_cons_self ..) with ⟨h0,h1⟩|⟨h0,h1⟩
  ·rw [putG,if_neg h1]
   have e:=Xf1 g.d
   have h2:=Xgn hq (l:=chunksP g.d) h Xpl (by rw [e];omega)
   rw [e] at h2
   have h3:=Xhe hq (l:=l) (b:=b+(g.n.toNat+g.d.length)) (by rw [h0];simpa using h2) hr (by omega)
   exact h3
  ·rw [putG,if_pos h1]
   have hq0:=hq.s0
   have h2:=h.add (n:=g.n.toNat+g.d.length) (by omega) (x:=⟨0,0,g.n⟩) (by unfold XB;simp only;omega) (by show (0:Int)≤_;omega)
   exact Xhe hq h2 hr (by omega)
theorem Xoe {q:Sto} (hq:StoW q) {c:Bytes} (hc:c.length≤65536):StB q c.length ((putP q c).1,(putP q c).2.1)∧(putP q c).2.2=0:=by
 have h1:=hq.s0
 have h2:=hq.s1
 have h:=Xhe hq (l:=segsP c) (b:=0) (p:=(q,[])) ⟨rfl,Qn _,Qn _,Qn _,hq.cx,fun _ h=>(by cases h),fun _ h=>(by cases h)⟩ Xe5 (by rw [Xdi];omega)
 rw [Xdi,Nat.zero_add] at h
 rw [putP,if_neg (by omega),if_neg (by omega)]
 exact ⟨h,rfl⟩
theorem Xlm {st:List Bytes}:∀ {l:List Xt} {out:Bytes},out.length≤65536→(getG st l out).1.length≤65536
 | [],out,h=>h
 |x::l,out,h=>by
  rw [getG]
  split
  ·simp
  ·rename_i h1
   split
   ·simp
   ·split
    ·simp
    ·rename_i h2 h3
     refine Xlm ?_
     rw [List.length_append]
     split
     ·rw [List.length_replicate];omega
     ·rw [List.length_take];omega
theorem Xlk (st:List Bytes) (l:List Xt):(getP st l).1.length≤65536:=Xlm (by simp)
end Go.Proofs.YtmdfjnhfhidmhaaGreatDoor
namespace Go.Proofs.YtmdfjnhfhidmhaaGreatDoor
structure Chg.Wf (c:Chg):Prop where
 k0: -9223372036854775808≤c.kind
 k1:c.kind≤9223372036854775807
 path:c.path.length≤4294967280
 attrs:∀x∈c.attrs,x.Wf
 target:c.target.length≤4294967280
 content:c.content.length≤65536
theorem Xh9 {e:Ent} (h:entErr e=0):e.Wf:=by
 have k:=Xex h
 have:=k.path;have:=k.target;have:=k.digest;have:=k.k1;have:=k.k6;have:=k.s0;have:=k.s1
 refine ⟨by omega,by omega,by omega,fun x hx=> ?_,by omega,by omega,by omega,by omega,fun x hx=> ?_⟩
 ·have:=k.att x hx
  exact ⟨by omega,by omega⟩
 ·have:=k.xts x hx
  exact ⟨⟨by omega,by omega⟩,⟨by omega,by omega⟩,⟨by omega,by omega⟩⟩
structure DrOk (n:Nat) (d:Drf):Prop where
 st:SIn n d.stt
 ents:d.ents.length≤n
 s0:1≤d.sto.ses
 s1:d.sto.ses≤255
 str:d.sto.str.length≤65536*n
 cks:d.sto.cks.length≤65536*n
 cx:∀c∈d.sto.cks,CkW d.sto.ses c
 date:0≤d.date∧d.date≤1000000000
theorem DrOk.mono {n m:Nat} {d:Drf} (h:DrOk n d) (hm:n≤m):DrOk m d:=
 ⟨h.st.mono hm,Nat.le_trans h.ents hm,h.s0,h.s1,Nat.le_trans h.str (by omega),Nat.le_trans h.cks (by omega),h.cx,h.date⟩
theorem DrOk.sto {n:Nat} {d:Drf} (h:DrOk n d) (hn:n≤60000):StoW d.sto:=⟨h.s0,h.s1,by have:=h.str;omega,h.cx⟩
structure RecB (q:Sto) (b:Nat) (r:Ent × Sto):Prop where
 ses:r.2.ses=q.ses
 str:r.2.str.length≤q.str.length+b
 cks:r.2.cks.length≤q.cks.length+b
 cx:∀c∈r.2.cks,CkW q.ses c
 len:r.1.exts.length≤b
 xs:∀x∈r.1.exts,XB (65536*b) x
 x0:∀x∈r.1.exts,x.s≤q.ses
theorem Xsb {q:Sto} (hq:StoW q) {c:Chg} (hc:c.content.length≤65536):RecB q c.content.length (recP q c):=by
 unfold recP
 split
 ·have h:=(Xoe hq hc).1
  exact ⟨h.ses,h.str,h.cks,h.cx,h.len,h.xs,h.x0⟩
 ·exact ⟨rfl,Nat.le_add_right _ _,Nat.le_add_right _ _,hq.cx,Nat.zero_le _,fun _ h=>(by cases h),fun _ h=>(by cases h)⟩
theorem Xuc (s:Bytes):(sumP s).length≤32:=Xdh s
theorem Xn8 {q:Sto} (hq:StoW q) {c:Chg} (hc:c.Wf):(recP q c).1.Wf:=by
 have hl:=hc.content
 have hb:=Xsb hq hl
 have hx:∀x∈(recP q c).1.exts,x.Wf:=fun x hx=>by
  have:=hb.xs x hx
  unfold XB at this
  exact ⟨⟨by omega,by omega⟩,⟨by omega,by omega⟩,⟨by omega,by omega⟩⟩
 have hp:=hc.path
 have ht:=hc.target
 have hs:=Xuc c.content
 unfold recP at hx ⊢
 split
 ·rename_i hk
  rw [if_pos hk] at hx
  exact ⟨hc.k0,hc.k1,by show c.path.length≤_;omega,hc.attrs,by show c.target.length≤_;omega,by show _≤((c.content.length:Nat):Int);omega,by show ((c.content.length:Nat):Int)≤_;omega,by show (sumP c.content).length≤_;omega,hx⟩
 ·exact ⟨hc.k0,hc.k1,by show c.path.length≤_;omega,hc.attrs,by show c.target.length≤_;omega,by show (-9223372036854775808:Int)≤0;decide,by show (0:Int)≤9223372036854775807;decide,by show (0:Nat)≤9223372036854775807;decide,fun _ h=>(by cases h)⟩
theorem Xgo (q:Sto) (c:Chg):(recP q c).1.kind=c.kind∧(recP q c).1.path=c.path∧(recP q c).1.attrs=c.attrs∧(recP q c).1.target=c.target:=by
 unfold recP
 split<;>exact ⟨rfl,rfl,rfl,rfl⟩
theorem Xcw {e:Ent} (h:entErr e=0):e.path.length≤300∧e.target.length≤300:=by
 have k:=Xex h
 have:=k.path;have:=k.target
 omega
theorem Xf9 (d:Drf) (c:Chg):((addP d c).2≠0∧(addP d c).1=d)∨((addP d c).2=0∧entErr (recP d.sto c).1=0∧(c.kind=1∨c.content= [])∧d.ents.length<400∧(recP d.sto c).2.str.length≤14680064∧(stpP d.stt (recP d.sto c).1 d.date).2=0∧
 (addP d c).1=⟨d.num,d.date,d.prev,d.ents++ [(recP d.sto c).1],(recP d.sto c).2,(stpP d.stt (recP d.sto c).1 d.date).1.tree,(stpP d.stt (recP d.sto c).1 d.date).1.holds⟩):=by
 unfold addP
 by_cases h1:entErr (recP d.sto c).1≠0
 ·rw [if_pos h1];exact .inl ⟨h1,rfl⟩
 rw [if_neg h1]
 by_cases h2:c.kind≠1∧c.content≠ []
 ·rw [if_pos h2];exact .inl ⟨(by decide:(1:Int)≠0),rfl⟩
 rw [if_neg h2]
 by_cases h3:400≤d.ents.length∨14680064<(recP d.sto c).2.str.length
 ·rw [if_pos h3];exact .inl ⟨(by decide:(6:Int)≠0),rfl⟩
 rw [if_neg h3]
 by_cases h4:(stpP d.stt (recP d.sto c).1 d.date).2≠0
 ·rw [if_pos h4];exact .inl ⟨h4,rfl⟩
 rw [if_neg h4]
 refine .inr ⟨rfl,by omega,?_,by omega,by omega,by omega,rfl⟩
 by_cases hk:c.kind=1
 ·exact .inl hk
 ·exact .inr (Classical.byContradiction fun q=>h2 ⟨hk,q⟩)
theorem Xse {n:Nat} {d:Drf} (h:DrOk n d) (hn:n≤60000) {c:Chg} (hc:c.content.length≤65536):DrOk (n+1) (addP d c).1:=by
 rcases Xf9 d c with ⟨_,e⟩|⟨_,h1,_,_,_,h5,e⟩
 ·rw [e];exact h.mono (by omega)
 ·have hb:=Xsb (h.sto hn) hc
  have hs:=Xcw h1
  have hst:=Xhd h.st (recP d.sto c).1 d.date hs.1 hs.2
  rw [e]
  have:=h.ents;have:=hb.str;have:=hb.cks;have:=h.str;have:=h.cks
  refine ⟨hst,by simp;omega,by rw [hb.ses];exact h.s0,by rw [hb.ses];exact h.s1,by show (recP d.sto c).2.str.length≤_;omega,by show (recP d.sto c).2.cks.length≤_;omega,fun k hk=> ?_,h.date⟩
  show CkW (recP d.sto c).2.ses k
  rw [hb.ses]
  exact hb.cx k hk
theorem Xl6 {d:Int}:∀ {l:List Ent} {s:Stt},AllOk d s l→ ∀(j:Nat) (h:j<l.length),(stpP (runS s d (l.take j)) l[j] d).2=0
 |x::l,s,⟨h1,h2⟩,0,_=>h1
 |x::l,s,⟨h1,h2⟩,j+1,h=>Xl6 h2 j (by simpa using h)
theorem Xjw:∀ {L:List Ses} {s:Stt},AllSes s L→ ∀(k:Nat) (h:k<L.length),AllOk L[k].date (aftS s (L.take k)) L[k].ents
 |x::L,s,⟨h1,h2⟩,0,_=>h1
 |x::L,s,⟨h1,h2⟩,k+1,h=>Xjw h2 k (by simpa using h)
theorem Xjx {d:Int}:∀ {l:List Ent} {s:Stt},AllOk d s l→ ∀e∈l,entErr e=0
 | [],_,_,e,he=>by cases he
 |x::l,s,⟨h1,h2⟩,e,he=>by
  rcases List.mem_cons.1 he with rfl|he
  ·exact (Xnv h1).2.2
  ·exact Xjx h2 e he
structure SesW (i:Nat) (x:Ses):Prop where
 num:x.num=(i:Nat)+1
 date:0≤x.date∧x.date≤1000000000
 prev:x.prev.length≤32
 sl:x.sl= []
 stream:x.stream.length≤14680064
 exts:∀e∈x.ents,e.exts.length≤1000
 xs:∀e∈x.ents,∀y∈e.exts,0≤y.s∧y.s≤(i:Nat)+1
structure ArcOk (n m:Nat) (L:List Ses):Prop where
 len:L.length≤m
 tot:(pairs L).length≤n
 all:AllSes nilS L
 ses:∀i x,L[i]? =some x→SesW i x
theorem Xec:ArcOk 0 0 []:=⟨Qn _,Qn _,trivial,fun i x h=>by simp at h⟩
theorem ArcOk.at_ {n m:Nat} {L:List Ses} (h:ArcOk n m L) {k:Nat} (hk:k<L.length) {x:Ses} (hx:L[k]=x):SesW k x:=h.ses k x (by rw [List.getElem?_eq_getElem hk,hx])
theorem ArcOk.okAt {n m:Nat} {L:List Ses} (h:ArcOk n m L) {k:Nat} (hk:k<L.length) {x:Ses} (hx:L[k]=x):AllOk x.date (aftS nilS (L.take k)) x.ents:=by
 have:=Xjw h.all k hk
 rw [hx] at this;exact this
theorem ArcOk.err {n m:Nat} {L:List Ses} (h:ArcOk n m L) {x:Ses} (hx:x∈L):∀e∈x.ents,entErr e=0:=by
 obtain ⟨k,hk,e⟩:=List.getElem_of_mem hx
 exact Xjx (h.okAt hk e)
theorem Xef (a b:List Ses):pairs (a++b)=pairs a++pairs b:=by simp [pairs]
theorem Xgt (x:Ses):(pairs [x]).length=x.ents.length:=by simp [pairs]
theorem Xdp {L:List Ses} {k:Nat} (hk:k<L.length) {x:Ses} (hx:L[k]=x):(pairs (L.take k)).length+x.ents.length≤(pairs L).length:=by
 have e:L=L.take k++([x]++L.drop (k+1)):=by
  rw [←hx]
  simp
 have:=congrArg (fun l=>(pairs l).length) e
 simp only [Xef,List.length_append,Xgt] at this
 omega
theorem ArcOk.ents {n m:Nat} {L:List Ses} (h:ArcOk n m L) {x:Ses} (hx:x∈L):x.ents.length≤n:=by
 obtain ⟨k,hk,e⟩:=List.getElem_of_mem hx
 have:=Xdp hk e
 have:=h.tot
 omega
theorem Xmv {L:List Ses} {k:Nat} (hk:k<L.length) {x:Ses} (hx:L[k]=x):(pairs (L.take (k+1))).length=(pairs (L.take k)).length+x.ents.length:=by
 rw [List.take_succ_eq_append_getElem hk,hx,Xef,List.length_append,Xgt]
theorem ArcOk.sin {n m:Nat} {L:List Ses} (h:ArcOk n m L) {k:Nat} (hk:k<L.length) {x:Ses} (hx:L[k]=x) (j:Nat) (hj:j≤x.ents.length):SIn n (runS (aftS nilS (L.take k)) x.date (x.ents.take j)):=by
 have hp:=Xdp hk hx
 have ht:=h.tot
 have h1:SIn (0+(pairs (L.take k)).length) (aftS nilS (L.take k)):=by
  rw [Xf8]
  refine Xhu _ Xn1 fun q hq=> ?_
  obtain ⟨s,hs,hq'⟩:=List.mem_flatMap.1 hq
  obtain ⟨e,he,rfl⟩:=List.mem_map.1 hq'
  exact Xcw (h.err (List.mem_of_mem_take hs) e he)
 have h2:=Xn4 (x.ents.take j) h1 x.date fun e he=>Xcw (h.err (by rw [←hx];exact List.getElem_mem hk) e (List.mem_of_mem_take he))
 refine h2.mono ?_
 rw [List.length_take]
 omega
theorem ArcOk.sinAll {n m:Nat} {L:List Ses} (h:ArcOk n m L):SIn n (aftS nilS L):=by
 have h1:SIn (0+(pairs L).length) (aftS nilS L):=by
  rw [Xf8]
  refine Xhu _ Xn1 fun q hq=> ?_
  obtain ⟨s,hs,hq'⟩:=List.mem_flatMap.1 hq
  obtain ⟨e,he,rfl⟩:=List.mem_map.1 hq'
  exact Xcw (h.err hs e he)
 exact h1.mono (by have:=h.tot;omega)
structure RpB (i b:Nat) (q:Sto):Prop where
 ses:q.ses=(i:Nat)
 str:q.str.length≤65536*b
 cks:q.cks.length≤65536*b
 cx:∀c∈q.cks,CkW q.ses c
theorem Xsp:RpB 0 0 nilQ:=⟨rfl,Qn _,Qn _,fun _ h=>(by cases h)⟩
theorem RpB.mono {i b c:Nat} {q:Sto} (h:RpB i b q) (hc:b≤c):RpB i c q:=⟨h.ses,Nat.le_trans h.str (by omega),Nat.le_trans h.cks (by omega),h.cx⟩
theorem RpB.begin {i b:Nat} {q:Sto} (h:RpB i b q) (hi:i<255):beginP q ((i:Nat)+1)=(⟨q.cks,(i:Nat)+1,[]⟩,0)∧RpB (i+1) b ⟨q.cks,(i:Nat)+1,[]⟩:=by
 have hs:=h.ses
 refine ⟨by rw [beginP,if_neg (by omega),if_neg (by omega)],by show ((i:Nat):Int)+1=((i+1:Nat):Int);omega,Nat.zero_le _,h.cks,fun c hc=>⟨(h.cx c hc).x,?_,(h.cx c hc).d⟩⟩
 have:=(h.cx c hc).s
 show c.x.s≤(i:Int)+1
 omega
theorem RpB.stoW {i b:Nat} {q:Sto} (h:RpB i b q) (h0:1≤i) (h1:i≤255) (hb:b≤60000):StoW q:=⟨by rw [h.ses];omega,by rw [h.ses];omega,by have:=h.str;omega,h.cx⟩
theorem RpB.step {i b:Nat} {q:Sto} (h:RpB i b q) (h0:1≤i) (h1:i≤255) (hb:b≤60000) (st:List Bytes) (e:Ent):RpB i (b+1) (stoE st q e):=by
 unfold stoE
 split
 ·have hl:=Xlk st e.exts
  have hp:=(Xoe (h.stoW h0 h1 hb) hl).1
  have h1:=hp.str;have h2:=hp.cks;have h3:=h.str;have h4:=h.cks
  dsimp only at h1 h2
  exact ⟨by rw [hp.ses];exact h.ses,by omega,by omega,fun c hc=>by rw [hp.ses];exact hp.cx c hc⟩
 ·exact h.mono (by omega)
theorem RpB.fold {i:Nat} (h0:1≤i) (h1:i≤255) (st:List Bytes):∀(l:List Ent) {b:Nat} {q:Sto},RpB i b q→b+l.length≤60000→RpB i (b+l.length) (l.foldl (stoE st) q)
 | [],b,q,h,_=>h
 |e::l,b,q,h,hb=>by
  rw [List.length_cons] at hb ⊢
  have:=RpB.fold h0 h1 st l (h.step h0 h1 (by omega) st e) (by omega)
  rw [show b+(l.length+1)=b+1+l.length by omega]
  exact this
def repK (st:List Bytes) (L:List Ses) (k:Nat):Sto:=(L.take k).foldl (stoS st) nilQ
theorem Xik (st:List Bytes) {L:List Ses} {k:Nat} (hk:k<L.length) {x:Ses} (hx:L[k]=x):repK st L (k+1)=stoS st (repK st L k) x:=by
 unfold repK
 rw [List.take_succ_eq_append_getElem hk,hx,List.foldl_append];rfl
theorem Xhj (L:List Ses):repK (strsP L) L L.length=repQ L:=by unfold repK repQ;rw [List.take_length]
theorem ArcOk.rep {n m:Nat} {L:List Ses} (h:ArcOk n m L) (hn:n≤60000) (hm:m≤254) (st:List Bytes):∀k,k≤L.length→RpB k (pairs (L.take k)).length (repK st L k)
 |0,_=>Xsp
 |k+1,hk=>by
  have ih:=h.rep hn hm st k (by omega)
  have hl:=h.len
  obtain ⟨x,hx⟩:∃x,L[k]=x:=⟨_,rfl⟩
  have hp:=Xdp (show k<L.length by omega) hx
  have ht:=h.tot
  rw [Xik st (by omega) hx,stoS,(h.at_ (by omega) hx).num,(ih.begin (by omega)).1]
  have:=RpB.fold (i:=k+1) (by omega) (by omega) st x.ents (ih.begin (by omega)).2 (by omega)
  rw [Xmv (by omega) hx]
  exact this
theorem ArcOk.repAll {n m:Nat} {L:List Ses} (h:ArcOk n m L) (hn:n≤60000) (hm:m≤254):RpB L.length n (repQ L):=by
 have:=h.rep hn hm (strsP L) L.length (Qn _)
 rw [Xhj,List.take_length] at this
 exact this.mono h.tot
theorem Xi8 (st:List Bytes) (k:Nat):∀ {l:List Xt} (out:Bytes),(∀x∈l,0≤x.s∧x.s≤(k:Nat))→k≤st.length→getG (st.take k) l out=getG st l out
 | [],_,_,_=>rfl
 |x::l,out,h,hk=>by
  have hx:=h x (List.mem_cons_self ..)
  have ih:=fun o=>Xi8 st k (l:=l) o (fun y hy=>h y (List.mem_cons_of_mem _ hy)) hk
  have h1:gBad (st.take k) x=gBad st x:=by
   unfold gBad
   rw [List.length_take,Qf (show ¬(((min k st.length:Nat):Int)<x.s) by omega),Qf (show ¬((st.length:Int)<x.s) by omega)]
  rw [getG,getG,h1]
  by_cases h0:x.s=0
  ·simp only [ih,h0]
   rfl
  ·have h2:strAtP (st.take k) x=strAtP st x:=by
    unfold strAtP
    rw [List.getD_eq_getElem?_getD,List.getD_eq_getElem?_getD,List.getElem?_take_of_lt (by omega)]
   simp only [ih,h2]
theorem Xo2 (st:List Bytes) (k:Nat) {l:List Xt} (h:∀x∈l,0≤x.s∧x.s≤(k:Nat)) (hk:k≤st.length):getP (st.take k) l=getP st l:=Xi8 st k [] h hk
end Go.Proofs.YtmdfjnhfhidmhaaGreatDoor
namespace Go.Proofs.YtmdfjnhfhidmhaaGreatDoor
theorem Xuq {L:List Ses} {date:Int} (h:begErr L date=0):L.length<255∧0≤date∧date≤1000000000∧lastDt L≤date:=by
 unfold begErr at h
 split at h
 ·omega
 ·split at h
  ·omega
  ·split at h
   ·omega
   ·omega
structure DrIn (L:List Ses) (d:Drf):Prop where
 num:d.num=(L.length:Nat)+1
 prev:d.prev=lastDig L
 last:lastDt L≤d.date
 ses:d.sto.ses=(L.length:Nat)+1
 str:d.sto.str.length≤14680064
 all:AllOk d.date (aftS nilS L) d.ents
 tree:d.tree=(runS (aftS nilS L) d.date d.ents).tree
 holds:actP d.holds d.date=actP (runS (aftS nilS L) d.date d.ents).holds d.date
 exts:∀e∈d.ents,e.exts.length≤1000
 xs:∀e∈d.ents,∀y∈e.exts,0≤y.s∧y.s≤(L.length:Nat)+1
theorem Xho {n m:Nat} {L:List Ses} (h:ArcOk n m L) (hn:n≤60000) (hm:m≤254) {date:Int} (hb:begErr L date=0):DrOk n (openP L date):=by
 have hr:=h.repAll hn hm
 have hs:=h.sinAll
 have hbo:=Xuq hb
 have hses:=hr.ses
 refine ⟨⟨⟨hs.ok.tree,hs.ok.holds.act date,hs.ok.tlen,Nat.le_trans (List.length_filter_le _ _) hs.ok.hlen⟩,hs.sml⟩,Nat.zero_le _,?_,?_,Nat.zero_le _,hr.cks,fun c hc=>⟨(hr.cx c hc).x,?_,(hr.cx c hc).d⟩,hbo.2.1,hbo.2.2.1⟩
 ·show (1:Int)≤(L.length:Nat)+1;omega
 ·show ((L.length:Nat):Int)+1≤255;omega
 ·have:=(hr.cx c hc).s
  show c.x.s≤((L.length:Nat):Int)+1
  omega
end Go.Proofs.YtmdfjnhfhidmhaaGreatDoor
namespace Go.Proofs.YtmdfjnhfhidmhaaGreatDoor
structure Acc where
 owner:Bytes
 b:Int
 f:Int
 ub:Int
 uf:Int
deriving DecidableEq
structure Rqs where
 owner:Bytes
 c:Chg
def accErr (a:Acc):Int:=if comp a.owner=false then 7 else if a.b<0∨a.f<0∨a.ub<0∨a.uf<0 then 2 else if a.b<a.ub∨a.f<a.uf then 16 else 0
def accsFrom:Option Acc→List Acc→Int
 |_,[]=>0
 |q,a::l=>if accErr a≠0 then accErr a else if (q.any fun p=> !(Op.bytesLess p.owner a.owner)) then 14 else accsFrom (some a) l
def accsErr (l:List Acc):Int:=accsFrom none l
def costB (c:Chg):Int:=if c.kind=1 then (c.content.length:Nat) else 0
def costF (c:Chg):Int:=if c.kind=1∨c.kind=2∨c.kind=3 then 1 else 0
def accIdx (l:List Acc) (o:Bytes):Nat:=l.findIdx fun a=>a.owner==o
def payA (a:Acc) (c:Chg):Acc:=⟨a.owner,a.b,a.f,a.ub+costB c,a.uf+costF c⟩
def overA (a:Acc) (c:Chg):Prop:=a.b-a.ub<costB c∨a.f-a.uf<costF c
instance (a:Acc) (c:Chg):Decidable (overA a c):=by unfold overA;exact inferInstance
def chargeG:List Acc→List Acc→Rqs→List Acc × Int
 |_,[],_=>([],9)
 |pre,a::l,r=>if a.owner=r.owner then (if overA a r.c then ([],16) else (pre++payA a r.c::l,0)) else chargeG (pre++ [a]) l r
def chargeP (l:List Acc) (r:Rqs):List Acc × Int:=chargeG [] l r
structure Ing where
 d:Drf
 l:List Acc
 es:List Int
def ingS (s:Ing) (r:Rqs):Ing:=
 if (chargeP s.l r).2≠0 then ⟨s.d,s.l,s.es++ [(chargeP s.l r).2]⟩
 else if (addP s.d r.c).2≠0 then ⟨s.d,s.l,s.es++ [(addP s.d r.c).2]⟩
 else ⟨(addP s.d r.c).1,(chargeP s.l r).1,s.es++ [0]⟩
def ingP (d:Drf) (l:List Acc) (rs:List Rqs):Ing:=rs.foldl ingS ⟨d,l,[]⟩
def weightR (r:Rqs):Nat:=10+r.owner.length+r.c.path.length+r.c.target.length+r.c.content.length+(r.c.attrs.map fun a=>10+a.k.length+a.v.length).sum
def weightP (l:List Rqs):Nat:=(l.map weightR).sum
structure Acc.Ok (a:Acc):Prop where
 own:comp a.owner=true
 ub0:0≤a.ub
 ub1:a.ub≤a.b
 uf0:0≤a.uf
 uf1:a.uf≤a.f
theorem Xp0 {a:Acc} (h:accErr a=0):a.Ok:=by
 unfold accErr at h
 split at h
 ·omega
 ·rename_i h1
  split at h
  ·omega
  ·split at h
   ·omega
   ·exact ⟨by simpa using h1,by omega,by omega,by omega,by omega⟩
theorem Acc.Ok.err {a:Acc} (h:a.Ok):accErr a=0:=by
 have:=h.ub0;have:=h.ub1;have:=h.uf0;have:=h.uf1
 unfold accErr
 rw [if_neg (by rw [h.own];simp),if_neg (by omega),if_neg (by omega)]
def SrtA (l:List Acc):Prop:=l.Pairwise fun a b=>Op.bytesLess a.owner b.owner=true
theorem Xga:∀ {l:List Acc} {q:Option Acc},accsFrom q l=0→(∀a∈l,a.Ok)∧SrtA l∧ ∀p,q=some p→ ∀a∈l,Op.bytesLess p.owner a.owner=true
 | [],_,_=>⟨fun _ h=>(by cases h),List.Pairwise.nil,fun _ _ _ h=>(by cases h)⟩
 |a::l,q,h=>by
  rw [accsFrom] at h
  by_cases h1:accErr a≠0
  ·rw [if_pos h1] at h;exact absurd h h1
  rw [if_neg h1] at h
  have ha:a.Ok:=Xp0 (by omega)
  by_cases h2:(q.any fun p=> !(Op.bytesLess p.owner a.owner))=true
  ·rw [if_pos h2] at h;exact absurd h (by decide)
  rw [if_neg h2] at h
  obtain ⟨i1,i2,i3⟩:=Xga h
  refine ⟨fun x hx=> ?_,List.pairwise_cons.2 ⟨fun x hx=>i3 a rfl x hx,i2⟩,fun p hp x hx=> ?_⟩
  ·rcases List.mem_cons.1 hx with rfl|hx
   ·exact ha
   ·exact i1 x hx
  ·subst hp
   have hpa:Op.bytesLess p.owner a.owner=true:=by simpa using h2
   rcases List.mem_cons.1 hx with rfl|hx
   ·exact hpa
   ·exact Xdz hpa (i3 a rfl x hx)
theorem Xpy {l:List Acc} (h:accsErr l=0):(∀a∈l,a.Ok)∧SrtA l:=⟨(Xga h).1,(Xga h).2.1⟩
theorem Xmb:∀ {l:List Acc} {q:Option Acc},(∀a∈l,a.Ok)→SrtA l→(∀p,q=some p→ ∀a∈l,Op.bytesLess p.owner a.owner=true)→accsFrom q l=0
 | [],_,_,_,_=>rfl
 |a::l,q,h,hs,hq=>by
  obtain ⟨s1,s2⟩:=List.pairwise_cons.1 hs
  have h2:¬(q.any fun p=> !(Op.bytesLess p.owner a.owner))=true:=by
   cases q with
   |none=>simp
   |some p=>simp [hq p rfl a (List.mem_cons_self ..)]
  rw [accsFrom,if_neg (by rw [(h a (List.mem_cons_self ..)).err];decide),if_neg h2]
  exact Xmb (fun x hx=>h x (List.mem_cons_of_mem _ hx)) s2 (fun p hp x hx=>by cases hp;exact s1 x hx)
theorem Xel (r:Rqs):∀(l pre:List Acc),(chargeG pre l r=([],9)∧ ∀a∈l,a.owner≠r.owner)∨
 ∃A a B,l=A++a::B∧(∀x∈A,x.owner≠r.owner)∧a.owner=r.owner∧chargeG pre l r=if overA a r.c then ([],16) else (pre++A++payA a r.c::B,0)
 | [],pre=> .inl ⟨rfl,fun _ h=>(by cases h)⟩
 |a::l,pre=>by
  by_cases ho:a.owner=r.owner
  ·refine .inr ⟨[],a,l,rfl,fun _ h=>(by cases h),ho,?_⟩
   rw [chargeG,if_pos ho,List.append_nil]
  ·rw [chargeG,if_neg ho]
   rcases Xel r l (pre++ [a]) with ⟨h1,h2⟩|⟨A,b,B,rfl,h2,h3,h4⟩
   ·refine .inl ⟨h1,fun x hx=> ?_⟩
    rcases List.mem_cons.1 hx with rfl|hx
    ·exact ho
    ·exact h2 x hx
   ·refine .inr ⟨a::A,b,B,rfl,fun x hx=> ?_,h3,?_⟩
    ·rcases List.mem_cons.1 hx with rfl|hx
     ·exact ho
     ·exact h2 x hx
    ·rw [h4];simp
theorem Xem (l:List Acc) (r:Rqs):(chargeP l r=([],9)∧ ∀a∈l,a.owner≠r.owner)∨
 ∃A a B,l=A++a::B∧(∀x∈A,x.owner≠r.owner)∧a.owner=r.owner∧chargeP l r=if overA a r.c then ([],16) else (A++payA a r.c::B,0):=Xel r l []
theorem Xkr (c:Chg):0≤costB c∧0≤costF c∧costF c≤1:=by
 unfold costB costF
 refine ⟨?_,?_,?_⟩<;>split<;>omega
theorem Xue {a:Acc} (h:a.Ok) {c:Chg} (hn:¬overA a c):(payA a c).Ok:=by
 have:=h.ub0;have:=h.ub1;have:=h.uf0;have:=h.uf1;have hc:=Xkr c
 unfold overA at hn
 refine ⟨h.own,?_,?_,?_,?_⟩<;>(unfold payA;dsimp only;omega)
theorem Xpm {l m:List Acc} (h:∀a∈l,a.Ok) (hs:SrtA l) {r:Rqs} (hc:chargeP l r=(m,0)):(∀a∈m,a.Ok)∧SrtA m∧m.length=l.length:=by
 rcases Xem l r with ⟨e,_⟩|⟨A,a,B,rfl,_,_,e⟩
 ·rw [e] at hc;cases hc
 ·rw [e] at hc
  split at hc
  ·cases hc
  ·rename_i hn
   cases hc
   refine ⟨fun x hx=> ?_,?_,by simp⟩
   ·rcases List.mem_append.1 hx with hx|hx
    ·exact h x (List.mem_append_left _ hx)
    ·rcases List.mem_cons.1 hx with rfl|hx
     ·exact Xue (h a (by simp)) hn
     ·exact h x (by simp [hx])
   ·unfold SrtA at hs ⊢
    rw [List.pairwise_append,List.pairwise_cons] at hs ⊢
    refine ⟨hs.1,⟨hs.2.1.1,hs.2.1.2⟩,fun x hx y hy=> ?_⟩
    rcases List.mem_cons.1 hy with rfl|hy
    ·exact hs.2.2 x hx a (List.mem_cons_self ..)
    ·exact hs.2.2 x hx y (List.mem_cons_of_mem _ hy)
end Go.Proofs.YtmdfjnhfhidmhaaGreatDoor
namespace Go.Proofs.YtmdfjnhfhidmhaaGreatDoor
def payO (r:Rqs) (a:Acc):Acc:=if a.owner=r.owner then payA a r.c else a
theorem Xud {l:List Acc} (hs:SrtA l):l.Pairwise fun a b=>a.owner≠b.owner:=hs.imp fun {a b} h e=>by
 rw [e,Xa2] at h;cases h
theorem Xle {l:List Acc} {r:Rqs} (h:∀x∈l,x.owner≠r.owner):l.map (payO r)=l:=by
 have:∀x∈l,payO r x=id x:=fun x hx=>by unfold payO;rw [if_neg (h x hx)];rfl
 rw [List.map_congr_left this,List.map_id]
theorem Xf3 {l m:List Acc} (hs:SrtA l) {r:Rqs} (hc:chargeP l r=(m,0)):m=l.map (payO r)∧ ∃a∈l,a.owner=r.owner∧ ¬overA a r.c:=by
 rcases Xem l r with ⟨e,_⟩|⟨A,a,B,rfl,hA,ho,e⟩
 ·rw [e] at hc;cases hc
 ·rw [e] at hc
  split at hc
  ·cases hc
  ·rename_i hn
   cases hc
   refine ⟨?_,a,by simp,ho,hn⟩
   have hne:=Xud hs
   rw [List.pairwise_append,List.pairwise_cons] at hne
   have hB:∀x∈B,x.owner≠r.owner:=fun x hx e=>hne.2.1.1 x hx (by rw [ho,e])
   rw [List.map_append,List.map_cons,Xle hA,Xle hB]
   congr 1
   unfold payO
   rw [if_pos ho]
def growA (a:Acc) (l:List (Rqs × Int)):Acc:=l.foldl (fun a p=>if p.1.owner=a.owner∧p.2=0 then payA a p.1.c else a) a
theorem Xcu (s:Ing) (r:Rqs):(∃e,e≠0∧ingS s r=⟨s.d,s.l,s.es++ [e]⟩∧((chargeP s.l r).2=e∨((chargeP s.l r).2=0∧(addP s.d r.c).2=e)))∨
 ((chargeP s.l r).2=0∧(addP s.d r.c).2=0∧ingS s r=⟨(addP s.d r.c).1,(chargeP s.l r).1,s.es++ [0]⟩):=by
 unfold ingS
 by_cases h1:(chargeP s.l r).2≠0
 ·rw [if_pos h1];exact .inl ⟨_,h1,rfl,.inl rfl⟩
 rw [if_neg h1]
 by_cases h2:(addP s.d r.c).2≠0
 ·rw [if_pos h2];exact .inl ⟨_,h2,rfl,.inr ⟨by omega,rfl⟩⟩
 rw [if_neg h2]
 exact .inr ⟨by omega,by omega,rfl⟩
structure AccsOk (l:List Acc):Prop where
 ok:∀a∈l,a.Ok
 srt:SrtA l
theorem AccsOk.of {l:List Acc} (h:accsErr l=0):AccsOk l:=⟨(Xpy h).1,(Xpy h).2⟩
theorem AccsOk.err {l:List Acc} (h:AccsOk l):accsErr l=0:=Xmb h.ok h.srt fun _ h=>by cases h
theorem AccsOk.charge {l m:List Acc} (h:AccsOk l) {r:Rqs} (hc:chargeP l r=(m,0)):AccsOk m∧m.length=l.length:=by
 obtain ⟨h1,h2,h3⟩:=Xpm h.ok h.srt hc
 exact ⟨⟨h1,h2⟩,h3⟩
theorem Xuh {s:Ing} (h:AccsOk s.l) (r:Rqs):AccsOk (ingS s r).l∧(ingS s r).l.length=s.l.length∧(ingS s r).es.length=s.es.length+1:=by
 rcases Xcu s r with ⟨e,_,h1,_⟩|⟨h1,_,h2⟩
 ·rw [h1];exact ⟨h,rfl,by simp⟩
 ·rw [h2]
  obtain ⟨k1,k2⟩:=h.charge (Prod.ext rfl h1:chargeP s.l r=((chargeP s.l r).1,0))
  exact ⟨k1,k2,by simp⟩
theorem Xko (a:Acc):∀l:List (Rqs × Int),(growA a l).owner=a.owner:=by
 intro l
 unfold growA
 induction l generalizing a with
 |nil=>rfl
 |cons p l ih=>
  rw [List.foldl_cons,ih]
  split<;>rfl
theorem Xfo:∀ {rs:List Rqs} {s:Ing},AccsOk s.l→ ∃es,(rs.foldl ingS s).es=s.es++es∧es.length=rs.length∧
 (rs.foldl ingS s).l=s.l.map (fun a=>growA a (rs.zip es))∧
 (rs.foldl ingS s).d=(((rs.zip es).filter fun p=>p.2==0).map fun p=>p.1.c).foldl (fun d c=>(addP d c).1) s.d∧
 (rs.foldl ingS s).d.ents.map (fun e=>(e.kind,e.path))=s.d.ents.map (fun e=>(e.kind,e.path))++((rs.zip es).filter fun p=>p.2==0).map fun p=>(p.1.c.kind,p.1.c.path)
 | [],s,_=>⟨[],by simp,rfl,by simp [growA],rfl,by simp⟩
 |r::rs,s,h=>by
  obtain ⟨k1,_,_⟩:=Xuh h r
  obtain ⟨es,i1,i2,i3,i4,i5⟩:=Xfo (rs:=rs) (s:=ingS s r) k1
  rcases Xcu s r with ⟨e,he,h1,_⟩|⟨hc,ha,h2⟩
  ·rw [h1] at i1 i3 i4 i5
   have hf:(e==0)=false:=by simpa using he
   refine ⟨e::es,by rw [List.foldl_cons,h1,i1];simp,by simp [i2],?_,?_,?_⟩
   ·rw [List.foldl_cons,h1,i3]
    refine List.map_congr_left fun a _=> ?_
    unfold growA
    rw [List.zip_cons_cons,List.foldl_cons,if_neg (fun q=>he q.2)]
   ·rw [List.foldl_cons,h1,i4,List.zip_cons_cons,List.filter_cons,if_neg (by simp [hf])]
   ·rw [List.foldl_cons,h1,i5,List.zip_cons_cons,List.filter_cons,if_neg (by simp [hf])]
  ·rw [h2] at i1 i3 i4 i5
   obtain ⟨hm,_⟩:=Xf3 h.srt (Prod.ext rfl hc:chargeP s.l r=((chargeP s.l r).1,0))
   refine ⟨0::es,by rw [List.foldl_cons,h2,i1];simp,by simp [i2],?_,?_,?_⟩
   ·rw [List.foldl_cons,h2,i3]
    dsimp only
    rw [hm,List.map_map]
    refine List.map_congr_left fun a _=> ?_
    show growA (payO r a) _=_
    unfold growA payO
    rw [List.zip_cons_cons,List.foldl_cons]
    by_cases ho:a.owner=r.owner
    ·rw [if_pos ho,if_pos ⟨ho.symm,rfl⟩]
    ·rw [if_neg ho,if_neg (fun q=>ho q.1.symm)]
   ·rw [List.foldl_cons,h2,i4,List.zip_cons_cons,List.filter_cons,if_pos (show ((r,(0:Int)).2==0)=true from rfl),List.map_cons,List.foldl_cons]
   ·rw [List.foldl_cons,h2,i5,List.zip_cons_cons,List.filter_cons,if_pos (show ((r,(0:Int)).2==0)=true from rfl),List.map_cons]
    rcases Xf9 s.d r.c with ⟨q,_⟩|⟨_,_,_,_,_,_,e⟩
    ·exact absurd ha q
    ·have hf:=Xgo s.d.sto r.c
     dsimp only
     rw [e]
     simp [hf.1,hf.2.1]
end Go.Proofs.YtmdfjnhfhidmhaaGreatDoor
