/-
  Walks and laws that the claim's theorem uses: texts DgB EeP Inv Inw ApS RfA RfC EeA EeB SeA HiS Open RowXx SwA SwB EeC BmR BmT BmU, joined; comments out. Conditions: as each theorem says.
-/
import Derived.Test.YtkipnpjagcfcpaaGreatDoorC05
import Derived.RegionTactic
import Derived.Maps.AppendAt
import Derived.ProofKit
import Derived.Deep.Slices
import Derived.Lib.LaidTab
import Derived.LaidMore
import Derived.Lay
import Derived.Stop.Joined
import Derived.Stop.LaidErr
import Derived.Test.YtkipnpjagcfcpaaGreatDoorCards
import Derived.Test.YtkipnpjagcfcpaaGreatDoorTie
import Derived.HandedShaped
import Derived.Shelf.Vars
set_option linter.all false
namespace Go.Proofs.YtkipnpjagcfcpaaGreatDoor
open Go.RowKit
def attK (l:List At) (k:Nat):Bytes:=numP l.length++(l.take k).flatMap fun a=>netP a.k++netP a.v
theorem Xlv {l:List At} {k:Nat} (hk:k<l.length) {x:At} (hx:l[k]=x):attK l (k+1)=attK l k++(netP x.k++netP x.v):=by
 rw [attK,attK,List.take_succ_eq_append_getElem hk,hx,List.flatMap_append,←List.append_assoc]
 simp
theorem Xnv (l:List At) {k:Nat} (h:l.length≤k):attK l k=attP l:=by rw [attK,attP,List.take_of_length_le h]
theorem Xnu {l:List At} (hn:l.length≤16) (h:∀a∈l,a.k.length≤32∧a.v.length≤64) (k:Nat):(attK l k).length≤2300:=by
 have h1:=Xjv (l.take k) fun a ha=>h a (List.mem_of_mem_take ha)
 have h2:=Xbg l.length (by omega)
 have h3:(l.take k).length≤l.length:=by simp;omega
 unfold attK
 rw [List.length_append]
 omega
end Go.Proofs.YtkipnpjagcfcpaaGreatDoor
namespace Go.Proofs.YtkipnpjagcfcpaaGreatDoor
structure EncOk (x:Ent):Prop where
 k1:1≤x.kind
 k6:x.kind≤6
 natt:x.attrs.length≤16
 att:∀a∈x.attrs,a.k.length≤32∧a.v.length≤64
 target:x.target.length≤200
 s0:0≤x.size
 s1:x.size≤65536
 digest:x.digest.length≤32
 path:x.path.length≤200
 xts:∀y∈x.exts,0≤y.s∧y.s≤255∧0≤y.o∧y.o≤2147483647∧1≤y.n∧y.n≤65536
theorem Xgc {f:Bool}:∀ {l:List Xt},xtsErr f l=0→ ∀y∈l,xtBad y=false
 | [],_,y,hy=>by cases hy
 |x::l,h,y,hy=>by
  unfold xtsErr at h
  split at h
  ·omega
  split at h
  ·omega
  rename_i k
  rcases List.mem_cons.1 hy with rfl|hy
  ·simpa using k
  ·exact Xgc h y hy
theorem Xr6 {x:Xt} (h:xtBad x=false):0≤x.s∧x.s≤255∧0≤x.o∧x.o≤2147483647∧1≤x.n∧x.n≤65536:=by
 unfold xtBad at h
 simp only [Bool.or_eq_false_iff,decide_eq_false_iff_not] at h
 omega
theorem Xca {x:Ent} (h:entErr x=0):EncOk x:=by
 have hk:=Xb6 h
 have hpp:=(Xcb hk.2.2.1).1
 unfold entErr at h
 rw [if_neg (by omega)] at h
 by_cases h1:pathErr x.path≠0
 ·rw [if_pos h1] at h;exact absurd h h1
 rw [if_neg h1] at h
 split at h
 ·omega
 by_cases h2:chk x.attrs≠0
 ·rw [if_pos h2] at h;exact absurd h h2
 rw [if_neg h2] at h
 split at h
 ·omega
 rename_i h3
 split at h
 ·omega
 rename_i h4
 split at h
 ·omega
 rename_i h5
 by_cases h6:xtsErr (x.kind==1) x.exts≠0
 ·rw [if_pos h6] at h;exact absurd h h6
 have hc:=Xvu (l:=x.attrs) (by omega)
 refine ⟨by omega,by omega,hc.1,hc.2,?_,by omega,by omega,?_,by omega,fun y hy=>Xr6 (Xgc (f:=x.kind==1) (Classical.byContradiction h6) y hy)⟩
 ·have ht:targetOk x=true:=by
   cases hh:targetOk x with
   |true=>rfl
   |false=>exact absurd (.inr hh) h3
  unfold targetOk at ht
  split at ht
  ·simp at ht;omega
  ·split at ht
   ·have:=Xil ht;omega
   ·have:x.target= []:=by simpa using ht
    rw [this];simp
 ·by_cases hk1:x.kind=1
  ·have:¬(x.kind=1∧x.digest.length≠32):=fun q=>h5 (.inl q)
   omega
  ·have:¬(x.kind≠1∧x.digest≠ []):=fun q=>h5 (.inr q)
   have hd:x.digest= []:=Classical.byContradiction fun q=>this ⟨hk1,q⟩
   rw [hd];simp
theorem Xbc {n:Int} (h0:0≤n) (h1:n≤140737488355200):(numP n).length≤17:=by
 obtain ⟨m,rfl⟩:=Int.eq_ofNat_of_zero_le h0
 exact Xbg m (by omega)
theorem Xha {x:Ent} (h:EncOk x):(headE x).length≤2700:=by
 have h1:=Xty h.natt h.att
 have h2:=Xe1 x.kind
 have h3:=Xaq (nameP x.kind) (by omega)
 have h4:=Xaq x.path (by have:=h.path;omega)
 have h5:=Xaq x.target (by have:=h.target;omega)
 have h6:=h.path
 have h7:=h.target
 unfold headE
 simp only [List.length_append]
 omega
def encF (e:Ent):Bytes:=netP (headE e)++numP e.size++netP e.digest++numP e.exts.length
def encK (e:Ent) (k:Nat):Bytes:=encF e++xtP (e.exts.take k)
theorem Xk8 {e:Ent} {k:Nat} (hk:k<e.exts.length) {x:Xt} (hx:e.exts[k]=x):encK e (k+1)=encK e k++(numP x.s++numP x.o++numP x.n):=by
 rw [encK,encK,List.take_succ_eq_append_getElem hk,hx,xtP,List.flatMap_append,←List.append_assoc]
 simp [xtP]
theorem Xjl (e:Ent) {k:Nat} (h:e.exts.length≤k):encK e k=encE e:=by rw [encK,List.take_of_length_le h];rfl
theorem Xk7 (e:Ent):encK e 0=encF e:=by rw [encK,List.take_zero];simp [xtP]
theorem Xtj {x:Ent} (h:EncOk x) (hx:x.exts.length≤1000):(encF x).length≤2900:=by
 have h1:=Xha h
 have h2:=Xaq (headE x) (by omega)
 have h3:=Xbc h.s0 (by have:=h.s1;omega)
 have h4:=Xaq x.digest (by have:=h.digest;omega)
 have h5:=Xbg x.exts.length (by omega)
 have h6:=h.digest
 unfold encF
 simp only [List.length_append]
 omega
theorem Xpb:∀ {l:List Xt},(∀y∈l,0≤y.s∧y.s≤255∧0≤y.o∧y.o≤2147483647∧1≤y.n∧y.n≤65536)→(xtP l).length≤51*l.length
 | [],_=>by simp [xtP]
 |y::l,h=>by
  have h1:=h y (List.mem_cons_self ..)
  have h2:=Xpb fun z hz=>h z (List.mem_cons_of_mem _ hz)
  have h3:=Xbc (n:=y.s) (by omega) (by omega)
  have h4:=Xbc (n:=y.o) (by omega) (by omega)
  have h5:=Xbc (n:=y.n) (by omega) (by omega)
  unfold xtP at*
  simp only [List.flatMap_cons,List.length_append,List.length_cons]
  omega
theorem Xjk {x:Ent} (h:EncOk x) (hx:x.exts.length≤1000) (k:Nat):(encK x k).length≤54000:=by
 have h1:=Xtj h hx
 have h2:=Xpb (l:=x.exts.take k) fun y hy=>h.xts y (List.mem_of_mem_take hy)
 have h3:(x.exts.take k).length≤x.exts.length:=by simp;omega
 unfold encK
 rw [List.length_append]
 omega
theorem Xf8 {x:Ent} (h:EncOk x) (hx:x.exts.length≤1000):(encE x).length≤54000:=by
 rw [←Xjl x (Qn _)]
 exact Xjk h hx _
end Go.Proofs.YtkipnpjagcfcpaaGreatDoor
namespace Go.Proofs.YtkipnpjagcfcpaaGreatDoor
open Go.RowKit
section
variable {P:Program} {ops:Array Oper} {md:Region.Mode} {Q:Exit→Act→World→Prop}
def leftN (s:Array Bool):Nat:=s.toList.countP (!·)
theorem Xim:∀(l:List Bool) (i:Nat),l[i]? =some false→(l.set i true).countP (!·)+1=l.countP (!·)
 | [],_,h=>absurd h (by simp)
 |b::l,0,h=>by
  simp at h
  subst h
  simp
 |b::l,i+1,h=>by
  have:=Xim l i (by simpa using h)
  simp only [List.set_cons_succ,List.countP_cons]
  omega
theorem Xih {s:Array Bool} {i:Nat} (h:s.getD i true=false):s.toList[i]? =some false:=by
 rw [Array.getElem?_toList]
 rw [Array.getD_eq_getD_getElem?] at h
 cases hs:s[i]? with
 |none=>rw [hs] at h;simp at h
 |some b=>rw [hs] at h;simpa using h
theorem Xkr {s:Array Bool} {i:Nat} (h:s.getD i true=false):leftN (s.setIfInBounds i true)+1=leftN s:=by
 unfold leftN
 rw [Array.toList_setIfInBounds]
 exact Xim _ _ (Xih h)
theorem Xqq {s:Array Bool} {i:Nat} (h:s.getD i true=false):0<leftN s:=by have:=Xkr h;omega
theorem Xpf {J:Array Bool→Act→World→Prop} (hstep:∀s a w i,J s a w→i∈Region.ready md ops s→wpOp P ops Q i (fun a' w'=>J (s.setIfInBounds i true) a' w') a w)
 (hend:∀s a w,J s a w→Region.ready md ops s= []→Q .normal a w):∀(f:Nat) (s:Array Bool) (a:Act) (w:World),leftN s≤f→J s a w→wpAny P md ops Q f s a w:=by
 intro f
 induction f with
 |zero=>
  intro s a w hf hJ
  have hr:Region.ready md ops s= []:=by
   cases h:Region.ready md ops s with
   |nil=>rfl
   |cons j l=>
    have:=Xqq (mem_ready.1 (show j∈Region.ready md ops s by rw [h];exact List.mem_cons_self ..)).1
    omega
  exact ⟨hr,hend s a w hJ hr⟩
 |succ f ih=>
  intro s a w hf hJ
  refine ⟨hend s a w hJ,fun i hi=>wpOp_mono (fun a' w' h=>ih _ _ _ ?_ h) (hstep s a w i hJ hi)⟩
  have:=Xkr (mem_ready.1 hi).1
  omega
theorem Xmk (n:Nat):leftN (Array.replicate n false)=n:=by
 simp [leftN,List.countP_replicate]
theorem Xis {id:Nat} {a:Act} {w:World} (J:Array Bool→Act→World→Prop) (hm:P.follows .mixedOrders=true) (h0:J (Array.replicate ops.size false) a { w with drawn:=w.drawn+1 })
 (hstep:∀s a w i,J s a w→i∈Region.ready .any ops s→wpOp P ops Q i (fun a' w'=>J (s.setIfInBounds i true) a' w') a w)
 (hend:∀s a w,J s a w→Region.ready .any ops s= []→Q .normal a w):(Code.region id ops true).wp P Q a w:=
 wp_region_any hm (Xpf hstep hend _ _ _ _ (by rw [Xmk];exact Qn _) h0)
def fillA:List (Option Tmp × Value)→Nat→Array Bool→Act→Act
 | [],_,_,a=>a
 |(d,v)::l,k,s,a=>fillA l (k+1) s (if s.getD k false then a.put d v else a)
theorem Xqc (a:Act) {d e:Option Tmp} (u v:Value) (h:∀t,d=some t→e≠some t):(a.put d u).put e v=(a.put e v).put d u:=by
 cases d with
 |none=>rfl
 |some d=>
  cases e with
  |none=>rfl
  |some e=>
   have hne:d≠e:=fun h'=>h d rfl (by rw [h'])
   simp only [Act.put]
   rw [Array.setIfInBounds_comm _ _ hne]
def ApartF (l:List (Option Tmp × Value)):Prop:=l.Pairwise fun p q=> ∀t,p.1=some t→q.1≠some t
theorem Xjh:∀(l:List (Option Tmp × Value)) (k:Nat) (s:Array Bool) (a:Act) (d:Option Tmp) (v:Value),(∀p∈l,∀t,d=some t→p.1≠some t)→fillA l k s (a.put d v)=(fillA l k s a).put d v
 | [],_,_,_,_,_,_=>rfl
 |(e,u)::l,k,s,a,d,v,h=>by
  rw [fillA,fillA]
  split
  ·rw [Xqc a v u (h (e,u) (List.mem_cons_self ..)),Xjh l _ _ _ _ _ fun p hp=>h p (List.mem_cons_of_mem _ hp)]
  ·rw [Xjh l _ _ _ _ _ fun p hp=>h p (List.mem_cons_of_mem _ hp)]
theorem Xij:∀(l:List (Option Tmp × Value)) (k:Nat) (s:Array Bool) (a:Act) (i:Nat),i<k→fillA l k (s.setIfInBounds i true) a=fillA l k s a
 | [],_,_,_,_,_=>rfl
 |(e,u)::l,k,s,a,i,h=>by
  rw [fillA,fillA,getD_set_ne false (by omega),Xij l (k+1) s _ i (by omega)]
theorem Xnm:∀(l:List (Option Tmp × Value)) (k i:Nat) (s:Array Bool) (a:Act) (d:Option Tmp) (v:Value),ApartF l→l[i]? =some (d,v)→s.getD (k+i) true=false→(fillA l k s a).put d v=fillA l k (s.setIfInBounds (k+i) true) a
 | [],_,_,_,_,_,_,_,h,_=>absurd h (by simp)
 |(e,u)::l,k,0,s,a,d,v,hp,h,hs=>by
  simp at h
  obtain ⟨rfl,rfl⟩:=h
  have hf:s.getD k false=false:=by
   rw [Nat.add_zero] at hs
   rw [Array.getD_eq_getD_getElem?] at hs ⊢
   cases hk:s[k]? with
   |none=>rw [hk] at hs;simp at hs
   |some b=>rw [hk] at hs;simpa using hs
  have ht:(s.setIfInBounds k true).getD k false=true:=by
   have hlt:k<s.size:=by
    rw [Nat.add_zero] at hs
    have:=Xih hs
    have:=(List.getElem?_eq_some_iff.1 this).1
    simpa using this
   simp [Array.getD_eq_getD_getElem?,hlt]
  simp only [Nat.add_zero]
  rw [fillA,fillA,ht,hf]
  simp only [Bool.false_eq_true,if_false,if_true]
  rw [Xij l (k+1) s _ k (by omega),Xjh]
  exact fun p hm t=>(List.pairwise_cons.1 hp).1 p hm t
 |(e,u)::l,k,i+1,s,a,d,v,hp,h,hs=>by
  rw [fillA,fillA,getD_set_ne false (by omega),show k+(i+1)=k+1+i by omega]
  exact Xnm l (k+1) i s _ d v (List.pairwise_cons.1 hp).2 (by simpa using h) (by rw [←hs];congr 1;omega)
theorem Xgy (a:Act) {d:Option Tmp} {t:Tmp} (v:Value) (h:d≠some t):(a.put d v).eval (.tmp t)=a.eval (.tmp t):=
 Act.eval_put fun d' hd e=>h (by rw [hd];injection e with e;rw [e])
theorem Xnb (a:Act) (d:Option Tmp) (v:Value):(a.put d v).tmps.size=a.tmps.size:=by cases d<;>simp [Act.put]
theorem Xcq:∀(l:List (Option Tmp × Value)) (k:Nat) (s:Array Bool) (a:Act) (t:Tmp),(∀p∈l,p.1≠some t)→(fillA l k s a).eval (.tmp t)=a.eval (.tmp t)
 | [],_,_,_,_,_=>rfl
 |(e,u)::l,k,s,a,t,h=>by
  rw [fillA,Xcq l _ _ _ _ fun p hp=>h p (List.mem_cons_of_mem _ hp)]
  split
  ·exact Xgy a u (h (e,u) (List.mem_cons_self ..))
  ·rfl
theorem Xk5:∀(l:List (Option Tmp × Value)) (k i:Nat) (s:Array Bool) (a:Act) (t:Tmp) (v:Value),ApartF l→l[i]? =some (some t,v)→s.getD (k+i) false=true→t<a.tmps.size→(fillA l k s a).eval (.tmp t)=v
 | [],_,_,_,_,_,_,_,h,_,_=>absurd h (by simp)
 |(e,u)::l,k,0,s,a,t,v,hp,h,hs,ht=>by
  simp at h
  obtain ⟨rfl,rfl⟩:=h
  rw [Nat.add_zero] at hs
  rw [fillA,hs,if_pos rfl,Xcq l _ _ _ _ fun p hm e=>(List.pairwise_cons.1 hp).1 p hm t rfl e]
  simp [Act.put,Act.eval,Array.getD_eq_getD_getElem?,ht]
 |(e,u)::l,k,i+1,s,a,t,v,hp,h,hs,ht=>by
  rw [fillA]
  refine Xk5 l (k+1) i s _ t v (List.pairwise_cons.1 hp).2 (by simpa using h) (by rw [←hs];congr 1;omega) ?_
  split
  ·rw [Xnb];exact ht
  ·exact ht
theorem Xd1:∀(l m:List (Option Tmp × Value)) (k:Nat) (s:Array Bool) (a:Act),l.length=m.length→(∀i,s.getD (k+i) false=true→l[i]? =m[i]?)→fillA l k s a=fillA m k s a
 | [],[],_,_,_,_,_=>rfl
 | [],_::_,_,_,_,h,_=>absurd h (by simp)
 |_::_,[],_,_,_,h,_=>absurd h (by simp)
 |(e,u)::l,(f,v)::m,k,s,a,hl,h=>by
  rw [fillA,fillA]
  have hrest:∀a',fillA l (k+1) s a'=fillA m (k+1) s a':=fun a'=>Xd1 l m (k+1) s a' (by simpa using hl) fun i hi=>by
   have:=h (i+1) (by rw [←hi];congr 1;omega)
   simpa using this
  cases hk:s.getD k false
  ·simp only [Bool.false_eq_true,if_false];exact hrest a
  ·have:=h 0 hk
   simp at this
   obtain ⟨rfl,rfl⟩:=this
   simp only [if_true];exact hrest _
theorem Xq6 (l:List (Option Tmp × Value)) (a:Act):∀(k n:Nat),fillA l k (Array.replicate n false) a=a:=by
 induction l generalizing a with
 |nil=>intro k n;rfl
 |cons p l ih=>
  intro k n
  obtain ⟨d,v⟩:=p
  have:(Array.replicate n false).getD k false=false:=by
   rw [Array.getD_eq_getD_getElem?]
   rw [Array.getElem?_replicate]
   split<;>rfl
  rw [fillA,this]
  simp only [Bool.false_eq_true,if_false]
  exact ih a _ _
end
section
variable {P:Program} {ops:Array Oper} {Q:Exit→Act→World→Prop}
def backB (ops:Array Oper):Bool:=(List.range ops.size).all fun i=>((ops[i]?).map fun o=>o.after.all fun e=>decide (e.on<i)).getD true
def fillAll:List (Option Tmp × Value)→Act→Act
 | [],a=>a
 |(d,v)::l,a=>fillAll l (a.put d v)
theorem Xbb:∀(l:List (Option Tmp × Value)) (k:Nat) (s:Array Bool) (a:Act),(∀i,i<l.length→s.getD (k+i) false=true)→fillA l k s a=fillAll l a
 | [],_,_,_,_=>rfl
 |(d,v)::l,k,s,a,h=>by
  have h0:=h 0 (by simp)
  rw [Nat.add_zero] at h0
  rw [fillA,h0,if_pos rfl,fillAll]
  exact Xbb l (k+1) s _ fun i hi=>by
   have:=h (i+1) (by simp;omega)
   rw [←this];congr 1;omega
end
section
variable {P:Program} {α:Type} {T:Ty α} {I:IH}
theorem Xgr {t ty e:TypeId} {i:TypeInfo} (ht:P.underlying t=some (.slice e)) (hi:P.info? e=some i) (w:World) (b ao:Option Addr) (n cap c:Nat) (hn:n≤cap):
 (Builtin.append_ #[t,t] ty #[.slice b n cap,.slice ao 0 c]).run P w= .ok (.slice b n cap) w:=by
 cases b<;>cases ao<;>simp [Builtin.append_,run_underlying ht,sizeOf,typeInfo,hi,Builtin.lenOf,Builtin.firstCells,loadCells,loadCellsFrom,hn,storeCells]
def SrcS (T:Ty α) (I:IH) (w:World) (v:Value) (l:List α):Prop:=
 ∃ao c cs,v= .slice ao l.length c∧LiesL T I cs l∧(0<l.length→ ∃ad,ao=some ad∧ ∀j u,cs[j]? =some u→w.cell? (ad.add j)=some u)
theorem SrcS.of_one {w:World} {x:α} {cs:List Value} {g:Nat} (hx:T.rd I cs x) (hc:∀j u,cs[j]? =some u→w.cell? ⟨g,j,none⟩=some u):SrcS T I w (.slice (some ⟨g,0,none⟩) 1 1) [x]:=
 ⟨_,_,cs,rfl,LiesL.one hx,fun _=>⟨_,rfl,fun j u hu=>by rw [Addr.add_lit,Nat.zero_add];exact hc j u hu⟩⟩
end
theorem Xad {L:List (Option Tmp × Value)} {s:Array Bool} {a a':Act} {i:Nat} {d:Option Tmp} {v:Value} (hp:ApartF L) (ha:a'=fillA L 0 s a) (hi:L[i]? =some (d,v)) (hun:s.getD i true=false):a'.put d v=fillA L 0 (s.setIfInBounds i true) a:=by
 have h:=Xnm L 0 i s a d v hp hi (by rw [Nat.zero_add];exact hun)
 rw [ha,h,Nat.zero_add]
theorem Xap {L:List (Option Tmp × Value)} {s:Array Bool} {a a':Act} {i:Nat} {t:Tmp} {v:Value} (hp:ApartF L) (ha:a'=fillA L 0 s a) (hi:L[i]? =some (some t,v)) (hs:s.getD i false=true) (ht:t<a.tmps.size):a'.tmps[t]?.getD undef=v:=by
 have h:=Xk5 L 0 i s a t v hp hi (by rw [Nat.zero_add];exact hs) ht
 rw [←ha] at h
 simpa [Act.eval] using h
theorem Xbl {L:List (Option Tmp × Value)} {s:Array Bool} {a a':Act} {t:Tmp} (ha:a'=fillA L 0 s a) (h:∀p∈L,p.1≠some t):a'.tmps[t]?.getD undef=a.tmps[t]?.getD undef:=by
 have h:=Xcq L 0 s a t h
 rw [←ha] at h
 simpa [Act.eval] using h
theorem Xan {s:Array Bool} {i:Nat} (h:s.getD i true=false):s.getD i false=false:=by
 rw [Array.getD_eq_getD_getElem?] at h ⊢
 cases hs:s[i]? with
 |none=>rfl
 |some b=>rw [hs] at h;simpa using h
theorem Xdh {s:Array Bool} {i:Nat} (h:s.getD i true=false):i<s.size:=by
 rcases Nat.lt_or_ge i s.size with h'|h'
 ·exact h'
 ·rw [Array.getD_eq_getD_getElem?,Array.getElem?_eq_none h'] at h;simp at h
theorem Xbj (n i:Nat):(Array.replicate n false).getD i false=false:=by
 rw [Array.getD_eq_getD_getElem?,Array.getElem?_replicate]
 split<;>rfl
theorem Xba {s:Array Bool} {i:Nat} (h:i<s.size):(s.setIfInBounds i true).getD i false=true:=by
 rw [Array.getD_eq_getD_getElem?,Array.getElem?_setIfInBounds_self_of_lt h];rfl
theorem Xmr {L M:List (Option Tmp × Value)} {s:Array Bool} {a:Act} (i:Nat) (hl:L.length=M.length) (h:∀j,j≠i→L[j]? =M[j]?) (hun:s.getD i true=false):fillA L 0 s a=fillA M 0 s a:=
 Xd1 _ _ _ _ _ hl fun j hj=>by
  rw [Nat.zero_add] at hj
  exact h j fun e=>by rw [e,Xan hun] at hj;cases hj
def backB2 (ops:Array Oper):Bool:=(List.range ops.size).all fun i=>((ops[i]?).map fun o=>o.after.all fun e=> !(Region.binds .any e) || decide (e.on<i)).getD true
theorem Xv3 {ops:Array Oper} {s:Array Bool} (hb:backB2 ops=true) (hr:Region.ready .any ops s= []) (hsz:s.size=ops.size):∀i,i<ops.size→s.getD i false=true:=by
 intro i
 induction i using Nat.strongRecOn with
 |_ i ih=>
  intro hi
  cases hs:s.getD i false with
  |true=>rfl
  |false=>
   exfalso
   have hs':s.getD i true=false:=by
    rw [Array.getD_eq_getD_getElem?] at hs ⊢
    have hlt:i<s.size:=by omega
    rw [Array.getElem?_eq_getElem hlt] at hs ⊢
    simpa using hs
   have:i∈Region.ready .any ops s:=mem_ready.2 ⟨hs',ops[i],Array.getElem?_eq_getElem hi,fun e he hbd=> ?_⟩
   ·rw [hr] at this;exact absurd this (by simp)
   ·have h:=List.all_eq_true.1 hb i (List.mem_range.2 hi)
    rw [Array.getElem?_eq_getElem hi] at h
    simp only [Option.map_some,Option.getD_some] at h
    obtain ⟨j,hj,rfl⟩:=Array.getElem_of_mem he
    have h2:=Array.all_eq_true.1 h j hj
    rw [hbd] at h2
    have h3:ops[i].after[j].on<i:=by simpa using h2
    exact ih _ h3 (by omega)
theorem Xgf {P:Program} {ops:Array Oper} {Q:Exit→Act→World→Prop} {X:Type} {id:Nat} {a:Act} {w:World} (L:X→List (Option Tmp × Value)) (C:X→Array Bool→World→Prop) (hm:P.follows .mixedOrders=true) (hb:backB2 ops=true) (h0:∃x,C x (Array.replicate ops.size false) { w with drawn:=w.drawn+1 })
 (hstep:∀x s a' w' i,s.size=ops.size→a'=fillA (L x) 0 s a→C x s w'→i∈Region.ready .any ops s→wpOp P ops Q i (fun a'' w''=> ∃y,a''=fillA (L y) 0 (s.setIfInBounds i true) a∧C y (s.setIfInBounds i true) w'') a' w')
 (hend:∀x s a' w',(∀i,i<ops.size→s.getD i false=true)→a'=fillA (L x) 0 s a→C x s w'→Q .normal a' w'):(Code.region id ops true).wp P Q a w:=by
 refine Xis (fun s a' w'=>s.size=ops.size∧ ∃x,a'=fillA (L x) 0 s a∧C x s w') hm ?_ ?_ ?_
 ·obtain ⟨x,hx⟩:=h0
  exact ⟨by simp,x,(Xq6 _ _ _ _).symm,hx⟩
 ·rintro s a' w' i ⟨hsz,x,ha,hx⟩ hi
  exact wpOp_mono (fun a'' w'' ⟨y,h1,h2⟩=>⟨by simpa using hsz,y,h1,h2⟩) (hstep x s a' w' i hsz ha hx hi)
 ·rintro s a' w' ⟨hsz,x,ha,hx⟩ hr
  exact hend x s a' w' (Xv3 hb hr hsz) ha hx
theorem Xgs {P:Program} {α:Type} {T:Ty α} {I:IH} {ts te ty:TypeId} {bytes:Nat} (hE:ElemOk P ts te T bytes) {w:World} {B:Nat} {v:Value} {l:List α} (hown:OwnS T te I w B v l) {vx:Value} {ys:List α} (hy:SrcS T I w vx ys)
 (hbig:(l.length+ys.length)*bytes≤140737488355328) (hl:l.length+ys.length≤9223372036854775807) (hB:B≤w.heap.size):
 ∃v' w',(Builtin.append_ #[ts,ts] ty #[v,vx]).run P w= .ok v' w'∧OwnS T te I w' B v' (l++ys)∧w.grownBy w' v.ownBlock∧ ∀g,v'.ownBlock=some g→v.ownBlock=some g∨w.heap.size≤g:=by
 obtain ⟨i,z,h1,h2,h3,h4,h5,h6,h7⟩:=hE
 obtain ⟨ao,c,cs,rfl,k1,k2⟩:=hy
 obtain ⟨xs,k3,k4⟩:=hown
 rcases Nat.eq_zero_or_pos ys.length with h0|h0
 ·have:ys= []:=List.eq_nil_of_length_eq_zero h0
  subst this
  have hv:∃b n cap,v= .slice b n cap∧n≤cap:=by
   rcases k3.2 with ⟨h8,_⟩|⟨g,cap,cur,h8,_,_,h9,_⟩
   ·exact ⟨_,_,_,h8,Qn _⟩
   ·exact ⟨_,_,_,h8,h9⟩
  obtain ⟨b,n,cap,rfl,hn⟩:=hv
  refine ⟨_,w,Xgr h1 h2 w b ao n cap c hn,⟨xs,by rw [List.append_nil];exact k3,by rw [List.append_nil];exact k4⟩,⟨rfl,rfl,rfl,Qn _,fun _ _ _=>rfl⟩,fun g hg=> .inl hg⟩
 ·obtain ⟨ad,rfl,hcs⟩:=k2 h0
  obtain ⟨v',w',hr,r1,r2,_,r4⟩:=run_append_own_at (P:=P) w B ts ty te i z T.size bytes h1 h2 h3 h4 h5 h6 h7 v l.length xs k3 ad ys.length c cs k1.1 hcs k1.oneCell (by unfold maxLen;omega) hbig hB
  refine ⟨v',w',hr,⟨xs++cs,by rw [List.length_append];exact r1,k4.append k1⟩,r2,fun g hg=> ?_⟩
  rcases r4 with r4|r4
  ·exact .inl (r4▸hg)
  ·rw [r4] at hg
   exact .inr (by cases hg;exact Qn _)
theorem Xc3 {P:Program} {α:Type} {T:Ty α} {I:IH} {ts te:TypeId} {bytes:Nat} (hE:ElemOk P ts te T bytes) {w:World} {o:Oper} {a:Act} {K:Act→World→Prop} {Q:Exit→Act→World→Prop} (s x:Operand)
 (ho:o.op= .call { callee:= .builtin .append,args:= #[s,x],argTypes:= #[ts,ts] }) {B:Nat} {v:Value} {l:List α} (hs:a.eval s=v) (hown:OwnS T te I w B v l) {vx:Value} {ys:List α} (hx:a.eval x=vx) (hy:SrcS T I w vx ys)
 (hbig:(l.length+ys.length)*bytes≤140737488355328) (hl:l.length+ys.length≤9223372036854775807) (hB:B≤w.heap.size)
 (h:∀v' w',OwnS T te I w' B v' (l++ys)→w.grownBy w' v.ownBlock→(∀g,v'.ownBlock=some g→v.ownBlock=some g∨w.heap.size≤g)→K (a.put o.dst v') w'):Oper.wp P o a w K Q:=by
 obtain ⟨v',w',hr,h1,h2,h3⟩:=Xgs (ty:=o.type) hE hown hy hbig hl hB
 unfold Oper.wp execOp
 simp only [ho,resolve,invoke,builtin,Sem.run_bind,Sem.run_pure,Result.andThen_ok,List.map_toArray,List.map_cons,List.map_nil,hs,hx,hr]
 exact h v' w' h1 h2 h3
structure A2X where
 e:Nat
 b:Nat
 v1:Value
 v2:Value
structure A2C {α:Type} (T:Ty α) (E:TypeId) (I:IH) (w3:World) (l:List α) (y:α) (row:Array Value) (i0 i2 i4 i5:Nat) (x:A2X) (s:Array Bool) (w:World):Prop where
 bel:Below w3.heap.size w3 w
 p0:s.getD i0 false=true→s.getD i2 false=false→OwnS T E I w w3.heap.size (.slice (some ⟨x.e,0,none⟩) 0 0) []
 p2:s.getD i2 false=true→s.getD i5 false=false→OwnS T E I w w3.heap.size x.v1 l
 p4:s.getD i4 false=true→s.getD i5 false=false→w.heap[x.b]? =some (.cells row E (0,0))
 p5:s.getD i5 false=true→OwnS T E I w w3.heap.size x.v2 (l++ [y])
 n0:s.getD i0 false=true→s.getD i2 false=false→s.getD i4 false=true→x.e≠x.b
 n2:s.getD i2 false=true→s.getD i4 false=true→s.getD i5 false=false→x.v1.ownBlock≠some x.b
 o2:s.getD i2 false=true→s.getD i0 false=true
 o5:s.getD i5 false=true→s.getD i2 false=true∧s.getD i4 false=true
section
variable {α:Type} {T:Ty α} {E:TypeId} {I:IH} {w3 w w':World} {l:List α} {y:α} {row:Array Value} {i0 i2 i4 i5:Nat} {x:A2X} {s:Array Bool}
theorem Xdl {v:Value} {l:List α} {B g:Nat} (h:OwnS T E I w B v l) (hg:v.ownBlock=some g):B≤g∧g<w.heap.size:=by
 obtain ⟨xs,h1,_⟩:=h
 exact h1.lt g hg
end
structure QbC (W:World) (last j1 j2:Nat) (cs1 cs2:List (Nat × Value)) (fin:World→Prop) (x:Nat × Nat) (s:Array Bool) (w:World):Prop where
 bel:s.getD last false=false→Below W.heap.size W w
 f1:s.getD j1 false=true→s.getD last false=false→ ∀p∈cs1,w.cell? ⟨x.1,p.1,none⟩=some p.2
 f2:s.getD j2 false=true→s.getD last false=false→ ∀p∈cs2,w.cell? ⟨x.2,p.1,none⟩=some p.2
 fin:s.getD last false=true→fin w
section
variable {W w w':World} {last j1 j2:Nat} {cs1 cs2:List (Nat × Value)} {fin:World→Prop} {x:Nat × Nat} {s:Array Bool}
theorem QbC.start (n:Nat) (x:Nat × Nat):QbC W last j1 j2 cs1 cs2 fin x (Array.replicate n false) { W with drawn:=W.drawn+1 }:=
 ⟨fun _=>(Qb _ _).drew,fun h=>(by rw [Xbj] at h;cases h),fun h=>(by rw [Xbj] at h;cases h),fun h=>(by rw [Xbj] at h;cases h)⟩
theorem QbC.step (h:QbC W last j1 j2 cs1 cs2 fin x s w) (hl:s.getD last false=false) (hb:Below w.heap.size w w') {i:Nat} (h1:i≠j1) (h2:i≠j2) (h3:i≠last):QbC W last j1 j2 cs1 cs2 fin x (s.setIfInBounds i true) w':=by
 refine ⟨fun _=>(h.bel hl).trans (hb.mono (h.bel hl).size),?_,?_,?_⟩
 ·rw [getD_set_ne false h1]
  exact fun a _ p hp=>Xaa hb (h.f1 a hl p hp)
 ·rw [getD_set_ne false h2]
  exact fun a _ p hp=>Xaa hb (h.f2 a hl p hp)
 ·rw [getD_set_ne false h3,hl]
  intro q
  cases q
theorem QbC.at1 (h:QbC W last j1 j2 cs1 cs2 fin x s w) (hl:s.getD last false=false) (hb:Below w.heap.size w w') (h2:j1≠j2) (h3:j1≠last) {n:Nat} (hc:∀p∈cs1,w'.cell? ⟨n,p.1,none⟩=some p.2):QbC W last j1 j2 cs1 cs2 fin (n,x.2) (s.setIfInBounds j1 true) w':=by
 refine ⟨fun _=>(h.bel hl).trans (hb.mono (h.bel hl).size),fun _ _=>hc,?_,?_⟩
 ·rw [getD_set_ne false h2]
  exact fun a _ p hp=>Xaa hb (h.f2 a hl p hp)
 ·rw [getD_set_ne false h3,hl]
  intro q
  cases q
theorem QbC.at2 (h:QbC W last j1 j2 cs1 cs2 fin x s w) (hl:s.getD last false=false) (hb:Below w.heap.size w w') (h1:j2≠j1) (h3:j2≠last) {n:Nat} (hc:∀p∈cs2,w'.cell? ⟨n,p.1,none⟩=some p.2):QbC W last j1 j2 cs1 cs2 fin (x.1,n) (s.setIfInBounds j2 true) w':=by
 refine ⟨fun _=>(h.bel hl).trans (hb.mono (h.bel hl).size),?_,fun _ _=>hc,?_⟩
 ·rw [getD_set_ne false h1]
  exact fun a _ p hp=>Xaa hb (h.f1 a hl p hp)
 ·rw [getD_set_ne false h3,hl]
  intro q
  cases q
theorem QbC.end' (hun:s.getD last true=false) (hf:fin w'):QbC W last j1 j2 cs1 cs2 fin x (s.setIfInBounds last true) w':=by
 have e:=Xba (Xdh hun)
 exact ⟨fun q=>(by rw [e] at q;cases q),fun _ q=>(by rw [e] at q;cases q),fun _ q=>(by rw [e] at q;cases q),fun _=>hf⟩
end
def Clo (ops:Array Oper) (s:Array Bool):Prop:= ∀i o,ops[i]? =some o→s.getD i false=true→ ∀e∈o.after,Region.binds .any e=true→s.getD e.on false=true
def pathB (ops:Array Oper):List Nat→Bool
 |i::j::r=>(match ops[i]? with|some o=>o.after.any fun e=>Region.binds .any e&&e.on==j|none=>false)&&pathB ops (j::r)
 |_=>true
theorem Xjq {ops:Array Oper} {s:Array Bool} (h:Clo ops s):∀(p:List Nat) (k i:Nat),pathB ops (k::p)=true→(k::p).getLast? =some i→s.getD k false=true→s.getD i false=true
 | [],k,i,_,hl,hk=>by simp at hl;exact hl▸hk
 |j::r,k,i,hp,hl,hk=>by
  unfold pathB at hp
  rw [Bool.and_eq_true] at hp
  obtain ⟨h1,h2⟩:=hp
  cases ho:ops[k]? with
  |none=>rw [ho] at h1;simp at h1
  |some o=>
   rw [ho] at h1
   simp only [Array.any_eq_true,Bool.and_eq_true,beq_iff_eq] at h1
   obtain ⟨n,hn,h3,h4⟩:=h1
   exact Xjq h r j i h2 (by simpa using hl) (h4▸h k o ho hk _ (Array.getElem_mem hn) h3)
theorem Xae {ops:Array Oper} {s:Array Bool} (h:Clo ops s) (p:List Nat) {k i:Nat} (hp:pathB ops (k::p)=true) (hl:(k::p).getLast? =some i) (hun:s.getD i true=false):s.getD k false=false:=by
 cases hk:s.getD k false with
 |false=>rfl
 |true=>have:=Xjq h p k i hp hl hk;rw [Xan hun] at this;cases this
theorem Xvq {ops:Array Oper} {s:Array Bool} (h:Clo ops s) {i:Nat} (hi:i∈Region.ready .any ops s):Clo ops (s.setIfInBounds i true):=by
 obtain ⟨hun,oi,hoi,hall⟩:=mem_ready.1 hi
 have up:∀j,s.getD j false=true→(s.setIfInBounds i true).getD j false=true:=fun j hj=>by
  by_cases e:i=j
  ·subst e;exact Xba (Xdh hun)
  ·rw [getD_set_ne false e];exact hj
 intro j o ho hj e he hb
 by_cases c:i=j
 ·subst c
  rw [hoi] at ho
  cases ho
  exact up _ (hall e he hb)
 ·rw [getD_set_ne false c] at hj
  exact up _ (h j o ho hj e he hb)
theorem Xtg {L M:List (Option Tmp × Value)} {s:Array Bool} {a:Act} (i k:Nat) (hl:L.length=M.length) (h:∀j,j≠i→j≠k→L[j]? =M[j]?) (hun:s.getD i true=false) (hk:s.getD k false=false):fillA L 0 s a=fillA M 0 s a:=
 Xd1 _ _ _ _ _ hl fun j hj=>by
  rw [Nat.zero_add] at hj
  exact h j (fun e=>by rw [e,Xan hun] at hj;cases hj) (fun e=>by rw [e,hk] at hj;cases hj)
theorem Xak {P:Program} {ops:Array Oper} {Q:Exit→Act→World→Prop} {X:Type} {id:Nat} {a:Act} {w:World} (L:X→List (Option Tmp × Value)) (C:X→Array Bool→World→Prop) (hm:P.follows .mixedOrders=true) (hb:backB2 ops=true) (h0:∃x,C x (Array.replicate ops.size false) { w with drawn:=w.drawn+1 })
 (hstep:∀x s a' w' i,s.size=ops.size→Clo ops s→a'=fillA (L x) 0 s a→C x s w'→i∈Region.ready .any ops s→wpOp P ops Q i (fun a'' w''=> ∃y,a''=fillA (L y) 0 (s.setIfInBounds i true) a∧C y (s.setIfInBounds i true) w'') a' w')
 (hend:∀x s a' w',(∀i,i<ops.size→s.getD i false=true)→a'=fillA (L x) 0 s a→C x s w'→Q .normal a' w'):(Code.region id ops true).wp P Q a w:=by
 refine Xgf (X:=X) L (fun x s w'=>Clo ops s∧C x s w') hm hb ?_ ?_ ?_
 ·obtain ⟨x,hx⟩:=h0
  exact ⟨x,fun i _ _ q=>(by rw [Xbj] at q;cases q),hx⟩
 ·rintro x s a' w' i hsz ha ⟨hcl,hC⟩ hi
  exact wpOp_mono (fun a'' w'' ⟨y,h1,h2⟩=>⟨y,h1,Xvq hcl hi,h2⟩) (hstep x s a' w' i hsz hcl ha hC hi)
 ·rintro x s a' w' hup ha ⟨_,hC⟩
  exact hend x s a' w' hup ha hC
theorem Xfe (n:Int) (h0:0≤n) (h1:n≤140737488355200) (w:World):
 Calls Tryz.prog 29 #[.int .i64 n] w fun e w'=>e= .returned (S (numP n))∧Below w.heap.size w w':=by
 obtain ⟨m,rfl⟩:=Int.eq_ofNat_of_zero_le h0
 exact Xb4 m (by omega) w
theorem Xdm (I:IH) (hI:Glob I) (n:Int) (h0:0≤n) (h1:n≤140737488355200) (w:World) (hw:Ok I w):
 Calls Tryz.prog 24 #[.int .i64 n] w fun e w'=>e= .returned (S (numP n))∧Below w.heap.size w w':=by
 obtain ⟨m,rfl⟩:=Int.eq_ofNat_of_zero_le h0
 exact Xb0 I hI m (by omega) w hw
theorem Xwt {W:World} {b:Nat} {p q:Bytes} (h0:W.cell? ⟨b,0,none⟩=some (S p)) (h1:W.cell? ⟨b,1,none⟩=some (S q)):StrsAt W b 0 [p,q]:=fun j x hx=>by
 match j with
 |0=>cases hx;exact h0
 |1=>cases hx;exact h1
 |_+2=>simp at hx
theorem Xjs {T e:TypeId} {B b:Nat} {bs:List Value} {w:World} (h:Lib.IsBuilder T e B b bs w) (o:Obj):Lib.IsBuilder T e B b bs (w.alloc o):=Xat h ((Qb _ _).alloc (Qn _) _)
set_option maxRecDepth 100000 in
theorem Xtk (k:Int) (h1:1≤k) (h2:k≤6) (w:World):
 Calls Tryz.prog 63 #[] w fun e w'=>e= .returned (.slice (some ⟨w.heap.size,0,none⟩) 6 6)∧w'.cell? ⟨w.heap.size,k.toNat-1,none⟩=some (S (nameP k))∧Below w.heap.size w w'∧w.heap.size<w'.heap.size:=by
 go_enter Tryz.func63,Tryz.ntmps63
 go_wp2
 go_ret
 refine ⟨rfl,?_,(Qb _ _).alloc (Qn _) _,by simp⟩
 have:k=1∨k=2∨k=3∨k=4∨k=5∨k=6:=by omega
 rcases this with rfl|rfl|rfl|rfl|rfl|rfl<;>simp [nameP]
theorem EntB.far {w w':World} {n B:Nat} {e:Ent} {va vx:Value} (h:EntB w n e va vx) (hb:Below B w w') (hn:n<B):EntB w' n e va vx:=
 ⟨(hb.cell hn).trans h.c0,(hb.cell hn).trans h.c1,(hb.cell hn).trans h.c2,(hb.cell hn).trans h.c3,(hb.cell hn).trans h.c4,(hb.cell hn).trans h.c5,(hb.cell hn).trans h.c6⟩
abbrev hdL (n:Nat) (e:Ent) (N:Bytes) (x:Nat × Nat):List (Option Tmp × Value):=
 [(some 13,.slice (some ⟨x.1,0,none⟩) 6 6),(some 14,.pointer (some ⟨n,0,none⟩)),(some 15,.int .i64 e.kind),(some 16,.int .i64 (e.kind-1)),(some 17,.pointer (some ⟨x.1,e.kind.toNat-1,none⟩)),(some 18,S (nameP e.kind)),
  (some 19,.pointer (some ⟨n,1,none⟩)),(some 20,S e.path),(some 21,.slice (some ⟨x.2,0,none⟩) 2 2),(some 22,S N),(some 23,.tuple #[.int .i64 (N.length:Int),.nilIface])]
theorem Xax {n:Nat} {e:Ent} {N:Bytes} {x:Nat × Nat}:ApartF (hdL n e N x):=by
 unfold ApartF
 simp
set_option maxRecDepth 100000 in
set_option maxHeartbeats 4000000 in
theorem Xu6 (I:IH) (hI:Glob I) (e:Ent) (va vx:Value) (hva:RdS tAt I va e.attrs) (hvx:RdS tXt I vx e.exts) (hwf:e.Wf) (hpl:e.path.length≤4294967280) (htl:e.target.length≤4294967280) (hc:EncOk e) (he:entErr e=0) (w:World) (hw:Ok I w):
 Calls Tryz.prog 26 #[entV e va vx] w fun r w'=>r= .returned (.tuple #[S (headE e),.int .i64 0])∧Below w.heap.size w w':=by
 have Hck:=Qh (fun w hw=>Xe4 I hI e va vx hva hvx hwf hpl htl w hw)
 obtain ⟨aa,ca,rfl,_,_,_⟩:=id hva
 obtain ⟨ax,cx,rfl,_,_,_⟩:=id hvx
 have k1:=hc.k1
 have k6:=hc.k6
 have hp200:=hc.path
 have ht200:=hc.target
 have hna:=hc.natt
 have Hat:=Qh hc.att
 have Hc:=Qh hc
 rw [he] at Hck
 have i0:IntKind.i64.wrap (e.kind-1)=e.kind-1:=IntWalk.i64_in _ (by omega)
 have i1:0≤e.kind-1:=by omega
 have i2:e.kind-1<6:=by omega
 clear he hc
 go_enter Tryz.func26,Tryz.ntmps26
 go_wp2_with fail
 refine (Hck.out _ (hw.alloc _)).mono ?_
 rintro e1 w1 ⟨rfl,hb1⟩
 have HB1:=Qh (entB (e:=e) rfl hb1)
 have hok1:Ok I w1:=(hw.alloc _).below (Qn _) hb1
 have hb1':=((Qb w.heap.size w).alloc (Qn _) (.cells #[.int .i64 e.kind,S e.path,.slice aa e.attrs.length ca,S e.target,.int .i64 e.size,S e.digest,.slice ax e.exts.length cx] 35)).trans (hb1.mono (by simp))
 have hbd1:Lib.IsBuilder 71 5 w1.heap.size w1.heap.size (Lib.byteCells []) (w1.alloc (.cells #[.pointer none,.slice none 0 0] 71)):=Lib.fresh_isBuilder _ _ w1
 have hsz1:w.heap.size<w1.heap.size:=by have:=hb1.size;simp at this;omega
 go_wp2_with fail
 obtain ⟨c0,c1,c2,c3,c4,c5,c6⟩:=EntB.past HB1.out (.cells #[.pointer none,.slice none 0 0] 71)
 have hnl:=Xaq (nameP e.kind) (by have:=Xe1 e.kind;omega)
 have hnn:=Xe1 e.kind
 have hpn:=Xaq e.path (by omega)
 have hns:netsP [nameP e.kind,e.path]=netP (nameP e.kind)++netP e.path:=by simp [netsP]
 have hsl:(netsP [nameP e.kind,e.path]).length≤300:=by rw [hns,List.length_append];omega
 have Hst:=Qh (fun b w hv hw=>Xg1 I hI b 0 2 2 [nameP e.kind,e.path] rfl (Qn _) (by decide) w hv (by omega) hw)
 obtain ⟨N,hN⟩:∃N,netsP [nameP e.kind,e.path]=N:=⟨_,rfl⟩
 rw [hN] at Hst hsl
 rw [hns] at hN
 have HN:=Qh hN
 clear hns hN
 obtain ⟨W5,hW5⟩:∃W5,w1.alloc (.cells #[.pointer none,.slice none 0 0] 71)=W5:=⟨_,rfl⟩
 have hbW:Below w1.heap.size w1 W5:=by rw [←hW5];exact (Qb _ _).alloc (Qn _) _
 have hokW:Ok I W5:=by rw [←hW5];exact hok1.alloc _
 have hszW:w1.heap.size<W5.heap.size:=by rw [←hW5];simp
 change Code.wp _ _ _ _ (w1.alloc (.cells #[.pointer none,.slice none 0 0] 71))
 rw [hW5]
 rw [hW5] at hbd1 c0 c1
 have hkn:(e.kind-1).toNat=e.kind.toNat-1:=by omega
 refine Xak (X:=Nat × Nat) (hdL w.heap.size e N) (QbC W5 10 0 8 [(e.kind.toNat-1,S (nameP e.kind))] [(0,S (nameP e.kind)),(1,S e.path)] (fun w5=>Lib.IsBuilder 71 5 w1.heap.size w1.heap.size (Lib.byteCells N) w5∧w1.heap.size<w5.heap.size∧Below w1.heap.size w1 w5)) (by kernel_rfl) (by kernel_rfl) ?_ ?_ ?_
 ·exact ⟨(0,0),QbC.start _ _⟩
 ·rintro x s a' w' i hsz hcl ha hC hi
  obtain ⟨hun,oi,hoi,hall⟩:=mem_ready.1 hi
  rcases i with _|_|_|_|_|_|_|_|_|_|_|i
  rotate_left 11
  ·simp at hoi
  all_goals
   have hoj:=hoi
   simp at hoi
   subst hoi
   simp [Region.binds] at hall
  ·have hl:s.getD 10 false=false:=Xae hcl [9,8,5,4,0] (by kernel_rfl) (by rfl) hun
   have h4:s.getD 4 false=false:=Xae hcl [0] (by kernel_rfl) (by rfl) hun
   have ha:=ha.trans (Xtg (L:=hdL w.heap.size e N x) (M:=hdL w.heap.size e N (w'.heap.size,x.2)) 0 4 rfl (fun j h0 h4=>by
    rcases j with _|_|_|_|_|j<;>first|rfl|(exact absurd rfl h0)|(exact absurd rfl h4)|simp) hun h4)
   refine wpOp_step hoj (fun K' hK=> ?_)
   rw [if_pos (by rfl)]
   unfold Oper.wp
   simp [go_sem,Oper.upon]
   refine (Xtk e.kind k1 k6 w').mono ?_
   rintro r2 w2 ⟨rfl,hc2,hb2,hsz2⟩
   exact hK _ _ ⟨(w'.heap.size,x.2),Xad (d:=some 13) (v:= .slice (some ⟨w'.heap.size,0,none⟩) 6 6) Xax ha rfl hun,hC.at1 hl hb2 (by decide) (by decide) (fun p hp=>by simp at hp;subst hp;exact hc2)⟩
  ·have e1:a'.tmps[1]?.getD undef= .pointer (some ⟨w.heap.size,0,none⟩):=Xbl ha (by simp)
   have hl:s.getD 10 false=false:=Xae hcl [9,8,5,4,3,2,1] (by kernel_rfl) (by rfl) hun
   refine wpOp_step hoj (fun K' hK=> ?_)
   rw [if_pos (by rfl)]
   unfold Oper.wp
   simp [go_sem,e1,Oper.upon]
   exact hK _ _ ⟨x,Xad (d:=some 14) (v:=(.pointer (some ⟨w.heap.size,0,none⟩))) Xax ha rfl hun,hC.step hl (Qb _ _) (by decide) (by decide) (by decide)⟩
  ·have e14:a'.tmps[14]?.getD undef= .pointer (some ⟨w.heap.size,0,none⟩):=Xap (i:=1) Xax ha rfl (by simpa using hall) (by simp)
   have hl:s.getD 10 false=false:=Xae hcl [9,8,5,4,3,2] (by kernel_rfl) (by rfl) hun
   have c0':=Xaa (hC.bel hl) c0
   refine wpOp_step hoj (fun K' hK=> ?_)
   rw [if_pos (by rfl)]
   unfold Oper.wp
   simp [go_sem,e14,c0',Oper.upon]
   exact hK _ _ ⟨x,Xad (d:=some 15) (v:= .int .i64 e.kind) Xax ha rfl hun,hC.step hl (Qb _ _) (by decide) (by decide) (by decide)⟩
  ·have e15:a'.tmps[15]?.getD undef= .int .i64 e.kind:=Xap (i:=2) Xax ha rfl (by simpa using hall) (by simp)
   have hl:s.getD 10 false=false:=Xae hcl [9,8,5,4,3] (by kernel_rfl) (by rfl) hun
   refine wpOp_step hoj (fun K' hK=> ?_)
   rw [if_pos (by rfl)]
   unfold Oper.wp
   simp [go_sem,e15,Oper.upon,i0]
   exact hK _ _ ⟨x,Xad (d:=some 16) (v:= .int .i64 (e.kind-1)) Xax ha rfl hun,hC.step hl (Qb _ _) (by decide) (by decide) (by decide)⟩
  ·have e13:a'.tmps[13]?.getD undef= .slice (some ⟨x.1,0,none⟩) 6 6:=Xap (i:=0) Xax ha rfl (by simpa using hall.1) (by simp)
   have e16:a'.tmps[16]?.getD undef= .int .i64 (e.kind-1):=Xap (i:=3) Xax ha rfl (by simpa using hall.2) (by simp)
   have hl:s.getD 10 false=false:=Xae hcl [9,8,5,4] (by kernel_rfl) (by rfl) hun
   refine wpOp_step hoj (fun K' hK=> ?_)
   rw [if_pos (by rfl)]
   unfold Oper.wp
   simp [go_sem,e13,e16,i2,hkn,k1,Oper.upon]
   exact hK _ _ ⟨x,Xad (d:=some 17) (v:= .pointer (some ⟨x.1,e.kind.toNat-1,none⟩)) Xax ha rfl hun,hC.step hl (Qb _ _) (by decide) (by decide) (by decide)⟩
  ·have e17:a'.tmps[17]?.getD undef= .pointer (some ⟨x.1,e.kind.toNat-1,none⟩):=Xap (i:=4) Xax ha rfl (by simpa using hall) (by simp)
   have hl:s.getD 10 false=false:=Xae hcl [9,8,5] (by kernel_rfl) (by rfl) hun
   have h0:s.getD 0 false=true:=Xjq hcl [0] 4 0 (by kernel_rfl) (by rfl) (by simpa using hall)
   have hc:=hC.f1 h0 hl _ (List.mem_singleton.2 rfl)
   refine wpOp_step hoj (fun K' hK=> ?_)
   rw [if_pos (by rfl)]
   unfold Oper.wp
   simp [go_sem,e17,hc,Oper.upon]
   exact hK _ _ ⟨x,Xad (d:=some 18) (v:=S (nameP e.kind)) Xax ha rfl hun,hC.step hl (Qb _ _) (by decide) (by decide) (by decide)⟩
  ·have e1:a'.tmps[1]?.getD undef= .pointer (some ⟨w.heap.size,0,none⟩):=Xbl ha (by simp)
   have hl:s.getD 10 false=false:=Xae hcl [9,8,7,6] (by kernel_rfl) (by rfl) hun
   refine wpOp_step hoj (fun K' hK=> ?_)
   rw [if_pos (by rfl)]
   unfold Oper.wp
   simp [go_sem,e1,Oper.upon]
   exact hK _ _ ⟨x,Xad (d:=some 19) (v:=(.pointer (some ⟨w.heap.size,1,none⟩))) Xax ha rfl hun,hC.step hl (Qb _ _) (by decide) (by decide) (by decide)⟩
  ·have e19:a'.tmps[19]?.getD undef= .pointer (some ⟨w.heap.size,1,none⟩):=Xap (i:=6) Xax ha rfl (by simpa using hall) (by simp)
   have hl:s.getD 10 false=false:=Xae hcl [9,8,7] (by kernel_rfl) (by rfl) hun
   have c1':=Xaa (hC.bel hl) c1
   refine wpOp_step hoj (fun K' hK=> ?_)
   rw [if_pos (by rfl)]
   unfold Oper.wp
   simp [go_sem,e19,c1',Oper.upon]
   exact hK _ _ ⟨x,Xad (d:=some 20) (v:=S e.path) Xax ha rfl hun,hC.step hl (Qb _ _) (by decide) (by decide) (by decide)⟩
  ·have e18:a'.tmps[18]?.getD undef=S (nameP e.kind):=Xap (i:=5) Xax ha rfl (by simpa using hall.1) (by simp)
   have e20:a'.tmps[20]?.getD undef=S e.path:=Xap (i:=7) Xax ha rfl (by first|simpa using hall.2|simpa using hall.2.1) (by simp)
   have hl:s.getD 10 false=false:=Xae hcl [9,8] (by kernel_rfl) (by rfl) hun
   have ha:=ha.trans (Xmr (L:=hdL w.heap.size e N x) (M:=hdL w.heap.size e N (x.1,w'.heap.size)) 8 rfl (fun j hne=>by
    rcases j with _|_|_|_|_|_|_|_|_|j<;>first|rfl|(exact absurd rfl hne)|simp) hun)
   refine wpOp_step hoj (fun K' hK=> ?_)
   rw [if_pos (by rfl)]
   unfold Oper.wp
   simp [go_sem,e18,e20,Oper.upon]
   refine hK _ _ ⟨(x.1,w'.heap.size),Xad (d:=some 21) (v:= .slice (some ⟨w'.heap.size,0,none⟩) 2 2) Xax ha rfl hun,hC.at2 hl ((Qb _ _).alloc (Qn _) _) (by decide) (by decide) (fun p hp=> ?_)⟩
   have hst:=Xh6 w' [nameP e.kind,e.path] 9
   simp at hp
   rcases hp with rfl|rfl
   ·exact hst 0 _ rfl
   ·exact hst 1 _ rfl
  ·have e21:a'.tmps[21]?.getD undef= .slice (some ⟨x.2,0,none⟩) 2 2:=Xap (i:=8) Xax ha rfl (by simpa using hall.1) (by simp)
   have hl:s.getD 10 false=false:=Xae hcl [9] (by kernel_rfl) (by rfl) hun
   have hf2:=hC.f2 (by simpa using hall.1) hl
   have hst:StrsAt w' x.2 0 [nameP e.kind,e.path]:=Xwt (hf2 (0,_) (by simp)) (hf2 (1,_) (by simp))
   refine wpOp_step hoj (fun K' hK=> ?_)
   rw [if_pos (by rfl)]
   unfold Oper.wp
   simp [go_sem,e21,Oper.upon]
   refine (Hst.out x.2 w' hst (hokW.below (Qn _) (hC.bel hl))).mono ?_
   rintro r4 w4 ⟨rfl,hb4⟩
   exact hK _ _ ⟨x,Xad (d:=some 22) (v:=S N) Xax ha rfl hun,hC.step hl hb4 (by decide) (by decide) (by decide)⟩
  ·have e22:a'.tmps[22]?.getD undef=S N:=Xap (i:=9) Xax ha rfl (by first|simpa using hall|simpa using hall.1|simpa using hall.2) (by simp)
   have e5:a'.tmps[5]?.getD undef= .pointer (some ⟨w1.heap.size,0,none⟩):=Xbl ha (by simp)
   have hl:s.getD 10 false=false:=Xan hun
   have hbx:=hC.bel hl
   refine wpOp_step hoj (fun K' hK=> ?_)
   rw [if_pos (by rfl)]
   unfold Oper.wp
   simp [go_sem,e22,e5,Oper.upon]
   refine (Tryz.Builder_WriteString w1.heap.size w1.heap.size _ _ _ (Xat hbd1 hbx) (by rw [ByteArray.size_mk',List.size_toArray];simp [Lib.byteCells];omega) (by have:=hbx.size;omega)).mono ?_
   rintro r5 w5 ⟨rfl,hbd5,hb5⟩
   refine hK _ _ ⟨x,Xad (d:=some 23) (v:= .tuple #[.int .i64 (N.length:Int),.nilIface]) Xax ha rfl hun,QbC.end' hun ⟨.inr ?_,hbd5.lt,(hbW.trans (hbx.mono (Nat.le_of_lt hszW))).trans hb5⟩⟩
   have:=hbd5
   rw [Lib.strCells_toArray,Lib.byteCells,List.map_nil,List.nil_append] at this
   exact this
 rintro x s a' w5 hup ha hC
 obtain ⟨hbd5,hsz5,hbA⟩:=hC.fin (hup 10 (by decide))
 rw [Xbb _ _ _ _ (fun i hi=>by rw [Nat.zero_add];exact hup i (by simpa using hi))] at ha
 subst ha
 simp only [fillAll,Act.put]
 clear hC hup
 have hok1f:∀b,w1.heap.size≤b→I b=none:=fun b hb=>hok1.fresh hb
 have hok5:Ok I w5:=hok1.below (Qn _) hbA
 have Hbd5:=Qh hbd5
 have HB5:=Qh (HB1.out.thru (hbA.mono (Qn _)))
 have hb5':=hb1'.trans (hbA.mono hb1'.size)
 have hl0:=Xnu hna Hat.out
 have Hl:=Qh hl0
 have hz:numP e.attrs.length=attK e.attrs 0:=by rw [attK,List.take_zero,List.flatMap_nil,List.append_nil]
 have Hnu:=Qh (fun w hw=>Xb0 I hI e.attrs.length (by omega) w hw)
 rw [hz] at Hnu
 have hl0':=hl0 0
 clear hbd1 hbd5 hb1 hb1' hbA HB1 c0 c1 c2 c3 c4 c5 c6 hok1 hz hl0 Hst i0 i1 i2 hnl hnn hpn hbW hokW hszW hkn hW5
 obtain ⟨c0,c1,c2,c3,c4,c5,c6⟩:=HB5.out
 go_wp2_with fail
 refine (Hnu.out _ hok5).mono ?_
 rintro e6 w6 ⟨rfl,hb6⟩
 have hbd6:=Xat Hbd5.out hb6
 have hok6:Ok I w6:=hok5.below (Qn _) hb6
 have HB6:=Qh (HB5.out.thru hb6)
 have hb6':=hb5'.trans (hb6.mono hb5'.size)
 have hsz6:=hb6.size
 clear hb6 hb5' hok5 HB5 c0 c1 c2 c3 c4 c5 c6 Hbd5
 go_wp2_with fail
 refine (Tryz.Builder_WriteString w1.heap.size w1.heap.size _ _ _ hbd6 (by rw [ByteArray.size_mk',List.size_toArray];simp [Lib.byteCells];omega) (by omega)).mono ?_
 rintro e7 w7 ⟨rfl,hbd7,hb7⟩
 have Hbd7:=Qh (show Lib.IsBuilder 71 5 w1.heap.size w1.heap.size (Lib.byteCells (N++attK e.attrs 0)) w7 from .inr (by
  have:=hbd7
  rw [Lib.strCells_toArray,Lib.byteCells,Lib.byteCells,←List.map_append] at this
  exact this))
 have hsz7:=hbd7.lt
 have hbB:Below w1.heap.size w6 w7:=hb7
 have hok7:Ok I w7:=hok6.of_block fun b c hb=>hbB.block b (Nat.lt_of_not_le fun h=>by rw [hok1f b h] at hb;cases hb)
 have HB7:=Qh (HB6.out.far hbB hsz1)
 have hb7':=hb6'.trans (hbB.mono (Nat.le_of_lt hsz1))
 clear hbd6 hbd7 hb7 hbB hb6' hok6 HB6 Hnu
 obtain ⟨c0,c1,c2,c3,c4,c5,c6⟩:=HB7.out
 have Hv:=Qh hva
 clear hva hvx
 go_wp2_with fail
 clear c0 c1 c2 c3 c4 c5 c6
 go_loopw [32] (fun s32 wr=> ∃k:Nat,k≤e.attrs.length∧s32= .int .i64 k∧Lib.IsBuilder 71 5 w1.heap.size w1.heap.size (Lib.byteCells (N++attK e.attrs k)) wr∧Ok I wr∧EntB wr w.heap.size e (.slice aa e.attrs.length ca) (.slice ax e.exts.length cx)∧Below w.heap.size w wr∧w1.heap.size<wr.heap.size) (fun i _=>e.attrs.length-(intOf i).toNat)
 case atStart=>exact ⟨0,Nat.zero_le _,rfl,Hbd7.out,hok7,HB7.out,hb7',hsz7⟩
 case round=>
  clear Hbd7 HB7 hb7' hok7 hsz7 hsz6 hsz5
  obtain ⟨k,hk,rfl,hbd,hwr,hBe,hb,hsz⟩:=hrel
  have Hbd:=Qh hbd
  have HBe:=Qh hBe
  clear hbd hBe
  have hal:=Hl.out k
  by_cases hlt:k<e.attrs.length
  ·obtain ⟨x,b,off,cap',hlx,hvv,c0,c1⟩:=atAt Hv.out hwr k hlt
   cases hvv
   have hax:=Hat.out x (by rw [←hlx];exact List.getElem_mem hlt)
   have Hst:=Qh (Xlv hlt hlx)
   have hk1:=Xaq x.k (by omega)
   have hk2:=Xaq x.v (by omega)
   have hns:netsP [x.k,x.v]=netP x.k++netP x.v:=by simp [netsP]
   have Hs:=Qh (fun w hv hw=>Xg1 I hI (wr.heap.size+1) 0 2 2 [x.k,x.v] rfl (by simp) (by unfold maxLen;omega) w hv (by rw [hns];simp;omega) hw)
   have HS:=Qh (show StrsAt ((wr.alloc (.cells #[S x.k,S x.v] 129)).alloc (.cells #[S x.k,S x.v] 9)) (wr.heap.size+1) 0 [x.k,x.v] by
    have:=Xh6 (wr.alloc (.cells #[S x.k,S x.v] 129)) [x.k,x.v] 9
    rwa [show (wr.alloc (.cells #[S x.k,S x.v] 129)).heap.size=wr.heap.size+1 by simp] at this)
   rw [hns] at Hs
   clear hlx hns
   generalize netP x.k=p at Hst hk1 Hs
   generalize netP x.v=q at Hst hk2 Hs
   generalize attK e.attrs k=u at Hst hal Hbd
   go_wp2_with fail
   refine (Hs.out _ HS.out ((hwr.alloc _).alloc _)).mono ?_
   rintro e1 w2 ⟨rfl,hb1⟩
   have hbA:Below wr.heap.size wr w2:=(((Qb _ _).alloc (Qn _) _).alloc (by simp) _).trans (hb1.mono (by simp;omega))
   have hbd1:=Xat Hbd.out hbA
   have hok1:Ok I w2:=hwr.below (Qn _) hbA
   have HB1:=Qh (HBe.out.thru hbA)
   have hsz2:=hbA.size
   have hb1':=hb.trans (hbA.mono hb.size)
   clear hb1 hbA Hbd c0 c1 HS Hs
   go_wp2_with fail
   refine (Tryz.Builder_WriteString w1.heap.size w1.heap.size _ _ _ hbd1 (by rw [ByteArray.size_mk',List.size_toArray];simp [Lib.byteCells];omega) (by omega)).mono ?_
   rintro e2 w3 ⟨rfl,hbd2,hb2⟩
   have hsz3:=hbd2.lt
   have Hbd2:=Qh (show Lib.IsBuilder 71 5 w1.heap.size w1.heap.size (Lib.byteCells (N++attK e.attrs (k+1))) w3 from .inr (by
    have:=hbd2
    rw [Lib.strCells_toArray,Lib.byteCells,Lib.byteCells,←List.map_append,List.append_assoc,←Hst.out] at this
    exact this))
   have hbB:Below w1.heap.size w2 w3:=hb2
   have hok3:Ok I w3:=hok1.of_block fun b c hb=>hbB.block b (Nat.lt_of_not_le fun h=>by rw [hok1f b h] at hb;cases hb)
   have HB3:=Qh (HB1.out.far hbB hsz1)
   clear hbd1 hbd2 hok1 HB1 hb2
   go_wp2
   go_roundw
   case rel=>exact ⟨k+1,by omega,by go_num,Hbd2.out,hok3,HB3.out,hb1'.trans (hbB.mono (Nat.le_of_lt hsz1)),hsz3⟩
   case measure=>simp [intOf];omega
  ·have Hn:=Qh (Xnv e.attrs (k:=k) (by omega))
   rw [Hn.out] at Hbd hal
   have htn:=Xaq e.target (by omega)
   have Hnt:=Qh (fun w hw=>Xbu I hI e.target (by omega) w hw)
   have Hh:=Qh (show N++attP e.attrs++netP e.target=headE e by rw [←HN.out];rfl)
   generalize netP e.target=q at htn Hnt Hh
   generalize attP e.attrs=u at Hbd hal Hh
   obtain ⟨c0,c1,c2,c3,c4,c5,c6⟩:=HBe.out
   go_wp2_with fail
   refine (Hnt.out _ hwr).mono ?_
   rintro e1 w2 ⟨rfl,hb1⟩
   have hbd1:=Xat Hbd.out hb1
   have hsz2:=hb1.size
   have hb1':=hb.trans (hb1.mono hb.size)
   clear hb1 Hbd c0 c1 c2 c3 c4 c5 c6 HBe
   go_wp2_with fail
   refine (Tryz.Builder_WriteString w1.heap.size w1.heap.size _ _ _ hbd1 (by rw [ByteArray.size_mk',List.size_toArray];simp [Lib.byteCells];omega) (by omega)).mono ?_
   rintro e2 w3 ⟨rfl,hbd2,hb2⟩
   have hsz3:=hbd2.lt
   have Hbd2:=Qh (show Lib.IsBuilder 71 5 w1.heap.size w1.heap.size (Lib.byteCells (headE e)) w3 from .inr (by
    have:=hbd2
    rw [Lib.strCells_toArray,Lib.byteCells,Lib.byteCells,←List.map_append,Hh.out] at this
    exact this))
   have hb2':=hb1'.trans (hb2.mono (Nat.le_of_lt hsz1))
   clear hbd1 hbd2 hb2
   go_wp2_with fail
   refine (Tryz.Builder_String_any w1.heap.size w1.heap.size _ _ Hbd2.out (Nat.le_of_lt hsz3)).mono ?_
   rintro e3 w4 ⟨rfl,hb4⟩
   go_wp2
   go_ret2
   exact ⟨rfl,hb2'.trans (hb4.mono (Nat.le_of_lt hsz1))⟩
set_option maxRecDepth 100000 in
set_option maxHeartbeats 400000 in
theorem Xow (I:IH) (hI:Glob I) (e:Ent) (va vx:Value) (hva:RdS tAt I va e.attrs) (hvx:RdS tXt I vx e.exts) (hwf:e.Wf) (hpl:e.path.length≤4294967280) (htl:e.target.length≤4294967280) (he:entErr e≠0) (w:World) (hw:Ok I w):
 Calls Tryz.prog 26 #[entV e va vx] w fun r w'=>r= .returned (.tuple #[S [],.int .i64 (entErr e)])∧Below w.heap.size w w':=by
 have Hck:=Qh (fun w hw=>Xe4 I hI e va vx hva hvx hwf hpl htl w hw)
 obtain ⟨aa,ca,rfl,_,_,_⟩:=id hva
 obtain ⟨ax,cx,rfl,_,_,_⟩:=id hvx
 obtain ⟨q,hq⟩:∃q,entErr e=q:=⟨_,rfl⟩
 rw [hq] at Hck he ⊢
 have hn0:(q != 0)=true:=by simpa using he
 clear hq he
 go_enter Tryz.func26,Tryz.ntmps26
 go_wp2_with fail
 refine (Hck.out _ (hw.alloc _)).mono ?_
 rintro e1 w1 ⟨rfl,hb1⟩
 have hb1':=((Qb w.heap.size w).alloc (Qn _) (.cells #[.int .i64 e.kind,S e.path,.slice aa e.attrs.length ca,S e.target,.int .i64 e.size,S e.digest,.slice ax e.exts.length cx] 35)).trans (hb1.mono (by simp))
 go_wp2
 go_ret2
 exact ⟨rfl,hb1'⟩
set_option maxRecDepth 100000 in
set_option maxHeartbeats 400000 in
theorem Xk9 (I:IH) (hI:Glob I) (e:Ent) (va vx:Value) (hva:RdS tAt I va e.attrs) (hvx:RdS tXt I vx e.exts) (hwf:e.Wf) (hpl:e.path.length≤4294967280) (htl:e.target.length≤4294967280) (he:entErr e≠0) (w:World) (hw:Ok I w):
 Calls Tryz.prog 138 #[entV e va vx] w fun r w'=>r= .returned (.tuple #[S [],.int .i64 (entErr e)])∧Below w.heap.size w w':=by
 have Hck:=Qh (fun w hw=>Xow I hI e va vx hva hvx hwf hpl htl he w hw)
 obtain ⟨aa,ca,rfl,_,_,_⟩:=id hva
 obtain ⟨ax,cx,rfl,_,_,_⟩:=id hvx
 obtain ⟨q,hq⟩:∃q,entErr e=q:=⟨_,rfl⟩
 rw [hq] at Hck he ⊢
 have hn0:(q != 0)=true:=by simpa using he
 clear hq he
 go_enter Tryz.func138,Tryz.ntmps138
 go_wp2_with fail
 refine (Hck.out _ (hw.alloc _)).mono ?_
 rintro e1 w1 ⟨rfl,hb1⟩
 have hb1':=((Qb w.heap.size w).alloc (Qn _) (.cells #[.int .i64 e.kind,S e.path,.slice aa e.attrs.length ca,S e.target,.int .i64 e.size,S e.digest,.slice ax e.exts.length cx] 35)).trans (hb1.mono (by simp))
 go_wp2
 go_ret2
 exact ⟨rfl,hb1'⟩
theorem Xbm {b:Nat} {u v z:Bytes} {w:World} (h:Lib.BuilderAt 71 5 b b (.pointer (some ⟨b,0,none⟩)) (Lib.byteCells u++Lib.strCells ⟨v.toArray⟩) w) (e:u++v=z):Lib.IsBuilder 71 5 b b (Lib.byteCells z) w:= .inr (by
 rw [Lib.strCells_toArray,show Lib.byteCells u++Lib.byteCells v=Lib.byteCells z by rw [←e];simp [Lib.byteCells]] at h
 exact h)
set_option maxRecDepth 100000 in
set_option maxHeartbeats 4000000 in
theorem Xla (I:IH) (hI:Glob I) (e:Ent) (va vx:Value) (hva:RdS tAt I va e.attrs) (hvx:RdS tXt I vx e.exts) (hwf:e.Wf) (hpl:e.path.length≤4294967280) (htl:e.target.length≤4294967280) (hc:EncOk e) (he:entErr e=0) (hx:e.exts.length≤1000) (w:World) (hw:Ok I w):
 Calls Tryz.prog 138 #[entV e va vx] w fun r w'=>r= .returned (.tuple #[S (encE e),.int .i64 0])∧Below w.heap.size w w':=by
 have Hck:=Qh (fun w hw=>Xu6 I hI e va vx hva hvx hwf hpl htl hc he w hw)
 obtain ⟨aa,ca,rfl,_,_,_⟩:=id hva
 obtain ⟨ax,cx,rfl,_,_,_⟩:=id hvx
 have Hv:=Qh hvx
 have hs0:=hc.s0
 have hs1:=hc.s1
 have hd32:=hc.digest
 have Hxs:=Qh hc.xts
 have Hl:=Qh (Xjk hc hx)
 have hl0:=Hl.out 0
 have hhl:=Xha hc
 have Hz:=Qh (show netP (headE e)++numP e.size++netP e.digest++numP e.exts.length=encK e 0 from (Xk7 e).symm)
 have hl1:=Xaq (headE e) (by omega)
 have hl2:=Xbc hs0 (by omega)
 have hl3:=Xaq e.digest (by omega)
 have hl4:=Xbg e.exts.length (by omega)
 have H1:=Qh (fun w hw=>Xbu I hI (headE e) (by omega) w hw)
 have H2:=Qh (fun w hw=>Xdm I hI e.size hs0 (by omega) w hw)
 have H3:=Qh (fun w hw=>Xbu I hI e.digest (by omega) w hw)
 have H4:=Qh (fun w hw=>Xb0 I hI e.exts.length (by omega) w hw)
 clear hva hvx hc he
 generalize netP (headE e)=p1 at Hz hl1 H1
 generalize numP e.size=p2 at Hz hl2 H2
 generalize netP e.digest=p3 at Hz hl3 H3
 generalize numP (e.exts.length:Int)=p4 at Hz hl4 H4
 generalize headE e=hd at Hck H1 hhl hl1
 go_enter Tryz.func138,Tryz.ntmps138
 go_wp2_with fail
 refine (Hck.out _ (hw.alloc _)).mono ?_
 rintro e1 w1 ⟨rfl,hb1⟩
 have HB1:=Qh (entB (e:=e) rfl hb1)
 have hok1:Ok I w1:=(hw.alloc _).below (Qn _) hb1
 have hb1':=((Qb w.heap.size w).alloc (Qn _) (.cells #[.int .i64 e.kind,S e.path,.slice aa e.attrs.length ca,S e.target,.int .i64 e.size,S e.digest,.slice ax e.exts.length cx] 35)).trans (hb1.mono (by simp))
 have hbd1:Lib.IsBuilder 71 5 w1.heap.size w1.heap.size (Lib.byteCells []) (w1.alloc (.cells #[.pointer none,.slice none 0 0] 71)):=Lib.fresh_isBuilder _ _ w1
 have hsz1:w.heap.size<w1.heap.size:=by have:=hb1.size;simp at this;omega
 have hok1f:∀b,w1.heap.size≤b→I b=none:=fun b hb=>hok1.fresh hb
 have HB1a:=Qh (EntB.past HB1.out (.cells #[.pointer none,.slice none 0 0] 71))
 have hok1a:Ok I (w1.alloc (.cells #[.pointer none,.slice none 0 0] 71)):=hok1.alloc _
 obtain ⟨c0,c1,c2,c3,c4,c5,c6⟩:=HB1a.out
 have e4:=cell_regrown c4
 have e5:=cell_regrown c5
 have e6:=cell_regrown c6
 clear hb1 Hck c0 c1 c2 c3
 go_wp2_with fail
 refine Xac 15 (by kernel_rfl) (by kernel_rfl) ?_
 simp only [List.take_succ_cons,List.take_zero,List.drop_succ_cons,List.drop_zero]
 repeat (go_big_quiet_step ((with_reducible first|exact Calls.regrown_of (H1.out _ (hok1a.below (Qn _) (below_regrown _ _ _)))|exact Calls.regrown_of (H2.out _ (hok1a.below (Qn _) (below_regrown _ _ _)))|exact Calls.regrown_of (H3.out _ (hok1a.below (Qn _) (below_regrown _ _ _)))|exact Calls.regrown_of (H4.out _ (hok1a.below (Qn _) (below_regrown _ _ _))))))
 refine wpQuiet_nil ?_
 intro w2 hwq
 have hb2:Below ((w1.alloc (.cells #[.pointer none,.slice none 0 0] 71))).heap.size ((w1.alloc (.cells #[.pointer none,.slice none 0 0] 71))) w2:=by
  obtain ⟨pq,rfl⟩:=hwq
  exact below_regrown _ _ _
 clear hwq
 have hbd2:=Xat hbd1 hb2
 have hok2:Ok I w2:=hok1a.below (Qn _) hb2
 have HB2:=Qh (HB1a.out.thru hb2)
 have hb2':Below w.heap.size w w2:=(hb1'.alloc (by have:=hb1'.size;omega) (.cells #[.pointer none,.slice none 0 0] 71)).trans (hb2.mono (by simp;omega))
 have hsz2:w1.heap.size≤w2.heap.size:=by have:=hb2.size;simp at this;omega
 clear e4 e5 e6 c4 c5 c6 hb2 HB1 HB1a hbd1 hok1 hok1a hb1' H1 H2 H3 H4
 go_wp2_with fail
 refine (Tryz.Builder_WriteString w1.heap.size w1.heap.size _ _ _ hbd2 (by rw [ByteArray.size_mk',List.size_toArray];simp [Lib.byteCells];omega) (by omega)).mono ?_
 rintro e7 w7 ⟨rfl,hbd7,hb7⟩
 have hsz7:=hbd7.lt
 have Hbd7:=Qh (Xbm (z:=encK e 0) hbd7 (by rw [←Hz.out];simp))
 have hok7:Ok I w7:=hok2.of_block fun b c hb=>hb7.block b (Nat.lt_of_not_le fun h=>by rw [hok1f b h] at hb;cases hb)
 have HB7:=Qh (HB2.out.far hb7 hsz1)
 have hb7':=hb2'.trans (hb7.mono (Nat.le_of_lt hsz1))
 clear hbd2 hbd7 hb7 hb2' hok2 HB2 hl0 hsz2
 obtain ⟨c0,c1,c2,c3,c4,c5,c6⟩:=HB7.out
 go_wp2_with fail
 clear c0 c1 c2 c3 c4 c5 c6
 go_loopw [36] (fun s36 wr=> ∃k:Nat,k≤e.exts.length∧s36= .int .i64 k∧Lib.IsBuilder 71 5 w1.heap.size w1.heap.size (Lib.byteCells (encK e k)) wr∧Ok I wr∧Below w.heap.size w wr∧w1.heap.size<wr.heap.size) (fun i _=>e.exts.length-(intOf i).toNat)
 case atStart=>exact ⟨0,Nat.zero_le _,rfl,Hbd7.out,hok7,hb7',hsz7⟩
 case round=>
  clear Hbd7 HB7 hb7' hok7 hsz7
  obtain ⟨k,hk,rfl,hbd,hwr,hb,hsz⟩:=hrel
  have Hbd:=Qh hbd
  clear hbd
  have hal:=Hl.out k
  by_cases hlt:k<e.exts.length
  ·obtain ⟨x,b,off,cap',hlx,hvv,c0,c1,c2⟩:=xtAt Hv.out hwr k hlt
   cases hvv
   obtain ⟨y0,y1,y2,y3,y4,y5⟩:=Hxs.out x (by rw [←hlx];exact List.getElem_mem hlt)
   have Hst:=Qh (Xk8 hlt hlx)
   have hm1:=Xbc (n:=x.s) (by omega) (by omega)
   have hm2:=Xbc (n:=x.o) (by omega) (by omega)
   have hm3:=Xbc (n:=x.n) (by omega) (by omega)
   have H1:=Qh (fun w hw=>Xdm I hI x.s (by omega) (by omega) w hw)
   have H2:=Qh (fun w hw=>Xdm I hI x.o (by omega) (by omega) w hw)
   have H3:=Qh (fun w hw=>Xdm I hI x.n (by omega) (by omega) w hw)
   have hwa:Ok I (wr.alloc (.cells #[.int .i64 x.s,.int .i64 x.o,.int .i64 x.n] 110)):=hwr.alloc _
   have g0:=cell_regrown (show (wr.alloc (.cells #[.int .i64 x.s,.int .i64 x.o,.int .i64 x.n] 110)).cell? ⟨wr.heap.size,0,none⟩=some (.int .i64 x.s) by simp)
   have g1:=cell_regrown (show (wr.alloc (.cells #[.int .i64 x.s,.int .i64 x.o,.int .i64 x.n] 110)).cell? ⟨wr.heap.size,1,none⟩=some (.int .i64 x.o) by simp)
   have g2:=cell_regrown (show (wr.alloc (.cells #[.int .i64 x.s,.int .i64 x.o,.int .i64 x.n] 110)).cell? ⟨wr.heap.size,2,none⟩=some (.int .i64 x.n) by simp)
   clear hlx
   generalize numP x.s=q1 at Hst hm1 H1
   generalize numP x.o=q2 at Hst hm2 H2
   generalize numP x.n=q3 at Hst hm3 H3
   generalize encK e k=u at Hst hal Hbd
   go_wp2_with fail
   refine Xac 11 (by kernel_rfl) (by kernel_rfl) ?_
   simp only [List.take_succ_cons,List.take_zero,List.drop_succ_cons,List.drop_zero]
   repeat (go_big_quiet_step ((with_reducible first|exact Calls.regrown_of (H1.out _ (hwa.below (Qn _) (below_regrown _ _ _)))|exact Calls.regrown_of (H2.out _ (hwa.below (Qn _) (below_regrown _ _ _)))|exact Calls.regrown_of (H3.out _ (hwa.below (Qn _) (below_regrown _ _ _))))))
   refine wpQuiet_nil ?_
   intro w2 hwq
   have hb2:Below ((wr.alloc (.cells #[.int .i64 x.s,.int .i64 x.o,.int .i64 x.n] 110))).heap.size ((wr.alloc (.cells #[.int .i64 x.s,.int .i64 x.o,.int .i64 x.n] 110))) w2:=by
    obtain ⟨pq,rfl⟩:=hwq
    exact below_regrown _ _ _
   clear hwq
   have hbd2:=Xat (Xjs Hbd.out _) hb2
   have hok2:Ok I w2:=hwa.below (Qn _) hb2
   have hb2':Below w.heap.size w w2:=(hb.alloc hb.size (.cells #[.int .i64 x.s,.int .i64 x.o,.int .i64 x.n] 110)).trans (hb2.mono (by have:=hb.size;simp;omega))
   have hsz2:w1.heap.size≤w2.heap.size:=by have:=hb2.size;simp at this;omega
   clear g0 g1 g2 hb2 hwa Hbd c0 c1 c2 H1 H2 H3
   go_wp2_with fail
   refine (Tryz.Builder_WriteString w1.heap.size w1.heap.size _ _ _ hbd2 (by rw [ByteArray.size_mk',List.size_toArray];simp [Lib.byteCells];omega) (by omega)).mono ?_
   rintro e7 w7 ⟨rfl,hbd7,hb7⟩
   have hsz7:=hbd7.lt
   have Hbd7:=Qh (Xbm (z:=encK e (k+1)) hbd7 (by rw [Hst.out];simp))
   have hok7:Ok I w7:=hok2.of_block fun b c hb=>hb7.block b (Nat.lt_of_not_le fun h=>by rw [hok1f b h] at hb;cases hb)
   have hb7':=hb2'.trans (hb7.mono (Nat.le_of_lt hsz1))
   clear hbd2 hbd7 hb7 hb2' hok2
   go_wp2
   go_roundw
   case rel=>exact ⟨k+1,by omega,by go_num,Hbd7.out,hok7,hb7',hsz7⟩
   case measure=>simp [intOf];omega
  ·have Hn:=Qh (Xjl e (k:=k) (by omega))
   rw [Hn.out] at Hbd
   go_wp2_with fail
   refine (Tryz.Builder_String_any w1.heap.size w1.heap.size _ _ Hbd.out (Nat.le_of_lt hsz)).mono ?_
   rintro e3 w4 ⟨rfl,hb4⟩
   go_wp2
   go_ret2
   exact ⟨rfl,hb.trans (hb4.mono (Nat.le_of_lt hsz1))⟩
abbrev sesCs (s:Ses) (ve:Value):List Value:= [.int .i64 s.num,.int .i64 s.date,S s.prev,ve,S s.stream,S s.sl]
abbrev sesV (s:Ses) (ve:Value):Value:= .agg #[.int .i64 s.num,.int .i64 s.date,S s.prev,ve,S s.stream,S s.sl]
def tSes:Ty Ses where
 size:=6
 rd:=fun I cs s=> ∃ve,cs=sesCs s ve∧RdS tEnt I ve s.ents
 len:=fun ⟨_,h,_⟩=>by rw [h];rfl
 one:=fun ⟨ve,h,h1⟩ u hu=>by
  rw [h] at hu
  simp at hu
  rcases hu with rfl|rfl|rfl|rfl|rfl|rfl<;>first|rfl|exact h1.one
 mono:=fun hI ⟨ve,h,h1⟩=>⟨ve,h,h1.mono hI⟩
structure SesAt (w:World) (b o:Nat) (s:Ses) (ve:Value):Prop where
 c0:w.cell? ⟨b,o,none⟩=some (.int .i64 s.num)
 c1:w.cell? ⟨b,o+1,none⟩=some (.int .i64 s.date)
 c2:w.cell? ⟨b,o+2,none⟩=some (S s.prev)
 c3:w.cell? ⟨b,o+3,none⟩=some ve
 c4:w.cell? ⟨b,o+4,none⟩=some (S s.stream)
 c5:w.cell? ⟨b,o+5,none⟩=some (S s.sl)
structure SesB (w:World) (n:Nat) (s:Ses) (ve:Value):Prop where
 c0:w.cell? ⟨n,0,none⟩=some (.int .i64 s.num)
 c1:w.cell? ⟨n,1,none⟩=some (.int .i64 s.date)
 c2:w.cell? ⟨n,2,none⟩=some (S s.prev)
 c3:w.cell? ⟨n,3,none⟩=some ve
 c4:w.cell? ⟨n,4,none⟩=some (S s.stream)
 c5:w.cell? ⟨n,5,none⟩=some (S s.sl)
theorem SesB.thru {w w':World} {b:Nat} {s:Ses} {ve:Value} (h:SesB w b s ve) (hb:Below w.heap.size w w'):SesB w' b s ve:=
 ⟨Xaa hb h.c0,Xaa hb h.c1,Xaa hb h.c2,Xaa hb h.c3,Xaa hb h.c4,Xaa hb h.c5⟩
theorem SesB.past {w:World} {b:Nat} {s:Ses} {ve:Value} (h:SesB w b s ve) (x:Obj):SesB (w.alloc x) b s ve:=
 ⟨Xab x h.c0,Xab x h.c1,Xab x h.c2,Xab x h.c3,Xab x h.c4,Xab x h.c5⟩
theorem SesB.far {w w':World} {b B:Nat} {s:Ses} {ve:Value} (h:SesB w b s ve) (hb:Below B w w') (hn:b<B):SesB w' b s ve:=
 ⟨(hb.cell hn).trans h.c0,(hb.cell hn).trans h.c1,(hb.cell hn).trans h.c2,(hb.cell hn).trans h.c3,(hb.cell hn).trans h.c4,(hb.cell hn).trans h.c5⟩
theorem sesB {W w':World} {s:Ses} {ve:Value} {t:TypeId} {n:Nat} (hn:n=W.heap.size) (hb:Below (W.alloc (.cells #[.int .i64 s.num,.int .i64 s.date,S s.prev,ve,S s.stream,S s.sl] t)).heap.size (W.alloc (.cells #[.int .i64 s.num,.int .i64 s.date,S s.prev,ve,S s.stream,S s.sl] t)) w'):SesB w' n s ve:=by
 subst hn
 exact SesB.thru ⟨by simp,by simp,by simp,by simp,by simp,by simp⟩ hb
theorem Xpx {I:IH} {v:Value} {l:List Ses} {w:World} (h:RdS tSes I v l) (hw:Ok I w) (i:Nat) (hi:i<l.length):∃x ve b off cap,l[i]=x∧v= .slice (some ⟨b,off,none⟩) l.length cap∧
 SesAt w b (off+i*6) x ve∧RdS tEnt I ve x.ents:=by
 obtain ⟨b,off,cap,cs,hv,⟨ve,hcs,h1⟩,hc⟩:=h.at_ hw hi
 subst hcs
 exact ⟨_,ve,b,off,cap,rfl,hv,⟨hc 0 _ rfl,hc 1 _ rfl,hc 2 _ rfl,hc 3 _ rfl,hc 4 _ rfl,hc 5 _ rfl⟩,h1⟩
structure SesG (s:Ses):Prop where
 nents:s.ents.length≤30
 stream:s.stream.length≤1000
 prev:s.prev.length≤100
 sl:s.sl.length≤2100
 wf:∀e∈s.ents,e.Wf
 path:∀e∈s.ents,e.path.length≤300
 target:∀e∈s.ents,e.target.length≤300
 exts:∀e∈s.ents,e.exts.length≤30
 num: -9223372036854775808≤s.num∧s.num≤9223372036854775807
 date: -9223372036854775808≤s.date∧s.date≤9223372036854775807
set_option maxRecDepth 100000 in
set_option maxHeartbeats 2000000 in
theorem Xlh (s:Ses) (ao:Option Addr) (co:Nat) (w:World):
 Calls Tryz.prog 137 #[sesV s (.slice ao s.ents.length co)] w fun r w'=>r= .returned (.int .i64 (fldErr s))∧Below w.heap.size w w':=by
 by_cases h1:s.num<1
 ·have d1:decide (s.num<1)=true:=Qt h1
  have Hn:=Qh (show fldErr s=2 by rw [fldErr,if_pos (.inl h1)])
  clear h1
  go_enter Tryz.func137,Tryz.ntmps137
  go_wp2
  go_ret
  exact ⟨Xag Hn.out.symm,(Qb w.heap.size w).alloc (Qn _) _⟩
 have d1:decide (s.num<1)=false:=Qf h1
 by_cases h2:255<s.num
 ·have d2:decide (255<s.num)=true:=Qt h2
  have Hn:=Qh (show fldErr s=2 by rw [fldErr,if_pos (.inr (.inl h2))])
  clear h1 h2
  go_enter Tryz.func137,Tryz.ntmps137
  go_wp2
  go_ret
  exact ⟨Xag Hn.out.symm,(Qb w.heap.size w).alloc (Qn _) _⟩
 have d2:decide (255<s.num)=false:=Qf h2
 by_cases h3:s.date<0
 ·have d3:decide (s.date<0)=true:=Qt h3
  have Hn:=Qh (show fldErr s=2 by rw [fldErr,if_pos (.inr (.inr (.inl h3)))])
  clear h1 h2 h3
  go_enter Tryz.func137,Tryz.ntmps137
  go_wp2
  go_ret
  exact ⟨Xag Hn.out.symm,(Qb w.heap.size w).alloc (Qn _) _⟩
 have d3:decide (s.date<0)=false:=Qf h3
 by_cases h4:1000000000<s.date
 ·have d4:decide (1000000000<s.date)=true:=Qt h4
  have Hn:=Qh (show fldErr s=2 by rw [fldErr,if_pos (.inr (.inr (.inr h4)))])
  clear h1 h2 h3 h4
  go_enter Tryz.func137,Tryz.ntmps137
  go_wp2
  go_ret
  exact ⟨Xag Hn.out.symm,(Qb w.heap.size w).alloc (Qn _) _⟩
 have d4:decide (1000000000<s.date)=false:=Qf h4
 have hf:fldErr s=if s.prev≠ []∧s.prev.length≠32 then 1 else 0:=by
  rw [fldErr,if_neg]
  rintro (h|h|h|h)<;>contradiction
 clear h1 h2 h3 h4
 by_cases h5:s.prev= []
 ·have Hn:=Qh (show fldErr s=0 by rw [hf,if_neg fun q=>q.1 h5])
  obtain ⟨p1,p2,p3,p4⟩:=Xdf h5
  clear h5 hf
  go_enter Tryz.func137,Tryz.ntmps137
  go_wp2
  go_ret
  exact ⟨Xag Hn.out.symm,(Qb w.heap.size w).alloc (Qn _) _⟩
 obtain ⟨p1,p2,p3,p4⟩:=Xde h5
 by_cases h6:s.prev.length=32
 ·have d6:((s.prev.length:Int) != 32)=false:=by rw [h6];rfl
  have d7:((s.prev.length:Int)==32)=true:=by rw [h6];rfl
  have Hn:=Qh (show fldErr s=0 by rw [hf,if_neg fun q=>q.2 h6])
  clear h5 hf h6
  go_enter Tryz.func137,Tryz.ntmps137
  go_wp2
  go_ret
  exact ⟨Xag Hn.out.symm,(Qb w.heap.size w).alloc (Qn _) _⟩
 ·have d6:((s.prev.length:Int) != 32)=true:=by simpa using (show (s.prev.length:Int)≠32 by omega)
  have d7:((s.prev.length:Int)==32)=false:=by simpa using (show (s.prev.length:Int)≠32 by omega)
  have Hn:=Qh (show fldErr s=1 by rw [hf,if_pos ⟨h5,h6⟩])
  clear h5 hf h6
  go_enter Tryz.func137,Tryz.ntmps137
  go_wp2
  go_ret
  exact ⟨Xag Hn.out.symm,(Qb w.heap.size w).alloc (Qn _) _⟩
def sesK (s:Ses) (k:Nat):Bytes:=sesHead s++(s.ents.take k).flatMap encE
theorem Xgn {s:Ses} {k:Nat} (hk:k<s.ents.length) {x:Ent} (hx:s.ents[k]=x):sesK s (k+1)=sesK s k++encE x:=by
 rw [sesK,sesK,List.take_succ_eq_append_getElem hk,hx,List.flatMap_append,←List.append_assoc]
 simp
theorem Xf3 (s:Ses) {k:Nat} (h:s.ents.length≤k):sesK s k=sesText s:=by rw [sesK,List.take_of_length_le h];rfl
theorem Xb7 (s:Bytes):(sumP s).length≤32:=by
 unfold sumP
 rw [List.length_map]
 exact Xfq _ 8
theorem Xjj:∀ {l:List Ent},(∀e∈l,EncOk e∧e.exts.length≤1000)→(l.flatMap encE).length≤54000*l.length
 | [],_=>by simp
 |e::l,h=>by
  have h1:=Xf8 (h e (List.mem_cons_self ..)).1 (h e (List.mem_cons_self ..)).2
  have h2:=Xjj fun x hx=>h x (List.mem_cons_of_mem _ hx)
  simp only [List.flatMap_cons,List.length_append,List.length_cons]
  omega
theorem Xds {l:List Ent} {k:Nat} (hk:k<l.length) {x:Ent} (hx:l[k]=x):entsErr (l.drop k)=if entErr x≠0 then entErr x else entsErr (l.drop (k+1)):=by
 rw [List.drop_eq_getElem_cons hk,hx];rfl
end Go.Proofs.YtkipnpjagcfcpaaGreatDoor
namespace Go.Proofs.YtkipnpjagcfcpaaGreatDoor
structure SIn (n:Nat) (s:Stt):Prop where
 ok:SOk n s
 sml:SmlT s.tree
theorem Xpv:SIn 0 nilS:=⟨Xun,fun _ h=>(by cases h)⟩
theorem SIn.mono {n m:Nat} {s:Stt} (h:SIn n s) (hm:n≤m):SIn m s:=⟨h.ok.mono hm,h.sml⟩
theorem Xiu {n:Nat} {s:Stt} (h:SIn n s) (e:Ent) (d:Int) (hp:e.path.length≤300) (ht:e.target.length≤300):SIn (n+1) (stpP s e d).1:=by
 refine ⟨Xsd h.ok e d,?_⟩
 unfold stpP
 split
 ·exact h.sml
 ·rename_i h1
  split
  ·exact h.sml
  ·split
   ·exact h.sml
   ·have ha:=Xek (t:=s.tree) (e:=e) (by omega)
    obtain ⟨_,hx⟩:=applyT_iff.1 ha
    intro z hz
    rw [hx] at hz
    rcases (Xuy h.ok.tree.srt e z).1 hz with ⟨_,rfl⟩|⟨hz,_⟩
    ·omega
    ·exact h.sml z hz
theorem Xpy:∀(l:List Ent) {n:Nat} {s:Stt} (_:SIn n s) (d:Int),(∀e∈l,e.path.length≤300∧e.target.length≤300)→SIn (n+l.length) (runS s d l)
 | [],_,_,h,_,_=>h
 |e::l,n,s,h,d,hl=>by
  have he:=hl e (List.mem_cons_self ..)
  have:=Xpy l (Xiu h e d he.1 he.2) d fun x hx=>hl x (List.mem_cons_of_mem _ hx)
  exact this.mono (by simp;omega)
theorem Xm6 (s:Stt) (d:Int) (l:List Ent) (e:Ent):runS s d (l++ [e])=(stpP (runS s d l) e d).1:=by simp [runS]
theorem Xsp {s:Stt} {d:Int} {l:List Ent} {k:Nat} (hk:k<l.length) {e:Ent} (he:l[k]=e):runS s d (l.take (k+1))=(stpP (runS s d (l.take k)) e d).1:=by
 rw [List.take_succ_eq_append_getElem hk,he,Xm6]
theorem Xt7 {s:Stt} {l:List Ses} {k:Nat} (hk:k<l.length) {x:Ses} (hx:l[k]=x):aftS s (l.take (k+1))=runS (aftS s (l.take k)) x.date x.ents:=by
 rw [List.take_succ_eq_append_getElem hk,hx,Xpa];rfl
def pairs (l:List Ses):List (Ses × Ent):=l.flatMap fun s=>s.ents.map fun e=>(s,e)
def stq (s:Stt) (q:Ses × Ent):Stt:=(stpP s q.2 q.1.date).1
theorem Xj7 (x:Ses):∀(l:List Ent) (s:Stt),runS s x.date l=(l.map fun e=>(x,e)).foldl stq s
 | [],_=>rfl
 |e::l,s=>by
  rw [List.map_cons,List.foldl_cons]
  exact Xj7 x l _
theorem Xhu:∀(l:List Ses) (s:Stt),aftS s l=(pairs l).foldl stq s
 | [],_=>rfl
 |x::l,s=>by
  rw [pairs,List.flatMap_cons,List.foldl_append,←Xj7]
  exact Xhu l _
def verQ (p:Bytes):Stt→List (Ses × Ent)→List Ver
 |_,[]=> []
 |s,q::r=>(if verHit s p q.2 then [⟨q.1.num,q.1.date,q.2⟩] else [])++verQ p (stq s q) r
theorem Xjg:∀(l:List (Ses × Ent)) {n:Nat} {s:Stt} (_:SIn n s),(∀q∈l,q.2.path.length≤300∧q.2.target.length≤300)→SIn (n+l.length) (l.foldl stq s)
 | [],_,_,h,_=>h
 |q::l,n,s,h,hl=>by
  have he:=hl q (List.mem_cons_self ..)
  have:=Xjg l (Xiu h q.2 q.1.date he.1 he.2) fun x hx=>hl x (List.mem_cons_of_mem _ hx)
  exact this.mono (by simp;omega)
def gr40 (s:Ses):Bool:=decide (100<s.prev.length) || (decide (1000<s.stream.length) || (decide (2100<s.sl.length) || ((decide (12<s.ents.length)&&decide (s.ents.length≠401)) || s.ents.any greatE)))
def gr41s (s:Ses):Bool:=decide (30<s.ents.length) || gr40 s
def wtS (s:Ses):Nat:=s.stream.length+10*s.ents.length
def wtL (l:List Ses):Nat:=(l.map wtS).sum
def gr41 (l:List Ses):Bool:=decide (8<l.length) || (l.any gr41s || decide (20000<wtL l))
structure Ses.Wf (s:Ses):Prop where
 num: -9223372036854775808≤s.num∧s.num≤9223372036854775807
 date: -9223372036854775808≤s.date∧s.date≤9223372036854775807
 ents:∀e∈s.ents,e.Wf
end Go.Proofs.YtkipnpjagcfcpaaGreatDoor
namespace Go.Proofs.YtkipnpjagcfcpaaGreatDoor
open Go.ChangeShapes Go.WideShapes Go.ChangeAt Go.RowKit
def HeapI (w:World):IH:=fun b=>match w.heap[b]? with|some (.cells c _ _)=>some c|_=>none
theorem HeapI.ok (w:World):Ok (HeapI w) w:=by
 intro b c h
 unfold HeapI at h
 split at h
 ·rename_i c' e f hb
  cases h
  exact ⟨e,f,hb⟩
 ·cases h
theorem HeapI.of_var {P:Program} {w:World} {name:String} {g:Nat} {cs:Array Value} (hg:P.globalNamed name=some g) (h:w.var? P name=some cs):HeapI w g=some cs:=by
 unfold World.var? at h
 rw [hg,Option.bind_some] at h
 unfold HeapI
 split at h
 ·rename_i hb;cases h;rw [hb]
 ·cases h
theorem HeapI.of_cell {w:World} {a:Addr} {x:Value} (h:w.cell? a=some x):a.spot=none∧ ∃c,HeapI w a.block=some c∧c[a.off]? =some x:=by
 unfold World.cell? at h
 unfold HeapI
 split at h
 ·rename_i c e f hb
  split at h
  ·cases h
  ·rename_i hs
   refine ⟨by cases hsp:a.spot<;>simp_all,c,by rw [hb],h⟩
 ·cases h
def Opens {α:Type} (P:Program) (t:TypeId) (T:Ty α) (Wf:α→Prop):Prop:=
 P.cellsOf t=T.size∧0<T.size∧ ∀ {H:Type} {enc:TypeId × Value→H} {w:World} {base:Nat} {spare:Nat→Bool} {held:Bool} {fuel:Nat} {cs:List Value} {x:DataW H × List MemPlace},
  DataW.trod enc P w base spare held fuel t cs=some x→ ∃y,T.rd (HeapI w) cs y∧Wf y
section
variable {α:Type} {P:Program} {T:Ty α} {Wf:α→Prop}
variable {H:Type} {enc:TypeId × Value→H} {w:World} {base:Nat} {spare:Nat→Bool} {held:Bool} {fuel:Nat} {cs:List Value} {x:DataW H × List MemPlace}
end
theorem Xwv {α:Type}:∀ {l:List α},l.length=2→ ∃a b,l= [a,b]
 | [a,b],_=>⟨a,b,rfl⟩
theorem Xwu {α:Type}:∀ {l:List α},l.length=5→ ∃a b c d e,l= [a,b,c,d,e]
 | [a,b,c,d,e],_=>⟨a,b,c,d,e,rfl⟩
theorem Xem {H:Type} {enc:TypeId × Value→H} {P:Program} (hl:laidOutB P=true) {W W':World} (hb:Below W.heap.size W W'):
 ∀ {ts:List TypeId} {vs:List Value} {ds:List (DataW H)} {p:List MemPlace},(ts.all fun t=>P.readableRec t&&decide (t<P.types.size))=true→
 DataW.TrodAll enc P W 0 (fun _=>true) true ts vs ds p→(∀x∈p,x.block<W.heap.size)→DataW.TrodAll enc P W' 0 (fun b=>decide (b<W.heap.size)) true ts vs ds p
 | [],[],[],_,_,h,_=>h
 | [],[],_::_,_,_,h,_=>h.elim
 | [],_::_,_,_,_,h,_=>h.elim
 |_::_,[],_,_,_,h,_=>h.elim
 |_::_,_::_,[],_,_,h,_=>h.elim
 |t::ts,v::vs,d::ds,p,ha,h,hlt=>by
  obtain ⟨q,r,h1,h2,rfl⟩:=h
  simp only [List.all_cons,Bool.and_eq_true,decide_eq_true_eq] at ha
  exact ⟨q,r,hb.trod hl ha.1.1 ha.1.2 h1 (fun x hx=>hlt x (List.mem_append_left _ hx)),Xem hl hb ha.2 h2 (fun x hx=>hlt x (List.mem_append_right _ hx)),rfl⟩
theorem Xsz {H:Type} {enc:TypeId × Value→H} {P:Program} (hl:laidOutB P=true) {f:Func} {s:ChangeSpec} {W W':World} {args:Array Value} {ds:List (DataW H)} {before:List MemPlace} {tb:TypeId}
 (hs:s.vars= []) (hW:DataW.Whole enc P f.params.toList s.vars false W args.toList ds [] before) (hr:f.resultTypes= #[tb]) (hu:P.underlying tb=some .bool)
 (hfn:s.fn H (ds++ [])= { results:= [.lit (.bool true)],args:=ds }) (hall:(f.params.toList.all fun t=>P.readableRec t&&decide (t<P.types.size))=true) (hb:Below W.heap.size W W'):
 s.post enc P f false true false false W args (.bool true) W':=by
 have hlt:∀p∈before,p.block<W.heap.size:=fun p hp=>hW.lt p hp
 have hW':=hW
 obtain ⟨p,q,hA,hV,rfl,_,_⟩:=hW'
 rw [hs] at hV
 have hq:q= []:=hV
 subst hq
 refine ⟨ds,[],_,[],p,[],hW,?_,?_,?_,World.keptBut_mono (fun x hx=>⟨hx,?_⟩) (hb.frame (· ∈p++ [])),fun h=>by cases h⟩
 ·rw [hfn,hr];exact trodAll_mk1 (shut_bool hu true)
 ·rw [hfn];exact Xem hl hb hall hA (fun x hx=>hlt x (List.mem_append_left _ hx))
 ·rw [hfn,hs];rfl
 ·exact .inr (.inl (by simpa using hx))
end Go.Proofs.YtkipnpjagcfcpaaGreatDoor
namespace Go.Proofs.YtkipnpjagcfcpaaGreatDoor
open Go.ChangeShapes Go.WideShapes Go.ChangeAt Go.RowKit
theorem own:ownKnob Tryz.prog.godebug=none:=by kernel_rfl
theorem laidOut:laidOutB Tryz.prog=true:=by kernel_rfl
theorem Xu2 {P:Program} {w:World} {r:Reach} {b0:Nat} {t:TypeId} {k:IntKind} {v:Value} (ht:P.underlying t=some (.int k)) (hv:Value.okWide P w r b0 t v):∃n:Int,v= .int k n∧k.min≤n∧n≤k.max:=by
 obtain ⟨n,rfl⟩:=okWide_int ht hv
 simp [Value.okWide,ht,Cell.okWide,Cell.ok,IntKind.has] at hv
 exact ⟨n,rfl,hv.1,hv.2⟩
theorem Xig {P:Program} {n nm:String} {d:DataW Unit} {r:List (String × DataW Unit)} {W:World} {g:Nat} {ti:TypeId} {ms:Array (String × TypeId)}
 (h:laidMet P ((n,.iface nm d)::r) W) (hg:P.globalNamed n=some g) (ht:(P.globals[g]?).map (·.type)=some ti) (hi:P.underlying ti=some (.interface ms)):
 ∃tp p,W.var? P n=some #[.iface tp p]:=by
 obtain ⟨ps,⟨g0,t0,cs0,f0,p0,q0,hg0,ht0,hv0,hd0,_,e0⟩,_,hrows⟩:=h
 obtain rfl:=Option.some.inj (hg.symm.trans hg0)
 obtain rfl:=Option.some.inj (ht.symm.trans ht0)
 subst e0
 obtain ⟨l0⟩:=cs0
 obtain ⟨f1,u,v,hcs,_,_⟩:=iface_of_trod hi hd0
 have hcs':l0= [.iface u v]:=hcs
 subst hcs'
 exact ⟨u,v,hv0⟩
theorem Xky {W:World} (h:laidMetH Tryz.prog Rows.exportResultsRow.laid W) (hsh:W.ShapedOpen Tryz.prog):Glob (HeapI W):=by
 rw [MakeChecks.laidMetH_plain _ _ _ (by kernel_rfl)] at h
 have h2 : Lib.TabIs Tryz.prog W "internal/strconv.uint64pow10" .u64 Lib.pow10Tab :=
  Lib.tabIs_of_head (t:=317) (e:=23) (n:=20) (g:=3) (rest:=(Rows.exportResultsRow.laid).drop 3) (by kernel_rfl) (by kernel_rfl) Tryz.underlying317 Tryz.underlying23 (by kernel_rfl) (by kernel_rfl) h.tail.tail
 obtain ⟨tp1,p1,h3⟩:=Xig (ti:=73) (g:=2) h.tail.tail.tail.tail (by kernel_rfl) (by kernel_rfl) Tryz.underlying73
 obtain ⟨tp2,p2,h4⟩:=Xig (ti:=73) (g:=1) h.tail.tail.tail.tail.tail (by kernel_rfl) (by kernel_rfl) Tryz.underlying73
 obtain ⟨m,hm⟩:=cell_of_shapedOpen_int (g:=0) (zero:= #[.int .i64 0]) (t:=3) hsh (of_decide_eq_true (by kernel_rfl)) (by kernel_rfl) rfl (by kernel_rfl) (by kernel_rfl) Tryz.underlying3
 obtain ⟨_,c,hc1,hc2⟩:=HeapI.of_cell hm
 exact ⟨HeapI.of_var (by kernel_rfl) h2,⟨c,m,hc1,hc2⟩,⟨tp2,p2,HeapI.of_var (by kernel_rfl) h4⟩,⟨tp1,p1,HeapI.of_var (by kernel_rfl) h3⟩⟩
section
variable {H:Type} {enc:TypeId × Value→H}
end
end Go.Proofs.YtkipnpjagcfcpaaGreatDoor
namespace Go.Proofs.YtkipnpjagcfcpaaGreatDoor
open Go.RowKit
structure SesH (s:Ses):Prop where
 nents:s.ents.length≤400
 stream:s.stream.length≤14680064
 prev:s.prev.length≤100
 sl:s.sl.length≤2100
 wf:∀e∈s.ents,e.Wf
 path:∀e∈s.ents,e.path.length≤300
 target:∀e∈s.ents,e.target.length≤300
 exts:∀e∈s.ents,e.exts.length≤1000
 num: -9223372036854775808≤s.num∧s.num≤9223372036854775807
 date: -9223372036854775808≤s.date∧s.date≤9223372036854775807
theorem Xj4 {s:Ses} (h:SesH s) (hf:fldErr s=0):(sesHead s).length≤400:=by
 have hk:=Xhf hf
 have h1:=Xbc (n:=s.num) (by omega) (by omega)
 have h2:=Xbc (n:=s.date) (by omega) (by omega)
 have h3:=Xaq s.prev (by have:=h.prev;omega)
 have h4:=Xbg s.stream.length (by have:=h.stream;omega)
 have h5:=Xb7 s.stream
 have h6:=Xaq (sumP s.stream) (by omega)
 have h7:=Xbg s.ents.length (by have:=h.nents;omega)
 have h8:=h.prev
 unfold sesHead
 simp only [List.length_append]
 omega
theorem Xgo {s:Ses} (h:SesH s) (hf:fldErr s=0) {k:Nat} (hv:∀e∈s.ents.take k,entErr e=0):(sesK s k).length≤22000000:=by
 have h1:=Xj4 h hf
 have h2:=Xjj (l:=s.ents.take k) fun e he=>⟨Xca (hv e he),by have:=h.exts e (List.mem_of_mem_take he);omega⟩
 have h3:(s.ents.take k).length≤s.ents.length:=by simp;omega
 have h4:=h.nents
 unfold sesK
 rw [List.length_append]
 omega
theorem Xm2 (b:Nat) (s:Bytes) (hs:s.length≤140737488355328) (w:World) (hc:w.cell? ⟨b,0,none⟩=some (S s)) (hbl:b<w.heap.size):
 Calls Tryz.prog 84 #[.slice (some ⟨b,0,none⟩) 1 1] w fun e w'=>e= .returned (S (sumP s))∧Below w.heap.size w w':=
 Xjt b 0 1 [s] s (by simp) hs w (fun j x hx=>by match j,hx with|0,hx=>cases hx;exact hc) (by simp) hbl (by simp)
set_option maxRecDepth 100000 in
theorem Xtw (B b:Nat) (l:Bytes) (w:World) (h:Lib.IsBuilder 71 5 B b (Lib.byteCells l) w):
 Calls Tryz.prog 139 #[.pointer (some ⟨b,0,none⟩)] w fun e w'=>e= .returned (.int .i64 l.length)∧Below w.heap.size w w':=by
 have hb:∃p v,w.heap[b]? =some (.cells #[p,v] 71 (0,0))∧w.ownsRow B 5 1 v l.length (Lib.byteCells l):=by
  rcases h with ⟨_,v,h1,h2,_⟩|⟨_,v,h1,h2,_⟩
  ·exact ⟨_,v,h1,by rw [Lib.byteCells,List.length_map] at h2;exact h2⟩
  ·exact ⟨_,v,h1,by rw [Lib.byteCells,List.length_map] at h2;exact h2⟩
 obtain ⟨p,v,h1,h2⟩:=hb
 have hv:∃a c,v= .slice a l.length c:=by
  rcases h2.2 with ⟨h3,h4⟩|⟨g,cap,cur,h3,_⟩
  ·exact ⟨_,_,by rw [h3,h4]⟩
  ·exact ⟨_,_,h3⟩
 obtain ⟨a,c,rfl⟩:=hv
 have hc:w.cell? ⟨b,1,none⟩=some (.slice a l.length c):=by rw [cell_of_row w b 1 _ _ _ h1];rfl
 clear h h1 h2
 go_enter Tryz.func139,Tryz.ntmps139
 go_wp2
 go_ret
 exact ⟨rfl,Qb _ _⟩
set_option maxRecDepth 100000 in
set_option maxHeartbeats 1000000 in
theorem Xjn (s:Ses) (ao:Option Addr) (co:Nat) (hf:fldErr s≠0) (w:World):
 Calls Tryz.prog 83 #[sesV s (.slice ao s.ents.length co)] w fun r w'=>r= .returned (.tuple #[S [],.int .i64 (fldErr s)])∧Below w.heap.size w w':=by
 have Hf:=Qh (fun w=>Xlh s ao co w)
 obtain ⟨q,hq⟩:∃q,fldErr s=q:=⟨_,rfl⟩
 rw [hq] at Hf hf ⊢
 have hn0:(q != 0)=true:=by simpa using hf
 clear hq hf
 go_enter Tryz.func83,Tryz.ntmps83
 go_wp2_with fail
 refine (Hf.out _).mono ?_
 rintro e1 w1 ⟨rfl,hb1⟩
 have hb1':=((Qb w.heap.size w).alloc (Qn _) (.cells #[.int .i64 s.num,.int .i64 s.date,S s.prev,.slice ao s.ents.length co,S s.stream,S s.sl] 62)).trans (hb1.mono (by simp))
 go_wp2
 go_ret2
 exact ⟨rfl,hb1'⟩
abbrev sgLW (n:Nat) (st p4 sm p6 p7 u:Bytes) (ao:Option Addr) (le co:Nat) (x:Nat × Nat):List (Option Tmp × Value):=
 [(some 37,.pointer (some ⟨n,4,none⟩)),(some 38,S st),(some 39,.int .i64 (st.length:Int)),(some 40,S p4),(some 41,.pointer (some ⟨n,4,none⟩)),(some 42,S st),(some 43,.slice (some ⟨x.1,0,none⟩) 1 1),(some 44,S sm),(some 45,S p6),(some 46,S (p4++p6)),
  (some 47,.pointer (some ⟨n,3,none⟩)),(some 48,.slice ao le co),(some 49,.int .i64 (le:Int)),(some 50,S p7),(some 51,S u),(some 52,.tuple #[.int .i64 (u.length:Int),.nilIface])]
theorem Xaj {n:Nat} {st p4 sm p6 p7 u:Bytes} {ao:Option Addr} {le co:Nat} {x:Nat × Nat}:ApartF (sgLW n st p4 sm p6 p7 u ao le co x):=by
 unfold ApartF
 simp
set_option maxRecDepth 100000 in
set_option maxHeartbeats 4000000 in
theorem Xoz (I:IH) (hI:Glob I) (s:Ses) (ve:Value) (hve:RdS tEnt I ve s.ents) (hg:SesH s) (hf:fldErr s=0) (w:World) (hw:Ok I w):
 Calls Tryz.prog 83 #[sesV s ve] w fun r w'=>r= .returned (.tuple #[S (if sesErr s=0 then sesText s else []),.int .i64 (sesErr s)])∧Below w.heap.size w w':=by
 obtain ⟨ao,co,rfl,_,_,_⟩:=id hve
 have Hv:=Qh hve
 have Hg:=Qh hg
 have Hf:=Qh (fun w=>Xlh s ao co w)
 rw [hf] at Hf
 have hks:=Xhf hf
 have hn30:=hg.nents
 have hst:=hg.stream
 have hpv:=hg.prev
 have hsl:=hg.sl
 have d1:decide (14680064<s.stream.length)=false:=Qf (by omega)
 have d2:decide (400<s.ents.length)=false:=Qf (by omega)
 have Hse:=Qh (show sesErr s=if entsErr s.ents≠0 then entsErr s.ents else if 2000<s.sl.length then 6 else 0 by
  rw [sesErr,if_neg (by omega),if_neg (by omega)])
 have Hkl:=Qh (fun k hv=>Xgo (k:=k) hg hf hv)
 have hm1:=Xbc (n:=s.num) (by omega) (by omega)
 have hm2:=Xbc (n:=s.date) (by omega) (by omega)
 have hm3:=Xaq s.prev (by omega)
 have hm4:=Xbg s.stream.length (by omega)
 have hsm:=Xb7 s.stream
 have hm5:=Xaq (sumP s.stream) (by omega)
 have hm6:=Xbg s.ents.length (by omega)
 have H1:=Qh (fun w hw=>Xdm I hI s.num (by omega) (by omega) w hw)
 have H2:=Qh (fun w hw=>Xdm I hI s.date (by omega) (by omega) w hw)
 have H3:=Qh (fun w hw=>Xbu I hI s.prev (by omega) w hw)
 have H4:=Qh (fun w hw=>Xb0 I hI s.stream.length (by omega) w hw)
 have H5:=Qh (fun b w hc hb=>Xm2 b s.stream (by omega) w hc hb)
 have H6:=Qh (fun w hw=>Xbu I hI (sumP s.stream) (by omega) w hw)
 have H7:=Qh (fun w hw=>Xb0 I hI s.ents.length (by omega) w hw)
 have Hh:=Qh (show numP s.num++numP s.date++netP s.prev++(numP s.stream.length++netP (sumP s.stream)++numP s.ents.length)=sesK s 0 by
  rw [sesK,List.take_zero];simp [sesHead])
 clear hve hg hf hks
 generalize numP s.num=p1 at hm1 H1 Hh
 generalize numP s.date=p2 at hm2 H2 Hh
 generalize netP s.prev=p3 at hm3 H3 Hh
 generalize numP (s.stream.length:Int)=p4 at hm4 H4 Hh
 generalize netP (sumP s.stream)=p6 at hm5 H6 Hh
 generalize sumP s.stream=sm at hsm hm5 H5 H6
 generalize numP (s.ents.length:Int)=p7 at hm6 H7 Hh
 obtain ⟨T,hT⟩:∃T,(if sesErr s=0 then sesText s else [])=T:=⟨_,rfl⟩
 obtain ⟨E,hE⟩:∃E,sesErr s=E:=⟨_,rfl⟩
 rw [hT,hE]
 have HT:=Qh hT
 have HE:=Qh hE
 clear hT hE
 go_enter Tryz.func83,Tryz.ntmps83
 go_wp2_with fail
 refine (Hf.out _).mono ?_
 rintro e1 w1 ⟨rfl,hb1⟩
 have HB1:=Qh (sesB (s:=s) rfl hb1)
 have hok1:Ok I w1:=(hw.alloc _).below (Qn _) hb1
 have hb1':=((Qb w.heap.size w).alloc (Qn _) (.cells #[.int .i64 s.num,.int .i64 s.date,S s.prev,.slice ao s.ents.length co,S s.stream,S s.sl] 62)).trans (hb1.mono (by simp))
 have hbd1:Lib.IsBuilder 71 5 w1.heap.size w1.heap.size (Lib.byteCells []) (w1.alloc (.cells #[.pointer none,.slice none 0 0] 71)):=Lib.fresh_isBuilder _ _ w1
 have hsz1:w.heap.size<w1.heap.size:=by have:=hb1.size;simp at this;omega
 have hok1f:∀b,w1.heap.size≤b→I b=none:=fun b hb=>hok1.fresh hb
 have HB1a:=Qh (SesB.past HB1.out (.cells #[.pointer none,.slice none 0 0] 71))
 have hok1a:Ok I (w1.alloc (.cells #[.pointer none,.slice none 0 0] 71)):=hok1.alloc _
 obtain ⟨c0,c1,c2,c3,c4,c5⟩:=HB1.out
 go_wp2_with fail
 clear c0 c1 c2 c3 c4 c5
 obtain ⟨c0,c1,c2,c3,c4,c5⟩:=HB1a.out
 have e0:=cell_regrown c0
 have e1:=cell_regrown c1
 have e2:=cell_regrown c2
 clear hb1 Hf c0 c1 c2 c3 c4 c5 HB1
 refine Xac 11 (by kernel_rfl) (by kernel_rfl) ?_
 simp only [List.take_succ_cons,List.take_zero,List.drop_succ_cons,List.drop_zero]
 repeat (go_big_quiet_step ((with_reducible first|exact Calls.regrown_of (H1.out _ (hok1a.below (Qn _) (below_regrown _ _ _)))|exact Calls.regrown_of (H2.out _ (hok1a.below (Qn _) (below_regrown _ _ _)))|exact Calls.regrown_of (H3.out _ (hok1a.below (Qn _) (below_regrown _ _ _))))))
 refine wpQuiet_nil ?_
 intro w2 hwq
 have hb2:Below ((w1.alloc (.cells #[.pointer none,.slice none 0 0] 71))).heap.size ((w1.alloc (.cells #[.pointer none,.slice none 0 0] 71))) w2:=by
  obtain ⟨pq,rfl⟩:=hwq
  exact below_regrown _ _ _
 clear hwq
 have hbd2:=Xat hbd1 hb2
 have hok2:Ok I w2:=hok1a.below (Qn _) hb2
 have HB2:=Qh (HB1a.out.thru hb2)
 have hb2':Below w.heap.size w w2:=(hb1'.alloc (by have:=hb1'.size;omega) (.cells #[.pointer none,.slice none 0 0] 71)).trans (hb2.mono (by simp;omega))
 have hsz2:w1.heap.size≤w2.heap.size:=by have:=hb2.size;simp at this;omega
 clear e0 e1 e2 hb2 HB1a hbd1 hok1 hok1a hb1' H1 H2 H3
 go_wp2_with fail
 refine (Tryz.Builder_WriteString w1.heap.size w1.heap.size _ _ _ hbd2 (by rw [ByteArray.size_mk',List.size_toArray];simp [Lib.byteCells];omega) (by omega)).mono ?_
 rintro e3 w3 ⟨rfl,hbd3,hb3⟩
 have hsz3:=hbd3.lt
 have Hbd3:=Qh (Xbm (z:=p1++p2++p3) hbd3 (by simp))
 have hok3:Ok I w3:=hok2.of_block fun b c hb=>hb3.block b (Nat.lt_of_not_le fun h=>by rw [hok1f b h] at hb;cases hb)
 have HB3:=Qh (HB2.out.far hb3 hsz1)
 have hb3':=hb2'.trans (hb3.mono (Nat.le_of_lt hsz1))
 clear hbd2 hbd3 hb3 hb2' hok2 HB2 hsz2
 obtain ⟨c0,c1,c2,c3,c4,c5⟩:=HB3.out
 go_wp2_with fail
 obtain ⟨bl,hbl⟩:∃bl,w1.heap.size=bl:=⟨_,rfl⟩
 obtain ⟨u,hu⟩:∃u,p4++(p6++p7)=u:=⟨_,rfl⟩
 have d46:¬9223372036854775807<p4.length+p6.length:=by omega
 have d51:¬9223372036854775807<p4.length+p6.length+p7.length:=by omega
 have hul:u.length=p4.length+p6.length+p7.length:=by rw [←hu];simp;omega
 rw [List.append_assoc p4,hu] at Hh
 rw [hbl] at Hbd3 hok1f hsz1 hsz3 ⊢
 refine Xak (X:=Nat × Nat) (sgLW w.heap.size s.stream p4 sm p6 p7 u ao s.ents.length co) (QbC w3 15 6 100 [(0,S s.stream)] [] (fun w8=>Lib.IsBuilder 71 5 bl bl (Lib.byteCells (sesK s 0)) w8∧bl<w8.heap.size∧ ∃w7,Below w3.heap.size w3 w7∧Below bl w7 w8)) (by kernel_rfl) (by kernel_rfl) ?_ ?_ ?_
 ·exact ⟨(0,0),QbC.start _ _⟩
 ·rintro x s' a' w' i hsz hcl ha hC hi
  obtain ⟨hun,oi,hoi,hall⟩:=mem_ready.1 hi
  rcases i with _|_|_|_|_|_|_|_|_|_|_|_|_|_|_|_|i
  rotate_left 16
  ·simp at hoi
  all_goals
   have hoj:=hoi
   simp at hoi
   subst hoi
   simp [Region.binds] at hall
  ·have e1:a'.tmps[1]?.getD undef= .pointer (some ⟨w.heap.size,0,none⟩):=Xbl ha (by simp)
   have hl:s'.getD 15 false=false:=Xae hcl [14,9,3,2,1,0] (by kernel_rfl) (by rfl) hun
   refine wpOp_step hoj (fun K' hK=> ?_)
   rw [if_pos (by rfl)]
   unfold Oper.wp
   simp [go_sem,e1,Oper.upon]
   exact hK _ _ ⟨x,Xad (d:=some 37) (v:=(.pointer (some ⟨w.heap.size,4,none⟩))) Xaj ha rfl hun,hC.step hl (Qb _ _) (by decide) (by decide) (by decide)⟩
  ·have e37:a'.tmps[37]?.getD undef= .pointer (some ⟨w.heap.size,4,none⟩):=Xap (i:=0) Xaj ha rfl (by first|simpa using hall|simpa using hall.1) (by simp)
   have c4':=Xaa (hC.bel (Xae hcl [14,9,3,2,1] (by kernel_rfl) (by rfl) hun)) c4
   have hl:s'.getD 15 false=false:=Xae hcl [14,9,3,2,1] (by kernel_rfl) (by rfl) hun
   refine wpOp_step hoj (fun K' hK=> ?_)
   rw [if_pos (by rfl)]
   unfold Oper.wp
   simp [go_sem,e37,c4',Oper.upon]
   exact hK _ _ ⟨x,Xad (d:=some 38) (v:=(S s.stream)) Xaj ha rfl hun,hC.step hl (Qb _ _) (by decide) (by decide) (by decide)⟩
  ·have e38:a'.tmps[38]?.getD undef=S s.stream:=Xap (i:=1) Xaj ha rfl (by first|simpa using hall|simpa using hall.1) (by simp)
   have hl:s'.getD 15 false=false:=Xae hcl [14,9,3,2] (by kernel_rfl) (by rfl) hun
   refine wpOp_step hoj (fun K' hK=> ?_)
   rw [if_pos (by rfl)]
   unfold Oper.wp
   simp [go_sem,e38,Oper.upon]
   exact hK _ _ ⟨x,Xad (d:=some 39) (v:=(.int .i64 (s.stream.length:Int))) Xaj ha rfl hun,hC.step hl (Qb _ _) (by decide) (by decide) (by decide)⟩
  ·have e39:a'.tmps[39]?.getD undef= .int .i64 (s.stream.length:Int):=Xap (i:=2) Xaj ha rfl (by first|simpa using hall|simpa using hall.1) (by simp)
   have hl:s'.getD 15 false=false:=Xae hcl [14,9,3] (by kernel_rfl) (by rfl) hun
   have hokw:=hok3.below (Qn _) (hC.bel hl)
   refine wpOp_step hoj (fun K' hK=> ?_)
   rw [if_pos (by rfl)]
   unfold Oper.wp
   simp [go_sem,e39,Oper.upon]
   refine (H4.out w' hokw).mono ?_
   rintro r4 w4 ⟨rfl,hb4⟩
   exact hK _ _ ⟨x,Xad (d:=some 40) (v:=(S p4)) Xaj ha rfl hun,hC.step hl hb4 (by decide) (by decide) (by decide)⟩
  ·have e1:a'.tmps[1]?.getD undef= .pointer (some ⟨w.heap.size,0,none⟩):=Xbl ha (by simp)
   have hl:s'.getD 15 false=false:=Xae hcl [14,9,8,7,6,5,4] (by kernel_rfl) (by rfl) hun
   refine wpOp_step hoj (fun K' hK=> ?_)
   rw [if_pos (by rfl)]
   unfold Oper.wp
   simp [go_sem,e1,Oper.upon]
   exact hK _ _ ⟨x,Xad (d:=some 41) (v:=(.pointer (some ⟨w.heap.size,4,none⟩))) Xaj ha rfl hun,hC.step hl (Qb _ _) (by decide) (by decide) (by decide)⟩
  ·have e41:a'.tmps[41]?.getD undef= .pointer (some ⟨w.heap.size,4,none⟩):=Xap (i:=4) Xaj ha rfl (by first|simpa using hall|simpa using hall.1) (by simp)
   have c4':=Xaa (hC.bel (Xae hcl [14,9,8,7,6,5] (by kernel_rfl) (by rfl) hun)) c4
   have hl:s'.getD 15 false=false:=Xae hcl [14,9,8,7,6,5] (by kernel_rfl) (by rfl) hun
   refine wpOp_step hoj (fun K' hK=> ?_)
   rw [if_pos (by rfl)]
   unfold Oper.wp
   simp [go_sem,e41,c4',Oper.upon]
   exact hK _ _ ⟨x,Xad (d:=some 42) (v:=(S s.stream)) Xaj ha rfl hun,hC.step hl (Qb _ _) (by decide) (by decide) (by decide)⟩
  ·have e42:a'.tmps[42]?.getD undef=S s.stream:=Xap (i:=5) Xaj ha rfl (by first|simpa using hall|simpa using hall.1) (by simp)
   have hl:s'.getD 15 false=false:=Xae hcl [14,9,8,7,6] (by kernel_rfl) (by rfl) hun
   have ha:=ha.trans (Xmr (L:=sgLW w.heap.size s.stream p4 sm p6 p7 u ao s.ents.length co x) (M:=sgLW w.heap.size s.stream p4 sm p6 p7 u ao s.ents.length co (w'.heap.size,x.2)) 6 rfl (fun j hne=>by
    rcases j with _|_|_|_|_|_|_|j<;>first|rfl|(exact absurd rfl hne)|simp) hun)
   refine wpOp_step hoj (fun K' hK=> ?_)
   rw [if_pos (by rfl)]
   unfold Oper.wp
   simp [go_sem,e42,Oper.upon]
   refine hK _ _ ⟨(w'.heap.size,x.2),Xad (d:=some 43) (v:= .slice (some ⟨w'.heap.size,0,none⟩) 1 1) Xaj ha rfl hun,hC.at1 hl ((Qb _ _).alloc (Qn _) _) (by decide) (by decide) (fun p hp=> ?_)⟩
   simp at hp
   subst hp
   simp
  ·have e43:a'.tmps[43]?.getD undef= .slice (some ⟨x.1,0,none⟩) 1 1:=Xap (i:=6) Xaj ha rfl (by first|simpa using hall|simpa using hall.1) (by simp)
   have hcx:=hC.f1 (by first|simpa using hall|simpa using hall.1) (Xae hcl [14,9,8,7] (by kernel_rfl) (by rfl) hun) _ (List.mem_singleton.2 rfl)
   have hl:s'.getD 15 false=false:=Xae hcl [14,9,8,7] (by kernel_rfl) (by rfl) hun
   have hokw:=hok3.below (Qn _) (hC.bel hl)
   refine wpOp_step hoj (fun K' hK=> ?_)
   rw [if_pos (by rfl)]
   unfold Oper.wp
   simp [go_sem,e43,Oper.upon]
   refine (H5.out x.1 w' hcx (block_lt_of_cell hcx)).mono ?_
   rintro r4 w4 ⟨rfl,hb4⟩
   exact hK _ _ ⟨x,Xad (d:=some 44) (v:=(S sm)) Xaj ha rfl hun,hC.step hl hb4 (by decide) (by decide) (by decide)⟩
  ·have e44:a'.tmps[44]?.getD undef=S sm:=Xap (i:=7) Xaj ha rfl (by first|simpa using hall|simpa using hall.1) (by simp)
   have hl:s'.getD 15 false=false:=Xae hcl [14,9,8] (by kernel_rfl) (by rfl) hun
   have hokw:=hok3.below (Qn _) (hC.bel hl)
   refine wpOp_step hoj (fun K' hK=> ?_)
   rw [if_pos (by rfl)]
   unfold Oper.wp
   simp [go_sem,e44,Oper.upon]
   refine (H6.out w' hokw).mono ?_
   rintro r4 w4 ⟨rfl,hb4⟩
   exact hK _ _ ⟨x,Xad (d:=some 45) (v:=(S p6)) Xaj ha rfl hun,hC.step hl hb4 (by decide) (by decide) (by decide)⟩
  ·have e40:a'.tmps[40]?.getD undef=S p4:=Xap (i:=3) Xaj ha rfl (by simpa using hall.1) (by simp)
   have e45:a'.tmps[45]?.getD undef=S p6:=Xap (i:=8) Xaj ha rfl (by first|simpa using hall.2|simpa using hall.2.1) (by simp)
   have hl:s'.getD 15 false=false:=Xae hcl [14,9] (by kernel_rfl) (by rfl) hun
   refine wpOp_step hoj (fun K' hK=> ?_)
   rw [if_pos (by rfl)]
   unfold Oper.wp
   simp [go_sem,e40,e45,d46,Oper.upon]
   exact hK _ _ ⟨x,Xad (d:=some 46) (v:=(S (p4++p6))) Xaj ha rfl hun,hC.step hl (Qb _ _) (by decide) (by decide) (by decide)⟩
  ·have e1:a'.tmps[1]?.getD undef= .pointer (some ⟨w.heap.size,0,none⟩):=Xbl ha (by simp)
   have hl:s'.getD 15 false=false:=Xae hcl [14,13,12,11,10] (by kernel_rfl) (by rfl) hun
   refine wpOp_step hoj (fun K' hK=> ?_)
   rw [if_pos (by rfl)]
   unfold Oper.wp
   simp [go_sem,e1,Oper.upon]
   exact hK _ _ ⟨x,Xad (d:=some 47) (v:=(.pointer (some ⟨w.heap.size,3,none⟩))) Xaj ha rfl hun,hC.step hl (Qb _ _) (by decide) (by decide) (by decide)⟩
  ·have e47:a'.tmps[47]?.getD undef= .pointer (some ⟨w.heap.size,3,none⟩):=Xap (i:=10) Xaj ha rfl (by first|simpa using hall|simpa using hall.1) (by simp)
   have c3':=Xaa (hC.bel (Xae hcl [14,13,12,11] (by kernel_rfl) (by rfl) hun)) c3
   have hl:s'.getD 15 false=false:=Xae hcl [14,13,12,11] (by kernel_rfl) (by rfl) hun
   refine wpOp_step hoj (fun K' hK=> ?_)
   rw [if_pos (by rfl)]
   unfold Oper.wp
   simp [go_sem,e47,c3',Oper.upon]
   exact hK _ _ ⟨x,Xad (d:=some 48) (v:=(.slice ao s.ents.length co)) Xaj ha rfl hun,hC.step hl (Qb _ _) (by decide) (by decide) (by decide)⟩
  ·have e48:a'.tmps[48]?.getD undef= .slice ao s.ents.length co:=Xap (i:=11) Xaj ha rfl (by first|simpa using hall|simpa using hall.1) (by simp)
   have hl:s'.getD 15 false=false:=Xae hcl [14,13,12] (by kernel_rfl) (by rfl) hun
   refine wpOp_step hoj (fun K' hK=> ?_)
   rw [if_pos (by rfl)]
   unfold Oper.wp
   simp [go_sem,e48,Oper.upon]
   exact hK _ _ ⟨x,Xad (d:=some 49) (v:=(.int .i64 (s.ents.length:Int))) Xaj ha rfl hun,hC.step hl (Qb _ _) (by decide) (by decide) (by decide)⟩
  ·have e49:a'.tmps[49]?.getD undef= .int .i64 (s.ents.length:Int):=Xap (i:=12) Xaj ha rfl (by first|simpa using hall|simpa using hall.1) (by simp)
   have hl:s'.getD 15 false=false:=Xae hcl [14,13] (by kernel_rfl) (by rfl) hun
   have hokw:=hok3.below (Qn _) (hC.bel hl)
   refine wpOp_step hoj (fun K' hK=> ?_)
   rw [if_pos (by rfl)]
   unfold Oper.wp
   simp [go_sem,e49,Oper.upon]
   refine (H7.out w' hokw).mono ?_
   rintro r4 w4 ⟨rfl,hb4⟩
   exact hK _ _ ⟨x,Xad (d:=some 50) (v:=(S p7)) Xaj ha rfl hun,hC.step hl hb4 (by decide) (by decide) (by decide)⟩
  ·have e46:a'.tmps[46]?.getD undef=S (p4++p6):=Xap (i:=9) Xaj ha rfl (by simpa using hall.1) (by simp)
   have e50:a'.tmps[50]?.getD undef=S p7:=Xap (i:=13) Xaj ha rfl (by first|simpa using hall.2|simpa using hall.2.1) (by simp)
   have hl:s'.getD 15 false=false:=Xae hcl [14] (by kernel_rfl) (by rfl) hun
   refine wpOp_step hoj (fun K' hK=> ?_)
   rw [if_pos (by rfl)]
   unfold Oper.wp
   simp [go_sem,e46,e50,d51,hu,Oper.upon]
   exact hK _ _ ⟨x,Xad (d:=some 51) (v:=(S u)) Xaj ha rfl hun,hC.step hl (Qb _ _) (by decide) (by decide) (by decide)⟩
  ·have e51:a'.tmps[51]?.getD undef=S u:=Xap (i:=14) Xaj ha rfl (by first|simpa using hall|simpa using hall.1) (by simp)
   have e5:a'.tmps[5]?.getD undef= .pointer (some ⟨bl,0,none⟩):=Xbl ha (by simp)
   have hl:s'.getD 15 false=false:=Xan hun
   have hbx:=hC.bel hl
   refine wpOp_step hoj (fun K' hK=> ?_)
   rw [if_pos (by rfl)]
   unfold Oper.wp
   simp [go_sem,e51,e5,Oper.upon]
   refine (Tryz.Builder_WriteString bl bl _ _ _ (Xat Hbd3.out hbx) (by rw [ByteArray.size_mk',List.size_toArray];simp [Lib.byteCells];omega) (by have:=hbx.size;omega)).mono ?_
   rintro r8 w8 ⟨rfl,hbd8,hb8⟩
   refine hK _ _ ⟨x,Xad (d:=some 52) (v:= .tuple #[.int .i64 (u.length:Int),.nilIface]) Xaj ha rfl hun,QbC.end' hun ⟨Xbm (z:=sesK s 0) hbd8 Hh.out,hbd8.lt,w',hbx,hb8⟩⟩
 ·rintro x s' a' w8 hup ha hC
  obtain ⟨hbd8,hsz8,w7,hbA,hb8⟩:=hC.fin (hup 15 (by decide))
  rw [Xbb _ _ _ _ (fun i hi=>by rw [Nat.zero_add];exact hup i (by simpa using hi))] at ha
  subst ha
  simp only [fillAll,Act.put]
  subst hbl
  have Hbd8:=Qh hbd8
  have hok8:Ok I w8:=(hok3.below (Qn _) hbA).of_block fun b c hb=>hb8.block b (Nat.lt_of_not_le fun h=>by rw [hok1f b h] at hb;cases hb)
  have HB8:=Qh ((HB3.out.thru hbA).far hb8 hsz1)
  have hb8':=(hb3'.trans (hbA.mono hb3'.size)).trans (hb8.mono (Nat.le_of_lt hsz1))
  clear hC hup hbd8 hb8 hbA d46 d51 hul hu hok3 HB3 hb3' Hbd3 c0 c1 c2 c3 c4 c5 H4 H5 H6 H7 hsz3
  obtain ⟨c0,c1,c2,c3,c4,c5⟩:=HB8.out
  go_wp2_with fail
  clear c0 c1 c2 c3 c4 c5
  go_loopw [56] (fun s56 wr=> ∃k:Nat,k≤s.ents.length∧s56= .int .i64 k∧entsErr (s.ents.drop k)=entsErr s.ents∧(∀e∈s.ents.take k,entErr e=0)∧Lib.IsBuilder 71 5 w1.heap.size w1.heap.size (Lib.byteCells (sesK s k)) wr∧Ok I wr∧SesB wr w.heap.size s (.slice ao s.ents.length co)∧Below w.heap.size w wr∧w1.heap.size<wr.heap.size) (fun i _=>s.ents.length-(intOf i).toNat)
  case atStart=>exact ⟨0,Nat.zero_le _,rfl,rfl,fun e he=>by simp at he,Hbd8.out,hok8,HB8.out,hb8',hsz8⟩
  case round=>
   clear Hbd8 HB8 hb8' hok8 hsz8
   obtain ⟨k,hk,rfl,hes,hval,hbd,hwr,hBe,hb,hsz⟩:=hrel
   have Hbd:=Qh hbd
   have HBe:=Qh hBe
   have Hes:=Qh hes
   have Hval:=Qh hval
   have hkl:=Hkl.out k hval
   clear hbd hBe hes hval
   by_cases hlt:k<s.ents.length
   ·obtain ⟨x,vxa,vxx,b,off,cap',hlx,hvv,⟨x0,x1,x2,x3,x4,x5,x6⟩,h1,h2⟩:=Xe3 Hv.out hwr k hlt
    cases hvv
    obtain ⟨xa,xc,rfl,_,_,_⟩:=id h1
    obtain ⟨xx,xd,rfl,_,_,_⟩:=id h2
    have hmem:x∈s.ents:=by rw [←hlx];exact List.getElem_mem hlt
    have hxw:=Hg.out.wf x hmem
    have hxp:=Hg.out.path x hmem
    have hxt:=Hg.out.target x hmem
    have hxe:=Hg.out.exts x hmem
    have Hse1:=Qh (Xds hlt hlx)
    have Hst:=Qh (Xgn hlt hlx)
    have hba:Ok I (wr.alloc (.cells #[.int .i64 x.kind,S x.path,.slice xa x.attrs.length xc,S x.target,.int .i64 x.size,S x.digest,.slice xx x.exts.length xd] 35)):=hwr.alloc _
    by_cases hx0:entErr x=0
    ·have Hval2:=Qh (show ∀e∈s.ents.take (k+1),entErr e=0 from fun e he=>by
      rw [List.take_succ_eq_append_getElem hlt,hlx,List.mem_append,List.mem_singleton] at he
      rcases he with he|rfl
      ·exact Hval.out e he
      ·exact hx0)
     have Hes2:=Qh (show entsErr (s.ents.drop (k+1))=entsErr s.ents by rw [←Hes.out,Hse1.out,if_neg (by omega)])
     have Hen:=Qh (fun w hw=>Xla I hI x _ _ h1 h2 hxw (by omega) (by omega) (Xca hx0) hx0 (by omega) w hw)
     have hel:=Xf8 (Xca hx0) (show x.exts.length≤1000 by omega)
     clear hlx h1 h2 hmem hx0 hxw
     generalize encE x=y at Hst Hen hel
     generalize sesK s k=u at Hst Hbd hkl
     go_wp2_with fail
     refine (Hen.out _ hba).mono ?_
     rintro e1 w4 ⟨rfl,hb4⟩
     have hbA:Below wr.heap.size wr w4:=((Qb _ _).alloc (Qn _) (.cells #[.int .i64 x.kind,S x.path,.slice xa x.attrs.length xc,S x.target,.int .i64 x.size,S x.digest,.slice xx x.exts.length xd] 35)).trans (hb4.mono (by simp))
     have hbd4:=Xat Hbd.out hbA
     have hok4:Ok I w4:=hwr.below (Qn _) hbA
     have HB4:=Qh (HBe.out.thru hbA)
     have hsz4:=hbA.size
     have hb4':=hb.trans (hbA.mono hb.size)
     clear hb4 hbA Hbd HBe x0 x1 x2 x3 x4 x5 x6 Hen hba
     go_wp2_with fail
     refine (Tryz.Builder_WriteString w1.heap.size w1.heap.size _ _ _ hbd4 (by rw [ByteArray.size_mk',List.size_toArray];simp [Lib.byteCells];omega) (by omega)).mono ?_
     rintro e5 w5 ⟨rfl,hbd5,hb5⟩
     have hsz5:=hbd5.lt
     have Hbd5:=Qh (Xbm (z:=sesK s (k+1)) hbd5 Hst.out.symm)
     have hok5:Ok I w5:=hok4.of_block fun b c hb=>hb5.block b (Nat.lt_of_not_le fun h=>by rw [hok1f b h] at hb;cases hb)
     have HB5:=Qh (HB4.out.far hb5 hsz1)
     have hb5':=hb4'.trans (hb5.mono (Nat.le_of_lt hsz1))
     clear hbd4 hbd5 hb5 hb4' hok4 HB4
     go_wp2
     go_roundw
     case rel=>exact ⟨k+1,by omega,by go_num,Hes2.out,Hval2.out,Hbd5.out,hok5,HB5.out,hb5',hsz5⟩
     case measure=>simp [intOf];omega
    ·have Hen:=Qh (fun w hw=>Xk9 I hI x _ _ h1 h2 hxw (by omega) (by omega) hx0 w hw)
     have Hn:=Qh (show sesErr s=entErr x by
      have h:=Hes.out
      rw [Hse1.out,if_pos hx0] at h
      rw [Hse.out,if_pos (by rw [←h];exact hx0),←h])
     have Hn2:=Qh (show (if sesErr s=0 then sesText s else [])= [] by rw [Hn.out,if_neg hx0])
     obtain ⟨q,hq⟩:∃q,entErr x=q:=⟨_,rfl⟩
     rw [hq] at Hen hx0 Hn
     have hn0:(q != 0)=true:=by simpa using hx0
     clear hlx h1 h2 hmem hx0 hxw hq
     go_wp2_with fail
     refine (Hen.out _ hba).mono ?_
     rintro e1 w4 ⟨rfl,hb4⟩
     have hb4':=(hb.alloc hb.size (.cells #[.int .i64 x.kind,S x.path,.slice xa x.attrs.length xc,S x.target,.int .i64 x.size,S x.digest,.slice xx x.exts.length xd] 35)).trans (hb4.mono (by have:=hb.size;simp;omega))
     go_wp2
     go_ret2
     rw [show T= [] by rw [←HT.out,Hn2.out],show E=q by rw [←HE.out,Hn.out]]
     exact ⟨rfl,hb4'⟩
   ·have hke:k=s.ents.length:=by omega
    have Hn:=Qh (Xf3 s (k:=k) (by omega))
    have Hse2:=Qh (show sesErr s=if 2000<s.sl.length then 6 else 0 by
     have h:=Hes.out
     rw [List.drop_of_length_le (by omega)] at h
     rw [Hse.out,if_neg]
     rw [←h];simp [entsErr])
    rw [Hn.out] at Hbd hkl
    obtain ⟨c0,c1,c2,c3,c4,c5⟩:=HBe.out
    by_cases h2:2000<s.sl.length
    ·have dI:decide ((2000:Int)<(s.sl.length:Int))=true:=Qt (by omega)
     have Hn1:=Qh (show sesErr s=6 by rw [Hse2.out,if_pos h2])
     clear hke
     go_wp2
     go_ret2
     rw [show T= [] by rw [←HT.out,Hn1.out];rfl,show E=6 by rw [←HE.out,Hn1.out]]
     exact ⟨rfl,hb⟩
    ·have dI:decide ((2000:Int)<(s.sl.length:Int))=false:=Qf (by omega)
     have Hn1:=Qh (show sesErr s=0 by rw [Hse2.out,if_neg h2])
     clear hke
     obtain ⟨u,hu⟩:∃u,sesText s=u:=⟨_,rfl⟩
     rw [hu] at Hbd hkl
     have Hu:=Qh hu
     clear hu
     have d3:decide (90000000<u.length)=false:=Qf (by omega)
     go_wp2_with fail
     refine (Xtw _ _ _ _ Hbd.out).mono ?_
     rintro e1 w4 ⟨rfl,hb4⟩
     have hbd4:=Xat Hbd.out hb4
     have hb4':=hb.trans (hb4.mono hb.size)
     have hsz4:=hb4.size
     clear hb4 Hbd c0 c1 c2 c3 c4 c5 HBe
     go_wp2_with fail
     refine (Tryz.Builder_String_any w1.heap.size w1.heap.size _ _ hbd4 (by omega)).mono ?_
     rintro e3 w5 ⟨rfl,hb5⟩
     go_wp2
     go_ret2
     rw [show T=u by rw [←HT.out,Hn1.out,Hu.out];rfl,show E=0 by rw [←HE.out,Hn1.out]]
     exact ⟨rfl,hb4'.trans (hb5.mono (Nat.le_of_lt hsz1))⟩
set_option maxRecDepth 100000 in
set_option maxHeartbeats 1000000 in
theorem Xo0 (I:IH) (hI:Glob I) (s:Ses) (ve:Value) (hve:RdS tEnt I ve s.ents) (hg:SesH s) (w:World) (hw:Ok I w):
 Calls Tryz.prog 42 #[sesV s ve] w fun r w'=>r= .returned (.tuple #[S (dirDig s).1,.int .i64 (dirDig s).2])∧Below w.heap.size w w':=by
 obtain ⟨ao,co,rfl,_,_,_⟩:=id hve
 have Hs:Hid (∀w,Ok I w→Calls Tryz.prog 83 #[sesV s (.slice ao s.ents.length co)] w fun r w'=>r= .returned (.tuple #[S (if sesErr s=0 then sesText s else []),.int .i64 (sesErr s)])∧Below w.heap.size w w'):=Qh (by
  intro w hw
  by_cases hf:fldErr s=0
  ·exact Xoz I hI s _ hve hg hf w hw
  ·have h1:sesErr s=fldErr s:=by rw [sesErr,if_pos hf]
   rw [h1,if_neg hf]
   exact Xjn s ao co hf w)
 have Hl:=Qh (show sesErr s=0→(sesText s).length≤22000000 from fun h=>by
  have h1:=Xdi h
  rw [←Xf3 s (Qn _)]
  exact Xgo hg h1.1 fun e he=>Xd2 h1.2.2.2.1 e (List.mem_of_mem_take he))
 clear hve
 by_cases h0:sesErr s=0
 ·have Hn:=Qh (show dirDig s=(sumP (sesText s),0) by rw [dirDig,if_neg (by omega)])
  have hl:=Hl.out h0
  rw [h0,if_pos rfl] at Hs
  rw [Hn.out]
  generalize sesText s=u at Hs hl ⊢
  clear h0
  go_enter Tryz.func42,Tryz.ntmps42
  go_wp2_with fail
  refine (Hs.out _ (hw.alloc _)).mono ?_
  rintro e1 w1 ⟨rfl,hb1⟩
  have hb1':=((Qb w.heap.size w).alloc (Qn _) (.cells #[.int .i64 s.num,.int .i64 s.date,S s.prev,.slice ao s.ents.length co,S s.stream,S s.sl] 62)).trans (hb1.mono (by simp))
  have H5:=Qh (Xm2 w1.heap.size u (by omega) (w1.alloc (.cells #[S u] 9)) (by simp) (by simp))
  go_wp2_with fail
  refine H5.out.mono ?_
  rintro e2 w2 ⟨rfl,hb2⟩
  go_wp2
  go_ret2
  exact ⟨rfl,(hb1'.alloc hb1'.size _).trans (hb2.mono (by have:=hb1'.size;simp;omega))⟩
 ·have Hn:=Qh (show dirDig s=([],sesErr s) by rw [dirDig,if_pos h0])
  rw [if_neg h0] at Hs
  rw [Hn.out]
  obtain ⟨q,hq⟩:∃q,sesErr s=q:=⟨_,rfl⟩
  rw [hq] at Hs h0 ⊢
  have hn0:(q != 0)=true:=by simpa using h0
  clear h0 hq
  go_enter Tryz.func42,Tryz.ntmps42
  go_wp2_with fail
  refine (Hs.out _ (hw.alloc _)).mono ?_
  rintro e1 w1 ⟨rfl,hb1⟩
  have hb1':=((Qb w.heap.size w).alloc (Qn _) (.cells #[.int .i64 s.num,.int .i64 s.date,S s.prev,.slice ao s.ents.length co,S s.stream,S s.sl] 62)).trans (hb1.mono (by simp))
  go_wp2
  go_ret2
  exact ⟨rfl,hb1'⟩
theorem Xs3 (k:Int) (w:World):Calls Tryz.prog 114 #[.int .i64 k] w fun e w'=>e= .returned (S (nameP k))∧Below w.heap.size w w':=
 (Xh8 k w).mono fun _ _ h=>⟨h.1,by rw [h.2];exact Qb _ _⟩
set_option maxRecDepth 100000 in
set_option maxHeartbeats 2000000 in
theorem Xoe (I:IH) (e:Ent) (va vx:Value) (hva:RdS tAt I va e.attrs) (hvx:RdS tXt I vx e.exts) (hc:EncOk e) (w:World) (hw:Ok I w):
 Calls Tryz.prog 66 #[entV e va vx] w fun r w'=>r= .returned (S (headE e))∧Below w.heap.size w w':=by
 obtain ⟨aa,ca,rfl,_,_,_⟩:=id hva
 obtain ⟨ax,cx,rfl,_,_,_⟩:=id hvx
 have Hv:=Qh hva
 have hna:=hc.natt
 have hp200:=hc.path
 have ht200:=hc.target
 have Hat:=Qh hc.att
 have Hl:=Qh (Xnu hna Hat.out)
 have hl0:=Hl.out 0
 have hnn:=Xe1 e.kind
 have hl1:=Xaq (nameP e.kind) (by omega)
 have hl2:=Xaq e.path (by omega)
 have hl4:=Xaq e.target (by omega)
 have H0:=Qh (fun w=>Xs3 e.kind w)
 have H1:=Qh (fun w=>Xa9 (nameP e.kind) (by omega) w)
 have H2:=Qh (fun w=>Xa9 e.path (by omega) w)
 have H3:=Qh (fun w=>Xb4 e.attrs.length (by omega) w)
 have H4:=Qh (fun w=>Xa9 e.target (by omega) w)
 have hz:numP e.attrs.length=attK e.attrs 0:=by rw [attK,List.take_zero,List.flatMap_nil,List.append_nil]
 have Hh:=Qh (show netP (nameP e.kind)++netP e.path++attP e.attrs++netP e.target=headE e from rfl)
 rw [hz] at H3
 clear hva hvx hc hz
 generalize netP (nameP e.kind)=p1 at hl1 H1 Hh
 generalize nameP e.kind=nm at hnn hl1 H0 H1
 generalize netP e.path=p2 at hl2 H2 Hh
 generalize netP e.target=p4 at hl4 H4 Hh
 have HB0:=Qh (entB (W:=w) (e:=e) (va:= .slice aa e.attrs.length ca) (vx:= .slice ax e.exts.length cx) (t:=35) rfl (Qb _ _))
 obtain ⟨c0,c1,c2,c3,c4,c5,c6⟩:=HB0.out
 have e0:=cell_regrown c0
 have e1:=cell_regrown c1
 have e2:=cell_regrown c2
 have hba:=(Qb w.heap.size w).alloc (Qn _) (.cells #[.int .i64 e.kind,S e.path,.slice aa e.attrs.length ca,S e.target,.int .i64 e.size,S e.digest,.slice ax e.exts.length cx] 35)
 clear c0 c1 c2 c3 c4 c5 c6
 go_enter Tryz.func66,Tryz.ntmps66
 go_wp2_with fail
 refine wp_region_quiet_below (by kernel_rfl) (by kernel_rfl) ?_
 repeat (go_big_quiet_step ((with_reducible first|exact Calls.regrown_of (H0.out _)|exact Calls.regrown_of (H1.out _)|exact Calls.regrown_of (H2.out _)|exact Calls.regrown_of (H3.out _))))
 refine wpQuiet_nil ?_
 intro w1 hwq
 have hb1:Below ((w.alloc (.cells #[.int .i64 e.kind,S e.path,.slice aa e.attrs.length ca,S e.target,.int .i64 e.size,S e.digest,.slice ax e.exts.length cx] 35))).heap.size ((w.alloc (.cells #[.int .i64 e.kind,S e.path,.slice aa e.attrs.length ca,S e.target,.int .i64 e.size,S e.digest,.slice ax e.exts.length cx] 35))) w1:=by
  obtain ⟨pq,rfl⟩:=hwq
  exact below_regrown _ _ _
 clear hwq
 have HB1:=Qh (HB0.out.thru hb1)
 have hb1':=hba.trans (hb1.mono hba.size)
 clear e0 e1 e2 hb1 hba HB0 H0 H1 H2 H3
 go_wp2_with fail
 go_loopw [3,4] (fun s3 s4 wr=> ∃k:Nat,k≤e.attrs.length∧s4= .int .i64 k∧s3=S (p1++p2++attK e.attrs k)∧EntB wr w.heap.size e (.slice aa e.attrs.length ca) (.slice ax e.exts.length cx)∧Below w.heap.size w wr) (fun _ i _=>e.attrs.length-(intOf i).toNat)
 case atStart=>exact ⟨0,Nat.zero_le _,rfl,by simp,HB1.out,hb1'⟩
 case round=>
  clear hb1' HB1
  obtain ⟨k,hk,rfl,rfl,hBe,hb⟩:=hrel
  have HBe:=Qh hBe
  have hwr:Ok I wr:=hw.below (Qn _) hb
  have hal:=Hl.out k
  obtain ⟨c0,c1,c2,c3,c4,c5,c6⟩:=HBe.out
  clear hBe
  by_cases hlt:k<e.attrs.length
  ·obtain ⟨x,b,off,cap',hlx,hvv,a0,a1⟩:=atAt Hv.out hwr k hlt
   cases hvv
   have hax:=Hat.out x (by rw [←hlx];exact List.getElem_mem hlt)
   have Hst:=Qh (Xlv hlt hlx)
   have hk1:=Xaq x.k (by omega)
   have hk2:=Xaq x.v (by omega)
   have Hs1:=Qh (fun w=>Xa9 x.k (by omega) w)
   have Hs2:=Qh (fun w=>Xa9 x.v (by omega) w)
   clear hlx
   generalize netP x.k=p at Hst hk1 Hs1
   generalize netP x.v=q at Hst hk2 Hs2
   generalize attK e.attrs k=u at Hst hal ⊢
   have x0:=cell_regrown a0
   have x1:=cell_regrown a1
   have e2:=cell_regrown c2
   go_wp2_with fail
   refine wp_region_quiet_below (by kernel_rfl) (by kernel_rfl) ?_
   repeat (go_big_quiet_step ((with_reducible first|exact Calls.regrown_of (Hs1.out _)|exact Calls.regrown_of (Hs2.out _))))
   refine wpQuiet_nil ?_
   intro w2 hwq
   have hb2:Below (wr).heap.size (wr) w2:=by
    obtain ⟨pq,rfl⟩:=hwq
    exact below_regrown _ _ _
   clear hwq
   have HB2:=Qh (HBe.out.thru hb2)
   clear x0 x1 e2 c0 c1 c2 c3 c4 c5 c6
   go_wp2
   go_roundw
   case rel=>exact ⟨k+1,by omega,by go_num,(by rw [Hst.out];simp),HB2.out,hb.trans (hb2.mono hb.size)⟩
   case measure=>simp [intOf];omega
  ·have Hn:=Qh (Xnv e.attrs (k:=k) (by omega))
   rw [Hn.out] at hal ⊢
   generalize attP e.attrs=u at hal Hh ⊢
   go_wp2_with fail
   refine (H4.out _).mono ?_
   rintro r w2 ⟨rfl,hb2⟩
   go_wp2
   go_ret
   exact ⟨Xfy (by rw [←Hh.out];simp),hb.trans (hb2.mono hb.size)⟩
set_option maxRecDepth 100000 in
set_option maxHeartbeats 400000 in
theorem Xp4 (I:IH) (e:Ent) (va vx:Value) (hva:RdS tAt I va e.attrs) (hvx:RdS tXt I vx e.exts) (hwf:e.Wf) (hx:e.exts.length≤1000) (he:entErr e≠0) (w:World) (hw:Ok I w):
 Calls Tryz.prog 147 #[entV e va vx] w fun r w'=>r= .returned (.tuple #[S [],.int .i64 (entErr e)])∧Below w.heap.size w w':=by
 have Hck:=Qh (fun w hw=>Xc6 I e va vx hva hvx hwf w hw)
 obtain ⟨aa,ca,rfl,_,_,_⟩:=id hva
 obtain ⟨ax,cx,rfl,_,_,_⟩:=id hvx
 rw [Xd3 (by omega)] at Hck
 obtain ⟨q,hq⟩:∃q,entErr e=q:=⟨_,rfl⟩
 rw [hq] at Hck he ⊢
 have hn0:(q != 0)=true:=by simpa using he
 clear hq he
 go_enter Tryz.func147,Tryz.ntmps147
 go_wp2_with fail
 refine (Hck.out _ (hw.alloc _)).mono ?_
 rintro e1 w1 ⟨rfl,hb1⟩
 have hb1':=((Qb w.heap.size w).alloc (Qn _) (.cells #[.int .i64 e.kind,S e.path,.slice aa e.attrs.length ca,S e.target,.int .i64 e.size,S e.digest,.slice ax e.exts.length cx] 35)).trans (hb1.mono (by simp))
 go_wp2
 go_ret2
 exact ⟨rfl,hb1'⟩
set_option maxRecDepth 100000 in
set_option maxHeartbeats 2000000 in
theorem Xkc (I:IH) (e:Ent) (va vx:Value) (hva:RdS tAt I va e.attrs) (hvx:RdS tXt I vx e.exts) (hwf:e.Wf) (hc:EncOk e) (he:entErr e=0) (hx:e.exts.length≤1000) (w:World) (hw:Ok I w):
 Calls Tryz.prog 147 #[entV e va vx] w fun r w'=>r= .returned (.tuple #[S (encE e),.int .i64 0])∧Below w.heap.size w w':=by
 have Hck:=Qh (fun w hw=>Xc6 I e va vx hva hvx hwf w hw)
 have H0:=Qh (fun w hw=>Xoe I e va vx hva hvx hc w hw)
 obtain ⟨aa,ca,rfl,_,_,_⟩:=id hva
 obtain ⟨ax,cx,rfl,_,_,_⟩:=id hvx
 rw [Xd3 (by omega),he] at Hck
 have Hv:=Qh hvx
 have hs0:=hc.s0
 have hs1:=hc.s1
 have hd32:=hc.digest
 have Hxs:=Qh hc.xts
 have Hl:=Qh (Xjk hc hx)
 have hhl:=Xha hc
 have Hz:=Qh (show netP (headE e)++numP e.size++netP e.digest++numP e.exts.length=encK e 0 from (Xk7 e).symm)
 have hl1:=Xaq (headE e) (by omega)
 have hl2:=Xbc hs0 (by omega)
 have hl3:=Xaq e.digest (by omega)
 have hl4:=Xbg e.exts.length (by omega)
 have H1:=Qh (fun w=>Xa9 (headE e) (by omega) w)
 have H2:=Qh (fun w=>Xfe e.size hs0 (by omega) w)
 have H3:=Qh (fun w=>Xa9 e.digest (by omega) w)
 have H4:=Qh (fun w=>Xb4 e.exts.length (by omega) w)
 clear hva hvx hc he
 generalize netP (headE e)=p1 at Hz hl1 H1
 generalize numP e.size=p2 at Hz hl2 H2
 generalize netP e.digest=p3 at Hz hl3 H3
 generalize numP (e.exts.length:Int)=p4 at Hz hl4 H4
 generalize headE e=hd at H0 H1 hhl hl1
 go_enter Tryz.func147,Tryz.ntmps147
 go_wp2_with fail
 refine (Hck.out _ (hw.alloc _)).mono ?_
 rintro e1 w1 ⟨rfl,hb1⟩
 have HB1:=Qh (entB (e:=e) rfl hb1)
 have hok1:Ok I w1:=(hw.alloc _).below (Qn _) hb1
 have hb1':=((Qb w.heap.size w).alloc (Qn _) (.cells #[.int .i64 e.kind,S e.path,.slice aa e.attrs.length ca,S e.target,.int .i64 e.size,S e.digest,.slice ax e.exts.length cx] 35)).trans (hb1.mono (by simp))
 obtain ⟨c0,c1,c2,c3,c4,c5,c6⟩:=HB1.out
 have e0:=cell_regrown c0
 have e1:=cell_regrown c1
 have e2:=cell_regrown c2
 have e3:=cell_regrown c3
 have e4:=cell_regrown c4
 have e5:=cell_regrown c5
 have e6:=cell_regrown c6
 clear hb1 Hck c0 c1 c2 c3 c4 c5 c6
 go_wp2_with fail
 refine wp_region_quiet_below (by kernel_rfl) (by kernel_rfl) ?_
 repeat (go_big_quiet_step ((with_reducible first|exact Calls.regrown_of (H0.out _ (hok1.below (Qn _) (below_regrown _ _ _)))|exact Calls.regrown_of (H1.out _)|exact Calls.regrown_of (H2.out _)|exact Calls.regrown_of (H3.out _)|exact Calls.regrown_of (H4.out _))))
 refine wpQuiet_nil ?_
 intro w2 hwq
 have hb2:Below (w1).heap.size (w1) w2:=by
  obtain ⟨pq,rfl⟩:=hwq
  exact below_regrown _ _ _
 clear hwq
 have HB2:=Qh (HB1.out.thru hb2)
 have hb2':=hb1'.trans (hb2.mono hb1'.size)
 clear e0 e1 e2 e3 e4 e5 e6 hb2 HB1 hok1 hb1' H0 H1 H2 H3 H4
 go_wp2_with fail
 go_loopw [5,6] (fun s5 s6 wr=> ∃k:Nat,k≤e.exts.length∧s6= .int .i64 k∧s5=S (encK e k)∧EntB wr w.heap.size e (.slice aa e.attrs.length ca) (.slice ax e.exts.length cx)∧Below w.heap.size w wr) (fun _ i _=>e.exts.length-(intOf i).toNat)
 case atStart=>exact ⟨0,Nat.zero_le _,rfl,by rw [←Hz.out];simp,HB2.out,hb2'⟩
 case round=>
  clear HB2 hb2' Hz hl1 hl2 hl3 hl4 hhl
  obtain ⟨k,hk,rfl,rfl,hBe,hb⟩:=hrel
  have HBe:=Qh hBe
  have hwr:Ok I wr:=hw.below (Qn _) hb
  have hal:=Hl.out k
  obtain ⟨c0,c1,c2,c3,c4,c5,c6⟩:=HBe.out
  clear hBe
  by_cases hlt:k<e.exts.length
  ·obtain ⟨x,b,off,cap',hlx,hvv,a0,a1,a2⟩:=xtAt Hv.out hwr k hlt
   cases hvv
   obtain ⟨y0,y1,y2,y3,y4,y5⟩:=Hxs.out x (by rw [←hlx];exact List.getElem_mem hlt)
   have Hst:=Qh (Xk8 hlt hlx)
   have hm1:=Xbc (n:=x.s) (by omega) (by omega)
   have hm2:=Xbc (n:=x.o) (by omega) (by omega)
   have hm3:=Xbc (n:=x.n) (by omega) (by omega)
   have H1:=Qh (fun w=>Xfe x.s (by omega) (by omega) w)
   have H2:=Qh (fun w=>Xfe x.o (by omega) (by omega) w)
   have H3:=Qh (fun w=>Xfe x.n (by omega) (by omega) w)
   have g0:=cell_regrown (show (wr.alloc (.cells #[.int .i64 x.s,.int .i64 x.o,.int .i64 x.n] 110)).cell? ⟨wr.heap.size,0,none⟩=some (.int .i64 x.s) by simp)
   have g1:=cell_regrown (show (wr.alloc (.cells #[.int .i64 x.s,.int .i64 x.o,.int .i64 x.n] 110)).cell? ⟨wr.heap.size,1,none⟩=some (.int .i64 x.o) by simp)
   have g2:=cell_regrown (show (wr.alloc (.cells #[.int .i64 x.s,.int .i64 x.o,.int .i64 x.n] 110)).cell? ⟨wr.heap.size,2,none⟩=some (.int .i64 x.n) by simp)
   have HBa:=Qh (EntB.past HBe.out (.cells #[.int .i64 x.s,.int .i64 x.o,.int .i64 x.n] 110))
   have hba:=hb.alloc hb.size (.cells #[.int .i64 x.s,.int .i64 x.o,.int .i64 x.n] 110)
   clear hlx
   generalize numP x.s=q1 at Hst hm1 H1
   generalize numP x.o=q2 at Hst hm2 H2
   generalize numP x.n=q3 at Hst hm3 H3
   generalize encK e k=u at Hst hal ⊢
   go_wp2_with fail
   refine wp_region_quiet_below (by kernel_rfl) (by kernel_rfl) ?_
   repeat (go_big_quiet_step ((with_reducible first|exact Calls.regrown_of (H1.out _)|exact Calls.regrown_of (H2.out _)|exact Calls.regrown_of (H3.out _))))
   refine wpQuiet_nil ?_
   intro w2 hwq
   have hb2:Below ((wr.alloc (.cells #[.int .i64 x.s,.int .i64 x.o,.int .i64 x.n] 110))).heap.size ((wr.alloc (.cells #[.int .i64 x.s,.int .i64 x.o,.int .i64 x.n] 110))) w2:=by
    obtain ⟨pq,rfl⟩:=hwq
    exact below_regrown _ _ _
   clear hwq
   have HB2:=Qh (HBa.out.thru hb2)
   clear g0 g1 g2 a0 a1 a2 c0 c1 c2 c3 c4 c5 c6
   go_wp2
   go_roundw
   case rel=>exact ⟨k+1,by omega,by go_num,(by rw [Hst.out];simp),HB2.out,hba.trans (hb2.mono hba.size)⟩
   case measure=>simp [intOf];omega
  ·have Hn:=Qh (Xjl e (k:=k) (by omega))
   rw [Hn.out]
   go_wp2
   go_ret2
   exact ⟨rfl,hb⟩
def four (l:List Int) (a b c d:Nat) (va vb vc vd:Int):List Int:=(((l.set a va).set b vb).set c vc).set d vd
theorem Xhe (l:List Int) (a b c d:Nat) (va vb vc vd:Int):(four l a b c d va vb vc vd).length=l.length:=by simp [four]
theorem Xq5 (l:List Int) (a b c d:Nat) (ha:a<l.length) (hb:b<l.length) (hc:c<l.length) (hd:d<l.length):four l a b c d (l.getD a 0) (l.getD b 0) (l.getD c 0) (l.getD d 0)=l:=by
 simp [four,List.getD,ha,hb,hc,hd]
structure Apart (n a b c d:Nat):Prop where
 la:a<n
 lb:b<n
 lc:c<n
 ld:d<n
 ab:a≠b
 ac:a≠c
 ad:a≠d
 bc:b≠c
 bd:b≠d
 cd:c≠d
section
variable {l:List Int} {a b c d:Nat} {va vb vc vd:Int}
theorem Xq4 (h:Apart l.length a b c d) (x:Int):(four l a b c d va vb vc vd).set a x=four l a b c d x vb vc vd:=by
 unfold four
 rw [List.set_comm _ _ h.ad.symm,List.set_comm _ _ h.ac.symm,List.set_comm _ _ h.ab.symm,List.set_set]
theorem Xq3 (h:Apart l.length a b c d) (x:Int):(four l a b c d va vb vc vd).set b x=four l a b c d va x vc vd:=by
 unfold four
 rw [List.set_comm _ _ h.bd.symm,List.set_comm _ _ h.bc.symm,List.set_set]
theorem Xq2 (h:Apart l.length a b c d) (x:Int):(four l a b c d va vb vc vd).set c x=four l a b c d va vb x vd:=by
 unfold four
 rw [List.set_comm _ _ h.cd.symm,List.set_set]
theorem Xq1 (_h:Apart l.length a b c d) (x:Int):(four l a b c d va vb vc vd).set d x=four l a b c d va vb vc x:=by
 unfold four
 rw [List.set_set]
theorem Xbv {l:List Int} {i j:Nat} (h:i≠j) (x:Int):(l.set i x).getD j 0=l.getD j 0:=by
 simp [List.getD,List.getElem?_set_ne h]
theorem Xcp {l:List Int} {i:Nat} (h:i<l.length) (x:Int):(l.set i x).getD i 0=x:=by
 simp [List.getD,h]
theorem Xwh (h:Apart l.length a b c d):(four l a b c d va vb vc vd).getD a 0=va:=by
 unfold four
 rw [Xbv h.ad.symm,Xbv h.ac.symm,Xbv h.ab.symm,Xcp h.la]
theorem Xwg (h:Apart l.length a b c d):(four l a b c d va vb vc vd).getD b 0=vb:=by
 unfold four
 rw [Xbv h.bd.symm,Xbv h.bc.symm,Xcp (by simpa using h.lb)]
theorem Xwf (h:Apart l.length a b c d):(four l a b c d va vb vc vd).getD c 0=vc:=by
 unfold four
 rw [Xbv h.cd.symm,Xcp (by simpa using h.lc)]
theorem Xwe (h:Apart l.length a b c d):(four l a b c d va vb vc vd).getD d 0=vd:=by
 unfold four
 rw [Xcp (by simpa using h.ld)]
end
structure MixM (w:World) (t:TypeId) (l:List Int) (a b c d:Nat) (va vb vc vd:Int) (X:World):Prop where
 row_:X.heap[w.heap.size]? =some (.cells (row (four l a b c d va vb vc vd)) t (0,0))
 zero:X.heap[w.heap.size+1]? =some (.cells (row (List.replicate 16 0)) t (0,0))
 below:Below w.heap.size w X
section
variable {w X X':World} {t:TypeId} {l:List Int} {a b c d:Nat} {va vb vc vd:Int}
theorem MixM.lt (h:MixM w t l a b c d va vb vc vd X):w.heap.size+1<X.heap.size:=(Array.getElem?_eq_some_iff.1 h.zero).1
theorem MixM.pass (h:MixM w t l a b c d va vb vc vd X) (hb:Below X.heap.size X X'):MixM w t l a b c d va vb vc vd X':=
 ⟨(hb.block _ (by have:=h.lt;omega)).trans h.row_,(hb.block _ h.lt).trans h.zero,h.below.trans (hb.mono h.below.size)⟩
theorem MixM.cell (h:MixM w t l a b c d va vb vc vd X) (q:Nat) (hq:q<l.length):X.cell? ⟨w.heap.size,q,none⟩=some (.int .u32 ((four l a b c d va vb vc vd).getD q 0)):=
 (cell_of_row X _ q _ _ _ h.row_).trans (Xa7 (by rw [Xhe];exact hq))
theorem MixM.ca (h:MixM w t l a b c d va vb vc vd X) (k:Apart l.length a b c d):X.cell? ⟨w.heap.size,a,none⟩=some (.int .u32 va):=by rw [h.cell a k.la,Xwh k]
theorem MixM.cb (h:MixM w t l a b c d va vb vc vd X) (k:Apart l.length a b c d):X.cell? ⟨w.heap.size,b,none⟩=some (.int .u32 vb):=by rw [h.cell b k.lb,Xwg k]
theorem MixM.cc (h:MixM w t l a b c d va vb vc vd X) (k:Apart l.length a b c d):X.cell? ⟨w.heap.size,c,none⟩=some (.int .u32 vc):=by rw [h.cell c k.lc,Xwf k]
theorem MixM.cd (h:MixM w t l a b c d va vb vc vd X) (k:Apart l.length a b c d):X.cell? ⟨w.heap.size,d,none⟩=some (.int .u32 vd):=by rw [h.cell d k.ld,Xwe k]
theorem MixM.fr (h:MixM w t l a b c d va vb vc vd X) (q:Nat):X.frozen? ⟨w.heap.size,q,none⟩=false:=frozen_of_row X _ q _ _ h.row_
theorem MixM.put (h:MixM w t l a b c d va vb vc vd X) (q:Nat) (x:Int) {L:List Int} (hL:(four l a b c d va vb vc vd).set q x=L) {va' vb' vc' vd':Int} (hL':L=four l a b c d va' vb' vc' vd'):MixM w t l a b c d va' vb' vc' vd' (X.setCell ⟨w.heap.size,q,none⟩ (.int .u32 x)):=by
 subst hL'
 refine ⟨?_,?_,h.below.setCell (p:=⟨w.heap.size,q,none⟩) (Qn _) _⟩
 ·rw [←hL];exact heap_setCell x h.row_
 ·rw [Below.heap_setCell _ _ _ _ (by simp)];exact h.zero
theorem MixM.pa (h:MixM w t l a b c d va vb vc vd X) (k:Apart l.length a b c d) (x:Int):MixM w t l a b c d x vb vc vd (X.setCell ⟨w.heap.size,a,none⟩ (.int .u32 x)):=h.put a x (Xq4 k x) rfl
theorem MixM.pb (h:MixM w t l a b c d va vb vc vd X) (k:Apart l.length a b c d) (x:Int):MixM w t l a b c d va x vc vd (X.setCell ⟨w.heap.size,b,none⟩ (.int .u32 x)):=h.put b x (Xq3 k x) rfl
theorem MixM.pc (h:MixM w t l a b c d va vb vc vd X) (k:Apart l.length a b c d) (x:Int):MixM w t l a b c d va vb x vd (X.setCell ⟨w.heap.size,c,none⟩ (.int .u32 x)):=h.put c x (Xq2 k x) rfl
theorem MixM.pd (h:MixM w t l a b c d va vb vc vd X) (k:Apart l.length a b c d) (x:Int):MixM w t l a b c d va vb vc x (X.setCell ⟨w.heap.size,d,none⟩ (.int .u32 x)):=h.put d x (Xq1 k x) rfl
end
theorem Xb1 (x:Int) (k d m:Int) (hk:RotAt k d m) (w:World):
 Calls Tryz.prog 270 #[.int .u32 x,.int .u64 k] w fun e w'=>e= .returned (.int .u32 (rotr d m x))∧Below w.heap.size w w':=
 (Xkd x k d m hk w).mono fun _ _ ⟨h1,h2⟩=>⟨h1,by rw [h2];exact Qb _ _⟩
theorem Xut:RotAt 16 65536 65536:= .inl ⟨rfl,rfl,rfl⟩
theorem Xuu:RotAt 12 4096 1048576:= .inr (.inl ⟨rfl,rfl,rfl⟩)
theorem Xwa:RotAt 8 256 16777216:= .inr (.inr (.inl ⟨rfl,rfl,rfl⟩))
theorem Xwb:RotAt 7 128 33554432:= .inr (.inr (.inr ⟨rfl,rfl,rfl⟩))
theorem Xwd {α:Type}:∀ {l:List α},l.length=16→ ∃a b c d e f g h i j k m n o p q,l= [a,b,c,d,e,f,g,h,i,j,k,m,n,o,p,q]
 | [a,b,c,d,e,f,g,h,i,j,k,m,n,o,p,q],_=>⟨a,b,c,d,e,f,g,h,i,j,k,m,n,o,p,q,rfl⟩
set_option maxRecDepth 100000 in
set_option maxHeartbeats 2000000 in
theorem Xke (l:List Int) (hl:l.length=16) (qa qb qc qd:Nat) (x y:Int) (w:World) (hap:Apart 16 qa qb qc qd):
 Calls Tryz.prog 213 #[.agg (row l),.int .i64 qa,.int .i64 qb,.int .i64 qc,.int .i64 qd,.int .u32 x,.int .u32 y] w fun e w'=>e= .returned (.agg (row (mixP l qa qb qc qd x y)))∧Below w.heap.size w w':=by
 have Hap:Hid (Apart l.length qa qb qc qd):=Qh (by rw [hl];exact hap)
 have hM0:MixM w 249 l qa qb qc qd (l.getD qa 0) (l.getD qb 0) (l.getD qc 0) (l.getD qd 0) ((w.alloc (.cells (row l) 249)).alloc (.cells (row (List.replicate 16 0)) 249)):=
  ⟨by rw [Xq5 _ _ _ _ _ Hap.out.la Hap.out.lb Hap.out.lc Hap.out.ld];exact (Below.heap_alloc (w.alloc (.cells (row l) 249)) (.cells (row (List.replicate 16 0)) 249) w.heap.size (by simp)).trans (heap_alloc_new w (.cells (row l) 249)),
    (by have h:=heap_alloc_new (w.alloc (.cells (row l) 249)) (.cells (row (List.replicate 16 0)) 249);rwa [show (w.alloc (.cells (row l) 249)).heap.size=w.heap.size+1 by simp] at h),
    ((Qb w.heap.size w).alloc (Qn _) (.cells (row l) 249)).alloc (by simp) (.cells (row (List.replicate 16 0)) 249)⟩
 obtain ⟨va,eva⟩:∃va,l.getD qa 0=va:=⟨_,rfl⟩
 obtain ⟨vb,evb⟩:∃vb,l.getD qb 0=vb:=⟨_,rfl⟩
 obtain ⟨vc,evc⟩:∃vc,l.getD qc 0=vc:=⟨_,rfl⟩
 obtain ⟨vd,evd⟩:∃vd,l.getD qd 0=vd:=⟨_,rfl⟩
 have Hm:=Qh (show mixP l qa qb qc qd x y=four l qa qb qc qd (mixW va vb vc vd x y).1 (mixW va vb vc vd x y).2.1 (mixW va vb vc vd x y).2.2.1 (mixW va vb vc vd x y).2.2.2 by rw [mixP,eva,evb,evc,evd,four])
 rw [eva,evb,evc,evd] at hM0
 clear eva evb evc evd
 have HM:=Qh hM0
 clear hM0
 have n1:(qa:Int)<16:=by have:=hap.la;omega
 have n2:(qb:Int)<16:=by have:=hap.lb;omega
 have n3:(qc:Int)<16:=by have:=hap.lc;omega
 have n4:(qd:Int)<16:=by have:=hap.ld;omega
 clear hap
 obtain ⟨v0,v1,v2,v3,v4,v5,v6,v7,v8,v9,v10,v11,v12,v13,v14,v15,hll⟩:=Xwd hl
 have hrow:row l= #[.int .u32 v0,.int .u32 v1,.int .u32 v2,.int .u32 v3,.int .u32 v4,.int .u32 v5,.int .u32 v6,.int .u32 v7,.int .u32 v8,.int .u32 v9,.int .u32 v10,.int .u32 v11,.int .u32 v12,.int .u32 v13,.int .u32 v14,.int .u32 v15]:=by rw [hll];rfl
 have Hll:=Qh hll
 have Hrow:=Qh hrow
 have Hlen:=Qh hl
 clear hll hrow hl
 rw [Hrow.out]
 go_enter Tryz.func213,Tryz.ntmps213
 go_wp2_with fail
 rw [←Hrow.out]
 rw [show (#[.int .u32 0,.int .u32 0,.int .u32 0,.int .u32 0,.int .u32 0,.int .u32 0,.int .u32 0,.int .u32 0,.int .u32 0,.int .u32 0,.int .u32 0,.int .u32 0,.int .u32 0,.int .u32 0,.int .u32 0,.int .u32 0]:Array Value)=row (List.replicate 16 0) from rfl]
 generalize (w.alloc (.cells (row l) 249)).alloc (.cells (row (List.replicate 16 0)) 249)=X at HM ⊢
 clear Hrow Hll
 have g1:=cell_regrown (HM.out.ca Hap.out)
 have g2:=cell_regrown (HM.out.cb Hap.out)
 refine Xac 11 (by kernel_rfl) (by kernel_rfl) ?_
 simp only [List.take_succ_cons,List.take_zero,List.drop_succ_cons,List.drop_zero]
 repeat (go_big_quiet_step ((fail)))
 refine wpQuiet_nil ?_
 intro X1 hwq
 have hbt:Below (X).heap.size (X) X1:=by
  obtain ⟨pq,rfl⟩:=hwq
  exact below_regrown _ _ _
 clear hwq
 have hMt:=HM.out.pass hbt
 clear g1 g2 hbt HM
 have HM:=Qh hMt
 have g1:=hMt.ca Hap.out
 have g2:=fun q=>hMt.fr q
 clear hMt
 go_wp2_with fail
 have hMt:=HM.out.pa Hap.out ((va+vb+x)%4294967296)
 clear HM g1 g2
 obtain ⟨a1,ha1⟩:∃a1,(va+vb+x)%4294967296=a1:=⟨_,rfl⟩
 rw [ha1] at hMt ⊢
 have Ha1:=Qh ha1
 clear ha1
 have HM:=Qh hMt
 clear hMt
 generalize X1.setCell _ _=X at HM ⊢
 have g1:=cell_regrown (HM.out.cd Hap.out)
 have g2:=cell_regrown (HM.out.ca Hap.out)
 refine Xac 10 (by kernel_rfl) (by kernel_rfl) ?_
 simp only [List.take_succ_cons,List.take_zero,List.drop_succ_cons,List.drop_zero]
 repeat (go_big_quiet_step ((exact Calls.regrown_of (Xb1 _ _ _ _ Xut _))))
 refine wpQuiet_nil ?_
 intro X1 hwq
 have hbt:Below (X).heap.size (X) X1:=by
  obtain ⟨pq,rfl⟩:=hwq
  exact below_regrown _ _ _
 clear hwq
 have hMt:=HM.out.pass hbt
 clear g1 g2 hbt HM
 have HM:=Qh hMt
 have g1:=hMt.cd Hap.out
 have g2:=fun q=>hMt.fr q
 clear hMt
 go_wp2_with fail
 have hMt:=HM.out.pd Hap.out (rotr 65536 65536 (bits .xor .u32 vd a1))
 clear HM g1 g2
 obtain ⟨d1,hd1⟩:∃d1,rotr 65536 65536 (bits .xor .u32 vd a1)=d1:=⟨_,rfl⟩
 rw [hd1] at hMt ⊢
 have Hd1:=Qh hd1
 clear hd1
 have HM:=Qh hMt
 clear hMt
 generalize X1.setCell _ _=X at HM ⊢
 have g1:=cell_regrown (HM.out.cc Hap.out)
 have g2:=cell_regrown (HM.out.cd Hap.out)
 refine Xac 9 (by kernel_rfl) (by kernel_rfl) ?_
 simp only [List.take_succ_cons,List.take_zero,List.drop_succ_cons,List.drop_zero]
 repeat (go_big_quiet_step ((fail)))
 refine wpQuiet_nil ?_
 intro X1 hwq
 have hbt:Below (X).heap.size (X) X1:=by
  obtain ⟨pq,rfl⟩:=hwq
  exact below_regrown _ _ _
 clear hwq
 have hMt:=HM.out.pass hbt
 clear g1 g2 hbt HM
 have HM:=Qh hMt
 have g1:=hMt.cc Hap.out
 have g2:=fun q=>hMt.fr q
 clear hMt
 go_wp2_with fail
 have hMt:=HM.out.pc Hap.out ((vc+d1)%4294967296)
 clear HM g1 g2
 obtain ⟨c1,hc1⟩:∃c1,(vc+d1)%4294967296=c1:=⟨_,rfl⟩
 rw [hc1] at hMt ⊢
 have Hc1:=Qh hc1
 clear hc1
 have HM:=Qh hMt
 clear hMt
 generalize X1.setCell _ _=X at HM ⊢
 have g1:=cell_regrown (HM.out.cb Hap.out)
 have g2:=cell_regrown (HM.out.cc Hap.out)
 refine Xac 10 (by kernel_rfl) (by kernel_rfl) ?_
 simp only [List.take_succ_cons,List.take_zero,List.drop_succ_cons,List.drop_zero]
 repeat (go_big_quiet_step ((exact Calls.regrown_of (Xb1 _ _ _ _ Xuu _))))
 refine wpQuiet_nil ?_
 intro X1 hwq
 have hbt:Below (X).heap.size (X) X1:=by
  obtain ⟨pq,rfl⟩:=hwq
  exact below_regrown _ _ _
 clear hwq
 have hMt:=HM.out.pass hbt
 clear g1 g2 hbt HM
 have HM:=Qh hMt
 have g1:=hMt.cb Hap.out
 have g2:=fun q=>hMt.fr q
 clear hMt
 go_wp2_with fail
 have hMt:=HM.out.pb Hap.out (rotr 4096 1048576 (bits .xor .u32 vb c1))
 clear HM g1 g2
 obtain ⟨b1,hb1⟩:∃b1,rotr 4096 1048576 (bits .xor .u32 vb c1)=b1:=⟨_,rfl⟩
 rw [hb1] at hMt ⊢
 have Hb1:=Qh hb1
 clear hb1
 have HM:=Qh hMt
 clear hMt
 generalize X1.setCell _ _=X at HM ⊢
 have g1:=cell_regrown (HM.out.ca Hap.out)
 have g2:=cell_regrown (HM.out.cb Hap.out)
 refine Xac 11 (by kernel_rfl) (by kernel_rfl) ?_
 simp only [List.take_succ_cons,List.take_zero,List.drop_succ_cons,List.drop_zero]
 repeat (go_big_quiet_step ((fail)))
 refine wpQuiet_nil ?_
 intro X1 hwq
 have hbt:Below (X).heap.size (X) X1:=by
  obtain ⟨pq,rfl⟩:=hwq
  exact below_regrown _ _ _
 clear hwq
 have hMt:=HM.out.pass hbt
 clear g1 g2 hbt HM
 have HM:=Qh hMt
 have g1:=hMt.ca Hap.out
 have g2:=fun q=>hMt.fr q
 clear hMt
 go_wp2_with fail
 have hMt:=HM.out.pa Hap.out ((a1+b1+y)%4294967296)
 clear HM g1 g2
 obtain ⟨a2,ha2⟩:∃a2,(a1+b1+y)%4294967296=a2:=⟨_,rfl⟩
 rw [ha2] at hMt ⊢
 have Ha2:=Qh ha2
 clear ha2
 have HM:=Qh hMt
 clear hMt
 generalize X1.setCell _ _=X at HM ⊢
 have g1:=cell_regrown (HM.out.cd Hap.out)
 have g2:=cell_regrown (HM.out.ca Hap.out)
 refine Xac 10 (by kernel_rfl) (by kernel_rfl) ?_
 simp only [List.take_succ_cons,List.take_zero,List.drop_succ_cons,List.drop_zero]
 repeat (go_big_quiet_step ((exact Calls.regrown_of (Xb1 _ _ _ _ Xwa _))))
 refine wpQuiet_nil ?_
 intro X1 hwq
 have hbt:Below (X).heap.size (X) X1:=by
  obtain ⟨pq,rfl⟩:=hwq
  exact below_regrown _ _ _
 clear hwq
 have hMt:=HM.out.pass hbt
 clear g1 g2 hbt HM
 have HM:=Qh hMt
 have g1:=hMt.cd Hap.out
 have g2:=fun q=>hMt.fr q
 clear hMt
 go_wp2_with fail
 have hMt:=HM.out.pd Hap.out (rotr 256 16777216 (bits .xor .u32 d1 a2))
 clear HM g1 g2
 obtain ⟨d2,hd2⟩:∃d2,rotr 256 16777216 (bits .xor .u32 d1 a2)=d2:=⟨_,rfl⟩
 rw [hd2] at hMt ⊢
 have Hd2:=Qh hd2
 clear hd2
 have HM:=Qh hMt
 clear hMt
 generalize X1.setCell _ _=X at HM ⊢
 have g1:=cell_regrown (HM.out.cc Hap.out)
 have g2:=cell_regrown (HM.out.cd Hap.out)
 refine Xac 9 (by kernel_rfl) (by kernel_rfl) ?_
 simp only [List.take_succ_cons,List.take_zero,List.drop_succ_cons,List.drop_zero]
 repeat (go_big_quiet_step ((fail)))
 refine wpQuiet_nil ?_
 intro X1 hwq
 have hbt:Below (X).heap.size (X) X1:=by
  obtain ⟨pq,rfl⟩:=hwq
  exact below_regrown _ _ _
 clear hwq
 have hMt:=HM.out.pass hbt
 clear g1 g2 hbt HM
 have HM:=Qh hMt
 have g1:=hMt.cc Hap.out
 have g2:=fun q=>hMt.fr q
 clear hMt
 go_wp2_with fail
 have hMt:=HM.out.pc Hap.out ((c1+d2)%4294967296)
 clear HM g1 g2
 obtain ⟨c2,hc2⟩:∃c2,(c1+d2)%4294967296=c2:=⟨_,rfl⟩
 rw [hc2] at hMt ⊢
 have Hc2:=Qh hc2
 clear hc2
 have HM:=Qh hMt
 clear hMt
 generalize X1.setCell _ _=X at HM ⊢
 have g1:=cell_regrown (HM.out.cb Hap.out)
 have g2:=cell_regrown (HM.out.cc Hap.out)
 refine Xac 10 (by kernel_rfl) (by kernel_rfl) ?_
 simp only [List.take_succ_cons,List.take_zero,List.drop_succ_cons,List.drop_zero]
 repeat (go_big_quiet_step ((exact Calls.regrown_of (Xb1 _ _ _ _ Xwb _))))
 refine wpQuiet_nil ?_
 intro X1 hwq
 have hbt:Below (X).heap.size (X) X1:=by
  obtain ⟨pq,rfl⟩:=hwq
  exact below_regrown _ _ _
 clear hwq
 have hMt:=HM.out.pass hbt
 clear g1 g2 hbt HM
 have HM:=Qh hMt
 have g1:=hMt.cb Hap.out
 have g2:=fun q=>hMt.fr q
 clear hMt
 have hMt:=HM.out.pb Hap.out (rotr 128 33554432 (bits .xor .u32 b1 c2))
 have hfin:mixP l qa qb qc qd x y=four l qa qb qc qd a2 (rotr 128 33554432 (bits .xor .u32 b1 c2)) c2 d2:=by
  rw [Hm.out]
  simp only [mixW,←Int.add_assoc,Ha1.out,Hd1.out,Hc1.out,Hb1.out,Ha2.out,Hd2.out,Hc2.out]
 clear Ha1 Hd1 Hc1 Hb1 Ha2 Hd2 Hc2 Hm
 have h0:=hMt.row_
 have h1:=hMt.zero
 have hbw:=hMt.below
 have hlen:(four l qa qb qc qd a2 (rotr 128 33554432 (bits .xor .u32 b1 c2)) c2 d2).length=16:=by rw [Xhe,Hlen.out]
 generalize four l qa qb qc qd a2 (rotr 128 33554432 (bits .xor .u32 b1 c2)) c2 d2=F at h0 hlen hfin
 have Hfin:=Qh hfin
 clear hfin
 clear hMt HM
 have hi16:(Tryz.prog.info? 249).map (·.size)=some (row F).size:=by rw [row_size,hlen];kernel_rfl
 have hz16:(row (List.replicate 16 0)).size=(row F).size:=by rw [row_size,row_size,hlen];rfl
 have ho16:(row F).all (·.oneCell')=true:=by simp [row,Value.oneCell']
 clear hlen
 go_wp2_with (first
  |(refine wpList_load_row rfl 249 _ rfl w.heap.size rfl 249 (row F) (0,0) _ h0 Tryz.underlying249 rfl hi16 ?_)
  |(refine wpList_store_row rfl 249 _ _ rfl (w.heap.size+1) (row F) rfl rfl 249 (row (List.replicate 16 0)) h1 hi16 hz16 ho16 ?_))
 refine bodyPost_ret (results_cell_row rfl _ _ (w.heap.size+1) _ (row F) (0,0) _ rfl (setRow_heap _ _ _ _ _ _ h1) Tryz.underlying249 rfl hi16) rfl ⟨by rw [Hfin.out],below_setRow hbw (by omega) _⟩
theorem Xge (a b c:Int):bits .xor .u32 (bits .xor .u32 a b) c=bits .xor .u32 a (bits .xor .u32 b c):=by
 have hr:∀x:BitVec 32,BitVec.ofInt 32 (x.toNat:Int)=x:=fun x=>by
  apply BitVec.eq_of_toNat_eq
  simp
 have hb:∀x y:Int,bits .xor .u32 x y=((BitVec.ofInt 32 x ^^^ BitVec.ofInt 32 y).toNat:Int):=fun x y=>by
  have:=(BitVec.ofInt 32 x ^^^ BitVec.ofInt 32 y).isLt
  simp only [bits,IntKind.wrap,IntKind.bits,IntKind.signed]
  exact Int.emod_eq_of_lt (by omega) (by omega)
 rw [hb,hb a b,hb a,hb b c,hr,hr,BitVec.xor_assoc]
theorem Xqk (a:Int) (h0:0≤a) (h1:a<4294967296):bits .or .u32 0 a=a:=by
 have hb:bits .or .u32 0 a=((BitVec.ofInt 32 0 ||| BitVec.ofInt 32 a).toNat:Int):=by
  have:=(BitVec.ofInt 32 0 ||| BitVec.ofInt 32 a).isLt
  simp only [bits,IntKind.wrap,IntKind.bits,IntKind.signed]
  exact Int.emod_eq_of_lt (by omega) (by omega)
 rw [hb]
 simp
 omega
def pW (s:Bytes) (j:Nat):Nat→Int
 |0=>0
 |1=>byteI s (4*j)
 |2=>bits .or .u32 (byteI s (4*j)) (byteI s (4*j+1)*256%4294967296)
 |3=>bits .or .u32 (bits .or .u32 (byteI s (4*j)) (byteI s (4*j+1)*256%4294967296)) (byteI s (4*j+2)*65536%4294967296)
 |_=>wordAt s j
def refW (s:Bytes) (k:Nat):List Int:=(List.range 16).map fun j=>pW s j (k-4*j)
theorem Xma (s:Bytes) (k:Nat):(refW s k).length=16:=by simp [refW]
theorem Xp1 (s:Bytes):refW s 0=List.replicate 16 0:=by
 simp [refW,pW,List.map_const']
theorem Xmf (s:Bytes) (j n:Nat) (h:4≤n):pW s j n=wordAt s j:=by
 match n,h with
 |n+4,_=>rfl
theorem Xss (s:Bytes):refW s 64=words s:=by
 apply List.map_congr_left
 intro j hj
 have:=List.mem_range.1 hj
 exact Xmf s j _ (by omega)
theorem Xuv (s:Bytes) (q r:Nat) (hq:q<16) (_hr:r<4):(refW s (4*q+r)).getD q 0=pW s q r:=by
 simp [refW,List.getD,hq]
theorem Xp2 (s:Bytes) (q r:Nat) (_hq:q<16) (hr:r<4):(refW s (4*q+r)).set q (pW s q (r+1))=refW s (4*q+r+1):=by
 apply List.ext_getElem
 ·simp [refW]
 ·intro j h1 h2
  simp only [refW,List.getElem_set,List.getElem_map,List.getElem_range]
  by_cases h:q=j
  ·subst h
   rw [if_pos rfl,show 4*q+r+1-4*q=r+1 by omega]
  ·rw [if_neg h]
   rcases Nat.lt_or_ge j q with hj|hj
   ·rw [Xmf s j _ (by omega),Xmf s j _ (by omega)]
   ·rw [show 4*q+r-4*j=0 by omega,show 4*q+r+1-4*j=0 by omega]
theorem Xhq (s:Bytes) (i:Nat):0≤byteI s i∧byteI s i<4294967296:=by unfold byteI;omega
theorem Xe7 (s:Bytes) (k:Nat) (h:k<s.length):(s[k].toNat:Int)%4294967296=byteI s k:=by simp [byteI,h]
theorem pW_0 (s:Bytes) (q k:Nat) (hk:k=4*q+0) (h:k<s.length):bits .or .u32 (pW s q 0) ((s[k].toNat:Int)%4294967296)=pW s q 1:=by
 rw [Xe7 s k h,hk]
 exact Xqk _ (Xhq _ _).1 (Xhq _ _).2
theorem pW_1 (s:Bytes) (q k:Nat) (hk:k=4*q+1) (h:k<s.length):bits .or .u32 (pW s q 1) ((s[k].toNat:Int)%4294967296*256%4294967296)=pW s q 2:=by
 rw [Xe7 s k h,hk];rfl
theorem pW_2 (s:Bytes) (q k:Nat) (hk:k=4*q+2) (h:k<s.length):bits .or .u32 (pW s q 2) ((s[k].toNat:Int)%4294967296*65536%4294967296)=pW s q 3:=by
 rw [Xe7 s k h,hk];rfl
theorem pW_3 (s:Bytes) (q k:Nat) (hk:k=4*q+3) (h:k<s.length):bits .or .u32 (pW s q 3) ((s[k].toNat:Int)%4294967296*16777216%4294967296)=pW s q 4:=by
 rw [Xe7 s k h,hk];rfl
def vFill (hs:List Int) (k:Nat):List Int:=(List.range 16).map fun j=>if j<8 then (if j<k then hs.getD j 0 else 0) else (if j-8<k then blkIV.getD (j-8) 0 else 0)
theorem Xfn (hs:List Int) (k:Nat):(vFill hs k).length=16:=by simp [vFill]
theorem Xn4 (hs:List Int):vFill hs 0=List.replicate 16 0:=by simp [vFill,List.map_const']
theorem Xn5 (hs:List Int) (k:Nat) (hk:k<8):((vFill hs k).set k (hs.getD k 0)).set (k+8) (blkIV.getD k 0)=vFill hs (k+1):=by
 apply List.ext_getElem
 ·simp [vFill]
 ·intro j h1 h2
  simp only [vFill,List.getElem_set,List.getElem_map,List.getElem_range]
  by_cases h:k+8=j
  ·subst h
   rw [if_pos rfl,if_neg (by omega),if_pos (by omega),show k+8-8=k by omega]
  ·rw [if_neg h]
   by_cases h':k=j
   ·subst h'
    rw [if_pos rfl,if_pos hk,if_pos (by omega)]
   ·rw [if_neg h']
    by_cases hj:j<8
    ·rw [if_pos hj,if_pos hj]
     by_cases hjk:j<k
     ·rw [if_pos hjk,if_pos (by omega)]
     ·rw [if_neg hjk,if_neg (by omega)]
    ·rw [if_neg hj,if_neg hj]
     by_cases hjk:j-8<k
     ·rw [if_pos hjk,if_pos (by omega)]
     ·rw [if_neg hjk,if_neg (by omega)]
theorem Xpg (hs:List Int) (h:hs.length=8):vFill hs 8=hs++blkIV:=by
 obtain ⟨a,b,c,d,e,f,g,i,rfl⟩:=Xmi h
 rfl
def refPerms:List Bytes:= [[48,49,50,51,52,53,54,55,56,57,97,98,99,100,101,102],[101,97,52,56,57,102,100,54,49,99,48,50,98,55,53,51],[98,56,99,48,53,50,102,100,97,101,51,54,55,49,57,52],[55,57,51,49,100,99,98,101,50,54,53,97,52,48,102,56],[57,48,53,55,50,52,97,102,101,49,98,99,54,56,51,100],[50,99,54,97,48,98,56,51,52,100,55,53,102,101,49,57],[99,53,49,102,101,100,52,97,48,55,54,51,57,50,56,98],[100,98,55,101,99,49,51,57,53,48,102,52,56,54,50,97],[54,102,101,57,98,51,48,56,99,50,100,55,49,52,97,53],[97,50,56,52,55,54,49,53,102,98,57,101,51,99,100,48]]
def refPerm (r:Nat):Bytes:=refPerms.getD r []
def digitP (c:Nat):Nat:=if 97≤c then c-87 else c-48
theorem Xd7 (r:Nat) (h:r<10):(refPerm r).length=16:=by revert r;decide
theorem Xlf (r i:Nat) (hr:r<10) (hi:i<16):digitP ((refPerm r).getD i 0).toNat=sigma r i∧48≤((refPerm r).getD i 0).toNat∧((refPerm r).getD i 0).toNat≤102:=by
 revert i;revert r;decide
set_option maxRecDepth 100000 in
theorem Xcw (r:Nat) (hr:r<10) (w:World):Calls Tryz.prog 211 #[.int .i64 r] w fun e w'=>e= .returned (S (refPerm r))∧Below w.heap.size w w':=by
 match r,hr with
 |0,_=>go_enter Tryz.func211,Tryz.ntmps211;go_wp2;go_ret;exact ⟨rfl,Qb _ _⟩
 |1,_=>go_enter Tryz.func211,Tryz.ntmps211;go_wp2;go_ret;exact ⟨rfl,Qb _ _⟩
 |2,_=>go_enter Tryz.func211,Tryz.ntmps211;go_wp2;go_ret;exact ⟨rfl,Qb _ _⟩
 |3,_=>go_enter Tryz.func211,Tryz.ntmps211;go_wp2;go_ret;exact ⟨rfl,Qb _ _⟩
 |4,_=>go_enter Tryz.func211,Tryz.ntmps211;go_wp2;go_ret;exact ⟨rfl,Qb _ _⟩
 |5,_=>go_enter Tryz.func211,Tryz.ntmps211;go_wp2;go_ret;exact ⟨rfl,Qb _ _⟩
 |6,_=>go_enter Tryz.func211,Tryz.ntmps211;go_wp2;go_ret;exact ⟨rfl,Qb _ _⟩
 |7,_=>go_enter Tryz.func211,Tryz.ntmps211;go_wp2;go_ret;exact ⟨rfl,Qb _ _⟩
 |8,_=>go_enter Tryz.func211,Tryz.ntmps211;go_wp2;go_ret;exact ⟨rfl,Qb _ _⟩
 |9,_=>go_enter Tryz.func211,Tryz.ntmps211;go_wp2;go_ret;exact ⟨rfl,Qb _ _⟩
set_option maxRecDepth 100000 in
theorem Xc7 (c:Nat) (h0:48≤c) (h1:c≤102) (w:World):Calls Tryz.prog 214 #[.int .u8 c] w fun e w'=>e= .returned (.int .i64 (digitP c:Nat))∧Below w.heap.size w w':=by
 have hw1:IntKind.i64.wrap (c:Int)=c:=IntWalk.i64_in _ (by omega)
 by_cases h:97≤c
 ·have hd:decide (97≤(c:Int))=true:=by simp;omega
  have Hp:=Qh (show (digitP c:Int)=(c:Int)-87 by rw [digitP,if_pos h];omega)
  go_enter Tryz.func214,Tryz.ntmps214
  go_wp2
  go_ret
  exact ⟨Xag Hp.out.symm,Qb _ _⟩
 ·have hd:decide (97≤(c:Int))=false:=by simp;omega
  have Hp:=Qh (show (digitP c:Int)=(c:Int)-48 by rw [digitP,if_neg h];omega)
  go_enter Tryz.func214,Tryz.ntmps214
  go_wp2
  go_ret
  exact ⟨Xag Hp.out.symm,Qb _ _⟩
set_option maxRecDepth 100000 in
theorem Xev (w:World):Calls Tryz.prog 145 #[] w fun e w'=>e= .returned (.agg (row blkIV))∧Below w.heap.size w w':=by
 go_enter Tryz.func145,Tryz.ntmps145
 go_wp2
 refine bodyPost_ret (results_cell_row rfl _ _ w.heap.size _ (row blkIV) (0,0) _ rfl (heap_alloc_new w (.cells (row blkIV) 192)) Tryz.underlying192 rfl (by kernel_rfl)) rfl ⟨rfl,?_⟩
 exact (Qb _ _).alloc (Qn _) _
def quadZ:Array Value:= #[.int .i64 0,.int .i64 0,.int .i64 0,.int .i64 0]
theorem Xoj (k:Nat) (h:k<4):quad k=(k,k+4,k+8,k+12):=by revert k;decide
theorem Xok (k:Nat) (h:k<4):quad (k+4)=(k,4+(k+1)%4,8+(k+2)%4,12+(k+3)%4):=by revert k;decide
set_option maxRecDepth 100000 in
set_option maxHeartbeats 400000 in
theorem Xeu (k:Nat) (hk:k<8) (w:World):Calls Tryz.prog 212 #[.int .i64 k] w fun e w'=>e= .returned (quadV (quad k))∧Below w.heap.size w w':=by
 by_cases h:k<4
 ·have Hq:=Qh (Xoj k h)
  have hz:=heap_alloc_new w (.cells quadZ 253)
  have hi4:(Tryz.prog.info? 253).map (·.size)=some (#[.int .i64 k,.int .i64 ((k:Int)+4),.int .i64 ((k:Int)+8),.int .i64 ((k:Int)+12)]:Array Value).size:=by kernel_rfl
  have ho4:(#[.int .i64 k,.int .i64 ((k:Int)+4),.int .i64 ((k:Int)+8),.int .i64 ((k:Int)+12)]:Array Value).all (·.oneCell')=true:=by simp [Value.oneCell']
  go_enter Tryz.func212,Tryz.ntmps212
  go_wp2_with (refine wpList_store_row rfl 253 _ _ rfl w.heap.size #[.int .i64 k,.int .i64 ((k:Int)+4),.int .i64 ((k:Int)+8),.int .i64 ((k:Int)+12)] rfl rfl 253 quadZ hz hi4 rfl ho4 ?_)
  refine bodyPost_ret (results_cell_row rfl _ _ w.heap.size _ #[.int .i64 k,.int .i64 ((k:Int)+4),.int .i64 ((k:Int)+8),.int .i64 ((k:Int)+12)] (0,0) _ rfl (setRow_heap _ _ _ _ _ _ hz) Tryz.underlying253 rfl hi4) rfl ⟨by rw [Hq.out];rfl,below_setRow ((Qb _ _).alloc (Qn _) _) (Qn _) _⟩
 ·obtain ⟨q,rfl⟩:∃q,k=q+4:=⟨k-4,by omega⟩
  have Hq:=Qh (Xok q (by omega))
  have hz:=heap_alloc_new w (.cells quadZ 253)
  have hs:((q+4:Nat):Int)=(q:Int)+4:=by omega
  rw [hs]
  clear hs
  have hi4:(Tryz.prog.info? 253).map (·.size)=some (#[.int .i64 q,.int .i64 (4+((q:Int)+1)%4),.int .i64 (8+((q:Int)+2)%4),.int .i64 (12+((q:Int)+3)%4)]:Array Value).size:=by kernel_rfl
  have ho4:(#[.int .i64 q,.int .i64 (4+((q:Int)+1)%4),.int .i64 (8+((q:Int)+2)%4),.int .i64 (12+((q:Int)+3)%4)]:Array Value).all (·.oneCell')=true:=by simp [Value.oneCell']
  go_enter Tryz.func212,Tryz.ntmps212
  go_wp2_with (refine wpList_store_row rfl 253 _ _ rfl w.heap.size #[.int .i64 q,.int .i64 (4+((q:Int)+1)%4),.int .i64 (8+((q:Int)+2)%4),.int .i64 (12+((q:Int)+3)%4)] rfl rfl 253 quadZ hz hi4 rfl ho4 ?_)
  refine bodyPost_ret (results_cell_row rfl _ _ w.heap.size _ #[.int .i64 q,.int .i64 (4+((q:Int)+1)%4),.int .i64 (8+((q:Int)+2)%4),.int .i64 (12+((q:Int)+3)%4)] (0,0) _ rfl (setRow_heap _ _ _ _ _ _ hz) Tryz.underlying253 rfl hi4) rfl ⟨by rw [Hq.out];rfl,below_setRow ((Qb _ _).alloc (Qn _) _) (Qn _) _⟩
structure Rm0 (w:World) (hs m:List Int) (X:World):Prop where
 below:Below w.heap.size w X
 size:w.heap.size+1+1<X.heap.size
 b0:X.heap[w.heap.size]? =some (.cells (row hs) 192 (0,0))
 b1:X.heap[w.heap.size+1]? =some (.cells (row (List.replicate 8 0)) 192 (0,0))
 b2:X.heap[w.heap.size+1+1]? =some (.cells (row m) 249 (0,0))
structure Rm (w:World) (BI BV:Nat) (hs m v:List Int) (X:World):Prop extends Rm0 w hs m X where
 lo:w.heap.size+1+1<BI
 mid:BI<BV
 hi:BV<X.heap.size
 bi:X.heap[BI]? =some (.cells (row blkIV) 192 (0,0))
 bv:X.heap[BV]? =some (.cells (row v) 249 (0,0))
section
variable {w X X':World} {BI BV:Nat} {hs m v:List Int}
theorem Rm0.start (w:World) (hs:List Int):Rm0 w hs (List.replicate 16 0) (((w.alloc (.cells (row hs) 192)).alloc (.cells (row (List.replicate 8 0)) 192)).alloc (.cells (row (List.replicate 16 0)) 249)):=by
 refine ⟨(((Qb _ _).alloc (Qn _) _).alloc (by simp) _).alloc (by simp;omega) _,by simp,?_,?_,?_⟩
 ·exact (Below.heap_alloc _ _ _ (by simp;omega)).trans ((Below.heap_alloc _ _ _ (by simp)).trans (heap_alloc_new _ _))
 ·exact (Below.heap_alloc _ _ _ (by simp)).trans (Xfj (by simp) _)
 ·exact Xfj (by simp) _
theorem Rm0.pass (h:Rm0 w hs m X) (hb:Below X.heap.size X X'):Rm0 w hs m X':=by
 have:=h.size
 exact ⟨h.below.trans (hb.mono h.below.size),by have:=hb.size;omega,(hb.block _ (by omega)).trans h.b0,(hb.block _ (by omega)).trans h.b1,(hb.block _ (by omega)).trans h.b2⟩
theorem Rm0.set2 (h:Rm0 w hs m X) (i:Nat) (x:Int):Rm0 w hs (m.set i x) (X.setCell ⟨w.heap.size+1+1,i,none⟩ (.int .u32 x)):=by
 have o:∀k,k≠w.heap.size+1+1→(X.setCell ⟨w.heap.size+1+1,i,none⟩ (.int .u32 x)).heap[k]? =X.heap[k]? :=fun k hk=>Below.heap_setCell _ _ _ _ hk
 exact ⟨h.below.setCell (by show w.heap.size≤w.heap.size+1+1;omega) _,by simpa [World.setCell] using h.size,(o _ (by omega)).trans h.b0,(o _ (by omega)).trans h.b1,heap_setCell _ h.b2⟩
theorem Rm.pass (h:Rm w BI BV hs m v X) (hb:Below X.heap.size X X'):Rm w BI BV hs m v X':=by
 have:=h.hi
 have:=h.mid
 exact ⟨h.toRm0.pass hb,h.lo,h.mid,by have:=hb.size;omega,(hb.block _ (by omega)).trans h.bi,(hb.block _ (by omega)).trans h.bv⟩
theorem Rm.alloc (h:Rm w BI BV hs m v X) (o:Obj):Rm w BI BV hs m v (X.alloc o):=h.pass ((Qb _ _).alloc (Qn _) o)
theorem Rm.set0 (h:Rm w BI BV hs m v X) (i:Nat) (x:Int):Rm w BI BV (hs.set i x) m v (X.setCell ⟨w.heap.size,i,none⟩ (.int .u32 x)):=by
 have h1:=h.lo
 have h2:=h.mid
 have o:∀k,k≠w.heap.size→(X.setCell ⟨w.heap.size,i,none⟩ (.int .u32 x)).heap[k]? =X.heap[k]? :=fun k hk=>Below.heap_setCell _ _ _ _ hk
 exact ⟨⟨h.below.setCell (Qn _) _,by simpa [World.setCell] using h.size,heap_setCell _ h.b0,(o _ (by omega)).trans h.b1,(o _ (by omega)).trans h.b2⟩,h.lo,h.mid,by simpa [World.setCell] using h.hi,(o _ (by omega)).trans h.bi,(o _ (by omega)).trans h.bv⟩
theorem Rm.setv (h:Rm w BI BV hs m v X) (i:Nat) (x:Int):Rm w BI BV hs m (v.set i x) (X.setCell ⟨BV,i,none⟩ (.int .u32 x)):=by
 have h1:=h.lo
 have h2:=h.mid
 have o:∀k,k≠BV→(X.setCell ⟨BV,i,none⟩ (.int .u32 x)).heap[k]? =X.heap[k]? :=fun k hk=>Below.heap_setCell _ _ _ _ hk
 exact ⟨⟨h.below.setCell (by show w.heap.size≤BV;omega) _,by simpa [World.setCell] using h.size,(o _ (by omega)).trans h.b0,(o _ (by omega)).trans h.b1,(o _ (by omega)).trans h.b2⟩,h.lo,h.mid,by simpa [World.setCell] using h.hi,(o _ (by omega)).trans h.bi,heap_setCell _ h.bv⟩
theorem Rm.rowv {v':List Int} (h:Rm w BI BV hs m v X):Rm w BI BV hs m v' (X.setRow BV (row v')):=by
 have h1:=h.lo
 have h2:=h.mid
 have o:∀k,k≠BV→(X.setRow BV (row v')).heap[k]? =X.heap[k]? :=fun k hk=>setRow_other _ _ _ _ hk
 exact ⟨⟨below_setRow h.below (by omega) _,by simpa using h.size,(o _ (by omega)).trans h.b0,(o _ (by omega)).trans h.b1,(o _ (by omega)).trans h.b2⟩,h.lo,h.mid,by simpa using h.hi,(o _ (by omega)).trans h.bi,setRow_heap _ _ _ _ _ _ h.bv⟩
theorem Rm.start (h:Rm0 w hs m X):Rm w X.heap.size (X.heap.size+1) hs m (List.replicate 16 0) ((X.alloc (.cells (row blkIV) 192)).alloc (.cells (row (List.replicate 16 0)) 249)):=by
 refine ⟨h.pass (((Qb _ _).alloc (Qn _) _).alloc (by simp) _),h.size,by omega,by simp,?_,?_⟩
 ·exact (Below.heap_alloc _ _ _ (by simp)).trans (heap_alloc_new _ _)
 ·exact Xfj (by simp) _
end
set_option maxRecDepth 100000 in
set_option maxHeartbeats 1500000 in
theorem Xd9 (hs:List Int) (hh:hs.length=8) (s:Bytes) (hsl:s.length=64) (count:Int) (last:Bool) (w:World):
 Calls Tryz.prog 146 #[.agg (row hs),S s,.int .u64 count,.bool last] w fun e w'=>e= .returned (.tuple #[.agg (row (compressP hs s count last)),.int .i64 0])∧Below w.heap.size w w':=by
 obtain ⟨h0,h1,h2,h3,h4,h5,h6,h7,rfl⟩:=Xmi hh
 rw [show row [h0,h1,h2,h3,h4,h5,h6,h7]= #[.int .u32 h0,.int .u32 h1,.int .u32 h2,.int .u32 h3,.int .u32 h4,.int .u32 h5,.int .u32 h6,.int .u32 h7] from rfl]
 have hsz:(s.length:Int)=64:=by omega
 clear hh
 have Hst:=Qh (show Rm0 w [h0,h1,h2,h3,h4,h5,h6,h7] (refW s 0) _ by rw [Xp1];exact Rm0.start w [h0,h1,h2,h3,h4,h5,h6,h7])
 go_enter Tryz.func146,Tryz.ntmps146
 go_wp2_with fail
 go_loopw [11] (fun s11 wr=> ∃(k:Nat),k≤64∧s11= .int .i64 k∧Rm0 w [h0,h1,h2,h3,h4,h5,h6,h7] (refW s k) wr) (fun i _=>64-(intOf i).toNat)
 case atStart=>exact ⟨0,Nat.zero_le _,rfl,Hst.out⟩
 case round=>
  clear Hst
  obtain ⟨k,hk,rfl,hm⟩:=hrel
  by_cases hlt:k<64
  ·obtain ⟨q,r,hq,hr,hkq⟩:∃q r,q<16∧r<4∧k=4*q+r:=⟨k / 4,k%4,by omega,by omega,by omega⟩
   have hdiv:(k:Int) / 4=(q:Int):=by omega
   have hqi:(q:Int)<16:=by omega
   have Hw:=Qh (show (refW s k).set q (pW s q (r+1))=refW s (k+1) by rw [hkq];exact Xp2 s q r hq hr)
   have hcell:=cell_of_row wr _ q _ _ _ hm.b2
   rw [Xa7 (by rw [Xma];exact hq),show (refW s k).getD q 0=pW s q r by rw [hkq];exact Xuv s q r hq hr] at hcell
   have Hkq:=Qh hkq
   clear hkq
   obtain ⟨a,ha⟩:∃a,pW s q r=a:=⟨_,rfl⟩
   rw [ha] at hcell
   have Ha:=Qh ha
   clear ha
   have Hm:=Qh hm
   clear hm
   have hx0:=run_at Tryz.underlying9 s (k:Int) k rfl (by omega)
   rcases (show r=0∨r=1∨r=2∨r=3 by omega) with rfl|rfl|rfl|rfl
   ·have hmod:(k:Int)%4=0:=by have:=Hkq.out;omega
    go_wp2_with fail
    have g:=cell_regrown hcell
    refine Xac 17 (by kernel_rfl) (by kernel_rfl) ?_
    simp only [List.take_succ_cons,List.take_zero,List.drop_succ_cons,List.drop_zero]
    repeat (go_big_quiet_step ((fail)))
    refine wpQuiet_nil ?_
    intro X1 hwq
    have hbt:Below (wr).heap.size (wr) X1:=by
     obtain ⟨pq,rfl⟩:=hwq
     exact below_regrown _ _ _
    clear hwq
    have hMt:=Hm.out.pass hbt
    have g1:=hbt.cell (p:=⟨w.heap.size+1+1,q,none⟩) (show w.heap.size+1+1<_ from Hm.out.size)
    rw [hcell] at g1
    have g2:=frozen_of_row X1 _ q _ _ hMt.b2
    have HMt:=Qh hMt
    clear hMt hbt g
    go_wp2
    go_roundw
    case rel=>exact ⟨k+1,by omega,by go_num,by rw [←Hw.out,←pW_0 s q k Hkq.out (by omega),Ha.out];exact HMt.out.set2 q _⟩
    case measure=>simp [intOf];omega
   ·have hmod:(k:Int)%4=1:=by have:=Hkq.out;omega
    go_wp2_with fail
    have g:=cell_regrown hcell
    refine Xac 17 (by kernel_rfl) (by kernel_rfl) ?_
    simp only [List.take_succ_cons,List.take_zero,List.drop_succ_cons,List.drop_zero]
    repeat (go_big_quiet_step ((fail)))
    refine wpQuiet_nil ?_
    intro X1 hwq
    have hbt:Below (wr).heap.size (wr) X1:=by
     obtain ⟨pq,rfl⟩:=hwq
     exact below_regrown _ _ _
    clear hwq
    have hMt:=Hm.out.pass hbt
    have g1:=hbt.cell (p:=⟨w.heap.size+1+1,q,none⟩) (show w.heap.size+1+1<_ from Hm.out.size)
    rw [hcell] at g1
    have g2:=frozen_of_row X1 _ q _ _ hMt.b2
    have HMt:=Qh hMt
    clear hMt hbt g
    go_wp2
    go_roundw
    case rel=>exact ⟨k+1,by omega,by go_num,by rw [←Hw.out,←pW_1 s q k Hkq.out (by omega),Ha.out];exact HMt.out.set2 q _⟩
    case measure=>simp [intOf];omega
   ·have hmod:(k:Int)%4=2:=by have:=Hkq.out;omega
    go_wp2_with fail
    have g:=cell_regrown hcell
    refine Xac 17 (by kernel_rfl) (by kernel_rfl) ?_
    simp only [List.take_succ_cons,List.take_zero,List.drop_succ_cons,List.drop_zero]
    repeat (go_big_quiet_step ((fail)))
    refine wpQuiet_nil ?_
    intro X1 hwq
    have hbt:Below (wr).heap.size (wr) X1:=by
     obtain ⟨pq,rfl⟩:=hwq
     exact below_regrown _ _ _
    clear hwq
    have hMt:=Hm.out.pass hbt
    have g1:=hbt.cell (p:=⟨w.heap.size+1+1,q,none⟩) (show w.heap.size+1+1<_ from Hm.out.size)
    rw [hcell] at g1
    have g2:=frozen_of_row X1 _ q _ _ hMt.b2
    have HMt:=Qh hMt
    clear hMt hbt g
    go_wp2
    go_roundw
    case rel=>exact ⟨k+1,by omega,by go_num,by rw [←Hw.out,←pW_2 s q k Hkq.out (by omega),Ha.out];exact HMt.out.set2 q _⟩
    case measure=>simp [intOf];omega
   ·have hmod:(k:Int)%4=3:=by have:=Hkq.out;omega
    go_wp2_with fail
    have g:=cell_regrown hcell
    refine Xac 17 (by kernel_rfl) (by kernel_rfl) ?_
    simp only [List.take_succ_cons,List.take_zero,List.drop_succ_cons,List.drop_zero]
    repeat (go_big_quiet_step ((fail)))
    refine wpQuiet_nil ?_
    intro X1 hwq
    have hbt:Below (wr).heap.size (wr) X1:=by
     obtain ⟨pq,rfl⟩:=hwq
     exact below_regrown _ _ _
    clear hwq
    have hMt:=Hm.out.pass hbt
    have g1:=hbt.cell (p:=⟨w.heap.size+1+1,q,none⟩) (show w.heap.size+1+1<_ from Hm.out.size)
    rw [hcell] at g1
    have g2:=frozen_of_row X1 _ q _ _ hMt.b2
    have HMt:=Qh hMt
    clear hMt hbt g
    go_wp2
    go_roundw
    case rel=>exact ⟨k+1,by omega,by go_num,by rw [←Hw.out,←pW_3 s q k Hkq.out (by omega),Ha.out];exact HMt.out.set2 q _⟩
    case measure=>simp [intOf];omega
  ·have hke:k=64:=by omega
   subst hke
   rw [Xss] at hm
   have Hm:=Qh hm
   clear hm
   go_wp2_with fail
   refine (Xev _).mono ?_
   rintro e w1 ⟨rfl,hb1⟩
   have hn1:=hb1.size
   have Hm1:=Qh (Hm.out.pass hb1)
   clear hb1 Hm
   rw [show row blkIV= #[.int .u32 1779033703,.int .u32 3144134277,.int .u32 1013904242,.int .u32 2773480762,.int .u32 1359893119,.int .u32 2600822924,.int .u32 528734635,.int .u32 1541459225] from rfl]
   go_wp2_with fail
   have hmX:Rm w w1.heap.size (w1.heap.size+1) [h0,h1,h2,h3,h4,h5,h6,h7] (words s) (vFill [h0,h1,h2,h3,h4,h5,h6,h7] 0) ((w1.alloc (.cells (row blkIV) 192)).alloc (.cells (row (List.replicate 16 0)) 249)):=by
    rw [Xn4];exact Rm.start Hm1.out
   have HmX:=Qh hmX
   clear hmX Hm1
   obtain ⟨BI,hBI⟩:∃BI,w1.heap.size=BI:=⟨_,rfl⟩
   rw [hBI] at HmX ⊢
   have Hlo:=Qh HmX.out.lo
   clear hBI hn1
   go_loopw [14] (fun s14 wr=> ∃k:Nat,k≤8∧s14= .int .i64 k∧Rm w BI (BI+1) [h0,h1,h2,h3,h4,h5,h6,h7] (words s) (vFill [h0,h1,h2,h3,h4,h5,h6,h7] k) wr) (fun i _=>8-(intOf i).toNat)
   case atStart=>exact ⟨0,Nat.zero_le _,rfl,HmX.out⟩
   case round=>
    clear HmX
    obtain ⟨k,hk,rfl,hm⟩:=hrel
    by_cases hltk:k<8
    ·have c1:=(cell_of_row wr _ k _ _ _ hm.b0).trans (Xa7 (l:= [h0,h1,h2,h3,h4,h5,h6,h7]) hltk)
     have c2:=(cell_of_row wr _ k _ _ _ hm.bi).trans (Xa7 (l:=blkIV) hltk)
     have c3:=(cell_of_row wr _ k _ _ _ hm.bv).trans (Xa7 (by rw [Xfn];omega))
     have c4:=(cell_of_row wr _ (k+8) _ _ _ hm.bv).trans (Xa7 (by rw [Xfn];omega))
     have f3:=frozen_of_row wr _ k _ _ hm.bv
     have f4:=frozen_of_row wr _ (k+8) _ _ hm.bv
     have Hvs:=Qh (Xn5 [h0,h1,h2,h3,h4,h5,h6,h7] k hltk)
     have Hm:=Qh hm
     clear hm
     generalize List.getD [h0,h1,h2,h3,h4,h5,h6,h7] k 0=x0 at c1 Hvs
     generalize blkIV.getD k 0=x1 at c2 Hvs
     generalize List.getD (vFill [h0,h1,h2,h3,h4,h5,h6,h7] k) k 0=x2 at c3
     generalize List.getD (vFill [h0,h1,h2,h3,h4,h5,h6,h7] k) (k+8) 0=x3 at c4
     go_wp2
     go_roundw
     case rel=>exact ⟨k+1,by omega,by go_num,by rw [←Hvs.out];exact (Hm.out.setv k _).setv (k+8) _⟩
     case measure=>simp [intOf];omega
    ·have hke:k=8:=by omega
     subst hke
     rw [Xpg _ rfl] at hm
     have c12:wr.cell? ⟨BI+1,12,none⟩=some (.int .u32 1359893119):=(cell_of_row wr _ 12 _ _ _ hm.bv).trans rfl
     have c13:wr.cell? ⟨BI+1,13,none⟩=some (.int .u32 2600822924):=(cell_of_row wr _ 13 _ _ _ hm.bv).trans rfl
     have c14:wr.cell? ⟨BI+1,14,none⟩=some (.int .u32 528734635):=(cell_of_row wr _ 14 _ _ _ hm.bv).trans rfl
     have f12:=frozen_of_row wr _ 12 _ _ hm.bv
     have f13:=frozen_of_row wr _ 13 _ _ hm.bv
     have f14:=frozen_of_row wr _ 14 _ _ hm.bv
     have Hm:=Qh hm
     clear hm
     cases last with
     |true=>
      go_wp2_with fail
      obtain ⟨v0,hv0⟩:∃v0,vInit [h0,h1,h2,h3,h4,h5,h6,h7] count true=v0:=⟨_,rfl⟩
      have Hv0:=Qh hv0
      clear hv0
      have hlv:v0.length=16:=by rw [←Hv0.out];exact Xcl _ rfl _ _
      clear c12 c13 c14 f12 f13 f14
      go_loopw [15] (fun s15 wr=> ∃r:Nat,r≤10∧s15= .int .i64 r∧Rm w BI (BI+1) [h0,h1,h2,h3,h4,h5,h6,h7] (words s) (roundsP (words s) r v0) wr) (fun i _=>10-(intOf i).toNat)
      case atStart=>exact ⟨0,Nat.zero_le _,rfl,by show Rm w BI (BI+1) _ (words s) v0 _;rw [←Hv0.out];exact ((Hm.out.setv 12 _).setv 13 _).setv 14 _⟩
      case round=>
       clear Hm
       obtain ⟨r,hr,rfl,hmr⟩:=hrel
       by_cases hltr:r<10
       ·obtain ⟨vr,hvr⟩:∃vr,roundsP (words s) r v0=vr:=⟨_,rfl⟩
        have Hvr:=Qh hvr
        rw [hvr] at hmr
        clear hvr
        have hlr:vr.length=16:=by rw [←Hvr.out,Xa4,hlv]
        have Hmr:=Qh hmr
        clear hmr
        go_wp2_with fail
        refine (Xcw r hltr _).mono ?_
        rintro e w4 ⟨rfl,hb4⟩
        have Hm4:=Qh (Hmr.out.pass hb4)
        clear Hmr hb4
        have hPl:=Xd7 r hltr
        have Hdig:=Qh (fun i hi=>Xlf r i hltr hi)
        generalize refPerm r=P at hPl Hdig ⊢
        go_wp2_with fail
        go_loopw [17] (fun s17 wr=> ∃k:Nat,k≤8∧s17= .int .i64 k∧Rm w BI (BI+1) [h0,h1,h2,h3,h4,h5,h6,h7] (words s) (stepsP (words s) r k vr) wr) (fun i _=>8-(intOf i).toNat)
        case atStart=>exact ⟨0,Nat.zero_le _,rfl,Hm4.out⟩
        case round=>
         clear Hm4
         obtain ⟨k,hk,rfl,hmk⟩:=hrel
         by_cases hltk:k<8
         ·have Hmk:=Qh hmk
          clear hmk
          go_wp2_with fail
          refine (Xeu k hltk _).mono ?_
          rintro e w5 ⟨rfl,hb5⟩
          have Hm5:=Qh (Hmk.out.pass hb5)
          clear Hmk hb5
          obtain ⟨qa,qb,qc,qd,hq⟩:∃qa qb qc qd,quad k=(qa,qb,qc,qd):=⟨_,_,_,_,rfl⟩
          have hqo:=Xi8 k hltk
          have hst:stepP (words s) r k (stepsP (words s) r k vr)=mixP (stepsP (words s) r k vr) qa qb qc qd ((words s).getD (sigma r (2*k)) 0) ((words s).getD (sigma r (2*k+1)) 0):=by rw [stepP,hq]
          rw [hq] at hqo ⊢
          rw [show quadV (qa,qb,qc,qd)= .agg #[.int .i64 qa,.int .i64 qb,.int .i64 qc,.int .i64 qd] from rfl]
          have Hap:=Qh (show Apart 16 qa qb qc qd from ⟨hqo.1,hqo.2.1,hqo.2.2.1,hqo.2.2.2.1,hqo.2.2.2.2.1,hqo.2.2.2.2.2.1,hqo.2.2.2.2.2.2.1,hqo.2.2.2.2.2.2.2.1,hqo.2.2.2.2.2.2.2.2.1,hqo.2.2.2.2.2.2.2.2.2⟩)
          clear hq hqo
          have hs1:=Xcm r (2*k) hltr (by omega)
          have hs2:=Xcm r (2*k+1) hltr (by omega)
          obtain ⟨hd1,hd1a,hd1b⟩:=Hdig.out (2*k) (by omega)
          obtain ⟨hd2,hd2a,hd2b⟩:=Hdig.out (2*k+1) (by omega)
          have hx1:=run_at Tryz.underlying9 P (2*(k:Int)) (2*k) (by omega) (by omega)
          have hx2:=run_at Tryz.underlying9 P (2*(k:Int)+1) (2*k+1) (by omega) (by omega)
          generalize (P.getD (2*k) 0).toNat=e1 at hd1 hd1a hd1b hx1
          generalize (P.getD (2*k+1) 0).toNat=e2 at hd2 hd2a hd2b hx2
          generalize sigma r (2*k)=sx at hs1 hst hd1
          generalize sigma r (2*k+1)=sy at hs2 hst hd2
          have Hg1:=Qh (show ∀W,Calls Tryz.prog 214 #[.int .u8 (e1:Int)] W fun e w'=>e= .returned (.int .i64 (sx:Int))∧Below W.heap.size W w' from fun W=>by rw [←hd1];exact Xc7 e1 hd1a hd1b W)
          have Hg2:=Qh (show ∀W,Calls Tryz.prog 214 #[.int .u8 (e2:Int)] W fun e w'=>e= .returned (.int .i64 (sy:Int))∧Below W.heap.size W w' from fun W=>by rw [←hd2];exact Xc7 e2 hd2a hd2b W)
          clear hd1 hd1a hd1b hd2 hd2a hd2b
          have hlk:(stepsP (words s) r k vr).length=16:=by rw [Xbn,hlr]
          generalize hvk:stepsP (words s) r k vr=vk at hst hlk Hm5
          have Hvk:=Qh hvk
          clear hvk
          have m0:=(cell_of_row w5 _ sx _ _ _ Hm5.out.b2).trans (Xa7 (l:=words s) (by simpa [words] using hs1))
          have m1:=(cell_of_row w5 _ sy _ _ _ Hm5.out.b2).trans (Xa7 (l:=words s) (by simpa [words] using hs2))
          generalize (words s).getD sx 0=mx at m0 hst
          generalize (words s).getD sy 0=my at m1 hst
          have Hst:=Qh hst
          clear hst
          go_wp2_with fail
          have Hm6:=Qh (Hm5.out.alloc (.cells #[.int .i64 qa,.int .i64 qb,.int .i64 qc,.int .i64 qd] 253))
          have m0:=cell_regrown (Xab (.cells #[.int .i64 qa,.int .i64 qb,.int .i64 qc,.int .i64 qd] 253) m0)
          have m1:=cell_regrown (Xab (.cells #[.int .i64 qa,.int .i64 qb,.int .i64 qc,.int .i64 qd] 253) m1)
          have k0:=cell_regrown (show (w5.alloc (.cells #[.int .i64 qa,.int .i64 qb,.int .i64 qc,.int .i64 qd] 253)).cell? ⟨w5.heap.size,0,none⟩=some (.int .i64 qa) by simp)
          have k1:=cell_regrown (show (w5.alloc (.cells #[.int .i64 qa,.int .i64 qb,.int .i64 qc,.int .i64 qd] 253)).cell? ⟨w5.heap.size,1,none⟩=some (.int .i64 qb) by simp)
          have k2:=cell_regrown (show (w5.alloc (.cells #[.int .i64 qa,.int .i64 qb,.int .i64 qc,.int .i64 qd] 253)).cell? ⟨w5.heap.size,2,none⟩=some (.int .i64 qc) by simp)
          have k3:=cell_regrown (show (w5.alloc (.cells #[.int .i64 qa,.int .i64 qb,.int .i64 qc,.int .i64 qd] 253)).cell? ⟨w5.heap.size,3,none⟩=some (.int .i64 qd) by simp)
          have hi16:(Tryz.prog.info? 249).map (·.size)=some (row vk).size:=by rw [row_size,hlk];kernel_rfl
          have n1:(sx:Int)<16:=by omega
          have n2:(sy:Int)<16:=by omega
          refine Xac 24 (by kernel_rfl) (by kernel_rfl) ?_
          simp only [List.take_succ_cons,List.take_zero,List.drop_succ_cons,List.drop_zero]
          refine wpQuiet_load_row rfl 249 _ rfl (BI+1) rfl 249 (row vk) (0,0) _ (Xer Hm6.out.bv) Tryz.underlying249 rfl hi16 ?_
          simp only [Act.put,List.setIfInBounds_toArray,List.set_cons_succ,List.set_cons_zero]
          repeat (go_big_quiet_step (with_reducible first|exact Calls.regrown_of (Hg1.out _)|exact Calls.regrown_of (Hg2.out _)))
          refine wpQuiet_nil ?_
          intro w6 hwq
          have hb6:Below (w5.alloc (.cells #[.int .i64 qa,.int .i64 qb,.int .i64 qc,.int .i64 qd] 253)).heap.size (w5.alloc (.cells #[.int .i64 qa,.int .i64 qb,.int .i64 qc,.int .i64 qd] 253)) w6:=by
           obtain ⟨pq,rfl⟩:=hwq
           exact below_regrown _ _ _
          clear hwq
          have Hm7:=Qh (Hm6.out.pass hb6)
          clear Hm6 hb6 m0 m1 k0 k1 k2 k3 hx1 hx2
          go_wp2_with fail
          refine (Xke vk hlk qa qb qc qd mx my _ Hap.out).mono ?_
          rintro e w8 ⟨rfl,hb8⟩
          have Hm8:=Qh (Hm7.out.pass hb8)
          clear Hm7 hb8
          have hlm:(mixP vk qa qb qc qd mx my).length=16:=by rw [Xee,hlk]
          generalize hF:mixP vk qa qb qc qd mx my=F at hlm ⊢
          have HF:=Qh hF
          have hbv:=Hm8.out.bv
          have hiF:(Tryz.prog.info? 249).map (·.size)=some (row F).size:=by rw [row_size,hlm];kernel_rfl
          have hzF:(row vk).size=(row F).size:=by rw [row_size,row_size,hlk,hlm]
          have hoF:(row F).all (·.oneCell')=true:=by simp [row,Value.oneCell']
          clear hF hlm
          go_wp2_with (refine wpList_store_row rfl 249 _ _ rfl (BI+1) (row F) rfl rfl 249 (row vk) hbv hiF hzF hoF ?_)
          go_roundw
          case rel=>exact ⟨k+1,by omega,by go_num,by rw [stepsP,Hvk.out,Hst.out,HF.out];exact Hm8.out.rowv⟩
          case measure=>simp [intOf];omega
         ·have hke:k=8:=by omega
          subst hke
          have Hmk:=Qh hmk
          clear hmk
          go_wp2_with fail
          go_roundw
          case rel=>
           have hrel':∃r':Nat,r'≤10∧Value.int .i64 ((r:Int)+1)= .int .i64 r'∧Rm w BI (BI+1) [h0,h1,h2,h3,h4,h5,h6,h7] (words s) (roundsP (words s) r' v0) wr:=⟨r+1,by omega,by go_num,by rw [roundsP,Hvr.out];exact Hmk.out⟩
           first|exact hrel'|((repeat apply Exists.intro);exact ⟨hrel',rfl⟩)
          case measure=>simp [intOf];omega
       ·have hre:r=10:=by omega
        obtain ⟨v,hv⟩:∃v,roundsP (words s) r v0=v:=⟨_,rfl⟩
        have Hv:=Qh hv
        have hlv2:v.length=16:=by rw [←hv,Xa4,hlv]
        rw [hv] at hmr
        clear hv
        have Hmr:=Qh hmr
        clear hmr
        go_wp2_with fail
        go_loopw [19] (fun s19 wr=> ∃k:Nat,k≤8∧s19= .int .i64 k∧Rm w BI (BI+1) (finTo [h0,h1,h2,h3,h4,h5,h6,h7] v k) (words s) v wr) (fun i _=>8-(intOf i).toNat)
        case atStart=>exact ⟨0,Nat.zero_le _,rfl,Hmr.out⟩
        case round=>
         clear Hmr
         obtain ⟨k,hk,rfl,hmk⟩:=hrel
         by_cases hltk:k<8
         ·have hfl:=Xbf [h0,h1,h2,h3,h4,h5,h6,h7] v k
          have a0:=(cell_of_row wr _ k _ _ _ hmk.b0).trans (Xa7 (by rw [hfl];exact hltk))
          have a1:=(cell_of_row wr _ k _ _ _ hmk.bv).trans (Xa7 (l:=v) (by omega))
          have a2:=(cell_of_row wr _ (k+8) _ _ _ hmk.bv).trans (Xa7 (l:=v) (by omega))
          rw [Xf7 _ _ _ hltk] at a0
          have hsc:=Xd0 [h0,h1,h2,h3,h4,h5,h6,h7] v k
          generalize List.getD [h0,h1,h2,h3,h4,h5,h6,h7] k 0=x0 at a0 hsc
          generalize v.getD k 0=x1 at a1 hsc
          generalize v.getD (k+8) 0=x2 at a2 hsc
          have Hsc:=Qh hsc
          have Hmk:=Qh hmk
          clear hmk hfl hsc
          go_wp2_with fail
          have g0:=cell_regrown a0
          have g1:=cell_regrown a1
          have g2:=cell_regrown a2
          refine Xac 14 (by kernel_rfl) (by kernel_rfl) ?_
          simp only [List.take_succ_cons,List.take_zero,List.drop_succ_cons,List.drop_zero]
          repeat (go_big_quiet_step ((fail)))
          refine wpQuiet_nil ?_
          intro w9 hwq
          have hb9:Below (wr).heap.size (wr) w9:=by
           obtain ⟨pq,rfl⟩:=hwq
           exact below_regrown _ _ _
          clear hwq
          have hm9:=Hmk.out.pass hb9
          have a9:=hb9.cell (p:=⟨w.heap.size,k,none⟩) (block_lt_of_cell a0)
          rw [a0] at a9
          have f9:=frozen_of_row w9 _ k _ _ hm9.b0
          have Hm9:=Qh hm9
          clear hm9 hb9 g0 g1 g2 a0 a1 a2
          go_wp2
          go_roundw
          case rel=>exact ⟨k+1,by omega,by go_num,by rw [←Hsc.out,←Xge];exact Hm9.out.set0 k _⟩
          case measure=>simp [intOf];omega
         ·have hfl:=Xbf [h0,h1,h2,h3,h4,h5,h6,h7] v k
          have hfin:finTo [h0,h1,h2,h3,h4,h5,h6,h7] v k=compressP [h0,h1,h2,h3,h4,h5,h6,h7] s count true:=by
           rw [compressP,Hv0.out,←hre,Hv.out,show k=8 by omega]
          generalize finTo [h0,h1,h2,h3,h4,h5,h6,h7] v k=F at hmk hfl hfin
          have Hfin:=Qh hfin
          have hi8:(Tryz.prog.info? 192).map (·.size)=some (row F).size:=by rw [row_size,hfl];kernel_rfl
          have hz8:(row (List.replicate 8 0)).size=(row F).size:=by rw [row_size,row_size,hfl];rfl
          have ho8:(row F).all (·.oneCell')=true:=by simp [row,Value.oneCell']
          have b0:=hmk.b0
          have b1:=hmk.b1
          have Hmk:=Qh hmk
          clear hmk hfin hre
          go_wp2_with (first
           |(refine wpList_load_row rfl 192 _ rfl w.heap.size rfl 192 (row F) (0,0) _ b0 Tryz.underlying192 rfl hi8 ?_)
           |(refine wpList_store_row rfl 192 _ _ rfl (w.heap.size+1) (row F) rfl rfl 192 (row (List.replicate 8 0)) b1 hi8 hz8 ho8 ?_))
          try simp only [Exit.inBlock,Exit.then]
          refine bodyPost_ret (v:= .tuple #[.agg (row F),.int .i64 0]) ?_ rfl ⟨?_,?_⟩
          ·rw [results_cell_tmp rfl]
           simp [asAddr,run_loadVar_row _ (w.heap.size+1) 192 192 (row F) (0,0) _ (setRow_heap _ _ _ _ _ _ b1) Tryz.underlying192 rfl hi8]
          ·rw [Hfin.out]
          ·exact below_setRow Hmk.out.below (by omega) _
     |false=>
      go_wp2_with fail
      obtain ⟨v0,hv0⟩:∃v0,vInit [h0,h1,h2,h3,h4,h5,h6,h7] count false=v0:=⟨_,rfl⟩
      have Hv0:=Qh hv0
      clear hv0
      have hlv:v0.length=16:=by rw [←Hv0.out];exact Xcl _ rfl _ _
      clear c12 c13 c14 f12 f13 f14
      go_loopw [15] (fun s15 wr=> ∃r:Nat,r≤10∧s15= .int .i64 r∧Rm w BI (BI+1) [h0,h1,h2,h3,h4,h5,h6,h7] (words s) (roundsP (words s) r v0) wr) (fun i _=>10-(intOf i).toNat)
      case atStart=>exact ⟨0,Nat.zero_le _,rfl,by show Rm w BI (BI+1) _ (words s) v0 _;rw [←Hv0.out];exact (Hm.out.setv 12 _).setv 13 _⟩
      case round=>
       clear Hm
       obtain ⟨r,hr,rfl,hmr⟩:=hrel
       by_cases hltr:r<10
       ·obtain ⟨vr,hvr⟩:∃vr,roundsP (words s) r v0=vr:=⟨_,rfl⟩
        have Hvr:=Qh hvr
        rw [hvr] at hmr
        clear hvr
        have hlr:vr.length=16:=by rw [←Hvr.out,Xa4,hlv]
        have Hmr:=Qh hmr
        clear hmr
        go_wp2_with fail
        refine (Xcw r hltr _).mono ?_
        rintro e w4 ⟨rfl,hb4⟩
        have Hm4:=Qh (Hmr.out.pass hb4)
        clear Hmr hb4
        have hPl:=Xd7 r hltr
        have Hdig:=Qh (fun i hi=>Xlf r i hltr hi)
        generalize refPerm r=P at hPl Hdig ⊢
        go_wp2_with fail
        go_loopw [17] (fun s17 wr=> ∃k:Nat,k≤8∧s17= .int .i64 k∧Rm w BI (BI+1) [h0,h1,h2,h3,h4,h5,h6,h7] (words s) (stepsP (words s) r k vr) wr) (fun i _=>8-(intOf i).toNat)
        case atStart=>exact ⟨0,Nat.zero_le _,rfl,Hm4.out⟩
        case round=>
         clear Hm4
         obtain ⟨k,hk,rfl,hmk⟩:=hrel
         by_cases hltk:k<8
         ·have Hmk:=Qh hmk
          clear hmk
          go_wp2_with fail
          refine (Xeu k hltk _).mono ?_
          rintro e w5 ⟨rfl,hb5⟩
          have Hm5:=Qh (Hmk.out.pass hb5)
          clear Hmk hb5
          obtain ⟨qa,qb,qc,qd,hq⟩:∃qa qb qc qd,quad k=(qa,qb,qc,qd):=⟨_,_,_,_,rfl⟩
          have hqo:=Xi8 k hltk
          have hst:stepP (words s) r k (stepsP (words s) r k vr)=mixP (stepsP (words s) r k vr) qa qb qc qd ((words s).getD (sigma r (2*k)) 0) ((words s).getD (sigma r (2*k+1)) 0):=by rw [stepP,hq]
          rw [hq] at hqo ⊢
          rw [show quadV (qa,qb,qc,qd)= .agg #[.int .i64 qa,.int .i64 qb,.int .i64 qc,.int .i64 qd] from rfl]
          have Hap:=Qh (show Apart 16 qa qb qc qd from ⟨hqo.1,hqo.2.1,hqo.2.2.1,hqo.2.2.2.1,hqo.2.2.2.2.1,hqo.2.2.2.2.2.1,hqo.2.2.2.2.2.2.1,hqo.2.2.2.2.2.2.2.1,hqo.2.2.2.2.2.2.2.2.1,hqo.2.2.2.2.2.2.2.2.2⟩)
          clear hq hqo
          have hs1:=Xcm r (2*k) hltr (by omega)
          have hs2:=Xcm r (2*k+1) hltr (by omega)
          obtain ⟨hd1,hd1a,hd1b⟩:=Hdig.out (2*k) (by omega)
          obtain ⟨hd2,hd2a,hd2b⟩:=Hdig.out (2*k+1) (by omega)
          have hx1:=run_at Tryz.underlying9 P (2*(k:Int)) (2*k) (by omega) (by omega)
          have hx2:=run_at Tryz.underlying9 P (2*(k:Int)+1) (2*k+1) (by omega) (by omega)
          generalize (P.getD (2*k) 0).toNat=e1 at hd1 hd1a hd1b hx1
          generalize (P.getD (2*k+1) 0).toNat=e2 at hd2 hd2a hd2b hx2
          generalize sigma r (2*k)=sx at hs1 hst hd1
          generalize sigma r (2*k+1)=sy at hs2 hst hd2
          have Hg1:=Qh (show ∀W,Calls Tryz.prog 214 #[.int .u8 (e1:Int)] W fun e w'=>e= .returned (.int .i64 (sx:Int))∧Below W.heap.size W w' from fun W=>by rw [←hd1];exact Xc7 e1 hd1a hd1b W)
          have Hg2:=Qh (show ∀W,Calls Tryz.prog 214 #[.int .u8 (e2:Int)] W fun e w'=>e= .returned (.int .i64 (sy:Int))∧Below W.heap.size W w' from fun W=>by rw [←hd2];exact Xc7 e2 hd2a hd2b W)
          clear hd1 hd1a hd1b hd2 hd2a hd2b
          have hlk:(stepsP (words s) r k vr).length=16:=by rw [Xbn,hlr]
          generalize hvk:stepsP (words s) r k vr=vk at hst hlk Hm5
          have Hvk:=Qh hvk
          clear hvk
          have m0:=(cell_of_row w5 _ sx _ _ _ Hm5.out.b2).trans (Xa7 (l:=words s) (by simpa [words] using hs1))
          have m1:=(cell_of_row w5 _ sy _ _ _ Hm5.out.b2).trans (Xa7 (l:=words s) (by simpa [words] using hs2))
          generalize (words s).getD sx 0=mx at m0 hst
          generalize (words s).getD sy 0=my at m1 hst
          have Hst:=Qh hst
          clear hst
          go_wp2_with fail
          have Hm6:=Qh (Hm5.out.alloc (.cells #[.int .i64 qa,.int .i64 qb,.int .i64 qc,.int .i64 qd] 253))
          have m0:=cell_regrown (Xab (.cells #[.int .i64 qa,.int .i64 qb,.int .i64 qc,.int .i64 qd] 253) m0)
          have m1:=cell_regrown (Xab (.cells #[.int .i64 qa,.int .i64 qb,.int .i64 qc,.int .i64 qd] 253) m1)
          have k0:=cell_regrown (show (w5.alloc (.cells #[.int .i64 qa,.int .i64 qb,.int .i64 qc,.int .i64 qd] 253)).cell? ⟨w5.heap.size,0,none⟩=some (.int .i64 qa) by simp)
          have k1:=cell_regrown (show (w5.alloc (.cells #[.int .i64 qa,.int .i64 qb,.int .i64 qc,.int .i64 qd] 253)).cell? ⟨w5.heap.size,1,none⟩=some (.int .i64 qb) by simp)
          have k2:=cell_regrown (show (w5.alloc (.cells #[.int .i64 qa,.int .i64 qb,.int .i64 qc,.int .i64 qd] 253)).cell? ⟨w5.heap.size,2,none⟩=some (.int .i64 qc) by simp)
          have k3:=cell_regrown (show (w5.alloc (.cells #[.int .i64 qa,.int .i64 qb,.int .i64 qc,.int .i64 qd] 253)).cell? ⟨w5.heap.size,3,none⟩=some (.int .i64 qd) by simp)
          have hi16:(Tryz.prog.info? 249).map (·.size)=some (row vk).size:=by rw [row_size,hlk];kernel_rfl
          have n1:(sx:Int)<16:=by omega
          have n2:(sy:Int)<16:=by omega
          refine Xac 24 (by kernel_rfl) (by kernel_rfl) ?_
          simp only [List.take_succ_cons,List.take_zero,List.drop_succ_cons,List.drop_zero]
          refine wpQuiet_load_row rfl 249 _ rfl (BI+1) rfl 249 (row vk) (0,0) _ (Xer Hm6.out.bv) Tryz.underlying249 rfl hi16 ?_
          simp only [Act.put,List.setIfInBounds_toArray,List.set_cons_succ,List.set_cons_zero]
          repeat (go_big_quiet_step (with_reducible first|exact Calls.regrown_of (Hg1.out _)|exact Calls.regrown_of (Hg2.out _)))
          refine wpQuiet_nil ?_
          intro w6 hwq
          have hb6:Below (w5.alloc (.cells #[.int .i64 qa,.int .i64 qb,.int .i64 qc,.int .i64 qd] 253)).heap.size (w5.alloc (.cells #[.int .i64 qa,.int .i64 qb,.int .i64 qc,.int .i64 qd] 253)) w6:=by
           obtain ⟨pq,rfl⟩:=hwq
           exact below_regrown _ _ _
          clear hwq
          have Hm7:=Qh (Hm6.out.pass hb6)
          clear Hm6 hb6 m0 m1 k0 k1 k2 k3 hx1 hx2
          go_wp2_with fail
          refine (Xke vk hlk qa qb qc qd mx my _ Hap.out).mono ?_
          rintro e w8 ⟨rfl,hb8⟩
          have Hm8:=Qh (Hm7.out.pass hb8)
          clear Hm7 hb8
          have hlm:(mixP vk qa qb qc qd mx my).length=16:=by rw [Xee,hlk]
          generalize hF:mixP vk qa qb qc qd mx my=F at hlm ⊢
          have HF:=Qh hF
          have hbv:=Hm8.out.bv
          have hiF:(Tryz.prog.info? 249).map (·.size)=some (row F).size:=by rw [row_size,hlm];kernel_rfl
          have hzF:(row vk).size=(row F).size:=by rw [row_size,row_size,hlk,hlm]
          have hoF:(row F).all (·.oneCell')=true:=by simp [row,Value.oneCell']
          clear hF hlm
          go_wp2_with (refine wpList_store_row rfl 249 _ _ rfl (BI+1) (row F) rfl rfl 249 (row vk) hbv hiF hzF hoF ?_)
          go_roundw
          case rel=>exact ⟨k+1,by omega,by go_num,by rw [stepsP,Hvk.out,Hst.out,HF.out];exact Hm8.out.rowv⟩
          case measure=>simp [intOf];omega
         ·have hke:k=8:=by omega
          subst hke
          have Hmk:=Qh hmk
          clear hmk
          go_wp2_with fail
          go_roundw
          case rel=>
           have hrel':∃r':Nat,r'≤10∧Value.int .i64 ((r:Int)+1)= .int .i64 r'∧Rm w BI (BI+1) [h0,h1,h2,h3,h4,h5,h6,h7] (words s) (roundsP (words s) r' v0) wr:=⟨r+1,by omega,by go_num,by rw [roundsP,Hvr.out];exact Hmk.out⟩
           first|exact hrel'|((repeat apply Exists.intro);exact ⟨hrel',rfl⟩)
          case measure=>simp [intOf];omega
       ·have hre:r=10:=by omega
        obtain ⟨v,hv⟩:∃v,roundsP (words s) r v0=v:=⟨_,rfl⟩
        have Hv:=Qh hv
        have hlv2:v.length=16:=by rw [←hv,Xa4,hlv]
        rw [hv] at hmr
        clear hv
        have Hmr:=Qh hmr
        clear hmr
        go_wp2_with fail
        go_loopw [19] (fun s19 wr=> ∃k:Nat,k≤8∧s19= .int .i64 k∧Rm w BI (BI+1) (finTo [h0,h1,h2,h3,h4,h5,h6,h7] v k) (words s) v wr) (fun i _=>8-(intOf i).toNat)
        case atStart=>exact ⟨0,Nat.zero_le _,rfl,Hmr.out⟩
        case round=>
         clear Hmr
         obtain ⟨k,hk,rfl,hmk⟩:=hrel
         by_cases hltk:k<8
         ·have hfl:=Xbf [h0,h1,h2,h3,h4,h5,h6,h7] v k
          have a0:=(cell_of_row wr _ k _ _ _ hmk.b0).trans (Xa7 (by rw [hfl];exact hltk))
          have a1:=(cell_of_row wr _ k _ _ _ hmk.bv).trans (Xa7 (l:=v) (by omega))
          have a2:=(cell_of_row wr _ (k+8) _ _ _ hmk.bv).trans (Xa7 (l:=v) (by omega))
          rw [Xf7 _ _ _ hltk] at a0
          have hsc:=Xd0 [h0,h1,h2,h3,h4,h5,h6,h7] v k
          generalize List.getD [h0,h1,h2,h3,h4,h5,h6,h7] k 0=x0 at a0 hsc
          generalize v.getD k 0=x1 at a1 hsc
          generalize v.getD (k+8) 0=x2 at a2 hsc
          have Hsc:=Qh hsc
          have Hmk:=Qh hmk
          clear hmk hfl hsc
          go_wp2_with fail
          have g0:=cell_regrown a0
          have g1:=cell_regrown a1
          have g2:=cell_regrown a2
          refine Xac 14 (by kernel_rfl) (by kernel_rfl) ?_
          simp only [List.take_succ_cons,List.take_zero,List.drop_succ_cons,List.drop_zero]
          repeat (go_big_quiet_step ((fail)))
          refine wpQuiet_nil ?_
          intro w9 hwq
          have hb9:Below (wr).heap.size (wr) w9:=by
           obtain ⟨pq,rfl⟩:=hwq
           exact below_regrown _ _ _
          clear hwq
          have hm9:=Hmk.out.pass hb9
          have a9:=hb9.cell (p:=⟨w.heap.size,k,none⟩) (block_lt_of_cell a0)
          rw [a0] at a9
          have f9:=frozen_of_row w9 _ k _ _ hm9.b0
          have Hm9:=Qh hm9
          clear hm9 hb9 g0 g1 g2 a0 a1 a2
          go_wp2
          go_roundw
          case rel=>exact ⟨k+1,by omega,by go_num,by rw [←Hsc.out,←Xge];exact Hm9.out.set0 k _⟩
          case measure=>simp [intOf];omega
         ·have hfl:=Xbf [h0,h1,h2,h3,h4,h5,h6,h7] v k
          have hfin:finTo [h0,h1,h2,h3,h4,h5,h6,h7] v k=compressP [h0,h1,h2,h3,h4,h5,h6,h7] s count false:=by
           rw [compressP,Hv0.out,←hre,Hv.out,show k=8 by omega]
          generalize finTo [h0,h1,h2,h3,h4,h5,h6,h7] v k=F at hmk hfl hfin
          have Hfin:=Qh hfin
          have hi8:(Tryz.prog.info? 192).map (·.size)=some (row F).size:=by rw [row_size,hfl];kernel_rfl
          have hz8:(row (List.replicate 8 0)).size=(row F).size:=by rw [row_size,row_size,hfl];rfl
          have ho8:(row F).all (·.oneCell')=true:=by simp [row,Value.oneCell']
          have b0:=hmk.b0
          have b1:=hmk.b1
          have Hmk:=Qh hmk
          clear hmk hfin hre
          go_wp2_with (first
           |(refine wpList_load_row rfl 192 _ rfl w.heap.size rfl 192 (row F) (0,0) _ b0 Tryz.underlying192 rfl hi8 ?_)
           |(refine wpList_store_row rfl 192 _ _ rfl (w.heap.size+1) (row F) rfl rfl 192 (row (List.replicate 8 0)) b1 hi8 hz8 ho8 ?_))
          try simp only [Exit.inBlock,Exit.then]
          refine bodyPost_ret (v:= .tuple #[.agg (row F),.int .i64 0]) ?_ rfl ⟨?_,?_⟩
          ·rw [results_cell_tmp rfl]
           simp [asAddr,run_loadVar_row _ (w.heap.size+1) 192 192 (row F) (0,0) _ (setRow_heap _ _ _ _ _ _ b1) Tryz.underlying192 rfl hi8]
          ·rw [Hfin.out]
          ·exact below_setRow Hmk.out.below (by omega) _
end Go.Proofs.YtkipnpjagcfcpaaGreatDoor
