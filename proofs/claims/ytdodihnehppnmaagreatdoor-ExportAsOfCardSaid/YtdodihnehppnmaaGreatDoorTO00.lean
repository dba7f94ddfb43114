/-
  Walks and laws that the claim's theorem uses: texts Base Own Tail Ret Ord AtP Pth Tre Ent Ptl PaA PaB PaC PaD EnA Dat PlT RhP Trl DgP BmA, joined; comments out. Conditions: as each theorem says.
-/
import Derived.WalkKit
import Derived.WalkSpells
import Derived.WalkLawsBesides
import Derived.Lib.Hide
import Derived.Lib.QuietBelow
import Derived.Deep.QuietTactic
import Derived.BigQuiet
import Derived.Laws.StructEq
import Derived.StillTail
import Derived.Lib.SplitLaws
import Derived.Lib.Join
import Derived.Laws.RangeAny
import Derived.Shelf.GgClosure.StringsIndexFunc
import Derived.Test.YtdodihnehppnmaaGreatDoorRows
import Derived.Lib.AtoiAll
import Derived.Lib.ItoaNum
import Derived.BigRegion
import Derived.Test.YtdodihnehppnmaaGreatDoorProg
import Derived.OpenShut
import Derived.DataShut
set_option linter.all false
namespace Go.Proofs.YtdodihnehppnmaaGreatDoor
open Go.RowKit
theorem Qh {p:Prop} (h:p):Hid p:=h
theorem Qn (n:Nat):n≤n:=Nat.le_refl n
theorem Qb (n:Nat) (w:World):Below n w w:=Below.refl n w
theorem Qt {p:Prop} [Decidable p] (h:p):decide p=true:=decide_eq_true h
theorem Qf {p:Prop} [Decidable p] (h:¬p):decide p=false:=decide_eq_false h
abbrev Bytes:=List UInt8
abbrev S (l:Bytes):Value:= .string ⟨l.toArray⟩
abbrev IH:=Nat→Option (Array Value)
def Ok (I:IH) (w:World):Prop:= ∀b c,I b=some c→ ∃e f,w.heap[b]? =some (.cells c e f)
def Ext (n:Nat) (I I':IH):Prop:= ∀b,b<n→I' b=I b
def IH.add (I:IH) (b:Nat) (c:Array Value):IH:=fun k=>if k=b then some c else I k
section
variable {I I' I'':IH} {w w':World} {b n m:Nat} {c:Array Value}
theorem Ok.lt (h:Ok I w) (hb:I b=some c):b<w.heap.size:=by
 obtain ⟨e,f,hh⟩:=h b c hb
 exact (Array.getElem?_eq_some_iff.1 hh).1
theorem Ok.fresh (h:Ok I w) (hb:w.heap.size≤b):I b=none:=by
 cases hc:I b with
 |none=>rfl
 |some c=>have:=h.lt hc;omega
theorem Ok.cell (h:Ok I w) (hb:I b=some c) (j:Nat):w.cell? ⟨b,j,none⟩=c[j]? :=by
 obtain ⟨e,f,hh⟩:=h b c hb
 simp [World.cell?,hh]
theorem Ok.of_block (h:Ok I w) (k:∀b c,I b=some c→w'.heap[b]? =w.heap[b]?):Ok I w':=fun b c hb=>by
 rw [k b c hb];exact h b c hb
theorem Ok.below {B:Nat} (h:Ok I w) (hB:w.heap.size≤B) (hb:Below B w w'):Ok I w':=
 h.of_block fun b _ hc=>hb.block b (Nat.lt_of_lt_of_le (h.lt hc) hB)
theorem Ok.drew (h:Ok I w):Ok I w.drew:=h
theorem Ok.alloc (h:Ok I w) (o:Obj):Ok I (w.alloc o):=h.of_block fun b _ hc=>Below.heap_alloc w o b (h.lt hc)
theorem Ok.setCell (h:Ok I w) {a:Addr} (ha:I a.block=none) (u:Value):Ok I (w.setCell a u):=h.of_block fun b _ hc=>
 Below.heap_setCell w a u b (fun e=>by subst e;rw [ha] at hc;cases hc)
theorem Ok.grown (h:Ok I w) {row:Option Nat} (hg:w.grownBy w' row) (hr:∀g,row=some g→I g=none):Ok I w':=h.of_block fun b _ hc=>
 hg.block b (h.lt hc) (fun e=>by have:=hr b e.symm;rw [this] at hc;cases hc)
theorem Ok.add {e:TypeId} {f:Nat × Nat} (h:Ok I w) (hb:w.heap[b]? =some (.cells c e f)):Ok (I.add b c) w:=fun k d hk=>by
 unfold IH.add at hk
 split at hk
 ·rename_i e';subst e';cases hk;exact ⟨e,f,hb⟩
 ·exact h k d hk
theorem Ext.refl (n:Nat) (I:IH):Ext n I I:=fun _ _=>rfl
theorem Ext.trans (h:Ext n I I') (k:Ext m I' I'') (hm:n≤m):Ext n I I'':=fun b hb=>(k b (by omega)).trans (h b hb)
theorem Ext.mono (h:Ext n I I') (hm:m≤n):Ext m I I':=fun b hb=>h b (by omega)
theorem Ext.add (hb:n≤b) (I:IH) (c:Array Value):Ext n I (I.add b c):=fun k hk=>by
 unfold IH.add;rw [if_neg (by omega)]
theorem Ext.keep (h:Ext n I I') (hok:Ok I w) (hn:w.heap.size≤n):∀b c,I b=some c→I' b=some c:=fun b c hc=>by
 rw [h b (Nat.lt_of_lt_of_le (hok.lt hc) hn)];exact hc
end
structure Ty (α:Type) where
 size:Nat
 rd:IH→List Value→α→Prop
 len:∀ {I cs x},rd I cs x→cs.length=size
 one:∀ {I cs x},rd I cs x→ ∀u∈cs,u.oneCell'=true
 mono:∀ {I I':IH} {cs x},(∀b c,I b=some c→I' b=some c)→rd I cs x→rd I' cs x
def Ty.flat {α:Type} (size:Nat) (enc:α→List Value) (hl:∀x,(enc x).length=size) (h1:∀x,∀u∈enc x,u.oneCell'=true):Ty α where
 size:=size
 rd:=fun _ cs x=>cs=enc x
 len:=fun h=>by rw [h];exact hl _
 one:=fun h=>by rw [h];exact h1 _
 mono:=fun _ h=>h
def tInt (k:IntKind):Ty Int:=Ty.flat 1 (fun n=> [.int k n]) (fun _=>rfl) (fun _ u h=>by simp at h;subst h;rfl)
def tStr:Ty Bytes:=Ty.flat 1 (fun s=> [S s]) (fun _=>rfl) (fun _ u h=>by simp at h;subst h;rfl)
def Lies {α:Type} (T:Ty α) (I:IH) (arr:Array Value) (off:Nat) (l:List α):Prop:=
 ∀i (h:i<l.length),∃cs,T.rd I cs l[i]∧ ∀j u,cs[j]? =some u→arr[off+(i*T.size+j)]? =some u
def RdS {α:Type} (T:Ty α) (I:IH) (v:Value) (l:List α):Prop:=
 ∃(ao:Option Addr) (cap:Nat),v= .slice ao l.length cap∧l.length≤cap∧cap≤maxLen∧
  (0<l.length→ ∃b off arr,ao=some ⟨b,off,none⟩∧I b=some arr∧Lies T I arr off l)
section
variable {α:Type} {T:Ty α} {I I':IH} {w:World} {v:Value} {l:List α}
theorem Lies.mono {arr:Array Value} {off:Nat} (hI:∀b c,I b=some c→I' b=some c) (h:Lies T I arr off l):Lies T I' arr off l:=fun i hi=>
 let ⟨cs,h1,h2⟩:=h i hi
 ⟨cs,T.mono hI h1,h2⟩
theorem RdS.mono (hI:∀b c,I b=some c→I' b=some c) (h:RdS T I v l):RdS T I' v l:=by
 obtain ⟨ao,cap,hv,h1,h2,h3⟩:=h
 refine ⟨ao,cap,hv,h1,h2,fun hl=> ?_⟩
 obtain ⟨b,off,arr,e1,e2,e3⟩:=h3 hl
 exact ⟨b,off,arr,e1,hI _ _ e2,e3.mono hI⟩
theorem RdS.nil (T:Ty α) (I:IH):RdS T I (.slice none 0 0) []:=⟨none,0,rfl,Qn _,Nat.zero_le _,fun h=>absurd h (by simp)⟩
theorem RdS.one {v:Value} (h:RdS T I v l):v.oneCell'=true:=by
 obtain ⟨ao,cap,rfl,_⟩:=h;rfl
def tSl (T:Ty α):Ty (List α) where
 size:=1
 rd:=fun I cs l=> ∃v,cs= [v]∧RdS T I v l
 len:=fun ⟨v,h,_⟩=>by rw [h];rfl
 one:=fun ⟨v,h,k⟩ u hu=>by rw [h] at hu;simp at hu;subst hu;exact k.one
 mono:=fun hI ⟨v,h,k⟩=>⟨v,h,k.mono hI⟩
theorem RdS.at_ (h:RdS T I v l) (hw:Ok I w) {i:Nat} (hi:i<l.length):∃b off cap cs,v= .slice (some ⟨b,off,none⟩) l.length cap∧T.rd I cs l[i]∧
 ∀j u,cs[j]? =some u→w.cell? ⟨b,off+i*T.size+j,none⟩=some u:=by
 obtain ⟨ao,cap,hv,h1,h2,h3⟩:=h
 obtain ⟨b,off,arr,rfl,e2,e3⟩:=h3 (by omega)
 obtain ⟨cs,k1,k2⟩:=e3 i hi
 exact ⟨b,off,cap,cs,hv,k1,fun j u hu=>by rw [hw.cell e2,Nat.add_assoc];exact k2 j u hu⟩
theorem RdS.len_le (h:RdS T I v l):l.length≤9223372036854775807:=by
 obtain ⟨ao,cap,hv,h1,h2,h3⟩:=h
 unfold maxLen at h2;omega
end
@[go_sem] theorem mk_append_mk (x y:Bytes):(ByteArray.mk x.toArray++ByteArray.mk y.toArray)=ByteArray.mk (x++y).toArray:=ByteArray.mk_append_mk x y
@[go_sem] theorem mk_extract (x:Bytes) (a b:Nat):(ByteArray.mk x.toArray).extract a b=ByteArray.mk ((x.drop a).take (b-a)).toArray:=by
  apply ByteArray.ext
  simp [ByteArray.data_extract]
theorem Xmz {a b:Bytes} (h:a=b):Ending.returned (S a)= .returned (S b):=by rw [h]
theorem Xac {k:IntKind} {a b:Int} (h:a=b):Ending.returned (.int k a)= .returned (.int k b):=by rw [h]
theorem Xan {a b:Bool} (h:a=b):Ending.returned (.bool a)= .returned (.bool b):=by rw [h]
@[go_sem] def eqL (d:Nat) (xs ys:Array Value):List (TypeId × Nat × Bool)→Sem Bool
  | []=>pure true
  |(t,o,b)::fs=>if b then eqL d xs ys fs else do
     let a ←part t xs o
     let b ←part t ys o
     let r ←Op.equalIn d t a b
     if (!r)=true then pure false else eqL d xs ys fs
theorem Xaa {W w':World} {a:Addr} {x:Value} (hb:Below W.heap.size W w') (h:W.cell? a=some x):w'.cell? a=some x:=(hb.cell (block_lt_of_cell h)).trans h
theorem Xab {W:World} {a:Addr} {x:Value} (o:Obj) (h:W.cell? a=some x):(W.alloc o).cell? a=some x:=(World.cell?_alloc_lt _ _ _ (block_lt_of_cell h)).trans h
theorem Xay {W w':World} {a:Addr} {x:Value} {row:Option Nat} (hg:W.grownBy w' row) (hne:row≠some a.block) (h:W.cell? a=some x):w'.cell? a=some x:=
 (World.cell?_of_block (hg.block _ (block_lt_of_cell h) (fun e=>hne e.symm))).trans h
def LiesL {α:Type} (T:Ty α) (I:IH) (xs:List Value) (l:List α):Prop:=
 xs.length=l.length*T.size∧ ∀i (h:i<l.length),∃cs,T.rd I cs l[i]∧ ∀j u,cs[j]? =some u→xs[i*T.size+j]? =some u
def OwnS {α:Type} (T:Ty α) (E:TypeId) (I:IH) (w:World) (B:Nat) (v:Value) (l:List α):Prop:=
 ∃xs,w.ownsRow B E T.size v l.length xs∧LiesL T I xs l
section
variable {α:Type} {T:Ty α} {I I':IH} {w w':World} {v:Value} {l:List α} {xs:List Value} {E:TypeId} {B:Nat}
theorem LiesL.mono (hI:∀b c,I b=some c→I' b=some c) (h:LiesL T I xs l):LiesL T I' xs l:=
 ⟨h.1,fun i hi=>let ⟨cs,h1,h2⟩:=h.2 i hi;⟨cs,T.mono hI h1,h2⟩⟩
theorem LiesL.nil (T:Ty α) (I:IH):LiesL T I [] []:=⟨by simp,fun i h=>absurd h (by simp)⟩
theorem LiesL.one {x:α} {cs:List Value} (h:T.rd I cs x):LiesL T I cs [x]:=by
 refine ⟨by simp [T.len h],fun i hi=>⟨cs,?_,fun j u hu=> ?_⟩⟩
 ·have:i=0:=by simp at hi;omega
  subst this;exact h
 ·have:i=0:=by simp at hi;omega
  subst this;simpa using hu
theorem LiesL.append {ys:List Value} {m:List α} (h:LiesL T I xs l) (k:LiesL T I ys m):LiesL T I (xs++ys) (l++m):=by
 refine ⟨by rw [List.length_append,List.length_append,h.1,k.1,Nat.add_mul],fun i hi=> ?_⟩
 by_cases hl:i<l.length
 ·obtain ⟨cs,h1,h2⟩:=h.2 i hl
  refine ⟨cs,by rw [List.getElem_append_left hl];exact h1,fun j u hu=> ?_⟩
  have hx:=h2 j u hu
  rw [List.getElem?_append_left (List.getElem?_eq_some_iff.1 hx).1];exact hx
 ·obtain ⟨cs,h1,h2⟩:=k.2 (i-l.length) (by simp at hi;omega)
  refine ⟨cs,by rw [List.getElem_append_right (by omega)];exact h1,fun j u hu=> ?_⟩
  have hx:=h2 j u hu
  have e:i*T.size+j=xs.length+((i-l.length)*T.size+j):=by
   rw [h.1,Nat.sub_mul]
   have:=Nat.mul_le_mul_right T.size (show l.length≤i by omega)
   omega
  rw [e,List.getElem?_append_right (by omega),Nat.add_sub_cancel_left];exact hx
theorem LiesL.take (h:LiesL T I xs l) (n:Nat):LiesL T I (xs.take (n*T.size)) (l.take n):=by
 refine ⟨by
  rw [List.length_take,List.length_take,h.1]
  rcases Nat.le_total n l.length with hn|hn
  ·rw [Nat.min_eq_left hn,Nat.min_eq_left (Nat.mul_le_mul_right _ hn)]
  ·rw [Nat.min_eq_right hn,Nat.min_eq_right (Nat.mul_le_mul_right _ hn)],fun i hi=> ?_⟩
 have hi':i<n∧i<l.length:=by simp at hi;omega
 obtain ⟨cs,h1,h2⟩:=h.2 i hi'.2
 refine ⟨cs,by rw [List.getElem_take];exact h1,fun j u hu=> ?_⟩
 have hj:j<T.size:=by rw [←T.len h1];exact (List.getElem?_eq_some_iff.1 hu).1
 have:=Nat.mul_le_mul_right T.size (show i+1≤n by omega)
 rw [Nat.add_mul] at this
 rw [List.getElem?_take_of_lt (by omega)]
 exact h2 j u hu
theorem LiesL.drop (h:LiesL T I xs l) (n:Nat):LiesL T I (xs.drop (n*T.size)) (l.drop n):=by
 refine ⟨by rw [List.length_drop,List.length_drop,h.1,Nat.sub_mul],fun i hi=> ?_⟩
 have hi':n+i<l.length:=by simp at hi;omega
 obtain ⟨cs,h1,h2⟩:=h.2 (n+i) hi'
 refine ⟨cs,by rw [List.getElem_drop];exact h1,fun j u hu=> ?_⟩
 rw [List.getElem?_drop,←Nat.add_assoc,←Nat.add_mul]
 exact h2 j u hu
theorem LiesL.oneCell (h:LiesL T I xs l):∀u∈xs,u.oneCell'=true:=by
 intro u hu
 obtain ⟨p,hp,rfl⟩:=List.getElem_of_mem hu
 have hs:0<T.size:=by
  rcases Nat.eq_zero_or_pos T.size with h0|h0
  ·have:=h.1;rw [h0,Nat.mul_zero] at this;omega
  ·exact h0
 have hi:p / T.size<l.length:=by rw [Nat.div_lt_iff_lt_mul hs,←h.1];exact hp
 obtain ⟨cs,h1,h2⟩:=h.2 _ hi
 have hj:p%T.size<cs.length:=by rw [T.len h1];exact Nat.mod_lt _ hs
 have hx:=h2 (p%T.size) _ (List.getElem?_eq_getElem hj)
 rw [show p / T.size*T.size+p%T.size=p by rw [Nat.mul_comm];exact Nat.div_add_mod p T.size,List.getElem?_eq_getElem hp] at hx
 rw [Option.some.inj hx]
 exact T.one h1 _ (List.getElem_mem hj)
theorem RdS.cells (h:RdS T I v l) (hw:Ok I w) (hs:0<T.size):∃(ao:Option Addr) (cap:Nat) (xs:List Value),v= .slice ao l.length cap∧l.length≤cap∧cap≤maxLen∧LiesL T I xs l∧
 (0<l.length→ ∃b off arr,ao=some ⟨b,off,none⟩∧I b=some arr∧b<w.heap.size∧ ∀j u,xs[j]? =some u→w.cell? ⟨b,off+j,none⟩=some u):=by
 obtain ⟨ao,cap,hv,h1,h2,h3⟩:=h
 rcases Nat.eq_zero_or_pos l.length with h0|h0
 ·have:l= []:=List.eq_nil_of_length_eq_zero h0
  subst this
  exact ⟨ao,cap,[],hv,h1,h2,LiesL.nil T I,fun h=>absurd h (by simp)⟩
 ·obtain ⟨b,off,arr,e1,e2,e3⟩:=h3 h0
  have hsz:off+l.length*T.size≤arr.size:=by
   obtain ⟨cs,k1,k2⟩:=e3 (l.length-1) (by omega)
   have hx:=k2 (T.size-1) _ (List.getElem?_eq_getElem (by rw [T.len k1];omega))
   have:=(Array.getElem?_eq_some_iff.1 hx).1
   have e:(l.length-1)*T.size+T.size=l.length*T.size:=by
    rw [←Nat.succ_mul,Nat.succ_eq_add_one,show l.length-1+1=l.length by omega]
   omega
  refine ⟨ao,cap,(arr.toList.drop off).take (l.length*T.size),hv,h1,h2,⟨by simp;omega,fun i hi=> ?_⟩,fun _=>⟨b,off,arr,e1,e2,hw.lt e2,fun j u hu=> ?_⟩⟩
  ·obtain ⟨cs,k1,k2⟩:=e3 i hi
   refine ⟨cs,k1,fun j u hu=> ?_⟩
   have hj:j<T.size:=by rw [←T.len k1];exact (List.getElem?_eq_some_iff.1 hu).1
   have:=Nat.mul_le_mul_right T.size (show i+1≤l.length by omega)
   rw [Nat.add_mul] at this
   rw [List.getElem?_take_of_lt (by omega),List.getElem?_drop,Array.getElem?_toList]
   exact k2 j u hu
  ·rw [hw.cell e2]
   rw [List.getElem?_take] at hu
   split at hu
   ·rw [List.getElem?_drop,Array.getElem?_toList] at hu;exact hu
   ·cases hu
theorem OwnS.kept {row:Option Nat} (h:OwnS T E I w B v l) (hg:w.grownBy w' row) (hne:v.ownBlock=none∨v.ownBlock≠row):OwnS T E I w' B v l:=
 let ⟨xs,h1,h2⟩:=h
 ⟨xs,h1.kept hg hne,h2⟩
theorem OwnS.below (h:OwnS T E I w B v l) (hb:Below w.heap.size w w'):OwnS T E I w' B v l:=
 h.kept (row:=none) ⟨hb.os,hb.tape,hb.output,hb.size,fun k hk _=>hb.block k hk⟩ (by cases v.ownBlock<;>simp)
theorem OwnS.alloc (h:OwnS T E I w B v l) (o:Obj):OwnS T E I (w.alloc o) B v l:=
 let ⟨xs,h1,h2⟩:=h
 ⟨xs,h1.alloc o,h2⟩
theorem OwnS.mono (hI:∀b c,I b=some c→I' b=some c) (h:OwnS T E I w B v l):OwnS T E I' w B v l:=
 let ⟨xs,h1,h2⟩:=h
 ⟨xs,h1,h2.mono hI⟩
theorem OwnS.lower {B':Nat} (h:OwnS T E I w B v l) (hB:B'≤B):OwnS T E I w B' v l:=by
 obtain ⟨xs,⟨h1,h1'⟩,h2⟩:=h
 refine ⟨xs,⟨h1,?_⟩,h2⟩
 rcases h1' with h0|⟨g,cap,cur,a,b,c⟩
 ·exact .inl h0
 ·exact .inr ⟨g,cap,cur,a,by omega,c⟩
theorem OwnS.nil (T:Ty α) (E:TypeId) (I:IH) (w:World) (B:Nat):OwnS T E I w B (.slice none 0 0) []:=⟨[],World.ownsRow_nil w B E T.size,LiesL.nil T I⟩
theorem OwnS.ne_ge (h:OwnS T E I w B v l) {b:Nat} (hb:w.heap.size≤b):v.ownBlock≠some b:=by
 obtain ⟨xs,h1,_⟩:=h
 intro e
 have:=(h1.lt b e).2
 omega
theorem OwnS.ne_lt (h:OwnS T E I w B v l) {b:Nat} (hb:b<B):v.ownBlock≠some b:=by
 obtain ⟨xs,h1,_⟩:=h
 intro e
 have:=(h1.lt b e).1
 omega
theorem OwnS.own_ge (h:OwnS T E I w B v l) {b:Nat} (e:v.ownBlock=some b):B≤b:=by
 obtain ⟨xs,h1,_⟩:=h
 exact (h1.lt b e).1
theorem OwnS.freeze (h:OwnS T E I w B v l) (hw:Ok I w) (hI:∀b,B≤b→I b=none):∃I',Ext B I I'∧Ok I' w∧RdS T I' v l∧ ∀b,v.ownBlock≠some b→I' b=I b:=by
 obtain ⟨xs,⟨h1,h1'⟩,h2⟩:=h
 rcases h1' with ⟨rfl,h0⟩|⟨g,cap,cur,rfl,hb,hg,hnc,hcm,hcs,ht⟩
 ·refine ⟨I,Ext.refl _ _,hw,?_,fun _ _=>rfl⟩
  have:l= []:=List.eq_nil_of_length_eq_zero h0
  subst this
  exact RdS.nil T I
 ·have hkeep:∀b c,I b=some c→(I.add g cur) b=some c:=fun b c hc=>by
   unfold IH.add
   by_cases e:b=g
   ·subst e;rw [hI _ hb] at hc;cases hc
   ·rw [if_neg e];exact hc
  refine ⟨I.add g cur,Ext.add hb I cur,hw.add hg,⟨_,cap,rfl,hnc,hcm,fun _=>⟨g,0,cur,rfl,by simp [IH.add],fun i hi=> ?_⟩⟩,fun b hbn=> ?_⟩
  ·obtain ⟨cs,k1,k2⟩:=h2.2 i hi
   refine ⟨cs,T.mono hkeep k1,fun j u hu=> ?_⟩
   have hx:=k2 j u hu
   rw [←ht,List.getElem?_take] at hx
   split at hx
   ·rw [Nat.zero_add,←Array.getElem?_toList];exact hx
   ·cases hx
  ·have:b≠g:=fun e=>hbn (by simp [Value.ownBlock,e])
   simp [IH.add,this]
def ElemOk (P:Program) (ts te:TypeId) (T:Ty α) (bytes:Nat):Prop:=
 ∃i z,P.underlying ts=some (.slice te)∧P.info? te=some i∧i.zero=some z∧i.size=T.size∧i.bytes=bytes∧z.cells.size=T.size∧0<T.size
theorem ElemOk.of {P:Program} {ts te:TypeId} {z:Value} {size bytes:Nat} (hu:P.underlying ts=some (.slice te)) (h:(P.info? te).map (fun i=>(i.zero,i.size,i.bytes))=some (some z,size,bytes)) (hz:z.cells.size=size) (hs:0<size) (hT:T.size=size):ElemOk P ts te T bytes:=by
 obtain ⟨i,h1,h2,h3,h4⟩:=info_parts h
 exact ⟨i,z,hu,h1,h2,by rw [h3,hT],h4,by rw [hz,hT],by rw [hT];exact hs⟩
theorem Xad {P:Program} {ts te:TypeId} {bytes:Nat} (hE:ElemOk P ts te T bytes) {w0:World} {ops:Array Oper} {rest:List Oper} {o:Oper} {a:Act} {Q:Exit→Act→World→Prop} (hgd:o.guard=none) (s x:Operand)
 (ho:o.op= .call { callee:= .builtin .append,args:= #[s,x],argTypes:= #[ts,ts] }) (B:Nat) (v:Value) (l:List α) (hs:a.eval s=v) (hown:OwnS T te I w0 B v l)
 (y:α) (cs:List Value) (tb:TypeId) (hx:a.eval x= .slice (some ⟨w0.heap.size,0,none⟩) 1 1) (hy:T.rd I cs y) (hbig:(l.length+1)*bytes≤140737488355328) (hl:l.length+1≤9223372036854775807) (hB:B≤w0.heap.size)
 (h:∀v' w',OwnS T te I w' B v' (l++ [y])→w0.grownBy w' v.ownBlock→wpList P ops Q rest (a.put o.dst v') w'):wpList P ops Q (o::rest) a (w0.alloc (.cells cs.toArray tb)):=by
 obtain ⟨i,z,h1,h2,h3,h4,h5,h6,h7⟩:=hE
 obtain ⟨xs,k1,k2⟩:=hown
 refine wpList_append_own (w0.alloc (.cells cs.toArray tb)) hgd s x ts ho B te i z T.size bytes h1 h2 h3 h4 h5 h6 h7 v l.length xs hs (k1.alloc _) ⟨w0.heap.size,0,none⟩ 1 1 cs hx (by rw [T.len hy,Nat.one_mul])
  (fun j u hu=>by rw [Addr.add_lit,Nat.zero_add,World.cell?_alloc_new];simpa using hu) (T.one hy) (by unfold maxLen;omega) hbig (by simp;omega) (fun v' w' r1 r2 _=>h v' w' ⟨xs++cs,by rw [List.length_append];exact r1,k2.append (LiesL.one hy)⟩ ?_)
 exact ⟨r2.os,r2.tape,r2.output,by have:=r2.size;simp at this;omega,fun k hk hne=>(r2.block k (by simp;omega) hne).trans (Below.heap_alloc _ _ _ hk)⟩
theorem Xio {P:Program} {ts te:TypeId} {bytes:Nat} (hE:ElemOk P ts te T bytes) {w0:World} {ops:Array Oper} {rest:List Oper} {o:Oper} {a:Act} {Q:Exit→Act→World→Prop} (hgd:o.guard=none) (s x:Operand)
 (ho:o.op= .call { callee:= .builtin .append,args:= #[s,x],argTypes:= #[ts,ts] }) (B:Nat) (v:Value) (l:List α) (hs:a.eval s=v) (hown:OwnS T te I w0 B v l)
 (ys:List α) (cs:List Value) (tb:TypeId) (hx:a.eval x= .slice (some ⟨w0.heap.size,0,none⟩) ys.length ys.length) (hy:LiesL T I cs ys) (_hp:0<ys.length) (hbig:(l.length+ys.length)*bytes≤140737488355328) (hl:l.length+ys.length≤9223372036854775807) (hB:B≤w0.heap.size)
 (h:∀v' w',OwnS T te I w' B v' (l++ys)→w0.grownBy w' v.ownBlock→wpList P ops Q rest (a.put o.dst v') w'):wpList P ops Q (o::rest) a (w0.alloc (.cells cs.toArray tb)):=by
 obtain ⟨i,z,h1,h2,h3,h4,h5,h6,h7⟩:=hE
 obtain ⟨xs,k1,k2⟩:=hown
 refine wpList_append_own (w0.alloc (.cells cs.toArray tb)) hgd s x ts ho B te i z T.size bytes h1 h2 h3 h4 h5 h6 h7 v l.length xs hs (k1.alloc _) ⟨w0.heap.size,0,none⟩ ys.length ys.length cs hx hy.1
  (fun j u hu=>by rw [Addr.add_lit,Nat.zero_add,World.cell?_alloc_new];simpa using hu) hy.oneCell (by unfold maxLen;omega) hbig (by simp;omega) (fun v' w' r1 r2 _=>h v' w' ⟨xs++cs,by rw [List.length_append];exact r1,k2.append hy⟩ ?_)
 exact ⟨r2.os,r2.tape,r2.output,by have:=r2.size;simp at this;omega,fun k hk hne=>(r2.block k (by simp;omega) hne).trans (Below.heap_alloc _ _ _ hk)⟩
end
theorem Below.own {α:Type} {T:Ty α} {E:TypeId} {I:IH} {w w0 w':World} {v:Value} {l:List α} {B0 B:Nat} (h:Below B0 w w0) (hg:w0.grownBy w' v.ownBlock) (hown:OwnS T E I w0 B v l) (hB:B0≤B) (hB':B≤w0.heap.size):Below B0 w w':=
 h.grown hg (by omega) (fun _ hk=>Nat.le_trans hB (hown.own_ge hk))
theorem Ok.own {α:Type} {T:Ty α} {E:TypeId} {I J:IH} {w0 w':World} {v:Value} {l:List α} {B:Nat} (h:Ok J w0) (hg:w0.grownBy w' v.ownBlock) (hown:OwnS T E I w0 B v l) (hJ:∀b,B≤b→J b=none):Ok J w':=
 h.grown hg (fun g hk=>hJ g (hown.own_ge hk))
end Go.Proofs.YtdodihnehppnmaaGreatDoor
namespace Go.Proofs.YtdodihnehppnmaaGreatDoor
open Go.RowKit Go.Sort
section
variable {P:Program} {ops:Array Oper} {md:Region.Mode} {C:World→Prop}
def headQ (P:Program) (md:Region.Mode) (ops:Array Oper) (C:World→Prop) (n:Nat) (Z:Array Bool→Prop) (K:Act→Prop):Nat→Array Bool→Act→Prop
 |0,s,a=>Z s∧K a
 |f+1,s,a=>(∃i,i∈Region.ready md ops s)∧ ∀i∈Region.ready md ops s,i<n∧qOp P ops C i (headQ P md ops C n Z K f (s.setIfInBounds i true)) a
theorem Xr0 {n g:Nat} {Z:Array Bool→Prop} {K:Act→Prop} {Q:Exit→Act→World→Prop} (hZ:∀s a w,Z s→C w→K a→wpAny P md ops Q g s a w):
 ∀(f:Nat) (s:Array Bool) (a:Act) (w:World),C w→headQ P md ops C n Z K f s a→wpAny P md ops Q (g+f) s a w:=by
 intro f
 induction f with
 |zero=>exact fun s a w hw h=>hZ s a w h.1 hw h.2
 |succ f ih=>
  rintro s a w hw ⟨⟨i0,h0⟩,h⟩
  refine ⟨fun e=> ?_,fun i hi=>wpOp_of_qOp hw (fun a' w' hw' hk=>ih _ _ _ hw' hk) (h i hi).2⟩
  rw [e] at h0;exact absurd h0 (by simp)
theorem Xne {s:Array Bool} {i:Nat} {oj:Oper} (hun:s.getD i true=false) (hall:∀e∈oj.after,Region.binds md e=true→s.getD e.on false=true):∀e∈oj.after,Region.binds md e=true→e.on≠i:=by
 intro e he hb heq
 have h:=hall e he hb
 rw [heq,getD_both hun] at h
 exact absurd h (by simp)
theorem Xnn {n i:Nat} {oi:Oper} {v:Value} {Z:Array Bool→Prop} {K:Act→Prop} (hi:ops[i]? =some oi) (hsel:Region.noSelect ops=true) (hs:Region.sinkB md ops n=true) (hc:Region.chainB md ops n=true) (hn:n<ops.size) (hin:i<n)
 (hZ:∀s,Z s→ ∀j∈Region.ready md ops s,n≤j):∀(f:Nat) (s:Array Bool) (a:Act),HeadInv md ops n s→
   (∀j oj,ops[j]? =some oj→j≠i→s.getD j true=false→(∀e∈oj.after,Region.binds md e=true→e.on≠i)→oi.apart ops oj=true)→
   i∈Region.ready md ops s→YieldsIn P ops C oi v a→headQ P md ops C n Z K f (s.setIfInBounds i true) (a.put oi.dst v)→headQ P md ops C n Z K (f+1) s a:=by
 intro f
 induction f with
 |zero=>
  intro s a inv hfree hr hy H
  have hun:=(mem_ready.1 hr).1
  refine ⟨⟨i,hr⟩,fun j hj=> ?_⟩
  by_cases hji:j=i
  ·subst hji;exact ⟨hin,hy.qOp hi H⟩
  ·have h1:=hZ _ H.1 j (ready_mono hj hji)
   exact absurd hj (tail_waits hs hc hn inv _ i rfl hin hun j h1)
 |succ f ih=>
  intro s a inv hfree hr hy H
  have hun:=(mem_ready.1 hr).1
  refine ⟨⟨i,hr⟩,fun j hj=> ?_⟩
  have hjn:j<n:=Nat.lt_of_not_le fun h=>tail_waits hs hc hn inv _ i rfl hin hun j h hj
  refine ⟨hjn,?_⟩
  by_cases hji:j=i
  ·subst hji;exact hy.qOp hi H
  obtain ⟨hjun,oj,hoj,hall⟩:=mem_ready.1 hj
  have h2:=qOp_put hoj (hfree j oj hoj hji hjun (Xne hun hall)) (fun cs b=>Region.noSelect_spec hsel i oi cs b hi) (fun cs b=>Region.noSelect_spec hsel j oj cs b hoj) hy (H.2 j (ready_mono hj hji)).2
  refine qOp_mono (fun a' h3=>ih _ a' (inv.set hj hjn) (fun k ok hk hki hku=>hfree k ok hk hki ?_) (ready_mono hr (Ne.symm hji)) h3.1 ?_) h2
  ·by_cases e:j=k
   ·subst e;exact hjun
   ·rwa [getD_set_ne true e] at hku
  ·rw [Array.setIfInBounds_comm _ _ hji];exact h3.2
theorem Xr1 {n g:Nat} {K:Act→Prop} (hsel:Region.noSelect ops=true) (hs:Region.sinkB md ops n=true) (hc:Region.chainB md ops n=true) (hn:n<ops.size):
 ∀(l:List Oper) (k:Nat) (s:Array Bool) (a:Act),(∀j,j<l.length→l[j]? =ops[k+j]?)→k+l.length=n→HeadInv md ops n s→Region.lexHead md ops g l.length k s=true→
 wpQuiet P ops C K l a→headQ P md ops C n (fun s=>Region.seqB md ops g n s=true) K l.length s a:=by
 intro l
 induction l with
 |nil=>
  intro k s a _ hk _ hB h
  simp only [List.length_nil,Nat.add_zero] at hk
  subst hk
  exact ⟨hB,h⟩
 |cons o l ih=>
  intro k s a hl hk inv hB h
  have h0:ops[k]? =some o:=by simpa using (hl 0 (by simp)).symm
  simp only [List.length_cons] at hk
  simp only [List.length_cons,Region.lexHead,Bool.and_eq_true] at hB
  have hr:k∈Region.ready md ops s:=by simpa using hB.1.1
  have hq:qOp P ops C k (wpQuiet P ops C K l) a:=by unfold qOp;rw [h0];exact h
  obtain ⟨v,hy,hK⟩:=yieldsIn_of_qOp h0 hq
  refine Xnn h0 hsel hs hc hn (by omega) (fun s hz=>seqB_ready hz) l.length s a inv (Region.free_spec h0 hB.1.2) hr hy ?_
  refine ih (k+1) _ _ (fun j hj=> ?_) (by omega) (inv.set hr (by omega)) hB.2 hK
  have:=hl (j+1) (by simp;omega)
  rw [List.getElem?_cons_succ] at this
  rw [this,Nat.add_assoc,Nat.add_comm 1 j]
theorem Xeo {id:Nat} {Q:Exit→Act→World→Prop} {a:Act} {w:World} {l:List Oper} (n:Nat) (hm:P.follows .mixedOrders=true) (hB:Region.lexTailB .any l.toArray n=true) (hC:C { w with drawn:=w.drawn+1 })
 (h:wpQuiet P l.toArray C (fun a'=> ∀w',C w'→wpList P l.toArray Q (l.drop n) a' w') (l.take n) a):(Code.region id l.toArray true).wp P Q a w:=by
 simp only [Region.lexTailB,Bool.and_eq_true,decide_eq_true_eq] at hB
 obtain ⟨⟨⟨⟨hsel,hn⟩,hs⟩,hc⟩,hlex⟩:=hB
 have hn':n<l.length:=by simpa using hn
 have htl:(l.take n).length=n:=by simp;omega
 have hdl:(l.drop n).length=l.toArray.size-n:=by simp
 have inv0:HeadInv .any l.toArray n (Array.replicate l.toArray.size false):=by
  refine ⟨by simp,fun j oj _ hl=> ?_,fun t _ ht=>getD_in (by simpa using ht) (getD_replicate_false _ _)⟩
  rw [getD_replicate_false] at hl;exact absurd hl (by simp)
 have H:=Xr1 (P:=P) (C:=C) (md:= .any) (g:=l.toArray.size-n) hsel hs hc hn (l.take n) 0 _ a (fun j hj=>by
  rw [htl] at hj
  simp [hj]) (by omega) inv0 (by rw [htl];exact hlex) h
 have R:=Xr0 (Q:=Q) (g:=l.toArray.size-n) (fun s a' w' hz hw hk=>by
  have:=wpAny_of_seq (md:= .any) (Q':=Q) (l.drop n) n s a' w' (fun j=>by simp [List.getElem?_drop]) (by rw [hdl];exact hz) (hk w' hw)
  rwa [hdl] at this) _ _ _ _ hC H
 rw [htl,show l.toArray.size-n+n=l.toArray.size by omega] at R
 exact wp_region_any hm R
theorem Xae {id:Nat} {Q:Exit→Act→World→Prop} {a:Act} {w:World} {l:List Oper} (n:Nat) (hm:P.follows .mixedOrders=true) (hB:Region.lexTailB .any l.toArray n=true)
 (h:wpQuiet P l.toArray (fun w'=> ∃p:Regrown,w'=grow (redrawn w p.d) p.os) (fun a'=> ∀w',(∃p:Regrown,w'=grow (redrawn w p.d) p.os)→wpList P l.toArray Q (l.drop n) a' w') (l.take n) a):(Code.region id l.toArray true).wp P Q a w:=
 Xeo (C:=fun w'=> ∃p:Regrown,w'=grow (redrawn w p.d) p.os) n hm hB ⟨⟨w.drawn+1,#[]⟩,by rw [grow_empty];rfl⟩ h
theorem wpQuiet_load_row {Q:Act→Prop} {a:Act} {o:Oper} {rest:List Oper} (hgd:o.guard=none) (ty:TypeId) (x:Operand) (ho:o.op= .load ty x) (g:Nat) (hx:a.eval x= .pointer (some ⟨g,0,none⟩)) (t:TypeId) (cs:Array Value) (fr:Nat × Nat) (d:TypeDesc)
 (hg:∀w,C w→w.heap[g]? =some (.cells cs t fr)) (hu:P.underlying ty=some d) (hd:(match d with| .struct _| .array _ _=>true|_=>false)=true) (hi:(P.info? ty).map (·.size)=some cs.size) (h:wpQuiet P ops C Q rest (a.put o.dst (.agg cs))):wpQuiet P ops C Q (o::rest) a:=
 wpQuiet_step fun K hK=>by
  rw [if_pos (by simp [Region.wanted,hgd])]
  refine ⟨.agg cs,fun w hw=> ?_,hK _ h⟩
  unfold Oper.quietAt execOp
  simp only [ho,hx,Instr.loadAt,Instr.sureAddr,Sem.run_bind,Sem.run_pure,Result.andThen_ok,run_loadVar_row w g t ty cs fr d (hg w hw) hu hd hi]
  exact ⟨rfl,rfl⟩
theorem Xe5 {w:World} {b:Nat} {o:Obj} (h:w.heap[b]? =some o) (w':World) (hw:∃p:Regrown,w'=grow (redrawn w p.d) p.os):w'.heap[b]? =some o:=by
 obtain ⟨p,rfl⟩:=hw
 exact ((below_regrown w p.d p.os).block _ (Array.getElem?_eq_some_iff.1 h).1).trans h
end
end Go.Proofs.YtdodihnehppnmaaGreatDoor
namespace Go.Proofs.YtdodihnehppnmaaGreatDoor
open Go.RowKit
def RetS {α:Type} (T:Ty α) (I:IH) (w:World) (l:List α) (e:Ending) (w':World):Prop:=
 ∃v' I',e= .returned v'∧Below w.heap.size w w'∧Ext w.heap.size I I'∧Ok I' w'∧RdS T I' v' l
def RetL {α:Type} (T:Ty α) (I:IH) (w:World) (l:List α) (n:Int) (e:Ending) (w':World):Prop:=
 ∃v' I',e= .returned (.tuple #[v',.int .i64 n])∧Below w.heap.size w w'∧Ext w.heap.size I I'∧Ok I' w'∧RdS T I' v' l
end Go.Proofs.YtdodihnehppnmaaGreatDoor
namespace Go.Proofs.YtdodihnehppnmaaGreatDoor
theorem Xbb:∀a:Bytes,Op.bytesLess a a=false
 | []=>rfl
 |x::a=>by rw [Op.bytesLess,Xbb a];simp
theorem Xkg:∀ {a b c:Bytes},Op.bytesLess a b=true→Op.bytesLess b c=true→Op.bytesLess a c=true
 |_,[],_,h,_=>by simp [Op.bytesLess] at h
 |_,_::_,[],_,h=>by simp [Op.bytesLess] at h
 | [],_::_,_::_,_,_=>rfl
 |x::a,y::b,z::c,h,k=>by
  simp only [Op.bytesLess,Bool.or_eq_true,Bool.and_eq_true,decide_eq_true_eq,beq_iff_eq] at h k ⊢
  rcases h with h|⟨rfl,h⟩<;>rcases k with k|⟨rfl,k⟩
  ·exact .inl (UInt8.lt_trans h k)
  ·exact .inl h
  ·exact .inl k
  ·exact .inr ⟨rfl,Xkg h k⟩
theorem Xel:∀(a b:Bytes),Op.bytesLess a b=true∨a=b∨Op.bytesLess b a=true
 | [],[]=> .inr (.inl rfl)
 | [],_::_=> .inl rfl
 |_::_,[]=> .inr (.inr rfl)
 |x::a,y::b=>by
  simp only [Op.bytesLess,Bool.or_eq_true,Bool.and_eq_true,decide_eq_true_eq,beq_iff_eq,List.cons.injEq]
  by_cases h:x=y
  ·subst h
   rcases Xel a b with h|h|h
   ·exact .inl (.inr ⟨rfl,h⟩)
   ·exact .inr (.inl ⟨rfl,h⟩)
   ·exact .inr (.inr (.inr ⟨rfl,h⟩))
  ·rcases UInt8.lt_or_lt_of_ne h with h|h
   ·exact .inl (.inl h)
   ·exact .inr (.inr (.inl h))
theorem Xem {a b:Bytes} (h:Op.bytesLess a b=true):Op.bytesLess b a=false:=by
 cases k:Op.bytesLess b a
 ·rfl
 ·have:=Xkg h k;rw [Xbb] at this;exact absurd this (by simp)
theorem Xqk {a b:Bytes} (h:Op.bytesLess a b=true):a≠b:=by
 rintro rfl;rw [Xbb] at h;exact absurd h (by simp)
section
variable {α:Type} {key:α→Bytes}
def Srt (key:α→Bytes) (l:List α):Prop:=l.Pairwise fun a b=>Op.bytesLess (key a) (key b)=true
end
end Go.Proofs.YtdodihnehppnmaaGreatDoor
namespace Go.Proofs.YtdodihnehppnmaaGreatDoor
structure At where
 k:Bytes
 v:Bytes
deriving DecidableEq
def keyChar (c:UInt8):Bool:=decide (97≤c)&&decide (c≤122) || decide (48≤c)&&decide (c≤57) || c==46 || c==95 || c==45
def keyOk (s:Bytes):Bool:=decide (1≤s.length)&&decide (s.length≤32)&&s.all keyChar
def atErr (x:At):Int:=if keyOk x.k=false then 7 else if 64<x.v.length then 6 else 0
def chkFrom:Option At→List At→Int
 |_,[]=>0
 |p,x::l=>if atErr x≠0 then atErr x else if (p.any fun q=>q.k==x.k) then 8 else if (p.any fun q=>Op.bytesLess x.k q.k) then 14 else chkFrom (some x) l
def chk (l:List At):Int:=if 16<l.length then 6 else chkFrom none l
def getA (l:List At) (k:Bytes):Bytes × Bool:=match l.find? (fun x=>x.k==k) with|some x=>(x.v,true)|none=>([],false)
def remA (l:List At) (k:Bytes):List At:=l.filter fun x=> !(x.k==k)
def putGo (x:At):Bool→List At→List At→List At
 |d,out,[]=>if d then out else out++ [x]
 |d,out,y::l=>putGo x (d || !(Op.bytesLess y.k x.k)) ((if !d&& !(Op.bytesLess y.k x.k) then out++ [x] else out)++(if y.k==x.k then [] else [y])) l
def putA (l:List At) (x:At):List At:=putGo x false [] l
def mrgA (a b:List At):List At:=b.foldl putA a
def setA (l:List At) (x:At):List At × Int:=if chk l≠0 then ([],chk l) else if atErr x≠0 then ([],atErr x) else if 16<(putA l x).length then ([],6) else (putA l x,0)
def mergeA (a b:List At):List At × Int:=if chk a≠0 then ([],chk a) else if chk b≠0 then ([],chk b) else if 16<(mrgA a b).length then ([],6) else (mrgA a b,0)
def GreatA (l:List At):Prop:=30<l.length∨ ∃x∈l,100<x.k.length∨100<x.v.length
structure Okl (l:List At):Prop where
 len:l.length≤16
 all:∀x∈l,atErr x=0
 srt:Srt At.k l
theorem Xla:∀ {A B:List Bytes},A.Nodup→(∀x∈A,x∈B)→A.length≤B.length
 | [],_,_,_=>Nat.zero_le _
 |x::A,B,hn,hs=>by
  obtain ⟨h1,h2⟩:=List.nodup_cons.1 hn
  have hx:=hs x (List.mem_cons_self ..)
  have h3:=Xla (B:=B.erase x) h2 fun y hy=>(List.mem_erase_of_ne (a:=y) (b:=x) (fun e=>h1 (by rw [←e];exact hy))).2 (hs y (List.mem_cons_of_mem _ hy))
  rw [List.length_erase_of_mem hx] at h3
  have:=List.length_pos_of_mem hx
  simp only [List.length_cons]
  omega
theorem len_le {A B:List At} (hA:Srt At.k A) (h:∀x∈A,∃y∈B,y.k=x.k):A.length≤B.length:=by
 have hn:(A.map At.k).Nodup:=List.pairwise_map.2 (hA.imp fun {a b} hab=>Xqk hab)
 have hs:∀k∈A.map At.k,k∈B.map At.k:=by
  intro k hk
  obtain ⟨x,hx,rfl⟩:=List.mem_map.1 hk
  obtain ⟨y,hy,e⟩:=h x hx
  rw [←e]
  exact List.mem_map_of_mem hy
 simpa using Xla hn hs
end Go.Proofs.YtdodihnehppnmaaGreatDoor
namespace Go.Proofs.YtdodihnehppnmaaGreatDoor
def elsGo:Bytes→Bytes→List Bytes
 |p,[]=> [p]
 |p,c::s=>if c==47 then p::elsGo [] s else elsGo (p++ [c]) s
def els (s:Bytes):List Bytes:=if s= [] then [] else elsGo [] s
def comp (s:Bytes):Bool:=decide (1≤s.length)&&decide (s.length≤32)&&s != [46]&&s != [46,46]&&s.all keyChar
def pathErr (s:Bytes):Int:=if 200<s.length then 6 else if 8<(els s).length then 6 else if (els s).all comp then 0 else 7
def joinP:List Bytes→Bytes
 | []=> []
 | [p]=>p
 |p::q::l=>p++47::joinP (q::l)
def under (p d:Bytes):Bool:=decide (pathErr p=0)&&decide (pathErr d=0)&&(els d).isPrefixOf (els p)
def ltP:List Bytes→List Bytes→Bool
 | [],[]=>false
 | [],_::_=>true
 |_::_,[]=>false
 |x::a,y::b=>Op.bytesLess x y || (x==y&&ltP a b)
theorem Xf0:∀a,ltP a a=false
 | []=>rfl
 |x::a=>by rw [ltP,Xbb,Xf0 a];simp
theorem Xcn:∀ {a b c},ltP a b=true→ltP b c=true→ltP a c=true
 | [],[],_,h,_=>absurd h (by simp [ltP])
 | [],_::_,[],_,h=>absurd h (by simp [ltP])
 | [],_::_,_::_,_,_=>rfl
 |_::_,[],_,h,_=>absurd h (by simp [ltP])
 |_::_,_::_,[],_,h=>absurd h (by simp [ltP])
 |x::a,y::b,z::c,h,k=>by
  rw [ltP,Bool.or_eq_true,Bool.and_eq_true] at h k ⊢
  rcases h with h|⟨h,h'⟩<;>rcases k with k|⟨k,k'⟩
  ·exact .inl (Xkg h k)
  ·have e:y=z:=by simpa using k
   rw [←e];exact .inl h
  ·have e:x=y:=by simpa using h
   rw [e];exact .inl k
  ·have e:x=y:=by simpa using h
   rw [e];exact .inr ⟨k,Xcn h' k'⟩
theorem Xle:∀a b,ltP a b=true∨a=b∨ltP b a=true
 | [],[]=> .inr (.inl rfl)
 | [],_::_=> .inl rfl
 |_::_,[]=> .inr (.inr rfl)
 |x::a,y::b=>by
  rcases Xel x y with h|h|h
  ·exact .inl (by rw [ltP,h];rfl)
  ·subst h
   rcases Xle a b with k|k|k
   ·exact .inl (by rw [ltP,k];simp)
   ·exact .inr (.inl (by rw [k]))
   ·exact .inr (.inr (by rw [ltP,k];simp))
  ·exact .inr (.inr (by rw [ltP,h];rfl))
theorem Xfe {a b:List Bytes} (h:ltP a b=true):ltP b a=false:=by
 cases k:ltP b a with
 |false=>rfl
 |true=>have:=Xcn h k;rw [Xf0] at this;exact absurd this (by simp)
theorem Xlf {a b:List Bytes} (h:ltP a b=true):a≠b:=fun e=>by
 rw [e,Xf0] at h;exact absurd h (by simp)
def cmpP (a b:Bytes):Int:=if ltP (els a) (els b) then -1 else if ltP (els b) (els a) then 1 else 0
theorem Xj9:∀(s p:Bytes),elsGo p s≠ []
 | [],p=>by simp [elsGo]
 |c::s,p=>by
  rw [elsGo]
  by_cases h:(c==47)=true
  ·rw [if_pos h];simp
  ·rw [if_neg h];exact Xj9 s _
theorem Xsp {s:Bytes}:els s= []↔s= []:=by
 unfold els
 by_cases h:s= []
 ·rw [if_pos h];simp [h]
 ·rw [if_neg h];simp [h,Xj9]
theorem Xbm (p:Bytes) {l:List Bytes} (h:l≠ []):joinP (p::l)=p++47::joinP l:=by
 cases l with
 |nil=>exact absurd rfl h
 |cons q l=>rfl
theorem Xex:∀(s p:Bytes),joinP (elsGo p s)=p++s
 | [],p=>by simp [elsGo,joinP]
 |c::s,p=>by
  rw [elsGo]
  by_cases h:(c==47)=true
  ·rw [if_pos h,Xbm _ (Xj9 s []),Xex s []]
   have:c=47:=by simpa using h
   simp [this]
  ·rw [if_neg h,Xex s];simp
theorem Xff (s:Bytes):joinP (els s)=s:=by
 unfold els
 by_cases h:s= []
 ·rw [if_pos h,h];rfl
 ·rw [if_neg h,Xex];simp
theorem Xwm {a b:Bytes} (h:els a=els b):a=b:=by rw [←Xff a,h,Xff]
theorem Xde:∀(s p r:Bytes),(∀c∈s,c≠47)→elsGo p (s++r)=elsGo (p++s) r
 | [],p,r,_=>by simp
 |c::s,p,r,h=>by
  have hc:¬(c==47)=true:=by simpa using h c (List.mem_cons_self ..)
  rw [List.cons_append,elsGo,if_neg hc,Xde s _ _ fun x hx=>h x (List.mem_cons_of_mem _ hx)]
  simp
theorem Xic:∀(l:List Bytes),l≠ []→(∀p∈l,∀c∈p,c≠47)→elsGo [] (joinP l)=l
 | [],h,_=>absurd rfl h
 | [p],_,h=>by
   have:=Xde p [] [] (h p (by simp))
   rw [List.append_nil] at this
   rw [joinP,this];simp [elsGo]
 |p::q::l,_,h=>by
  rw [Xbm p (by simp),Xde p [] _ (h p (by simp)),List.nil_append,elsGo,if_pos (by simp),Xic (q::l) (by simp) fun x hx=>h x (List.mem_cons_of_mem _ hx)]
theorem Xsr {l:List Bytes} (h:∀p∈l,∀c∈p,c≠47) (hn:joinP l≠ []):els (joinP l)=l:=by
 have hl:l≠ []:=fun e=>hn (by rw [e];rfl)
 rw [els,if_neg hn,Xic l hl h]
theorem Xl9 {p:Bytes} (h:comp p=true):∀c∈p,c≠47:=by
 intro c hc e
 simp only [comp,Bool.and_eq_true,List.all_eq_true] at h
 have:=h.2 c hc
 rw [e] at this
 exact absurd this (by decide)
theorem Xw0 {p:Bytes} (h:comp p=true):p≠ []:=by
 intro e
 rw [e] at h
 exact absurd h (by decide)
theorem Xax {s:Bytes} (h:pathErr s=0):s.length≤200∧(els s).length≤8∧ ∀p∈els s,comp p=true:=by
 unfold pathErr at h
 by_cases h1:200<s.length
 ·rw [if_pos h1] at h;omega
 ·rw [if_neg h1] at h
  by_cases h2:8<(els s).length
  ·rw [if_pos h2] at h;omega
  ·rw [if_neg h2] at h
   by_cases h3:(els s).all comp=true
   ·exact ⟨by omega,by omega,by simpa using h3⟩
   ·rw [if_neg h3] at h;omega
end Go.Proofs.YtdodihnehppnmaaGreatDoor
namespace Go.Proofs.YtdodihnehppnmaaGreatDoor
structure Xt where
 s:Int
 o:Int
 n:Int
deriving DecidableEq
structure Ent where
 kind:Int
 path:Bytes
 attrs:List At
 target:Bytes
 size:Int
 digest:Bytes
 exts:List Xt
deriving DecidableEq
def digits (s:Bytes):Int:=s.foldl (fun n c=>10*n+((c.toNat:Int)-48)) 0
def dateOk (s:Bytes):Bool:=decide (1≤s.length)&&decide (s.length≤10)&& !(decide (1<s.length)&&s.head? ==some 48)&&s.all (fun c=>decide (48≤c)&&decide (c≤57))&&decide (digits s≤1000000000)
def targetOk (e:Ent):Bool:=if e.kind=3 then decide (1≤e.target.length)&&decide (e.target.length≤200) else if e.kind=5 then dateOk e.target else e.target.isEmpty
def xtBad (x:Xt):Bool:=decide (x.s<0) || decide (255<x.s) || decide (x.o<0) || decide (2147483647<x.o) || decide (x.n<1) || decide (65536<x.n) || (x.s==0&&x.o != 0)
def xtsErr (file:Bool):List Xt→Int
 | []=>0
 |x::l=>if file=false then 1 else if xtBad x then 2 else xtsErr file l
def xtSum (l:List Xt):Int:=(l.map Xt.n).sum
def entErr (e:Ent):Int:=
 if e.kind<1∨6<e.kind then 10
 else if pathErr e.path≠0 then pathErr e.path
 else if e.path= []∧e.kind<5 then 1
 else if chk e.attrs≠0 then chk e.attrs
 else if (e.attrs≠ []∧3<e.kind)∨targetOk e=false then 1
 else if e.size<0∨65536<e.size∨(e.kind≠1∧e.size≠0) then 2
 else if (e.kind=1∧e.digest.length≠32)∨(e.kind≠1∧e.digest≠ []) then 1
 else if xtsErr (e.kind==1) e.exts≠0 then xtsErr (e.kind==1) e.exts
 else if xtSum e.exts≠e.size then 1 else 0
def getT (t:List Ent) (p:Bytes):Option Ent:=t.find? fun x=>x.path==p
def dirErr (t:List Ent) (p:Bytes):Int:=if p= [] then 0 else match getT t p with|none=>9|some x=>if x.kind≠2 then 10 else 0
def upP (p:Bytes):Bytes:=joinP (els p).dropLast
def chkTFrom (t:List Ent):Option Ent→List Ent→Int
 |_,[]=>0
 |q,x::l=>if entErr x≠0 then entErr x else if x.kind≠1∧x.kind≠2∧x.kind≠3 then 10 else if (q.any fun y=> !(ltP (els y.path) (els x.path))) then 14 else if dirErr t (upP x.path)≠0 then dirErr t (upP x.path) else chkTFrom t (some x) l
def chkT (t:List Ent):Int:=chkTFrom t none t
def SrtT (t:List Ent):Prop:=t.Pairwise fun x y=>ltP (els x.path) (els y.path)=true
structure OkT (t:List Ent):Prop where
 ent:∀x∈t,entErr x=0
 kind:∀x∈t,x.kind=1∨x.kind=2∨x.kind=3
 srt:SrtT t
 up:∀x∈t,dirErr t (upP x.path)=0
theorem Xn1 (t:List Ent) (l:List Ent):∀q:Option Ent,chkTFrom t q l=0↔(∀x∈l,entErr x=0∧(x.kind=1∨x.kind=2∨x.kind=3)∧dirErr t (upP x.path)=0)∧(∀y,q=some y→ ∀x∈l,ltP (els y.path) (els x.path)=true)∧SrtT l:=by
 induction l with
 |nil=>intro q;simp [chkTFrom,SrtT]
 |cons x l ih=>
  intro q
  rw [chkTFrom]
  by_cases h0:entErr x=0
  case neg=>
   rw [if_pos h0]
   exact ⟨fun h=>absurd h h0,fun h=>absurd (h.1 x (List.mem_cons_self ..)).1 h0⟩
  rw [if_neg (by omega)]
  by_cases h1:x.kind=1∨x.kind=2∨x.kind=3
  case neg=>
   rw [if_pos (by omega)]
   exact ⟨fun h=>absurd h (by decide),fun h=>absurd (h.1 x (List.mem_cons_self ..)).2.1 h1⟩
  rw [if_neg (by omega)]
  by_cases h2:(q.any fun y=> !(ltP (els y.path) (els x.path)))=true
  ·rw [if_pos h2]
   refine ⟨fun h=>absurd h (by decide),fun h=> ?_⟩
   cases q with
   |none=>simp at h2
   |some y=>
    have:=h.2.1 y rfl x (List.mem_cons_self ..)
    simp [this] at h2
  rw [if_neg h2]
  have hq:∀y,q=some y→ltP (els y.path) (els x.path)=true:=by
   intro y hy
   subst hy
   simpa using h2
  by_cases h3:dirErr t (upP x.path)=0
  case neg=>
   rw [if_pos h3]
   exact ⟨fun h=>absurd h h3,fun h=>absurd (h.1 x (List.mem_cons_self ..)).2.2 h3⟩
  rw [if_neg (by omega),ih]
  constructor
  ·rintro ⟨a1,a2,a3⟩
   refine ⟨?_,?_,List.pairwise_cons.2 ⟨fun r hr=>a2 x rfl r hr,a3⟩⟩
   ·intro r hr
    rcases List.mem_cons.1 hr with rfl|hr
    ·exact ⟨h0,h1,h3⟩
    ·exact a1 r hr
   ·intro y hy r hr
    rcases List.mem_cons.1 hr with rfl|hr
    ·exact hq y hy
    ·exact Xcn (hq y hy) (a2 x rfl r hr)
  ·rintro ⟨a1,_,a3⟩
   obtain ⟨b1,b2⟩:=List.pairwise_cons.1 a3
   exact ⟨fun r hr=>a1 r (List.mem_cons_of_mem _ hr),fun y hy r hr=>by cases hy;exact b1 r hr,b2⟩
theorem Xs7 (t:List Ent):chkT t=0↔OkT t:=by
 unfold chkT
 rw [Xn1]
 constructor
 ·rintro ⟨a1,_,a3⟩
  exact ⟨fun x hx=>(a1 x hx).1,fun x hx=>(a1 x hx).2.1,a3,fun x hx=>(a1 x hx).2.2⟩
 ·rintro ⟨b1,b2,b3,b4⟩
  exact ⟨fun x hx=>⟨b1 x hx,b2 x hx,b4 x hx⟩,by simp,b3⟩
theorem SrtT.key {t:List Ent} (h:SrtT t) {x y:Ent} (hx:x∈t) (hy:y∈t) (e:x.path=y.path):x=y:=by
 induction t with
 |nil=>cases hx
 |cons z l ih=>
  obtain ⟨h1,h2⟩:=List.pairwise_cons.1 h
  rcases List.mem_cons.1 hx with hx|hx<;>rcases List.mem_cons.1 hy with hy|hy
  ·rw [hx,hy]
  ·exact absurd (by rw [←hx,e]) (Xlf (h1 y hy))
  ·exact absurd (by rw [←hy,e]) (Xlf (h1 x hx))
  ·exact ih h2 hx hy
theorem SrtT.ext:∀ {A B:List Ent},SrtT A→SrtT B→(∀x,x∈A↔x∈B)→A=B
 | [],[],_,_,_=>rfl
 | [],b::B,_,_,h=>absurd ((h b).2 (List.mem_cons_self ..)) (by simp)
 |a::A,[],_,_,h=>absurd ((h a).1 (List.mem_cons_self ..)) (by simp)
 |a::A,b::B,hA,hB,h=>by
  obtain ⟨a1,a2⟩:=List.pairwise_cons.1 hA
  obtain ⟨b1,b2⟩:=List.pairwise_cons.1 hB
  have e:a=b:=by
   rcases List.mem_cons.1 ((h a).1 (List.mem_cons_self ..)) with e|hab
   ·exact e
   ·rcases List.mem_cons.1 ((h b).2 (List.mem_cons_self ..)) with e|hba
    ·exact e.symm
    ·have k:=Xfe (a1 b hba)
     rw [b1 a hab] at k
     exact absurd k (by simp)
  subst e
  rw [SrtT.ext a2 b2 fun x=> ?_]
  have hx:=h x
  rw [List.mem_cons,List.mem_cons] at hx
  constructor
  ·intro hm
   rcases hx.1 (.inr hm) with e|hm'
   ·subst e;exact absurd rfl (Xlf (a1 x hm))
   ·exact hm'
  ·intro hm
   rcases hx.2 (.inr hm) with e|hm'
   ·subst e;exact absurd rfl (Xlf (b1 x hm))
   ·exact hm'
theorem Xgz {t:List Ent} (h:SrtT t) {x:Ent} (hx:x∈t):getT t x.path=some x:=by
 unfold getT
 cases hf:t.find? (fun y=>y.path==x.path) with
 |none=>have:=List.find?_eq_none.1 hf x hx;simp at this
 |some y=>
  have h1:=List.find?_some hf
  rw [h.key (List.mem_of_find?_eq_some hf) hx (by simpa using h1)]
theorem Xlr {t:List Ent} {p:Bytes} {x:Ent} (h:getT t p=some x):x∈t∧x.path=p:=⟨List.mem_of_find?_eq_some h,by have:=List.find?_some h;simpa using this⟩
theorem Xr4 {t:List Ent} {p:Bytes} (h:∀x∈t,x.path≠p):getT t p=none:=List.find?_eq_none.2 fun x hx=>by simpa using h x hx
end Go.Proofs.YtdodihnehppnmaaGreatDoor
namespace Go.Proofs.YtdodihnehppnmaaGreatDoor
open Go.RowKit
def At.Wf (x:At):Prop:=x.k.length≤9223372036854775807∧x.v.length≤9223372036854775807
abbrev At.val (x:At):Value:= .agg #[S x.k,S x.v]
def tAt:Ty At:=Ty.flat 2 (fun x=> [S x.k,S x.v]) (fun _=>rfl) (fun _ u h=>by simp at h;rcases h with rfl|rfl<;>rfl)
theorem atAt {I:IH} {v:Value} {l:List At} {w:World} (h:RdS tAt I v l) (hw:Ok I w) (i:Nat) (hi:i<l.length):∃x b off cap,l[i]=x∧v= .slice (some ⟨b,off,none⟩) l.length cap∧
 w.cell? ⟨b,off+i*2,none⟩=some (S x.k)∧w.cell? ⟨b,off+i*2+1,none⟩=some (S x.v):=by
 obtain ⟨b,off,cap,cs,hv,hcs,hc⟩:=h.at_ hw hi
 have hcs':cs= [S l[i].k,S l[i].v]:=hcs
 subst hcs'
 exact ⟨_,b,off,cap,rfl,hv,hc 0 _ rfl,hc 1 _ rfl⟩
def tXt:Ty Xt:=Ty.flat 3 (fun x=> [.int .i64 x.s,.int .i64 x.o,.int .i64 x.n]) (fun _=>rfl) (fun _ u h=>by simp at h;rcases h with rfl|rfl|rfl<;>rfl)
theorem xtAt {I:IH} {v:Value} {l:List Xt} {w:World} (h:RdS tXt I v l) (hw:Ok I w) (i:Nat) (hi:i<l.length):∃x b off cap,l[i]=x∧v= .slice (some ⟨b,off,none⟩) l.length cap∧
 w.cell? ⟨b,off+i*3,none⟩=some (.int .i64 x.s)∧w.cell? ⟨b,off+i*3+1,none⟩=some (.int .i64 x.o)∧w.cell? ⟨b,off+i*3+2,none⟩=some (.int .i64 x.n):=by
 obtain ⟨b,off,cap,cs,hv,hcs,hc⟩:=h.at_ hw hi
 have hcs':cs= [.int .i64 l[i].s,.int .i64 l[i].o,.int .i64 l[i].n]:=hcs
 subst hcs'
 exact ⟨_,b,off,cap,rfl,hv,hc 0 _ rfl,hc 1 _ rfl,hc 2 _ rfl⟩
def Xt.Wf (x:Xt):Prop:=(-9223372036854775808≤x.s∧x.s≤9223372036854775807)∧(-9223372036854775808≤x.o∧x.o≤9223372036854775807)∧(-9223372036854775808≤x.n∧x.n≤9223372036854775807)
structure Ent.Wf (e:Ent):Prop where
 k0: -9223372036854775808≤e.kind
 k1:e.kind≤9223372036854775807
 path:e.path.length≤9223372036854775807
 attrs:∀x∈e.attrs,x.Wf
 target:e.target.length≤9223372036854775807
 s0: -9223372036854775808≤e.size
 s1:e.size≤9223372036854775807
 digest:e.digest.length≤9223372036854775807
 exts:∀x∈e.exts,x.Wf
abbrev entCs (e:Ent) (va vx:Value):List Value:= [.int .i64 e.kind,S e.path,va,S e.target,.int .i64 e.size,S e.digest,vx]
abbrev entV (e:Ent) (va vx:Value):Value:= .agg #[.int .i64 e.kind,S e.path,va,S e.target,.int .i64 e.size,S e.digest,vx]
def tEnt:Ty Ent where
 size:=7
 rd:=fun I cs e=> ∃va vx,cs=entCs e va vx∧RdS tAt I va e.attrs∧RdS tXt I vx e.exts
 len:=fun ⟨_,_,h,_⟩=>by rw [h];rfl
 one:=fun ⟨va,vx,h,h1,h2⟩ u hu=>by
  rw [h] at hu
  simp at hu
  rcases hu with rfl|rfl|rfl|rfl|rfl|rfl|rfl<;>first|rfl|exact h1.one|exact h2.one
 mono:=fun hI ⟨va,vx,h,h1,h2⟩=>⟨va,vx,h,h1.mono hI,h2.mono hI⟩
structure EntAt (w:World) (b o:Nat) (e:Ent) (va vx:Value):Prop where
 c0:w.cell? ⟨b,o,none⟩=some (.int .i64 e.kind)
 c1:w.cell? ⟨b,o+1,none⟩=some (S e.path)
 c2:w.cell? ⟨b,o+2,none⟩=some va
 c3:w.cell? ⟨b,o+3,none⟩=some (S e.target)
 c4:w.cell? ⟨b,o+4,none⟩=some (.int .i64 e.size)
 c5:w.cell? ⟨b,o+5,none⟩=some (S e.digest)
 c6:w.cell? ⟨b,o+6,none⟩=some vx
theorem EntAt.thru {w w':World} {b o:Nat} {e:Ent} {va vx:Value} (h:EntAt w b o e va vx) (hb:Below w.heap.size w w'):EntAt w' b o e va vx:=
 ⟨Xaa hb h.c0,Xaa hb h.c1,Xaa hb h.c2,Xaa hb h.c3,Xaa hb h.c4,Xaa hb h.c5,Xaa hb h.c6⟩
theorem Xbu {I:IH} {v:Value} {l:List Ent} {w:World} (h:RdS tEnt I v l) (hw:Ok I w) (i:Nat) (hi:i<l.length):∃x va vx b off cap,l[i]=x∧v= .slice (some ⟨b,off,none⟩) l.length cap∧
 EntAt w b (off+i*7) x va vx∧RdS tAt I va x.attrs∧RdS tXt I vx x.exts:=by
 obtain ⟨b,off,cap,cs,hv,⟨va,vx,hcs,h1,h2⟩,hc⟩:=h.at_ hw hi
 subst hcs
 exact ⟨_,va,vx,b,off,cap,rfl,hv,⟨hc 0 _ rfl,hc 1 _ rfl,hc 2 _ rfl,hc 3 _ rfl,hc 4 _ rfl,hc 5 _ rfl,hc 6 _ rfl⟩,h1,h2⟩
end Go.Proofs.YtdodihnehppnmaaGreatDoor
namespace Go.Proofs.YtdodihnehppnmaaGreatDoor
theorem Xqx:∀(s:Bytes),Lib.split s [47]=elsGo [] s:=by
 have key:∀(n:Nat) (s:Bytes),s.length≤n→Lib.split s [47]=elsGo [] s:=by
  intro n
  induction n with
  |zero=>
   intro s h
   have:s= []:=List.eq_nil_of_length_eq_zero (by omega)
   subst this
   rfl
  |succ n ih=>
   intro s h
   rcases Lib.index_spec s [47] with ⟨h1,h2⟩|⟨i,h1,h2,h3,h4⟩
   ·have hn:∀c∈s,c≠47:=by
     intro c hc e
     obtain ⟨j,hj,rfl⟩:=List.getElem_of_mem hc
     have:=h2 j (by omega)
     unfold Lib.occAt at this
     rw [List.drop_eq_getElem_cons hj,e] at this
     simp at this
    have h5:=Xde s [] [] hn
    rw [List.append_nil,List.nil_append] at h5
    rw [h5,Lib.split,Lib.count_miss h1]
    rfl
   ·have hi:i<s.length∧s[i]? =some 47:=by
     have h6:=Lib.occAt_head rfl h3
     exact ⟨(List.getElem?_eq_some_iff.1 h6).1,h6⟩
    have hn:∀c∈s.take i,c≠47:=by
     intro c hc e
     obtain ⟨j,hj,rfl⟩:=List.getElem_of_mem hc
     have hji:j<i:=by simp at hj;omega
     have:=h4 j hji
     unfold Lib.occAt at this
     rw [List.drop_eq_getElem_cons (by omega)] at this
     rw [List.getElem_take] at e
     rw [e] at this
     simp at this
    have hs:s=s.take i++47::s.drop (i+1):=by
     conv=>lhs;rw [←List.take_append_drop i s,List.drop_eq_getElem_cons hi.1]
     have:=hi.2
     rw [List.getElem?_eq_getElem hi.1] at this
     rw [Option.some.inj this]
    have h5:=Xde (s.take i) [] (47::s.drop (i+1)) hn
    rw [←hs,List.nil_append] at h5
    rw [h5,elsGo,if_pos (by rfl),←ih (s.drop (i+1)) (by rw [List.length_drop];omega)]
    rw [Lib.split,Lib.count_hit (by simp) h1,Nat.add_comm,Lib.splitK,if_neg (by rw [h1];simp),h1]
    rfl
 exact fun s=>key s.length s (Qn _)
theorem Xud (l:List Bytes):Lib.join l [47]=joinP l:=by
 induction l with
 |nil=>rfl
 |cons p l ih=>
  cases l with
  |nil=>simp [Lib.join,List.intercalate,joinP]
  |cons q l=>
   rw [joinP,←ih]
   simp [Lib.join,List.intercalate]
def notAllowed (r:Nat):Bool:= !(decide (97≤r)&&decide (r≤122) || decide (48≤r)&&decide (r≤57) || decide (r=46) || decide (r=95) || decide (r=45))
theorem Xew (c:UInt8):keyChar c= !(notAllowed c.toNat):=by
 have e:∀n:Nat,n<256→(c==UInt8.ofNat n)=decide (c.toNat=n):=fun n hn=>by
  rw [Bool.eq_iff_iff,beq_iff_eq,decide_eq_true_iff]
  constructor
  ·intro h;rw [h];simp;omega
  ·intro h
   have:c=UInt8.ofNat c.toNat:=by simp
   rw [this,h]
 unfold keyChar notAllowed
 rw [show (46:UInt8)=UInt8.ofNat 46 from rfl,show (95:UInt8)=UInt8.ofNat 95 from rfl,show (45:UInt8)=UInt8.ofNat 45 from rfl,e 46 (by omega),e 95 (by omega),e 45 (by omega)]
 simp [UInt8.le_iff_toNat_le]
theorem Xd1 {r:Nat} (h:128≤r):notAllowed r=true:=by
 unfold notAllowed
 simp
 omega
theorem Xui (s:ByteArray):∀(f pos:Nat),s.size≤pos+f→decide (0≤Lib.idxFuncFrom notAllowed true s f pos)= !((s.data.toList.drop pos).all keyChar):=by
 intro f
 induction f with
 |zero=>
  intro pos h
  have hl:s.data.toList.length=s.size:=Array.length_toList
  rw [List.drop_of_length_le (by omega)]
  rfl
 |succ f ih=>
  intro pos h
  have hl:s.data.toList.length=s.size:=Array.length_toList
  rw [Lib.idxFuncFrom]
  by_cases hp:pos<s.size
  ·rw [if_pos hp,List.drop_eq_getElem_cons (by omega),List.all_cons]
   have hb:s.data.toList[pos]'(by omega)=s[pos]'hp:=by
    rw [Array.getElem_toList];rfl
   rw [hb]
   by_cases ha:(s[pos]'hp).toNat<128
   ·rw [decode_ascii s pos hp ha]
    have hk:=Xew (s[pos]'hp)
    cases hn:notAllowed (s[pos]'hp).toNat
    ·rw [if_neg (by simp),hk,hn,ih (pos+1) (by omega)]
     simp
    ·rw [if_pos rfl,hk,hn]
     simp
   ·have hd:=decode_high s pos hp (by omega)
    rw [if_pos (Xd1 hd.1),Xew,Xd1 (by omega)]
    simp
  ·rw [if_neg hp,List.drop_of_length_le (by omega)]
   rfl
theorem Xuj (s:Bytes):decide (0≤Lib.idxFunc notAllowed true ⟨s.toArray⟩)= !(s.all keyChar):=by
 have:=Xui ⟨s.toArray⟩ (⟨s.toArray⟩:ByteArray).size 0 (by omega)
 rw [Lib.idxFunc,this]
 simp
def cmpL (a b:List Bytes):Int:=if ltP a b then -1 else if ltP b a then 1 else 0
theorem Xs6 (a b:Bytes):cmpP a b=cmpL (els a) (els b):=rfl
theorem Xmc (x:Bytes) (a b:List Bytes):cmpL (x::a) (x::b)=cmpL a b:=by
 unfold cmpL
 rw [ltP,ltP,Xbb]
 simp
theorem Xgo {x y:Bytes} (h:Op.bytesLess x y=true) (a b:List Bytes):cmpL (x::a) (y::b)= -1:=by
 unfold cmpL
 rw [ltP,h]
 simp
theorem Xgp {x y:Bytes} (h:Op.bytesLess y x=true) (a b:List Bytes):cmpL (x::a) (y::b)=1:=by
 unfold cmpL
 rw [ltP,ltP,h,Xem h]
 have:(x==y)=false:=by simpa using (Xqk h).symm
 rw [this]
 simp
theorem Xmb {a b:List Bytes} {k:Nat} (h:a.take k=b.take k) (ha:k≤a.length) (hb:k≤b.length):cmpL a b=cmpL (a.drop k) (b.drop k):=by
 induction k generalizing a b with
 |zero=>rfl
 |succ k ih=>
  cases a with
  |nil=>simp at ha
  |cons x a=>
   cases b with
   |nil=>simp at hb
   |cons y b=>
    simp only [List.take_succ_cons,List.cons.injEq] at h
    obtain ⟨rfl,h⟩:=h
    rw [Xmc,List.drop_succ_cons,List.drop_succ_cons]
    exact ih h (by simpa using ha) (by simpa using hb)
end Go.Proofs.YtdodihnehppnmaaGreatDoor
namespace Go.Proofs.YtdodihnehppnmaaGreatDoor
open Go.RowKit
theorem run_at {P:Program} {t:TypeId} (h:P.underlying t=some .string) (s:Bytes) (i:Int) (j:Nat) (hi:i=(j:Int)) (hj:j<s.length) (W:World):(Instr.index t (S s) (.int .i64 i)).run P W= .ok (.int .u8 ((s.getD j 0).toNat:Nat)) W:=by
 subst hi
 rw [S,run_index_string W t _ .i64 _ h]
 have hsz:(⟨s.toArray⟩:ByteArray).size=s.length:=by simp [ByteArray.size]
 rw [dif_pos ⟨by omega,by rw [hsz];omega⟩]
 have e:(⟨s.toArray⟩:ByteArray)[((j:Nat):Int).toNat]'(by rw [hsz];simpa using hj)=s.getD j 0:=by
  simp [List.getD,List.getElem?_eq_getElem hj,ByteArray.getElem_eq_getElem_data]
 rw [e]
theorem Xhh {I:IH} {v:Value} {l:List Bytes} {w:World} (h:RdS tStr I v l) (hw:Ok I w) (i:Nat) (hi:i<l.length):∃s b off cap,l[i]=s∧v= .slice (some ⟨b,off,none⟩) l.length cap∧
 w.cell? ⟨b,off+i,none⟩=some (S s):=by
 obtain ⟨b,off,cap,cs,hv,hcs,hc⟩:=h.at_ hw hi
 have hcs':cs= [S l[i]]:=hcs
 subst hcs'
 have:=hc 0 _ rfl
 exact ⟨_,b,off,cap,rfl,hv,by simpa [tStr,Ty.flat] using this⟩
theorem Xtn:(Tryz.prog.info? 9).map (fun i=>(i.zero,i.size,i.bytes))=some (some (.string ⟨#[]⟩),1,16):=by kernel_rfl
theorem Xgw:ElemOk Tryz.prog 60 9 tStr 16:=ElemOk.of Tryz.underlying60 Xtn rfl (by decide) rfl
theorem Xxr (c:UInt8) (n:Nat) (hn:n<256):(((c.toNat:Nat):Int)==(n:Int))=(c==UInt8.ofNat n):=by
 rw [Bool.eq_iff_iff,beq_iff_eq,beq_iff_eq]
 constructor
 ·intro h
  have h':c.toNat=n:=by omega
  rw [←h'];simp
 ·intro h;rw [h];simp;omega
set_option maxRecDepth 100000 in
set_option maxHeartbeats 1000000 in
theorem Xa7 (I:IH) (s:Bytes) (hs:s.length≤4294967280) (w:World) (hw:Ok I w):
 Calls Tryz.prog 166 #[S s] w (RetS tStr I w (els s)):=by
 have hfr:∀b,w.heap.size≤b→I b=none:=fun b hb=>hw.fresh hb
 have Hfr:=Qh hfr
 clear hfr
 have Hst:=Qh (show OwnS tStr 9 I (w.alloc (.cells #[] 9)) w.heap.size (.slice (some ⟨w.heap.size,0,none⟩) 0 0) [] from ⟨[],World.ownsRow_made w #[] 0 (Qn _) (Nat.zero_le _) (by simp),LiesL.nil _ _⟩)
 by_cases h0:s= []
 ·have Hs:=Qh (show els s= [] by rw [h0];rfl)
  have f1:(s== [])=true:=by rw [h0];rfl
  have f2:s.isEmpty=true:=by rw [h0];rfl
  have f3:(!s.isEmpty)=false:=by rw [h0];rfl
  clear h0
  go_enter Tryz.func166,Tryz.ntmps166
  go_wp2
  go_ret
  obtain ⟨I',hI1,hI2,hI3,_⟩:=Hst.out.freeze (hw.alloc _) Hfr.out
  rw [Hs.out]
  exact ⟨_,I',rfl,(Qb _ _).alloc (Qn _) _,hI1,hI2,hI3⟩
 ·have Hs:=Qh (show els s=elsGo [] s by rw [els,if_neg h0])
  have f1:(s== [])=false:=by simpa using h0
  have f2:s.isEmpty=false:=by cases s<;>simp_all
  have f3:(!s.isEmpty)=true:=by rw [f2];rfl
  clear h0
  go_enter Tryz.func166,Tryz.ntmps166
  go_wp2_with fail
  go_loopw [3,4,5] (fun s3 s4 s5 wr=> ∃(k:Nat) (out:List Bytes) (p:Bytes),k≤s.length∧s5= .int .i64 k∧s4=S p∧OwnS tStr 9 I wr w.heap.size s3 out∧out.length≤k∧p.length≤k∧out++elsGo p (s.drop k)=elsGo [] s∧Below w.heap.size w wr) (fun _ _ i _=>s.length-(intOf i).toNat)
  case atStart=>exact ⟨0,[],[],Nat.zero_le _,rfl,rfl,Hst.out,Qn _,Qn _,rfl,(Qb _ _).alloc (Qn _) _⟩
  case round=>
   clear Hst
   obtain ⟨k,out,p,hk,rfl,rfl,hown,hol,hpl,hr,hb⟩:=hrel
   have Hr:=Qh hr
   have Hown:=Qh hown
   have hwr:Ok I wr:=hw.below (Qn _) hb
   clear hr hown
   by_cases hlt:k<s.length
   ·have hx:=run_at Tryz.underlying9 s (k:Int) k rfl hlt
    have hd:s.drop k=s.getD k 0::s.drop (k+1):=by rw [List.drop_eq_getElem_cons hlt];simp [List.getD,hlt]
    have htk:(s.drop k).take 1= [s.getD k 0]:=by rw [hd];rfl
    have Htk:=Qh htk
    have hst:elsGo [] s=out++(if s.getD k 0==47 then p::elsGo [] (s.drop (k+1)) else elsGo (p++ [s.getD k 0]) (s.drop (k+1))):=by rw [←Hr.out,hd];rfl
    have he:=Xxr (s.getD k 0) 47 (by decide)
    generalize hg:s.getD k 0=ch at hx hst he Htk
    have Hst:=Qh hst
    clear hd htk hst hg
    have hw1:IntKind.i64.wrap ((k:Int)+1)=(k:Int)+1:=IntWalk.i64_in _ (by omega)
    cases hc:(ch==47)
    ·rw [show (UInt8.ofNat 47)=47 from rfl,hc] at he
     have Hnx:=Qh (show out++elsGo (p++ [ch]) (s.drop (k+1))=elsGo [] s by rw [Hst.out,hc];rfl)
     clear hc
     go_wp2
     go_roundw
     case rel=>exact ⟨k+1,out,p++ [ch],by omega,by go_num,(by first|rfl|(simp [S,←Htk.out];done)|(congr;simp [←Htk.out])),Hown.out,by omega,(by simp;omega),Hnx.out,hb⟩
     case measure=>simp [intOf];omega
    ·rw [show (UInt8.ofNat 47)=47 from rfl,hc] at he
     have Hnx:=Qh (show (out++ [p])++elsGo [] (s.drop (k+1))=elsGo [] s by rw [Hst.out,hc];simp)
     clear hc
     go_wp2_with (at_builtin;refine Xad (w0:=wr) Xgw rfl _ _ rfl _ _ _ rfl Hown.out p [S p] _ rfl rfl (by omega) (by omega) (Below.size hb) ?_)
     intro v9 w9 hown9 hg9
     have hb9:=Below.own hb hg9 Hown.out (Qn _) (Below.size hb)
     go_wp2
     go_roundw
     case rel=>exact ⟨k+1,out++ [p],[],by omega,by go_num,rfl,hown9,(by simp;omega),(by simp),Hnx.out,hb9⟩
     case measure=>simp [intOf];omega
   ·have Hend:=Qh (show out++ [p]=elsGo [] s by rw [←Hr.out,List.drop_of_length_le (by omega)];rfl)
    go_wp2_with (at_builtin;refine Xad (w0:=wr) Xgw rfl _ _ rfl _ _ _ rfl Hown.out p [S p] _ rfl rfl (by omega) (by omega) (Below.size hb) ?_)
    intro v9 w9 hown9 hg9
    have hb9:=Below.own hb hg9 Hown.out (Qn _) (Below.size hb)
    have hok9:Ok I w9:=Ok.own hwr hg9 Hown.out Hfr.out
    have Hown9:=Qh hown9
    clear hown9 hg9
    go_wp2
    go_ret
    obtain ⟨I',hI1,hI2,hI3,_⟩:=Hown9.out.freeze hok9 Hfr.out
    rw [Hs.out,←Hend.out]
    exact ⟨_,I',rfl,hb9,hI1,hI2,hI3⟩
theorem Xlk (c:UInt8):keyChar c=(decide (97≤c.toNat)&&decide (c.toNat≤122) || decide (48≤c.toNat)&&decide (c.toNat≤57) || decide (c.toNat=46) || decide (c.toNat=95) || decide (c.toNat=45)):=by
 rw [Xew,notAllowed,Bool.not_not]
set_option maxRecDepth 100000 in
set_option maxHeartbeats 1000000 in
theorem Xhp (s:Bytes) (hs:s.length≤9223372036854775807) (w:World):
 Calls Tryz.prog 216 #[S s] w fun e w'=>e= .returned (.bool (comp s))∧Below w.heap.size w w':=by
 by_cases h1:1≤s.length
 case neg=>
  have hd1:decide (0<s.length)=false:=Qf (by omega)
  have Hok:=Qh (show comp s=false by simp [comp,h1])
  go_enter Tryz.func216,Tryz.ntmps216
  go_wp2_with fail
  go_loop [3,4] (fun s3 s4=>s3= .bool false∧s4= .int .i64 0) (fun _ _=>0)
  case atStart=>exact ⟨rfl,rfl⟩
  case round=>
   obtain ⟨rfl,rfl⟩:=hrel
   go_wp2
   go_ret
   exact ⟨Xan Hok.out.symm,Qb _ _⟩
 have hd1:decide (0<s.length)=true:=Qt (by omega)
 by_cases h32:s.length≤32
 case neg=>
  have hd2:decide (s.length≤32)=false:=Qf h32
  have Hok:=Qh (show comp s=false by simp [comp,h32])
  go_enter Tryz.func216,Tryz.ntmps216
  go_wp2_with fail
  go_loop [3,4] (fun s3 s4=>s3= .bool false∧s4= .int .i64 0) (fun _ _=>0)
  case atStart=>exact ⟨rfl,rfl⟩
  case round=>
   obtain ⟨rfl,rfl⟩:=hrel
   go_wp2
   go_ret
   exact ⟨Xan Hok.out.symm,Qb _ _⟩
 have hd2:decide (s.length≤32)=true:=Qt h32
 by_cases h46:s= [46]
 case pos=>
  subst h46
  have Hok:=Qh (show comp [46]=false by rfl)
  clear hs h1 hd1 h32 hd2
  go_enter Tryz.func216,Tryz.ntmps216
  go_wp2_with fail
  go_loop [3,4] (fun s3 s4=>s3= .bool false∧s4= .int .i64 0) (fun _ _=>0)
  case atStart=>exact ⟨rfl,rfl⟩
  case round=>
   obtain ⟨rfl,rfl⟩:=hrel
   go_wp2
   go_ret
   exact ⟨Xan Hok.out.symm,Qb _ _⟩
 have f46:(s != [46])=true:=by simpa using h46
 have g46:(s== [46])=false:=by simpa using h46
 by_cases h47:s= [46,46]
 case pos=>
  subst h47
  have Hok:=Qh (show comp [46,46]=false by rfl)
  clear hs h1 hd1 h32 hd2 h46 f46 g46
  go_enter Tryz.func216,Tryz.ntmps216
  go_wp2_with fail
  go_loop [3,4] (fun s3 s4=>s3= .bool false∧s4= .int .i64 0) (fun _ _=>0)
  case atStart=>exact ⟨rfl,rfl⟩
  case round=>
   obtain ⟨rfl,rfl⟩:=hrel
   go_wp2
   go_ret
   exact ⟨Xan Hok.out.symm,Qb _ _⟩
 have f47:(s != [46,46])=true:=by simpa using h47
 have g47:(s== [46,46])=false:=by simpa using h47
 have Hok:=Qh (show comp s=s.all keyChar by simp [comp,h1,h32,f46,f47])
 clear h46 h47
 go_enter Tryz.func216,Tryz.ntmps216
 go_wp2_with fail
 go_loop [3,4] (fun s3 s4=> ∃(k:Nat) (b:Bool),k≤s.length∧s4= .int .i64 k∧s3= .bool b∧(s.take k).all keyChar=b) (fun _ i=>s.length-(intOf i).toNat)
 case atStart=>exact ⟨0,true,Nat.zero_le _,rfl,rfl,rfl⟩
 case round=>
  obtain ⟨k,b,hk,rfl,rfl,hr⟩:=hrel
  have Hr:=Qh hr;clear hr
  cases b
  ·have Hall:=Qh (show s.all keyChar=false by
    cases h:s.all keyChar with
    |false=>rfl
    |true=>
     have:(s.take k).all keyChar=true:=List.all_eq_true.2 fun x hx=>List.all_eq_true.1 h x (List.mem_of_mem_take hx)
     rw [Hr.out] at this
     exact absurd this (by simp))
   go_wp2
   go_ret
   exact ⟨Xan (by rw [Hok.out,Hall.out]),Qb _ _⟩
  ·by_cases hlt:k<s.length
   ·have hx:=run_at Tryz.underlying9 s (k:Int) k rfl hlt
    have hkc:=Xlk (s.getD k 0)
    have Htk:=Qh (show s.take (k+1)=s.take k++ [s.getD k 0] by rw [List.take_succ_eq_append_getElem hlt];simp [List.getD,hlt])
    have hc256:(s.getD k 0).toNat<256:=(s.getD k 0).toNat_lt
    generalize s.getD k 0=ch at hkc Htk hx hc256
    generalize ch.toNat=c at hkc hx hc256
    rcases (show (97≤c∧c≤122)∨122<c∨(48≤c∧c≤57)∨c=46∨c=95∨c=45∨(c<48∧c≠46∧c≠45)∨(57<c∧c<97∧c≠95) by omega) with hc|hc|hc|hc|hc|hc|hc|hc
    ·have d97:decide (97≤(c:Int))=true:=by simp;omega
     have d122:decide ((c:Int)≤122)=true:=by simp;omega
     have d48:decide (48≤(c:Int))=true:=by simp;omega
     have d57:decide ((c:Int)≤57)=false:=by simp;omega
     have n46:((c:Int)==46)=false:=by simp;omega
     have n95:((c:Int)==95)=false:=by simp;omega
     have n45:((c:Int)==45)=false:=by simp;omega
     have Hkc:=Qh (show keyChar ch=true by rw [hkc];simp;omega)
     clear hkc hc
     go_wp2
     go_round
     case rel=>exact ⟨k+1,true,by omega,by go_num,rfl,by rw [Htk.out,List.all_append,Hr.out];simp [Hkc.out]⟩
     case measure=>simp [intOf];omega
    ·have d97:decide (97≤(c:Int))=true:=by simp;omega
     have d122:decide ((c:Int)≤122)=false:=by simp;omega
     have d48:decide (48≤(c:Int))=true:=by simp;omega
     have d57:decide ((c:Int)≤57)=false:=by simp;omega
     have n46:((c:Int)==46)=false:=by simp;omega
     have n95:((c:Int)==95)=false:=by simp;omega
     have n45:((c:Int)==45)=false:=by simp;omega
     have Hkc:=Qh (show keyChar ch=false by rw [hkc];simp;omega)
     clear hkc hc
     go_wp2
     go_round
     case rel=>exact ⟨k+1,false,by omega,by go_num,rfl,by rw [Htk.out,List.all_append,Hr.out];simp [Hkc.out]⟩
     case measure=>simp [intOf];omega
    ·have d97:decide (97≤(c:Int))=false:=by simp;omega
     have d122:decide ((c:Int)≤122)=true:=by simp;omega
     have d48:decide (48≤(c:Int))=true:=by simp;omega
     have d57:decide ((c:Int)≤57)=true:=by simp;omega
     have n46:((c:Int)==46)=false:=by simp;omega
     have n95:((c:Int)==95)=false:=by simp;omega
     have n45:((c:Int)==45)=false:=by simp;omega
     have Hkc:=Qh (show keyChar ch=true by rw [hkc];simp;omega)
     clear hkc hc
     go_wp2
     go_round
     case rel=>exact ⟨k+1,true,by omega,by go_num,rfl,by rw [Htk.out,List.all_append,Hr.out];simp [Hkc.out]⟩
     case measure=>simp [intOf];omega
    ·have d97:decide (97≤(c:Int))=false:=by simp;omega
     have d122:decide ((c:Int)≤122)=true:=by simp;omega
     have d48:decide (48≤(c:Int))=false:=by simp;omega
     have d57:decide ((c:Int)≤57)=true:=by simp;omega
     have n46:((c:Int)==46)=true:=by simp;omega
     have n95:((c:Int)==95)=false:=by simp;omega
     have n45:((c:Int)==45)=false:=by simp;omega
     have Hkc:=Qh (show keyChar ch=true by rw [hkc];simp;omega)
     clear hkc hc
     go_wp2
     go_round
     case rel=>exact ⟨k+1,true,by omega,by go_num,rfl,by rw [Htk.out,List.all_append,Hr.out];simp [Hkc.out]⟩
     case measure=>simp [intOf];omega
    ·have d97:decide (97≤(c:Int))=false:=by simp;omega
     have d122:decide ((c:Int)≤122)=true:=by simp;omega
     have d48:decide (48≤(c:Int))=true:=by simp;omega
     have d57:decide ((c:Int)≤57)=false:=by simp;omega
     have n46:((c:Int)==46)=false:=by simp;omega
     have n95:((c:Int)==95)=true:=by simp;omega
     have n45:((c:Int)==45)=false:=by simp;omega
     have Hkc:=Qh (show keyChar ch=true by rw [hkc];simp;omega)
     clear hkc hc
     go_wp2
     go_round
     case rel=>exact ⟨k+1,true,by omega,by go_num,rfl,by rw [Htk.out,List.all_append,Hr.out];simp [Hkc.out]⟩
     case measure=>simp [intOf];omega
    ·have d97:decide (97≤(c:Int))=false:=by simp;omega
     have d122:decide ((c:Int)≤122)=true:=by simp;omega
     have d48:decide (48≤(c:Int))=false:=by simp;omega
     have d57:decide ((c:Int)≤57)=true:=by simp;omega
     have n46:((c:Int)==46)=false:=by simp;omega
     have n95:((c:Int)==95)=false:=by simp;omega
     have n45:((c:Int)==45)=true:=by simp;omega
     have Hkc:=Qh (show keyChar ch=true by rw [hkc];simp;omega)
     clear hkc hc
     go_wp2
     go_round
     case rel=>exact ⟨k+1,true,by omega,by go_num,rfl,by rw [Htk.out,List.all_append,Hr.out];simp [Hkc.out]⟩
     case measure=>simp [intOf];omega
    ·have d97:decide (97≤(c:Int))=false:=by simp;omega
     have d122:decide ((c:Int)≤122)=true:=by simp;omega
     have d48:decide (48≤(c:Int))=false:=by simp;omega
     have d57:decide ((c:Int)≤57)=true:=by simp;omega
     have n46:((c:Int)==46)=false:=by simp;omega
     have n95:((c:Int)==95)=false:=by simp;omega
     have n45:((c:Int)==45)=false:=by simp;omega
     have Hkc:=Qh (show keyChar ch=false by rw [hkc];simp;omega)
     clear hkc hc
     go_wp2
     go_round
     case rel=>exact ⟨k+1,false,by omega,by go_num,rfl,by rw [Htk.out,List.all_append,Hr.out];simp [Hkc.out]⟩
     case measure=>simp [intOf];omega
    ·have d97:decide (97≤(c:Int))=false:=by simp;omega
     have d122:decide ((c:Int)≤122)=true:=by simp;omega
     have d48:decide (48≤(c:Int))=true:=by simp;omega
     have d57:decide ((c:Int)≤57)=false:=by simp;omega
     have n46:((c:Int)==46)=false:=by simp;omega
     have n95:((c:Int)==95)=false:=by simp;omega
     have n45:((c:Int)==45)=false:=by simp;omega
     have Hkc:=Qh (show keyChar ch=false by rw [hkc];simp;omega)
     clear hkc hc
     go_wp2
     go_round
     case rel=>exact ⟨k+1,false,by omega,by go_num,rfl,by rw [Htk.out,List.all_append,Hr.out];simp [Hkc.out]⟩
     case measure=>simp [intOf];omega
   ·have hall:s.take k=s:=List.take_of_length_le (by omega)
    rw [hall] at Hr
    clear hall
    go_wp2
    go_ret
    exact ⟨Xan (by rw [Hok.out,Hr.out]),Qb _ _⟩
theorem Xp6 {l:List Bytes} (q:Bytes) (h:l≠ []):joinP (l++ [q])=joinP l++47::q:=by
 induction l with
 |nil=>exact absurd rfl h
 |cons p l ih=>
  cases l with
  |nil=>rfl
  |cons r l=>
   rw [List.cons_append,Xbm p (by simp),Xbm p (by simp),ih (by simp)]
   simp
theorem Xd5:∀(a b:List Bytes),(joinP a).length≤(joinP (a++b)).length
 | [],_=>Nat.zero_le _
 | [p],[]=>Qn _
 | [p],q::b=>by
   rw [List.singleton_append,show joinP [p]=p from rfl,Xbm p (show q::b≠ [] by simp)]
   simp
 |p::q::a,b=>by
  have:=Xd5 (q::a) b
  rw [List.cons_append,Xbm p (by simp),Xbm p (by simp)]
  simp only [List.length_append,List.length_cons]
  omega
theorem Xdo (l:List Bytes) (k:Nat):(joinP (l.take k)).length≤(joinP l).length:=by
 conv=>rhs;rw [←List.take_append_drop k l]
 exact Xd5 _ _
set_option maxRecDepth 100000 in
set_option maxHeartbeats 400000 in
theorem Xpy (I:IH) (v:Value) (l:List Bytes) (hv:RdS tStr I v l) (hj:(joinP l).length≤4294967296) (w:World) (hw:Ok I w):
 Calls Tryz.prog 168 #[v] w fun e w'=>e= .returned (S (joinP l))∧Below w.heap.size w w':=by
 have hlen:=hv.len_le
 obtain ⟨ao,cap,rfl,hcap,hcm,_⟩:=id hv
 have Hv:=Qh hv;clear hv
 have Hj:=Qh hj
 go_enter Tryz.func168,Tryz.ntmps168
 go_wp2_with fail
 go_loopw [3,4] (fun s3 s4 wr=> ∃(k:Nat) (p:Bytes),k≤l.length∧s4= .int .i64 k∧s3=S p∧joinP (l.take k)=p∧Below w.heap.size w wr) (fun _ i _=>l.length-(intOf i).toNat)
 case atStart=>exact ⟨0,[],Nat.zero_le _,rfl,rfl,rfl,Qb _ _⟩
 case round=>
  obtain ⟨k,p,hk,rfl,rfl,hr,hb⟩:=hrel
  have Hr:=Qh hr;clear hr
  have hwr:Ok I wr:=hw.below (Qn _) hb
  by_cases hlt:k<l.length
  ·obtain ⟨q,b,off,cap',hlq,hvv,hc⟩:=Xhh Hv.out hwr k hlt
   cases hvv
   have Htk:=Qh (show l.take (k+1)=l.take k++ [q] by rw [List.take_succ_eq_append_getElem hlt,hlq])
   have hjk:=Xdo l (k+1)
   have Hjk:=Qh hjk
   clear hlq hjk
   by_cases hk0:k=0
   ·have hd:decide (0<k)=false:=Qf (by omega)
    have Hn:=Qh (show joinP (l.take (k+1))=p++q by rw [Htk.out,←Hr.out,hk0];simp [joinP])
    have hk1:k<1:=by omega
    have hpq:p.length+q.length≤4294967296:=by have:=Hjk.out;rw [Hn.out] at this;simp at this;omega
    clear hk0 hd
    go_wp2
    go_roundw
    case rel=>exact ⟨k+1,p++q,by omega,by go_num,(by first|rfl|simp),Hn.out,hb⟩
    case measure=>simp [intOf];omega
   ·have hd:decide (0<k)=true:=Qt (by omega)
    have Hn:=Qh (show joinP (l.take (k+1))=p++ [47]++q by
     rw [Htk.out,Xp6 q (fun e=>by have:=congrArg List.length e;rw [List.length_take] at this;simp only [List.length_nil] at this;omega),Hr.out];simp)
    have hk1:0<k:=by omega
    have hpq:p.length+q.length+1≤4294967296:=by have:=Hjk.out;rw [Hn.out] at this;simp at this;omega
    clear hk0 hd
    go_wp2
    go_roundw
    case rel=>exact ⟨k+1,p++ [47]++q,by omega,by go_num,(by first|rfl|simp),Hn.out,hb⟩
    case measure=>simp [intOf];omega
  ·have Hn:=Qh (show joinP l=p by rw [←Hr.out,List.take_of_length_le (by omega)])
   go_wp2
   go_ret
   exact ⟨Xmz Hn.out.symm,hb⟩
theorem RdS.takeS {α:Type} {T:Ty α} {I:IH} {l:List α} {ao:Option Addr} {m cap:Nat} (h:RdS T I (.slice ao m cap) l) {n:Nat} (hn:n≤l.length):RdS T I (.slice ao n cap) (l.take n):=by
 obtain ⟨ao',cap',e,h1,h2,h3⟩:=h
 injection e with e1 e2 e3
 subst e1 e3
 have hl:(l.take n).length=n:=by rw [List.length_take,Nat.min_eq_left hn]
 refine ⟨_,_,by rw [hl],by omega,h2,fun h0=> ?_⟩
 obtain ⟨b,off,arr,k1,k2,k3⟩:=h3 (by omega)
 refine ⟨b,off,arr,k1,k2,fun i hi=> ?_⟩
 obtain ⟨cs,c1,c2⟩:=k3 i (by omega)
 exact ⟨cs,by rw [List.getElem_take];exact c1,c2⟩
theorem Xib:∀(s p:Bytes) (q:Bytes),q∈elsGo p s→q.length≤p.length+s.length
 | [],p,q,h=>by
   rw [elsGo] at h
   simp at h
   subst h
   simp
 |c::s,p,q,h=>by
  rw [elsGo] at h
  split at h
  ·rcases List.mem_cons.1 h with rfl|h
   ·simp only [List.length_cons];omega
   ·have:=Xib s [] q h
    simp only [List.length_cons,List.length_nil] at this ⊢
    omega
  ·have:=Xib s _ q h
   simp only [List.length_append,List.length_cons,List.length_nil] at this ⊢
   omega
theorem Xsq {s q:Bytes} (h:q∈els s):q.length≤s.length:=by
 unfold els at h
 split at h
 ·exact absurd h (by simp)
 ·have:=Xib s [] q h
  simpa using this
set_option maxRecDepth 100000 in
set_option maxHeartbeats 400000 in
theorem Xdj (I:IH) (s:Bytes) (w:World) (hw:Ok I w):
 Calls Tryz.prog 151 #[S s] w fun e w'=>e= .returned (.int .i64 (pathErr s))∧Below w.heap.size w w':=by
 by_cases h200:s.length≤200
 case neg=>
  have hd:decide (200<s.length)=true:=Qt (by omega)
  have Hp:=Qh (show pathErr s=6 by rw [pathErr,if_pos (by omega)])
  go_enter Tryz.func151,Tryz.ntmps151
  go_wp2
  go_ret
  exact ⟨Xac Hp.out.symm,Qb _ _⟩
 have hd:decide (200<s.length)=false:=Qf (by omega)
 have Hel:=Qh (fun (q:Bytes) (h:q∈els s)=>Xsq h)
 have Hp:=Qh (show pathErr s=if 8<(els s).length then 6 else if (els s).all comp then 0 else 7 by rw [pathErr,if_neg (by omega)])
 go_enter Tryz.func151,Tryz.ntmps151
 go_wp2_with fail
 refine (Xa7 I s (by omega) _ hw).mono ?_
 generalize els s=l at Hel Hp
 rintro e w1 ⟨v1,I1,rfl,hb1,hx1,hok1,hr1⟩
 obtain ⟨ao,cap,rfl,hcap,hcm,_⟩:=id hr1
 have Hr1:=Qh hr1
 clear hr1 hx1
 by_cases h8:l.length≤8
 case neg=>
  have hd8:decide (8<l.length)=true:=Qt (by omega)
  have Hp2:=Qh (show pathErr s=6 by rw [Hp.out,if_pos (by omega)])
  go_wp2
  go_ret
  exact ⟨Xac Hp2.out.symm,hb1⟩
 have hd8:decide (8<l.length)=false:=Qf (by omega)
 have Hp2:=Qh (show pathErr s=if l.all comp then 0 else 7 by rw [Hp.out,if_neg (by omega)])
 go_wp2_with fail
 go_loopw [4] (fun s4 wr=> ∃k:Nat,k≤l.length∧s4= .int .i64 k∧(l.take k).all comp=true∧Below w1.heap.size w1 wr) (fun i _=>l.length-(intOf i).toNat)
 case atStart=>exact ⟨0,Nat.zero_le _,rfl,rfl,Qb _ _⟩
 case round=>
  obtain ⟨k,hk,rfl,hr,hb⟩:=hrel
  have Hr:=Qh hr;clear hr
  have hwr:Ok I1 wr:=hok1.below (Qn _) hb
  by_cases hlt:k<l.length
  ·obtain ⟨q,b,off,cap',hlq,hvv,hc⟩:=Xhh Hr1.out hwr k hlt
   cases hvv
   have hqm:q∈l:=by rw [←hlq];exact List.getElem_mem hlt
   have hql:q.length≤9223372036854775807:=by have:=Hel.out q hqm;omega
   have Hqm:=Qh hqm
   have Htk:=Qh (show l.take (k+1)=l.take k++ [q] by rw [List.take_succ_eq_append_getElem hlt,hlq])
   clear hlq hqm
   go_wp2_with fail
   refine (Xhp q hql _).mono ?_
   rintro e w2 ⟨rfl,hb2⟩
   have hb2':=hb.trans (hb2.mono hb.size)
   clear hb2
   cases hq:comp q
   ·have Hn:=Qh (show pathErr s=7 by
     rw [Hp2.out,if_neg]
     intro h
     rw [List.all_eq_true.1 h q Hqm.out] at hq
     exact absurd hq (by simp))
    clear hq
    go_wp2
    go_ret
    exact ⟨Xac Hn.out.symm,hb1.trans (hb2'.mono hb1.size)⟩
   ·have Hn:=Qh (show (l.take (k+1)).all comp=true by rw [Htk.out,List.all_append,Hr.out];simp [hq])
    clear hq
    go_wp2
    go_roundw
    case rel=>exact ⟨k+1,by omega,by go_num,Hn.out,hb2'⟩
    case measure=>simp [intOf];omega
  ·have Hn:=Qh (show pathErr s=0 by
    have:=Hr.out
    rw [List.take_of_length_le (by omega)] at this
    rw [Hp2.out,if_pos this])
   go_wp2
   go_ret
   exact ⟨Xac Hn.out.symm,hb1.trans (hb.mono hb1.size)⟩
def splP (s:Bytes):List Bytes × Int:=if pathErr s=0 then (els s,0) else ([],pathErr s)
theorem Xfw {s:Bytes} (h:pathErr s=0):splP s=(els s,0):=by rw [splP,if_pos h]
theorem Xjt {s:Bytes} (h:pathErr s≠0):splP s=([],pathErr s):=by rw [splP,if_neg h]
set_option maxRecDepth 100000 in
set_option maxHeartbeats 400000 in
theorem Xho (I:IH) (s:Bytes) (w:World) (hw:Ok I w):
 Calls Tryz.prog 167 #[S s] w (RetL tStr I w (splP s).1 (splP s).2):=by
 have Hc:=Qh (Xdj I s w hw)
 by_cases h0:pathErr s=0
 ·have hs:=(Xax h0).1
  rw [h0] at Hc
  have Hspl:=Qh (Xfw h0)
  clear h0
  go_enter Tryz.func167,Tryz.ntmps167
  go_wp2_with fail
  refine Hc.out.mono ?_
  rintro e w1 ⟨rfl,hb1⟩
  have hok1:Ok I w1:=hw.below (Qn _) hb1
  go_wp2_with fail
  refine (Xa7 I s (by omega) _ hok1).mono ?_
  rintro e w2 ⟨v2,I2,rfl,hb2,hx2,hok2,hr2⟩
  go_wp2
  go_ret2
  rw [Hspl.out]
  exact ⟨v2,I2,rfl,hb1.trans (hb2.mono hb1.size),hx2.mono hb1.size,hok2,hr2⟩
 ·have Hspl:=Qh (Xjt h0)
  obtain ⟨q,hq⟩:∃q,pathErr s=q:=⟨_,rfl⟩
  have hn:(q != 0)=true:=by rw [←hq];simpa using h0
  rw [hq] at Hspl Hc
  clear hq h0
  go_enter Tryz.func167,Tryz.ntmps167
  go_wp2_with fail
  refine Hc.out.mono ?_
  rintro e w1 ⟨rfl,hb1⟩
  have hok1:Ok I w1:=hw.below (Qn _) hb1
  go_wp2
  go_ret2
  rw [Hspl.out]
  exact ⟨_,I,rfl,hb1,Ext.refl _ _,hok1,RdS.nil _ _⟩
def parP (s:Bytes):Bytes × Int:=if pathErr s≠0 then ([],pathErr s) else if s= [] then ([],1) else (upP s,0)
set_option maxRecDepth 100000 in
set_option maxHeartbeats 400000 in
theorem Xky (I:IH) (s:Bytes) (w:World) (hw:Ok I w):
 Calls Tryz.prog 110 #[S s] w fun e w'=>e= .returned (.tuple #[S (parP s).1,.int .i64 (parP s).2])∧Below w.heap.size w w':=by
 by_cases h0:pathErr s=0
 ·have Hsp:=Qh (fun w hw=>by have:=Xho I s w hw;rw [Xfw h0] at this;exact this)
  have hs:=(Xax h0).1
  have Hpp:=Qh (show parP s=if s= [] then ([],1) else (upP s,0) by rw [parP,if_neg (by omega)])
  have hjl:(joinP (els s)).length≤200:=by rw [Xff];exact hs
  have hel:=Xsp (s:=s)
  have hup:upP s=joinP ((els s).take ((els s).length-1)):=by rw [upP,List.dropLast_eq_take]
  have Hjt:=Qh (Xdo (els s) ((els s).length-1))
  generalize els s=l at Hsp hjl hel hup Hjt
  have Hel:=Qh hel
  have Hup:=Qh hup
  clear h0 hel hup
  go_enter Tryz.func110,Tryz.ntmps110
  go_wp2_with fail
  refine (Hsp.out _ hw).mono ?_
  rintro e w1 ⟨v1,I1,rfl,hb1,hx1,hok1,hr1⟩
  obtain ⟨ao,cap,rfl,hcap,hcm,_⟩:=id hr1
  have Hr1:=Qh hr1
  clear hr1 hx1
  have hml:maxLen=9223372036854775807:=rfl
  by_cases hl0:l.length=0
  ·have Hn:=Qh (show parP s=([],1) by rw [Hpp.out,if_pos (Hel.out.1 (List.eq_nil_of_length_eq_zero hl0))])
   have hz:((l.length:Int)==0)=true:=by rw [hl0];rfl
   clear hl0 hml
   go_wp2
   go_ret2
   rw [Hn.out]
   exact ⟨rfl,hb1⟩
  ·have Hn:=Qh (show parP s=(joinP (l.take (l.length-1)),0) by
    rw [Hpp.out,if_neg (fun e=>hl0 (by rw [Hel.out.2 e];rfl)),Hup.out])
   have hz:((l.length:Int)==0)=false:=by rw [beq_eq_false_iff_ne];omega
   have hlp:1≤l.length:=by omega
   have hi:IntKind.i64.wrap ((l.length:Int)-1)=(l.length:Int)-1:=IntWalk.i64_in _ (by omega)
   have hj:(0:Int)≤(l.length:Int)-1:=by omega
   have hj2:(l.length:Int)-1≤(cap:Int):=by omega
   have hm:((l.length:Int)-1).toNat=l.length-1:=by omega
   have Hr2:=Qh (Hr1.out.takeS (n:=l.length-1) (by omega))
   have Hj2:=Qh (show (joinP (l.take (l.length-1))).length≤4294967296 by have:=Hjt.out;omega)
   clear hl0 hml
   go_wp2_with fail
   refine (Xpy I1 _ _ Hr2.out Hj2.out _ hok1).mono ?_
   rintro e w2 ⟨rfl,hb2⟩
   go_wp2
   go_ret2
   rw [Hn.out]
   exact ⟨rfl,hb1.trans (hb2.mono hb1.size)⟩
 ·have Hsp:=Qh (fun w hw=>by have:=Xho I s w hw;rw [Xjt h0] at this;exact this)
  obtain ⟨q,hq⟩:∃q,pathErr s=q:=⟨_,rfl⟩
  have hn:(q != 0)=true:=by rw [←hq];simpa using h0
  have Hpp:=Qh (show parP s=([],q) by rw [parP,if_pos h0,hq])
  rw [hq] at Hsp
  clear hq h0
  go_enter Tryz.func110,Tryz.ntmps110
  go_wp2_with fail
  refine (Hsp.out _ hw).mono ?_
  rintro e w1 ⟨v1,I1,rfl,hb1,hx1,hok1,hr1⟩
  obtain ⟨ao,cap,rfl,hcap,hcm,_⟩:=id hr1
  go_wp2
  go_ret2
  rw [Hpp.out]
  exact ⟨rfl,hb1⟩
theorem Xht (l d:List Bytes):d.isPrefixOf l=decide (l.take d.length=d):=by
 rw [Bool.eq_iff_iff,List.isPrefixOf_iff_prefix,decide_eq_true_iff,List.prefix_iff_eq_take]
 exact ⟨fun h=>h.symm,fun h=>h.symm⟩
theorem Xgd {l d:List Bytes} (h:l.length<d.length):d.isPrefixOf l=false:=by
 cases hp:d.isPrefixOf l with
 |false=>rfl
 |true=>have:=(List.isPrefixOf_iff_prefix.1 hp).length_le;omega
set_option maxRecDepth 100000 in
set_option maxHeartbeats 1000000 in
theorem Xdi (I:IH) (p d:Bytes) (w:World) (hw:Ok I w):
 Calls Tryz.prog 209 #[S p,S d] w fun e w'=>e= .returned (.bool (under p d))∧Below w.heap.size w w':=by
 have Hcp:=Qh (fun w hw=>Xdj I p w hw)
 have Hcd:=Qh (fun w hw=>Xdj I d w hw)
 by_cases h0:pathErr p=0
 case neg=>
  have Hu:=Qh (show under p d=false by rw [under,Qf h0];rfl)
  obtain ⟨q,hq⟩:∃q,pathErr p=q:=⟨_,rfl⟩
  have hn:(q != 0)=true:=by rw [←hq];simpa using h0
  rw [hq] at Hcp
  clear hq h0
  go_enter Tryz.func209,Tryz.ntmps209
  go_wp2_with fail
  refine (Hcp.out _ hw).mono ?_
  rintro e w1 ⟨rfl,hb1⟩
  go_wp2
  go_ret
  exact ⟨Xan Hu.out.symm,hb1⟩
 by_cases h1:pathErr d=0
 case neg=>
  have Hu:=Qh (show under p d=false by rw [under,Qf h1,Bool.and_false];rfl)
  obtain ⟨q,hq⟩:∃q,pathErr d=q:=⟨_,rfl⟩
  have hn:(q != 0)=true:=by rw [←hq];simpa using h1
  rw [hq] at Hcd
  rw [h0] at Hcp
  clear hq h1 h0
  go_enter Tryz.func209,Tryz.ntmps209
  go_wp2_with fail
  refine (Hcp.out _ hw).mono ?_
  rintro e w1 ⟨rfl,hb1⟩
  go_wp2_with fail
  refine (Hcd.out _ (hw.below (Qn _) hb1)).mono ?_
  rintro e w2 ⟨rfl,hb2⟩
  go_wp2
  go_ret
  exact ⟨Xan Hu.out.symm,hb1.trans (hb2.mono hb1.size)⟩
 have hp:=(Xax h0).1
 have hd:=(Xax h1).1
 have Hu:=Qh (show under p d=(els d).isPrefixOf (els p) by rw [under,Qt h0,Qt h1];rfl)
 have Hep:=Qh (fun I w hw=>Xa7 I p (by omega) w hw)
 have Hed:=Qh (fun I w hw=>Xa7 I d (by omega) w hw)
 rw [h0] at Hcp
 rw [h1] at Hcd
 generalize els p=l at Hu Hep
 generalize els d=m at Hu Hed
 clear h0 h1
 go_enter Tryz.func209,Tryz.ntmps209
 go_wp2_with fail
 refine (Hcp.out _ hw).mono ?_
 rintro e w1 ⟨rfl,hb1⟩
 have hok1:Ok I w1:=hw.below (Qn _) hb1
 go_wp2_with fail
 refine (Hcd.out _ hok1).mono ?_
 rintro e w2 ⟨rfl,hb2⟩
 have hok2:Ok I w2:=hok1.below (Qn _) hb2
 have hb2':=hb1.trans (hb2.mono hb1.size)
 clear hb1 hb2
 go_wp2_with fail
 refine (Hep.out I _ hok2).mono ?_
 rintro e w3 ⟨v3,I3,rfl,hb3,hx3,hok3,hr3⟩
 have hb3':=hb2'.trans (hb3.mono hb2'.size)
 have Hr3:=Qh hr3
 clear hr3 hb3
 go_wp2_with fail
 refine (Hed.out I3 _ hok3).mono ?_
 rintro e w4 ⟨v4,I4,rfl,hb4,hx4,hok4,hr4⟩
 have hb4':=hb3'.trans (hb4.mono hb3'.size)
 have hr3:=Hr3.out.mono (hx4.keep hok3 (Qn _))
 have hlen:=hr3.len_le
 have hlen2:=hr4.len_le
 obtain ⟨ao,cap,rfl,hcap,hcm,_⟩:=id hr3
 obtain ⟨ao2,cap2,rfl,hcap2,hcm2,_⟩:=id hr4
 have Hl:=Qh hr3
 have Hm:=Qh hr4
 clear hr3 hr4 Hr3 hb4 hx4 hx3 hok3 hb2' hb3'
 by_cases hlm:m.length≤l.length
 case neg=>
  have hn:decide (l.length<m.length)=true:=Qt (by omega)
  have Hu2:=Qh (show under p d=false by rw [Hu.out];exact Xgd (by omega))
  go_wp2
  go_ret
  exact ⟨Xan Hu2.out.symm,hb4'⟩
 have hn:decide (l.length<m.length)=false:=Qf (by omega)
 have Hu2:=Qh (show under p d=decide (l.take m.length=m) by rw [Hu.out];exact Xht l m)
 have HB:=Qh hb4'
 clear hb4'
 go_wp2_with fail
 go_loopw [7] (fun s7 wr=> ∃k:Nat,k≤m.length∧s7= .int .i64 k∧l.take k=m.take k∧Below w4.heap.size w4 wr) (fun i _=>m.length-(intOf i).toNat)
 case atStart=>exact ⟨0,Nat.zero_le _,rfl,rfl,Qb _ _⟩
 case round=>
  obtain ⟨k,hk,rfl,hr,hb⟩:=hrel
  have Hr:=Qh hr;clear hr
  have hwr:Ok I4 wr:=hok4.below (Qn _) hb
  by_cases hlt:k<m.length
  ·obtain ⟨x,b,off,cap',hlx,hvv,hx0⟩:=Xhh Hl.out hwr k (by omega)
   cases hvv
   obtain ⟨y,b',off',cap'',hly,hvv,hy0⟩:=Xhh Hm.out hwr k hlt
   cases hvv
   have Hlx:=Qh hlx
   have Hly:=Qh hly
   have hlt2:k<l.length:=by omega
   have g0:=cell_regrown hx0
   have g1:=cell_regrown hy0
   clear hlx hly
   by_cases hxy:x=y
   ·have f1:(x != y)=false:=by simp [hxy]
    have f2:(x==y)=true:=by simp [hxy]
    have Hn:=Qh (show l.take (k+1)=m.take (k+1) by rw [List.take_succ_eq_append_getElem hlt2,List.take_succ_eq_append_getElem hlt,Hr.out,Hlx.out,Hly.out,hxy])
    clear hxy
    go_wp2_with fail
    refine wp_region_quiet_below (by kernel_rfl) (by kernel_rfl) ?_
    repeat (go_big_quiet_step ((fail)))
    refine wpQuiet_nil ?_
    intro w5 hwq
    have hb5:Below (wr).heap.size (wr) w5:=by
     obtain ⟨pq,rfl⟩:=hwq
     exact below_regrown _ _ _
    clear hwq
    go_wp2
    go_roundw
    case rel=>exact ⟨k+1,by omega,by go_num,Hn.out,hb.trans (hb5.mono hb.size)⟩
    case measure=>simp [intOf];omega
   ·have f1:(x != y)=true:=by simpa using hxy
    have f2:(x==y)=false:=by simpa using hxy
    have Hn:=Qh (show under p d=false by
     rw [Hu2.out,Qf]
     intro h
     apply hxy
     rw [←Hlx.out,←Hly.out]
     have:=congrArg (fun z=>z[k]?) h
     simp only [List.getElem?_take_of_lt hlt] at this
     rw [List.getElem?_eq_getElem hlt2,List.getElem?_eq_getElem hlt] at this
     exact Option.some.inj this)
    clear hxy
    go_wp2_with fail
    refine wp_region_quiet_below (by kernel_rfl) (by kernel_rfl) ?_
    repeat (go_big_quiet_step ((fail)))
    refine wpQuiet_nil ?_
    intro w5 hwq
    have hb5:Below (wr).heap.size (wr) w5:=by
     obtain ⟨pq,rfl⟩:=hwq
     exact below_regrown _ _ _
    clear hwq
    go_wp2
    go_ret
    exact ⟨Xan Hn.out.symm,HB.out.trans ((hb.trans (hb5.mono hb.size)).mono HB.out.size)⟩
  ·have Hn:=Qh (show under p d=true by
    have:=Hr.out
    rw [show k=m.length by omega,List.take_of_length_le (l:=m) (Qn _)] at this
    rw [Hu2.out,Qt this])
   go_wp2
   go_ret
   exact ⟨Xan Hn.out.symm,HB.out.trans (hb.mono HB.out.size)⟩
set_option maxRecDepth 100000 in
set_option maxHeartbeats 1000000 in
theorem Xb8 (I:IH) (p d:Bytes) (hp:p.length≤4294967280) (hd:d.length≤4294967280) (w:World) (hw:Ok I w):
 Calls Tryz.prog 109 #[S p,S d] w fun e w'=>e= .returned (.int .i64 (cmpP p d))∧Below w.heap.size w w':=by
 have Hu:=Qh (Xs6 p d)
 have Hep:=Qh (fun I w hw=>Xa7 I p hp w hw)
 have Hed:=Qh (fun I w hw=>Xa7 I d hd w hw)
 generalize els p=l at Hu Hep
 generalize els d=m at Hu Hed
 go_enter Tryz.func109,Tryz.ntmps109
 go_wp2_with fail
 refine (Hep.out I _ hw).mono ?_
 rintro e w3 ⟨v3,I3,rfl,hb3,hx3,hok3,hr3⟩
 have Hr3:=Qh hr3
 clear hr3
 go_wp2_with fail
 refine (Hed.out I3 _ hok3).mono ?_
 rintro e w4 ⟨v4,I4,rfl,hb4,hx4,hok4,hr4⟩
 have HB:=Qh (hb3.trans (hb4.mono hb3.size))
 have hr3:=Hr3.out.mono (hx4.keep hok3 (Qn _))
 have hlen:=hr3.len_le
 have hlen2:=hr4.len_le
 obtain ⟨ao,cap,rfl,hcap,hcm,_⟩:=id hr3
 obtain ⟨ao2,cap2,rfl,hcap2,hcm2,_⟩:=id hr4
 have Hl:=Qh hr3
 have Hm:=Qh hr4
 clear hr3 hr4 Hr3 hb4 hx4 hx3 hok3 hb3
 go_wp2_with fail
 go_loopw [7] (fun s7 wr=> ∃k:Nat,k≤l.length∧k≤m.length∧s7= .int .i64 k∧l.take k=m.take k∧Below w4.heap.size w4 wr) (fun i _=>m.length-(intOf i).toNat)
 case atStart=>exact ⟨0,Nat.zero_le _,Nat.zero_le _,rfl,rfl,Qb _ _⟩
 case round=>
  obtain ⟨k,hk,hk2,rfl,hr,hb⟩:=hrel
  have Hr:=Qh hr
  have Hcd:=Qh (Xmb hr hk hk2)
  clear hr
  have hwr:Ok I4 wr:=hok4.below (Qn _) hb
  by_cases hlt:k<l.length
  case neg=>
   have Hdl:=Qh (show l.drop k= [] from List.drop_of_length_le (by omega))
   by_cases hlt2:k<m.length
   ·have hd1:decide (l.length<m.length)=true:=Qt (by omega)
    have Hn:=Qh (show cmpP p d= -1 by rw [Hu.out,Hcd.out,Hdl.out,List.drop_eq_getElem_cons hlt2];rfl)
    go_wp2
    go_ret
    exact ⟨Xac Hn.out.symm,HB.out.trans (hb.mono HB.out.size)⟩
   ·have hd1:decide (l.length<m.length)=false:=Qf (by omega)
    have hd2:decide (m.length<l.length)=false:=Qf (by omega)
    have Hn:=Qh (show cmpP p d=0 by rw [Hu.out,Hcd.out,Hdl.out,List.drop_of_length_le (by omega)];rfl)
    go_wp2
    go_ret
    exact ⟨Xac Hn.out.symm,HB.out.trans (hb.mono HB.out.size)⟩
  by_cases hlt2:k<m.length
  case neg=>
   have hd1:decide (l.length<m.length)=false:=Qf (by omega)
   have hd2:decide (m.length<l.length)=true:=Qt (by omega)
   have Hn:=Qh (show cmpP p d=1 by rw [Hu.out,Hcd.out,List.drop_of_length_le (l:=m) (by omega),List.drop_eq_getElem_cons hlt];rfl)
   go_wp2
   go_ret
   exact ⟨Xac Hn.out.symm,HB.out.trans (hb.mono HB.out.size)⟩
  obtain ⟨x,b,off,cap',hlx,hvv,hx0⟩:=Xhh Hl.out hwr k hlt
  cases hvv
  obtain ⟨y,b',off',cap'',hly,hvv,hy0⟩:=Xhh Hm.out hwr k hlt2
  cases hvv
  have Hcd2:=Qh (show cmpP p d=cmpL (x::l.drop (k+1)) (y::m.drop (k+1)) by rw [Hu.out,Hcd.out,List.drop_eq_getElem_cons hlt,List.drop_eq_getElem_cons hlt2,hlx,hly])
  have Hlx:=Qh hlx
  have Hly:=Qh hly
  have g0:=cell_regrown hx0
  have g1:=cell_regrown hy0
  clear hlx hly
  rcases Xel x y with ht|ht|ht
  ·have Hn:=Qh (show cmpP p d= -1 by rw [Hcd2.out];exact Xgo ht _ _)
   go_wp2_with fail
   refine wp_region_quiet_below (by kernel_rfl) (by kernel_rfl) ?_
   repeat (go_big_quiet_step ((fail)))
   refine wpQuiet_nil ?_
   intro w5 hwq
   have hb5:Below (wr).heap.size (wr) w5:=by
    obtain ⟨pq,rfl⟩:=hwq
    exact below_regrown _ _ _
   clear hwq
   go_wp2
   go_ret
   exact ⟨Xac Hn.out.symm,HB.out.trans ((hb.trans (hb5.mono hb.size)).mono HB.out.size)⟩
  ·have f1:Op.bytesLess x y=false:=by rw [ht];exact Xbb _
   have f2:Op.bytesLess y x=false:=by rw [ht];exact Xbb _
   have f3:(x==y)=true:=by simp [ht]
   have f4:(!(x==y))=false:=by simp [ht]
   have Hn:=Qh (show l.take (k+1)=m.take (k+1) by rw [List.take_succ_eq_append_getElem hlt,List.take_succ_eq_append_getElem hlt2,Hr.out,Hlx.out,Hly.out,ht])
   clear ht
   go_wp2_with fail
   refine wp_region_quiet_below (by kernel_rfl) (by kernel_rfl) ?_
   repeat (go_big_quiet_step ((fail)))
   refine wpQuiet_nil ?_
   intro w5 hwq
   have hb5:Below (wr).heap.size (wr) w5:=by
    obtain ⟨pq,rfl⟩:=hwq
    exact below_regrown _ _ _
   clear hwq
   have hb5':=hb.trans (hb5.mono hb.size)
   have hx1:=Xaa hb5 hx0
   have hy1:=Xaa hb5 hy0
   have g0:=cell_regrown hx1
   have g1:=cell_regrown hy1
   clear hb5 hx0 hy0
   go_wp2_with fail
   refine wp_region_quiet_below (by kernel_rfl) (by kernel_rfl) ?_
   repeat (go_big_quiet_step ((fail)))
   refine wpQuiet_nil ?_
   intro w6 hwq
   have hb6:Below (w5).heap.size (w5) w6:=by
    obtain ⟨pq,rfl⟩:=hwq
    exact below_regrown _ _ _
   clear hwq
   go_wp2
   go_roundw
   case rel=>exact ⟨k+1,by omega,by omega,by go_num,Hn.out,hb5'.trans (hb6.mono hb5'.size)⟩
   case measure=>simp [intOf];omega
  ·have f1:=Xem ht
   have f3:(x==y)=false:=by simpa using (Xqk ht).symm
   have f4:(!(x==y))=true:=by rw [f3];rfl
   have Hn:=Qh (show cmpP p d=1 by rw [Hcd2.out];exact Xgp ht _ _)
   go_wp2_with fail
   refine wp_region_quiet_below (by kernel_rfl) (by kernel_rfl) ?_
   repeat (go_big_quiet_step ((fail)))
   refine wpQuiet_nil ?_
   intro w5 hwq
   have hb5:Below (wr).heap.size (wr) w5:=by
    obtain ⟨pq,rfl⟩:=hwq
    exact below_regrown _ _ _
   clear hwq
   have hb5':=hb.trans (hb5.mono hb.size)
   have hx1:=Xaa hb5 hx0
   have hy1:=Xaa hb5 hy0
   have g0:=cell_regrown hx1
   have g1:=cell_regrown hy1
   clear hb5 hx0 hy0
   go_wp2_with fail
   refine wp_region_quiet_below (by kernel_rfl) (by kernel_rfl) ?_
   repeat (go_big_quiet_step ((fail)))
   refine wpQuiet_nil ?_
   intro w6 hwq
   have hb6:Below (w5).heap.size (w5) w6:=by
    obtain ⟨pq,rfl⟩:=hwq
    exact below_regrown _ _ _
   clear hwq
   go_wp2
   go_ret
   exact ⟨Xac Hn.out.symm,HB.out.trans ((hb5'.trans (hb6.mono hb5'.size)).mono HB.out.size)⟩
def nameP (k:Int):Bytes:=if k=1 then [102,105,108,101] else if k=2 then [100,105,114] else if k=3 then [108,105,110,107] else if k=4 then [114,101,109,111,118,101] else if k=5 then [104,111,108,100] else if k=6 then [114,101,108,101,97,115,101] else []
theorem nameP_nil {k:Int}:nameP k= []↔k<1∨6<k:=by
 unfold nameP
 constructor
 ·intro h
  by_cases h1:k<1∨6<k
  ·exact h1
  ·have:k=1∨k=2∨k=3∨k=4∨k=5∨k=6:=by omega
   rcases this with rfl|rfl|rfl|rfl|rfl|rfl<;>simp at h
 ·intro h
  rw [if_neg (by omega),if_neg (by omega),if_neg (by omega),if_neg (by omega),if_neg (by omega),if_neg (by omega)]
set_option maxRecDepth 100000 in
set_option maxHeartbeats 400000 in
theorem Xi2 (k:Int) (w:World):Calls Tryz.prog 150 #[.int .i64 k] w fun e w'=>e= .returned (S (nameP k))∧w'=w:=by
 by_cases h1:k=1
 case pos=>
  subst h1
  rw [show nameP 1= [102,105,108,101] from rfl]
  go_enter Tryz.func150,Tryz.ntmps150
  go_wp2
  go_ret
  exact ⟨rfl,rfl⟩
 by_cases h2:k=2
 case pos=>
  subst h2
  rw [show nameP 2= [100,105,114] from rfl]
  go_enter Tryz.func150,Tryz.ntmps150
  go_wp2
  go_ret
  exact ⟨rfl,rfl⟩
 by_cases h3:k=3
 case pos=>
  subst h3
  rw [show nameP 3= [108,105,110,107] from rfl]
  go_enter Tryz.func150,Tryz.ntmps150
  go_wp2
  go_ret
  exact ⟨rfl,rfl⟩
 by_cases h4:k=4
 case pos=>
  subst h4
  rw [show nameP 4= [114,101,109,111,118,101] from rfl]
  go_enter Tryz.func150,Tryz.ntmps150
  go_wp2
  go_ret
  exact ⟨rfl,rfl⟩
 by_cases h5:k=5
 case pos=>
  subst h5
  rw [show nameP 5= [104,111,108,100] from rfl]
  go_enter Tryz.func150,Tryz.ntmps150
  go_wp2
  go_ret
  exact ⟨rfl,rfl⟩
 by_cases h6:k=6
 case pos=>
  subst h6
  rw [show nameP 6= [114,101,108,101,97,115,101] from rfl]
  go_enter Tryz.func150,Tryz.ntmps150
  go_wp2
  go_ret
  exact ⟨rfl,rfl⟩
 have hn:nameP k= []:=nameP_nil.2 (by omega)
 have f1:(k==1)=false:=by simpa using h1
 have f2:(k==2)=false:=by simpa using h2
 have f3:(k==3)=false:=by simpa using h3
 have f4:(k==4)=false:=by simpa using h4
 have f5:(k==5)=false:=by simpa using h5
 have f6:(k==6)=false:=by simpa using h6
 rw [hn]
 clear hn h1 h2 h3 h4 h5 h6
 go_enter Tryz.func150,Tryz.ntmps150
 go_wp2
 go_ret
 exact ⟨rfl,rfl⟩
def digC (c:UInt8):Bool:=decide (48≤c)&&decide (c≤57)
theorem Xfn (c:UInt8):digC c=(decide (48≤c.toNat)&&decide (c.toNat≤57)):=by
 unfold digC
 simp [UInt8.le_iff_toNat_le]
theorem Xez (l:Bytes) (c:UInt8):digits (l++ [c])=10*digits l+((c.toNat:Int)-48):=by
 simp [digits,List.foldl_append]
theorem Xl3:∀(n:Nat) (l:Bytes),l.length=n→l.all digC=true→0≤digits l∧digits l<10 ^ n:=by
 intro n
 induction n with
 |zero=>
  intro l h _
  have:l= []:=List.eq_nil_of_length_eq_zero h
  subst this
  exact ⟨Int.le_refl _,by decide⟩
 |succ n ih=>
  intro l h ha
  have hne:l≠ []:=by intro e;rw [e] at h;simp at h
  have e:l=l.dropLast++ [l.getLast hne]:=(List.dropLast_concat_getLast hne).symm
  have hl:l.dropLast.length=n:=by rw [List.length_dropLast,h];omega
  rw [e,List.all_append,Bool.and_eq_true] at ha
  obtain ⟨i1,i2⟩:=ih _ hl ha.1
  have hc:=ha.2
  simp only [List.all_cons,List.all_nil,Bool.and_true] at hc
  rw [Xfn,Bool.and_eq_true,decide_eq_true_iff,decide_eq_true_iff] at hc
  rw [e,Xez,Int.pow_succ]
  generalize digits l.dropLast=d at i1 i2
  generalize ((10:Int) ^ n)=p at i1 i2 ⊢
  omega
def dateP (s:Bytes):Int × Bool:=if s.length<1∨10<s.length∨(1<s.length∧s.head? =some 48)∨s.all digC=false then (0,false) else (digits s,decide (digits s≤1000000000))
theorem Xu2 (s:Bytes):(dateP s).2=dateOk s:=by
 unfold dateP dateOk
 have hd:(fun c:UInt8=>decide (48≤c)&&decide (c≤57))=digC:=rfl
 rw [hd]
 by_cases h1:s.length<1
 ·rw [if_pos (.inl h1),Qf (by omega)];rfl
 by_cases h2:10<s.length
 ·rw [if_pos (.inr (.inl h2)),Qf (show ¬s.length≤10 by omega)];simp
 by_cases h3:1<s.length∧s.head? =some 48
 ·rw [if_pos (.inr (.inr (.inl h3)))]
  have:(decide (1<s.length)&&s.head? ==some 48)=true:=by rw [Qt h3.1,h3.2];rfl
  rw [this];simp
 have h3':(decide (1<s.length)&&s.head? ==some 48)=false:=by
  cases h:(decide (1<s.length)&&s.head? ==some 48) with
  |false=>rfl
  |true=>
   rw [Bool.and_eq_true,decide_eq_true_iff,beq_iff_eq] at h
   exact absurd h h3
 rw [h3',Qt (show 1≤s.length by omega),Qt (show s.length≤10 by omega)]
 cases h4:s.all digC
 ·rw [if_pos (.inr (.inr (.inr rfl)))];simp
 ·rw [if_neg (by simp [h1,h2,h3])];simp
set_option maxRecDepth 100000 in
set_option maxHeartbeats 1000000 in
theorem Xpx (s:Bytes) (hs:s.length≤9223372036854775807) (w:World):
 Calls Tryz.prog 218 #[S s] w fun e w'=>e= .returned (.tuple #[.int .i64 (dateP s).1,.bool (dateP s).2])∧Below w.heap.size w w':=by
 by_cases h1:s.length<1
 case pos=>
  have hd1:decide (s.length<1)=true:=Qt h1
  have Hp:=Qh (show dateP s=(0,false) by rw [dateP,if_pos (.inl h1)])
  go_enter Tryz.func218,Tryz.ntmps218
  go_wp2
  go_ret2
  rw [Hp.out]
  exact ⟨rfl,Qb _ _⟩
 have hd1:decide (s.length<1)=false:=Qf h1
 by_cases h2:10<s.length
 case pos=>
  have hd2:decide (10<s.length)=true:=Qt h2
  have Hp:=Qh (show dateP s=(0,false) by rw [dateP,if_pos (.inr (.inl h2))])
  go_enter Tryz.func218,Tryz.ntmps218
  go_wp2
  go_ret2
  rw [Hp.out]
  exact ⟨rfl,Qb _ _⟩
 have hd2:decide (10<s.length)=false:=Qf h2
 have hx0:=run_at Tryz.underlying9 s 0 0 rfl (by omega)
 have he0:((((s.getD 0 0).toNat:Nat):Int)==48)=(s.getD 0 0==UInt8.ofNat 48):=Xxr (s.getD 0 0) 48 (by decide)
 have hh:s.head? =some (s.getD 0 0):=by cases s<;>simp_all
 have hmain:(1<s.length∧s.head? =some 48)∨ ¬(1<s.length∧s.head? =some 48):=Classical.em _
 rcases hmain with h3|h3
 ·have hd3:decide (1<s.length)=true:=Qt h3.1
  have he1:(((s.getD 0 0).toNat:Int)==48)=true:=by
   rw [he0]
   have:=h3.2
   rw [hh] at this
   rw [Option.some.inj this];rfl
  have Hp:=Qh (show dateP s=(0,false) by rw [dateP,if_pos (.inr (.inr (.inl h3)))])
  generalize (s.getD 0 0).toNat=c0 at hx0 he1
  have hc0:c0=48:=by have:=beq_iff_eq.1 he1;omega
  subst hc0
  have h5:=h3.1
  clear h3 he0 hh he1
  go_enter Tryz.func218,Tryz.ntmps218
  go_wp2
  go_ret2
  rw [Hp.out]
  exact ⟨rfl,Qb _ _⟩
 ·have Hp:=Qh (show dateP s=if s.all digC=false then (0,false) else (digits s,decide (digits s≤1000000000)) by
   rw [dateP]
   by_cases h4:s.all digC=false
   ·rw [if_pos (.inr (.inr (.inr h4))),if_pos h4]
   ·rw [if_neg (by simp [h1,h2,h3];simpa using h4),if_neg h4])
  have hcase:(¬1<s.length∧decide (1<s.length)=false)∨(1<s.length∧decide (1<s.length)=true∧(((s.getD 0 0).toNat:Int)==48)=false):=by
   by_cases h5:1<s.length
   ·right
    refine ⟨h5,Qt h5,?_⟩
    rw [he0,beq_eq_false_iff_ne]
    intro e
    exact h3 ⟨h5,by rw [hh,e];rfl⟩
   ·exact .inl ⟨h5,Qf h5⟩
  generalize (s.getD 0 0).toNat=c0 at hx0 hcase
  clear h3 he0 hh
  have H10:s.length≤10:=by omega
  rcases hcase with ⟨h5,hd3⟩|⟨h5,hd3,he3⟩
  all_goals
   go_enter Tryz.func218,Tryz.ntmps218
   go_wp2_with fail
   go_loop [4,5] (fun s4 s5=> ∃k:Nat,k≤s.length∧s5= .int .i64 k∧s4= .int .i64 (digits (s.take k))∧(s.take k).all digC=true) (fun _ i=>s.length-(intOf i).toNat)
   case atStart=>exact ⟨0,Nat.zero_le _,rfl,rfl,rfl⟩
   case round=>
    obtain ⟨k,hk,rfl,rfl,hr⟩:=hrel
    have hdb:=Xl3 k (s.take k) (by rw [List.length_take];omega) hr
    have Hr:=Qh hr;clear hr
    by_cases hlt:k<s.length
    ·have hx:=run_at Tryz.underlying9 s (k:Int) k rfl hlt
     have hdc:=Xfn (s.getD k 0)
     have hpk:(10:Int) ^ k≤10000000000:=by
      have:(10:Nat) ^ k≤10 ^ 10:=Nat.pow_le_pow_right (by decide) (by omega)
      have h2:((10 ^ k:Nat):Int)≤((10 ^ 10:Nat):Int):=by exact_mod_cast this
      simpa using h2
     have htk:s.take (k+1)=s.take k++ [s.getD k 0]:=by rw [List.take_succ_eq_append_getElem hlt];simp [List.getD,hlt]
     have hds:digits (s.take (k+1))=10*digits (s.take k)+(((s.getD k 0).toNat:Int)-48):=by rw [htk,Xez]
     have hmem:s.getD k 0∈s:=by simp [List.getD,hlt]
     have hc256:(s.getD k 0).toNat<256:=(s.getD k 0).toNat_lt
     generalize s.getD k 0=ch at hdc htk hx hc256 hds hmem
     generalize ch.toNat=c at hdc hx hc256 hds
     generalize digits (s.take k)=n at hdb hds ⊢
     generalize ((10:Int) ^ k)=p10 at hdb hpk
     have Htk:=Qh htk
     have Hds:=Qh hds
     have Hmem:=Qh hmem
     clear htk hds hmem
     by_cases hc1:48≤c
     case neg=>
      have d48:decide ((c:Int)<48)=true:=Qt (by omega)
      have Hn:=Qh (show dateP s=(0,false) by
       rw [Hp.out,if_pos]
       cases h:s.all digC with
       |false=>rfl
       |true=>
        have:=List.all_eq_true.1 h ch Hmem.out
        rw [hdc,Qf hc1] at this
        exact absurd this (by simp))
      clear hdc hc1
      go_wp2
      go_ret2
      rw [Hn.out]
      exact ⟨rfl,Qb _ _⟩
     have d48:decide ((c:Int)<48)=false:=Qf (by omega)
     by_cases hc2:c≤57
     case neg=>
      have d57:decide (57<(c:Int))=true:=Qt (by omega)
      have Hn:=Qh (show dateP s=(0,false) by
       rw [Hp.out,if_pos]
       cases h:s.all digC with
       |false=>rfl
       |true=>
        have:=List.all_eq_true.1 h ch Hmem.out
        rw [hdc,Qf hc2] at this
        exact absurd this (by simp))
      clear hdc hc2
      go_wp2
      go_ret2
      rw [Hn.out]
      exact ⟨rfl,Qb _ _⟩
     have d57:decide (57<(c:Int))=false:=Qf (by omega)
     have Hdc:=Qh (show digC ch=true by rw [hdc,Qt hc1,Qt hc2];rfl)
     clear hdc
     go_wp2
     go_round
     case rel=>exact ⟨k+1,by omega,by go_num,by rw [Hds.out];go_num,by rw [Htk.out,List.all_append,Hr.out];simp [Hdc.out]⟩
     case measure=>simp [intOf];omega
    ·have hall:s.take k=s:=List.take_of_length_le (by omega)
     rw [hall] at Hr hdb ⊢
     have Hn:=Qh (show dateP s=(digits s,decide (digits s≤1000000000)) by rw [Hp.out,if_neg (by rw [Hr.out];simp)])
     clear hall
     go_wp2
     go_ret2
     rw [Hn.out]
     exact ⟨rfl,Qb _ _⟩
end Go.Proofs.YtdodihnehppnmaaGreatDoor
namespace Go.Proofs.YtdodihnehppnmaaGreatDoor
def digN (acc:Nat) (l:Bytes):Nat:=l.foldl (fun n c=>10*n+(c.toNat-48)) acc
theorem Xl5 (acc:Nat) (l:Bytes) (c:UInt8):digN acc (l++ [c])=10*digN acc l+(c.toNat-48):=by simp [digN,List.foldl_append]
theorem Xc4 {c:UInt8} (h:digC c=true):48≤c.toNat∧c.toNat≤57:=by
 rw [Xfn,Bool.and_eq_true,decide_eq_true_iff,decide_eq_true_iff] at h
 exact h
theorem Xie:∀(l:Bytes),l.all digC=true→ ∀(a:Nat),l.foldl (fun (n:Int) c=>10*n+((c.toNat:Int)-48)) (a:Int)=(digN a l:Nat)
 | [],_,_=>rfl
 |c::l,h,a=>by
  rw [List.all_cons,Bool.and_eq_true] at h
  have hc:=Xc4 h.1
  have:=Xie l h.2 (10*a+(c.toNat-48))
  rw [List.foldl_cons,show (10*(a:Int)+((c.toNat:Int)-48))=((10*a+(c.toNat-48):Nat):Int) by omega,this]
  rfl
theorem Xf5 {l:Bytes} (h:l.all digC=true):digits l=(digN 0 l:Nat):=Xie l h 0
theorem Xoq:∀(l:Bytes) (acc:Nat),l.all digC=true→(acc+1)*10 ^ l.length≤100000000000→Lib.parseUint10 acc l= .ok (digN acc l)
 | [],_,_,_=>rfl
 |c::l,acc,h,hb=>by
  rw [List.all_cons,Bool.and_eq_true] at h
  have hc:=Xc4 h.1
  rw [List.length_cons,Nat.pow_succ] at hb
  have h10:1≤10 ^ l.length:=Nat.pos_of_ne_zero (by simp)
  have hacc:(acc+1)*10≤100000000000:=by
   have:(acc+1)*10*1≤(acc+1)*10*10 ^ l.length:=Nat.mul_le_mul_left _ h10
   rw [Nat.mul_comm (10 ^ l.length) 10,←Nat.mul_assoc] at hb
   omega
  have hn:(acc*10+(c.toNat-48)+1)*10 ^ l.length≤100000000000:=by
   refine Nat.le_trans (Nat.mul_le_mul_right _ (show acc*10+(c.toNat-48)+1≤(acc+1)*10 by omega)) ?_
   rw [Nat.mul_assoc,Nat.mul_comm 10 (10 ^ l.length)]
   exact hb
  rw [Lib.parseUint10,if_pos hc,if_neg (by omega),if_neg (by omega),Xoq l _ h.2 hn]
  show Lib.NumEnd.ok (digN _ l)=Lib.NumEnd.ok (digN (10*acc+(c.toNat-48)) l)
  rw [Nat.mul_comm acc 10]
theorem Xka {c:UInt8} {l:Bytes} (h:(c::l).all digC=true) (hc:c≠48):10 ^ l.length≤digN 0 (c::l):=by
 have key:∀(n:Nat) (l:Bytes),l.length=n→ ∀a,a*10 ^ n≤digN a l:=by
  intro n
  induction n with
  |zero=>intro l h a;rw [List.eq_nil_of_length_eq_zero h];simp [digN]
  |succ n ih=>
   intro l h a
   cases l with
   |nil=>simp at h
   |cons c l=>
    have:=ih l (by simpa using h) (10*a+(c.toNat-48))
    refine Nat.le_trans ?_ this
    rw [Nat.pow_succ,Nat.mul_comm (10 ^ n) 10,←Nat.mul_assoc]
    exact Nat.mul_le_mul_right _ (by omega)
 rw [List.all_cons,Bool.and_eq_true] at h
 have hb:=Xc4 h.1
 have hne:c.toNat≠48:=fun e=>hc (by
  have:c=UInt8.ofNat c.toNat:=by simp
  rw [this,e];rfl)
 have:=key l.length l rfl (10*0+(c.toNat-48))
 refine Nat.le_trans ?_ this
 have h1:1≤10*0+(c.toNat-48):=by omega
 simpa using Nat.mul_le_mul_right (10 ^ l.length) h1
def NoZ (s:Bytes):Prop:=s.length=1∨s.head? ≠some 48
theorem Xpb:∀(n:Nat) (s:Bytes),s.length=n→s≠ []→s.all digC=true→NoZ s→Lib.decDigits (digN 0 s)=s:=by
 intro n
 induction n with
 |zero=>intro s h h0;exact absurd (List.eq_nil_of_length_eq_zero h) h0
 |succ n ih=>
  intro s h h0 ha hz
  have e:s=s.dropLast++ [s.getLast h0]:=(List.dropLast_concat_getLast h0).symm
  have hl:s.dropLast.length=n:=by rw [List.length_dropLast,h];omega
  have ha2:=ha
  rw [e,List.all_append,Bool.and_eq_true] at ha2
  have hc:digC (s.getLast h0)=true:=by simpa using ha2.2
  have hb:=Xc4 hc
  have hoc:UInt8.ofNat (48+((s.getLast h0).toNat-48))=s.getLast h0:=by
   rw [show 48+((s.getLast h0).toNat-48)=(s.getLast h0).toNat by omega];simp
  by_cases hn:n=0
  ·have ht:s.dropLast= []:=List.eq_nil_of_length_eq_zero (by omega)
   rw [e,ht,List.nil_append]
   have:digN 0 [s.getLast h0]=(s.getLast h0).toNat-48:=by simp [digN]
   rw [this,Lib.decDigits,dif_pos (by omega),hoc]
  ·have ht0:s.dropLast≠ []:=by intro e2;rw [e2] at hl;simp at hl;omega
   have hh:s.head? ≠some 48:=by
    rcases hz with hz|hz
    ·omega
    ·exact hz
   have hhd:s.dropLast.head? =s.head? :=by
    cases hd:s.dropLast with
    |nil=>exact absurd hd ht0
    |cons a t=>rw [e,hd];rfl
   have i1:=ih s.dropLast hl ht0 ha2.1 (.inr (by rw [hhd];exact hh))
   have hge:1≤digN 0 s.dropLast:=by
    cases hd:s.dropLast with
    |nil=>exact absurd hd ht0
    |cons a t=>
     have ha3:(a::t).all digC=true:=by rw [←hd];exact ha2.1
     have:10 ^ t.length≤digN 0 (a::t):=Xka ha3 (fun e3=>hh (by rw [←hhd,hd,e3];rfl))
     have h10:1≤10 ^ t.length:=Nat.pos_of_ne_zero (by simp)
     omega
   have hs:digN 0 s=10*digN 0 s.dropLast+((s.getLast h0).toNat-48):=by
    conv=>lhs;rw [e]
    exact Xl5 _ _ _
   rw [hs,Lib.decDigits,dif_neg (by omega),show (10*digN 0 s.dropLast+((s.getLast h0).toNat-48)) / 10=digN 0 s.dropLast by omega,show (10*digN 0 s.dropLast+((s.getLast h0).toNat-48))%10=(s.getLast h0).toNat-48 by omega,i1,hoc]
   exact e.symm
theorem Xsz {n:Nat} (h:n<10):digC (UInt8.ofNat (48+n))=true:=by
 rw [Xfn]
 simp
 omega
theorem Xdf:∀(u:Nat),(Lib.decDigits u).all digC=true∧Lib.decDigits u≠ []∧digN 0 (Lib.decDigits u)=u∧(10≤u→(Lib.decDigits u).head? ≠some 48)∧(1≤u→(Lib.decDigits u).head? ≠some 48):=by
 intro u
 induction u using Nat.strongRecOn with
 |_ u ih=>
  by_cases h:u<10
  ·have e:Lib.decDigits u= [UInt8.ofNat (48+u)]:=by rw [Lib.decDigits,dif_pos h]
   have hd:=Xsz h
   have ht:(UInt8.ofNat (48+u)).toNat=48+u:=by simp;omega
   rw [e]
   refine ⟨by rw [List.all_cons,hd];rfl,by simp,by simp only [digN,List.foldl_cons,List.foldl_nil,ht];omega,fun h2=>by omega,fun h2 he=> ?_⟩
   simp only [List.head?_cons,Option.some.injEq] at he
   have:=congrArg UInt8.toNat he
   rw [ht] at this
   have h48:(48:UInt8).toNat=48:=rfl
   omega
  ·have e:Lib.decDigits u=Lib.decDigits (u / 10)++ [UInt8.ofNat (48+u%10)]:=by rw [Lib.decDigits,dif_neg h]
   obtain ⟨i1,i2,i3,i4,i5⟩:=ih (u / 10) (by omega)
   have hd:=Xsz (n:=u%10) (by omega)
   have ht:(UInt8.ofNat (48+u%10)).toNat=48+u%10:=by simp;omega
   have hhd:(Lib.decDigits u).head? ≠some 48:=by
    rw [e]
    cases hc:Lib.decDigits (u / 10) with
    |nil=>exact absurd hc i2
    |cons a t=>
     have:=i5 (by omega)
     rw [hc] at this
     exact this
   refine ⟨?_,?_,?_,fun _=>hhd,fun _=>hhd⟩
   ·rw [e,List.all_append,i1,List.all_cons,hd];rfl
   ·rw [e];simp
   ·rw [e,Xl5,i3,ht];omega
theorem Xpc (s:Bytes):dateOk s=true↔ ∃n:Int,Lib.atoiAll s= .ok n∧0≤n∧n≤1000000000∧Lib.itoa n=s:=by
 have hd:(fun c:UInt8=>decide (48≤c)&&decide (c≤57))=digC:=rfl
 constructor
 ·intro h
  unfold dateOk at h
  rw [hd] at h
  simp only [Bool.and_eq_true,decide_eq_true_eq] at h
  obtain ⟨⟨⟨⟨h1,h2⟩,h3⟩,h4⟩,h5⟩:=h
  have h0:s≠ []:=by intro e;rw [e] at h1;simp at h1
  have hz:NoZ s:=by
   by_cases hl:s.length=1
   ·exact .inl hl
   ·right
    intro e
    rw [e,Qt (show 1<s.length by omega)] at h3
    simp at h3
  rw [Xf5 h4] at h5
  refine ⟨(digN 0 s:Nat),?_,by omega,h5,?_⟩
  ·cases hs:s with
   |nil=>exact absurd hs h0
   |cons c r=>
    have ha:(c::r).all digC=true:=by rw [←hs];exact h4
    have hc:digC c=true:=by rw [List.all_cons,Bool.and_eq_true] at ha;exact ha.1
    have hb:=Xc4 hc
    have hlen:(c::r).length≤10:=by rw [←hs];exact h2
    have hp:=Xoq (c::r) 0 ha (by
     have:10 ^ (c::r).length≤10 ^ 10:=Nat.pow_le_pow_right (by decide) hlen
     omega)
    rw [Lib.atoiAll]
    rw [if_neg (by omega),Lib.parseMag,if_neg (by simp),hp]
    rw [hs] at h5
    simp only
    rw [if_neg (by omega),if_neg (by omega),if_neg (by omega)]
  ·rw [Lib.itoa,if_neg (by omega),Int.toNat_natCast]
   exact Xpb _ s rfl h0 h4 hz
 ·rintro ⟨n,_,h0,h1,h2⟩
  obtain ⟨u,rfl⟩:=Int.eq_ofNat_of_zero_le h0
  rw [Lib.itoa,if_neg (by omega),Int.toNat_natCast] at h2
  obtain ⟨f1,f2,f3,f4,f5⟩:=Xdf u
  rw [h2] at f1 f2 f3 f4 f5
  have hdg:digits s=u:=by rw [Xf5 f1,f3]
  unfold dateOk
  rw [hd,f1,hdg,Qt h1]
  have hl1:1≤s.length:=List.length_pos_iff.2 f2
  have hz:(decide (1<s.length)&&s.head? ==some 48)=false:=by
   cases hb:(decide (1<s.length)&&s.head? ==some 48) with
   |false=>rfl
   |true=>
    rw [Bool.and_eq_true,decide_eq_true_iff,beq_iff_eq] at hb
    by_cases hu:1≤u
    ·exact absurd hb.2 (f5 hu)
    ·have:u=0:=by omega
     subst this
     have:s= [48]:=by rw [←h2,Lib.decDigits,dif_pos (by decide)];rfl
     rw [this] at hb
     simp at hb
  have hl10:s.length≤10:=by
   cases hs:s with
   |nil=>simp
   |cons c r=>
    by_cases hu:1≤u
    ·have hc:c≠48:=fun e=>f5 hu (by rw [hs,e];rfl)
     have:=Xka (c:=c) (l:=r) (by rw [←hs];exact f1) hc
     rw [←hs,f3] at this
     have hlt:¬10≤r.length:=by
      intro h10
      have:10 ^ 10≤10 ^ r.length:=Nat.pow_le_pow_right (by decide) h10
      omega
     simp only [List.length_cons];omega
    ·have:u=0:=by omega
     subst this
     have:s= [48]:=by rw [←h2,Lib.decDigits,dif_pos (by decide)];rfl
     rw [hs] at this
     rw [this];simp
  rw [hz,Qt hl1,Qt hl10]
  rfl
end Go.Proofs.YtdodihnehppnmaaGreatDoor
namespace Go.Proofs.YtdodihnehppnmaaGreatDoor
abbrev ltE (x y:Ent):Bool:=ltP (els x.path) (els y.path)
theorem Xgg {x y:Ent} (h:ltE x y=true):x.path≠y.path:=fun e=>Xlf h (by rw [e])
theorem Xhx (x y:Ent):ltE x y=true∨x.path=y.path∨ltE y x=true:=by
 rcases Xle (els x.path) (els y.path) with h|h|h
 ·exact .inl h
 ·exact .inr (.inl (Xwm h))
 ·exact .inr (.inr h)
def putTGo (e:Ent):Bool→List Ent→List Ent→List Ent
 |d,out,[]=>if d then out else out++ [e]
 |d,out,y::l=>putTGo e (d || !(ltE y e)) ((if !d&& !(ltE y e) then out++ [e] else out)++(if y.path==e.path then [] else [y])) l
def putT (t:List Ent) (e:Ent):List Ent:=putTGo e false [] t
def applyT (t:List Ent) (e:Ent):List Ent × Int:=
 if entErr e≠0 then ([],entErr e)
 else if 3<e.kind then
  if getT t e.path=none∧e.path≠ [] then ([],9)
  else if e.kind=4 then (t.filter fun x=> !(under x.path e.path),0) else (t,0)
 else if dirErr t (upP e.path)≠0 then ([],dirErr t (upP e.path))
 else match getT t e.path with
  |some y=>if (y.kind==2) != (e.kind==2) then ([],8) else (putT t e,0)
  |none=>if 5000≤t.length then ([],6) else (putT t e,0)
theorem Xhs (e:Ent) (l:List Ent):∀out,putTGo e true out l=out++l.filter fun y=> !(y.path==e.path):=by
 induction l with
 |nil=>intro out;simp [putTGo]
 |cons y l ih=>
  intro out
  rw [putTGo]
  simp only [Bool.true_or,Bool.not_true,Bool.false_and,Bool.false_eq_true,if_false]
  rw [ih,List.filter_cons]
  cases h:(y.path==e.path)<;>simp
theorem Xi5 {t:List Ent} (h:SrtT t) (e:Ent):∃A B,putT t e=A++e::B∧(∀a∈A,a∈t∧ltE a e=true)∧(∀b∈B,b∈t∧ltE e b=true)∧(∀z∈t,z.path≠e.path→z∈A∨z∈B)∧SrtT A∧SrtT B:=by
 have key:∀(l:List Ent),SrtT l→ ∀out,∃A B,putTGo e false out l=out++(A++e::B)∧(∀a∈A,a∈l∧ltE a e=true)∧(∀b∈B,b∈l∧ltE e b=true)∧(∀z∈l,z.path≠e.path→z∈A∨z∈B)∧SrtT A∧SrtT B:=by
  intro l
  induction l with
  |nil=>intro _ out;exact ⟨[],[],by simp [putTGo],by simp,by simp,by simp,List.Pairwise.nil,List.Pairwise.nil⟩
  |cons y l ih=>
   intro hs out
   obtain ⟨h1,h2⟩:=List.pairwise_cons.1 hs
   rw [putTGo]
   cases hb:ltE y e
   ·simp only [Bool.not_false,Bool.or_true,Bool.and_self,if_true]
    rw [Xhs]
    have hrest:∀z∈l,ltE e z=true:=by
     intro z hz
     rcases Xhx e y with k|k|k
     ·exact Xcn k (h1 z hz)
     ·show ltP (els e.path) _=true
      rw [k];exact h1 z hz
     ·rw [hb] at k;exact absurd k (by simp)
    have hf:(l.filter fun z=> !(z.path==e.path))=l:=List.filter_eq_self.2 fun z hz=>by
     have:=(Xgg (hrest z hz)).symm
     simpa using this
    rw [hf]
    by_cases k:y.path=e.path
    ·rw [if_pos (by simpa using k)]
     refine ⟨[],l,by simp,by simp,fun b hb=>⟨List.mem_cons_of_mem _ hb,hrest b hb⟩,fun z hz hne=> ?_,List.Pairwise.nil,h2⟩
     rcases List.mem_cons.1 hz with rfl|hz
     ·exact absurd k hne
     ·exact .inr hz
    ·have hxy:ltE e y=true:=by
      rcases Xhx e y with h|h|h
      ·exact h
      ·exact absurd h.symm k
      ·rw [h] at hb;exact absurd hb (by simp)
     rw [if_neg (by simpa using k)]
     refine ⟨[],y::l,by simp,by simp,fun b hb=>⟨hb,?_⟩,fun z hz _=> .inr hz,List.Pairwise.nil,hs⟩
     rcases List.mem_cons.1 hb with rfl|hb
     ·exact hxy
     ·exact hrest b hb
   ·have hne:(y.path==e.path)=false:=by simpa using Xgg hb
    simp only [Bool.not_true,Bool.or_false,Bool.and_false,Bool.false_eq_true,if_false,hne]
    obtain ⟨A,B,q,a1,a2,a3,a4,a5⟩:=ih h2 (out++ [y])
    refine ⟨y::A,B,by rw [q];simp,fun a ha=> ?_,fun b hb=>⟨List.mem_cons_of_mem _ (a2 b hb).1,(a2 b hb).2⟩,fun z hz hzn=> ?_,List.pairwise_cons.2 ⟨fun a ha=>h1 a (a1 a ha).1,a4⟩,a5⟩
    ·rcases List.mem_cons.1 ha with rfl|ha
     ·exact ⟨List.mem_cons_self ..,hb⟩
     ·exact ⟨List.mem_cons_of_mem _ (a1 a ha).1,(a1 a ha).2⟩
    ·rcases List.mem_cons.1 hz with rfl|hz
     ·exact .inl (List.mem_cons_self ..)
     ·rcases a3 z hz hzn with h|h
      ·exact .inl (List.mem_cons_of_mem _ h)
      ·exact .inr h
 obtain ⟨A,B,q,r⟩:=key t h []
 exact ⟨A,B,q,r⟩
theorem Xfa {t:List Ent} (h:SrtT t) (e:Ent):SrtT (putT t e):=by
 obtain ⟨A,B,q,a1,a2,_,a4,a5⟩:=Xi5 h e
 rw [q]
 refine List.pairwise_append.2 ⟨a4,List.pairwise_cons.2 ⟨fun b hb=>(a2 b hb).2,a5⟩,fun a ha b hb=> ?_⟩
 rcases List.mem_cons.1 hb with rfl|hb
 ·exact (a1 a ha).2
 ·exact Xcn (a1 a ha).2 (a2 b hb).2
theorem Xb9 {t:List Ent} (h:SrtT t) (e z:Ent):z∈putT t e↔z=e∨(z∈t∧z.path≠e.path):=by
 obtain ⟨A,B,q,a1,a2,a3,_,_⟩:=Xi5 h e
 rw [q,List.mem_append,List.mem_cons]
 constructor
 ·rintro (hz|hz|hz)
  ·exact .inr ⟨(a1 z hz).1,Xgg (a1 z hz).2⟩
  ·exact .inl hz
  ·exact .inr ⟨(a2 z hz).1,(Xgg (a2 z hz).2).symm⟩
 ·rintro (hz|⟨hz,hn⟩)
  ·exact .inr (.inl hz)
  ·rcases a3 z hz hn with h|h
   ·exact .inl h
   ·exact .inr (.inr h)
theorem Xuo {t:List Ent} (h:SrtT t) (e:Ent):getT (putT t e) e.path=some e:=Xgz (Xfa h e) ((Xb9 h e e).2 (.inl rfl))
theorem Xnr {t:List Ent} (h:SrtT t) (e:Ent) {p:Bytes} (hp:p≠e.path):getT (putT t e) p=getT t p:=by
 cases hg:getT t p with
 |some x=>
  obtain ⟨hx,rfl⟩:=Xlr hg
  exact Xgz (Xfa h e) ((Xb9 h e x).2 (.inr ⟨hx,hp⟩))
 |none=>
  refine Xr4 fun z hz k=> ?_
  rcases (Xb9 h e z).1 hz with rfl|⟨hz,_⟩
  ·exact hp k.symm
  ·have:=Xgz h hz
   rw [k,hg] at this
   exact absurd this (by simp)
end Go.Proofs.YtdodihnehppnmaaGreatDoor
namespace Go.Proofs.YtdodihnehppnmaaGreatDoor
theorem Xue {l:List Bytes} (h:l≠ []) (hc:∀p∈l,p≠ []):joinP l≠ []:=by
 cases l with
 |nil=>exact absurd rfl h
 |cons p l=>
  cases l with
  |nil=>exact hc p (by simp)
  |cons q l=>rw [Xbm p (by simp)];simp
theorem Xwl {p:Bytes} (h:pathErr p=0):els (upP p)=(els p).dropLast:=by
 obtain ⟨_,_,hc⟩:=Xax h
 have hd:∀q∈(els p).dropLast,comp q=true:=fun q hq=>hc q (List.dropLast_subset _ hq)
 unfold upP
 by_cases hn:(els p).dropLast= []
 ·rw [hn];rfl
 ·exact Xsr (fun q hq=>Xl9 (hd q hq)) (Xue hn fun q hq=>Xw0 (hd q hq))
theorem Xtk {p d:Bytes} (h:pathErr p=0) (hu:under (upP p) d=true):under p d=true:=by
 simp only [under,Bool.and_eq_true,decide_eq_true_eq] at hu ⊢
 obtain ⟨⟨_,h2⟩,h3⟩:=hu
 refine ⟨⟨h,h2⟩,?_⟩
 rw [List.isPrefixOf_iff_prefix] at h3 ⊢
 rw [Xwl h] at h3
 exact h3.trans (List.dropLast_prefix _)
theorem Xbj {e:Ent} (h:entErr e=0):1≤e.kind∧e.kind≤6∧pathErr e.path=0∧(e.path= []→5≤e.kind):=by
 unfold entErr at h
 by_cases h1:e.kind<1∨6<e.kind
 ·rw [if_pos h1] at h;omega
 rw [if_neg h1] at h
 by_cases h2:pathErr e.path=0
 case neg=>rw [if_pos h2] at h;exact absurd h h2
 rw [if_neg (by omega)] at h
 by_cases h3:e.path= []∧e.kind<5
 ·rw [if_pos h3] at h;omega
 exact ⟨by omega,by omega,h2,fun hp=>Int.not_lt.1 fun hk=>h3 ⟨hp,hk⟩⟩
theorem Xl2 {t:List Ent} {p:Bytes}:dirErr t p=0↔p= []∨ ∃x,getT t p=some x∧x.kind=2:=by
 unfold dirErr
 by_cases h:p= []
 ·rw [if_pos h];exact ⟨fun _=> .inl h,fun _=>rfl⟩
 ·rw [if_neg h]
  cases hg:getT t p with
  |none=>
   constructor
   ·intro k;simp at k
   ·rintro (k|⟨x,k,_⟩)
    ·exact absurd k h
    ·simp at k
  |some x=>
   show (if x.kind≠2 then (10:Int) else 0)=0↔_
   by_cases hk:x.kind=2
   ·rw [if_neg (by omega)];exact ⟨fun _=> .inr ⟨x,rfl,hk⟩,fun _=>rfl⟩
   ·rw [if_pos hk]
    constructor
    ·intro k;omega
    ·rintro (k|⟨y,k,k'⟩)
     ·exact absurd k h
     ·cases k;exact absurd k' hk
theorem Xrh {t:List Ent} (h:OkT t) {e:Ent} (he:entErr e=0) (hk:e.kind=1∨e.kind=2∨e.kind=3) (hu:dirErr t (upP e.path)=0) (hs:∀y,getT t e.path=some y→(y.kind=2↔e.kind=2)):OkT (putT t e):=by
 obtain ⟨_,_,hp,hpe⟩:=Xbj he
 have hne:e.path≠ []:=fun k=>by have:=hpe k;omega
 refine ⟨fun z hz=> ?_,fun z hz=> ?_,Xfa h.srt e,fun z hz=> ?_⟩
 ·rcases (Xb9 h.srt e z).1 hz with rfl|⟨hz,_⟩
  ·exact he
  ·exact h.ent z hz
 ·rcases (Xb9 h.srt e z).1 hz with rfl|⟨hz,_⟩
  ·exact hk
  ·exact h.kind z hz
 ·have hz':dirErr t (upP z.path)=0:=by
   rcases (Xb9 h.srt e z).1 hz with rfl|⟨hz,_⟩
   ·exact hu
   ·exact h.up z hz
  rw [Xl2] at hz' ⊢
  rcases hz' with k|⟨x,k,k'⟩
  ·exact .inl k
  ·by_cases q:upP z.path=e.path
   ·refine .inr ⟨e,by rw [q];exact Xuo h.srt e,?_⟩
    rw [q] at k
    exact (hs x k).1 k'
   ·exact .inr ⟨x,by rw [Xnr h.srt e q];exact k,k'⟩
theorem Xwy {t:List Ent} (h:OkT t) (d:Bytes):OkT (t.filter fun x=> !(under x.path d)):=by
 have hm:∀z,z∈(t.filter fun x=> !(under x.path d))↔z∈t∧under z.path d=false:=fun z=>by simp [List.mem_filter]
 have hs:SrtT (t.filter fun x=> !(under x.path d)):=List.Pairwise.filter _ h.srt
 refine ⟨fun z hz=>h.ent z ((hm z).1 hz).1,fun z hz=>h.kind z ((hm z).1 hz).1,hs,fun z hz=> ?_⟩
 obtain ⟨hz1,hz2⟩:=(hm z).1 hz
 have hp:=(Xbj (h.ent z hz1)).2.2.1
 have hz':=h.up z hz1
 rw [Xl2] at hz' ⊢
 rcases hz' with k|⟨x,k,k'⟩
 ·exact .inl k
 ·obtain ⟨hx,hxp⟩:=Xlr k
  refine .inr ⟨x,?_,k'⟩
  rw [←hxp]
  refine Xgz hs ((hm x).2 ⟨hx,?_⟩)
  cases q:under x.path d with
  |false=>rfl
  |true=>
   rw [hxp] at q
   rw [Xtk hp q] at hz2
   exact absurd hz2 (by simp)
theorem Xtd {t t':List Ent} (h:OkT t) {e:Ent} (ha:applyT t e=(t',0)):OkT t':=by
 unfold applyT at ha
 by_cases h0:entErr e=0
 case neg=>rw [if_pos h0] at ha;exact absurd (Prod.mk.inj ha).2 h0
 rw [if_neg (by omega)] at ha
 have hk:=Xbj h0
 by_cases h1:3<e.kind
 ·rw [if_pos h1] at ha
  by_cases h2:getT t e.path=none∧e.path≠ []
  ·rw [if_pos h2] at ha;simp at ha
  ·rw [if_neg h2] at ha
   by_cases h3:e.kind=4
   ·rw [if_pos h3] at ha
    rw [←(Prod.mk.inj ha).1]
    exact Xwy h _
   ·rw [if_neg h3] at ha
    rw [←(Prod.mk.inj ha).1]
    exact h
 ·rw [if_neg h1] at ha
  by_cases h2:dirErr t (upP e.path)=0
  case neg=>rw [if_pos h2] at ha;exact absurd (Prod.mk.inj ha).2 h2
  rw [if_neg (by omega)] at ha
  cases hg:getT t e.path with
  |none=>
   rw [hg] at ha
   change (if 5000≤t.length then (([]:List Ent),(6:Int)) else (putT t e,0))=_ at ha
   by_cases h3:5000≤t.length
   ·rw [if_pos h3] at ha;simp at ha
   ·rw [if_neg h3] at ha
    rw [←(Prod.mk.inj ha).1]
    exact Xrh h h0 (by omega) h2 fun y hy=>by rw [hg] at hy;cases hy
  |some y=>
   rw [hg] at ha
   change (if ((y.kind==2) != (e.kind==2))=true then (([]:List Ent),(8:Int)) else (putT t e,0))=_ at ha
   by_cases h3:((y.kind==2) != (e.kind==2))=true
   ·rw [if_pos h3] at ha;simp at ha
   ·rw [if_neg h3] at ha
    rw [←(Prod.mk.inj ha).1]
    refine Xrh h h0 (by omega) h2 fun z hz=> ?_
    rw [hg] at hz
    cases hz
    have h4:(y.kind==2)=(e.kind==2):=by simpa using h3
    constructor
    ·intro k;rw [k] at h4;simpa using h4.symm
    ·intro k;rw [k] at h4;simpa using h4
end Go.Proofs.YtdodihnehppnmaaGreatDoor
namespace Go.Proofs.YtdodihnehppnmaaGreatDoor
def opT (t:List Ent) (e:Ent):List Ent:=if 3<e.kind then (if e.kind=4 then t.filter fun x=> !(under x.path e.path) else t) else putT t e
structure PreT (t:List Ent) (e:Ent):Prop where
 ent:entErr e=0
 there:3<e.kind→ ¬(getT t e.path=none∧e.path≠ [])
 up:e.kind≤3→dirErr t (upP e.path)=0
 like:e.kind≤3→ ∀y,getT t e.path=some y→(y.kind==2)=(e.kind==2)
 room:e.kind≤3→getT t e.path=none→t.length<5000
theorem applyT_iff {t a:List Ent} {e:Ent}:applyT t e=(a,0)↔PreT t e∧a=opT t e:=by
 unfold applyT opT
 by_cases h0:entErr e=0
 case neg=>
  rw [if_pos h0]
  exact ⟨fun h=>absurd (Prod.mk.inj h).2 h0,fun h=>absurd h.1.ent h0⟩
 rw [if_neg (by omega)]
 by_cases h1:3<e.kind
 ·rw [if_pos h1,if_pos h1]
  by_cases h2:getT t e.path=none∧e.path≠ []
  ·rw [if_pos h2]
   exact ⟨fun h=>absurd (Prod.mk.inj h).2 (by decide),fun h=>absurd h2 (h.1.there h1)⟩
  ·rw [if_neg h2]
   have hp:PreT t e:=⟨h0,fun _=>h2,fun k=>by omega,fun k=>by omega,fun k=>by omega⟩
   by_cases h3:e.kind=4
   ·rw [if_pos h3,if_pos h3]
    exact ⟨fun h=>⟨hp,(Prod.mk.inj h).1.symm⟩,fun h=>by rw [h.2]⟩
   ·rw [if_neg h3,if_neg h3]
    exact ⟨fun h=>⟨hp,(Prod.mk.inj h).1.symm⟩,fun h=>by rw [h.2]⟩
 ·rw [if_neg h1,if_neg h1]
  by_cases h2:dirErr t (upP e.path)=0
  case neg=>
   rw [if_pos h2]
   exact ⟨fun h=>absurd (Prod.mk.inj h).2 h2,fun h=>absurd (h.1.up (by omega)) h2⟩
  rw [if_neg (by omega)]
  cases hg:getT t e.path with
  |none=>
   show (if 5000≤t.length then (([]:List Ent),(6:Int)) else (putT t e,0))=(a,0)↔_
   by_cases h3:5000≤t.length
   ·rw [if_pos h3]
    exact ⟨fun h=>absurd (Prod.mk.inj h).2 (by decide),fun h=>absurd (h.1.room (by omega) hg) (by omega)⟩
   ·rw [if_neg h3]
    exact ⟨fun h=>⟨⟨h0,fun k=>absurd k h1,fun _=>h2,fun _ y hy=>(by rw [hg] at hy;cases hy),fun _ _=>(by omega)⟩,(Prod.mk.inj h).1.symm⟩,fun h=>by rw [h.2]⟩
  |some y=>
   show (if ((y.kind==2) != (e.kind==2))=true then (([]:List Ent),(8:Int)) else (putT t e,0))=(a,0)↔_
   by_cases h3:((y.kind==2) != (e.kind==2))=true
   ·rw [if_pos h3]
    refine ⟨fun h=>absurd (Prod.mk.inj h).2 (by decide),fun h=> ?_⟩
    have:=h.1.like (by omega) y hg
    rw [this] at h3
    simp at h3
   ·rw [if_neg h3]
    exact ⟨fun h=>⟨⟨h0,fun k=>absurd k h1,fun _=>h2,fun _ z hz=>(by rw [hg] at hz;cases hz;simpa using h3),fun _ hn=>(by rw [hg] at hn;cases hn)⟩,(Prod.mk.inj h).1.symm⟩,fun h=>by rw [h.2]⟩
def keepT (e z:Ent):Prop:=(e.kind≤3→z.path≠e.path)∧(e.kind=4→under z.path e.path=false)
theorem Xro {t:List Ent} (h:SrtT t) (e z:Ent):z∈opT t e↔(e.kind≤3∧z=e)∨(z∈t∧keepT e z):=by
 unfold opT keepT
 by_cases h1:3<e.kind
 ·rw [if_pos h1]
  by_cases h2:e.kind=4
  ·rw [if_pos h2,List.mem_filter]
   constructor
   ·rintro ⟨a,b⟩;exact .inr ⟨a,fun k=>by omega,fun _=>by simpa using b⟩
   ·rintro (⟨k,_⟩|⟨a,_,b⟩)
    ·omega
    ·exact ⟨a,by simpa using b h2⟩
  ·rw [if_neg h2]
   constructor
   ·intro a;exact .inr ⟨a,fun k=>by omega,fun k=>absurd k h2⟩
   ·rintro (⟨k,_⟩|⟨a,_⟩)
    ·omega
    ·exact a
 ·rw [if_neg h1,Xb9 h]
  constructor
  ·rintro (k|⟨a,b⟩)
   ·exact .inl ⟨by omega,k⟩
   ·exact .inr ⟨a,fun _=>b,fun k=>by omega⟩
  ·rintro (⟨_,k⟩|⟨a,b,_⟩)
   ·exact .inl k
   ·exact .inr ⟨a,b (by omega)⟩
theorem Xt4 (t:List Ent) (e:Ent):(putT t e).length≤t.length+1:=by
 have:∀(l out:List Ent) (d:Bool),(putTGo e d out l).length≤out.length+l.length+1:=by
  intro l
  induction l with
  |nil=>intro out d;cases d<;>simp [putTGo]
  |cons y l ih=>
   intro out d
   rw [putTGo]
   cases hc:(!d&& !(ltE y e))
   ·refine Nat.le_trans (ih _ _) ?_
    cases h:(y.path==e.path)<;>simp<;>omega
   ·have hd:(d || !(ltE y e))=true:=by
     simp only [Bool.and_eq_true] at hc
     rw [hc.2];simp
    rw [hd,Xhs]
    have:=List.length_filter_le (fun y:Ent=> !(y.path==e.path)) l
    cases h:(y.path==e.path)<;>simp<;>omega
 simpa [putT] using this t [] false
theorem Xv0 (t:List Ent) (e:Ent):(opT t e).length≤t.length+1:=by
 unfold opT
 by_cases h1:3<e.kind
 ·rw [if_pos h1]
  by_cases h2:e.kind=4
  ·rw [if_pos h2];exact Nat.le_trans (List.length_filter_le _ _) (Nat.le_succ _)
  ·rw [if_neg h2];exact Nat.le_succ _
 ·rw [if_neg h1];exact Xt4 t e
end Go.Proofs.YtdodihnehppnmaaGreatDoor
namespace Go.Proofs.YtdodihnehppnmaaGreatDoor
def bs (p:Nat→Bool) (lo hi:Nat):Nat:=
 if h:lo<hi then (if p ((lo+hi) / 2) then bs p lo ((lo+hi) / 2) else bs p ((lo+hi) / 2+1) hi) else lo
termination_by hi-lo
decreasing_by all_goals omega
theorem Xu6 (p:Nat→Bool) (lo hi:Nat) (h:lo≤hi):lo≤bs p lo hi∧bs p lo hi≤hi:=by
 induction lo,hi using bs.induct p with
 |case1 lo hi hlt hp ih=>rw [bs,dif_pos hlt,if_pos hp];have:=ih (by omega);omega
 |case2 lo hi hlt hp ih=>rw [bs,dif_pos hlt,if_neg hp];have:=ih (by omega);omega
 |case3 lo hi hlt=>rw [bs,dif_neg hlt];omega
theorem Xw5 (p:Nat→Bool) (lo hi:Nat) (h:lo≤hi):(lo<bs p lo hi→p (bs p lo hi-1)=false)∧(bs p lo hi<hi→p (bs p lo hi)=true):=by
 induction lo,hi using bs.induct p with
 |case1 lo hi hlt hp ih=>
  rw [bs,dif_pos hlt,if_pos hp]
  have h1:=ih (by omega)
  refine ⟨h1.1,fun h2=> ?_⟩
  by_cases h3:bs p lo ((lo+hi) / 2)<(lo+hi) / 2
  ·exact h1.2 h3
  ·have:=Xu6 p lo ((lo+hi) / 2) (by omega)
   rw [show bs p lo ((lo+hi) / 2)=(lo+hi) / 2 by omega];exact hp
 |case2 lo hi hlt hp ih=>
  rw [bs,dif_pos hlt,if_neg hp]
  have h1:=ih (by omega)
  refine ⟨fun h2=> ?_,h1.2⟩
  by_cases h3:(lo+hi) / 2+1<bs p ((lo+hi) / 2+1) hi
  ·exact h1.1 h3
  ·have:=Xu6 p ((lo+hi) / 2+1) hi (by omega)
   rw [show bs p ((lo+hi) / 2+1) hi-1=(lo+hi) / 2 by omega];simpa using hp
 |case3 lo hi hlt=>rw [bs,dif_neg hlt];exact ⟨fun h=>by omega,fun h=>by omega⟩
theorem Xt3 {t:List Ent} (h:SrtT t) (e:Ent) {i:Nat} (hi:i<t.length) (hp:t[i].path=e.path):putT t e=t.set i e:=by
 have hle:∀(a:Ent),ltE a e=ltE a t[i]:=fun a=>by unfold ltE;rw [hp]
 have hle2:∀(a:Ent),ltE e a=ltE t[i] a:=fun a=>by unfold ltE;rw [hp]
 have hpw:=List.pairwise_iff_getElem.1 h
 have hsrt:SrtT (t.set i e):=by
  refine List.pairwise_iff_getElem.2 fun a b ha hb hab=> ?_
  rw [List.length_set] at ha hb
  have h0:=hpw a b ha hb hab
  rw [List.getElem_set,List.getElem_set]
  by_cases h1:i=a
  ·subst h1
   rw [if_pos rfl,if_neg (by omega)]
   show ltE e t[b]=true
   rw [hle2];exact h0
  ·rw [if_neg h1]
   by_cases h2:i=b
   ·subst h2
    rw [if_pos rfl]
    show ltE t[a] e=true
    rw [hle];exact h0
   ·rw [if_neg h2];exact h0
 refine SrtT.ext (Xfa h e) hsrt fun z=> ?_
 rw [Xb9 h]
 constructor
 ·rintro (rfl|⟨hz,hne⟩)
  ·exact List.mem_set hi _
  ·obtain ⟨j,hj,rfl⟩:=List.getElem_of_mem hz
   have hij:i≠j:=fun e2=>hne (by subst e2;exact hp)
   have:(t.set i e)[j]'(by rw [List.length_set];exact hj)=t[j]:=List.getElem_set_ne hij _
   rw [←this]
   exact List.getElem_mem _
 ·intro hz
  obtain ⟨j,hj,rfl⟩:=List.getElem_of_mem hz
  rw [List.length_set] at hj
  rw [List.getElem_set]
  by_cases hij:i=j
  ·rw [if_pos hij];exact .inl rfl
  ·rw [if_neg hij]
   refine .inr ⟨List.getElem_mem _,fun he=> ?_⟩
   have hne:t[j].path≠t[i].path:=by
    rcases Nat.lt_or_gt_of_ne hij with h1|h1
    ·exact (Xgg (hpw i j hi hj h1)).symm
    ·exact Xgg (hpw j i hj hi h1)
   exact hne (he.trans hp.symm)
theorem Xt5 {t:List Ent} (h:SrtT t) (e:Ent) {i:Nat} (hi:i≤t.length) (hl:∀k (hk:k<t.length),k<i→ltE t[k] e=true) (hg:∀k (hk:k<t.length),i≤k→ltE e t[k]=true):putT t e=t.take i++e::t.drop i:=by
 have hpw:=List.pairwise_iff_getElem.1 h
 have hsrt:SrtT (t.take i++e::t.drop i):=by
  refine List.pairwise_append.2 ⟨List.Pairwise.sublist (List.take_sublist _ _) h,List.pairwise_cons.2 ⟨fun b hb=> ?_,List.Pairwise.sublist (List.drop_sublist _ _) h⟩,fun a ha b hb=> ?_⟩
  ·obtain ⟨j,hj,rfl⟩:=List.getElem_of_mem hb
   rw [List.getElem_drop]
   exact hg _ (by simp at hj;omega) (by omega)
  ·obtain ⟨j,hj,rfl⟩:=List.getElem_of_mem ha
   have hj2:j<i∧j<t.length:=by simp at hj;omega
   rw [List.getElem_take]
   rcases List.mem_cons.1 hb with rfl|hb
   ·exact hl j hj2.2 hj2.1
   ·obtain ⟨q,hq,rfl⟩:=List.getElem_of_mem hb
    rw [List.getElem_drop]
    exact hpw j (i+q) hj2.2 (by simp at hq;omega) (by omega)
 refine SrtT.ext (Xfa h e) hsrt fun z=> ?_
 rw [Xb9 h,List.mem_append,List.mem_cons]
 constructor
 ·rintro (rfl|⟨hz,hne⟩)
  ·exact .inr (.inl rfl)
  ·rw [←List.take_append_drop i t,List.mem_append] at hz
   rcases hz with hz|hz
   ·exact .inl hz
   ·exact .inr (.inr hz)
 ·rintro (hz|rfl|hz)
  ·obtain ⟨j,hj,rfl⟩:=List.getElem_of_mem hz
   have hj2:j<i∧j<t.length:=by simp at hj;omega
   rw [List.getElem_take]
   exact .inr ⟨List.getElem_mem _,Xgg (hl j hj2.2 hj2.1)⟩
  ·exact .inl rfl
  ·obtain ⟨j,hj,rfl⟩:=List.getElem_of_mem hz
   rw [List.getElem_drop]
   exact .inr ⟨List.getElem_mem _,(Xgg (hg (i+j) (by simp at hj;omega) (by omega))).symm⟩
def notLess (t:List Ent) (p:Bytes) (i:Nat):Bool:=match t[i]? with|some x=> !(ltP (els x.path) (els p))|none=>true
theorem Xvz {t:List Ent} (h:SrtT t) (e:Ent) (hn:∀x∈t,x.path≠e.path):putT t e=t.take (bs (notLess t e.path) 0 t.length)++e::t.drop (bs (notLess t e.path) 0 t.length):=by
 have hle:=Xu6 (notLess t e.path) 0 t.length (Nat.zero_le _)
 have hsp:=Xw5 (notLess t e.path) 0 t.length (Nat.zero_le _)
 generalize bs (notLess t e.path) 0 t.length=i at hle hsp
 have hpw:=List.pairwise_iff_getElem.1 h
 refine Xt5 h e hle.2 (fun k hk hki=> ?_) (fun k hk hik=> ?_)
 ·have h1:=hsp.1 (by omega)
  rw [notLess,List.getElem?_eq_getElem (by omega)] at h1
  have h2:ltE (t[i-1]'(by omega)) e=true:=by simpa using h1
  by_cases hk2:k=i-1
  ·subst hk2;exact h2
  ·exact Xcn (hpw k (i-1) hk (by omega) (by omega)) h2
 ·have h1:=hsp.2 (by omega)
  rw [notLess,List.getElem?_eq_getElem (by omega)] at h1
  have h2:ltE (t[i]'(by omega)) e=false:=by simpa using h1
  have h3:ltE e (t[i]'(by omega))=true:=by
   rcases Xhx e (t[i]'(by omega)) with h3|h3|h3
   ·exact h3
   ·exact absurd h3.symm (hn _ (List.getElem_mem _))
   ·rw [h2] at h3;exact absurd h3 (by simp)
  by_cases hk2:k=i
  ·subst hk2;exact h3
  ·exact Xcn h3 (hpw i k (by omega) hk (by omega))
end Go.Proofs.YtdodihnehppnmaaGreatDoor
namespace Go.Proofs.YtdodihnehppnmaaGreatDoor
structure Ho where
 p:Bytes
 u:Int
 deriving DecidableEq
def actP (l:List Ho) (d:Int):List Ho:=l.filter fun h=>decide (d≤h.u)
def heldP (l:List Ho) (p:Bytes) (d:Int):Bool:=(actP l d).any fun h=>under p h.p
def belowP (l:List Ho) (p:Bytes) (d:Int):Bool:=(actP l d).any fun h=>under h.p p
def alwP (l:List Ho) (k:Int) (p:Bytes) (d:Int):Int:=
 if k=1∨k=2∨k=3 then (if heldP l p d then 15 else 0) else if k=4 then (if heldP l p d || belowP l p d then 15 else 0) else 0
def restH (l:List Ho) (p:Bytes):List Ho:=l.filter fun h=> !(h.p==p)
def insH (h:Ho):List Ho→List Ho
 | []=> [h]
 |x::l=>if ltP (els h.p) (els x.p) then h::x::l else x::insH h l
def untilH (p:Bytes):List Ho→Int→Int
 | [],u=>u
 |h::l,u=>untilH p l (if h.p=p then max u h.u else u)
def hasH (l:List Ho) (p:Bytes):Bool:=l.any fun h=>h.p==p
def appH (l:List Ho) (e:Ent) (d:Int):List Ho × Int:=
 if e.kind=5 then (insH ⟨e.path,untilH e.path (actP l d) (digits e.target)⟩ (restH (actP l d) e.path),0)
 else if e.kind=6 then (if hasH (actP l d) e.path then (restH (actP l d) e.path,0) else ([],9))
 else (actP l d,0)
structure HOk (l:List Ho):Prop where
 ne:l.Pairwise fun a b=>a.p≠b.p
 u0:∀h∈l,0≤h.u
 u1:∀h∈l,h.u≤1000000000
 path:∀h∈l,pathErr h.p=0
theorem Xry:HOk []:=⟨List.Pairwise.nil,fun _ h=>(by cases h),fun _ h=>(by cases h),fun _ h=>(by cases h)⟩
theorem HOk.sub {l m:List Ho} (h:HOk l) (hs:m.Sublist l):HOk m:=⟨h.ne.sublist hs,fun x hx=>h.u0 x (hs.subset hx),fun x hx=>h.u1 x (hs.subset hx),fun x hx=>h.path x (hs.subset hx)⟩
theorem HOk.act {l:List Ho} (h:HOk l) (d:Int):HOk (actP l d):=h.sub List.filter_sublist
theorem HOk.rest {l:List Ho} (h:HOk l) (p:Bytes):HOk (restH l p):=h.sub List.filter_sublist
theorem Xfg (h:Ho):∀ {l:List Ho} {x:Ho},x∈insH h l↔x=h∨x∈l
 | [],x=>by simp [insH]
 |y::l,x=>by
  rw [insH]
  split
  ·rw [List.mem_cons]
  ·rw [List.mem_cons,Xfg h,List.mem_cons]
   constructor
   ·rintro (k|k|k)
    ·exact .inr (.inl k)
    ·exact .inl k
    ·exact .inr (.inr k)
   ·rintro (k|k|k)
    ·exact .inr (.inl k)
    ·exact .inl k
    ·exact .inr (.inr k)
theorem Xow (h:Ho):∀l:List Ho,(insH h l).length=l.length+1
 | []=>rfl
 |y::l=>by
  rw [insH]
  split
  ·rfl
  ·rw [List.length_cons,Xow h l,List.length_cons]
theorem Xrv {h:Ho}:∀ {l:List Ho},l.Pairwise (fun a b=>a.p≠b.p)→(∀x∈l,x.p≠h.p)→(insH h l).Pairwise fun a b=>a.p≠b.p
 | [],_,_=>List.pairwise_singleton _ _
 |y::l,hl,hn=>by
  rw [insH]
  obtain ⟨h1,h2⟩:=List.pairwise_cons.1 hl
  split
  ·exact List.pairwise_cons.2 ⟨fun x hx k=>hn x hx k.symm,hl⟩
  ·refine List.pairwise_cons.2 ⟨fun x hx=> ?_,Xrv h2 fun x hx=>hn x (List.mem_cons_of_mem _ hx)⟩
   rcases (Xfg h).1 hx with rfl|hx
   ·exact hn y (List.mem_cons_self ..)
   ·exact h1 x hx
theorem Xtz {l:List Ho} {p:Bytes}:∀x∈restH l p,x.p≠p:=fun x hx k=>by
 have:=(List.mem_filter.1 hx).2
 rw [k] at this
 simp at this
theorem Xhc (p:Bytes):∀(l:List Ho) (u:Int),(∀h∈l,0≤h.u∧h.u≤1000000000)→0≤u→u≤1000000000→0≤untilH p l u∧untilH p l u≤1000000000
 | [],u,_,h0,h1=>⟨h0,h1⟩
 |h::l,u,hl,h0,h1=>by
  have hh:=hl h (List.mem_cons_self ..)
  have hr:=fun x hx=>hl x (List.mem_cons_of_mem _ hx)
  rw [untilH]
  split
  ·exact Xhc p l _ hr (by omega) (by omega)
  ·exact Xhc p l _ hr h0 h1
theorem Xfo {s:Bytes} (h:dateOk s=true):0≤digits s∧digits s≤1000000000:=by
 unfold dateOk at h
 simp only [Bool.and_eq_true,decide_eq_true_eq] at h
 refine ⟨?_,h.2⟩
 have h0:=h.1.2
 unfold digits
 have key:∀(l:Bytes) (a:Int),0≤a→(l.all fun c=>decide (48≤c)&&decide (c≤57))=true→0≤l.foldl (fun (n:Int) c=>10*n+((c.toNat:Int)-48)) a:=by
  intro l
  induction l with
  |nil=>intro a ha _;exact ha
  |cons c l ih=>
   intro a ha hl
   rw [List.all_cons,Bool.and_eq_true] at hl
   rw [List.foldl_cons]
   have h48:(48:UInt8)≤c:=by
    have:=hl.1
    simp only [Bool.and_eq_true,decide_eq_true_eq] at this
    exact this.1
   have h48':48≤c.toNat:=h48
   exact ih _ (by omega) hl.2
 exact key s 0 (by omega) h0
theorem Xh1 {e:Ent} (he:entErr e=0) (hk:e.kind=5):dateOk e.target=true:=by
 unfold entErr at he
 rw [if_neg (by omega)] at he
 by_cases h1:pathErr e.path≠0
 ·rw [if_pos h1] at he;exact absurd he h1
 rw [if_neg h1] at he
 split at he
 ·omega
 by_cases h2:chk e.attrs≠0
 ·rw [if_pos h2] at he;exact absurd he h2
 rw [if_neg h2] at he
 split at he
 ·omega
 rename_i h3
 have ht:targetOk e=true:=by
  cases hh:targetOk e with
  |true=>rfl
  |false=>exact absurd (.inr hh) h3
 unfold targetOk at ht
 rw [if_neg (by omega),if_pos hk] at ht
 exact ht
theorem Xw9 {l m:List Ho} {e:Ent} {d n:Int} (h:HOk l) (he:entErr e=0) (ha:appH l e d=(m,n)):HOk m:=by
 unfold appH at ha
 by_cases h5:e.kind=5
 ·rw [if_pos h5] at ha
  obtain ⟨rfl,rfl⟩:=Prod.mk.inj ha
  have hr:=(h.act d).rest e.path
  have hd:=Xfo (Xh1 he h5)
  have hu:=Xhc e.path (actP l d) (digits e.target) (fun x hx=>⟨(h.act d).u0 x hx,(h.act d).u1 x hx⟩) hd.1 hd.2
  refine ⟨Xrv hr.ne fun x hx=>Xtz x hx,fun x hx=> ?_,fun x hx=> ?_,fun x hx=> ?_⟩
  ·rcases (Xfg _).1 hx with rfl|hx
   ·exact hu.1
   ·exact hr.u0 x hx
  ·rcases (Xfg _).1 hx with rfl|hx
   ·exact hu.2
   ·exact hr.u1 x hx
  ·rcases (Xfg _).1 hx with rfl|hx
   ·exact (Xbj he).2.2.1
   ·exact hr.path x hx
 ·rw [if_neg h5] at ha
  split at ha
  ·split at ha
   ·obtain ⟨rfl,rfl⟩:=Prod.mk.inj ha
    exact (h.act d).rest e.path
   ·obtain ⟨rfl,rfl⟩:=Prod.mk.inj ha
    exact Xry
  ·obtain ⟨rfl,rfl⟩:=Prod.mk.inj ha
   exact h.act d
theorem Xvd {l m:List Ho} {e:Ent} {d n:Int} (ha:appH l e d=(m,n)):m.length≤l.length+1:=by
 have h1:(actP l d).length≤l.length:=List.length_filter_le _ _
 have h2:∀p,(restH (actP l d) p).length≤(actP l d).length:=fun p=>List.length_filter_le _ _
 have h3:=h2 e.path
 unfold appH at ha
 split at ha
 ·obtain ⟨rfl,rfl⟩:=Prod.mk.inj ha
  rw [Xow];omega
 ·split at ha
  ·split at ha
   ·obtain ⟨rfl,rfl⟩:=Prod.mk.inj ha;omega
   ·obtain ⟨rfl,rfl⟩:=Prod.mk.inj ha;simp
  ·obtain ⟨rfl,rfl⟩:=Prod.mk.inj ha;omega
def wasH (p:Bytes):List Ho→Int→Int
 | [],u=>u
 |h::l,u=>wasH p l (if h.p=p then h.u else u)
theorem Xha {p:Bytes}:∀ {l:List Ho} {u:Int},(∀x∈l,x.p≠p)→wasH p l u=u
 | [],_,_=>rfl
 |h::l,u,hn=>by
  rw [wasH,if_neg (hn h (List.mem_cons_self ..))]
  exact Xha fun x hx=>hn x (List.mem_cons_of_mem _ hx)
theorem Xhb {p:Bytes}:∀ {l:List Ho} {u:Int},(∀x∈l,x.p≠p)→untilH p l u=u
 | [],_,_=>rfl
 |h::l,u,hn=>by
  rw [untilH,if_neg (hn h (List.mem_cons_self ..))]
  exact Xhb fun x hx=>hn x (List.mem_cons_of_mem _ hx)
theorem Xkl {p:Bytes}:∀ {l:List Ho} {u:Int},HOk l→0≤u→(if u<wasH p l (-1) then wasH p l (-1) else u)=untilH p l u
 | [],u,_,h0=>by rw [wasH,untilH,if_neg (by omega)]
 |h::l,u,hk,h0=>by
  obtain ⟨h1,h2⟩:=List.pairwise_cons.1 hk.ne
  by_cases hp:h.p=p
  ·have hn:∀x∈l,x.p≠p:=fun x hx k=>h1 x hx (by rw [hp,k])
   rw [wasH,untilH,if_pos hp,if_pos hp,Xha hn,Xhb hn]
   split<;>omega
  ·rw [wasH,untilH,if_neg hp,if_neg hp]
   exact Xkl (hk.sub (List.sublist_cons_self _ _)) h0
theorem Xqp {p:Bytes}:∀ {l:List Ho},HOk l→(decide (wasH p l (-1)<0))= !(hasH l p)
 | [],_=>by rw [wasH];rfl
 |h::l,hk=>by
  obtain ⟨h1,h2⟩:=List.pairwise_cons.1 hk.ne
  by_cases hp:h.p=p
  ·have hn:∀x∈l,x.p≠p:=fun x hx k=>h1 x hx (by rw [hp,k])
   have h0:=hk.u0 h (List.mem_cons_self ..)
   rw [wasH,if_pos hp,Xha hn,Qf (by omega)]
   simp [hasH,hp]
  ·rw [wasH,if_neg hp,Xqp (hk.sub (List.sublist_cons_self _ _))]
   simp [hasH,hp]
theorem rest_len {l:List Ho} {p:Bytes}:((restH l p).length=l.length)↔hasH l p=false:=by
 unfold restH hasH
 rw [List.length_filter_eq_length_iff,List.any_eq_false]
 constructor
 ·intro h x hx
  have:=h x hx
  simpa using this
 ·intro h x hx
  have:=h x hx
  simpa using this
end Go.Proofs.YtdodihnehppnmaaGreatDoor
namespace Go.Proofs.YtdodihnehppnmaaGreatDoor
def listT (t:List Ent) (p:Bytes):List Ent:=t.filter fun x=>decide (pathErr x.path=0)&&decide (x.path≠ [])&&(upP x.path==p)
def lastP (p:Bytes):Bytes:=(els p).getLastD []
section
variable (H net:Bytes→Bytes) (num:Int→Bytes) (nm:Int→Bytes)
def frontP (x:Ent):Bytes:=net (nm x.kind)++(num x.attrs.length++x.attrs.flatMap fun a=>net a.k++net a.v)
def merkF:Nat→List Ent→Ent→Bytes
 |0,_,_=> []
 |n+1,t,x=>if x.kind=2 then H (frontP net num nm x++num (listT t x.path).length++(listT t x.path).flatMap fun y=>net (lastP y.path)++net (merkF n t y))
  else H (frontP net num nm x++net x.target++num x.size++net x.digest)
end
end Go.Proofs.YtdodihnehppnmaaGreatDoor
namespace Go.Proofs.YtdodihnehppnmaaGreatDoor
def netP (s:Bytes):Bytes:=Lib.itoa s.length++ [58]++s++ [44]
def netsP:List Bytes→Bytes
 | []=> []
 |s::l=>netP s++netsP l
def numP (n:Int):Bytes:=Lib.itoa n++ [32]
theorem Xgf (l m:List Bytes):netsP (l++m)=netsP l++netsP m:=by
 induction l with
 |nil=>rfl
 |cons s l ih=>rw [List.cons_append,netsP,netsP,ih,List.append_assoc]
theorem Xi8 (n w:Nat) (hn:n<10 ^ w) (hw:1≤w):Lib.nDigits n≤w:=by
 induction w generalizing n with
 |zero=>omega
 |succ w ih=>
  by_cases h:n<10
  ·rw [Lib.nDigits_small h];omega
  ·rw [Lib.nDigits_big h]
   rw [Nat.pow_succ] at hn
   rcases Nat.eq_zero_or_pos w with h0|h0
   ·subst h0;simp at hn;omega
   ·have:=ih (n / 10) (by omega) h0;omega
theorem Xee (n:Nat) (h:n≤140737488355328):(Lib.itoa (n:Int)).length≤16:=by
 have:Lib.itoa (n:Int)=Lib.decDigits n:=by simp [Lib.itoa]
 rw [this,Lib.decDigits_length]
 exact Xi8 n 16 (by omega) (by omega)
theorem Xal (s:Bytes) (h:s.length≤100000000):(netP s).length≤s.length+18:=by
 have:=Xee s.length (by omega)
 simp [netP];omega
theorem Xbd (n:Nat) (h:n≤140737488355328):(numP n).length≤17:=by
 have:=Xee n h
 simp [numP];omega
structure DgOk (x:Ent):Prop where
 kind:x.kind=1∨x.kind=2∨x.kind=3
 natt:x.attrs.length≤16
 att:∀a∈x.attrs,a.k.length≤32∧a.v.length≤64
 target:x.target.length≤200
 s0:0≤x.size
 s1:x.size≤65536
 digest:x.digest.length≤32
 path:x.path.length≤200
 deep:(els x.path).length≤8
theorem Xih:∀ {l:List At} {p:Option At},chkFrom p l=0→ ∀a∈l,a.k.length≤32∧a.v.length≤64
 | [],_,_,a,ha=>by cases ha
 |x::l,p,h,a,ha=>by
  unfold chkFrom at h
  by_cases h1:atErr x≠0
  ·rw [if_pos h1] at h;exact absurd h h1
  rw [if_neg h1] at h
  split at h
  ·omega
  split at h
  ·omega
  rcases List.mem_cons.1 ha with rfl|ha
  ·have h2:atErr a=0:=by omega
   unfold atErr at h2
   split at h2
   ·omega
   rename_i hk
   split at h2
   ·omega
   simp [keyOk] at hk
   omega
  ·exact Xih h a ha
theorem Xw3 {l:List At} (h:chk l=0):l.length≤16∧ ∀a∈l,a.k.length≤32∧a.v.length≤64:=by
 unfold chk at h
 split at h
 ·omega
 ·exact ⟨by omega,Xih h⟩
def rootE:Ent:=⟨2,[],[],[],0,[],[]⟩
def Deep (n:Nat) (x:Ent):Prop:=10≤(els x.path).length+n
section
variable (H:Bytes→Bytes) (hH:∀s,(H s).length≤32)
abbrev merkP (n:Nat) (t:List Ent) (x:Ent):Bytes:=merkF H netP numP nameP n t x
abbrev frontN (x:Ent):Bytes:=frontP netP numP nameP x
theorem Xfd (k:Int):(nameP k).length≤7:=by
 unfold nameP
 repeat' split
 all_goals simp
def attP (l:List At):Bytes:=numP l.length++l.flatMap fun a=>netP a.k++netP a.v
theorem Xkh:∀(l:List At),(∀a∈l,a.k.length≤32∧a.v.length≤64)→(l.flatMap fun a=>netP a.k++netP a.v).length≤132*l.length
 | [],_=>by simp
 |a::l,h=>by
  have h1:=h a (List.mem_cons_self ..)
  have h2:=Xkh l fun b hb=>h b (List.mem_cons_of_mem _ hb)
  have h3:=Xal a.k (by omega)
  have h4:=Xal a.v (by omega)
  simp only [List.flatMap_cons,List.length_append,List.length_cons]
  omega
theorem Xva {l:List At} (hn:l.length≤16) (h:∀a∈l,a.k.length≤32∧a.v.length≤64):(attP l).length≤2200:=by
 have h1:=Xkh l h
 have h2:=Xbd l.length (by omega)
 unfold attP
 rw [List.length_append]
 omega
def dirText (n:Nat) (t:List Ent) (x:Ent) (l:List Ent):Bytes:=frontN x++numP (listT t x.path).length++l.flatMap fun y=>netP (lastP y.path)++netP (merkP H n t y)
end
end Go.Proofs.YtdodihnehppnmaaGreatDoor
namespace Go.Proofs.YtdodihnehppnmaaGreatDoor
open Go.RowKit
def rotr (d m x:Int):Int:=bits .or .u32 (x / d) (x*m%4294967296)
theorem Xc0 (k:IntKind) (x y:Int):bits .or k x y=bits .or k y x:=by
 simp only [bits,BitVec.or_comm]
def RotAt (k d m:Int):Prop:=(k=16∧d=65536∧m=65536)∨(k=12∧d=4096∧m=1048576)∨(k=8∧d=256∧m=16777216)∨(k=7∧d=128∧m=33554432)
set_option maxRecDepth 100000 in
theorem Xfs (x:Int) (k d m:Int) (hk:RotAt k d m) (w:World):
 Calls Tryz.prog 191 #[.int .u32 x,.int .i64 (-k)] w fun e w'=>e= .returned (.int .u32 (rotr d m x))∧w'=w:=by
 rcases hk with ⟨rfl,rfl,rfl⟩|⟨rfl,rfl,rfl⟩|⟨rfl,rfl,rfl⟩|⟨rfl,rfl,rfl⟩
 ·have e1:IntKind.u64.wrap (-16)=18446744073709551600:=by decide
  have e2:bits .and .u64 18446744073709551600 31=16:=by decide
  go_enter Tryz.func191,Tryz.ntmps191
  go_wp2
  go_ret
  exact ⟨Xac (Xc0 _ _ _),rfl⟩
 ·have e1:IntKind.u64.wrap (-12)=18446744073709551604:=by decide
  have e2:bits .and .u64 18446744073709551604 31=20:=by decide
  go_enter Tryz.func191,Tryz.ntmps191
  go_wp2
  go_ret
  exact ⟨Xac (Xc0 _ _ _),rfl⟩
 ·have e1:IntKind.u64.wrap (-8)=18446744073709551608:=by decide
  have e2:bits .and .u64 18446744073709551608 31=24:=by decide
  go_enter Tryz.func191,Tryz.ntmps191
  go_wp2
  go_ret
  exact ⟨Xac (Xc0 _ _ _),rfl⟩
 ·have e1:IntKind.u64.wrap (-7)=18446744073709551609:=by decide
  have e2:bits .and .u64 18446744073709551609 31=25:=by decide
  go_enter Tryz.func191,Tryz.ntmps191
  go_wp2
  go_ret
  exact ⟨Xac (Xc0 _ _ _),rfl⟩
set_option maxRecDepth 100000 in
theorem Xkz (x:Int) (k d m:Int) (hk:RotAt k d m) (w:World):
 Calls Tryz.prog 263 #[.int .u32 x,.int .u64 k] w fun e w'=>e= .returned (.int .u32 (rotr d m x))∧w'=w:=by
 rcases hk with ⟨rfl,rfl,rfl⟩|⟨rfl,rfl,rfl⟩|⟨rfl,rfl,rfl⟩|⟨rfl,rfl,rfl⟩
 all_goals
  go_enter Tryz.func263,Tryz.ntmps263
  go_wp2
  go_ret
  exact ⟨Xac rfl,rfl⟩
def row (l:List Int):Array Value:=(l.map fun x=>Value.int .u32 x).toArray
@[simp] theorem row_size (l:List Int):(row l).size=l.length:=by simp [row]
theorem Xau {l:List Int} {i:Nat} (h:i<l.length):(row l)[i]? =some (.int .u32 (l.getD i 0)):=by
 simp [row,List.getD,List.getElem?_eq_getElem h]
theorem Xvu (l:List Int) (i:Nat) (v:Int):(row l).setIfInBounds i (.int .u32 v)=row (l.set i v):=by
 simp [row,List.map_set]
theorem heap_setCell {w:World} {b i:Nat} {l:List Int} {t:TypeId} {f:Nat × Nat} (v:Int) (h:w.heap[b]? =some (.cells (row l) t f)):(w.setCell ⟨b,i,none⟩ (.int .u32 v)).heap[b]? =some (.cells (row (l.set i v)) t f):=by
 unfold World.setCell
 rw [Array.getElem?_modify,if_pos rfl,h]
 simp [Xvu]
theorem Xca (w:World) (a:Addr) (u:Value):w.grownBy (w.setCell a u) (some a.block):=
 ⟨rfl,rfl,rfl,by simp [World.setCell],fun k _ hne=>Below.heap_setCell _ _ _ _ (fun e=>hne (by rw [e]))⟩
theorem Xno {B:Nat} {w w':World} {r:Option Nat} (h:Below B w w') (hB:w.heap.size≤B):w.grownBy w' r:=
 ⟨h.os,h.tape,h.output,h.size,fun k hk _=>h.block k (by omega)⟩
theorem Xdp {w w1 w2:World} {r:Option Nat} (h:w.grownBy w1 r) (k:w1.grownBy w2 r):w.grownBy w2 r:=
 ⟨k.os.trans h.os,k.tape.trans h.tape,k.output.trans h.output,Nat.le_trans h.size k.size,fun j hj hne=>(k.block j (Nat.lt_of_lt_of_le hj h.size) hne).trans (h.block j hj hne)⟩
theorem Xp9 {w w':World} {r:Option Nat} (h:w.grownBy w' r):w.grownBy w'.drew r:=⟨h.os,h.tape,h.output,h.size,h.block⟩
def mixW (a b c d x y:Int):Int × Int × Int × Int:=
 let a1:=(a+(b+x))%4294967296
 let d1:=rotr 65536 65536 (bits .xor .u32 d a1)
 let c1:=(c+d1)%4294967296
 let b1:=rotr 4096 1048576 (bits .xor .u32 b c1)
 let a2:=(a1+(b1+y))%4294967296
 let d2:=rotr 256 16777216 (bits .xor .u32 d1 a2)
 let c2:=(c1+d2)%4294967296
 (a2,rotr 128 33554432 (bits .xor .u32 b1 c2),c2,d2)
def mixP (l:List Int) (a b c d:Nat) (x y:Int):List Int:=
 let r:=mixW (l.getD a 0) (l.getD b 0) (l.getD c 0) (l.getD d 0) x y
 (((l.set a r.1).set b r.2.1).set c r.2.2.1).set d r.2.2.2
theorem Xev (l:List Int) (a b c d:Nat) (x y:Int):(mixP l a b c d x y).length=l.length:=by simp [mixP]
end Go.Proofs.YtdodihnehppnmaaGreatDoor
