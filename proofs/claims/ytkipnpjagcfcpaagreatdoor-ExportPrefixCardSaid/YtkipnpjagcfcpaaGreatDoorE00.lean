/- Lemmas for the claim's theorem;conditions: as each says. -/
import Derived.WalkKit
import Derived.WalkSpells
import Derived.WalkLawsBesides
import Derived.Lib.Hide
import Derived.Lib.QuietBelow
import Derived.Deep.QuietTactic
import Derived.BigQuiet
import Derived.Laws.StructEq
import Derived.StillTail
import Derived.Lib.SplitLaws
import Derived.Lib.Join
import Derived.Laws.RangeAny
import Derived.Shelf.GgClosure.StringsIndexFunc
import Derived.Test.YtkipnpjagcfcpaaGreatDoorRows
import Derived.Lib.AtoiAll
import Derived.Lib.ItoaNum
import Derived.BigRegion
import Derived.Test.YtkipnpjagcfcpaaGreatDoorProg
import Derived.OpenShut
import Derived.DataShut
import Derived.Laws.ResultCell
import Derived.Deep.WholeRow
import Derived.Laws.CopyOwn
import Derived.Shelf.Spec.SlicesInsert
import Derived.Lib.AppendZerosOnto
import Derived.Deep.DeepCutAuto
import Derived.StillTailTactics
set_option maxHeartbeats 0
set_option maxRecDepth 100000
set_option linter.all false
namespace Go.RowKit
theorem Hid.O{p:Prop}(h:Hid p):p:=h.out
end Go.RowKit
namespace Go.Proofs.YtkipnpjagcfcpaaGreatDoor
open Go.RowKit
variable{w:World}{i:Nat}{v:Value}{w':World}{P:Program}{n:Nat}{α:Type}{b:Nat}{a:Act}{Q:Exit→Act→World→Prop}{B:Nat}{w0 W:World}{ts te:TypeId}{bytes:Nat}{o:Oper}{g:Nat}{K:Act→Prop}{r:Option Nat}{f:Nat×Nat}{ops:Array Oper}{E:TypeId}{Z:Array Bool→Prop}{id k:Nat}{c:UInt8}{d:Int}{cs:Array Value}{v':List Int}
theorem Qi{a:Array α}{x:α}(h:a[i]?=some x): ∃h:i<a.size,a[i]=x:=Array.getElem?_eq_some_iff.1 h
theorem Qg{a:Array α}{x:α}(h:a[i]?=some x):i<a.size:=(Array.getElem?_eq_some_iff.1 h).1
theorem Qh{p:Prop}(h:p):Hid p:=h
theorem Qn(n:Nat):n≤n:=Nat.le_refl n
theorem Qb(n:Nat)(w:World):Below n w w:=Below.refl n w
theorem Qt{p:Prop}[Decidable p](h:p):decide p=true:=decide_eq_true h
theorem Qf{p:Prop}[Decidable p](h:¬p):decide p=false:=decide_eq_false h
abbrev ae:=List UInt8
variable{p s:ae}
abbrev S(l:ae):Value:= .string ⟨l.toArray⟩
abbrev IH:=Nat→Option (Array Value)
variable{I:IH}
def Ok(I:IH)(w:World):Prop:=∀b c,I b=some c→ ∃e f,w.heap[b]?=some (.cells c e f)
def Ext(n:Nat)(I I':IH):Prop:=∀b,b<n→I' b=I b
def IH.add(I:IH)(b:Nat)(c:Array Value):IH:=fun k=>if k=b then some c else I k
section
variable {I I' Tg:IH} {w w':World} {b n m:Nat} {c:Array Value}
theorem Ok.lt(h:Ok I w)(hb:I b=some c):b<w.heap.size:=by
 obtain⟨e,f,hh⟩:=h b c hb;exact(Qg hh)
theorem Ok.fresh(h:Ok I w)(hb:w.heap.size≤b):I b=none:=by
 cases hc:I b with
 |none=>rfl
 |some c=>have:=h.lt hc;omega
theorem Ok.cell(h:Ok I w)(hb:I b=some c)(j:Nat):w.cell? ⟨b,j,none⟩=c[j]? :=by
 obtain⟨e,f,hh⟩:=h b c hb;simp[World.cell?,hh]
theorem Ok.of_block(h:Ok I w)(k:∀b c,I b=some c→w'.heap[b]?=w.heap[b]?):Ok I w':=fun b c hb=>by
 rw[k b c hb];exact h b c hb
theorem Ok.below(h:Ok I w)(hB:w.heap.size≤B)(hb:Below B w w'):Ok I w':=
 h.of_block fun b _ hc=>hb.block b (Nat.lt_of_lt_of_le (h.lt hc) hB)
theorem Ok.drew(h:Ok I w):Ok I w.drew:=h
theorem Ok.alloc(h:Ok I w)(o:Obj):Ok I (w.alloc o):=h.of_block fun b _ hc=>Below.heap_alloc w o b (h.lt hc)
theorem Ok.setCell(h:Ok I w){a:Addr}(ha:I a.block=none)(u:Value):Ok I (w.setCell a u):=h.of_block fun b _ hc=>
 Below.heap_setCell w a u b (fun e=>by subst e;rw[ha]at hc;cases hc)
theorem Ok.grown(h:Ok I w){row:Option Nat}(hg:w.grownBy w' row)(hr:∀g,row=some g→I g=none):Ok I w':=h.of_block fun b _ hc=>
 hg.block b (h.lt hc) (fun e=>by have:=hr b e.symm;rw[this]at hc;cases hc)
theorem Ok.add{e:TypeId}(h:Ok I w)(hb:w.heap[b]?=some (.cells c e f)):Ok (I.add b c) w:=fun k d hk=>by
 unfold IH.add at hk;split at hk
 ·rename_i e';subst e';cases hk;exact⟨e,f,hb⟩
 ·exact h k d hk
theorem Ext.refl(n:Nat)(I:IH):Ext n I I:=fun _ _=>rfl
theorem Ext.trans(h:Ext n I I')(k:Ext m I' Tg)(hm:n≤m):Ext n I Tg:=fun b hb=>(k b (by omega)).trans (h b hb)
theorem Ext.mono(h:Ext n I I')(hm:m≤n):Ext m I I':=fun b hb=>h b (by omega)
theorem Ext.add(hb:n≤b)(I:IH)(c:Array Value):Ext n I (I.add b c):=fun k hk=>by
 unfold IH.add;rw[if_neg (by omega)]
theorem Ext.keep(h:Ext n I I')(gG:Ok I w)(hn:w.heap.size≤n):∀b c,I b=some c→I' b=some c:=fun b c hc=>by
 rw[h b (Nat.lt_of_lt_of_le (gG.lt hc) hn)];exact hc
end
structure Ty (α:Type) where
 size:Nat
 rd:IH→List Value→α→Prop
 len:∀{I cs x},rd I cs x→cs.length=size
 one:∀{I cs x},rd I cs x→ ∀u∈cs,u.oneCell'=true
 mono:∀{I I':IH} {cs x},(∀b c,I b=some c→I' b=some c)→rd I cs x→rd I' cs x
variable{T:Ty α}
def Ty.flat{α:Type}(size:Nat)(enc:α→List Value)(hl:∀x,(enc x).length=size)(h1:∀x,∀u∈enc x,u.oneCell'=true):Ty α where
 size:=size
 rd:=fun _ cs x=>cs=enc x
 len:=fun h=>by rw[h];exact hl _
 one:=fun h=>by rw[h];exact h1 _
 mono:=fun _ h=>h
def ahk(k:IntKind):Ty Int:=Ty.flat 1 (fun n=> [.int k n]) (fun _=>rfl) (fun _ u h=>by simp at h;subst h;rfl)
def jE:Ty ae:=Ty.flat 1 (fun s=> [S s]) (fun _=>rfl) (fun _ u h=>by simp at h;subst h;rfl)
def DC{α:Type}(T:Ty α)(I:IH)(arr:Array Value)(off:Nat)(l:List α):Prop:=
 ∀i (h:i<l.length),∃cs,T.rd I cs l[i]∧ ∀j u,cs[j]?=some u→arr[off+(i*T.size+j)]?=some u
def bf{α:Type}(T:Ty α)(I:IH)(v:Value)(l:List α):Prop:=
 ∃(ao:Option Addr) (cap:Nat),v= .slice ao l.length cap∧l.length≤cap∧cap≤maxLen∧
  (0<l.length→ ∃b off arr,ao=some ⟨b,off,none⟩∧I b=some arr∧DC T I arr off l)
section
variable {α:Type} {T:Ty α} {I I':IH} {w:World} {v:Value} {l:List α}
theorem DC.mono{arr:Array Value}{off:Nat}(hI:∀b c,I b=some c→I' b=some c)(h:DC T I arr off l):DC T I' arr off l:=fun i hi=>
 let ⟨cs,h1,h2⟩:=h i hi
 ⟨cs,T.mono hI h1,h2⟩
theorem bf.mono(hI:∀b c,I b=some c→I' b=some c)(h:bf T I v l):bf T I' v l:=by
 obtain⟨ao,cap,hv,h1,h2,h3⟩:=h;refine⟨ao,cap,hv,h1,h2,fun hl=> ?_⟩;obtain⟨b,off,arr,e1,e2,e3⟩:=h3 hl;exact⟨b,off,arr,e1,hI _ _ e2,e3.mono hI⟩
theorem bf.nil(T:Ty α)(I:IH):bf T I (.slice none 0 0) []:=⟨none,0,rfl,Qn _,Nat.zero_le _,fun h=>absurd h (by simp)⟩
theorem bf.one{v:Value}(h:bf T I v l):v.oneCell'=true:=by
 obtain⟨ao,cap,rfl,_⟩:=h;rfl
def tSl(T:Ty α):Ty (List α) where
 size:=1
 rd:=fun I cs l=> ∃v,cs=[v]∧bf T I v l
 len:=fun⟨v,h,_⟩=>by rw[h];rfl
 one:=fun⟨v,h,k⟩ u hu=>by rw[h]at hu;simp at hu;subst hu;exact k.one
 mono:=fun hI ⟨v,h,k⟩=>⟨v,h,k.mono hI⟩
theorem bf.at_(h:bf T I v l)(hw:Ok I w)(hi:i<l.length):∃b off cap cs,v= .slice (some ⟨b,off,none⟩) l.length cap∧T.rd I cs l[i]∧
 ∀j u,cs[j]?=some u→w.cell? ⟨b,off+i*T.size+j,none⟩=some u:=by
 obtain⟨ao,cap,hv,h1,h2,h3⟩:=h;obtain⟨b,off,arr,rfl,e2,e3⟩:=h3 (by omega);obtain⟨cs,k1,k2⟩:=e3 i hi;exact⟨b,off,cap,cs,hv,k1,fun j u hu=>by rw[hw.cell e2,Nat.add_assoc];exact k2 j u hu⟩
theorem bf.bW(h:bf T I v l):l.length≤9223372036854775807:=by
 obtain⟨ao,cap,hv,h1,h2,h3⟩:=h;unfold maxLen at h2;omega
end
@[go_sem] theorem mk_append_mk (x y:ae):(ByteArray.mk x.toArray++ByteArray.mk y.toArray)=ByteArray.mk (x++y).toArray:=ByteArray.mk_append_mk x y
@[go_sem] theorem Ke (x:ae) (a b:Nat):(ByteArray.mk x.toArray).extract a b=ByteArray.mk ((x.drop a).take (b-a)).toArray:=by
  apply ByteArray.ext;simp[ByteArray.data_extract]
theorem Kg{a b:ae}(h:a=b):Ending.returned (S a)= .returned (S b):=by rw[h]
theorem bP{k:IntKind}{a b:Int}(h:a=b):Ending.returned (.int k a)= .returned (.int k b):=by rw[h]
theorem iW{a b:Bool}(h:a=b):Ending.returned (.bool a)= .returned (.bool b):=by rw[h]
@[go_sem] def eqL (d:Nat) (xs ys:Array Value):List (TypeId×Nat×Bool)→Sem Bool
  | []=>pure true
  |(t,o,b)::fs=>if b then eqL d xs ys fs else do
     let a ←part t xs o
     let b ←part t ys o
     let r ←Op.equalIn d t a b
     if(!r)=true then pure false else eqL d xs ys fs
theorem dh{a:Addr}{x:Value}(hb:Below W.heap.size W w')(h:W.cell? a=some x):w'.cell? a=some x:=(hb.cell (block_lt_of_cell h)).trans h
theorem fP{a:Addr}{x:Value}(o:Obj)(h:W.cell? a=some x):(W.alloc o).cell? a=some x:=(World.cell?_alloc_lt _ _ _ (block_lt_of_cell h)).trans h
theorem xP{a:Addr}{x:Value}{row:Option Nat}(hg:W.grownBy w' row)(bZ:row≠some a.block)(h:W.cell? a=some x):w'.cell? a=some x:=
 (World.cell?_of_block (hg.block _ (block_lt_of_cell h) (fun e=>bZ e.symm))).trans h
def bS{α:Type}(T:Ty α)(I:IH)(xs:List Value)(l:List α):Prop:=
 xs.length=l.length*T.size∧ ∀i (h:i<l.length),∃cs,T.rd I cs l[i]∧ ∀j u,cs[j]?=some u→xs[i*T.size+j]?=some u
def aP{α:Type}(T:Ty α)(E:TypeId)(I:IH)(w:World)(B:Nat)(v:Value)(l:List α):Prop:=
 ∃xs,w.ownsRow B E T.size v l.length xs∧bS T I xs l
section
variable {α:Type} {T:Ty α} {I I':IH} {w w':World} {v:Value} {l:List α} {xs:List Value} {E:TypeId} {B:Nat}
theorem bS.mono(hI:∀b c,I b=some c→I' b=some c)(h:bS T I xs l):bS T I' xs l:=
 ⟨h.1,fun i hi=>let ⟨cs,h1,h2⟩:=h.2 i hi;⟨cs,T.mono hI h1,h2⟩⟩
theorem bS.nil(T:Ty α)(I:IH):bS T I [] []:=⟨by simp,fun i h=>absurd h (by simp)⟩
theorem bS.one{x:α}{cs:List Value}(h:T.rd I cs x):bS T I cs [x]:=by
 refine⟨by simp[T.len h],fun i hi=>⟨cs,?_,fun j u hu=> ?_⟩⟩
 ·have:i=0:=by simp at hi;omega
  subst this;exact h
 ·have:i=0:=by simp at hi;omega
  subst this;simpa using hu
theorem bS.append{ys:List Value}{m:List α}(h:bS T I xs l)(k:bS T I ys m):bS T I (xs++ys) (l++m):=by
 refine⟨by rw[List.length_append,List.length_append,h.1,k.1,Nat.add_mul],fun i hi=> ?_⟩;by_cases hl:i<l.length
 ·obtain⟨cs,h1,h2⟩:=h.2 i hl;refine⟨cs,by rw[List.getElem_append_left hl];exact h1,fun j u hu=> ?_⟩;have hx:=h2 j u hu;rw[List.getElem?_append_left (List.getElem?_eq_some_iff.1 hx).1];exact hx
 ·obtain⟨cs,h1,h2⟩:=k.2 (i-l.length) (by simp at hi;omega);refine⟨cs,by rw[List.getElem_append_right (by omega)];exact h1,fun j u hu=> ?_⟩;have hx:=h2 j u hu;have e:i*T.size+j=xs.length+((i-l.length)*T.size+j):=by
   rw[h.1,Nat.sub_mul];have:=Nat.mul_le_mul_right T.size (show l.length≤i by omega);omega
  rw[e,List.getElem?_append_right (by omega),Nat.add_sub_cancel_left];exact hx
theorem bS.take(h:bS T I xs l)(n:Nat):bS T I (xs.take (n*T.size)) (l.take n):=by
 refine⟨by
  rw[List.length_take,List.length_take,h.1];rcases Nat.le_total n l.length with hn|hn
  ·rw[Nat.min_eq_left hn,Nat.min_eq_left (Nat.mul_le_mul_right _ hn)]
  ·rw[Nat.min_eq_right hn,Nat.min_eq_right (Nat.mul_le_mul_right _ hn)],fun i hi=> ?_⟩
 have Sj:i<n∧i<l.length:=by simp at hi;omega
 obtain⟨cs,h1,h2⟩:=h.2 i Sj.2;refine⟨cs,by rw[List.getElem_take];exact h1,fun j u hu=> ?_⟩;have hj:j<T.size:=by rw[←T.len h1];exact(List.getElem?_eq_some_iff.1 hu).1
 have:=Nat.mul_le_mul_right T.size (show i+1≤n by omega);rw[Nat.add_mul]at this;rw[List.getElem?_take_of_lt (by omega)];exact h2 j u hu
theorem bS.drop(h:bS T I xs l)(n:Nat):bS T I (xs.drop (n*T.size)) (l.drop n):=by
 refine⟨by rw[List.length_drop,List.length_drop,h.1,Nat.sub_mul],fun i hi=> ?_⟩;have Sj:n+i<l.length:=by simp at hi;omega
 obtain⟨cs,h1,h2⟩:=h.2 (n+i) Sj;refine⟨cs,by rw[List.getElem_drop];exact h1,fun j u hu=> ?_⟩;rw[List.getElem?_drop,←Nat.add_assoc,←Nat.add_mul];exact h2 j u hu
theorem bS.oneCell(h:bS T I xs l):∀u∈xs,u.oneCell'=true:=by
 intro u hu;obtain⟨p,hp,rfl⟩:=List.getElem_of_mem hu;have hs:0<T.size:=by
  rcases Nat.eq_zero_or_pos T.size with h0|h0
  ·have:=h.1;rw[h0,Nat.mul_zero]at this;omega
  ·exact h0
 have hi:p / T.size<l.length:=by rw[Nat.div_lt_iff_lt_mul hs,←h.1];exact hp
 obtain⟨cs,h1,h2⟩:=h.2 _ hi;have hj:p%T.size<cs.length:=by rw[T.len h1];exact Nat.mod_lt _ hs
 have hx:=h2 (p%T.size) _ (List.getElem?_eq_getElem hj);rw[show p / T.size*T.size+p%T.size=p by rw[Nat.mul_comm];exact Nat.div_add_mod p T.size,List.getElem?_eq_getElem hp]at hx;rw[Option.some.inj hx];exact T.one h1 _ (List.getElem_mem hj)
theorem bf.cells(h:bf T I v l)(hw:Ok I w)(hs:0<T.size):∃(ao:Option Addr) (cap:Nat) (xs:List Value),v= .slice ao l.length cap∧l.length≤cap∧cap≤maxLen∧bS T I xs l∧
 (0<l.length→ ∃b off arr,ao=some ⟨b,off,none⟩∧I b=some arr∧b<w.heap.size∧ ∀j u,xs[j]?=some u→w.cell? ⟨b,off+j,none⟩=some u):=by
 obtain⟨ao,cap,hv,h1,h2,h3⟩:=h;rcases Nat.eq_zero_or_pos l.length with h0|h0
 ·have:l=[]:=List.eq_nil_of_length_eq_zero h0;subst this;exact⟨ao,cap,[],hv,h1,h2,bS.nil T I,fun h=>absurd h (by simp)⟩
 ·obtain⟨b,off,arr,e1,e2,e3⟩:=h3 h0;have eU:off+l.length*T.size≤arr.size:=by
   obtain⟨cs,k1,k2⟩:=e3 (l.length-1) (by omega);have hx:=k2 (T.size-1) _ (List.getElem?_eq_getElem (by rw[T.len k1];omega));have:=(Qg hx);have e:(l.length-1)*T.size+T.size=l.length*T.size:=by
    rw[←Nat.succ_mul,Nat.succ_eq_add_one,show l.length-1+1=l.length by omega]
   omega
  refine⟨ao,cap,(arr.toList.drop off).take (l.length*T.size),hv,h1,h2,⟨by simp;omega,fun i hi=> ?_⟩,fun _=>⟨b,off,arr,e1,e2,hw.lt e2,fun j u hu=> ?_⟩⟩
  ·obtain⟨cs,k1,k2⟩:=e3 i hi;refine⟨cs,k1,fun j u hu=> ?_⟩;have hj:j<T.size:=by rw[←T.len k1];exact(List.getElem?_eq_some_iff.1 hu).1
   have:=Nat.mul_le_mul_right T.size (show i+1≤l.length by omega);rw[Nat.add_mul]at this;rw[List.getElem?_take_of_lt (by omega),List.getElem?_drop,Array.getElem?_toList];exact k2 j u hu
  ·rw[hw.cell e2];rw[List.getElem?_take]at hu;split at hu
   ·rw[List.getElem?_drop,Array.getElem?_toList]at hu;exact hu
   ·cases hu
theorem aP.kept{row:Option Nat}(h:aP T E I w B v l)(hg:w.grownBy w' row)(bZ:v.ownBlock=none∨v.ownBlock≠row):aP T E I w' B v l:=
 let ⟨xs,h1,h2⟩:=h
 ⟨xs,h1.kept hg bZ,h2⟩
theorem aP.below(h:aP T E I w B v l)(hb:Below w.heap.size w w'):aP T E I w' B v l:=
 h.kept (row:=none) ⟨hb.os,hb.tape,hb.output,hb.size,fun k hk _=>hb.block k hk⟩ (by cases v.ownBlock<;>simp)
theorem aP.alloc(h:aP T E I w B v l)(o:Obj):aP T E I (w.alloc o) B v l:=
 let ⟨xs,h1,h2⟩:=h
 ⟨xs,h1.alloc o,h2⟩
theorem aP.mono(hI:∀b c,I b=some c→I' b=some c)(h:aP T E I w B v l):aP T E I' w B v l:=
 let ⟨xs,h1,h2⟩:=h
 ⟨xs,h1,h2.mono hI⟩
theorem aP.lower{B':Nat}(h:aP T E I w B v l)(hB:B'≤B):aP T E I w B' v l:=by
 obtain⟨xs,⟨h1,Gp⟩,h2⟩:=h;refine⟨xs,⟨h1,?_⟩,h2⟩;rcases Gp with h0|⟨g,cap,cur,a,b,c⟩
 ·exact .inl h0
 ·exact .inr ⟨g,cap,cur,a,by omega,c⟩
theorem aP.nil(T:Ty α)(E:TypeId)(I:IH)(w:World)(B:Nat):aP T E I w B (.slice none 0 0) []:=⟨[],World.ownsRow_nil w B E T.size,bS.nil T I⟩
theorem aP.mP(h:aP T E I w B v l)(hb:w.heap.size≤b):v.ownBlock≠some b:=by
 obtain⟨xs,h1,_⟩:=h;intro e;have:=(h1.lt b e).2;omega
theorem aP.dx(h:aP T E I w B v l)(hb:b<B):v.ownBlock≠some b:=by
 obtain⟨xs,h1,_⟩:=h;intro e;have:=(h1.lt b e).1;omega
theorem aP.qZ(h:aP T E I w B v l)(e:v.ownBlock=some b):B≤b:=by
 obtain⟨xs,h1,_⟩:=h;exact(h1.lt b e).1
theorem aP.freeze(h:aP T E I w B v l)(hw:Ok I w)(hI:∀b,B≤b→I b=none):∃I',Ext B I I'∧Ok I' w∧bf T I' v l∧ ∀b,v.ownBlock≠some b→I' b=I b:=by
 obtain⟨xs,⟨h1,Gp⟩,h2⟩:=h;rcases Gp with⟨rfl,h0⟩|⟨g,cap,cur,rfl,hb,hg,IR,iR,iU,ht⟩
 ·refine⟨I,Ext.refl _ _,hw,?_,fun _ _=>rfl⟩;have:l=[]:=List.eq_nil_of_length_eq_zero h0;subst this;exact bf.nil T I
 ·have uM:∀b c,I b=some c→(I.add g cur) b=some c:=fun b c hc=>by
   unfold IH.add;by_cases e:b=g
   ·subst e;rw[hI _ hb]at hc;cases hc
   ·rw[if_neg e];exact hc
  refine⟨I.add g cur,Ext.add hb I cur,hw.add hg,⟨_,cap,rfl,IR,iR,fun _=>⟨g,0,cur,rfl,by simp[IH.add],fun i hi=> ?_⟩⟩,fun b Vf=> ?_⟩
  ·obtain⟨cs,k1,k2⟩:=h2.2 i hi;refine⟨cs,T.mono uM k1,fun j u hu=> ?_⟩;have hx:=k2 j u hu;rw[←ht,List.getElem?_take]at hx;split at hx
   ·rw[Nat.zero_add,←Array.getElem?_toList];exact hx
   ·cases hx
  ·have:b≠g:=fun e=>Vf (by simp[Value.ownBlock,e]);simp[IH.add,this]
def eZ(P:Program)(ts te:TypeId)(T:Ty α)(bytes:Nat):Prop:=
 ∃i z,P.underlying ts=some (.slice te)∧P.info? te=some i∧i.zero=some z∧i.size=T.size∧i.bytes=bytes∧z.cells.size=T.size∧0<T.size
theorem eZ.of{z:Value}{size:Nat}(hu:P.underlying ts=some (.slice te))(h:(P.info? te).map (fun i=>(i.zero,i.size,i.bytes))=some (some z,size,bytes))(hz:z.cells.size=size)(hs:0<size)(hT:T.size=size):eZ P ts te T bytes:=by
 obtain⟨i,h1,h2,h3,h4⟩:=info_parts h;exact⟨i,z,hu,h1,h2,by rw[h3,hT],h4,by rw[hz,hT],by rw[hT];exact hs⟩
theorem oK(hE:eZ P ts te T bytes){rest:List Oper}(CK:o.guard=none)(s x:Operand)
 (ho:o.op= .call {callee:= .builtin .append,args:=#[s,x],argTypes:=#[ts,ts]}) (B:Nat) (v:Value) (l:List α) (hs:a.eval s=v) (bE:aP T te I w0 B v l)
 (y:α) (cs:List Value) (tb:TypeId) (hx:a.eval x= .slice (some ⟨w0.heap.size,0,none⟩) 1 1) (hy:T.rd I cs y) (jd:(l.length+1)*bytes≤140737488355328) (hl:l.length+1≤9223372036854775807) (hB:B≤w0.heap.size)
 (h:∀v' w',aP T te I w' B v' (l++[y])→w0.grownBy w' v.ownBlock→wpList P ops Q rest (a.put o.dst v') w'):wpList P ops Q (o::rest) a (w0.alloc (.cells cs.toArray tb)):=by
 obtain⟨i,z,h1,h2,h3,h4,h5,h6,h7⟩:=hE;obtain⟨xs,k1,k2⟩:=bE
 refine wpList_append_own (w0.alloc (.cells cs.toArray tb)) CK s x ts ho B te i z T.size bytes h1 h2 h3 h4 h5 h6 h7 v l.length xs hs (k1.alloc _) ⟨w0.heap.size,0,none⟩ 1 1 cs hx (by rw[T.len hy,Nat.one_mul])
  (fun j u hu=>by rw[Addr.add_lit,Nat.zero_add,World.cell?_alloc_new];simpa using hu) (T.one hy) (by unfold maxLen;omega) jd (by simp;omega) (fun v' w' r1 r2 _=>h v' w' ⟨xs++cs,by rw[List.length_append];exact r1,k2.append (bS.one hy)⟩ ?_)
 exact⟨r2.os,r2.tape,r2.output,by have:=r2.size;simp at this;omega,fun k hk bZ=>(r2.block k (by simp;omega) bZ).trans (Below.heap_alloc _ _ _ hk)⟩
theorem Xje(hE:eZ P ts te T bytes){rest:List Oper}(CK:o.guard=none)(s x:Operand)
 (ho:o.op= .call {callee:= .builtin .append,args:=#[s,x],argTypes:=#[ts,ts]}) (B:Nat) (v:Value) (l:List α) (hs:a.eval s=v) (bE:aP T te I w0 B v l)
 (ys:List α) (cs:List Value) (tb:TypeId) (hx:a.eval x= .slice (some ⟨w0.heap.size,0,none⟩) ys.length ys.length) (hy:bS T I cs ys) (_hp:0<ys.length) (jd:(l.length+ys.length)*bytes≤140737488355328) (hl:l.length+ys.length≤9223372036854775807) (hB:B≤w0.heap.size)
 (h:∀v' w',aP T te I w' B v' (l++ys)→w0.grownBy w' v.ownBlock→wpList P ops Q rest (a.put o.dst v') w'):wpList P ops Q (o::rest) a (w0.alloc (.cells cs.toArray tb)):=by
 obtain⟨i,z,h1,h2,h3,h4,h5,h6,h7⟩:=hE;obtain⟨xs,k1,k2⟩:=bE
 refine wpList_append_own (w0.alloc (.cells cs.toArray tb)) CK s x ts ho B te i z T.size bytes h1 h2 h3 h4 h5 h6 h7 v l.length xs hs (k1.alloc _) ⟨w0.heap.size,0,none⟩ ys.length ys.length cs hx hy.1
  (fun j u hu=>by rw[Addr.add_lit,Nat.zero_add,World.cell?_alloc_new];simpa using hu) hy.oneCell (by unfold maxLen;omega) jd (by simp;omega) (fun v' w' r1 r2 _=>h v' w' ⟨xs++cs,by rw[List.length_append];exact r1,k2.append hy⟩ ?_)
 exact⟨r2.os,r2.tape,r2.output,by have:=r2.size;simp at this;omega,fun k hk bZ=>(r2.block k (by simp;omega) bZ).trans (Below.heap_alloc _ _ _ hk)⟩
end
theorem Below.own{l:List α}{B0:Nat}(h:Below B0 w w0)(hg:w0.grownBy w' v.ownBlock)(bE:aP T E I w0 B v l)(hB:B0≤B)(hB':B≤w0.heap.size):Below B0 w w':=
 h.grown hg (by omega) (fun _ hk=>Nat.le_trans hB (bE.qZ hk))
theorem Ok.own{J:IH}{l:List α}(h:Ok J w0)(hg:w0.grownBy w' v.ownBlock)(bE:aP T E I w0 B v l)(hJ:∀b,B≤b→J b=none):Ok J w':=
 h.grown hg (fun g hk=>hJ g (bE.qZ hk))
open Go.RowKit Go.Sort
section
variable {P:Program} {ops:Array Oper} {md:Region.Mode} {C:World→Prop}
def yg(P:Program)(md:Region.Mode)(ops:Array Oper)(C:World→Prop)(n:Nat)(Z:Array Bool→Prop)(K:Act→Prop):Nat→Array Bool→Act→Prop
 |0,s,a=>Z s∧K a
 |f+1,s,a=>(∃i,i∈Region.ready md ops s)∧ ∀i∈Region.ready md ops s,i<n∧qOp P ops C i (yg P md ops C n Z K f (s.setIfInBounds i true)) a
theorem Xs5(hZ:∀s a w,Z s→C w→K a→wpAny P md ops Q g s a w):
 ∀(f:Nat) (s:Array Bool) (a:Act) (w:World),C w→yg P md ops C n Z K f s a→wpAny P md ops Q (g+f) s a w:=by
 intro f;induction f with
 |zero=>exact fun s a w hw h=>hZ s a w h.1 hw h.2
 |succ f ih=>
  rintro s a w hw ⟨⟨i0,h0⟩,h⟩;refine⟨fun e=> ?_,fun i hi=>wpOp_of_qOp hw (fun a' w' Z6 hk=>ih _ _ _ Z6 hk) (h i hi).2⟩;rw[e]at h0;exact absurd h0 (by simp)
theorem Xoc{s:Array Bool}{oj:Oper}(aV:s.getD i true=false)(aB:∀e∈oj.after,Region.binds md e=true→s.getD e.on false=true):∀e∈oj.after,Region.binds md e=true→e.on≠i:=by
 intro e he hb CL;have h:=aB e he hb;rw[CL,getD_both aV]at h;exact absurd h (by simp)
theorem Xok{oi:Oper}(hi:ops[i]?=some oi)(CO:Region.noSelect ops=true)(hs:Region.sinkB md ops n=true)(hc:Region.chainB md ops n=true)(hn:n<ops.size)(kD:i<n)
 (hZ:∀s,Z s→ ∀j∈Region.ready md ops s,n≤j):∀(f:Nat) (s:Array Bool) (a:Act),HeadInv md ops n s→
   (∀j oj,ops[j]?=some oj→j≠i→s.getD j true=false→(∀e∈oj.after,Region.binds md e=true→e.on≠i)→oi.apart ops oj=true)→
   i∈Region.ready md ops s→YieldsIn P ops C oi v a→yg P md ops C n Z K f (s.setIfInBounds i true) (a.put oi.dst v)→yg P md ops C n Z K (f+1) s a:=by
 intro f;induction f with
 |zero=>
  intro s a inv Ff hr hy H;have aV:=(mem_ready.1 hr).1;refine⟨⟨i,hr⟩,fun j hj=> ?_⟩;by_cases Dq:j=i
  ·subst Dq;exact⟨kD,hy.qOp hi H⟩
  ·have h1:=hZ _ H.1 j (ready_mono hj Dq);exact absurd hj (tail_waits hs hc hn inv _ i rfl kD aV j h1)
 |succ f ih=>
  intro s a inv Ff hr hy H;have aV:=(mem_ready.1 hr).1;refine⟨⟨i,hr⟩,fun j hj=> ?_⟩;have hjn:j<n:=Nat.lt_of_not_le fun h=>tail_waits hs hc hn inv _ i rfl kD aV j h hj;refine⟨hjn,?_⟩;by_cases Dq:j=i
  ·subst Dq;exact hy.qOp hi H
  obtain⟨Sk,oj,fZ,aB⟩:=mem_ready.1 hj;have h2:=qOp_put fZ (Ff j oj fZ Dq Sk (Xoc aV aB)) (fun cs b=>Region.noSelect_spec CO i oi cs b hi) (fun cs b=>Region.noSelect_spec CO j oj cs b fZ) hy (H.2 j (ready_mono hj Dq)).2;refine qOp_mono (fun a' h3=>ih _ a' (inv.set hj hjn) (fun k ok hk hki hku=>Ff k ok hk hki ?_) (ready_mono hr (Ne.symm Dq)) h3.1 ?_) h2
  ·by_cases e:j=k
   ·subst e;exact Sk
   ·rwa[getD_set_ne true e]at hku
  ·rw[Array.setIfInBounds_comm _ _ Dq];exact h3.2
theorem Xs6(CO:Region.noSelect ops=true)(hs:Region.sinkB md ops n=true)(hc:Region.chainB md ops n=true)(hn:n<ops.size):
 ∀(l:List Oper) (k:Nat) (s:Array Bool) (a:Act),(∀j,j<l.length→l[j]?=ops[k+j]?)→k+l.length=n→HeadInv md ops n s→Region.lexHead md ops g l.length k s=true→
 wpQuiet P ops C K l a→yg P md ops C n (fun s=>Region.seqB md ops g n s=true) K l.length s a:=by
 intro l;induction l with
 |nil=>
  intro k s a _ hk _ hB h;simp only[List.length_nil,Nat.add_zero]at hk;subst hk;exact⟨hB,h⟩
 |cons o l ih=>
  intro k s a hl hk inv hB h;have h0:ops[k]?=some o:=by simpa using(hl 0 (by simp)).symm
  simp only[List.length_cons]at hk;simp only[List.length_cons,Region.lexHead,Bool.and_eq_true]at hB;have hr:k∈Region.ready md ops s:=by simpa using hB.1.1
  have hq:qOp P ops C k (wpQuiet P ops C K l) a:=by unfold qOp;rw[h0];exact h
  obtain⟨v,hy,hK⟩:=yieldsIn_of_qOp h0 hq;refine Xok h0 CO hs hc hn (by omega) (fun s hz=>seqB_ready hz) l.length s a inv (Region.free_spec h0 hB.1.2) hr hy ?_;refine ih (k+1) _ _ (fun j hj=> ?_) (by omega) (inv.set hr (by omega)) hB.2 hK;have:=hl (j+1) (by simp;omega);rw[List.getElem?_cons_succ]at this;rw[this,Nat.add_assoc,Nat.add_comm 1 j]
theorem Xe4{l:List Oper}(n:Nat)(hm:P.follows .mixedOrders=true)(hB:Region.lexTailB .any l.toArray n=true)(hC:C {w with drawn:=w.drawn+1})
 (h:wpQuiet P l.toArray C (fun a'=> ∀w',C w'→wpList P l.toArray Q (l.drop n) a' w') (l.take n) a):(Code.region id l.toArray true).wp P Q a w:=by
 simp only[Region.lexTailB,Bool.and_eq_true,decide_eq_true_eq]at hB;obtain⟨⟨⟨⟨CO,hn⟩,hs⟩,hc⟩,Z7⟩:=hB;have hn':n<l.length:=by simpa using hn
 have pF:(l.take n).length=n:=by simp;omega
 have BF:(l.drop n).length=l.toArray.size-n:=by simp
 have inv0:HeadInv .any l.toArray n (Array.replicate l.toArray.size false):=by
  refine⟨by simp,fun j oj _ hl=> ?_,fun t _ ht=>getD_in (by simpa using ht) (getD_replicate_false _ _)⟩;rw[getD_replicate_false]at hl;exact absurd hl (by simp)
 have H:=Xs6 (P:=P) (C:=C) (md:= .any) (g:=l.toArray.size-n) CO hs hc hn (l.take n) 0 _ a (fun j hj=>by
  rw[pF]at hj;simp[hj]) (by omega) inv0 (by rw[pF];exact Z7) h
 have R:=Xs5 (Q:=Q) (g:=l.toArray.size-n) (fun s a' w' hz hw hk=>by
  have:=wpAny_of_seq (md:= .any) (Q':=Q) (l.drop n) n s a' w' (fun j=>by simp[List.getElem?_drop]) (by rw[BF];exact hz) (hk w' hw);rwa[BF]at this) _ _ _ _ hC H
 rw[pF,show l.toArray.size-n+n=l.toArray.size by omega]at R;exact wp_region_any hm R
theorem zq{l:List Oper}(n:Nat)(hm:P.follows .mixedOrders=true)(hB:Region.lexTailB .any l.toArray n=true)
 (h:wpQuiet P l.toArray (fun w'=> ∃p:Regrown,w'=grow (redrawn w p.d) p.os) (fun a'=> ∀w',(∃p:Regrown,w'=grow (redrawn w p.d) p.os)→wpList P l.toArray Q (l.drop n) a' w') (l.take n) a):(Code.region id l.toArray true).wp P Q a w:=
 Xe4 (C:=fun w'=> ∃p:Regrown,w'=grow (redrawn w p.d) p.os) n hm hB ⟨⟨w.drawn+1,#[]⟩,by rw[grow_empty];rfl⟩ h
theorem wpQuiet_load_row{Q:Act→Prop}{rest:List Oper}(CK:o.guard=none)(ty:TypeId)(x:Operand)(ho:o.op= .load ty x)(g:Nat)(hx:a.eval x= .pointer (some ⟨g,0,none⟩))(t:TypeId)(cs:Array Value)(fr:Nat×Nat)(d:TypeDesc)
 (hg:∀w,C w→w.heap[g]?=some (.cells cs t fr)) (hu:P.underlying ty=some d) (hd:(match d with| .struct _| .array _ _=>true|_=>false)=true) (hi:(P.info? ty).map (·.size)=some cs.size) (h:wpQuiet P ops C Q rest (a.put o.dst (.agg cs))):wpQuiet P ops C Q (o::rest) a:=
 wpQuiet_step fun K hK=>by
  rw[if_pos (by simp[Region.wanted,CK])];refine⟨.agg cs,fun w hw=> ?_,hK _ h⟩;unfold Oper.quietAt execOp;simp only[ho,hx,Instr.loadAt,Instr.sureAddr,Sem.run_bind,Sem.run_pure,Result.andThen_ok,run_loadVar_row w g t ty cs fr d (hg w hw) hu hd hi];exact⟨rfl,rfl⟩
theorem Xfo{o:Obj}(h:w.heap[b]?=some o)(w':World)(hw:∃p:Regrown,w'=grow (redrawn w p.d) p.os):w'.heap[b]?=some o:=by
 obtain⟨p,rfl⟩:=hw;exact((below_regrown w p.d p.os).block _ (Qg h)).trans h
end
def Kh{α:Type}(T:Ty α)(I:IH)(w:World)(l:List α)(e:Ending)(w':World):Prop:=
 ∃v' I',e= .returned v'∧Below w.heap.size w w'∧Ext w.heap.size I I'∧Ok I' w'∧bf T I' v' l
def yh{α:Type}(T:Ty α)(I:IH)(w:World)(l:List α)(n:Int)(e:Ending)(w':World):Prop:=
 ∃v' I',e= .returned (.tuple #[v',.int .i64 n])∧Below w.heap.size w w'∧Ext w.heap.size I I'∧Ok I' w'∧bf T I' v' l
theorem DD:∀a:ae,Op.bytesLess a a=false
 | []=>rfl
 |x::a=>by rw[Op.bytesLess,DD a];simp
theorem Vw:∀{a b c:ae},Op.bytesLess a b=true→Op.bytesLess b c=true→Op.bytesLess a c=true
 |_,[],_,h,_=>by simp[Op.bytesLess]at h
 |_,_::_,[],_,h=>by simp[Op.bytesLess]at h
 | [],_::_,_::_,_,_=>rfl
 |x::a,y::b,z::c,h,k=>by
  simp only[Op.bytesLess,Bool.or_eq_true,Bool.and_eq_true,decide_eq_true_eq,beq_iff_eq]at h k ⊢;rcases h with h|⟨rfl,h⟩<;>rcases k with k|⟨rfl,k⟩
  ·exact .inl (UInt8.lt_trans h k)
  ·exact .inl h
  ·exact .inl k
  ·exact .inr ⟨rfl,Vw h k⟩
theorem Nk:∀(a b:ae),Op.bytesLess a b=true∨a=b∨Op.bytesLess b a=true
 | [],[]=> .inr (.inl rfl)
 | [],_::_=> .inl rfl
 |_::_,[]=> .inr (.inr rfl)
 |x::a,y::b=>by
  simp only[Op.bytesLess,Bool.or_eq_true,Bool.and_eq_true,decide_eq_true_eq,beq_iff_eq,List.cons.injEq];by_cases h:x=y
  ·subst h;rcases Nk a b with h|h|h
   ·exact .inl (.inr ⟨rfl,h⟩)
   ·exact .inr (.inl ⟨rfl,h⟩)
   ·exact .inr (.inr (.inr ⟨rfl,h⟩))
  ·rcases UInt8.lt_or_lt_of_ne h with h|h
   ·exact .inl (.inl h)
   ·exact .inr (.inr (.inl h))
theorem Nl{a b:ae}(h:Op.bytesLess a b=true):Op.bytesLess b a=false:=by
 cases k:Op.bytesLess b a
 ·rfl
 ·have:=Vw h k;rw[DD]at this;exact absurd this (by simp)
theorem Nn{a b:ae}(h:Op.bytesLess a b=true):a≠b:=by
 rintro rfl;rw[DD]at h;exact absurd h (by simp)
section
variable {α:Type} {key:α→ae}
def Srt(key:α→ae)(l:List α):Prop:=l.Pairwise fun a b=>Op.bytesLess (key a) (key b)=true
end
structure At where
 k:ae
 v:ae
deriving DecidableEq
def bF(c:UInt8):Bool:=decide (97≤c)&&decide (c≤122) || decide (48≤c)&&decide (c≤57) || c==46 || c==95 || c==45
def lu(s:ae):Bool:=decide (1≤s.length)&&decide (s.length≤32)&&s.all bF
def gq(x:At):Int:=if lu x.k=false then 7 else if 64<x.v.length then 6 else 0
def dR:Option At→List At→Int
 |_,[]=>0
 |p,x::l=>if gq x≠0 then gq x else if(p.any fun q=>q.k==x.k)then 8 else if(p.any fun q=>Op.bytesLess x.k q.k)then 14 else dR (some x) l
def mQ(l:List At):Int:=if 16<l.length then 6 else dR none l
def ahs(l:List At)(k:ae):ae×Bool:=match l.find? (fun x=>x.k==k)with|some x=>(x.v,true)|none=>([],false)
def aht(l:List At)(k:ae):List At:=l.filter fun x=> !(x.k==k)
def Jc(x:At):Bool→List At→List At→List At
 |d,out,[]=>if d then out else out++[x]
 |d,out,y::l=>Jc x (d || !(Op.bytesLess y.k x.k)) ((if !d&& !(Op.bytesLess y.k x.k)then out++[x]else out)++(if y.k==x.k then []else [y])) l
def Ki(l:List At)(x:At):List At:=Jc x false [] l
def OX(a b:List At):List At:=b.foldl Ki a
def ahu(l:List At)(x:At):List At×Int:=if mQ l≠0 then([],mQ l)else if gq x≠0 then([],gq x)else if 16<(Ki l x).length then([],6)else(Ki l x,0)
def Vx(a b:List At):List At×Int:=if mQ a≠0 then([],mQ a)else if mQ b≠0 then([],mQ b)else if 16<(OX a b).length then([],6)else(OX a b,0)
def Vy(l:List At):Prop:=30<l.length∨ ∃x∈l,100<x.k.length∨100<x.v.length
structure Okl (l:List At):Prop where
 len:l.length≤16
 all:∀x∈l,gq x=0
 DF:Srt At.k l
theorem Xl7:∀{A B:List ae},A.Nodup→(∀x∈A,x∈B)→A.length≤B.length
 | [],_,_,_=>Nat.zero_le _
 |x::A,B,hn,hs=>by
  obtain⟨h1,h2⟩:=List.nodup_cons.1 hn;have hx:=hs x (List.mem_cons_self ..);have h3:=Xl7 (B:=B.erase x) h2 fun y hy=>(List.mem_erase_of_ne (a:=y) (b:=x) (fun e=>h1 (by rw[←e];exact hy))).2 (hs y (List.mem_cons_of_mem _ hy));rw[List.length_erase_of_mem hx]at h3;have:=List.length_pos_of_mem hx;simp only[List.length_cons];omega
theorem bW{A B:List At}(hA:Srt At.k A)(h:∀x∈A,∃y∈B,y.k=x.k):A.length≤B.length:=by
 have hn:(A.map At.k).Nodup:=List.pairwise_map.2 (hA.imp fun{a b} hab=>Nn hab);have hs:∀k∈A.map At.k,k∈B.map At.k:=by
  intro k hk;obtain⟨x,hx,rfl⟩:=List.mem_map.1 hk;obtain⟨y,hy,e⟩:=h x hx;rw[←e];exact List.mem_map_of_mem hy
 simpa using Xl7 hn hs
def dV:ae→ae→List ae
 |p,[]=> [p]
 |p,c::s=>if c==47 then p::dV [] s else dV (p++[c]) s
def els(s:ae):List ae:=if s=[]then []else dV [] s
def comp(s:ae):Bool:=decide (1≤s.length)&&decide (s.length≤32)&&s !=[46]&&s !=[46,46]&&s.all bF
def aJ(s:ae):Int:=if 200<s.length then 6 else if 8<(els s).length then 6 else if(els s).all comp then 0 else 7
def dX:List ae→ae
 | []=> []
 | [p]=>p
 |p::q::l=>p++47::dX (q::l)
def under(p d:ae):Bool:=decide (aJ p=0)&&decide (aJ d=0)&&(els d).isPrefixOf (els p)
def ji:List ae→List ae→Bool
 | [],[]=>false
 | [],_::_=>true
 |_::_,[]=>false
 |x::a,y::b=>Op.bytesLess x y || (x==y&&ji a b)
theorem Vz:∀a,ji a a=false
 | []=>rfl
 |x::a=>by rw[ji,DD,Vz a];simp
theorem Kj:∀{a b c},ji a b=true→ji b c=true→ji a c=true
 | [],[],_,h,_=>absurd h (by simp[ji])
 | [],_::_,[],_,h=>absurd h (by simp[ji])
 | [],_::_,_::_,_,_=>rfl
 |_::_,[],_,h,_=>absurd h (by simp[ji])
 |_::_,_::_,[],_,h=>absurd h (by simp[ji])
 |x::a,y::b,z::c,h,k=>by
  rw[ji,Bool.or_eq_true,Bool.and_eq_true]at h k ⊢;rcases h with h|⟨h,h'⟩<;>rcases k with k|⟨k,k'⟩
  ·exact .inl (Vw h k)
  ·have e:y=z:=by simpa using k
   rw[←e];exact .inl h
  ·have e:x=y:=by simpa using h
   rw[e];exact .inl k
  ·have e:x=y:=by simpa using h
   rw[e];exact .inr ⟨k,Kj h' k'⟩
theorem Xmb:∀a b,ji a b=true∨a=b∨ji b a=true
 | [],[]=> .inr (.inl rfl)
 | [],_::_=> .inl rfl
 |_::_,[]=> .inr (.inr rfl)
 |x::a,y::b=>by
  rcases Nk x y with h|h|h
  ·exact .inl (by rw[ji,h];rfl)
  ·subst h;rcases Xmb a b with k|k|k
   ·exact .inl (by rw[ji,k];simp)
   ·exact .inr (.inl (by rw[k]))
   ·exact .inr (.inr (by rw[ji,k];simp))
  ·exact .inr (.inr (by rw[ji,h];rfl))
theorem Ti{a b:List ae}(h:ji a b=true):ji b a=false:=by
 cases k:ji b a with
 |false=>rfl
 |true=>have:=Kj h k;rw[Vz]at this;exact absurd this (by simp)
theorem OY{a b:List ae}(h:ji a b=true):a≠b:=fun e=>by
 rw[e,Vz]at h;exact absurd h (by simp)
def iP(a b:ae):Int:=if ji (els a) (els b)then -1 else if ji (els b) (els a)then 1 else 0
theorem VB:∀(s p:ae),dV p s≠[]
 | [],p=>by simp[dV]
 |c::s,p=>by
  rw[dV];by_cases h:(c==47)=true
  ·rw[if_pos h];simp
  ·rw[if_neg h];exact VB s _
theorem Xty:els s=[]↔s=[]:=by
 unfold els;by_cases h:s=[]
 ·rw[if_pos h];simp[h]
 ·rw[if_neg h];simp[h,VB]
theorem Jd(p:ae){l:List ae}(h:l≠[]):dX (p::l)=p++47::dX l:=by
 cases l with
 |nil=>exact absurd rfl h
 |cons q l=>rfl
theorem VC:∀(s p:ae),dX (dV p s)=p++s
 | [],p=>by simp[dV,dX]
 |c::s,p=>by
  rw[dV];by_cases h:(c==47)=true
  ·rw[if_pos h,Jd _ (VB s []),VC s []];have:c=47:=by simpa using h
   simp[this]
  ·rw[if_neg h,VC s];simp
theorem Tj(s:ae):dX (els s)=s:=by
 unfold els;by_cases h:s=[]
 ·rw[if_pos h,h];rfl
 ·rw[if_neg h,VC];simp
theorem Xyd{a b:ae}(h:els a=els b):a=b:=by rw[←Tj a,h,Tj]
theorem OZ:∀(s p r:ae),(∀c∈s,c≠47)→dV p (s++r)=dV (p++s) r
 | [],p,r,_=>by simp
 |c::s,p,r,h=>by
  have hc:¬(c==47)=true:=by simpa using h c (List.mem_cons_self ..)
  rw[List.cons_append,dV,if_neg hc,OZ s _ _ fun x hx=>h x (List.mem_cons_of_mem _ hx)];simp
theorem Xi3:∀(l:List ae),l≠[]→(∀p∈l,∀c∈p,c≠47)→dV [] (dX l)=l
 | [],h,_=>absurd rfl h
 | [p],_,h=>by
   have:=OZ p [] [] (h p (by simp));rw[List.append_nil]at this;rw[dX,this];simp[dV]
 |p::q::l,_,h=>by
  rw[Jd p (by simp),OZ p [] _ (h p (by simp)),List.nil_append,dV,if_pos (by simp),Xi3 (q::l) (by simp) fun x hx=>h x (List.mem_cons_of_mem _ hx)]
theorem Xt0{l:List ae}(h:∀p∈l,∀c∈p,c≠47)(hn:dX l≠[]):els (dX l)=l:=by
 have hl:l≠[]:=fun e=>hn (by rw[e];rfl);rw[els,if_neg hn,Xi3 l hl h]
theorem Xnb(h:comp p=true):∀c∈p,c≠47:=by
 intro c hc e;simp only[comp,Bool.and_eq_true,List.all_eq_true]at h;have:=h.2 c hc;rw[e]at this;exact absurd this (by decide)
theorem Xyi(h:comp p=true):p≠[]:=by
 intro e;rw[e]at h;exact absurd h (by decide)
theorem BL(h:aJ s=0):s.length≤200∧(els s).length≤8∧ ∀p∈els s,comp p=true:=by
 unfold aJ at h;by_cases h1:200<s.length
 ·rw[if_pos h1]at h;omega
 ·rw[if_neg h1]at h;by_cases h2:8<(els s).length
  ·rw[if_pos h2]at h;omega
  ·rw[if_neg h2]at h;by_cases h3:(els s).all comp=true
   ·exact⟨by omega,by omega,by simpa using h3⟩
   ·rw[if_neg h3]at h;omega
structure Xt where
 s:Int
 o:Int
 n:Int
deriving DecidableEq
structure aG where
 ai:Int
 af:ae
 ag:List At
 target:ae
 size:Int
 aj:ae
 ak:List Xt
deriving DecidableEq
variable{t:List aG}{e x y:aG}
def digits(s:ae):Int:=s.foldl (fun n c=>10*n+((c.toNat:Int)-48)) 0
def fU(s:ae):Bool:=decide (1≤s.length)&&decide (s.length≤10)&& !(decide (1<s.length)&&s.head?==some 48)&&s.all (fun c=>decide (48≤c)&&decide (c≤57))&&decide (digits s≤1000000000)
def bJ(e:aG):Bool:=if e.ai=3 then decide (1≤e.target.length)&&decide (e.target.length≤200)else if e.ai=5 then fU e.target else e.target.isEmpty
def bX(x:Xt):Bool:=decide (x.s<0) || decide (255<x.s) || decide (x.o<0) || decide (2147483647<x.o) || decide (x.n<1) || decide (65536<x.n) || (x.s==0&&x.o !=0)
def bK(file:Bool):List Xt→Int
 | []=>0
 |x::l=>if file=false then 1 else if bX x then 2 else bK file l
def fH(l:List Xt):Int:=(l.map Xt.n).sum
def az(e:aG):Int:=
 if e.ai<1∨6<e.ai then 10
 else if aJ e.af≠0 then aJ e.af
 else if e.af=[]∧e.ai<5 then 1
 else if mQ e.ag≠0 then mQ e.ag
 else if(e.ag≠[]∧3<e.ai)∨bJ e=false then 1
 else if e.size<0∨65536<e.size∨(e.ai≠1∧e.size≠0)then 2
 else if(e.ai=1∧e.aj.length≠32)∨(e.ai≠1∧e.aj≠[])then 1
 else if bK (e.ai==1) e.ak≠0 then bK (e.ai==1) e.ak
 else if fH e.ak≠e.size then 1 else 0
def dS(t:List aG)(p:ae):Option aG:=t.find? fun x=>x.af==p
def bA(t:List aG)(p:ae):Int:=if p=[]then 0 else match dS t p with|none=>9|some x=>if x.ai≠2 then 10 else 0
def kE(p:ae):ae:=dX (els p).dropLast
def fe(t:List aG):Option aG→List aG→Int
 |_,[]=>0
 |q,x::l=>if az x≠0 then az x else if x.ai≠1∧x.ai≠2∧x.ai≠3 then 10 else if(q.any fun y=> !(ji (els y.af) (els x.af)))then 14 else if bA t (kE x.af)≠0 then bA t (kE x.af)else fe t (some x) l
def kK(t:List aG):Int:=fe t none t
def iQ(t:List aG):Prop:=t.Pairwise fun x y=>ji (els x.af) (els y.af)=true
structure FM (t:List aG):Prop where
 dm:∀x∈t,az x=0
 ai:∀x∈t,x.ai=1∨x.ai=2∨x.ai=3
 DF:iQ t
 up:∀x∈t,bA t (kE x.af)=0
theorem Xo2(t:List aG)(l:List aG):∀q:Option aG,fe t q l=0↔(∀x∈l,az x=0∧(x.ai=1∨x.ai=2∨x.ai=3)∧bA t (kE x.af)=0)∧(∀y,q=some y→ ∀x∈l,ji (els y.af) (els x.af)=true)∧iQ l:=by
 induction l with
 |nil=>intro q;simp[fe,iQ]
 |cons x l ih=>
  intro q;rw[fe];by_cases h0:az x=0;case neg=>
   rw[if_pos h0];exact⟨fun h=>absurd h h0,fun h=>absurd (h.1 x (List.mem_cons_self ..)).1 h0⟩
  rw[if_neg (by omega)];by_cases h1:x.ai=1∨x.ai=2∨x.ai=3;case neg=>
   rw[if_pos (by omega)];exact⟨fun h=>absurd h (by decide),fun h=>absurd (h.1 x (List.mem_cons_self ..)).2.1 h1⟩
  rw[if_neg (by omega)];by_cases h2:(q.any fun y=> !(ji (els y.af) (els x.af)))=true
  ·rw[if_pos h2];refine⟨fun h=>absurd h (by decide),fun h=> ?_⟩;cases q with
   |none=>simp at h2
   |some y=>
    have:=h.2.1 y rfl x (List.mem_cons_self ..);simp[this]at h2
  rw[if_neg h2];have hq:∀y,q=some y→ji (els y.af) (els x.af)=true:=by
   intro y hy;subst hy;simpa using h2
  by_cases h3:bA t (kE x.af)=0;case neg=>
   rw[if_pos h3];exact⟨fun h=>absurd h h3,fun h=>absurd (h.1 x (List.mem_cons_self ..)).2.2 h3⟩
  rw[if_neg (by omega),ih];constructor
  ·rintro⟨a1,a2,a3⟩;refine⟨?_,?_,List.pairwise_cons.2 ⟨fun r hr=>a2 x rfl r hr,a3⟩⟩
   ·intro r hr;rcases List.mem_cons.1 hr with rfl|hr
    ·exact⟨h0,h1,h3⟩
    ·exact a1 r hr
   ·intro y hy r hr;rcases List.mem_cons.1 hr with rfl|hr
    ·exact hq y hy
    ·exact Kj (hq y hy) (a2 x rfl r hr)
  ·rintro⟨a1,_,a3⟩;obtain⟨b1,b2⟩:=List.pairwise_cons.1 a3;exact⟨fun r hr=>a1 r (List.mem_cons_of_mem _ hr),fun y hy r hr=>by cases hy;exact b1 r hr,b2⟩
theorem Xuf(t:List aG):kK t=0↔FM t:=by
 unfold kK;rw[Xo2];constructor
 ·rintro⟨a1,_,a3⟩;exact⟨fun x hx=>(a1 x hx).1,fun x hx=>(a1 x hx).2.1,a3,fun x hx=>(a1 x hx).2.2⟩
 ·rintro⟨b1,b2,b3,b4⟩;exact⟨fun x hx=>⟨b1 x hx,b2 x hx,b4 x hx⟩,by simp,b3⟩
theorem iQ.key(h:iQ t)(hx:x∈t)(hy:y∈t)(e:x.af=y.af):x=y:=by
 induction t with
 |nil=>cases hx
 |cons z l ih=>
  obtain⟨h1,h2⟩:=List.pairwise_cons.1 h;rcases List.mem_cons.1 hx with hx|hx<;>rcases List.mem_cons.1 hy with hy|hy
  ·rw[hx,hy]
  ·exact absurd (by rw[←hx,e]) (OY (h1 y hy))
  ·exact absurd (by rw[←hy,e]) (OY (h1 x hx))
  ·exact ih h2 hx hy
theorem iQ.ext:∀{A B:List aG},iQ A→iQ B→(∀x,x∈A↔x∈B)→A=B
 | [],[],_,_,_=>rfl
 | [],b::B,_,_,h=>absurd ((h b).2 (List.mem_cons_self ..)) (by simp)
 |a::A,[],_,_,h=>absurd ((h a).1 (List.mem_cons_self ..)) (by simp)
 |a::A,b::B,hA,hB,h=>by
  obtain⟨a1,a2⟩:=List.pairwise_cons.1 hA;obtain⟨b1,b2⟩:=List.pairwise_cons.1 hB;have e:a=b:=by
   rcases List.mem_cons.1 ((h a).1 (List.mem_cons_self ..))with e|hab
   ·exact e
   ·rcases List.mem_cons.1 ((h b).2 (List.mem_cons_self ..))with e|zt
    ·exact e.symm
    ·have k:=Ti (a1 b zt);rw[b1 a hab]at k;exact absurd k (by simp)
  subst e;rw[iQ.ext a2 b2 fun x=> ?_];have hx:=h x;rw[List.mem_cons,List.mem_cons]at hx;constructor
  ·intro hm;rcases hx.1 (.inr hm)with e|hm'
   ·subst e;exact absurd rfl (OY (a1 x hm))
   ·exact hm'
  ·intro hm;rcases hx.2 (.inr hm)with e|hm'
   ·subst e;exact absurd rfl (OY (b1 x hm))
   ·exact hm'
theorem Tk(h:iQ t)(hx:x∈t):dS t x.af=some x:=by
 unfold dS;cases hf:t.find? (fun y=>y.af==x.af)with
 |none=>have:=List.find?_eq_none.1 hf x hx;simp at this
 |some y=>
  have h1:=List.find?_some hf;rw[h.key (List.mem_of_find?_eq_some hf) hx (by simpa using h1)]
theorem Xmp(h:dS t p=some x):x∈t∧x.af=p:=⟨List.mem_of_find?_eq_some h,by have:=List.find?_some h;simpa using this⟩
theorem Xs9(h:∀x∈t,x.af≠p):dS t p=none:=List.find?_eq_none.2 fun x hx=>by simpa using h x hx
def At.Wf(x:At):Prop:=x.k.length≤9223372036854775807∧x.v.length≤9223372036854775807
abbrev At.val(x:At):Value:= .agg #[S x.k,S x.v]
def lT:Ty At:=Ty.flat 2 (fun x=> [S x.k,S x.v]) (fun _=>rfl) (fun _ u h=>by simp at h;rcases h with rfl|rfl<;>rfl)
theorem zL{l:List At}(h:bf lT I v l)(hw:Ok I w)(i:Nat)(hi:i<l.length):∃x b off cap,l[i]=x∧v= .slice (some ⟨b,off,none⟩) l.length cap∧
 w.cell? ⟨b,off+i*2,none⟩=some (S x.k)∧w.cell? ⟨b,off+i*2+1,none⟩=some (S x.v):=by
 obtain⟨b,off,cap,cs,hv,iU,hc⟩:=h.at_ hw hi;have lN:cs=[S l[i].k,S l[i].v]:=iU;subst lN;exact⟨_,b,off,cap,rfl,hv,hc 0 _ rfl,hc 1 _ rfl⟩
def mr:Ty Xt:=Ty.flat 3 (fun x=> [.int .i64 x.s,.int .i64 x.o,.int .i64 x.n]) (fun _=>rfl) (fun _ u h=>by simp at h;rcases h with rfl|rfl|rfl<;>rfl)
theorem uZ{l:List Xt}(h:bf mr I v l)(hw:Ok I w)(i:Nat)(hi:i<l.length):∃x b off cap,l[i]=x∧v= .slice (some ⟨b,off,none⟩) l.length cap∧
 w.cell? ⟨b,off+i*3,none⟩=some (.int .i64 x.s)∧w.cell? ⟨b,off+i*3+1,none⟩=some (.int .i64 x.o)∧w.cell? ⟨b,off+i*3+2,none⟩=some (.int .i64 x.n):=by
 obtain⟨b,off,cap,cs,hv,iU,hc⟩:=h.at_ hw hi;have lN:cs=[.int .i64 l[i].s,.int .i64 l[i].o,.int .i64 l[i].n]:=iU;subst lN;exact⟨_,b,off,cap,rfl,hv,hc 0 _ rfl,hc 1 _ rfl,hc 2 _ rfl⟩
def Xt.Wf(x:Xt):Prop:=(-9223372036854775808≤x.s∧x.s≤9223372036854775807)∧(-9223372036854775808≤x.o∧x.o≤9223372036854775807)∧(-9223372036854775808≤x.n∧x.n≤9223372036854775807)
structure aG.Wf (e:aG):Prop where
 k0: -9223372036854775808≤e.ai
 k1:e.ai≤9223372036854775807
 af:e.af.length≤9223372036854775807
 ag:∀x∈e.ag,x.Wf
 target:e.target.length≤9223372036854775807
 s0: -9223372036854775808≤e.size
 s1:e.size≤9223372036854775807
 aj:e.aj.length≤9223372036854775807
 ak:∀x∈e.ak,x.Wf
abbrev dB(e:aG)(va vx:Value):List Value:=[.int .i64 e.ai,S e.af,va,S e.target,.int .i64 e.size,S e.aj,vx]
abbrev fB(e:aG)(va vx:Value):Value:= .agg #[.int .i64 e.ai,S e.af,va,S e.target,.int .i64 e.size,S e.aj,vx]
def bG:Ty aG where
 size:=7
 rd:=fun I cs e=> ∃va vx,cs=dB e va vx∧bf lT I va e.ag∧bf mr I vx e.ak
 len:=fun⟨_,_,h,_⟩=>by rw[h];rfl
 one:=fun⟨va,vx,h,h1,h2⟩ u hu=>by
  rw[h]at hu;simp at hu;rcases hu with rfl|rfl|rfl|rfl|rfl|rfl|rfl<;>first|rfl|exact h1.one|exact h2.one
 mono:=fun hI ⟨va,vx,h,h1,h2⟩=>⟨va,vx,h,h1.mono hI,h2.mono hI⟩
structure A8 (w:World) (b o:Nat) (e:aG) (va vx:Value):Prop where
 c0:w.cell? ⟨b,o,none⟩=some (.int .i64 e.ai)
 c1:w.cell? ⟨b,o+1,none⟩=some (S e.af)
 c2:w.cell? ⟨b,o+2,none⟩=some va
 c3:w.cell? ⟨b,o+3,none⟩=some (S e.target)
 c4:w.cell? ⟨b,o+4,none⟩=some (.int .i64 e.size)
 c5:w.cell? ⟨b,o+5,none⟩=some (S e.aj)
 c6:w.cell? ⟨b,o+6,none⟩=some vx
theorem A8.aA{o:Nat}{va vx:Value}(h:A8 w b o e va vx)(hb:Below w.heap.size w w'):A8 w' b o e va vx:=
 ⟨dh hb h.c0,dh hb h.c1,dh hb h.c2,dh hb h.c3,dh hb h.c4,dh hb h.c5,dh hb h.c6⟩
theorem qi{l:List aG}(h:bf bG I v l)(hw:Ok I w)(i:Nat)(hi:i<l.length):∃x va vx b off cap,l[i]=x∧v= .slice (some ⟨b,off,none⟩) l.length cap∧
 A8 w b (off+i*7) x va vx∧bf lT I va x.ag∧bf mr I vx x.ak:=by
 obtain⟨b,off,cap,cs,hv,⟨va,vx,iU,h1,h2⟩,hc⟩:=h.at_ hw hi;subst iU;exact⟨_,va,vx,b,off,cap,rfl,hv,⟨hc 0 _ rfl,hc 1 _ rfl,hc 2 _ rfl,hc 3 _ rfl,hc 4 _ rfl,hc 5 _ rfl,hc 6 _ rfl⟩,h1,h2⟩
theorem Xru:∀(s:ae),Lib.split s [47]=dV [] s:=by
 have key:∀(n:Nat) (s:ae),s.length≤n→Lib.split s [47]=dV [] s:=by
  intro n;induction n with
  |zero=>
   intro s h;have:s=[]:=List.eq_nil_of_length_eq_zero (by omega);subst this;rfl
  |succ n ih=>
   intro s h;rcases Lib.index_spec s [47]with⟨h1,h2⟩|⟨i,h1,h2,h3,h4⟩
   ·have hn:∀c∈s,c≠47:=by
     intro c hc e;obtain⟨j,hj,rfl⟩:=List.getElem_of_mem hc;have:=h2 j (by omega);unfold Lib.occAt at this;rw[List.drop_eq_getElem_cons hj,e]at this;simp at this
    have h5:=OZ s [] [] hn;rw[List.append_nil,List.nil_append]at h5;rw[h5,Lib.split,Lib.count_miss h1];rfl
   ·have hi:i<s.length∧s[i]?=some 47:=by
     have h6:=Lib.occAt_head rfl h3;exact⟨(List.getElem?_eq_some_iff.1 h6).1,h6⟩
    have hn:∀c∈s.take i,c≠47:=by
     intro c hc e;obtain⟨j,hj,rfl⟩:=List.getElem_of_mem hc;have Dq:j<i:=by simp at hj;omega
     have:=h4 j Dq;unfold Lib.occAt at this;rw[List.drop_eq_getElem_cons (by omega)]at this;rw[List.getElem_take]at e;rw[e]at this;simp at this
    have hs:s=s.take i++47::s.drop (i+1):=by
     conv=>lhs;rw[←List.take_append_drop i s,List.drop_eq_getElem_cons hi.1]
     have:=hi.2;rw[List.getElem?_eq_getElem hi.1]at this;rw[Option.some.inj this]
    have h5:=OZ (s.take i) [] (47::s.drop (i+1)) hn;rw[←hs,List.nil_append]at h5;rw[h5,dV,if_pos (by rfl),←ih (s.drop (i+1)) (by rw[List.length_drop];omega)];rw[Lib.split,Lib.count_hit (by simp) h1,Nat.add_comm,Lib.splitK,if_neg (by rw[h1];simp),h1];rfl
 exact fun s=>key s.length s (Qn _)
theorem Xvo(l:List ae):Lib.join l [47]=dX l:=by
 induction l with
 |nil=>rfl
 |cons p l ih=>
  cases l with
  |nil=>simp[Lib.join,List.intercalate,dX]
  |cons q l=>
   rw[dX,←ih];simp[Lib.join,List.intercalate]
def bV(r:Nat):Bool:=!(decide (97≤r)&&decide (r≤122) || decide (48≤r)&&decide (r≤57) || decide (r=46) || decide (r=95) || decide (r=45))
theorem VD(c:UInt8):bF c=!(bV c.toNat):=by
 have e:∀n:Nat,n<256→(c==UInt8.ofNat n)=decide (c.toNat=n):=fun n hn=>by
  rw[Bool.eq_iff_iff,beq_iff_eq,decide_eq_true_iff];constructor
  ·intro h;rw[h];simp;omega
  ·intro h;have:c=UInt8.ofNat c.toNat:=by simp
   rw[this,h]
 unfold bF bV;rw[show(46:UInt8)=UInt8.ofNat 46 from rfl,show(95:UInt8)=UInt8.ofNat 95 from rfl,show(45:UInt8)=UInt8.ofNat 45 from rfl,e 46 (by omega),e 95 (by omega),e 45 (by omega)];simp[UInt8.le_iff_toNat_le]
theorem Xef{r:Nat}(h:128≤r):bV r=true:=by
 unfold bV;simp;omega
theorem Xvu(s:ByteArray):∀(f pos:Nat),s.size≤pos+f→decide (0≤Lib.idxFuncFrom bV true s f pos)=!((s.data.toList.drop pos).all bF):=by
 intro f;induction f with
 |zero=>
  intro pos h;have hl:s.data.toList.length=s.size:=Array.length_toList;rw[List.drop_of_length_le (by omega)];rfl
 |succ f ih=>
  intro pos h;have hl:s.data.toList.length=s.size:=Array.length_toList;rw[Lib.idxFuncFrom];by_cases hp:pos<s.size
  ·rw[if_pos hp,List.drop_eq_getElem_cons (by omega),List.all_cons];have hb:s.data.toList[pos]'(by omega)=s[pos]'hp:=by
    rw[Array.getElem_toList];rfl
   rw[hb];by_cases ha:(s[pos]'hp).toNat<128
   ·rw[decode_ascii s pos hp ha];have hk:=VD (s[pos]'hp);cases hn:bV (s[pos]'hp).toNat
    ·rw[if_neg (by simp),hk,hn,ih (pos+1) (by omega)];simp
    ·rw[if_pos rfl,hk,hn];simp
   ·have hd:=decode_high s pos hp (by omega);rw[if_pos (Xef hd.1),VD,Xef (by omega)];simp
  ·rw[if_neg hp,List.drop_of_length_le (by omega)];rfl
theorem Xvv(s:ae):decide (0≤Lib.idxFunc bV true ⟨s.toArray⟩)=!(s.all bF):=by
 have:=Xvu ⟨s.toArray⟩ (⟨s.toArray⟩:ByteArray).size 0 (by omega);rw[Lib.idxFunc,this];simp
def cmpL(a b:List ae):Int:=if ji a b then -1 else if ji b a then 1 else 0
theorem Xue(a b:ae):iP a b=cmpL (els a) (els b):=rfl
theorem Xne(x:ae)(a b:List ae):cmpL (x::a) (x::b)=cmpL a b:=by
 unfold cmpL;rw[ji,ji,DD];simp
theorem Xha{x y:ae}(h:Op.bytesLess x y=true)(a b:List ae):cmpL (x::a) (y::b)= -1:=by
 unfold cmpL;rw[ji,h];simp
theorem Xhb{x y:ae}(h:Op.bytesLess y x=true)(a b:List ae):cmpL (x::a) (y::b)=1:=by
 unfold cmpL;rw[ji,ji,h,Nl h];have:(x==y)=false:=by simpa using(Nn h).symm
 rw[this];simp
theorem Xnd{a b:List ae}(h:a.take k=b.take k)(ha:k≤a.length)(hb:k≤b.length):cmpL a b=cmpL (a.drop k) (b.drop k):=by
 induction k generalizing a b with
 |zero=>rfl
 |succ k ih=>
  cases a with
  |nil=>simp at ha
  |cons x a=>
   cases b with
   |nil=>simp at hb
   |cons y b=>
    simp only[List.take_succ_cons,List.cons.injEq]at h;obtain⟨rfl,h⟩:=h;rw[Xne,List.drop_succ_cons,List.drop_succ_cons];exact ih h (by simpa using ha) (by simpa using hb)
theorem gQ{t:TypeId}(h:P.underlying t=some .string)(s:ae)(i:Int)(j:Nat)(hi:i=(j:Int))(hj:j<s.length)(W:World):(Instr.index t (S s) (.int .i64 i)).run P W= .ok (.int .u8 ((s.getD j 0).toNat:Nat)) W:=by
 subst hi;rw[S,run_index_string W t _ .i64 _ h];have eU:(⟨s.toArray⟩:ByteArray).size=s.length:=by simp[ByteArray.size]
 rw[dif_pos ⟨by omega,by rw[eU];omega⟩];have e:(⟨s.toArray⟩:ByteArray)[((j:Nat):Int).toNat]'(by rw[eU];simpa using hj)=s.getD j 0:=by
  simp[List.getD,List.getElem?_eq_getElem hj,ByteArray.getElem_eq_getElem_data]
 rw[e]
theorem DI{l:List ae}(h:bf jE I v l)(hw:Ok I w)(i:Nat)(hi:i<l.length):∃s b off cap,l[i]=s∧v= .slice (some ⟨b,off,none⟩) l.length cap∧
 w.cell? ⟨b,off+i,none⟩=some (S s):=by
 obtain⟨b,off,cap,cs,hv,iU,hc⟩:=h.at_ hw hi;have lN:cs=[S l[i]]:=iU;subst lN;have:=hc 0 _ rfl;exact⟨_,b,off,cap,rfl,hv,by simpa[jE,Ty.flat]using this⟩
theorem Xuz:(Tryz.prog.info? 9).map (fun i=>(i.zero,i.size,i.bytes))=some (some (.string ⟨#[]⟩),1,16):=by kernel_rfl
theorem Tm:eZ Tryz.prog 123 9 jE 16:=eZ.of Tryz.underlying123 Xuz rfl (by decide) rfl
theorem Xy7(c:UInt8)(n:Nat)(hn:n<256):(((c.toNat:Nat):Int)==(n:Int))=(c==UInt8.ofNat n):=by
 rw[Bool.eq_iff_iff,beq_iff_eq,beq_iff_eq];constructor
 ·intro h;have h':c.toNat=n:=by omega
  rw[←h'];simp
 ·intro h;rw[h];simp;omega
theorem Np(I:IH)(s:ae)(hs:s.length≤4294967280)(w:World)(hw:Ok I w):
 Calls Tryz.prog 180 #[S s] w (Kh jE I w (els s)):=by
 have eY:∀b,w.heap.size≤b→I b=none:=fun b hb=>hw.fresh hb;have kr:=Qh eY;clear eY;have bB:=Qh (show aP jE 9 I (w.alloc (.cells #[] 9)) w.heap.size (.slice (some ⟨w.heap.size,0,none⟩) 0 0) []from⟨[],World.ownsRow_made w #[] 0 (Qn _) (Nat.zero_le _) (by simp),bS.nil _ _⟩);by_cases h0:s=[]
 ·have Hs:=Qh (show els s=[] by rw[h0];rfl);have f1:(s==[])=true:=by rw[h0];rfl
  have f2:s.isEmpty=true:=by rw[h0];rfl
  have f3:(!s.isEmpty)=false:=by rw[h0];rfl
  clear h0;go_enter Tryz.func180,Tryz.ntmps180
  go_wp2;go_ret;obtain⟨I',jH,jW,lU,_⟩:=bB.O.freeze (hw.alloc _) kr.O;rw[Hs.O];exact⟨_,I',rfl,(Qb _ _).alloc (Qn _) _,jH,jW,lU⟩
 ·have Hs:=Qh (show els s=dV [] s by rw[els,if_neg h0]);have f1:(s==[])=false:=by simpa using h0
  have f2:s.isEmpty=false:=by cases s<;>simp_all
  have f3:(!s.isEmpty)=true:=by rw[f2];rfl
  clear h0;go_enter Tryz.func180,Tryz.ntmps180
  go_wp2_with fail
  go_loopw [3,4,5] (fun s3 s4 s5 wr=> ∃(k:Nat) (out:List ae) (p:ae),k≤s.length∧s5= .int .i64 k∧s4=S p∧aP jE 9 I wr w.heap.size s3 out∧out.length≤k∧p.length≤k∧out++dV p (s.drop k)=dV [] s∧Below w.heap.size w wr) (fun _ _ i _=>s.length-(intOf i).toNat)
  case atStart=>exact⟨0,[],[],Nat.zero_le _,rfl,rfl,bB.O,Qn _,Qn _,rfl,(Qb _ _).alloc (Qn _) _⟩
  case round=>
   clear bB;obtain⟨k,out,p,hk,rfl,rfl,bE,Dr,nH,hr,hb⟩:=hrel;have Hr:=Qh hr;have bQ:=Qh bE;have dA:Ok I wr:=hw.below (Qn _) hb;clear hr bE;by_cases hlt:k<s.length
   ·have hx:=gQ Tryz.underlying9 s (k:Int) k rfl hlt;have hd:s.drop k=s.getD k 0::s.drop (k+1):=by rw[List.drop_eq_getElem_cons hlt];simp[List.getD,hlt]
    have qJ:(s.drop k).take 1=[s.getD k 0]:=by rw[hd];rfl
    have nR:=Qh qJ;have gB:dV [] s=out++(if s.getD k 0==47 then p::dV [] (s.drop (k+1))else dV (p++[s.getD k 0]) (s.drop (k+1))):=by rw[←Hr.O,hd];rfl
    have he:=Xy7 (s.getD k 0) 47 (by decide);generalize hg:s.getD k 0=ch at hx gB he nR;have bB:=Qh gB;clear hd qJ gB hg;have uN:IntKind.i64.wrap ((k:Int)+1)=(k:Int)+1:=IntWalk.i64_in _ (by omega);cases hc:(ch==47)
    ·rw[show(UInt8.ofNat 47)=47 from rfl,hc]at he;have iD:=Qh (show out++dV (p++[ch]) (s.drop (k+1))=dV [] s by rw[bB.O,hc];rfl);clear hc;go_wp2;go_roundw;case rel=>exact⟨k+1,out,p++[ch],by omega,by go_num,(by first|rfl|(simp[S,←nR.O];done)|(congr;simp[←nR.O])),bQ.O,by omega,(by simp;omega),iD.O,hb⟩
     case measure=>simp[intOf];omega
    ·rw[show(UInt8.ofNat 47)=47 from rfl,hc]at he;have iD:=Qh (show(out++[p])++dV [] (s.drop (k+1))=dV [] s by rw[bB.O,hc];simp);clear hc;go_wp2_with (at_builtin;refine oK (w0:=wr) Tm rfl _ _ rfl _ _ _ rfl bQ.O p [S p] _ rfl rfl (by omega) (by omega) (Below.size hb) ?_)
     intro v9 w9 ek eQ;have ig:=Below.own hb eQ bQ.O (Qn _) (Below.size hb);go_wp2;go_roundw;case rel=>exact⟨k+1,out++[p],[],by omega,by go_num,rfl,ek,(by simp;omega),(by simp),iD.O,ig⟩
     case measure=>simp[intOf];omega
   ·have sw:=Qh (show out++[p]=dV [] s by rw[←Hr.O,List.drop_of_length_le (by omega)];rfl);go_wp2_with (at_builtin;refine oK (w0:=wr) Tm rfl _ _ rfl _ _ _ rfl bQ.O p [S p] _ rfl rfl (by omega) (by omega) (Below.size hb) ?_)
    intro v9 w9 ek eQ;have ig:=Below.own hb eQ bQ.O (Qn _) (Below.size hb);have VE:Ok I w9:=Ok.own dA eQ bQ.O kr.O;have O0:=Qh ek;clear ek eQ;go_wp2;go_ret;obtain⟨I',jH,jW,lU,_⟩:=O0.O.freeze VE kr.O;rw[Hs.O,←sw.O];exact⟨_,I',rfl,ig,jH,jW,lU⟩
theorem Xmi(c:UInt8):bF c=(decide (97≤c.toNat)&&decide (c.toNat≤122) || decide (48≤c.toNat)&&decide (c.toNat≤57) || decide (c.toNat=46) || decide (c.toNat=95) || decide (c.toNat=45)):=by
 rw[VD,bV,Bool.not_not]
theorem Xie(s:ae)(hs:s.length≤9223372036854775807)(w:World):
 Calls Tryz.prog 181 #[S s] w fun e w'=>e= .returned (.bool (comp s))∧Below w.heap.size w w':=by
 by_cases h1:1≤s.length;case neg=>
  have ll:decide (0<s.length)=false:=Qf (by omega);have lX:=Qh (show comp s=false by simp[comp,h1]);go_enter Tryz.func181,Tryz.ntmps181
  go_wp2_with fail
  go_loop [3,4] (fun s3 s4=>s3= .bool false∧s4= .int .i64 0) (fun _ _=>0)
  case atStart=>exact⟨rfl,rfl⟩
  case round=>
   obtain⟨rfl,rfl⟩:=hrel;go_wp2;go_ret;exact⟨iW lX.O.symm,Qb _ _⟩
 have ll:decide (0<s.length)=true:=Qt (by omega);by_cases wD:s.length≤32;case neg=>
  have pg:decide (s.length≤32)=false:=Qf wD;have lX:=Qh (show comp s=false by simp[comp,wD]);go_enter Tryz.func181,Tryz.ntmps181
  go_wp2_with fail
  go_loop [3,4] (fun s3 s4=>s3= .bool false∧s4= .int .i64 0) (fun _ _=>0)
  case atStart=>exact⟨rfl,rfl⟩
  case round=>
   obtain⟨rfl,rfl⟩:=hrel;go_wp2;go_ret;exact⟨iW lX.O.symm,Qb _ _⟩
 have pg:decide (s.length≤32)=true:=Qt wD;by_cases Fg:s=[46];case pos=>
  subst Fg;have lX:=Qh (show comp [46]=false by rfl);clear hs h1 ll wD pg;go_enter Tryz.func181,Tryz.ntmps181
  go_wp2_with fail
  go_loop [3,4] (fun s3 s4=>s3= .bool false∧s4= .int .i64 0) (fun _ _=>0)
  case atStart=>exact⟨rfl,rfl⟩
  case round=>
   obtain⟨rfl,rfl⟩:=hrel;go_wp2;go_ret;exact⟨iW lX.O.symm,Qb _ _⟩
 have f46:(s !=[46])=true:=by simpa using Fg
 have VF:(s==[46])=false:=by simpa using Fg
 by_cases IU:s=[46,46];case pos=>
  subst IU;have lX:=Qh (show comp [46,46]=false by rfl);clear hs h1 ll wD pg Fg f46 VF;go_enter Tryz.func181,Tryz.ntmps181
  go_wp2_with fail
  go_loop [3,4] (fun s3 s4=>s3= .bool false∧s4= .int .i64 0) (fun _ _=>0)
  case atStart=>exact⟨rfl,rfl⟩
  case round=>
   obtain⟨rfl,rfl⟩:=hrel;go_wp2;go_ret;exact⟨iW lX.O.symm,Qb _ _⟩
 have f47:(s !=[46,46])=true:=by simpa using IU
 have g47:(s==[46,46])=false:=by simpa using IU
 have lX:=Qh (show comp s=s.all bF by simp[comp,h1,wD,f46,f47]);clear Fg IU;go_enter Tryz.func181,Tryz.ntmps181
 go_wp2_with fail
 go_loop [3,4] (fun s3 s4=> ∃(k:Nat) (b:Bool),k≤s.length∧s4= .int .i64 k∧s3= .bool b∧(s.take k).all bF=b) (fun _ i=>s.length-(intOf i).toNat)
 case atStart=>exact⟨0,true,Nat.zero_le _,rfl,rfl,rfl⟩
 case round=>
  obtain⟨k,b,hk,rfl,rfl,hr⟩:=hrel;have Hr:=Qh hr;clear hr;cases b
  ·have kW:=Qh (show s.all bF=false by
    cases h:s.all bF with
    |false=>rfl
    |true=>
     have:(s.take k).all bF=true:=List.all_eq_true.2 fun x hx=>List.all_eq_true.1 h x (List.mem_of_mem_take hx);rw[Hr.O]at this;exact absurd this (by simp))
   go_wp2;go_ret;exact⟨iW (by rw[lX.O,kW.O]),Qb _ _⟩
  ·by_cases hlt:k<s.length
   ·have hx:=gQ Tryz.underlying9 s (k:Int) k rfl hlt;have og:=Xmi (s.getD k 0);have nR:=Qh (show s.take (k+1)=s.take k++[s.getD k 0] by rw[List.take_succ_eq_append_getElem hlt];simp[List.getD,hlt]);have su:(s.getD k 0).toNat<256:=(s.getD k 0).toNat_lt;generalize s.getD k 0=ch at og nR hx su;generalize ch.toNat=c at og hx su;rcases(show(97≤c∧c≤122)∨122<c∨(48≤c∧c≤57)∨c=46∨c=95∨c=45∨(c<48∧c≠46∧c≠45)∨(57<c∧c<97∧c≠95) by omega)with hc|hc|hc|hc|hc|hc|hc|hc
    ·have d97:decide (97≤(c:Int))=true:=by simp;omega
     have d122:decide ((c:Int)≤122)=true:=by simp;omega
     have d48:decide (48≤(c:Int))=true:=by simp;omega
     have d57:decide ((c:Int)≤57)=false:=by simp;omega
     have n46:((c:Int)==46)=false:=by simp;omega
     have n95:((c:Int)==95)=false:=by simp;omega
     have n45:((c:Int)==45)=false:=by simp;omega
     have oL:=Qh (show bF ch=true by rw[og];simp;omega);clear og hc;go_wp2;go_round;case rel=>exact⟨k+1,true,by omega,by go_num,rfl,by rw[nR.O,List.all_append,Hr.O];simp[oL.O]⟩
     case measure=>simp[intOf];omega
    ·have d97:decide (97≤(c:Int))=true:=by simp;omega
     have d122:decide ((c:Int)≤122)=false:=by simp;omega
     have d48:decide (48≤(c:Int))=true:=by simp;omega
     have d57:decide ((c:Int)≤57)=false:=by simp;omega
     have n46:((c:Int)==46)=false:=by simp;omega
     have n95:((c:Int)==95)=false:=by simp;omega
     have n45:((c:Int)==45)=false:=by simp;omega
     have oL:=Qh (show bF ch=false by rw[og];simp;omega);clear og hc;go_wp2;go_round;case rel=>exact⟨k+1,false,by omega,by go_num,rfl,by rw[nR.O,List.all_append,Hr.O];simp[oL.O]⟩
     case measure=>simp[intOf];omega
    ·have d97:decide (97≤(c:Int))=false:=by simp;omega
     have d122:decide ((c:Int)≤122)=true:=by simp;omega
     have d48:decide (48≤(c:Int))=true:=by simp;omega
     have d57:decide ((c:Int)≤57)=true:=by simp;omega
     have n46:((c:Int)==46)=false:=by simp;omega
     have n95:((c:Int)==95)=false:=by simp;omega
     have n45:((c:Int)==45)=false:=by simp;omega
     have oL:=Qh (show bF ch=true by rw[og];simp;omega);clear og hc;go_wp2;go_round;case rel=>exact⟨k+1,true,by omega,by go_num,rfl,by rw[nR.O,List.all_append,Hr.O];simp[oL.O]⟩
     case measure=>simp[intOf];omega
    ·have d97:decide (97≤(c:Int))=false:=by simp;omega
     have d122:decide ((c:Int)≤122)=true:=by simp;omega
     have d48:decide (48≤(c:Int))=false:=by simp;omega
     have d57:decide ((c:Int)≤57)=true:=by simp;omega
     have n46:((c:Int)==46)=true:=by simp;omega
     have n95:((c:Int)==95)=false:=by simp;omega
     have n45:((c:Int)==45)=false:=by simp;omega
     have oL:=Qh (show bF ch=true by rw[og];simp;omega);clear og hc;go_wp2;go_round;case rel=>exact⟨k+1,true,by omega,by go_num,rfl,by rw[nR.O,List.all_append,Hr.O];simp[oL.O]⟩
     case measure=>simp[intOf];omega
    ·have d97:decide (97≤(c:Int))=false:=by simp;omega
     have d122:decide ((c:Int)≤122)=true:=by simp;omega
     have d48:decide (48≤(c:Int))=true:=by simp;omega
     have d57:decide ((c:Int)≤57)=false:=by simp;omega
     have n46:((c:Int)==46)=false:=by simp;omega
     have n95:((c:Int)==95)=true:=by simp;omega
     have n45:((c:Int)==45)=false:=by simp;omega
     have oL:=Qh (show bF ch=true by rw[og];simp;omega);clear og hc;go_wp2;go_round;case rel=>exact⟨k+1,true,by omega,by go_num,rfl,by rw[nR.O,List.all_append,Hr.O];simp[oL.O]⟩
     case measure=>simp[intOf];omega
    ·have d97:decide (97≤(c:Int))=false:=by simp;omega
     have d122:decide ((c:Int)≤122)=true:=by simp;omega
     have d48:decide (48≤(c:Int))=false:=by simp;omega
     have d57:decide ((c:Int)≤57)=true:=by simp;omega
     have n46:((c:Int)==46)=false:=by simp;omega
     have n95:((c:Int)==95)=false:=by simp;omega
     have n45:((c:Int)==45)=true:=by simp;omega
     have oL:=Qh (show bF ch=true by rw[og];simp;omega);clear og hc;go_wp2;go_round;case rel=>exact⟨k+1,true,by omega,by go_num,rfl,by rw[nR.O,List.all_append,Hr.O];simp[oL.O]⟩
     case measure=>simp[intOf];omega
    ·have d97:decide (97≤(c:Int))=false:=by simp;omega
     have d122:decide ((c:Int)≤122)=true:=by simp;omega
     have d48:decide (48≤(c:Int))=false:=by simp;omega
     have d57:decide ((c:Int)≤57)=true:=by simp;omega
     have n46:((c:Int)==46)=false:=by simp;omega
     have n95:((c:Int)==95)=false:=by simp;omega
     have n45:((c:Int)==45)=false:=by simp;omega
     have oL:=Qh (show bF ch=false by rw[og];simp;omega);clear og hc;go_wp2;go_round;case rel=>exact⟨k+1,false,by omega,by go_num,rfl,by rw[nR.O,List.all_append,Hr.O];simp[oL.O]⟩
     case measure=>simp[intOf];omega
    ·have d97:decide (97≤(c:Int))=false:=by simp;omega
     have d122:decide ((c:Int)≤122)=true:=by simp;omega
     have d48:decide (48≤(c:Int))=true:=by simp;omega
     have d57:decide ((c:Int)≤57)=false:=by simp;omega
     have n46:((c:Int)==46)=false:=by simp;omega
     have n95:((c:Int)==95)=false:=by simp;omega
     have n45:((c:Int)==45)=false:=by simp;omega
     have oL:=Qh (show bF ch=false by rw[og];simp;omega);clear og hc;go_wp2;go_round;case rel=>exact⟨k+1,false,by omega,by go_num,rfl,by rw[nR.O,List.all_append,Hr.O];simp[oL.O]⟩
     case measure=>simp[intOf];omega
   ·have aB:s.take k=s:=List.take_of_length_le (by omega);rw[aB]at Hr;clear aB;go_wp2;go_ret;exact⟨iW (by rw[lX.O,Hr.O]),Qb _ _⟩
theorem Xq6{l:List ae}(q:ae)(h:l≠[]):dX (l++[q])=dX l++47::q:=by
 induction l with
 |nil=>exact absurd rfl h
 |cons p l ih=>
  cases l with
  |nil=>rfl
  |cons r l=>
   rw[List.cons_append,Jd p (by simp),Jd p (by simp),ih (by simp)];simp
theorem Xej:∀(a b:List ae),(dX a).length≤(dX (a++b)).length
 | [],_=>Nat.zero_le _
 | [p],[]=>Qn _
 | [p],q::b=>by
   rw[List.singleton_append,show dX [p]=p from rfl,Jd p (show q::b≠[] by simp)];simp
 |p::q::a,b=>by
  have:=Xej (q::a) b;rw[List.cons_append,Jd p (by simp),Jd p (by simp)];simp only[List.length_append,List.length_cons];omega
theorem VG(l:List ae)(k:Nat):(dX (l.take k)).length≤(dX l).length:=by
 conv=>rhs;rw[←List.take_append_drop k l]
 exact Xej _ _
theorem Xqv(I:IH)(v:Value)(l:List ae)(hv:bf jE I v l)(hj:(dX l).length≤4294967296)(w:World)(hw:Ok I w):
 Calls Tryz.prog 216 #[v] w fun e w'=>e= .returned (S (dX l))∧Below w.heap.size w w':=by
 have hlen:=hv.bW;obtain⟨ao,cap,rfl,dO,iR,_⟩:=id hv;have Hv:=Qh hv;clear hv;have Hj:=Qh hj;go_enter Tryz.func216,Tryz.ntmps216
 go_wp2_with fail
 go_loopw [3,4] (fun s3 s4 wr=> ∃(k:Nat) (p:ae),k≤l.length∧s4= .int .i64 k∧s3=S p∧dX (l.take k)=p∧Below w.heap.size w wr) (fun _ i _=>l.length-(intOf i).toNat)
 case atStart=>exact⟨0,[],Nat.zero_le _,rfl,rfl,rfl,Qb _ _⟩
 case round=>
  obtain⟨k,p,hk,rfl,rfl,hr,hb⟩:=hrel;have Hr:=Qh hr;clear hr;have dA:Ok I wr:=hw.below (Qn _) hb;by_cases hlt:k<l.length
  ·obtain⟨q,b,off,cap',Dt,dn,hc⟩:=DI Hv.O dA k hlt;cases dn;have nR:=Qh (show l.take (k+1)=l.take k++[q] by rw[List.take_succ_eq_append_getElem hlt,Dt]);have Fh:=VG l (k+1);have Hjk:=Qh Fh;clear Dt Fh;by_cases rM:k=0
   ·have hd:decide (0<k)=false:=Qf (by omega);have Hn:=Qh (show dX (l.take (k+1))=p++q by rw[nR.O,←Hr.O,rM];simp[dX]);have mo:k<1:=by omega
    have hpq:p.length+q.length≤4294967296:=by have:=Hjk.O;rw[Hn.O]at this;simp at this;omega
    clear rM hd;go_wp2;go_roundw;case rel=>exact⟨k+1,p++q,by omega,by go_num,(by first|rfl|simp),Hn.O,hb⟩
    case measure=>simp[intOf];omega
   ·have hd:decide (0<k)=true:=Qt (by omega);have Hn:=Qh (show dX (l.take (k+1))=p++[47]++q by
     rw[nR.O,Xq6 q (fun e=>by have:=congrArg List.length e;rw[List.length_take]at this;simp only[List.length_nil]at this;omega),Hr.O];simp)
    have mo:0<k:=by omega
    have hpq:p.length+q.length+1≤4294967296:=by have:=Hjk.O;rw[Hn.O]at this;simp at this;omega
    clear rM hd;go_wp2;go_roundw;case rel=>exact⟨k+1,p++[47]++q,by omega,by go_num,(by first|rfl|simp),Hn.O,hb⟩
    case measure=>simp[intOf];omega
  ·have Hn:=Qh (show dX l=p by rw[←Hr.O,List.take_of_length_le (by omega)]);go_wp2;go_ret;exact⟨Kg Hn.O.symm,hb⟩
theorem bf.rR{l:List α}{ao:Option Addr}{m cap:Nat}(h:bf T I (.slice ao m cap) l)(hn:n≤l.length):bf T I (.slice ao n cap) (l.take n):=by
 obtain⟨ao',cap',e,h1,h2,h3⟩:=h;injection e with e1 e2 e3
 subst e1 e3;have hl:(l.take n).length=n:=by rw[List.length_take,Nat.min_eq_left hn]
 refine⟨_,_,by rw[hl],by omega,h2,fun h0=> ?_⟩;obtain⟨b,off,arr,k1,k2,k3⟩:=h3 (by omega);refine⟨b,off,arr,k1,k2,fun i hi=> ?_⟩;obtain⟨cs,c1,c2⟩:=k3 i (by omega);exact⟨cs,by rw[List.getElem_take];exact c1,c2⟩
theorem VH:∀(s p:ae) (q:ae),q∈dV p s→q.length≤p.length+s.length
 | [],p,q,h=>by
   rw[dV]at h;simp at h;subst h;simp
 |c::s,p,q,h=>by
  rw[dV]at h;split at h
  ·rcases List.mem_cons.1 h with rfl|h
   ·simp only[List.length_cons];omega
   ·have:=VH s [] q h;simp only[List.length_cons,List.length_nil]at this ⊢;omega
  ·have:=VH s _ q h;simp only[List.length_append,List.length_cons,List.length_nil]at this ⊢;omega
theorem Xtz{q:ae}(h:q∈els s):q.length≤s.length:=by
 unfold els at h;split at h
 ·exact absurd h (by simp)
 ·have:=VH s [] q h;simpa using this
theorem Tn(I:IH)(s:ae)(w:World)(hw:Ok I w):
 Calls Tryz.prog 115 #[S s] w fun e w'=>e= .returned (.int .i64 (aJ s))∧Below w.heap.size w w':=by
 by_cases VI:s.length≤200;case neg=>
  have hd:decide (200<s.length)=true:=Qt (by omega);have Hp:=Qh (show aJ s=6 by rw[aJ,if_pos (by omega)]);go_enter Tryz.func115,Tryz.ntmps115
  go_wp2;go_ret;exact⟨bP Hp.O.symm,Qb _ _⟩
 have hd:decide (200<s.length)=false:=Qf (by omega);have BM:=Qh (fun(q:ae) (h:q∈els s)=>Xtz h);have Hp:=Qh (show aJ s=if 8<(els s).length then 6 else if(els s).all comp then 0 else 7 by rw[aJ,if_neg (by omega)]);go_enter Tryz.func115,Tryz.ntmps115
 go_wp2_with fail
 refine(Np I s (by omega) _ hw).mono ?_;generalize els s=l at BM Hp;rintro e w1 ⟨v1,I1,rfl,au,gK,aD,lq⟩;obtain⟨ao,cap,rfl,dO,iR,_⟩:=id lq;have BN:=Qh lq;clear lq gK;by_cases h8:l.length≤8;case neg=>
  have VJ:decide (8<l.length)=true:=Qt (by omega);have Gs:=Qh (show aJ s=6 by rw[Hp.O,if_pos (by omega)]);go_wp2;go_ret;exact⟨bP Gs.O.symm,au⟩
 have VJ:decide (8<l.length)=false:=Qf (by omega);have Gs:=Qh (show aJ s=if l.all comp then 0 else 7 by rw[Hp.O,if_neg (by omega)]);go_wp2_with fail
 go_loopw [4] (fun s4 wr=> ∃k:Nat,k≤l.length∧s4= .int .i64 k∧(l.take k).all comp=true∧Below w1.heap.size w1 wr) (fun i _=>l.length-(intOf i).toNat)
 case atStart=>exact⟨0,Nat.zero_le _,rfl,rfl,Qb _ _⟩
 case round=>
  obtain⟨k,hk,rfl,hr,hb⟩:=hrel;have Hr:=Qh hr;clear hr;have dA:Ok I1 wr:=aD.below (Qn _) hb;by_cases hlt:k<l.length
  ·obtain⟨q,b,off,cap',Dt,dn,hc⟩:=DI BN.O dA k hlt;cases dn;have Z8:q∈l:=by rw[←Dt];exact List.getElem_mem hlt
   have C9:q.length≤9223372036854775807:=by have:=BM.O q Z8;omega
   have Hqm:=Qh Z8;have nR:=Qh (show l.take (k+1)=l.take k++[q] by rw[List.take_succ_eq_append_getElem hlt,Dt]);clear Dt Z8;go_wp2_with fail
   refine(Xie q C9 _).mono ?_;rintro e w2 ⟨rfl,aF⟩;have aL:=hb.trans (aF.mono hb.size);clear aF;cases hq:comp q
   ·have Hn:=Qh (show aJ s=7 by
     rw[Gs.O,if_neg];intro h;rw[List.all_eq_true.1 h q Hqm.O]at hq;exact absurd hq (by simp))
    clear hq;go_wp2;go_ret;exact⟨bP Hn.O.symm,au.trans (aL.mono au.size)⟩
   ·have Hn:=Qh (show(l.take (k+1)).all comp=true by rw[nR.O,List.all_append,Hr.O];simp[hq]);clear hq;go_wp2;go_roundw;case rel=>exact⟨k+1,by omega,by go_num,Hn.O,aL⟩
    case measure=>simp[intOf];omega
  ·have Hn:=Qh (show aJ s=0 by
    have:=Hr.O;rw[List.take_of_length_le (by omega)]at this;rw[Gs.O,if_pos this])
   go_wp2;go_ret;exact⟨bP Hn.O.symm,au.trans (hb.mono au.size)⟩
def oQ(s:ae):List ae×Int:=if aJ s=0 then(els s,0)else([],aJ s)
theorem Nq(h:aJ s=0):oQ s=(els s,0):=by rw[oQ,if_pos h]
theorem Tp(h:aJ s≠0):oQ s=([],aJ s):=by rw[oQ,if_neg h]
theorem Xid(I:IH)(s:ae)(w:World)(hw:Ok I w):
 Calls Tryz.prog 215 #[S s] w (yh jE I w (oQ s).1 (oQ s).2):=by
 have Hc:=Qh (Tn I s w hw);by_cases h0:aJ s=0
 ·have hs:=(BL h0).1;rw[h0]at Hc;have wM:=Qh (Nq h0);clear h0;go_enter Tryz.func215,Tryz.ntmps215
  go_wp2_with fail
  refine Hc.O.mono ?_;rintro e w1 ⟨rfl,au⟩;have aD:Ok I w1:=hw.below (Qn _) au;go_wp2_with fail
  refine(Np I s (by omega) _ aD).mono ?_;rintro e w2 ⟨v2,I2,rfl,aF,fM,aQ,fT⟩;go_wp2;go_ret2;rw[wM.O];exact⟨v2,I2,rfl,au.trans (aF.mono au.size),fM.mono au.size,aQ,fT⟩
 ·have wM:=Qh (Tp h0);obtain⟨q,hq⟩:∃q,aJ s=q:=⟨_,rfl⟩;have hn:(q !=0)=true:=by rw[←hq];simpa using h0
  rw[hq]at wM Hc;clear hq h0;go_enter Tryz.func215,Tryz.ntmps215
  go_wp2_with fail
  refine Hc.O.mono ?_;rintro e w1 ⟨rfl,au⟩;have aD:Ok I w1:=hw.below (Qn _) au;go_wp2;go_ret2;rw[wM.O];exact⟨_,I,rfl,au,Ext.refl _ _,aD,bf.nil _ _⟩
def nT(s:ae):ae×Int:=if aJ s≠0 then([],aJ s)else if s=[]then([],1)else(kE s,0)
theorem Xlu(I:IH)(s:ae)(w:World)(hw:Ok I w):
 Calls Tryz.prog 150 #[S s] w fun e w'=>e= .returned (.tuple #[S (nT s).1,.int .i64 (nT s).2])∧Below w.heap.size w w':=by
 by_cases h0:aJ s=0
 ·have zM:=Qh (fun w hw=>by have:=Xid I s w hw;rw[Nq h0]at this;exact this);have hs:=(BL h0).1;have Gt:=Qh (show nT s=if s=[]then([],1)else(kE s,0) by rw[nT,if_neg (by omega)]);have uO:(dX (els s)).length≤200:=by rw[Tj];exact hs
  have nI:=Xty (s:=s);have gH:kE s=dX ((els s).take ((els s).length-1)):=by rw[kE,List.dropLast_eq_take]
  have O3:=Qh (VG (els s) ((els s).length-1));generalize els s=l at zM uO nI gH O3;have BM:=Qh nI;have VK:=Qh gH;clear h0 nI gH;go_enter Tryz.func150,Tryz.ntmps150
  go_wp2_with fail
  refine(zM.O _ hw).mono ?_;rintro e w1 ⟨v1,I1,rfl,au,gK,aD,lq⟩;obtain⟨ao,cap,rfl,dO,iR,_⟩:=id lq;have BN:=Qh lq;clear lq gK;have uU:maxLen=9223372036854775807:=rfl;by_cases oO:l.length=0
  ·have Hn:=Qh (show nT s=([],1) by rw[Gt.O,if_pos (BM.O.1 (List.eq_nil_of_length_eq_zero oO))]);have hz:((l.length:Int)==0)=true:=by rw[oO];rfl
   clear oO uU;go_wp2;go_ret2;rw[Hn.O];exact⟨rfl,au⟩
  ·have Hn:=Qh (show nT s=(dX (l.take (l.length-1)),0) by
    rw[Gt.O,if_neg (fun e=>oO (by rw[BM.O.2 e];rfl)),VK.O])
   have hz:((l.length:Int)==0)=false:=by rw[beq_eq_false_iff_ne];omega
   have hlp:1≤l.length:=by omega
   have hi:IntKind.i64.wrap ((l.length:Int)-1)=(l.length:Int)-1:=IntWalk.i64_in _ (by omega);have hj:(0:Int)≤(l.length:Int)-1:=by omega
   have Du:(l.length:Int)-1≤(cap:Int):=by omega
   have hm:((l.length:Int)-1).toNat=l.length-1:=by omega
   have oU:=Qh (BN.O.rR (n:=l.length-1) (by omega));have VL:=Qh (show(dX (l.take (l.length-1))).length≤4294967296 by have:=O3.O;omega);clear oO uU;go_wp2_with fail
   refine(Xqv I1 _ _ oU.O VL.O _ aD).mono ?_;rintro e w2 ⟨rfl,aF⟩;go_wp2;go_ret2;rw[Hn.O];exact⟨rfl,au.trans (aF.mono au.size)⟩
 ·have zM:=Qh (fun w hw=>by have:=Xid I s w hw;rw[Tp h0]at this;exact this);obtain⟨q,hq⟩:∃q,aJ s=q:=⟨_,rfl⟩;have hn:(q !=0)=true:=by rw[←hq];simpa using h0
  have Gt:=Qh (show nT s=([],q) by rw[nT,if_pos h0,hq]);rw[hq]at zM;clear hq h0;go_enter Tryz.func150,Tryz.ntmps150
  go_wp2_with fail
  refine(zM.O _ hw).mono ?_;rintro e w1 ⟨v1,I1,rfl,au,gK,aD,lq⟩;obtain⟨ao,cap,rfl,dO,iR,_⟩:=id lq;go_wp2;go_ret2;rw[Gt.O];exact⟨rfl,au⟩
theorem Xim(l d:List ae):d.isPrefixOf l=decide (l.take d.length=d):=by
 rw[Bool.eq_iff_iff,List.isPrefixOf_iff_prefix,decide_eq_true_iff,List.prefix_iff_eq_take];exact⟨fun h=>h.symm,fun h=>h.symm⟩
theorem Xg0{l d:List ae}(h:l.length<d.length):d.isPrefixOf l=false:=by
 cases hp:d.isPrefixOf l with
 |false=>rfl
 |true=>have:=(List.isPrefixOf_iff_prefix.1 hp).length_le;omega
theorem Tq(I:IH)(p d:ae)(w:World)(hw:Ok I w):
 Calls Tryz.prog 149 #[S p,S d] w fun e w'=>e= .returned (.bool (under p d))∧Below w.heap.size w w':=by
 have Nr:=Qh (fun w hw=>Tn I p w hw);have Ba:=Qh (fun w hw=>Tn I d w hw);by_cases h0:aJ p=0;case neg=>
  have Hu:=Qh (show under p d=false by rw[under,Qf h0];rfl);obtain⟨q,hq⟩:∃q,aJ p=q:=⟨_,rfl⟩;have hn:(q !=0)=true:=by rw[←hq];simpa using h0
  rw[hq]at Nr;clear hq h0;go_enter Tryz.func149,Tryz.ntmps149
  go_wp2_with fail
  refine(Nr.O _ hw).mono ?_;rintro e w1 ⟨rfl,au⟩;go_wp2;go_ret;exact⟨iW Hu.O.symm,au⟩
 by_cases h1:aJ d=0;case neg=>
  have Hu:=Qh (show under p d=false by rw[under,Qf h1,Bool.and_false];rfl);obtain⟨q,hq⟩:∃q,aJ d=q:=⟨_,rfl⟩;have hn:(q !=0)=true:=by rw[←hq];simpa using h1
  rw[hq]at Ba;rw[h0]at Nr;clear hq h1 h0;go_enter Tryz.func149,Tryz.ntmps149
  go_wp2_with fail
  refine(Nr.O _ hw).mono ?_;rintro e w1 ⟨rfl,au⟩;go_wp2_with fail
  refine(Ba.O _ (hw.below (Qn _) au)).mono ?_;rintro e w2 ⟨rfl,aF⟩;go_wp2;go_ret;exact⟨iW Hu.O.symm,au.trans (aF.mono au.size)⟩
 have hp:=(BL h0).1;have hd:=(BL h1).1;have Hu:=Qh (show under p d=(els d).isPrefixOf (els p) by rw[under,Qt h0,Qt h1];rfl);have Je:=Qh (fun I w hw=>Np I p (by omega) w hw);have Jf:=Qh (fun I w hw=>Np I d (by omega) w hw);rw[h0]at Nr;rw[h1]at Ba;generalize els p=l at Hu Je;generalize els d=m at Hu Jf;clear h0 h1;go_enter Tryz.func149,Tryz.ntmps149
 go_wp2_with fail
 refine(Nr.O _ hw).mono ?_;rintro e w1 ⟨rfl,au⟩;have aD:Ok I w1:=hw.below (Qn _) au;go_wp2_with fail
 refine(Ba.O _ aD).mono ?_;rintro e w2 ⟨rfl,aF⟩;have aQ:Ok I w2:=aD.below (Qn _) aF;have aL:=au.trans (aF.mono au.size);clear au aF;go_wp2_with fail
 refine(Je.O I _ aQ).mono ?_;rintro e w3 ⟨v3,I3,rfl,cO,rO,bN,gM⟩;have dw:=aL.trans (cO.mono aL.size);have sD:=Qh gM;clear gM cO;go_wp2_with fail
 refine(Jf.O I3 _ bN).mono ?_;rintro e w4 ⟨v4,I4,rfl,aM,Fj,bC,AA⟩;have aO:=dw.trans (aM.mono dw.size);have gM:=sD.O.mono (Fj.keep bN (Qn _));have hlen:=gM.bW;have DJ:=AA.bW;obtain⟨ao,cap,rfl,dO,iR,_⟩:=id gM;obtain⟨xQ,cap2,rfl,wH,vM,_⟩:=id AA;have Hl:=Qh gM;have Hm:=Qh AA;clear gM AA sD aM Fj rO bN aL dw;by_cases mO:m.length≤l.length;case neg=>
  have hn:decide (l.length<m.length)=true:=Qt (by omega);have Kk:=Qh (show under p d=false by rw[Hu.O];exact Xg0 (by omega));go_wp2;go_ret;exact⟨iW Kk.O.symm,aO⟩
 have hn:decide (l.length<m.length)=false:=Qf (by omega);have Kk:=Qh (show under p d=decide (l.take m.length=m) by rw[Hu.O];exact Xim l m);have HB:=Qh aO;clear aO;go_wp2_with fail
 go_loopw [7] (fun s7 wr=> ∃k:Nat,k≤m.length∧s7= .int .i64 k∧l.take k=m.take k∧Below w4.heap.size w4 wr) (fun i _=>m.length-(intOf i).toNat)
 case atStart=>exact⟨0,Nat.zero_le _,rfl,rfl,Qb _ _⟩
 case round=>
  obtain⟨k,hk,rfl,hr,hb⟩:=hrel;have Hr:=Qh hr;clear hr;have dA:Ok I4 wr:=bC.below (Qn _) hb;by_cases hlt:k<m.length
  ·obtain⟨x,b,off,cap',bH,dn,hx0⟩:=DI Hl.O dA k (by omega);cases dn;obtain⟨y,b',off',yj,iH,dn,JS⟩:=DI Hm.O dA k hlt;cases dn;have sF:=Qh bH;have Ns:=Qh iH;have kH:k<l.length:=by omega
   have g0:=cell_regrown hx0;have g1:=cell_regrown JS;clear bH iH;by_cases xI:x=y
   ·have f1:(x !=y)=false:=by simp[xI]
    have f2:(x==y)=true:=by simp[xI]
    have Hn:=Qh (show l.take (k+1)=m.take (k+1) by rw[List.take_succ_eq_append_getElem kH,List.take_succ_eq_append_getElem hlt,Hr.O,sF.O,Ns.O,xI]);clear xI;go_wp2_with fail
    refine wp_region_quiet_below (by kernel_rfl) (by kernel_rfl) ?_;repeat(go_big_quiet_step ((fail)))
    refine wpQuiet_nil ?_;intro w5 bg;have bq:Below (wr).heap.size (wr) w5:=by
     obtain⟨pq,rfl⟩:=bg;exact below_regrown _ _ _
    clear bg;go_wp2;go_roundw;case rel=>exact⟨k+1,by omega,by go_num,Hn.O,hb.trans (bq.mono hb.size)⟩
    case measure=>simp[intOf];omega
   ·have f1:(x !=y)=true:=by simpa using xI
    have f2:(x==y)=false:=by simpa using xI
    have Hn:=Qh (show under p d=false by
     rw[Kk.O,Qf];intro h;apply xI;rw[←sF.O,←Ns.O];have:=congrArg (fun z=>z[k]?) h;simp only[List.getElem?_take_of_lt hlt]at this;rw[List.getElem?_eq_getElem kH,List.getElem?_eq_getElem hlt]at this;exact Option.some.inj this)
    clear xI;go_wp2_with fail
    refine wp_region_quiet_below (by kernel_rfl) (by kernel_rfl) ?_;repeat(go_big_quiet_step ((fail)))
    refine wpQuiet_nil ?_;intro w5 bg;have bq:Below (wr).heap.size (wr) w5:=by
     obtain⟨pq,rfl⟩:=bg;exact below_regrown _ _ _
    clear bg;go_wp2;go_ret;exact⟨iW Hn.O.symm,HB.O.trans ((hb.trans (bq.mono hb.size)).mono HB.O.size)⟩
  ·have Hn:=Qh (show under p d=true by
    have:=Hr.O;rw[show k=m.length by omega,List.take_of_length_le (l:=m) (Qn _)]at this;rw[Kk.O,Qt this])
   go_wp2;go_ret;exact⟨iW Hn.O.symm,HB.O.trans (hb.mono HB.O.size)⟩
theorem Tt(I:IH)(p d:ae)(hp:p.length≤4294967280)(hd:d.length≤4294967280)(w:World)(hw:Ok I w):
 Calls Tryz.prog 152 #[S p,S d] w fun e w'=>e= .returned (.int .i64 (iP p d))∧Below w.heap.size w w':=by
 have Hu:=Qh (Xue p d);have Je:=Qh (fun I w hw=>Np I p hp w hw);have Jf:=Qh (fun I w hw=>Np I d hd w hw);generalize els p=l at Hu Je;generalize els d=m at Hu Jf;go_enter Tryz.func152,Tryz.ntmps152
 go_wp2_with fail
 refine(Je.O I _ hw).mono ?_;rintro e w3 ⟨v3,I3,rfl,cO,rO,bN,gM⟩;have sD:=Qh gM;clear gM;go_wp2_with fail
 refine(Jf.O I3 _ bN).mono ?_;rintro e w4 ⟨v4,I4,rfl,aM,Fj,bC,AA⟩;have HB:=Qh (cO.trans (aM.mono cO.size));have gM:=sD.O.mono (Fj.keep bN (Qn _));have hlen:=gM.bW;have DJ:=AA.bW;obtain⟨ao,cap,rfl,dO,iR,_⟩:=id gM;obtain⟨xQ,cap2,rfl,wH,vM,_⟩:=id AA;have Hl:=Qh gM;have Hm:=Qh AA;clear gM AA sD aM Fj rO bN cO;go_wp2_with fail
 go_loopw [7] (fun s7 wr=> ∃k:Nat,k≤l.length∧k≤m.length∧s7= .int .i64 k∧l.take k=m.take k∧Below w4.heap.size w4 wr) (fun i _=>m.length-(intOf i).toNat)
 case atStart=>exact⟨0,Nat.zero_le _,Nat.zero_le _,rfl,rfl,Qb _ _⟩
 case round=>
  obtain⟨k,hk,wI,rfl,hr,hb⟩:=hrel;have Hr:=Qh hr;have Ba:=Qh (Xnd hr hk wI);clear hr;have dA:Ok I4 wr:=bC.below (Qn _) hb;by_cases hlt:k<l.length;case neg=>
   have O4:=Qh (show l.drop k=[]from List.drop_of_length_le (by omega));by_cases kH:k<m.length
   ·have ll:decide (l.length<m.length)=true:=Qt (by omega);have Hn:=Qh (show iP p d= -1 by rw[Hu.O,Ba.O,O4.O,List.drop_eq_getElem_cons kH];rfl);go_wp2;go_ret;exact⟨bP Hn.O.symm,HB.O.trans (hb.mono HB.O.size)⟩
   ·have ll:decide (l.length<m.length)=false:=Qf (by omega);have pg:decide (m.length<l.length)=false:=Qf (by omega);have Hn:=Qh (show iP p d=0 by rw[Hu.O,Ba.O,O4.O,List.drop_of_length_le (by omega)];rfl);go_wp2;go_ret;exact⟨bP Hn.O.symm,HB.O.trans (hb.mono HB.O.size)⟩
  by_cases kH:k<m.length;case neg=>
   have ll:decide (l.length<m.length)=false:=Qf (by omega);have pg:decide (m.length<l.length)=true:=Qt (by omega);have Hn:=Qh (show iP p d=1 by rw[Hu.O,Ba.O,List.drop_of_length_le (l:=m) (by omega),List.drop_eq_getElem_cons hlt];rfl);go_wp2;go_ret;exact⟨bP Hn.O.symm,HB.O.trans (hb.mono HB.O.size)⟩
  obtain⟨x,b,off,cap',bH,dn,hx0⟩:=DI Hl.O dA k hlt;cases dn;obtain⟨y,b',off',yj,iH,dn,JS⟩:=DI Hm.O dA k kH;cases dn;have DK:=Qh (show iP p d=cmpL (x::l.drop (k+1)) (y::m.drop (k+1)) by rw[Hu.O,Ba.O,List.drop_eq_getElem_cons hlt,List.drop_eq_getElem_cons kH,bH,iH]);have sF:=Qh bH;have Ns:=Qh iH;have g0:=cell_regrown hx0;have g1:=cell_regrown JS;clear bH iH;rcases Nk x y with ht|ht|ht
  ·have Hn:=Qh (show iP p d= -1 by rw[DK.O];exact Xha ht _ _);go_wp2_with fail
   refine wp_region_quiet_below (by kernel_rfl) (by kernel_rfl) ?_;repeat(go_big_quiet_step ((fail)))
   refine wpQuiet_nil ?_;intro w5 bg;have bq:Below (wr).heap.size (wr) w5:=by
    obtain⟨pq,rfl⟩:=bg;exact below_regrown _ _ _
   clear bg;go_wp2;go_ret;exact⟨bP Hn.O.symm,HB.O.trans ((hb.trans (bq.mono hb.size)).mono HB.O.size)⟩
  ·have f1:Op.bytesLess x y=false:=by rw[ht];exact DD _
   have f2:Op.bytesLess y x=false:=by rw[ht];exact DD _
   have f3:(x==y)=true:=by simp[ht]
   have f4:(!(x==y))=false:=by simp[ht]
   have Hn:=Qh (show l.take (k+1)=m.take (k+1) by rw[List.take_succ_eq_append_getElem hlt,List.take_succ_eq_append_getElem kH,Hr.O,sF.O,Ns.O,ht]);clear ht;go_wp2_with fail
   refine wp_region_quiet_below (by kernel_rfl) (by kernel_rfl) ?_;repeat(go_big_quiet_step ((fail)))
   refine wpQuiet_nil ?_;intro w5 bg;have bq:Below (wr).heap.size (wr) w5:=by
    obtain⟨pq,rfl⟩:=bg;exact below_regrown _ _ _
   clear bg;have bT:=hb.trans (bq.mono hb.size);have gK:=dh bq hx0;have Vg:=dh bq JS;have g0:=cell_regrown gK;have g1:=cell_regrown Vg;clear bq hx0 JS;go_wp2_with fail
   refine wp_region_quiet_below (by kernel_rfl) (by kernel_rfl) ?_;repeat(go_big_quiet_step ((fail)))
   refine wpQuiet_nil ?_;intro w6 bg;have gp:Below (w5).heap.size (w5) w6:=by
    obtain⟨pq,rfl⟩:=bg;exact below_regrown _ _ _
   clear bg;go_wp2;go_roundw;case rel=>exact⟨k+1,by omega,by omega,by go_num,Hn.O,bT.trans (gp.mono bT.size)⟩
   case measure=>simp[intOf];omega
  ·have f1:=Nl ht;have f3:(x==y)=false:=by simpa using(Nn ht).symm
   have f4:(!(x==y))=true:=by rw[f3];rfl
   have Hn:=Qh (show iP p d=1 by rw[DK.O];exact Xhb ht _ _);go_wp2_with fail
   refine wp_region_quiet_below (by kernel_rfl) (by kernel_rfl) ?_;repeat(go_big_quiet_step ((fail)))
   refine wpQuiet_nil ?_;intro w5 bg;have bq:Below (wr).heap.size (wr) w5:=by
    obtain⟨pq,rfl⟩:=bg;exact below_regrown _ _ _
   clear bg;have bT:=hb.trans (bq.mono hb.size);have gK:=dh bq hx0;have Vg:=dh bq JS;have g0:=cell_regrown gK;have g1:=cell_regrown Vg;clear bq hx0 JS;go_wp2_with fail
   refine wp_region_quiet_below (by kernel_rfl) (by kernel_rfl) ?_;repeat(go_big_quiet_step ((fail)))
   refine wpQuiet_nil ?_;intro w6 bg;have gp:Below (w5).heap.size (w5) w6:=by
    obtain⟨pq,rfl⟩:=bg;exact below_regrown _ _ _
   clear bg;go_wp2;go_ret;exact⟨bP Hn.O.symm,HB.O.trans ((bT.trans (gp.mono bT.size)).mono HB.O.size)⟩
def bO(k:Int):ae:=if k=1 then [102,105,108,101]else if k=2 then [100,105,114]else if k=3 then [108,105,110,107]else if k=4 then [114,101,109,111,118,101]else if k=5 then [104,111,108,100]else if k=6 then [114,101,108,101,97,115,101]else []
theorem vR{k:Int}:bO k=[]↔k<1∨6<k:=by
 unfold bO;constructor
 ·intro h;by_cases h1:k<1∨6<k
  ·exact h1
  ·have:k=1∨k=2∨k=3∨k=4∨k=5∨k=6:=by omega
   rcases this with rfl|rfl|rfl|rfl|rfl|rfl<;>simp at h
 ·intro h;rw[if_neg (by omega),if_neg (by omega),if_neg (by omega),if_neg (by omega),if_neg (by omega),if_neg (by omega)]
theorem Xjs(k:Int)(w:World):Calls Tryz.prog 114 #[.int .i64 k] w fun e w'=>e= .returned (S (bO k))∧w'=w:=by
 by_cases h1:k=1;case pos=>
  subst h1;rw[show bO 1=[102,105,108,101]from rfl];go_enter Tryz.func114,Tryz.ntmps114
  go_wp2;go_ret;exact⟨rfl,rfl⟩
 by_cases h2:k=2;case pos=>
  subst h2;rw[show bO 2=[100,105,114]from rfl];go_enter Tryz.func114,Tryz.ntmps114
  go_wp2;go_ret;exact⟨rfl,rfl⟩
 by_cases h3:k=3;case pos=>
  subst h3;rw[show bO 3=[108,105,110,107]from rfl];go_enter Tryz.func114,Tryz.ntmps114
  go_wp2;go_ret;exact⟨rfl,rfl⟩
 by_cases h4:k=4;case pos=>
  subst h4;rw[show bO 4=[114,101,109,111,118,101]from rfl];go_enter Tryz.func114,Tryz.ntmps114
  go_wp2;go_ret;exact⟨rfl,rfl⟩
 by_cases h5:k=5;case pos=>
  subst h5;rw[show bO 5=[104,111,108,100]from rfl];go_enter Tryz.func114,Tryz.ntmps114
  go_wp2;go_ret;exact⟨rfl,rfl⟩
 by_cases h6:k=6;case pos=>
  subst h6;rw[show bO 6=[114,101,108,101,97,115,101]from rfl];go_enter Tryz.func114,Tryz.ntmps114
  go_wp2;go_ret;exact⟨rfl,rfl⟩
 have hn:bO k=[]:=vR.2 (by omega);have f1:(k==1)=false:=by simpa using h1
 have f2:(k==2)=false:=by simpa using h2
 have f3:(k==3)=false:=by simpa using h3
 have f4:(k==4)=false:=by simpa using h4
 have f5:(k==5)=false:=by simpa using h5
 have f6:(k==6)=false:=by simpa using h6
 rw[hn];clear hn h1 h2 h3 h4 h5 h6;go_enter Tryz.func114,Tryz.ntmps114
 go_wp2;go_ret;exact⟨rfl,rfl⟩
def iw(c:UInt8):Bool:=decide (48≤c)&&decide (c≤57)
theorem O5(c:UInt8):iw c=(decide (48≤c.toNat)&&decide (c.toNat≤57)):=by
 unfold iw;simp[UInt8.le_iff_toNat_le]
theorem VM(l:ae)(c:UInt8):digits (l++[c])=10*digits l+((c.toNat:Int)-48):=by
 simp[digits,List.foldl_append]
theorem Xm5:∀(n:Nat) (l:ae),l.length=n→l.all iw=true→0≤digits l∧digits l<10^n:=by
 intro n;induction n with
 |zero=>
  intro l h _;have:l=[]:=List.eq_nil_of_length_eq_zero h;subst this;exact⟨Int.le_refl _,by decide⟩
 |succ n ih=>
  intro l h ha;have bZ:l≠[]:=by intro e;rw[e]at h;simp at h
  have e:l=l.dropLast++[l.getLast bZ]:=(List.dropLast_concat_getLast bZ).symm;have hl:l.dropLast.length=n:=by rw[List.length_dropLast,h];omega
  rw[e,List.all_append,Bool.and_eq_true]at ha;obtain⟨i1,i2⟩:=ih _ hl ha.1;have hc:=ha.2;simp only[List.all_cons,List.all_nil,Bool.and_true]at hc;rw[O5,Bool.and_eq_true,decide_eq_true_iff,decide_eq_true_iff]at hc;rw[e,VM,Int.pow_succ];generalize digits l.dropLast=d at i1 i2;generalize((10:Int)^n)=p at i1 i2 ⊢;omega
def kR(s:ae):Int×Bool:=if s.length<1∨10<s.length∨(1<s.length∧s.head?=some 48)∨s.all iw=false then(0,false)else(digits s,decide (digits s≤1000000000))
theorem Xwe(s:ae):(kR s).2=fU s:=by
 unfold kR fU;have hd:(fun c:UInt8=>decide (48≤c)&&decide (c≤57))=iw:=rfl;rw[hd];by_cases h1:s.length<1
 ·rw[if_pos (.inl h1),Qf (by omega)];rfl
 by_cases h2:10<s.length
 ·rw[if_pos (.inr (.inl h2)),Qf (show ¬s.length≤10 by omega)];simp
 by_cases h3:1<s.length∧s.head?=some 48
 ·rw[if_pos (.inr (.inr (.inl h3)))];have:(decide (1<s.length)&&s.head?==some 48)=true:=by rw[Qt h3.1,h3.2];rfl
  rw[this];simp
 have h3':(decide (1<s.length)&&s.head?==some 48)=false:=by
  cases h:(decide (1<s.length)&&s.head?==some 48)with
  |false=>rfl
  |true=>
   rw[Bool.and_eq_true,decide_eq_true_iff,beq_iff_eq]at h;exact absurd h h3
 rw[h3',Qt (show 1≤s.length by omega),Qt (show s.length≤10 by omega)];cases h4:s.all iw
 ·rw[if_pos (.inr (.inr (.inr rfl)))];simp
 ·rw[if_neg (by simp[h1,h2,h3])];simp
theorem Xqu(s:ae)(hs:s.length≤9223372036854775807)(w:World):
 Calls Tryz.prog 183 #[S s] w fun e w'=>e= .returned (.tuple #[.int .i64 (kR s).1,.bool (kR s).2])∧Below w.heap.size w w':=by
 by_cases h1:s.length<1;case pos=>
  have ll:decide (s.length<1)=true:=Qt h1;have Hp:=Qh (show kR s=(0,false) by rw[kR,if_pos (.inl h1)]);go_enter Tryz.func183,Tryz.ntmps183
  go_wp2;go_ret2;rw[Hp.O];exact⟨rfl,Qb _ _⟩
 have ll:decide (s.length<1)=false:=Qf h1;by_cases h2:10<s.length;case pos=>
  have pg:decide (10<s.length)=true:=Qt h2;have Hp:=Qh (show kR s=(0,false) by rw[kR,if_pos (.inr (.inl h2))]);go_enter Tryz.func183,Tryz.ntmps183
  go_wp2;go_ret2;rw[Hp.O];exact⟨rfl,Qb _ _⟩
 have pg:decide (10<s.length)=false:=Qf h2;have hx0:=gQ Tryz.underlying9 s 0 0 rfl (by omega);have Sl:((((s.getD 0 0).toNat:Nat):Int)==48)=(s.getD 0 0==UInt8.ofNat 48):=Xy7 (s.getD 0 0) 48 (by decide);have hh:s.head?=some (s.getD 0 0):=by cases s<;>simp_all
 have nQ:(1<s.length∧s.head?=some 48)∨ ¬(1<s.length∧s.head?=some 48):=Classical.em _;rcases nQ with h3|h3
 ·have Fp:decide (1<s.length)=true:=Qt h3.1;have he1:(((s.getD 0 0).toNat:Int)==48)=true:=by
   rw[Sl];have:=h3.2;rw[hh]at this;rw[Option.some.inj this];rfl
  have Hp:=Qh (show kR s=(0,false) by rw[kR,if_pos (.inr (.inr (.inl h3)))]);generalize(s.getD 0 0).toNat=c0 at hx0 he1;have nk:c0=48:=by have:=beq_iff_eq.1 he1;omega
  subst nk;have h5:=h3.1;clear h3 Sl hh he1;go_enter Tryz.func183,Tryz.ntmps183
  go_wp2;go_ret2;rw[Hp.O];exact⟨rfl,Qb _ _⟩
 ·have Hp:=Qh (show kR s=if s.all iw=false then(0,false)else(digits s,decide (digits s≤1000000000)) by
   rw[kR];by_cases h4:s.all iw=false
   ·rw[if_pos (.inr (.inr (.inr h4))),if_pos h4]
   ·rw[if_neg (by simp[h1,h2,h3];simpa using h4),if_neg h4])
  have jU:(¬1<s.length∧decide (1<s.length)=false)∨(1<s.length∧decide (1<s.length)=true∧(((s.getD 0 0).toNat:Int)==48)=false):=by
   by_cases h5:1<s.length
   ·right;refine⟨h5,Qt h5,?_⟩;rw[Sl,beq_eq_false_iff_ne];intro e;exact h3 ⟨h5,by rw[hh,e];rfl⟩
   ·exact .inl ⟨h5,Qf h5⟩
  generalize(s.getD 0 0).toNat=c0 at hx0 jU;clear h3 Sl hh;have H10:s.length≤10:=by omega
  rcases jU with⟨h5,Fp⟩|⟨h5,Fp,he3⟩
  all_goals
   go_enter Tryz.func183,Tryz.ntmps183
   go_wp2_with fail
   go_loop [4,5] (fun s4 s5=> ∃k:Nat,k≤s.length∧s5= .int .i64 k∧s4= .int .i64 (digits (s.take k))∧(s.take k).all iw=true) (fun _ i=>s.length-(intOf i).toNat)
   case atStart=>exact⟨0,Nat.zero_le _,rfl,rfl,rfl⟩
   case round=>
    obtain⟨k,hk,rfl,rfl,hr⟩:=hrel;have BO:=Xm5 k (s.take k) (by rw[List.length_take];omega) hr;have Hr:=Qh hr;clear hr;by_cases hlt:k<s.length
    ·have hx:=gQ Tryz.underlying9 s (k:Int) k rfl hlt;have yl:=O5 (s.getD k 0);have Z9:(10:Int)^k≤10000000000:=by
      have:(10:Nat)^k≤10^10:=Nat.pow_le_pow_right (by decide) (by omega);have h2:((10^k:Nat):Int)≤((10^10:Nat):Int):=by exact_mod_cast this
      simpa using h2
     have qJ:s.take (k+1)=s.take k++[s.getD k 0]:=by rw[List.take_succ_eq_append_getElem hlt];simp[List.getD,hlt]
     have Gq:digits (s.take (k+1))=10*digits (s.take k)+(((s.getD k 0).toNat:Int)-48):=by rw[qJ,VM]
     have gX:s.getD k 0∈s:=by simp[List.getD,hlt]
     have su:(s.getD k 0).toNat<256:=(s.getD k 0).toNat_lt;generalize s.getD k 0=ch at yl qJ hx su Gq gX;generalize ch.toNat=c at yl hx su Gq;generalize digits (s.take k)=n at BO Gq ⊢;generalize((10:Int)^k)=p10 at BO Z9;have nR:=Qh qJ;have VN:=Qh Gq;have zN:=Qh gX;clear qJ Gq gX;by_cases qW:48≤c;case neg=>
      have d48:decide ((c:Int)<48)=true:=Qt (by omega);have Hn:=Qh (show kR s=(0,false) by
       rw[Hp.O,if_pos];cases h:s.all iw with
       |false=>rfl
       |true=>
        have:=List.all_eq_true.1 h ch zN.O;rw[yl,Qf qW]at this;exact absurd this (by simp))
      clear yl qW;go_wp2;go_ret2;rw[Hn.O];exact⟨rfl,Qb _ _⟩
     have d48:decide ((c:Int)<48)=false:=Qf (by omega);by_cases xJ:c≤57;case neg=>
      have d57:decide (57<(c:Int))=true:=Qt (by omega);have Hn:=Qh (show kR s=(0,false) by
       rw[Hp.O,if_pos];cases h:s.all iw with
       |false=>rfl
       |true=>
        have:=List.all_eq_true.1 h ch zN.O;rw[yl,Qf xJ]at this;exact absurd this (by simp))
      clear yl xJ;go_wp2;go_ret2;rw[Hn.O];exact⟨rfl,Qb _ _⟩
     have d57:decide (57<(c:Int))=false:=Qf (by omega);have Hdc:=Qh (show iw ch=true by rw[yl,Qt qW,Qt xJ];rfl);clear yl;go_wp2;go_round;case rel=>exact⟨k+1,by omega,by go_num,by rw[VN.O];go_num,by rw[nR.O,List.all_append,Hr.O];simp[Hdc.O]⟩
     case measure=>simp[intOf];omega
    ·have aB:s.take k=s:=List.take_of_length_le (by omega);rw[aB]at Hr BO ⊢;have Hn:=Qh (show kR s=(digits s,decide (digits s≤1000000000)) by rw[Hp.O,if_neg (by rw[Hr.O];simp)]);clear aB;go_wp2;go_ret2;rw[Hn.O];exact⟨rfl,Qb _ _⟩
def dW(acc:Nat)(l:ae):Nat:=l.foldl (fun n c=>10*n+(c.toNat-48)) acc
theorem Xm7(acc:Nat)(l:ae)(c:UInt8):dW acc (l++[c])=10*dW acc l+(c.toNat-48):=by simp[dW,List.foldl_append]
theorem FN(h:iw c=true):48≤c.toNat∧c.toNat≤57:=by
 rw[O5,Bool.and_eq_true,decide_eq_true_iff,decide_eq_true_iff]at h;exact h
theorem Xi5:∀(l:ae),l.all iw=true→ ∀(a:Nat),l.foldl (fun(n:Int) c=>10*n+((c.toNat:Int)-48)) (a:Int)=(dW a l:Nat)
 | [],_,_=>rfl
 |c::l,h,a=>by
  rw[List.all_cons,Bool.and_eq_true]at h;have hc:=FN h.1;have:=Xi5 l h.2 (10*a+(c.toNat-48));rw[List.foldl_cons,show(10*(a:Int)+((c.toNat:Int)-48))=((10*a+(c.toNat-48):Nat):Int) by omega,this];rfl
theorem VO{l:ae}(h:l.all iw=true):digits l=(dW 0 l:Nat):=Xi5 l h 0
theorem Xpr:∀(l:ae) (acc:Nat),l.all iw=true→(acc+1)*10^l.length≤100000000000→Lib.parseUint10 acc l= .ok (dW acc l)
 | [],_,_,_=>rfl
 |c::l,acc,h,hb=>by
  rw[List.all_cons,Bool.and_eq_true]at h;have hc:=FN h.1;rw[List.length_cons,Nat.pow_succ]at hb;have JU:1≤10^l.length:=Nat.pos_of_ne_zero (by simp);have CP:(acc+1)*10≤100000000000:=by
   have:(acc+1)*10*1≤(acc+1)*10*10^l.length:=Nat.mul_le_mul_left _ JU;rw[Nat.mul_comm (10^l.length) 10,←Nat.mul_assoc]at hb;omega
  have hn:(acc*10+(c.toNat-48)+1)*10^l.length≤100000000000:=by
   refine Nat.le_trans (Nat.mul_le_mul_right _ (show acc*10+(c.toNat-48)+1≤(acc+1)*10 by omega)) ?_;rw[Nat.mul_assoc,Nat.mul_comm 10 (10^l.length)];exact hb
  rw[Lib.parseUint10,if_pos hc,if_neg (by omega),if_neg (by omega),Xpr l _ h.2 hn];show Lib.NumEnd.ok (dW _ l)=Lib.NumEnd.ok (dW (10*acc+(c.toNat-48)) l);rw[Nat.mul_comm acc 10]
theorem VP{l:ae}(h:(c::l).all iw=true)(hc:c≠48):10^l.length≤dW 0 (c::l):=by
 have key:∀(n:Nat) (l:ae),l.length=n→ ∀a,a*10^n≤dW a l:=by
  intro n;induction n with
  |zero=>intro l h a;rw[List.eq_nil_of_length_eq_zero h];simp[dW]
  |succ n ih=>
   intro l h a;cases l with
   |nil=>simp at h
   |cons c l=>
    have:=ih l (by simpa using h) (10*a+(c.toNat-48));refine Nat.le_trans ?_ this;rw[Nat.pow_succ,Nat.mul_comm (10^n) 10,←Nat.mul_assoc];exact Nat.mul_le_mul_right _ (by omega)
 rw[List.all_cons,Bool.and_eq_true]at h;have hb:=FN h.1;have bZ:c.toNat≠48:=fun e=>hc (by
  have:c=UInt8.ofNat c.toNat:=by simp
  rw[this,e];rfl)
 have:=key l.length l rfl (10*0+(c.toNat-48));refine Nat.le_trans ?_ this;have h1:1≤10*0+(c.toNat-48):=by omega
 simpa using Nat.mul_le_mul_right (10^l.length) h1
def NoZ(s:ae):Prop:=s.length=1∨s.head?≠some 48
theorem Xqe:∀(n:Nat) (s:ae),s.length=n→s≠[]→s.all iw=true→NoZ s→Lib.decDigits (dW 0 s)=s:=by
 intro n;induction n with
 |zero=>intro s h h0;exact absurd (List.eq_nil_of_length_eq_zero h) h0
 |succ n ih=>
  intro s h h0 ha hz;have e:s=s.dropLast++[s.getLast h0]:=(List.dropLast_concat_getLast h0).symm;have hl:s.dropLast.length=n:=by rw[List.length_dropLast,h];omega
  have uP:=ha;rw[e,List.all_append,Bool.and_eq_true]at uP;have hc:iw (s.getLast h0)=true:=by simpa using uP.2
  have hb:=FN hc;have hoc:UInt8.ofNat (48+((s.getLast h0).toNat-48))=s.getLast h0:=by
   rw[show 48+((s.getLast h0).toNat-48)=(s.getLast h0).toNat by omega];simp
  by_cases hn:n=0
  ·have ht:s.dropLast=[]:=List.eq_nil_of_length_eq_zero (by omega);rw[e,ht,List.nil_append];have:dW 0 [s.getLast h0]=(s.getLast h0).toNat-48:=by simp[dW]
   rw[this,Lib.decDigits,dif_pos (by omega),hoc]
  ·have Sm:s.dropLast≠[]:=by intro e2;rw[e2]at hl;simp at hl;omega
   have hh:s.head?≠some 48:=by
    rcases hz with hz|hz
    ·omega
    ·exact hz
   have Sn:s.dropLast.head?=s.head? :=by
    cases hd:s.dropLast with
    |nil=>exact absurd hd Sm
    |cons a t=>rw[e,hd];rfl
   have i1:=ih s.dropLast hl Sm uP.1 (.inr (by rw[Sn];exact hh));have AB:1≤dW 0 s.dropLast:=by
    cases hd:s.dropLast with
    |nil=>exact absurd hd Sm
    |cons a t=>
     have Da:(a::t).all iw=true:=by rw[←hd];exact uP.1
     have:10^t.length≤dW 0 (a::t):=VP Da (fun e3=>hh (by rw[←Sn,hd,e3];rfl));have JU:1≤10^t.length:=Nat.pos_of_ne_zero (by simp);omega
   have hs:dW 0 s=10*dW 0 s.dropLast+((s.getLast h0).toNat-48):=by
    conv=>lhs;rw[e]
    exact Xm7 _ _ _
   rw[hs,Lib.decDigits,dif_neg (by omega),show(10*dW 0 s.dropLast+((s.getLast h0).toNat-48)) / 10=dW 0 s.dropLast by omega,show(10*dW 0 s.dropLast+((s.getLast h0).toNat-48))%10=(s.getLast h0).toNat-48 by omega,i1,hoc];exact e.symm
theorem Xt7(h:n<10):iw (UInt8.ofNat (48+n))=true:=by
 rw[O5];simp;omega
theorem Nt:∀(u:Nat),(Lib.decDigits u).all iw=true∧Lib.decDigits u≠[]∧dW 0 (Lib.decDigits u)=u∧(10≤u→(Lib.decDigits u).head?≠some 48)∧(1≤u→(Lib.decDigits u).head?≠some 48):=by
 intro u;induction u using Nat.strongRecOn with
 |_ u ih=>
  by_cases h:u<10
  ·have e:Lib.decDigits u=[UInt8.ofNat (48+u)]:=by rw[Lib.decDigits,dif_pos h]
   have hd:=Xt7 h;have ht:(UInt8.ofNat (48+u)).toNat=48+u:=by simp;omega
   rw[e];refine⟨by rw[List.all_cons,hd];rfl,by simp,by simp only[dW,List.foldl_cons,List.foldl_nil,ht];omega,fun h2=>by omega,fun h2 he=> ?_⟩;simp only[List.head?_cons,Option.some.injEq]at he;have:=congrArg UInt8.toNat he;rw[ht]at this;have h48:(48:UInt8).toNat=48:=rfl;omega
  ·have e:Lib.decDigits u=Lib.decDigits (u / 10)++[UInt8.ofNat (48+u%10)]:=by rw[Lib.decDigits,dif_neg h]
   obtain⟨i1,i2,i3,i4,i5⟩:=ih (u / 10) (by omega);have hd:=Xt7 (n:=u%10) (by omega);have ht:(UInt8.ofNat (48+u%10)).toNat=48+u%10:=by simp;omega
   have Sn:(Lib.decDigits u).head?≠some 48:=by
    rw[e];cases hc:Lib.decDigits (u / 10)with
    |nil=>exact absurd hc i2
    |cons a t=>
     have:=i5 (by omega);rw[hc]at this;exact this
   refine⟨?_,?_,?_,fun _=>Sn,fun _=>Sn⟩
   ·rw[e,List.all_append,i1,List.all_cons,hd];rfl
   ·rw[e];simp
   ·rw[e,Xm7,i3,ht];omega
theorem Xqf(s:ae):fU s=true↔ ∃n:Int,Lib.atoiAll s= .ok n∧0≤n∧n≤1000000000∧Lib.itoa n=s:=by
 have hd:(fun c:UInt8=>decide (48≤c)&&decide (c≤57))=iw:=rfl;constructor
 ·intro h;unfold fU at h;rw[hd]at h;simp only[Bool.and_eq_true,decide_eq_true_eq]at h;obtain⟨⟨⟨⟨h1,h2⟩,h3⟩,h4⟩,h5⟩:=h;have h0:s≠[]:=by intro e;rw[e]at h1;simp at h1
  have hz:NoZ s:=by
   by_cases hl:s.length=1
   ·exact .inl hl
   ·right;intro e;rw[e,Qt (show 1<s.length by omega)]at h3;simp at h3
  rw[VO h4]at h5;refine⟨(dW 0 s:Nat),?_,by omega,h5,?_⟩
  ·cases hs:s with
   |nil=>exact absurd hs h0
   |cons c r=>
    have ha:(c::r).all iw=true:=by rw[←hs];exact h4
    have hc:iw c=true:=by rw[List.all_cons,Bool.and_eq_true]at ha;exact ha.1
    have hb:=FN hc;have hlen:(c::r).length≤10:=by rw[←hs];exact h2
    have hp:=Xpr (c::r) 0 ha (by
     have:10^(c::r).length≤10^10:=Nat.pow_le_pow_right (by decide) hlen;omega)
    rw[Lib.atoiAll];rw[if_neg (by omega),Lib.parseMag,if_neg (by simp),hp];rw[hs]at h5;simp only;rw[if_neg (by omega),if_neg (by omega),if_neg (by omega)]
  ·rw[Lib.itoa,if_neg (by omega),Int.toNat_natCast];exact Xqe _ s rfl h0 h4 hz
 ·rintro⟨n,_,h0,h1,h2⟩;obtain⟨u,rfl⟩:=Int.eq_ofNat_of_zero_le h0;rw[Lib.itoa,if_neg (by omega),Int.toNat_natCast]at h2;obtain⟨f1,f2,f3,f4,f5⟩:=Nt u;rw[h2]at f1 f2 f3 f4 f5;have OC:digits s=u:=by rw[VO f1,f3]
  unfold fU;rw[hd,f1,OC,Qt h1];have x8:1≤s.length:=List.length_pos_iff.2 f2;have hz:(decide (1<s.length)&&s.head?==some 48)=false:=by
   cases hb:(decide (1<s.length)&&s.head?==some 48)with
   |false=>rfl
   |true=>
    rw[Bool.and_eq_true,decide_eq_true_iff,beq_iff_eq]at hb;by_cases hu:1≤u
    ·exact absurd hb.2 (f5 hu)
    ·have:u=0:=by omega
     subst this;have:s=[48]:=by rw[←h2,Lib.decDigits,dif_pos (by decide)];rfl
     rw[this]at hb;simp at hb
  have VQ:s.length≤10:=by
   cases hs:s with
   |nil=>simp
   |cons c r=>
    by_cases hu:1≤u
    ·have hc:c≠48:=fun e=>f5 hu (by rw[hs,e];rfl);have:=VP (c:=c) (l:=r) (by rw[←hs];exact f1) hc;rw[←hs,f3]at this;have hlt:¬10≤r.length:=by
      intro JU;have:10^10≤10^r.length:=Nat.pow_le_pow_right (by decide) JU;omega
     simp only[List.length_cons];omega
    ·have:u=0:=by omega
     subst this;have:s=[48]:=by rw[←h2,Lib.decDigits,dif_pos (by decide)];rfl
     rw[hs]at this;rw[this];simp
  rw[hz,Qt x8,Qt VQ];rfl
abbrev mR(x y:aG):Bool:=ji (els x.af) (els y.af)
theorem Jg(h:mR x y=true):x.af≠y.af:=fun e=>OY h (by rw[e])
theorem VR(x y:aG):mR x y=true∨x.af=y.af∨mR y x=true:=by
 rcases Xmb (els x.af) (els y.af)with h|h|h
 ·exact .inl h
 ·exact .inr (.inl (Xyd h))
 ·exact .inr (.inr h)
def dC(e:aG):Bool→List aG→List aG→List aG
 |d,out,[]=>if d then out else out++[e]
 |d,out,y::l=>dC e (d || !(mR y e)) ((if !d&& !(mR y e)then out++[e]else out)++(if y.af==e.af then []else [y])) l
def fq(t:List aG)(e:aG):List aG:=dC e false [] t
def bM(t:List aG)(e:aG):List aG×Int:=
 if az e≠0 then([],az e)
 else if 3<e.ai then
  if dS t e.af=none∧e.af≠[]then([],9)
  else if e.ai=4 then(t.filter fun x=> !(under x.af e.af),0)else(t,0)
 else if bA t (kE e.af)≠0 then([],bA t (kE e.af))
 else match dS t e.af with
  |some y=>if(y.ai==2) !=(e.ai==2)then([],8)else(fq t e,0)
  |none=>if 5000≤t.length then([],6)else(fq t e,0)
theorem Xil(e:aG)(l:List aG):∀out,dC e true out l=out++l.filter fun y=> !(y.af==e.af):=by
 induction l with
 |nil=>intro out;simp[dC]
 |cons y l ih=>
  intro out;rw[dC];simp only[Bool.true_or,Bool.not_true,Bool.false_and,Bool.false_eq_true,if_false];rw[ih,List.filter_cons];cases h:(y.af==e.af)<;>simp
theorem Xjw(h:iQ t)(e:aG):∃A B,fq t e=A++e::B∧(∀a∈A,a∈t∧mR a e=true)∧(∀b∈B,b∈t∧mR e b=true)∧(∀z∈t,z.af≠e.af→z∈A∨z∈B)∧iQ A∧iQ B:=by
 have key:∀(l:List aG),iQ l→ ∀out,∃A B,dC e false out l=out++(A++e::B)∧(∀a∈A,a∈l∧mR a e=true)∧(∀b∈B,b∈l∧mR e b=true)∧(∀z∈l,z.af≠e.af→z∈A∨z∈B)∧iQ A∧iQ B:=by
  intro l;induction l with
  |nil=>intro _ out;exact⟨[],[],by simp[dC],by simp,by simp,by simp,List.Pairwise.nil,List.Pairwise.nil⟩
  |cons y l ih=>
   intro hs out;obtain⟨h1,h2⟩:=List.pairwise_cons.1 hs;rw[dC];cases hb:mR y e
   ·simp only[Bool.not_false,Bool.or_true,Bool.and_self,if_true];rw[Xil];have iV:∀z∈l,mR e z=true:=by
     intro z hz;rcases VR e y with k|k|k
     ·exact Kj k (h1 z hz)
     ·show ji (els e.af) _=true;rw[k];exact h1 z hz
     ·rw[hb]at k;exact absurd k (by simp)
    have hf:(l.filter fun z=> !(z.af==e.af))=l:=List.filter_eq_self.2 fun z hz=>by
     have:=(Jg (iV z hz)).symm;simpa using this
    rw[hf];by_cases k:y.af=e.af
    ·rw[if_pos (by simpa using k)];refine⟨[],l,by simp,by simp,fun b hb=>⟨List.mem_cons_of_mem _ hb,iV b hb⟩,fun z hz bZ=> ?_,List.Pairwise.nil,h2⟩;rcases List.mem_cons.1 hz with rfl|hz
     ·exact absurd k bZ
     ·exact .inr hz
    ·have xI:mR e y=true:=by
      rcases VR e y with h|h|h
      ·exact h
      ·exact absurd h.symm k
      ·rw[h]at hb;exact absurd hb (by simp)
     rw[if_neg (by simpa using k)];refine⟨[],y::l,by simp,by simp,fun b hb=>⟨hb,?_⟩,fun z hz _=> .inr hz,List.Pairwise.nil,hs⟩;rcases List.mem_cons.1 hb with rfl|hb
     ·exact xI
     ·exact iV b hb
   ·have bZ:(y.af==e.af)=false:=by simpa using Jg hb
    simp only[Bool.not_true,Bool.or_false,Bool.and_false,Bool.false_eq_true,if_false,bZ];obtain⟨A,B,q,a1,a2,a3,a4,a5⟩:=ih h2 (out++[y]);refine⟨y::A,B,by rw[q];simp,fun a ha=> ?_,fun b hb=>⟨List.mem_cons_of_mem _ (a2 b hb).1,(a2 b hb).2⟩,fun z hz hzn=> ?_,List.pairwise_cons.2 ⟨fun a ha=>h1 a (a1 a ha).1,a4⟩,a5⟩
    ·rcases List.mem_cons.1 ha with rfl|ha
     ·exact⟨List.mem_cons_self ..,hb⟩
     ·exact⟨List.mem_cons_of_mem _ (a1 a ha).1,(a1 a ha).2⟩
    ·rcases List.mem_cons.1 hz with rfl|hz
     ·exact .inl (List.mem_cons_self ..)
     ·rcases a3 z hz hzn with h|h
      ·exact .inl (List.mem_cons_of_mem _ h)
      ·exact .inr h
 obtain⟨A,B,q,r⟩:=key t h [];exact⟨A,B,q,r⟩
theorem Pb(h:iQ t)(e:aG):iQ (fq t e):=by
 obtain⟨A,B,q,a1,a2,_,a4,a5⟩:=Xjw h e;rw[q];refine List.pairwise_append.2 ⟨a4,List.pairwise_cons.2 ⟨fun b hb=>(a2 b hb).2,a5⟩,fun a ha b hb=> ?_⟩;rcases List.mem_cons.1 hb with rfl|hb
 ·exact(a1 a ha).2
 ·exact Kj (a1 a ha).2 (a2 b hb).2
theorem Gu(h:iQ t)(e z:aG):z∈fq t e↔z=e∨(z∈t∧z.af≠e.af):=by
 obtain⟨A,B,q,a1,a2,a3,_,_⟩:=Xjw h e;rw[q,List.mem_append,List.mem_cons];constructor
 ·rintro(hz|hz|hz)
  ·exact .inr ⟨(a1 z hz).1,Jg (a1 z hz).2⟩
  ·exact .inl hz
  ·exact .inr ⟨(a2 z hz).1,(Jg (a2 z hz).2).symm⟩
 ·rintro(hz|⟨hz,hn⟩)
  ·exact .inr (.inl hz)
  ·rcases a3 z hz hn with h|h
   ·exact .inl h
   ·exact .inr (.inr h)
theorem Xv0(h:iQ t)(e:aG):dS (fq t e) e.af=some e:=Tk (Pb h e) ((Gu h e e).2 (.inl rfl))
theorem Xoo(h:iQ t)(e:aG)(hp:p≠e.af):dS (fq t e) p=dS t p:=by
 cases hg:dS t p with
 |some x=>
  obtain⟨hx,rfl⟩:=Xmp hg;exact Tk (Pb h e) ((Gu h e x).2 (.inr ⟨hx,hp⟩))
 |none=>
  refine Xs9 fun z hz k=> ?_;rcases(Gu h e z).1 hz with rfl|⟨hz,_⟩
  ·exact hp k.symm
  ·have:=Tk h hz;rw[k,hg]at this;exact absurd this (by simp)
theorem Xvp{l:List ae}(h:l≠[])(hc:∀p∈l,p≠[]):dX l≠[]:=by
 cases l with
 |nil=>exact absurd rfl h
 |cons p l=>
  cases l with
  |nil=>exact hc p (by simp)
  |cons q l=>rw[Jd p (by simp)];simp
theorem Xyc(h:aJ p=0):els (kE p)=(els p).dropLast:=by
 obtain⟨_,_,hc⟩:=BL h;have hd:∀q∈(els p).dropLast,comp q=true:=fun q hq=>hc q (List.dropLast_subset _ hq);unfold kE;by_cases hn:(els p).dropLast=[]
 ·rw[hn];rfl
 ·exact Xt0 (fun q hq=>Xnb (hd q hq)) (Xvp hn fun q hq=>Xyi (hd q hq))
theorem Xut{d:ae}(h:aJ p=0)(hu:under (kE p) d=true):under p d=true:=by
 simp only[under,Bool.and_eq_true,decide_eq_true_eq]at hu ⊢;obtain⟨⟨_,h2⟩,h3⟩:=hu;refine⟨⟨h,h2⟩,?_⟩;rw[List.isPrefixOf_iff_prefix]at h3 ⊢;rw[Xyc h]at h3;exact h3.trans (List.dropLast_prefix _)
theorem FO(h:az e=0):1≤e.ai∧e.ai≤6∧aJ e.af=0∧(e.af=[]→5≤e.ai):=by
 unfold az at h;by_cases h1:e.ai<1∨6<e.ai
 ·rw[if_pos h1]at h;omega
 rw[if_neg h1]at h;by_cases h2:aJ e.af=0;case neg=>rw[if_pos h2]at h;exact absurd h h2
 rw[if_neg (by omega)]at h;by_cases h3:e.af=[]∧e.ai<5
 ·rw[if_pos h3]at h;omega
 exact⟨by omega,by omega,h2,fun hp=>Int.not_lt.1 fun hk=>h3 ⟨hp,hk⟩⟩
theorem Xm3:bA t p=0↔p=[]∨ ∃x,dS t p=some x∧x.ai=2:=by
 unfold bA;by_cases h:p=[]
 ·rw[if_pos h];exact⟨fun _=> .inl h,fun _=>rfl⟩
 ·rw[if_neg h];cases hg:dS t p with
  |none=>
   constructor
   ·intro k;simp at k
   ·rintro(k|⟨x,k,_⟩)
    ·exact absurd k h
    ·simp at k
  |some x=>
   show(if x.ai≠2 then(10:Int)else 0)=0↔_;by_cases hk:x.ai=2
   ·rw[if_neg (by omega)];exact⟨fun _=> .inr ⟨x,rfl,hk⟩,fun _=>rfl⟩
   ·rw[if_pos hk];constructor
    ·intro k;omega
    ·rintro(k|⟨y,k,k'⟩)
     ·exact absurd k h
     ·cases k;exact absurd k' hk
theorem Xsm(h:FM t)(he:az e=0)(hk:e.ai=1∨e.ai=2∨e.ai=3)(hu:bA t (kE e.af)=0)(hs:∀y,dS t e.af=some y→(y.ai=2↔e.ai=2)):FM (fq t e):=by
 obtain⟨_,_,hp,CQ⟩:=FO he;have bZ:e.af≠[]:=fun k=>by have:=CQ k;omega
 refine⟨fun z hz=> ?_,fun z hz=> ?_,Pb h.DF e,fun z hz=> ?_⟩
 ·rcases(Gu h.DF e z).1 hz with rfl|⟨hz,_⟩
  ·exact he
  ·exact h.dm z hz
 ·rcases(Gu h.DF e z).1 hz with rfl|⟨hz,_⟩
  ·exact hk
  ·exact h.ai z hz
 ·have Mh:bA t (kE z.af)=0:=by
   rcases(Gu h.DF e z).1 hz with rfl|⟨hz,_⟩
   ·exact hu
   ·exact h.up z hz
  rw[Xm3]at Mh ⊢;rcases Mh with k|⟨x,k,k'⟩
  ·exact .inl k
  ·by_cases q:kE z.af=e.af
   ·refine .inr ⟨e,by rw[q];exact Xv0 h.DF e,?_⟩;rw[q]at k;exact(hs x k).1 k'
   ·exact .inr ⟨x,by rw[Xoo h.DF e q];exact k,k'⟩
theorem Xyg(h:FM t)(d:ae):FM (t.filter fun x=> !(under x.af d)):=by
 have hm:∀z,z∈(t.filter fun x=> !(under x.af d))↔z∈t∧under z.af d=false:=fun z=>by simp[List.mem_filter]
 have hs:iQ (t.filter fun x=> !(under x.af d)):=List.Pairwise.filter _ h.DF;refine⟨fun z hz=>h.dm z ((hm z).1 hz).1,fun z hz=>h.ai z ((hm z).1 hz).1,hs,fun z hz=> ?_⟩;obtain⟨qX,x9⟩:=(hm z).1 hz;have hp:=(FO (h.dm z qX)).2.2.1;have Mh:=h.up z qX;rw[Xm3]at Mh ⊢;rcases Mh with k|⟨x,k,k'⟩
 ·exact .inl k
 ·obtain⟨hx,ze⟩:=Xmp k;refine .inr ⟨x,?_,k'⟩;rw[←ze];refine Tk hs ((hm x).2 ⟨hx,?_⟩);cases q:under x.af d with
  |false=>rfl
  |true=>
   rw[ze]at q;rw[Xut hp q]at x9;exact absurd x9 (by simp)
theorem Xul{t':List aG}(h:FM t)(ha:bM t e=(t',0)):FM t':=by
 unfold bM at ha;by_cases h0:az e=0;case neg=>rw[if_pos h0]at ha;exact absurd (Prod.mk.inj ha).2 h0
 rw[if_neg (by omega)]at ha;have hk:=FO h0;by_cases h1:3<e.ai
 ·rw[if_pos h1]at ha;by_cases h2:dS t e.af=none∧e.af≠[]
  ·rw[if_pos h2]at ha;simp at ha
  ·rw[if_neg h2]at ha;by_cases h3:e.ai=4
   ·rw[if_pos h3]at ha;rw[←(Prod.mk.inj ha).1];exact Xyg h _
   ·rw[if_neg h3]at ha;rw[←(Prod.mk.inj ha).1];exact h
 ·rw[if_neg h1]at ha;by_cases h2:bA t (kE e.af)=0;case neg=>rw[if_pos h2]at ha;exact absurd (Prod.mk.inj ha).2 h2
  rw[if_neg (by omega)]at ha;cases hg:dS t e.af with
  |none=>
   rw[hg]at ha;change (if 5000≤t.length then(([]:List aG),(6:Int))else(fq t e,0))=_ at ha;by_cases h3:5000≤t.length
   ·rw[if_pos h3]at ha;simp at ha
   ·rw[if_neg h3]at ha;rw[←(Prod.mk.inj ha).1];exact Xsm h h0 (by omega) h2 fun y hy=>by rw[hg]at hy;cases hy
  |some y=>
   rw[hg]at ha;change (if((y.ai==2) !=(e.ai==2))=true then(([]:List aG),(8:Int))else(fq t e,0))=_ at ha;by_cases h3:((y.ai==2) !=(e.ai==2))=true
   ·rw[if_pos h3]at ha;simp at ha
   ·rw[if_neg h3]at ha;rw[←(Prod.mk.inj ha).1];refine Xsm h h0 (by omega) h2 fun z hz=> ?_;rw[hg]at hz;cases hz;have h4:(y.ai==2)=(e.ai==2):=by simpa using h3
    constructor
    ·intro k;rw[k]at h4;simpa using h4.symm
    ·intro k;rw[k]at h4;simpa using h4
def Gv(t:List aG)(e:aG):List aG:=if 3<e.ai then(if e.ai=4 then t.filter fun x=> !(under x.af e.af)else t)else fq t e
structure Pd (t:List aG) (e:aG):Prop where
 dm:az e=0
 there:3<e.ai→ ¬(dS t e.af=none∧e.af≠[])
 up:e.ai≤3→bA t (kE e.af)=0
 like:e.ai≤3→ ∀y,dS t e.af=some y→(y.ai==2)=(e.ai==2)
 room:e.ai≤3→dS t e.af=none→t.length<5000
theorem lv{a:List aG}:bM t e=(a,0)↔Pd t e∧a=Gv t e:=by
 unfold bM Gv;by_cases h0:az e=0;case neg=>
  rw[if_pos h0];exact⟨fun h=>absurd (Prod.mk.inj h).2 h0,fun h=>absurd h.1.dm h0⟩
 rw[if_neg (by omega)];by_cases h1:3<e.ai
 ·rw[if_pos h1,if_pos h1];by_cases h2:dS t e.af=none∧e.af≠[]
  ·rw[if_pos h2];exact⟨fun h=>absurd (Prod.mk.inj h).2 (by decide),fun h=>absurd h2 (h.1.there h1)⟩
  ·rw[if_neg h2];have hp:Pd t e:=⟨h0,fun _=>h2,fun k=>by omega,fun k=>by omega,fun k=>by omega⟩;by_cases h3:e.ai=4
   ·rw[if_pos h3,if_pos h3];exact⟨fun h=>⟨hp,(Prod.mk.inj h).1.symm⟩,fun h=>by rw[h.2]⟩
   ·rw[if_neg h3,if_neg h3];exact⟨fun h=>⟨hp,(Prod.mk.inj h).1.symm⟩,fun h=>by rw[h.2]⟩
 ·rw[if_neg h1,if_neg h1];by_cases h2:bA t (kE e.af)=0;case neg=>
   rw[if_pos h2];exact⟨fun h=>absurd (Prod.mk.inj h).2 h2,fun h=>absurd (h.1.up (by omega)) h2⟩
  rw[if_neg (by omega)];cases hg:dS t e.af with
  |none=>
   show(if 5000≤t.length then(([]:List aG),(6:Int))else(fq t e,0))=(a,0)↔_;by_cases h3:5000≤t.length
   ·rw[if_pos h3];exact⟨fun h=>absurd (Prod.mk.inj h).2 (by decide),fun h=>absurd (h.1.room (by omega) hg) (by omega)⟩
   ·rw[if_neg h3];exact⟨fun h=>⟨⟨h0,fun k=>absurd k h1,fun _=>h2,fun _ y hy=>(by rw[hg]at hy;cases hy),fun _ _=>(by omega)⟩,(Prod.mk.inj h).1.symm⟩,fun h=>by rw[h.2]⟩
  |some y=>
   show(if((y.ai==2) !=(e.ai==2))=true then(([]:List aG),(8:Int))else(fq t e,0))=(a,0)↔_;by_cases h3:((y.ai==2) !=(e.ai==2))=true
   ·rw[if_pos h3];refine⟨fun h=>absurd (Prod.mk.inj h).2 (by decide),fun h=> ?_⟩;have:=h.1.like (by omega) y hg;rw[this]at h3;simp at h3
   ·rw[if_neg h3];exact⟨fun h=>⟨⟨h0,fun k=>absurd k h1,fun _=>h2,fun _ z hz=>(by rw[hg]at hz;cases hz;simpa using h3),fun _ hn=>(by rw[hg]at hn;cases hn)⟩,(Prod.mk.inj h).1.symm⟩,fun h=>by rw[h.2]⟩
def Jh(e z:aG):Prop:=(e.ai≤3→z.af≠e.af)∧(e.ai=4→under z.af e.af=false)
theorem Xst(h:iQ t)(e z:aG):z∈Gv t e↔(e.ai≤3∧z=e)∨(z∈t∧Jh e z):=by
 unfold Gv Jh;by_cases h1:3<e.ai
 ·rw[if_pos h1];by_cases h2:e.ai=4
  ·rw[if_pos h2,List.mem_filter];constructor
   ·rintro⟨a,b⟩;exact .inr ⟨a,fun k=>by omega,fun _=>by simpa using b⟩
   ·rintro(⟨k,_⟩|⟨a,_,b⟩)
    ·omega
    ·exact⟨a,by simpa using b h2⟩
  ·rw[if_neg h2];constructor
   ·intro a;exact .inr ⟨a,fun k=>by omega,fun k=>absurd k h2⟩
   ·rintro(⟨k,_⟩|⟨a,_⟩)
    ·omega
    ·exact a
 ·rw[if_neg h1,Gu h];constructor
  ·rintro(k|⟨a,b⟩)
   ·exact .inl ⟨by omega,k⟩
   ·exact .inr ⟨a,fun _=>b,fun k=>by omega⟩
  ·rintro(⟨_,k⟩|⟨a,b,_⟩)
   ·exact .inl k
   ·exact .inr ⟨a,b (by omega)⟩
theorem Xvf(t:List aG)(e:aG):(fq t e).length≤t.length+1:=by
 have:∀(l out:List aG) (d:Bool),(dC e d out l).length≤out.length+l.length+1:=by
  intro l;induction l with
  |nil=>intro out d;cases d<;>simp[dC]
  |cons y l ih=>
   intro out d;rw[dC];cases hc:(!d&& !(mR y e))
   ·refine Nat.le_trans (ih _ _) ?_;cases h:(y.af==e.af)<;>simp<;>omega
   ·have hd:(d || !(mR y e))=true:=by
     simp only[Bool.and_eq_true]at hc;rw[hc.2];simp
    rw[hd,Xil];have:=List.length_filter_le (fun y:aG=> !(y.af==e.af)) l;cases h:(y.af==e.af)<;>simp<;>omega
 simpa[fq]using this t [] false
theorem Xxf(t:List aG)(e:aG):(Gv t e).length≤t.length+1:=by
 unfold Gv;by_cases h1:3<e.ai
 ·rw[if_pos h1];by_cases h2:e.ai=4
  ·rw[if_pos h2];exact Nat.le_trans (List.length_filter_le _ _) (Nat.le_succ _)
  ·rw[if_neg h2];exact Nat.le_succ _
 ·rw[if_neg h1];exact Xvf t e
def bs(p:Nat→Bool)(lo hi:Nat):Nat:=
 if h:lo<hi then(if p ((lo+hi) / 2)then bs p lo ((lo+hi) / 2)else bs p ((lo+hi) / 2+1) hi)else lo
termination_by hi-lo
decreasing_by all_goals omega
theorem Tu(p:Nat→Bool)(lo hi:Nat)(h:lo≤hi):lo≤bs p lo hi∧bs p lo hi≤hi:=by
 induction lo,hi using bs.induct p with
 |case1 lo hi hlt hp ih=>rw[bs,dif_pos hlt,if_pos hp];have:=ih (by omega);omega
 |case2 lo hi hlt hp ih=>rw[bs,dif_pos hlt,if_neg hp];have:=ih (by omega);omega
 |case3 lo hi hlt=>rw[bs,dif_neg hlt];omega
theorem Xym(p:Nat→Bool)(lo hi:Nat)(h:lo≤hi):(lo<bs p lo hi→p (bs p lo hi-1)=false)∧(bs p lo hi<hi→p (bs p lo hi)=true):=by
 induction lo,hi using bs.induct p with
 |case1 lo hi hlt hp ih=>
  rw[bs,dif_pos hlt,if_pos hp];have h1:=ih (by omega);refine⟨h1.1,fun h2=> ?_⟩;by_cases h3:bs p lo ((lo+hi) / 2)<(lo+hi) / 2
  ·exact h1.2 h3
  ·have:=Tu p lo ((lo+hi) / 2) (by omega);rw[show bs p lo ((lo+hi) / 2)=(lo+hi) / 2 by omega];exact hp
 |case2 lo hi hlt hp ih=>
  rw[bs,dif_pos hlt,if_neg hp];have h1:=ih (by omega);refine⟨fun h2=> ?_,h1.2⟩;by_cases h3:(lo+hi) / 2+1<bs p ((lo+hi) / 2+1) hi
  ·exact h1.1 h3
  ·have:=Tu p ((lo+hi) / 2+1) hi (by omega);rw[show bs p ((lo+hi) / 2+1) hi-1=(lo+hi) / 2 by omega];simpa using hp
 |case3 lo hi hlt=>rw[bs,dif_neg hlt];exact⟨fun h=>by omega,fun h=>by omega⟩
theorem Xve(h:iQ t)(e:aG)(hi:i<t.length)(hp:t[i].af=e.af):fq t e=t.set i e:=by
 have CR:∀(a:aG),mR a e=mR a t[i]:=fun a=>by unfold mR;rw[hp]
 have aaa:∀(a:aG),mR e a=mR t[i] a:=fun a=>by unfold mR;rw[hp]
 have JV:=List.pairwise_iff_getElem.1 h;have Mi:iQ (t.set i e):=by
  refine List.pairwise_iff_getElem.2 fun a b ha hb hab=> ?_;rw[List.length_set]at ha hb;have h0:=JV a b ha hb hab;rw[List.getElem_set,List.getElem_set];by_cases h1:i=a
  ·subst h1;rw[if_pos rfl,if_neg (by omega)];show mR e t[b]=true;rw[aaa];exact h0
  ·rw[if_neg h1];by_cases h2:i=b
   ·subst h2;rw[if_pos rfl];show mR t[a] e=true;rw[CR];exact h0
   ·rw[if_neg h2];exact h0
 refine iQ.ext (Pb h e) Mi fun z=> ?_;rw[Gu h];constructor
 ·rintro(rfl|⟨hz,bZ⟩)
  ·exact List.mem_set hi _
  ·obtain⟨j,hj,rfl⟩:=List.getElem_of_mem hz;have Mj:i≠j:=fun e2=>bZ (by subst e2;exact hp);have:(t.set i e)[j]'(by rw[List.length_set];exact hj)=t[j]:=List.getElem_set_ne Mj _;rw[←this];exact List.getElem_mem _
 ·intro hz;obtain⟨j,hj,rfl⟩:=List.getElem_of_mem hz;rw[List.length_set]at hj;rw[List.getElem_set];by_cases Mj:i=j
  ·rw[if_pos Mj];exact .inl rfl
  ·rw[if_neg Mj];refine .inr ⟨List.getElem_mem _,fun he=> ?_⟩;have bZ:t[j].af≠t[i].af:=by
    rcases Nat.lt_or_gt_of_ne Mj with h1|h1
    ·exact(Jg (JV i j hi hj h1)).symm
    ·exact Jg (JV j i hj hi h1)
   exact bZ (he.trans hp.symm)
theorem Xvg(h:iQ t)(e:aG)(hi:i≤t.length)(hl:∀k (hk:k<t.length),k<i→mR t[k] e=true)(hg:∀k (hk:k<t.length),i≤k→mR e t[k]=true):fq t e=t.take i++e::t.drop i:=by
 have JV:=List.pairwise_iff_getElem.1 h;have Mi:iQ (t.take i++e::t.drop i):=by
  refine List.pairwise_append.2 ⟨List.Pairwise.sublist (List.take_sublist _ _) h,List.pairwise_cons.2 ⟨fun b hb=> ?_,List.Pairwise.sublist (List.drop_sublist _ _) h⟩,fun a ha b hb=> ?_⟩
  ·obtain⟨j,hj,rfl⟩:=List.getElem_of_mem hb;rw[List.getElem_drop];exact hg _ (by simp at hj;omega) (by omega)
  ·obtain⟨j,hj,rfl⟩:=List.getElem_of_mem ha;have Du:j<i∧j<t.length:=by simp at hj;omega
   rw[List.getElem_take];rcases List.mem_cons.1 hb with rfl|hb
   ·exact hl j Du.2 Du.1
   ·obtain⟨q,hq,rfl⟩:=List.getElem_of_mem hb;rw[List.getElem_drop];exact JV j (i+q) Du.2 (by simp at hq;omega) (by omega)
 refine iQ.ext (Pb h e) Mi fun z=> ?_;rw[Gu h,List.mem_append,List.mem_cons];constructor
 ·rintro(rfl|⟨hz,bZ⟩)
  ·exact .inr (.inl rfl)
  ·rw[←List.take_append_drop i t,List.mem_append]at hz;rcases hz with hz|hz
   ·exact .inl hz
   ·exact .inr (.inr hz)
 ·rintro(hz|rfl|hz)
  ·obtain⟨j,hj,rfl⟩:=List.getElem_of_mem hz;have Du:j<i∧j<t.length:=by simp at hj;omega
   rw[List.getElem_take];exact .inr ⟨List.getElem_mem _,Jg (hl j Du.2 Du.1)⟩
  ·exact .inl rfl
  ·obtain⟨j,hj,rfl⟩:=List.getElem_of_mem hz;rw[List.getElem_drop];exact .inr ⟨List.getElem_mem _,(Jg (hg (i+j) (by simp at hj;omega) (by omega))).symm⟩
def gN(t:List aG)(p:ae)(i:Nat):Bool:=match t[i]? with|some x=> !(ji (els x.af) (els p))|none=>true
theorem Xxe(h:iQ t)(e:aG)(hn:∀x∈t,x.af≠e.af):fq t e=t.take (bs (gN t e.af) 0 t.length)++e::t.drop (bs (gN t e.af) 0 t.length):=by
 have CR:=Tu (gN t e.af) 0 t.length (Nat.zero_le _);have hsp:=Xym (gN t e.af) 0 t.length (Nat.zero_le _);generalize bs (gN t e.af) 0 t.length=i at CR hsp;have JV:=List.pairwise_iff_getElem.1 h;refine Xvg h e CR.2 (fun k hk hki=> ?_) (fun k hk hik=> ?_)
 ·have h1:=hsp.1 (by omega);rw[gN,List.getElem?_eq_getElem (by omega)]at h1;have h2:mR (t[i-1]'(by omega)) e=true:=by simpa using h1
  by_cases wI:k=i-1
  ·subst wI;exact h2
  ·exact Kj (JV k (i-1) hk (by omega) (by omega)) h2
 ·have h1:=hsp.2 (by omega);rw[gN,List.getElem?_eq_getElem (by omega)]at h1;have h2:mR (t[i]'(by omega)) e=false:=by simpa using h1
  have h3:mR e (t[i]'(by omega))=true:=by
   rcases VR e (t[i]'(by omega))with h3|h3|h3
   ·exact h3
   ·exact absurd h3.symm (hn _ (List.getElem_mem _))
   ·rw[h2]at h3;exact absurd h3 (by simp)
  by_cases wI:k=i
  ·subst wI;exact h3
  ·exact Kj h3 (JV i k (by omega) hk (by omega))
structure Ho where
 p:ae
 u:Int
 deriving DecidableEq
variable{l m:List Ho}
def fF(l:List Ho)(d:Int):List Ho:=l.filter fun h=>decide (d≤h.u)
def gy(l:List Ho)(p:ae)(d:Int):Bool:=(fF l d).any fun h=>under p h.p
def ku(l:List Ho)(p:ae)(d:Int):Bool:=(fF l d).any fun h=>under h.p p
def kv(l:List Ho)(k:Int)(p:ae)(d:Int):Int:=
 if k=1∨k=2∨k=3 then(if gy l p d then 15 else 0)else if k=4 then(if gy l p d || ku l p d then 15 else 0)else 0
def ii(l:List Ho)(p:ae):List Ho:=l.filter fun h=> !(h.p==p)
def jk(h:Ho):List Ho→List Ho
 | []=> [h]
 |x::l=>if ji (els h.p) (els x.p)then h::x::l else x::jk h l
def gT(p:ae):List Ho→Int→Int
 | [],u=>u
 |h::l,u=>gT p l (if h.p=p then max u h.u else u)
def wN(l:List Ho)(p:ae):Bool:=l.any fun h=>h.p==p
def appH(l:List Ho)(e:aG)(d:Int):List Ho×Int:=
 if e.ai=5 then(jk ⟨e.af,gT e.af (fF l d) (digits e.target)⟩ (ii (fF l d) e.af),0)
 else if e.ai=6 then(if wN (fF l d) e.af then(ii (fF l d) e.af,0)else([],9))
 else(fF l d,0)
structure tN (l:List Ho):Prop where
 ne:l.Pairwise fun a b=>a.p≠b.p
 u0:∀h∈l,0≤h.u
 u1:∀h∈l,h.u≤1000000000
 af:∀h∈l,aJ h.p=0
theorem Xs3:tN []:=⟨List.Pairwise.nil,fun _ h=>(by cases h),fun _ h=>(by cases h),fun _ h=>(by cases h)⟩
theorem tN.sub(h:tN l)(hs:m.Sublist l):tN m:=⟨h.ne.sublist hs,fun x hx=>h.u0 x (hs.subset hx),fun x hx=>h.u1 x (hs.subset hx),fun x hx=>h.af x (hs.subset hx)⟩
theorem tN.act(h:tN l)(d:Int):tN (fF l d):=h.sub List.filter_sublist
theorem tN.rest(h:tN l)(p:ae):tN (ii l p):=h.sub List.filter_sublist
theorem Pe(h:Ho):∀{l:List Ho} {x:Ho},x∈jk h l↔x=h∨x∈l
 | [],x=>by simp[jk]
 |y::l,x=>by
  rw[jk];split
  ·rw[List.mem_cons]
  ·rw[List.mem_cons,Pe h,List.mem_cons];constructor
   ·rintro(k|k|k)
    ·exact .inr (.inl k)
    ·exact .inl k
    ·exact .inr (.inr k)
   ·rintro(k|k|k)
    ·exact .inr (.inl k)
    ·exact .inl k
    ·exact .inr (.inr k)
theorem Xpx(h:Ho):∀l:List Ho,(jk h l).length=l.length+1
 | []=>rfl
 |y::l=>by
  rw[jk];split
  ·rfl
  ·rw[List.length_cons,Xpx h l,List.length_cons]
theorem Xs1{h:Ho}:∀{l:List Ho},l.Pairwise (fun a b=>a.p≠b.p)→(∀x∈l,x.p≠h.p)→(jk h l).Pairwise fun a b=>a.p≠b.p
 | [],_,_=>List.pairwise_singleton _ _
 |y::l,hl,hn=>by
  rw[jk];obtain⟨h1,h2⟩:=List.pairwise_cons.1 hl;split
  ·exact List.pairwise_cons.2 ⟨fun x hx k=>hn x hx k.symm,hl⟩
  ·refine List.pairwise_cons.2 ⟨fun x hx=> ?_,Xs1 h2 fun x hx=>hn x (List.mem_cons_of_mem _ hx)⟩;rcases(Pe h).1 hx with rfl|hx
   ·exact hn y (List.mem_cons_self ..)
   ·exact h1 x hx
theorem Xva:∀x∈ii l p,x.p≠p:=fun x hx k=>by
 have:=(List.mem_filter.1 hx).2;rw[k]at this;simp at this
theorem VS(p:ae):∀(l:List Ho) (u:Int),(∀h∈l,0≤h.u∧h.u≤1000000000)→0≤u→u≤1000000000→0≤gT p l u∧gT p l u≤1000000000
 | [],u,_,h0,h1=>⟨h0,h1⟩
 |h::l,u,hl,h0,h1=>by
  have hh:=hl h (List.mem_cons_self ..);have hr:=fun x hx=>hl x (List.mem_cons_of_mem _ hx);rw[gT];split
  ·exact VS p l _ hr (by omega) (by omega)
  ·exact VS p l _ hr h0 h1
theorem Tv(h:fU s=true):0≤digits s∧digits s≤1000000000:=by
 unfold fU at h;simp only[Bool.and_eq_true,decide_eq_true_eq]at h;refine⟨?_,h.2⟩;have h0:=h.1.2;unfold digits;have key:∀(l:ae) (a:Int),0≤a→(l.all fun c=>decide (48≤c)&&decide (c≤57))=true→0≤l.foldl (fun(n:Int) c=>10*n+((c.toNat:Int)-48)) a:=by
  intro l;induction l with
  |nil=>intro a ha _;exact ha
  |cons c l ih=>
   intro a ha hl;rw[List.all_cons,Bool.and_eq_true]at hl;rw[List.foldl_cons];have h48:(48:UInt8)≤c:=by
    have:=hl.1;simp only[Bool.and_eq_true,decide_eq_true_eq]at this;exact this.1
   have apA:48≤c.toNat:=h48;exact ih _ (by omega) hl.2
 exact key s 0 (by omega) h0
theorem VT(he:az e=0)(hk:e.ai=5):fU e.target=true:=by
 unfold az at he;rw[if_neg (by omega)]at he;by_cases h1:aJ e.af≠0
 ·rw[if_pos h1]at he;exact absurd he h1
 rw[if_neg h1]at he;split at he
 ·omega
 by_cases h2:mQ e.ag≠0
 ·rw[if_pos h2]at he;exact absurd he h2
 rw[if_neg h2]at he;split at he
 ·omega
 rename_i h3;have ht:bJ e=true:=by
  cases hh:bJ e with
  |true=>rfl
  |false=>exact absurd (.inr hh) h3
 unfold bJ at ht;rw[if_neg (by omega),if_pos hk]at ht;exact ht
theorem Xyp{n:Int}(h:tN l)(he:az e=0)(ha:appH l e d=(m,n)):tN m:=by
 unfold appH at ha;by_cases h5:e.ai=5
 ·rw[if_pos h5]at ha;obtain⟨rfl,rfl⟩:=Prod.mk.inj ha;have hr:=(h.act d).rest e.af;have hd:=Tv (VT he h5);have hu:=VS e.af (fF l d) (digits e.target) (fun x hx=>⟨(h.act d).u0 x hx,(h.act d).u1 x hx⟩) hd.1 hd.2;refine⟨Xs1 hr.ne fun x hx=>Xva x hx,fun x hx=> ?_,fun x hx=> ?_,fun x hx=> ?_⟩
  ·rcases(Pe _).1 hx with rfl|hx
   ·exact hu.1
   ·exact hr.u0 x hx
  ·rcases(Pe _).1 hx with rfl|hx
   ·exact hu.2
   ·exact hr.u1 x hx
  ·rcases(Pe _).1 hx with rfl|hx
   ·exact(FO he).2.2.1
   ·exact hr.af x hx
 ·rw[if_neg h5]at ha;split at ha
  ·split at ha
   ·obtain⟨rfl,rfl⟩:=Prod.mk.inj ha;exact(h.act d).rest e.af
   ·obtain⟨rfl,rfl⟩:=Prod.mk.inj ha;exact Xs3
  ·obtain⟨rfl,rfl⟩:=Prod.mk.inj ha;exact h.act d
theorem Xwr{n:Int}(ha:appH l e d=(m,n)):m.length≤l.length+1:=by
 have h1:(fF l d).length≤l.length:=List.length_filter_le _ _;have h2:∀p,(ii (fF l d) p).length≤(fF l d).length:=fun p=>List.length_filter_le _ _;have h3:=h2 e.af;unfold appH at ha;split at ha
 ·obtain⟨rfl,rfl⟩:=Prod.mk.inj ha;rw[Xpx];omega
 ·split at ha
  ·split at ha
   ·obtain⟨rfl,rfl⟩:=Prod.mk.inj ha;omega
   ·obtain⟨rfl,rfl⟩:=Prod.mk.inj ha;simp
  ·obtain⟨rfl,rfl⟩:=Prod.mk.inj ha;omega
def mD(p:ae):List Ho→Int→Int
 | [],u=>u
 |h::l,u=>mD p l (if h.p=p then h.u else u)
theorem VU:∀{l:List Ho} {u:Int},(∀x∈l,x.p≠p)→mD p l u=u
 | [],_,_=>rfl
 |h::l,u,hn=>by
  rw[mD,if_neg (hn h (List.mem_cons_self ..))];exact VU fun x hx=>hn x (List.mem_cons_of_mem _ hx)
theorem Xh0:∀{l:List Ho} {u:Int},(∀x∈l,x.p≠p)→gT p l u=u
 | [],_,_=>rfl
 |h::l,u,hn=>by
  rw[gT,if_neg (hn h (List.mem_cons_self ..))];exact Xh0 fun x hx=>hn x (List.mem_cons_of_mem _ hx)
theorem Xlh:∀{l:List Ho} {u:Int},tN l→0≤u→(if u<mD p l (-1)then mD p l (-1)else u)=gT p l u
 | [],u,_,h0=>by rw[mD,gT,if_neg (by omega)]
 |h::l,u,hk,h0=>by
  obtain⟨h1,h2⟩:=List.pairwise_cons.1 hk.ne;by_cases hp:h.p=p
  ·have hn:∀x∈l,x.p≠p:=fun x hx k=>h1 x hx (by rw[hp,k]);rw[mD,gT,if_pos hp,if_pos hp,VU hn,Xh0 hn];split<;>omega
  ·rw[mD,gT,if_neg hp,if_neg hp];exact Xlh (hk.sub (List.sublist_cons_self _ _)) h0
theorem Xrn:∀{l:List Ho},tN l→(decide (mD p l (-1)<0))=!(wN l p)
 | [],_=>by rw[mD];rfl
 |h::l,hk=>by
  obtain⟨h1,h2⟩:=List.pairwise_cons.1 hk.ne;by_cases hp:h.p=p
  ·have hn:∀x∈l,x.p≠p:=fun x hx k=>h1 x hx (by rw[hp,k]);have h0:=hk.u0 h (List.mem_cons_self ..);rw[mD,if_pos hp,VU hn,Qf (by omega)];simp[wN,hp]
  ·rw[mD,if_neg hp,Xrn (hk.sub (List.sublist_cons_self _ _))];simp[wN,hp]
theorem ym:((ii l p).length=l.length)↔wN l p=false:=by
 unfold ii wN;rw[List.length_filter_eq_length_iff,List.any_eq_false];constructor
 ·intro h x hx;have:=h x hx;simpa using this
 ·intro h x hx;have:=h x hx;simpa using this
def DL(t:List aG)(p:ae):List aG:=t.filter fun x=>decide (aJ x.af=0)&&decide (x.af≠[])&&(kE x.af==p)
def Ji(p:ae):ae:=(els p).getLastD []
section
variable (H Gw:ae→ae) (num:Int→ae) (nm:Int→ae)
def zO(x:aG):ae:=Gw (nm x.ai)++(num x.ag.length++x.ag.flatMap fun a=>Gw a.k++Gw a.v)
def Jj:Nat→List aG→aG→ae
 |0,_,_=> []
 |n+1,t,x=>if x.ai=2 then H (zO Gw num nm x++num (DL t x.af).length++(DL t x.af).flatMap fun y=>Gw (Ji y.af)++Gw (Jj n t y))
  else H (zO Gw num nm x++Gw x.target++num x.size++Gw x.aj)
end
def aS(s:ae):ae:=Lib.itoa s.length++[58]++s++[44]
def gJ:List ae→ae
 | []=> []
 |s::l=>aS s++gJ l
def aY(n:Int):ae:=Lib.itoa n++[32]
theorem Xg2(l m:List ae):gJ (l++m)=gJ l++gJ m:=by
 induction l with
 |nil=>rfl
 |cons s l ih=>rw[List.cons_append,gJ,gJ,ih,List.append_assoc]
theorem Xjz(n w:Nat)(hn:n<10^w)(hw:1≤w):Lib.nDigits n≤w:=by
 induction w generalizing n with
 |zero=>omega
 |succ w ih=>
  by_cases h:n<10
  ·rw[Lib.nDigits_small h];omega
  ·rw[Lib.nDigits_big h];rw[Nat.pow_succ]at hn;rcases Nat.eq_zero_or_pos w with h0|h0
   ·subst h0;simp at hn;omega
   ·have:=ih (n / 10) (by omega) h0;omega
theorem Nu(n:Nat)(h:n≤140737488355328):(Lib.itoa (n:Int)).length≤16:=by
 have:Lib.itoa (n:Int)=Lib.decDigits n:=by simp[Lib.itoa]
 rw[this,Lib.decDigits_length];exact Xjz n 16 (by omega) (by omega)
theorem pY(s:ae)(h:s.length≤100000000):(aS s).length≤s.length+18:=by
 have:=Nu s.length (by omega);simp[aS];omega
theorem qP(n:Nat)(h:n≤140737488355328):(aY n).length≤17:=by
 have:=Nu n h;simp[aY];omega
structure ah7 (x:aG):Prop where
 ai:x.ai=1∨x.ai=2∨x.ai=3
 DN:x.ag.length≤16
 Pf:∀a∈x.ag,a.k.length≤32∧a.v.length≤64
 target:x.target.length≤200
 s0:0≤x.size
 s1:x.size≤65536
 aj:x.aj.length≤32
 af:x.af.length≤200
 deep:(els x.af).length≤8
theorem Xi8:∀{l:List At} {p:Option At},dR p l=0→ ∀a∈l,a.k.length≤32∧a.v.length≤64
 | [],_,_,a,ha=>by cases ha
 |x::l,p,h,a,ha=>by
  unfold dR at h;by_cases h1:gq x≠0
  ·rw[if_pos h1]at h;exact absurd h h1
  rw[if_neg h1]at h;split at h
  ·omega
  split at h
  ·omega
  rcases List.mem_cons.1 ha with rfl|ha
  ·have h2:gq a=0:=by omega
   unfold gq at h2;split at h2
   ·omega
   rename_i hk;split at h2
   ·omega
   simp[lu]at hk;omega
  ·exact Xi8 h a ha
theorem Xyk{l:List At}(h:mQ l=0):l.length≤16∧ ∀a∈l,a.k.length≤32∧a.v.length≤64:=by
 unfold mQ at h;split at h
 ·omega
 ·exact⟨by omega,Xi8 h⟩
def abL:aG:=⟨2,[],[],[],0,[],[]⟩
def Deep(n:Nat)(x:aG):Prop:=10≤(els x.af).length+n
section
variable (H:ae→ae) (hH:∀s,(H s).length≤32)
abbrev Pg(n:Nat)(t:List aG)(x:aG):ae:=Jj H aS aY bO n t x
abbrev Kl(x:aG):ae:=zO aS aY bO x
theorem Tw(k:Int):(bO k).length≤7:=by
 unfold bO;repeat' split
 all_goals simp
def u7(l:List At):ae:=aY l.length++l.flatMap fun a=>aS a.k++aS a.v
theorem VV:∀(l:List At),(∀a∈l,a.k.length≤32∧a.v.length≤64)→(l.flatMap fun a=>aS a.k++aS a.v).length≤132*l.length
 | [],_=>by simp
 |a::l,h=>by
  have h1:=h a (List.mem_cons_self ..);have h2:=VV l fun b hb=>h b (List.mem_cons_of_mem _ hb);have h3:=pY a.k (by omega);have h4:=pY a.v (by omega);simp only[List.flatMap_cons,List.length_append,List.length_cons];omega
theorem Xwo{l:List At}(hn:l.length≤16)(h:∀a∈l,a.k.length≤32∧a.v.length≤64):(u7 l).length≤2200:=by
 have h1:=VV l h;have h2:=qP l.length (by omega);unfold u7;rw[List.length_append];omega
def Tx(n:Nat)(t:List aG)(x:aG)(l:List aG):ae:=Kl x++aY (DL t x.af).length++l.flatMap fun y=>aS (Ji y.af)++aS (Pg H n t y)
end
def mE(d m x:Int):Int:=bits .or .u32 (x / d) (x*m%4294967296)
theorem Tz(k:IntKind)(x y:Int):bits .or k x y=bits .or k y x:=by
 simp only[bits,BitVec.or_comm]
def tO(k d m:Int):Prop:=(k=16∧d=65536∧m=65536)∨(k=12∧d=4096∧m=1048576)∨(k=8∧d=256∧m=16777216)∨(k=7∧d=128∧m=33554432)
theorem TA(x:Int)(k d m:Int)(hk:tO k d m)(w:World):
 Calls Tryz.prog 269 #[.int .u32 x,.int .i64 (-k)] w fun e w'=>e= .returned (.int .u32 (mE d m x))∧w'=w:=by
 rcases hk with⟨rfl,rfl,rfl⟩|⟨rfl,rfl,rfl⟩|⟨rfl,rfl,rfl⟩|⟨rfl,rfl,rfl⟩
 ·have e1:IntKind.u64.wrap (-16)=18446744073709551600:=by decide
  have e2:bits .and .u64 18446744073709551600 31=16:=by decide
  go_enter Tryz.func269,Tryz.ntmps269
  go_wp2;go_ret;exact⟨bP (Tz _ _ _),rfl⟩
 ·have e1:IntKind.u64.wrap (-12)=18446744073709551604:=by decide
  have e2:bits .and .u64 18446744073709551604 31=20:=by decide
  go_enter Tryz.func269,Tryz.ntmps269
  go_wp2;go_ret;exact⟨bP (Tz _ _ _),rfl⟩
 ·have e1:IntKind.u64.wrap (-8)=18446744073709551608:=by decide
  have e2:bits .and .u64 18446744073709551608 31=24:=by decide
  go_enter Tryz.func269,Tryz.ntmps269
  go_wp2;go_ret;exact⟨bP (Tz _ _ _),rfl⟩
 ·have e1:IntKind.u64.wrap (-7)=18446744073709551609:=by decide
  have e2:bits .and .u64 18446744073709551609 31=25:=by decide
  go_enter Tryz.func269,Tryz.ntmps269
  go_wp2;go_ret;exact⟨bP (Tz _ _ _),rfl⟩
theorem Xlv(x:Int)(k d m:Int)(hk:tO k d m)(w:World):
 Calls Tryz.prog 270 #[.int .u32 x,.int .u64 k] w fun e w'=>e= .returned (.int .u32 (mE d m x))∧w'=w:=by
 rcases hk with⟨rfl,rfl,rfl⟩|⟨rfl,rfl,rfl⟩|⟨rfl,rfl,rfl⟩|⟨rfl,rfl,rfl⟩
 all_goals
  go_enter Tryz.func270,Tryz.ntmps270
  go_wp2;go_ret;exact⟨bP rfl,rfl⟩
def row(l:List Int):Array Value:=(l.map fun x=>Value.int .u32 x).toArray
@[simp] theorem bD (l:List Int):(row l).size=l.length:=by simp[row]
theorem oV{l:List Int}(h:i<l.length):(row l)[i]?=some (.int .u32 (l.getD i 0)):=by
 simp[row,List.getD,List.getElem?_eq_getElem h]
theorem Xw9(l:List Int)(i:Nat)(v:Int):(row l).setIfInBounds i (.int .u32 v)=row (l.set i v):=by
 simp[row,List.map_set]
theorem heap_setCell{l:List Int}{t:TypeId}(v:Int)(h:w.heap[b]?=some (.cells (row l) t f)):(w.setCell ⟨b,i,none⟩ (.int .u32 v)).heap[b]?=some (.cells (row (l.set i v)) t f):=by
 unfold World.setCell;rw[Array.getElem?_modify,if_pos rfl,h];simp[Xw9]
theorem TB(w:World)(a:Addr)(u:Value):w.grownBy (w.setCell a u) (some a.block):=
 ⟨rfl,rfl,rfl,by simp[World.setCell],fun k _ bZ=>Below.heap_setCell _ _ _ _ (fun e=>bZ (by rw[e]))⟩
theorem Xol(h:Below B w w')(hB:w.heap.size≤B):w.grownBy w' r:=
 ⟨h.os,h.tape,h.output,h.size,fun k hk _=>h.block k (by omega)⟩
theorem TC{w1 w2:World}(h:w.grownBy w1 r)(k:w1.grownBy w2 r):w.grownBy w2 r:=
 ⟨k.os.trans h.os,k.tape.trans h.tape,k.output.trans h.output,Nat.le_trans h.size k.size,fun j hj bZ=>(k.block j (Nat.lt_of_lt_of_le hj h.size) bZ).trans (h.block j hj bZ)⟩
theorem Xq9(h:w.grownBy w' r):w.grownBy w'.drew r:=⟨h.os,h.tape,h.output,h.size,h.block⟩
def sG(a b c d x y:Int):Int×Int×Int×Int:=
 let a1:=(a+(b+x))%4294967296
 let d1:=mE 65536 65536 (bits .xor .u32 d a1)
 let c1:=(c+d1)%4294967296
 let b1:=mE 4096 1048576 (bits .xor .u32 b c1)
 let a2:=(a1+(b1+y))%4294967296
 let d2:=mE 256 16777216 (bits .xor .u32 d1 a2)
 let c2:=(c1+d2)%4294967296
 (a2,mE 128 33554432 (bits .xor .u32 b1 c2),c2,d2)
def nU(l:List Int)(a b c d:Nat)(x y:Int):List Int:=
 let r:=sG (l.getD a 0) (l.getD b 0) (l.getD c 0) (l.getD d 0) x y
 (((l.set a r.1).set b r.2.1).set c r.2.2.1).set d r.2.2.2
theorem VW(l:List Int)(a b c d:Nat)(x y:Int):(nU l a b c d x y).length=l.length:=by simp[nU]
theorem Xug(b:Nat)(l:List Int)(t:TypeId)(qa qb qc qd:Nat)(x y:Int)(w:World)(hV:w.heap[b]?=some (.cells (row l) t (0,0)))(hz:l.length=16)
 (h1:qa<16) (h2:qb<16) (h3:qc<16) (h4:qd<16) (hab:qa≠qb) (hac:qa≠qc) (OD:qa≠qd) (hbc:qb≠qc) (tH:qb≠qd) (hcd:qc≠qd):
 Calls Tryz.prog 210 #[.pointer (some ⟨b,0,none⟩),.agg #[.int .i64 qa,.int .i64 qb,.int .i64 qc,.int .i64 qd],.int .u32 x,.int .u32 y] w fun e w'=>e= .returned (.tuple #[])∧w.grownBy w' (some b)∧w'.heap[b]?=some (.cells (row (nU l qa qb qc qd x y)) t (0,0)):=by
 have ha:=oV (l:=l) (i:=qa) (by omega);have hb:=oV (l:=l) (i:=qb) (by omega);have hc:=oV (l:=l) (i:=qc) (by omega);have hd:=oV (l:=l) (i:=qd) (by omega);obtain⟨va,Km⟩:∃va,l.getD qa 0=va:=⟨_,rfl⟩;obtain⟨vb,Kn⟩:∃vb,l.getD qb 0=vb:=⟨_,rfl⟩;obtain⟨vc,Ko⟩:∃vc,l.getD qc 0=vc:=⟨_,rfl⟩;obtain⟨vd,Kq⟩:∃vd,l.getD qd 0=vd:=⟨_,rfl⟩;have Hm:=Qh (show nU l qa qb qc qd x y=(((l.set qa (sG va vb vc vd x y).1).set qb (sG va vb vc vd x y).2.1).set qc (sG va vb vc vd x y).2.2.1).set qd (sG va vb vc vd x y).2.2.2 by rw[nU,Km,Kn,Ko,Kq]);rw[Km]at ha;rw[Kn]at hb;rw[Ko]at hc;rw[Kq]at hd;clear Km Kn Ko Kq;generalize hVl:row l=V at hV ha hb hc hd;have HVl:=Qh hVl;clear hVl hz;have ca:=cell_of_row w b qa _ _ _ hV;have cb:=cell_of_row w b qb _ _ _ hV;have cc:=cell_of_row w b qc _ _ _ hV;have cd:=cell_of_row w b qd _ _ _ hV;rw[ha]at ca;rw[hb]at cb;rw[hc]at cc;rw[hd]at cd;have ca':=cell_regrown (fP (.cells #[.int .i64 qa,.int .i64 qb,.int .i64 qc,.int .i64 qd] 253) ca);have cb':=cell_regrown (fP (.cells #[.int .i64 qa,.int .i64 qb,.int .i64 qc,.int .i64 qd] 253) cb);have cc':=cell_regrown (fP (.cells #[.int .i64 qa,.int .i64 qb,.int .i64 qc,.int .i64 qd] 253) cc);have cd':=cell_regrown (fP (.cells #[.int .i64 qa,.int .i64 qb,.int .i64 qc,.int .i64 qd] 253) cd);have VY:=cell_regrown (show(w.alloc (.cells #[.int .i64 qa,.int .i64 qb,.int .i64 qc,.int .i64 qd] 253)).cell? ⟨w.heap.size,0,none⟩=some (.int .i64 qa) by simp);have VZ:=cell_regrown (show(w.alloc (.cells #[.int .i64 qa,.int .i64 qb,.int .i64 qc,.int .i64 qd] 253)).cell? ⟨w.heap.size,1,none⟩=some (.int .i64 qb) by simp);have V3:=cell_regrown (show(w.alloc (.cells #[.int .i64 qa,.int .i64 qb,.int .i64 qc,.int .i64 qd] 253)).cell? ⟨w.heap.size,2,none⟩=some (.int .i64 qc) by simp);have V4:=cell_regrown (show(w.alloc (.cells #[.int .i64 qa,.int .i64 qb,.int .i64 qc,.int .i64 qd] 253)).cell? ⟨w.heap.size,3,none⟩=some (.int .i64 qd) by simp);go_enter Tryz.func210,Tryz.ntmps210
 go_wp2_with fail
 refine wp_region_quiet_below (by kernel_rfl) (by kernel_rfl) ?_;repeat(go_big_quiet_step ((fail)))
 refine wpQuiet_nil ?_;intro w2 bg;have aF:Below (w.alloc (.cells #[.int .i64 qa,.int .i64 qb,.int .i64 qc,.int .i64 qd] 253)).heap.size (w.alloc (.cells #[.int .i64 qa,.int .i64 qb,.int .i64 qc,.int .i64 qd] 253)) w2:=by
  obtain⟨pq,rfl⟩:=bg;exact below_regrown _ _ _
 clear bg;obtain⟨i0,i1,i2,i3⟩:w2.cell? ⟨w.heap.size,0,none⟩=some (.int .i64 qa)∧w2.cell? ⟨w.heap.size,1,none⟩=some (.int .i64 qb)∧w2.cell? ⟨w.heap.size,2,none⟩=some (.int .i64 qc)∧w2.cell? ⟨w.heap.size,3,none⟩=some (.int .i64 qd):=
  ⟨by rw[aF.cell (by simp)];simp,by rw[aF.cell (by simp)];simp,by rw[aF.cell (by simp)];simp,by rw[aF.cell (by simp)];simp⟩
 clear ca' cb' cc' cd' VY VZ V3 V4;have dH:b<w.heap.size:=by simpa using block_lt_of_cell ca
 have Vf:b≠w.heap.size:=by omega
 have CS:w2.heap[b]?=some (.cells V t (0,0)):=(aF.block b (by have:=block_lt_of_cell ca;simp;simp at this;omega)).trans ((Below.heap_alloc w _ b (by have:=block_lt_of_cell ca;simpa using this)).trans hV);have Hg:=Qh (show w.grownBy w2 (some b)from Xol (((Qb _ w).alloc (Qn _) _).trans (aF.mono (by simp))) (Qn _));clear aF;go_wp2_with fail
 refine(TA _ 16 65536 65536 (.inl ⟨rfl,rfl,rfl⟩) _).mono ?_;rintro e w' ⟨rfl,rfl⟩;generalize Gr:mE 65536 65536 (bits .xor .u32 vd ((va+(vb+x))%4294967296))=D1;have HD1:=Qh Gr;clear Gr;go_wp2_with fail
 refine(TA _ 12 4096 1048576 (.inr (.inl ⟨rfl,rfl,rfl⟩)) _).mono ?_;rintro e w' ⟨rfl,rfl⟩;generalize Sq:mE 4096 1048576 (bits .xor .u32 vb ((vc+D1)%4294967296))=B1;have iq:=Qh Sq;clear Sq;go_wp2_with fail
 refine(TA _ 8 256 16777216 (.inr (.inr (.inl ⟨rfl,rfl,rfl⟩))) _).mono ?_;rintro e w' ⟨rfl,rfl⟩;generalize hA2:(va+(vb+x)+(B1+y))%4294967296=A2;have HA2:=Qh hA2;clear hA2;generalize OE:mE 256 16777216 (bits .xor .u32 D1 A2)=D2;have HD2:=Qh OE;clear OE;go_wp2_with fail
 refine(TA _ 7 128 33554432 (.inr (.inr (.inr ⟨rfl,rfl,rfl⟩))) _).mono ?_;rintro e w' ⟨rfl,rfl⟩;generalize IV:(vc+D1+D2)%4294967296=C2;have HC2:=Qh IV;clear IV;generalize IW:mE 128 33554432 (bits .xor .u32 B1 C2)=B2;have oh:=Qh IW;clear IW;go_wp2_with fail
 clear ca cb cc cd;have ca:=cell_of_row _ b qa _ _ _ CS;have cb:=cell_of_row _ b qb _ _ _ CS;have cc:=cell_of_row _ b qc _ _ _ CS;have cd:=cell_of_row _ b qd _ _ _ CS;rw[ha]at ca;rw[hb]at cb;rw[hc]at cc;rw[hd]at cd;have fa:=frozen_of_row _ b qa _ _ CS;have fb:=frozen_of_row _ b qb _ _ CS;have fc:=frozen_of_row _ b qc _ _ CS;have fd:=frozen_of_row _ b qd _ _ CS;have HV2:=Qh CS;have HV:=Qh hV;clear CS hV ha hb hc hd;rw[HA2.O,HC2.O];go_big_region
 go_end0
 have hm:sG va vb vc vd x y=(A2,B2,C2,D2):=by
  have e1:(va+(vb+x)+(B1+y))%4294967296=((va+(vb+x))%4294967296+(B1+y))%4294967296:=by omega
  have e2:(vc+D1+D2)%4294967296=((vc+D1)%4294967296+D2)%4294967296:=by omega
  unfold sG;simp only[HD1.O,iq.O,←e1,HA2.O,HD2.O,←e2,HC2.O,oh.O]
 rw[Hm.O,hm];have CS:=HV2.O;rw[←HVl.O]at CS;refine⟨rfl,TC Hg.O ?_,heap_setCell _ (heap_setCell _ (heap_setCell _ (heap_setCell _ CS)))⟩;exact Xq9 (TC (TC (TC (TB _ ⟨b,qa,none⟩ _) (TB _ ⟨b,qb,none⟩ _)) (TB _ ⟨b,qc,none⟩ _)) (TB _ ⟨b,qd,none⟩ _))
def tQ:List Int:=[81985529216486895,16881918945140062035,13312731748010193300,8733003861693448440,10400822202260547645,3200383143768358425,14204332651957162635,15816291393287259690,8064173457993569445,11710614767857974480]
def DR:List (Nat×Nat×Nat×Nat):=[(0,4,8,12),(1,5,9,13),(2,6,10,14),(3,7,11,15),(0,5,10,15),(1,6,11,12),(2,7,8,13),(3,4,9,14)]
def DT:List (List Nat):=[[0,1,2,3,4,5,6,7,8,9,10,11,12,13,14,15],[14,10,4,8,9,15,13,6,1,12,0,2,11,7,5,3],[11,8,12,0,5,2,15,13,10,14,3,6,7,1,9,4],[7,9,3,1,13,12,11,14,2,6,5,10,4,0,15,8],[9,0,5,7,2,4,10,15,14,1,11,12,6,8,3,13],[2,12,6,10,0,11,8,3,4,13,7,5,15,14,1,9],[12,5,1,15,14,13,4,10,0,7,6,3,9,2,8,11],[13,11,7,14,12,1,3,9,5,0,15,4,8,6,2,10],[6,15,14,9,11,3,0,8,12,2,13,7,1,4,10,5],[10,2,8,4,7,6,1,5,15,11,9,14,3,12,13,0]]
def iE(k:Nat):Nat×Nat×Nat×Nat:=DR.getD k (0,0,0,0)
def iT(r i:Nat):Nat:=(DT.getD r []).getD i 0
def wO(r:Nat):Int:=tQ.getD r 0
def pz(m:List Int)(r k:Nat)(v:List Int):List Int:=nU v (iE k).1 (iE k).2.1 (iE k).2.2.1 (iE k).2.2.2 (m.getD (iT r (2*k)) 0) (m.getD (iT r (2*k+1)) 0)
def eu(m:List Int)(r:Nat):Nat→List Int→List Int
 |0,v=>v
 |k+1,v=>pz m r k (eu m r k v)
def eG(m:List Int):Nat→List Int→List Int
 |0,v=>v
 |r+1,v=>eu m r 8 (eG m r v)
theorem Xll(m:List Int)(r k:Nat)(v:List Int):(pz m r k v).length=v.length:=VW ..
theorem Nv(m:List Int)(r:Nat):∀(k:Nat) (v:List Int),(eu m r k v).length=v.length
 |0,_=>rfl
 |k+1,v=>by rw[eu,Xll,Nv m r k v]
theorem Gx(m:List Int):∀(r:Nat) (v:List Int),(eG m r v).length=v.length
 |0,_=>rfl
 |r+1,v=>by rw[eG,Nv,Gx m r v]
theorem TD(k:Nat)(hk:k<8):(iE k).1<16∧(iE k).2.1<16∧(iE k).2.2.1<16∧(iE k).2.2.2<16∧(iE k).1≠(iE k).2.1∧(iE k).1≠(iE k).2.2.1∧(iE k).1≠(iE k).2.2.2∧(iE k).2.1≠(iE k).2.2.1∧(iE k).2.1≠(iE k).2.2.2∧(iE k).2.2.1≠(iE k).2.2.2:=by
 revert k;decide
theorem Jk(r i:Nat)(hr:r<10)(hi:i<16):iT r i<16:=by
 revert i;revert r;decide
theorem Xl8(r k:Nat)(hr:r<10)(hk:k<8):bits .and .u64 (wO r / 2^(60-8*k)) 15=(iT r (2*k):Nat)∧bits .and .u64 (wO r / 2^(56-8*k)) 15=(iT r (2*k+1):Nat):=by
 revert k;revert r;decide
def qj:Array Value:=(tQ.map fun x=>Value.int .u64 x).toArray
def Bb(q:Nat×Nat×Nat×Nat):Value:= .agg #[.int .i64 q.1,.int .i64 q.2.1,.int .i64 q.2.2.1,.int .i64 q.2.2.2]
def oM:Array Value:=#[.int .i64 0,.int .i64 4,.int .i64 8,.int .i64 12,.int .i64 1,.int .i64 5,.int .i64 9,.int .i64 13,.int .i64 2,.int .i64 6,.int .i64 10,.int .i64 14,.int .i64 3,.int .i64 7,.int .i64 11,.int .i64 15,.int .i64 0,.int .i64 5,.int .i64 10,.int .i64 15,.int .i64 1,.int .i64 6,.int .i64 11,.int .i64 12,.int .i64 2,.int .i64 7,.int .i64 8,.int .i64 13,.int .i64 3,.int .i64 4,.int .i64 9,.int .i64 14]
def yn:Array Value:=#[.int .i64 0,.int .i64 0,.int .i64 0,.int .i64 0,.int .i64 0,.int .i64 0,.int .i64 0,.int .i64 0,.int .i64 0,.int .i64 0,.int .i64 0,.int .i64 0,.int .i64 0,.int .i64 0,.int .i64 0,.int .i64 0,.int .i64 0,.int .i64 0,.int .i64 0,.int .i64 0,.int .i64 0,.int .i64 0,.int .i64 0,.int .i64 0,.int .i64 0,.int .i64 0,.int .i64 0,.int .i64 0,.int .i64 0,.int .i64 0,.int .i64 0,.int .i64 0]
theorem Xjv(k:Nat)(hk:k<8):Value.agg (oM.extract (k*4) (k*4+4))=Bb (iE k):=by
 match k,hk with
 |0,_=>rfl
 |1,_=>rfl
 |2,_=>rfl
 |3,_=>rfl
 |4,_=>rfl
 |5,_=>rfl
 |6,_=>rfl
 |7,_=>rfl
theorem Xjx(r:Nat)(hr:r<10):qj[r]?=some (.int .u64 (wO r)):=by
 have h:r<tQ.length:=hr;simp[qj,wO,List.getD,List.getElem?_eq_getElem h]
theorem V5{t e:TypeId}{d:TypeDesc}(h:P.underlying t=some (.array n e))(he:P.underlying e=some d)(hd:(match d with| .struct _| .array _ _=>true|_=>false)=false)(hz:(P.info? e).map (·.size)=some 1)
 (i:Nat) (hi:i<n) (hv:cs[i]?=some v) (W:World):(Instr.index t (.agg cs) (.int .i64 (i:Int))).run P W= .ok v W:=by
 cases hq:P.info? e with
 |none=>simp[hq]at hz
 |some x=>
  have hs:x.size=1:=by simpa[hq]using hz
  have Mk:(isAgg e).run P W= .ok false W:=by
   unfold isAgg;rw[Sem.run_bind,run_underlying he W];cases d<;>simp_all
  simp[Instr.index,run_underlying h,asIntOf,hi,go_sem,sizeOf,typeInfo,hq,hs,Mk,hv]
theorem Xfl{t e:TypeId}{m:Nat}{d:TypeDesc}(h:P.underlying t=some (.array n e))(he:P.underlying e=some d)(hd:(match d with| .struct _| .array _ _=>true|_=>false)=true)(hz:(P.info? e).map (·.size)=some m)
 (i:Nat) (hi:i<n) (W:World):(Instr.index t (.agg cs) (.int .i64 (i:Int))).run P W= .ok (.agg (cs.extract (i*m) (i*m+m))) W:=by
 cases hq:P.info? e with
 |none=>simp[hq]at hz
 |some x=>
  have hs:x.size=m:=by simpa[hq]using hz
  have Mk:(isAgg e).run P W= .ok true W:=by
   unfold isAgg;rw[Sem.run_bind,run_underlying he W];cases d<;>simp_all
  simp[Instr.index,run_underlying h,asIntOf,hi,go_sem,sizeOf,typeInfo,hq,hs,Mk]
theorem Xd5(w:World):Calls Tryz.prog 208 #[] w fun e w'=>e= .returned (.agg qj)∧Below w.heap.size w w':=by
 go_enter Tryz.func208,Tryz.ntmps208
 go_wp2;refine bodyPost_ret (results_cell_row rfl _ _ w.heap.size _ qj (0,0) _ rfl (heap_alloc_new w (.cells qj 251)) Tryz.underlying251 rfl (by kernel_rfl)) rfl ⟨rfl,?_⟩;exact(Qb _ _).alloc (Qn _) _
theorem Xnf(w:World):Calls Tryz.prog 209 #[] w fun e w'=>e= .returned (.agg oM)∧Below w.heap.size w w':=by
 have hz:=heap_alloc_new w (.cells yn 254);go_enter Tryz.func209,Tryz.ntmps209
 go_wp2_with (refine wpList_store_row rfl 254 _ _ rfl w.heap.size oM rfl rfl 254 yn hz (by kernel_rfl) rfl (by kernel_rfl) ?_)
 refine bodyPost_ret (results_cell_row rfl _ _ w.heap.size _ oM (0,0) _ rfl (setRow_heap _ _ _ _ _ _ hz) Tryz.underlying254 rfl (by kernel_rfl)) rfl ⟨rfl,?_⟩;exact below_setRow ((Qb _ _).alloc (Qn _) _) (Qn _) _
theorem FP(w:World)(dT sT ty elem:TypeId)(size g o dLen dCap:Nat)(a:Addr)(sLen sCap:Nat)(cur:Array Value)(t:TypeId)(cs:List Value)
 (hu:P.underlying dT=some (.slice elem)) (hs:(P.info? elem).map (·.size)=some size)
 (hg:w.heap[g]?=some (.cells cur t (0,0))) (hn:cs.length=Nat.min sLen dLen*size)
 (aab:∀j v,cs[j]?=some v→w.cell? (a.add j)=some v) (nJ:o+cs.length≤cur.size) (h1:∀v∈cs,v.oneCell'=true):
 (Builtin.copy_ #[dT,sT] ty #[.slice (some ⟨g,o,none⟩) dLen dCap,.slice (some a) sLen sCap]).run P w=
   .ok (goInt (Nat.min sLen dLen)) (w.setRow g (cur.toList.take o++cs++cur.toList.drop (o+cs.length)).toArray):=by
 have gB:=run_storeCells_at P g o t cs 0 cur w hg (by simpa using nJ) h1;cases hq:P.info? elem with
 |none=>simp[hq]at hs
 |some i=>
  have hi:i.size=size:=by simpa[hq]using hs
  have hf:=run_firstCells_some (P:=P) w i.size (Nat.min sLen dLen) a sLen sCap cs (by rw[hi];exact hn) aab;simp only[Nat.min_def]at hf ⊢;simp[Builtin.copy_,run_underlying hu,Builtin.lenOf,sizeOf,typeInfo,hq,Nat.min_def,hf,gB]
def over(cur:Array Value)(o:Nat)(cs:List Value):Array Value:=(cur.toList.take o++cs++cur.toList.drop (o+cs.length)).toArray
theorem Db(cur:Array Value)(o:Nat)(cs:List Value)(h:o+cs.length≤cur.size):(over cur o cs).size=cur.size:=by
 simp[over];omega
theorem V6(cur:Array Value)(o:Nat)(cs:List Value)(h:o≤cur.size):(over cur o cs).toList.take (o+cs.length)=cur.toList.take o++cs:=by
 simp only[over];rw[List.take_append_of_le_length (by simp;omega)];rw[List.take_of_length_le (by simp;omega)]
theorem insert_row(cur:Array Value)(xs news:List Value)(p k:Nat)(hp:p≤xs.length)(hx:cur.toList.take xs.length=xs)(hk:news.length=k)(eU:xs.length+k≤cur.size):
 (over (over cur (p+k) (xs.drop p)) p news).toList.take (xs.length+k)=xs.take p++news++xs.drop p:=by
 have gI:cur.toList.length=cur.size:=by simp
 have h1:(over cur (p+k) (xs.drop p)).toList=cur.toList.take (p+k)++xs.drop p++cur.toList.drop (p+k+(xs.drop p).length):=rfl;have h2:∀c:Array Value,(over c p news).toList=c.toList.take p++news++c.toList.drop (p+k):=fun c=>by simp[over,hk]
 rw[h2,h1];have e1:(cur.toList.take (p+k)++xs.drop p++cur.toList.drop (p+k+(xs.drop p).length)).take p=xs.take p:=by
  rw[List.append_assoc,List.take_append_of_le_length (by simp;omega),List.take_take,Nat.min_eq_left (by omega)];conv=>rhs;rw[←hx]
  rw[List.take_take,Nat.min_eq_left hp]
 have e2:(cur.toList.take (p+k)++xs.drop p++cur.toList.drop (p+k+(xs.drop p).length)).drop (p+k)=xs.drop p++cur.toList.drop (p+k+(xs.drop p).length):=by
  rw[List.append_assoc,List.drop_append_of_le_length (by simp;omega)];rw[List.drop_eq_nil_of_le (by simp;omega),List.nil_append]
 rw[e1,e2,←List.append_assoc,List.take_append_of_le_length (by simp;omega),List.take_of_length_le (by simp;omega)]
theorem Xir(cur:Array Value)(xs news:List Value)(p k:Nat)(hp:p≤xs.length)(hx:cur.toList.take p=xs.take p)(hk:news.length=k)(eU:xs.length+k≤cur.size):
 (over (over cur p news) (p+k) (xs.drop p)).toList.take (xs.length+k)=xs.take p++news++xs.drop p:=by
 have h1:=V6 cur p news (by omega);rw[hk,hx]at h1;have h2:=V6 (over cur p news) (p+k) (xs.drop p) (by rw[Db _ _ _ (by omega)];omega);rw[h1,List.length_drop,show p+k+(xs.length-p)=xs.length+k by omega]at h2;exact h2
theorem BP{cur:Array Value}:w.grownBy (w.setRow g cur) (some g):=
 ⟨rfl,rfl,rfl,by simp,fun k _ hk=>setRow_other w g k _ (fun e=>hk (by rw[e]))⟩
theorem Nw{a b c:World}{row:Option Nat}(h:a.grownBy b row)(k:b.grownBy c row):a.grownBy c row:=
 ⟨k.os.trans h.os,k.tape.trans h.tape,k.output.trans h.output,Nat.le_trans h.size k.size,fun j hj bZ=>(k.block j (Nat.lt_of_lt_of_le hj h.size) bZ).trans (h.block j hj bZ)⟩
theorem Kr:∀{l:List α},l.length=8→ ∃a b c d e f g h,l=[a,b,c,d,e,f,g,h]
 | [a,b,c,d,e,f,g,h],_=>⟨a,b,c,d,e,f,g,h,rfl⟩
def lC(s:ae)(i:Nat):Int:=((s[i]?.getD 0).toNat:Int)%4294967296
def q8(s:ae)(k:Nat):Int:=bits .or .u32 (bits .or .u32 (bits .or .u32 (lC s (4*k)) (lC s (4*k+1)*256%4294967296)) (lC s (4*k+2)*65536%4294967296)) (lC s (4*k+3)*16777216%4294967296)
def l8(s:ae)(k:Nat):List Int:=(List.range 16).map fun j=>if j<k then q8 s j else 0
def words(s:ae):List Int:=(List.range 16).map (q8 s)
theorem Xjf(s:ae)(k:Nat):(l8 s k).length=16:=by simp[l8]
theorem Xlg(s:ae)(k:Nat)(_hk:k<16):(l8 s k).set k (q8 s k)=l8 s (k+1):=by
 apply List.ext_getElem
 ·simp[l8]
 ·intro j h1 h2;simp only[l8,List.getElem_set,List.getElem_map,List.getElem_range];by_cases h:k=j
  ·subst h;simp
  ·rw[if_neg h];by_cases hj:j<k
   ·rw[if_pos hj,if_pos (by omega)]
   ·rw[if_neg hj,if_neg (by omega)]
theorem Xnp(s:ae):l8 s 16=words s:=by
 apply List.map_congr_left;intro j hj;rw[if_pos (List.mem_range.1 hj)]
structure Cm (w:World) (hs m v:List Int) (wr:World):Prop where
 below:Below w.heap.size w wr
 size:w.heap.size+1+1+1<wr.heap.size
 b0:wr.heap[w.heap.size]?=some (.cells (row hs) 192 (0,0))
 b1:wr.heap[w.heap.size+1]?=some (.cells (row (List.replicate 8 0)) 192 (0,0))
 b2:wr.heap[w.heap.size+1+1]?=some (.cells (row m) 249 (0,0))
 b3:wr.heap[w.heap.size+1+1+1]?=some (.cells (row v) 249 (0,0))
section
variable {w wr w':World} {hs m v:List Int}
theorem Ny{X:World}(hk:X.heap.size=k)(o:Obj):(X.alloc o).heap[k]?=some o:=by subst hk;exact heap_alloc_new _ _
theorem Cm.start(w:World)(hs:List Int):Cm w hs (List.replicate 16 0) (List.replicate 16 0) ((((w.alloc (.cells (row hs) 192)).alloc (.cells (row (List.replicate 8 0)) 192)).alloc (.cells (row (List.replicate 16 0)) 249)).alloc (.cells (row (List.replicate 16 0)) 249)):=by
 refine⟨((((Qb _ _).alloc (Qn _) _).alloc (by simp) _).alloc (by simp;omega) _).alloc (by simp;omega) _,by simp,?_,?_,?_,?_⟩
 ·exact(Below.heap_alloc _ _ _ (by simp;omega)).trans ((Below.heap_alloc _ _ _ (by simp;omega)).trans ((Below.heap_alloc _ _ _ (by simp)).trans (heap_alloc_new _ _)))
 ·exact(Below.heap_alloc _ _ _ (by simp)).trans ((Below.heap_alloc _ _ _ (by simp)).trans (Ny (by simp) _))
 ·exact(Below.heap_alloc _ _ _ (by simp)).trans (Ny (by simp) _)
 ·exact Ny (by simp) _
theorem Cm.pass(h:Cm w hs m v wr)(hb:Below wr.heap.size wr w'):Cm w hs m v w':=by
 have:=h.size;exact⟨h.below.trans (hb.mono h.below.size),by have:=hb.size;omega,(hb.block _ (by omega)).trans h.b0,(hb.block _ (by omega)).trans h.b1,(hb.block _ (by omega)).trans h.b2,(hb.block _ (by omega)).trans h.b3⟩
theorem Cm.drew(h:Cm w hs m v wr):Cm w hs m v wr.drew:=h.pass (Qb _ _).drew
theorem Cm.alloc(h:Cm w hs m v wr)(o:Obj):Cm w hs m v (wr.alloc o):=h.pass ((Qb _ _).alloc (Qn _) o)
theorem Cm.set0(h:Cm w hs m v wr)(i:Nat)(x:Int):Cm w (hs.set i x) m v (wr.setCell ⟨w.heap.size,i,none⟩ (.int .u32 x)):=by
 have o:∀k,k≠w.heap.size→(wr.setCell ⟨w.heap.size,i,none⟩ (.int .u32 x)).heap[k]?=wr.heap[k]? :=fun k hk=>Below.heap_setCell _ _ _ _ hk;exact⟨h.below.setCell (Qn _) _,by simpa[World.setCell]using h.size,heap_setCell _ h.b0,(o _ (by omega)).trans h.b1,(o _ (by omega)).trans h.b2,(o _ (by omega)).trans h.b3⟩
theorem Cm.set2(h:Cm w hs m v wr)(i:Nat)(x:Int):Cm w hs (m.set i x) v (wr.setCell ⟨w.heap.size+1+1,i,none⟩ (.int .u32 x)):=by
 have o:∀k,k≠w.heap.size+1+1→(wr.setCell ⟨w.heap.size+1+1,i,none⟩ (.int .u32 x)).heap[k]?=wr.heap[k]? :=fun k hk=>Below.heap_setCell _ _ _ _ hk;exact⟨h.below.setCell (by show w.heap.size≤w.heap.size+1+1;omega) _,by simpa[World.setCell]using h.size,(o _ (by omega)).trans h.b0,(o _ (by omega)).trans h.b1,heap_setCell _ h.b2,(o _ (by omega)).trans h.b3⟩
theorem Cm.DU(h:Cm w hs m v wr)(i:Nat)(x:Int):Cm w hs m (v.set i x) (wr.setCell ⟨w.heap.size+1+1+1,i,none⟩ (.int .u32 x)):=by
 have o:∀k,k≠w.heap.size+1+1+1→(wr.setCell ⟨w.heap.size+1+1+1,i,none⟩ (.int .u32 x)).heap[k]?=wr.heap[k]? :=fun k hk=>Below.heap_setCell _ _ _ _ hk;exact⟨h.below.setCell (by show w.heap.size≤w.heap.size+1+1+1;omega) _,by simpa[World.setCell]using h.size,(o _ (by omega)).trans h.b0,(o _ (by omega)).trans h.b1,(o _ (by omega)).trans h.b2,heap_setCell _ h.b3⟩
theorem Cm.DV(h:Cm w hs m v wr)(hg:wr.grownBy w' (some (w.heap.size+1+1+1)))(hv:w'.heap[w.heap.size+1+1+1]?=some (.cells (row v') 249 (0,0))):Cm w hs m v' w':=by
 have:=h.size;have o:∀k,k<w.heap.size+1+1+1→w'.heap[k]?=wr.heap[k]? :=fun k hk=>hg.block k (by omega) (fun e=>by injection e;omega);exact⟨h.below.grown hg (by omega) (fun k hk=>by injection hk;omega),by have:=hg.size;omega,(o _ (by omega)).trans h.b0,(o _ (by omega)).trans h.b1,(o _ (by omega)).trans h.b2,hv⟩
theorem Cm.oW(h:Cm w hs m v wr):Cm w hs m v' (wr.setRow (w.heap.size+1+1+1) (row v')):=by
 have o:∀k,k≠w.heap.size+1+1+1→(wr.setRow (w.heap.size+1+1+1) (row v')).heap[k]?=wr.heap[k]? :=fun k hk=>setRow_other _ _ _ _ hk;exact⟨below_setRow h.below (by omega) _,by simpa using h.size,(o _ (by omega)).trans h.b0,(o _ (by omega)).trans h.b1,(o _ (by omega)).trans h.b2,setRow_heap _ _ _ _ _ _ h.b3⟩
end
def fw:List Int:=[1779033703,3144134277,1013904242,2773480762,1359893119,2600822924,528734635,1541459225]
theorem Xja(w:World):Calls Tryz.prog 141 #[] w fun e w'=>e= .returned (.agg (row fw))∧Below w.heap.size w w':=by
 go_enter Tryz.func141,Tryz.ntmps141
 go_wp2;refine bodyPost_ret (results_cell_row rfl _ _ w.heap.size _ (row fw) (0,0) _ rfl (heap_alloc_new w (.cells (row fw) 192)) Tryz.underlying192 rfl (by kernel_rfl)) rfl ⟨rfl,?_⟩;exact(Qb _ _).alloc (Qn _) _
def ql(hs:List Int)(count:Int)(last:Bool):List Int:=
 let v:=((hs++fw).set 12 (bits .xor .u32 1359893119 (count%4294967296))).set 13 (bits .xor .u32 2600822924 (count / 4294967296%4294967296))
 if last then v.set 14 (bits .xor .u32 IntKind.u32.max 528734635)else v
def jl(hs v:List Int)(k:Nat):List Int:=(List.range 8).map fun j=>if j<k then bits .xor .u32 (hs.getD j 0) (bits .xor .u32 (v.getD j 0) (v.getD (j+8) 0))else hs.getD j 0
theorem Gy(hs v:List Int)(k:Nat):(jl hs v k).length=8:=by simp[jl]
theorem TE(hs v:List Int)(k:Nat)(hk:k<8):(jl hs v k).getD k 0=hs.getD k 0:=by
 simp[jl,List.getD,hk]
theorem TF(hs v:List Int)(k:Nat):(jl hs v k).set k (bits .xor .u32 (hs.getD k 0) (bits .xor .u32 (v.getD k 0) (v.getD (k+8) 0)))=jl hs v (k+1):=by
 apply List.ext_getElem
 ·simp[jl]
 ·intro j h1 h2;simp only[jl,List.getElem_set,List.getElem_map,List.getElem_range];by_cases h:k=j
  ·subst h;simp
  ·rw[if_neg h];by_cases hj:j<k
   ·rw[if_pos hj,if_pos (by omega)]
   ·rw[if_neg hj,if_neg (by omega)]
def dL(hs:List Int)(s:ae)(count:Int)(last:Bool):List Int:=jl hs (eG (words s) 10 (ql hs count last)) 8
theorem Nz(hs:List Int)(s:ae)(count:Int)(last:Bool):(dL hs s count last).length=8:=Gy ..
theorem TG(hs:List Int)(h:hs.length=8)(count:Int)(last:Bool):(ql hs count last).length=16:=by
 unfold ql;cases last<;>simp[h,fw]
theorem Xhd(hs:List Int)(hh:hs.length=8)(s:ae)(JW:s.length=64)(count:Int)(last:Bool)(w:World):
 Calls Tryz.prog 142 #[.agg (row hs),S s,.int .u64 count,.bool last] w fun e w'=>e= .returned (.tuple #[.agg (row (dL hs s count last)),.int .i64 0])∧Below w.heap.size w w':=by
 obtain⟨h0,h1,h2,h3,h4,h5,h6,h7,rfl⟩:=Kr hh;rw[show row [h0,h1,h2,h3,h4,h5,h6,h7]=#[.int .u32 h0,.int .u32 h1,.int .u32 h2,.int .u32 h3,.int .u32 h4,.int .u32 h5,.int .u32 h6,.int .u32 h7]from rfl];have eU:(s.length:Int)=64:=by omega
 clear hh;have bB:=Qh (Cm.start w [h0,h1,h2,h3,h4,h5,h6,h7]);go_enter Tryz.func142,Tryz.ntmps142
 go_wp2_with fail
 go_loopw [25] (fun s25 wr=> ∃(k:Nat),k≤16∧s25= .int .i64 k∧Cm w [h0,h1,h2,h3,h4,h5,h6,h7] (l8 s k) (List.replicate 16 0) wr) (fun i _=>16-(intOf i).toNat)
 case atStart=>exact⟨0,Nat.zero_le _,rfl,bB.O⟩
 case round=>
  clear bB;obtain⟨k,hk,rfl,hm⟩:=hrel;by_cases hlt:k<16
  ·have lQ:=cell_of_row wr _ k _ _ _ hm.b2;rw[oV (by rw[Xjf];omega)]at lQ;have eY:=frozen_of_row wr _ k _ _ hm.b2;have Hm:=Qh hm;clear hm;have hx0:=gQ Tryz.underlying9 s (4*(k:Int)) (4*k) (by omega) (by omega);have gK:=gQ Tryz.underlying9 s (4*(k:Int)+1) (4*k+1) (by omega) (by omega);have fM:=gQ Tryz.underlying9 s (4*(k:Int)+2) (4*k+2) (by omega) (by omega);have rO:=gQ Tryz.underlying9 s (4*(k:Int)+3) (4*k+3) (by omega) (by omega);go_wp2_with fail
   go_big_region
   go_wp2;go_roundw;case rel=>exact⟨k+1,by omega,by go_num,by rw[←Xlg s k hlt];exact(Hm.O.set2 k (q8 s k)).drew⟩
   case measure=>simp[intOf];omega
  ·have nK:k=16:=by omega
   subst nK;rw[Xnp]at hm;go_wp2_with fail
   refine(Xja _).mono ?_;rintro e w1 ⟨rfl,au⟩;have Ml:=hm.pass au;rw[show row fw=#[.int .u32 1779033703,.int .u32 3144134277,.int .u32 1013904242,.int .u32 2773480762,.int .u32 1359893119,.int .u32 2600822924,.int .u32 528734635,.int .u32 1541459225]from rfl];have Jl:=Qh (Ml.alloc (.cells (row fw) 192));have wJ:=Ml.size;have FQ:=Qh (heap_alloc_new w1 (.cells (row fw) 192));clear Ml hm au;go_wp2_with fail
   have e0:(w1.alloc (.cells #[.int .u32 1779033703,.int .u32 3144134277,.int .u32 1013904242,.int .u32 2773480762,.int .u32 1359893119,.int .u32 2600822924,.int .u32 528734635,.int .u32 1541459225] 192))=w1.alloc (.cells (row fw) 192):=rfl;rw[e0];obtain⟨X,hX⟩:∃X,w1.alloc (.cells (row fw) 192)=X:=⟨_,rfl⟩;rw[hX];have Gz:Hid (Cm w [h0,h1,h2,h3,h4,h5,h6,h7] (words s) (List.replicate 16 0) X):=Qh (by rw[←hX];exact Jl.O);have HiX:Hid (X.heap[w1.heap.size]?=some (.cells (row fw) 192 (0,0))):=Qh (by rw[←hX];exact FQ.O);have hnX:w1.heap.size<X.heap.size:=by rw[←hX];simp
   clear hX e0 Jl FQ;have CU:∀ty,(Builtin.copy_ #[250,250] ty #[.slice (some ⟨w.heap.size+1+1+1,0,none⟩) 8 16,.slice (some ⟨w.heap.size,0,none⟩) 8 8]).run Tryz.prog X.drew= .ok (.int .i64 8) (X.drew.setRow (w.heap.size+1+1+1) (row ([h0,h1,h2,h3,h4,h5,h6,h7]++List.replicate 8 0))):=by
    intro ty;have iU:∀j v,([.int .u32 h0,.int .u32 h1,.int .u32 h2,.int .u32 h3,.int .u32 h4,.int .u32 h5,.int .u32 h6,.int .u32 h7]:List Value)[j]?=some v→X.drew.cell? ((⟨w.heap.size,0,none⟩:Addr).add j)=some v:=by
     intro j v hj;rw[Addr.add_lit,cell_of_row _ _ _ _ _ _ Gz.O.drew.b0,Nat.zero_add];simpa[row]using hj
    exact FP X.drew 250 250 ty 41 1 (w.heap.size+1+1+1) 0 8 16 ⟨w.heap.size,0,none⟩ 8 8 (row (List.replicate 16 0)) _ _ Tryz.underlying250 (by kernel_rfl) Gz.O.drew.b3 rfl iU (by simp) (by simp[Value.oneCell'])
   go_region_law (refine step_copy_runI rfl _ _ 250 250 rfl _ _ (by simp[Act.eval,Act.put]) (by simp[Act.eval,Act.put]) (CU _) ?_)
   go_wp2_with fail
   rw[show [h0,h1,h2,h3,h4,h5,h6,h7,0,0,0,0,0,0,0,0]=[h0,h1,h2,h3,h4,h5,h6,h7]++List.replicate 8 0 from rfl];obtain⟨Y,hY⟩:∃Y,X.drew.setRow (w.heap.size+1+1+1) (row ([h0,h1,h2,h3,h4,h5,h6,h7]++List.replicate 8 0))=Y:=⟨_,rfl⟩;rw[hY];have V7:Hid (Cm w [h0,h1,h2,h3,h4,h5,h6,h7] (words s) ([h0,h1,h2,h3,h4,h5,h6,h7]++List.replicate 8 0) Y):=Qh (by rw[←hY];exact Gz.O.drew.oW);have HiY:Hid (Y.heap[w1.heap.size]?=some (.cells (row fw) 192 (0,0))):=Qh (by rw[←hY,setRow_other _ _ _ _ (by omega)];exact HiX.O);clear hY CU Gz HiX hnX;have CU:∀ty,(Builtin.copy_ #[250,250] ty #[.slice (some ⟨w.heap.size+1+1+1,8,none⟩) 8 8,.slice (some ⟨w1.heap.size,0,none⟩) 8 8]).run Tryz.prog Y.drew= .ok (.int .i64 8) (Y.drew.setRow (w.heap.size+1+1+1) (row ([h0,h1,h2,h3,h4,h5,h6,h7]++fw))):=by
    intro ty;have iU:∀j v,((row fw).toList)[j]?=some v→Y.drew.cell? ((⟨w1.heap.size,0,none⟩:Addr).add j)=some v:=by
     intro j v hj;rw[Addr.add_lit,cell_of_row Y.drew w1.heap.size _ (row fw) _ _ HiY.O,Nat.zero_add];simpa using hj
    exact FP Y.drew 250 250 ty 41 1 (w.heap.size+1+1+1) 8 8 8 ⟨w1.heap.size,0,none⟩ 8 8 (row ([h0,h1,h2,h3,h4,h5,h6,h7]++List.replicate 8 0)) _ _ Tryz.underlying250 (by kernel_rfl) V7.O.drew.b3 rfl iU (by simp[fw]) (by simp[row,Value.oneCell'])
   go_region_law (refine step_copy_runI rfl _ _ 250 250 rfl _ _ (by simp[Act.eval,Act.put]) (by simp[Act.eval,Act.put]) (CU _) ?_)
   go_upto_region 12 with fail
   rw[show(h0::h1::h2::h3::h4::h5::h6::h7::fw)=[h0,h1,h2,h3,h4,h5,h6,h7]++fw from rfl];obtain⟨Z,hZ⟩:∃Z,Y.drew.setRow (w.heap.size+1+1+1) (row ([h0,h1,h2,h3,h4,h5,h6,h7]++fw))=Z:=⟨_,rfl⟩;rw[hZ];have Jm:Cm w [h0,h1,h2,h3,h4,h5,h6,h7] (words s) ([h0,h1,h2,h3,h4,h5,h6,h7]++fw) Z:=by rw[←hZ];exact V7.O.drew.oW
   clear hZ CU V7 HiY;have c12:Z.cell? ⟨w.heap.size+1+1+1,12,none⟩=some (.int .u32 1359893119):=(cell_of_row Z _ 12 _ _ _ Jm.b3).trans rfl;have c13:Z.cell? ⟨w.heap.size+1+1+1,13,none⟩=some (.int .u32 2600822924):=(cell_of_row Z _ 13 _ _ _ Jm.b3).trans rfl;have c14:Z.cell? ⟨w.heap.size+1+1+1,14,none⟩=some (.int .u32 528734635):=(cell_of_row Z _ 14 _ _ _ Jm.b3).trans rfl;have f12:=frozen_of_row Z _ 12 _ _ Jm.b3;have f13:=frozen_of_row Z _ 13 _ _ Jm.b3;have f14:=frozen_of_row Z _ 14 _ _ Jm.b3;have TH:=Qh Jm;clear Jm;cases last with
   |true=>
    go_wp2_with fail
    refine(Xd5 _).mono ?_;rintro e w3 ⟨rfl,cO⟩;have BQ:Cm w [h0,h1,h2,h3,h4,h5,h6,h7] (words s) (ql [h0,h1,h2,h3,h4,h5,h6,h7] count true) w3:=Cm.pass (((TH.O.DU 12 _).DU 13 _).DU 14 _) cO;have Kt:=Qh BQ;obtain⟨v0,tJ⟩:∃v0,ql [h0,h1,h2,h3,h4,h5,h6,h7] count true=v0:=⟨_,rfl⟩;have BR:=Qh tJ;rw[tJ]at BQ;clear tJ Kt;have Dv:v0.length=16:=by rw[←BR.O];exact TG _ rfl _ _
    clear c12 c13 c14 f12 f13 f14 TH cO;go_wp2_with fail
    go_loopw [86] (fun V8 wr=> ∃r:Nat,r≤10∧V8= .int .i64 r∧Cm w [h0,h1,h2,h3,h4,h5,h6,h7] (words s) (eG (words s) r v0) wr) (fun i _=>10-(intOf i).toNat)
    case atStart=>exact⟨0,Nat.zero_le _,rfl,BQ⟩
    case round=>
     clear BQ;obtain⟨r,hr,rfl,rP⟩:=hrel;by_cases kF:r<10
     ·have hpx:=V5 (P:=Tryz.prog) Tryz.underlying251 Tryz.underlying23 rfl (by kernel_rfl) r kF (Xjx r kF);obtain⟨vr,zP⟩:∃vr,eG (words s) r v0=vr:=⟨_,rfl⟩;have DW:=Qh zP;rw[zP]at rP;clear zP;have Mm:vr.length=16:=by rw[←DW.O,Gx,Dv]
      go_wp2_with fail
      refine(Xnf _).mono ?_;rintro e w4 ⟨rfl,aM⟩;have Ku:=rP.pass aM;clear rP aM;go_wp2_with fail
      go_loopw [90] (fun V9 wr=> ∃k:Nat,k≤8∧V9= .int .i64 k∧Cm w [h0,h1,h2,h3,h4,h5,h6,h7] (words s) (eu (words s) r k vr) wr) (fun i _=>8-(intOf i).toNat)
      case atStart=>exact⟨0,Nat.zero_le _,rfl,Ku⟩
      case round=>
       clear Ku;obtain⟨k,hk,rfl,iO⟩:=hrel;by_cases iX:k<8
       ·have Wd:∀W,(Instr.index 254 (.agg oM) (.int .i64 (k:Int))).run Tryz.prog W= .ok (.agg #[.int .i64 (iE k).1,.int .i64 (iE k).2.1,.int .i64 (iE k).2.2.1,.int .i64 (iE k).2.2.2]) W:=fun W=>by
         rw[Xfl (P:=Tryz.prog) (m:=4) Tryz.underlying254 Tryz.underlying253 rfl (by kernel_rfl) k iX,Xjv k iX];rfl
        have pJ:=Qh iO;clear iO;go_wp2_with fail
        obtain⟨qa,qb,qc,qd,hq⟩:∃qa qb qc qd,iE k=(qa,qb,qc,qd):=⟨_,_,_,_,rfl⟩;have pu:=TD k iX;have bB:=Qh (show pz (words s) r k (eu (words s) r k vr)=nU (eu (words s) r k vr) qa qb qc qd ((words s).getD (iT r (2*k)) 0) ((words s).getD (iT r (2*k+1)) 0) by rw[pz,hq]);rw[hq]at pu ⊢;have We:=Qh pu;clear hq pu hpx Wd;obtain⟨Fq,DX⟩:=Xl8 r k kF iX;have pG:=Jk r (2*k) kF (by omega);have pX:=Jk r (2*k+1) kF (by omega);generalize iT r (2*k)=sx at Fq pG bB;generalize iT r (2*k+1)=sy at DX pX bB;refine wp_region_quiet_below (by kernel_rfl) (by kernel_rfl) ?_;repeat(go_big_quiet_step ((fail)))
        refine wpQuiet_nil ?_;intro w5 bg;have bq:Below (wr.alloc (.cells #[.int .i64 qa,.int .i64 qb,.int .i64 qc,.int .i64 qd] 253)).heap.size (wr.alloc (.cells #[.int .i64 qa,.int .i64 qb,.int .i64 qc,.int .i64 qd] 253)) w5:=by
         obtain⟨pq,rfl⟩:=bg;exact below_regrown _ _ _
        clear bg;have Dc:=(pJ.O.alloc _).pass bq;have k0:w5.cell? ⟨wr.heap.size,0,none⟩=some (.int .i64 qa):=by rw[bq.cell (by simp)];simp
        have k1:w5.cell? ⟨wr.heap.size,1,none⟩=some (.int .i64 qb):=by rw[bq.cell (by simp)];simp
        have k2:w5.cell? ⟨wr.heap.size,2,none⟩=some (.int .i64 qc):=by rw[bq.cell (by simp)];simp
        have k3:w5.cell? ⟨wr.heap.size,3,none⟩=some (.int .i64 qd):=by rw[bq.cell (by simp)];simp
        have m0:w5.cell? ⟨w.heap.size+1+1,sx,none⟩=some (.int .u32 ((words s).getD sx 0)):=(cell_of_row w5 _ sx _ _ _ Dc.b2).trans (oV (by simpa[words]using pG));have m1:w5.cell? ⟨w.heap.size+1+1,sy,none⟩=some (.int .u32 ((words s).getD sy 0)):=(cell_of_row w5 _ sy _ _ _ Dc.b2).trans (oV (by simpa[words]using pX));generalize(words s).getD sx 0=mx at m0 bB;generalize(words s).getD sy 0=my at m1 bB;have BS:=Qh Dc;clear Dc bq Fq DX pJ;go_wp2_with fail
        have k0d:({heap:=w5.heap,tape:=w5.tape,drawn:=w5.drawn+1,os:=w5.os,output:=w5.output}:World).cell? ⟨wr.heap.size,0,none⟩=some (.int .i64 qa):=k0;have k1d:({heap:=w5.heap,tape:=w5.tape,drawn:=w5.drawn+1,os:=w5.os,output:=w5.output}:World).cell? ⟨wr.heap.size,1,none⟩=some (.int .i64 qb):=k1;have k2d:({heap:=w5.heap,tape:=w5.tape,drawn:=w5.drawn+1,os:=w5.os,output:=w5.output}:World).cell? ⟨wr.heap.size,2,none⟩=some (.int .i64 qc):=k2;have k3d:({heap:=w5.heap,tape:=w5.tape,drawn:=w5.drawn+1,os:=w5.os,output:=w5.output}:World).cell? ⟨wr.heap.size,3,none⟩=some (.int .i64 qd):=k3;have m0d:({heap:=w5.heap,tape:=w5.tape,drawn:=w5.drawn+1,os:=w5.os,output:=w5.output}:World).cell? ⟨w.heap.size+1+1,sx,none⟩=some (.int .u32 mx):=m0;have m1d:({heap:=w5.heap,tape:=w5.tape,drawn:=w5.drawn+1,os:=w5.os,output:=w5.output}:World).cell? ⟨w.heap.size+1+1,sy,none⟩=some (.int .u32 my):=m1;have Dw:(sx:Int)<16:=by omega
        have uY:(sy:Int)<16:=by omega
        have zf:(0:Int)≤sx:=by omega
        have Mo:(0:Int)≤sy:=by omega
        go_still_tail 7,(by kernel_rfl)
        change wpList _ _ _ _ _ w5.drew;have zQ:Hid (Cm w [h0,h1,h2,h3,h4,h5,h6,h7] (words s) (eu (words s) r k vr) w5.drew):=Qh BS.O.drew;generalize w5.drew=w6 at zQ;go_wp2_with fail
        have tK:=We.O;refine(Xug (w.heap.size+1+1+1) (eu (words s) r k vr) 249 qa qb qc qd mx my w6 zQ.O.b3 (by rw[Nv,Mm]) tK.1 tK.2.1 tK.2.2.1 tK.2.2.2.1 tK.2.2.2.2.1 tK.2.2.2.2.2.1 tK.2.2.2.2.2.2.1 tK.2.2.2.2.2.2.2.1 tK.2.2.2.2.2.2.2.2.1 tK.2.2.2.2.2.2.2.2.2).mono ?_;rintro e w7 ⟨rfl,j5,hv7⟩;have Wh:=zQ.O.DV j5 hv7;go_wp2;go_roundw;case rel=>exact⟨k+1,by omega,by go_num,by rw[eu,bB.O];exact Wh⟩
        case measure=>simp[intOf];omega
       ·have nK:k=8:=by omega
        subst nK;go_wp2_with fail
        go_roundw;case rel=>exact⟨r+1,by omega,by go_num,by rw[eG,DW.O];exact iO⟩
        case measure=>simp[intOf];omega
     ·have IX:r=10:=by omega
      obtain⟨v,hv⟩:∃v,eG (words s) r v0=v:=⟨_,rfl⟩;have Hv:=Qh hv;have IY:v.length=16:=by rw[←hv,Gx,Dv]
      rw[hv]at rP;clear hv;go_wp2_with fail
      go_loopw [116] (fun Kv wr=> ∃k:Nat,k≤8∧Kv= .int .i64 k∧Cm w (jl [h0,h1,h2,h3,h4,h5,h6,h7] v k) (words s) v wr) (fun i _=>8-(intOf i).toNat)
      case atStart=>exact⟨0,Nat.zero_le _,rfl,rP⟩
      case round=>
       clear rP;obtain⟨k,hk,rfl,iO⟩:=hrel;by_cases iX:k<8
       ·have ol:=Gy [h0,h1,h2,h3,h4,h5,h6,h7] v k;have a0:=(cell_of_row wr _ k _ _ _ iO.b0).trans (oV (by rw[ol];exact iX));have a1:=(cell_of_row wr _ k _ _ _ iO.b3).trans (oV (l:=v) (by omega));have a2:=(cell_of_row wr _ (k+8) _ _ _ iO.b3).trans (oV (l:=v) (by omega));have a3:=frozen_of_row wr _ k _ _ iO.b0;rw[TE _ _ _ iX]at a0;have uQ:=TF [h0,h1,h2,h3,h4,h5,h6,h7] v k;generalize List.getD [h0,h1,h2,h3,h4,h5,h6,h7] k 0=x0 at a0 uQ;generalize v.getD k 0=x1 at a1 uQ;generalize v.getD (k+8) 0=x2 at a2 uQ;have FR:=Qh uQ;have pJ:=Qh iO;clear iO ol uQ;go_wp2_with fail
        go_big_region
        go_wp2;go_roundw;case rel=>exact⟨k+1,by omega,by go_num,by rw[←FR.O];exact(pJ.O.set0 k _).drew⟩
        case measure=>simp[intOf];omega
       ·have ol:=Gy [h0,h1,h2,h3,h4,h5,h6,h7] v k;have je:jl [h0,h1,h2,h3,h4,h5,h6,h7] v k=dL [h0,h1,h2,h3,h4,h5,h6,h7] s count true:=by
         rw[dL,BR.O,←IX,Hv.O,show k=8 by omega]
        generalize jl [h0,h1,h2,h3,h4,h5,h6,h7] v k=F at iO ol je;have om:=Qh je;have vv:(Tryz.prog.info? 192).map (·.size)=some (row F).size:=by rw[bD,ol];kernel_rfl
        have GA:(row (List.replicate 8 0)).size=(row F).size:=by rw[bD,bD,ol];rfl
        have GC:(row F).all (·.oneCell')=true:=by simp[row,Value.oneCell']
        have b0:=iO.b0;have b1:=iO.b1;have pJ:=Qh iO;clear iO je
        go_wp2_with (first
         |(refine wpList_load_row rfl 192 _ rfl w.heap.size rfl 192 (row F) (0,0) _ b0 Tryz.underlying192 rfl vv ?_)
         |(refine wpList_store_row rfl 192 _ _ rfl (w.heap.size+1) (row F) rfl rfl 192 (row (List.replicate 8 0)) b1 vv GA GC ?_))
        try simp only[Exit.inBlock,Exit.then]
        refine bodyPost_ret (v:= .tuple #[.agg (row F),.int .i64 0]) ?_ rfl ⟨?_,?_⟩
        ·rw[results_cell_tmp rfl];simp[asAddr,run_loadVar_row _ (w.heap.size+1) 192 192 (row F) (0,0) _ (setRow_heap _ _ _ _ _ _ b1) Tryz.underlying192 rfl vv]
        ·rw[om.O]
        ·exact below_setRow pJ.O.below (by omega) _
   |false=>
    go_wp2_with fail
    refine(Xd5 _).mono ?_;rintro e w3 ⟨rfl,cO⟩;have BQ:Cm w [h0,h1,h2,h3,h4,h5,h6,h7] (words s) (ql [h0,h1,h2,h3,h4,h5,h6,h7] count false) w3:=Cm.pass ((TH.O.DU 12 _).DU 13 _) cO;have Kt:=Qh BQ;obtain⟨v0,tJ⟩:∃v0,ql [h0,h1,h2,h3,h4,h5,h6,h7] count false=v0:=⟨_,rfl⟩;have BR:=Qh tJ;rw[tJ]at BQ;clear tJ Kt;have Dv:v0.length=16:=by rw[←BR.O];exact TG _ rfl _ _
    clear c12 c13 c14 f12 f13 f14 TH cO;go_wp2_with fail
    go_loopw [86] (fun V8 wr=> ∃r:Nat,r≤10∧V8= .int .i64 r∧Cm w [h0,h1,h2,h3,h4,h5,h6,h7] (words s) (eG (words s) r v0) wr) (fun i _=>10-(intOf i).toNat)
    case atStart=>exact⟨0,Nat.zero_le _,rfl,BQ⟩
    case round=>
     clear BQ;obtain⟨r,hr,rfl,rP⟩:=hrel;by_cases kF:r<10
     ·have hpx:=V5 (P:=Tryz.prog) Tryz.underlying251 Tryz.underlying23 rfl (by kernel_rfl) r kF (Xjx r kF);obtain⟨vr,zP⟩:∃vr,eG (words s) r v0=vr:=⟨_,rfl⟩;have DW:=Qh zP;rw[zP]at rP;clear zP;have Mm:vr.length=16:=by rw[←DW.O,Gx,Dv]
      go_wp2_with fail
      refine(Xnf _).mono ?_;rintro e w4 ⟨rfl,aM⟩;have Ku:=rP.pass aM;clear rP aM;go_wp2_with fail
      go_loopw [90] (fun V9 wr=> ∃k:Nat,k≤8∧V9= .int .i64 k∧Cm w [h0,h1,h2,h3,h4,h5,h6,h7] (words s) (eu (words s) r k vr) wr) (fun i _=>8-(intOf i).toNat)
      case atStart=>exact⟨0,Nat.zero_le _,rfl,Ku⟩
      case round=>
       clear Ku;obtain⟨k,hk,rfl,iO⟩:=hrel;by_cases iX:k<8
       ·have Wd:∀W,(Instr.index 254 (.agg oM) (.int .i64 (k:Int))).run Tryz.prog W= .ok (.agg #[.int .i64 (iE k).1,.int .i64 (iE k).2.1,.int .i64 (iE k).2.2.1,.int .i64 (iE k).2.2.2]) W:=fun W=>by
         rw[Xfl (P:=Tryz.prog) (m:=4) Tryz.underlying254 Tryz.underlying253 rfl (by kernel_rfl) k iX,Xjv k iX];rfl
        have pJ:=Qh iO;clear iO;go_wp2_with fail
        obtain⟨qa,qb,qc,qd,hq⟩:∃qa qb qc qd,iE k=(qa,qb,qc,qd):=⟨_,_,_,_,rfl⟩;have pu:=TD k iX;have bB:=Qh (show pz (words s) r k (eu (words s) r k vr)=nU (eu (words s) r k vr) qa qb qc qd ((words s).getD (iT r (2*k)) 0) ((words s).getD (iT r (2*k+1)) 0) by rw[pz,hq]);rw[hq]at pu ⊢;have We:=Qh pu;clear hq pu hpx Wd;obtain⟨Fq,DX⟩:=Xl8 r k kF iX;have pG:=Jk r (2*k) kF (by omega);have pX:=Jk r (2*k+1) kF (by omega);generalize iT r (2*k)=sx at Fq pG bB;generalize iT r (2*k+1)=sy at DX pX bB;refine wp_region_quiet_below (by kernel_rfl) (by kernel_rfl) ?_;repeat(go_big_quiet_step ((fail)))
        refine wpQuiet_nil ?_;intro w5 bg;have bq:Below (wr.alloc (.cells #[.int .i64 qa,.int .i64 qb,.int .i64 qc,.int .i64 qd] 253)).heap.size (wr.alloc (.cells #[.int .i64 qa,.int .i64 qb,.int .i64 qc,.int .i64 qd] 253)) w5:=by
         obtain⟨pq,rfl⟩:=bg;exact below_regrown _ _ _
        clear bg;have Dc:=(pJ.O.alloc _).pass bq;have k0:w5.cell? ⟨wr.heap.size,0,none⟩=some (.int .i64 qa):=by rw[bq.cell (by simp)];simp
        have k1:w5.cell? ⟨wr.heap.size,1,none⟩=some (.int .i64 qb):=by rw[bq.cell (by simp)];simp
        have k2:w5.cell? ⟨wr.heap.size,2,none⟩=some (.int .i64 qc):=by rw[bq.cell (by simp)];simp
        have k3:w5.cell? ⟨wr.heap.size,3,none⟩=some (.int .i64 qd):=by rw[bq.cell (by simp)];simp
        have m0:w5.cell? ⟨w.heap.size+1+1,sx,none⟩=some (.int .u32 ((words s).getD sx 0)):=(cell_of_row w5 _ sx _ _ _ Dc.b2).trans (oV (by simpa[words]using pG));have m1:w5.cell? ⟨w.heap.size+1+1,sy,none⟩=some (.int .u32 ((words s).getD sy 0)):=(cell_of_row w5 _ sy _ _ _ Dc.b2).trans (oV (by simpa[words]using pX));generalize(words s).getD sx 0=mx at m0 bB;generalize(words s).getD sy 0=my at m1 bB;have BS:=Qh Dc;clear Dc bq Fq DX pJ;go_wp2_with fail
        have k0d:({heap:=w5.heap,tape:=w5.tape,drawn:=w5.drawn+1,os:=w5.os,output:=w5.output}:World).cell? ⟨wr.heap.size,0,none⟩=some (.int .i64 qa):=k0;have k1d:({heap:=w5.heap,tape:=w5.tape,drawn:=w5.drawn+1,os:=w5.os,output:=w5.output}:World).cell? ⟨wr.heap.size,1,none⟩=some (.int .i64 qb):=k1;have k2d:({heap:=w5.heap,tape:=w5.tape,drawn:=w5.drawn+1,os:=w5.os,output:=w5.output}:World).cell? ⟨wr.heap.size,2,none⟩=some (.int .i64 qc):=k2;have k3d:({heap:=w5.heap,tape:=w5.tape,drawn:=w5.drawn+1,os:=w5.os,output:=w5.output}:World).cell? ⟨wr.heap.size,3,none⟩=some (.int .i64 qd):=k3;have m0d:({heap:=w5.heap,tape:=w5.tape,drawn:=w5.drawn+1,os:=w5.os,output:=w5.output}:World).cell? ⟨w.heap.size+1+1,sx,none⟩=some (.int .u32 mx):=m0;have m1d:({heap:=w5.heap,tape:=w5.tape,drawn:=w5.drawn+1,os:=w5.os,output:=w5.output}:World).cell? ⟨w.heap.size+1+1,sy,none⟩=some (.int .u32 my):=m1;have Dw:(sx:Int)<16:=by omega
        have uY:(sy:Int)<16:=by omega
        have zf:(0:Int)≤sx:=by omega
        have Mo:(0:Int)≤sy:=by omega
        go_still_tail 7,(by kernel_rfl)
        change wpList _ _ _ _ _ w5.drew;have zQ:Hid (Cm w [h0,h1,h2,h3,h4,h5,h6,h7] (words s) (eu (words s) r k vr) w5.drew):=Qh BS.O.drew;generalize w5.drew=w6 at zQ;go_wp2_with fail
        have tK:=We.O;refine(Xug (w.heap.size+1+1+1) (eu (words s) r k vr) 249 qa qb qc qd mx my w6 zQ.O.b3 (by rw[Nv,Mm]) tK.1 tK.2.1 tK.2.2.1 tK.2.2.2.1 tK.2.2.2.2.1 tK.2.2.2.2.2.1 tK.2.2.2.2.2.2.1 tK.2.2.2.2.2.2.2.1 tK.2.2.2.2.2.2.2.2.1 tK.2.2.2.2.2.2.2.2.2).mono ?_;rintro e w7 ⟨rfl,j5,hv7⟩;have Wh:=zQ.O.DV j5 hv7;go_wp2;go_roundw;case rel=>exact⟨k+1,by omega,by go_num,by rw[eu,bB.O];exact Wh⟩
        case measure=>simp[intOf];omega
       ·have nK:k=8:=by omega
        subst nK;go_wp2_with fail
        go_roundw;case rel=>exact⟨r+1,by omega,by go_num,by rw[eG,DW.O];exact iO⟩
        case measure=>simp[intOf];omega
     ·have IX:r=10:=by omega
      obtain⟨v,hv⟩:∃v,eG (words s) r v0=v:=⟨_,rfl⟩;have Hv:=Qh hv;have IY:v.length=16:=by rw[←hv,Gx,Dv]
      rw[hv]at rP;clear hv;go_wp2_with fail
      go_loopw [116] (fun Kv wr=> ∃k:Nat,k≤8∧Kv= .int .i64 k∧Cm w (jl [h0,h1,h2,h3,h4,h5,h6,h7] v k) (words s) v wr) (fun i _=>8-(intOf i).toNat)
      case atStart=>exact⟨0,Nat.zero_le _,rfl,rP⟩
      case round=>
       clear rP;obtain⟨k,hk,rfl,iO⟩:=hrel;by_cases iX:k<8
       ·have ol:=Gy [h0,h1,h2,h3,h4,h5,h6,h7] v k;have a0:=(cell_of_row wr _ k _ _ _ iO.b0).trans (oV (by rw[ol];exact iX));have a1:=(cell_of_row wr _ k _ _ _ iO.b3).trans (oV (l:=v) (by omega));have a2:=(cell_of_row wr _ (k+8) _ _ _ iO.b3).trans (oV (l:=v) (by omega));have a3:=frozen_of_row wr _ k _ _ iO.b0;rw[TE _ _ _ iX]at a0;have uQ:=TF [h0,h1,h2,h3,h4,h5,h6,h7] v k;generalize List.getD [h0,h1,h2,h3,h4,h5,h6,h7] k 0=x0 at a0 uQ;generalize v.getD k 0=x1 at a1 uQ;generalize v.getD (k+8) 0=x2 at a2 uQ;have FR:=Qh uQ;have pJ:=Qh iO;clear iO ol uQ;go_wp2_with fail
        go_big_region
        go_wp2;go_roundw;case rel=>exact⟨k+1,by omega,by go_num,by rw[←FR.O];exact(pJ.O.set0 k _).drew⟩
        case measure=>simp[intOf];omega
       ·have ol:=Gy [h0,h1,h2,h3,h4,h5,h6,h7] v k;have je:jl [h0,h1,h2,h3,h4,h5,h6,h7] v k=dL [h0,h1,h2,h3,h4,h5,h6,h7] s count false:=by
         rw[dL,BR.O,←IX,Hv.O,show k=8 by omega]
        generalize jl [h0,h1,h2,h3,h4,h5,h6,h7] v k=F at iO ol je;have om:=Qh je;have vv:(Tryz.prog.info? 192).map (·.size)=some (row F).size:=by rw[bD,ol];kernel_rfl
        have GA:(row (List.replicate 8 0)).size=(row F).size:=by rw[bD,bD,ol];rfl
        have GC:(row F).all (·.oneCell')=true:=by simp[row,Value.oneCell']
        have b0:=iO.b0;have b1:=iO.b1;have pJ:=Qh iO;clear iO je
        go_wp2_with (first
         |(refine wpList_load_row rfl 192 _ rfl w.heap.size rfl 192 (row F) (0,0) _ b0 Tryz.underlying192 rfl vv ?_)
         |(refine wpList_store_row rfl 192 _ _ rfl (w.heap.size+1) (row F) rfl rfl 192 (row (List.replicate 8 0)) b1 vv GA GC ?_))
        try simp only[Exit.inBlock,Exit.then]
        refine bodyPost_ret (v:= .tuple #[.agg (row F),.int .i64 0]) ?_ rfl ⟨?_,?_⟩
        ·rw[results_cell_tmp rfl];simp[asAddr,run_loadVar_row _ (w.heap.size+1) 192 192 (row F) (0,0) _ (setRow_heap _ _ _ _ _ _ b1) Tryz.underlying192 rfl vv]
        ·rw[om.O]
        ·exact below_setRow pJ.O.below (by omega) _
def DY(x:At):Bool:=decide (100<x.k.length) || decide (100<x.v.length)
def mF(l:List At):Int:=if 30<l.length then 1 else if l.any DY then 1 else 0
theorem Xoh(c:UInt8):bF c=(decide (97≤c.toNat)&&decide (c.toNat≤122) || decide (48≤c.toNat)&&decide (c.toNat≤57) || decide (c.toNat=46) || decide (c.toNat=95) || decide (c.toNat=45)):=by
 have e:∀n:Nat,n<256→(c==UInt8.ofNat n)=decide (c.toNat=n):=fun n hn=>by
  rw[Bool.eq_iff_iff,beq_iff_eq,decide_eq_true_iff];constructor
  ·intro h;rw[h];simp;omega
  ·intro h;have:c=UInt8.ofNat c.toNat:=by simp
   rw[this,h]
 unfold bF;rw[show(46:UInt8)=UInt8.ofNat 46 from rfl,show(95:UInt8)=UInt8.ofNat 95 from rfl,show(45:UInt8)=UInt8.ofNat 45 from rfl,e 46 (by omega),e 95 (by omega),e 45 (by omega)];simp[UInt8.le_iff_toNat_le]
theorem Xr9(s:ae)(hs:s.length≤9223372036854775807)(w:World):
 Calls Tryz.prog 182 #[S s] w fun e w'=>e= .returned (.bool (lu s))∧Below w.heap.size w w':=by
 by_cases h1:1≤s.length
 ·have ll:decide (s.length<1)=false:=Qf (by omega);by_cases wD:s.length≤32
  ·have pg:decide (32<s.length)=false:=by simp;omega
   have lX:=Qh (show lu s=s.all bF by simp[lu,h1,wD]);go_enter Tryz.func182,Tryz.ntmps182
   go_wp2_with fail
   go_loop [3] (fun s3=> ∃k:Nat,k≤s.length∧s3= .int .i64 k∧(s.take k).all bF=true) (fun i=>s.length-(intOf i).toNat)
   case atStart=>exact⟨0,Nat.zero_le _,rfl,rfl⟩
   case round=>
    obtain⟨k,hk,rfl,hr⟩:=hrel;have Hr:=Qh hr;clear hr;by_cases hlt:k<s.length
    ·have hx:=gQ Tryz.underlying9 s (k:Int) k rfl hlt;have og:=Xoh (s.getD k 0);have nR:=Qh (show s.take (k+1)=s.take k++[s.getD k 0] by rw[List.take_succ_eq_append_getElem hlt];simp[List.getD,hlt]);have zN:=Qh (show s.getD k 0∈s by simp[List.getD,hlt]);have su:(s.getD k 0).toNat<256:=(s.getD k 0).toNat_lt;generalize s.getD k 0=ch at og nR zN hx su;generalize ch.toNat=c at og hx su;rcases(show(97≤c∧c≤122)∨122<c∨(48≤c∧c≤57)∨c=46∨c=95∨c=45∨(c<48∧c≠46∧c≠45)∨(57<c∧c<97∧c≠95) by omega)with hc|hc|hc|hc|hc|hc|hc|hc
     ·have d97:decide ((c:Int)<97)=false:=by simp;omega
      have d122:decide (122<(c:Int))=false:=by simp;omega
      have d48:decide ((c:Int)<48)=false:=by simp;omega
      have d57:decide (57<(c:Int))=true:=by simp;omega
      have n46:((c:Int) !=46)=true:=by simp;omega
      have n95:((c:Int) !=95)=true:=by simp;omega
      have n45:((c:Int) !=45)=true:=by simp;omega
      have oL:=Qh (show bF ch=true by rw[og];simp;omega);clear og hc;go_wp2;go_round;case rel=>exact⟨k+1,by omega,by go_num,by rw[nR.O,List.all_append,Hr.O];simp[oL.O]⟩
      case measure=>simp[intOf];omega
     ·have d97:decide ((c:Int)<97)=false:=by simp;omega
      have d122:decide (122<(c:Int))=true:=by simp;omega
      have d48:decide ((c:Int)<48)=false:=by simp;omega
      have d57:decide (57<(c:Int))=true:=by simp;omega
      have n46:((c:Int) !=46)=true:=by simp;omega
      have n95:((c:Int) !=95)=true:=by simp;omega
      have n45:((c:Int) !=45)=true:=by simp;omega
      have oL:=Qh (show bF ch=false by rw[og];simp;omega);have kW:=Qh (show s.all bF=false by
       cases h:s.all bF with
       |false=>rfl
       |true=>rw[List.all_eq_true.1 h ch zN.O]at oL;exact absurd oL.O (by simp))
      clear og hc;go_wp2;go_ret;exact⟨iW (by rw[lX.O,kW.O]),Qb _ _⟩
     ·have d97:decide ((c:Int)<97)=true:=by simp;omega
      have d122:decide (122<(c:Int))=false:=by simp;omega
      have d48:decide ((c:Int)<48)=false:=by simp;omega
      have d57:decide (57<(c:Int))=false:=by simp;omega
      have n46:((c:Int) !=46)=true:=by simp;omega
      have n95:((c:Int) !=95)=true:=by simp;omega
      have n45:((c:Int) !=45)=true:=by simp;omega
      have oL:=Qh (show bF ch=true by rw[og];simp;omega);clear og hc;go_wp2;go_round;case rel=>exact⟨k+1,by omega,by go_num,by rw[nR.O,List.all_append,Hr.O];simp[oL.O]⟩
      case measure=>simp[intOf];omega
     ·have d97:decide ((c:Int)<97)=true:=by simp;omega
      have d122:decide (122<(c:Int))=false:=by simp;omega
      have d48:decide ((c:Int)<48)=true:=by simp;omega
      have d57:decide (57<(c:Int))=false:=by simp;omega
      have n46:((c:Int) !=46)=false:=by simp;omega
      have n95:((c:Int) !=95)=true:=by simp;omega
      have n45:((c:Int) !=45)=true:=by simp;omega
      have oL:=Qh (show bF ch=true by rw[og];simp;omega);clear og hc;go_wp2;go_round;case rel=>exact⟨k+1,by omega,by go_num,by rw[nR.O,List.all_append,Hr.O];simp[oL.O]⟩
      case measure=>simp[intOf];omega
     ·have d97:decide ((c:Int)<97)=true:=by simp;omega
      have d122:decide (122<(c:Int))=false:=by simp;omega
      have d48:decide ((c:Int)<48)=false:=by simp;omega
      have d57:decide (57<(c:Int))=true:=by simp;omega
      have n46:((c:Int) !=46)=true:=by simp;omega
      have n95:((c:Int) !=95)=false:=by simp;omega
      have n45:((c:Int) !=45)=true:=by simp;omega
      have oL:=Qh (show bF ch=true by rw[og];simp;omega);clear og hc;go_wp2;go_round;case rel=>exact⟨k+1,by omega,by go_num,by rw[nR.O,List.all_append,Hr.O];simp[oL.O]⟩
      case measure=>simp[intOf];omega
     ·have d97:decide ((c:Int)<97)=true:=by simp;omega
      have d122:decide (122<(c:Int))=false:=by simp;omega
      have d48:decide ((c:Int)<48)=true:=by simp;omega
      have d57:decide (57<(c:Int))=false:=by simp;omega
      have n46:((c:Int) !=46)=true:=by simp;omega
      have n95:((c:Int) !=95)=true:=by simp;omega
      have n45:((c:Int) !=45)=false:=by simp;omega
      have oL:=Qh (show bF ch=true by rw[og];simp;omega);clear og hc;go_wp2;go_round;case rel=>exact⟨k+1,by omega,by go_num,by rw[nR.O,List.all_append,Hr.O];simp[oL.O]⟩
      case measure=>simp[intOf];omega
     ·have d97:decide ((c:Int)<97)=true:=by simp;omega
      have d122:decide (122<(c:Int))=false:=by simp;omega
      have d48:decide ((c:Int)<48)=true:=by simp;omega
      have d57:decide (57<(c:Int))=false:=by simp;omega
      have n46:((c:Int) !=46)=true:=by simp;omega
      have n95:((c:Int) !=95)=true:=by simp;omega
      have n45:((c:Int) !=45)=true:=by simp;omega
      have oL:=Qh (show bF ch=false by rw[og];simp;omega);have kW:=Qh (show s.all bF=false by
       cases h:s.all bF with
       |false=>rfl
       |true=>rw[List.all_eq_true.1 h ch zN.O]at oL;exact absurd oL.O (by simp))
      clear og hc;go_wp2;go_ret;exact⟨iW (by rw[lX.O,kW.O]),Qb _ _⟩
     ·have d97:decide ((c:Int)<97)=true:=by simp;omega
      have d122:decide (122<(c:Int))=false:=by simp;omega
      have d48:decide ((c:Int)<48)=false:=by simp;omega
      have d57:decide (57<(c:Int))=true:=by simp;omega
      have n46:((c:Int) !=46)=true:=by simp;omega
      have n95:((c:Int) !=95)=true:=by simp;omega
      have n45:((c:Int) !=45)=true:=by simp;omega
      have oL:=Qh (show bF ch=false by rw[og];simp;omega);have kW:=Qh (show s.all bF=false by
       cases h:s.all bF with
       |false=>rfl
       |true=>rw[List.all_eq_true.1 h ch zN.O]at oL;exact absurd oL.O (by simp))
      clear og hc;go_wp2;go_ret;exact⟨iW (by rw[lX.O,kW.O]),Qb _ _⟩
    ·have aB:s.take k=s:=List.take_of_length_le (by omega);rw[aB]at Hr;clear aB;go_wp2;go_ret;exact⟨iW (by rw[lX.O,Hr.O]),Qb _ _⟩
  ·have pg:decide (32<s.length)=true:=by simp;omega
   have lX:=Qh (show lu s=false by simp[lu,wD]);go_enter Tryz.func182,Tryz.ntmps182
   go_wp2;go_ret;exact⟨iW lX.O.symm,Qb _ _⟩
 ·have ll:decide (s.length<1)=true:=Qt (by omega);have lX:=Qh (show lu s=false by simp[lu,h1]);go_enter Tryz.func182,Tryz.ntmps182
  go_wp2;go_ret;exact⟨iW lX.O.symm,Qb _ _⟩
