/- Lemmas for the claim's theorem;conditions: as each says. -/
import Derived.WalkKit
import Derived.WalkSpells
import Derived.WalkLawsBesides
import Derived.Lib.Hide
import Derived.Lib.QuietBelow
import Derived.Deep.QuietTactic
import Derived.BigQuiet
import Derived.Laws.StructEq
import Derived.StillTail
import Derived.Lib.SplitLaws
import Derived.Lib.Join
import Derived.Laws.RangeAny
import Derived.Shelf.GgClosure.StringsIndexFunc
import Derived.Test.YtdodihnehppnmaaGreatDoorRows
import Derived.Lib.AtoiAll
import Derived.Lib.ItoaNum
import Derived.BigRegion
import Derived.Test.YtdodihnehppnmaaGreatDoorProg
import Derived.OpenShut
import Derived.DataShut
set_option maxHeartbeats 0
set_option maxRecDepth 100000
set_option linter.all false
namespace Go.RowKit
theorem Hid.O{p:Prop}(h:Hid p):p:=h.out
end Go.RowKit
namespace Go.Proofs.YtdodihnehppnmaaGreatDoor
open Go.RowKit
variable{w:World}{i:Nat}{v:Value}{w':World}{n b:Nat}{α:Type}{P:Program}{a:Act}{Q:Exit→Act→World→Prop}{B:Nat}{w0 W:World}{ts te:TypeId}{bytes:Nat}{o:Oper}{K:Act→Prop}{r:Option Nat}{f:Nat×Nat}{ops:Array Oper}{E:TypeId}{g:Nat}{Z:Array Bool→Prop}{id:Nat}{c:UInt8}{d:Int}
theorem Qi{a:Array α}{x:α}(h:a[i]?=some x): ∃h:i<a.size,a[i]=x:=Array.getElem?_eq_some_iff.1 h
theorem Qg{a:Array α}{x:α}(h:a[i]?=some x):i<a.size:=(Array.getElem?_eq_some_iff.1 h).1
theorem Qh{p:Prop}(h:p):Hid p:=h
theorem Qn(n:Nat):n≤n:=Nat.le_refl n
theorem Qb(n:Nat)(w:World):Below n w w:=Below.refl n w
theorem Qt{p:Prop}[Decidable p](h:p):decide p=true:=decide_eq_true h
theorem Qf{p:Prop}[Decidable p](h:¬p):decide p=false:=decide_eq_false h
abbrev ae:=List UInt8
variable{p s:ae}
abbrev S(l:ae):Value:= .string ⟨l.toArray⟩
abbrev IH:=Nat→Option (Array Value)
variable{I:IH}
def Ok(I:IH)(w:World):Prop:=∀b c,I b=some c→ ∃e f,w.heap[b]?=some (.cells c e f)
def Ext(n:Nat)(I I':IH):Prop:=∀b,b<n→I' b=I b
def IH.add(I:IH)(b:Nat)(c:Array Value):IH:=fun k=>if k=b then some c else I k
section
variable {I I' Sq:IH} {w w':World} {b n m:Nat} {c:Array Value}
theorem Ok.lt(h:Ok I w)(hb:I b=some c):b<w.heap.size:=by
 obtain⟨e,f,hh⟩:=h b c hb;exact(Qg hh)
theorem Ok.fresh(h:Ok I w)(hb:w.heap.size≤b):I b=none:=by
 cases hc:I b with
 |none=>rfl
 |some c=>have:=h.lt hc;omega
theorem Ok.cell(h:Ok I w)(hb:I b=some c)(j:Nat):w.cell? ⟨b,j,none⟩=c[j]? :=by
 obtain⟨e,f,hh⟩:=h b c hb;simp[World.cell?,hh]
theorem Ok.of_block(h:Ok I w)(k:∀b c,I b=some c→w'.heap[b]?=w.heap[b]?):Ok I w':=fun b c hb=>by
 rw[k b c hb];exact h b c hb
theorem Ok.below(h:Ok I w)(hB:w.heap.size≤B)(hb:Below B w w'):Ok I w':=
 h.of_block fun b _ hc=>hb.block b (Nat.lt_of_lt_of_le (h.lt hc) hB)
theorem Ok.drew(h:Ok I w):Ok I w.drew:=h
theorem Ok.alloc(h:Ok I w)(o:Obj):Ok I (w.alloc o):=h.of_block fun b _ hc=>Below.heap_alloc w o b (h.lt hc)
theorem Ok.setCell(h:Ok I w){a:Addr}(ha:I a.block=none)(u:Value):Ok I (w.setCell a u):=h.of_block fun b _ hc=>
 Below.heap_setCell w a u b (fun e=>by subst e;rw[ha]at hc;cases hc)
theorem Ok.grown(h:Ok I w){row:Option Nat}(hg:w.grownBy w' row)(hr:∀g,row=some g→I g=none):Ok I w':=h.of_block fun b _ hc=>
 hg.block b (h.lt hc) (fun e=>by have:=hr b e.symm;rw[this]at hc;cases hc)
theorem Ok.add{e:TypeId}(h:Ok I w)(hb:w.heap[b]?=some (.cells c e f)):Ok (I.add b c) w:=fun k d hk=>by
 unfold IH.add at hk;split at hk
 ·rename_i e';subst e';cases hk;exact⟨e,f,hb⟩
 ·exact h k d hk
theorem Ext.refl(n:Nat)(I:IH):Ext n I I:=fun _ _=>rfl
theorem Ext.trans(h:Ext n I I')(k:Ext m I' Sq)(hm:n≤m):Ext n I Sq:=fun b hb=>(k b (by omega)).trans (h b hb)
theorem Ext.mono(h:Ext n I I')(hm:m≤n):Ext m I I':=fun b hb=>h b (by omega)
theorem Ext.add(hb:n≤b)(I:IH)(c:Array Value):Ext n I (I.add b c):=fun k hk=>by
 unfold IH.add;rw[if_neg (by omega)]
theorem Ext.keep(h:Ext n I I')(gK:Ok I w)(hn:w.heap.size≤n):∀b c,I b=some c→I' b=some c:=fun b c hc=>by
 rw[h b (Nat.lt_of_lt_of_le (gK.lt hc) hn)];exact hc
end
structure Ty (α:Type) where
 size:Nat
 rd:IH→List Value→α→Prop
 len:∀{I cs x},rd I cs x→cs.length=size
 one:∀{I cs x},rd I cs x→ ∀u∈cs,u.oneCell'=true
 mono:∀{I I':IH} {cs x},(∀b c,I b=some c→I' b=some c)→rd I cs x→rd I' cs x
variable{T:Ty α}
def Ty.flat{α:Type}(size:Nat)(enc:α→List Value)(hl:∀x,(enc x).length=size)(h1:∀x,∀u∈enc x,u.oneCell'=true):Ty α where
 size:=size
 rd:=fun _ cs x=>cs=enc x
 len:=fun h=>by rw[h];exact hl _
 one:=fun h=>by rw[h];exact h1 _
 mono:=fun _ h=>h
def ahj(k:IntKind):Ty Int:=Ty.flat 1 (fun n=> [.int k n]) (fun _=>rfl) (fun _ u h=>by simp at h;subst h;rfl)
def gq:Ty ae:=Ty.flat 1 (fun s=> [S s]) (fun _=>rfl) (fun _ u h=>by simp at h;subst h;rfl)
def De{α:Type}(T:Ty α)(I:IH)(arr:Array Value)(off:Nat)(l:List α):Prop:=
 ∀i (h:i<l.length),∃cs,T.rd I cs l[i]∧ ∀j u,cs[j]?=some u→arr[off+(i*T.size+j)]?=some u
def bf{α:Type}(T:Ty α)(I:IH)(v:Value)(l:List α):Prop:=
 ∃(ao:Option Addr) (cap:Nat),v= .slice ao l.length cap∧l.length≤cap∧cap≤maxLen∧
  (0<l.length→ ∃b off arr,ao=some ⟨b,off,none⟩∧I b=some arr∧De T I arr off l)
section
variable {α:Type} {T:Ty α} {I I':IH} {w:World} {v:Value} {l:List α}
theorem De.mono{arr:Array Value}{off:Nat}(hI:∀b c,I b=some c→I' b=some c)(h:De T I arr off l):De T I' arr off l:=fun i hi=>
 let ⟨cs,h1,h2⟩:=h i hi
 ⟨cs,T.mono hI h1,h2⟩
theorem bf.mono(hI:∀b c,I b=some c→I' b=some c)(h:bf T I v l):bf T I' v l:=by
 obtain⟨ao,cap,hv,h1,h2,h3⟩:=h;refine⟨ao,cap,hv,h1,h2,fun hl=> ?_⟩;obtain⟨b,off,arr,e1,e2,e3⟩:=h3 hl;exact⟨b,off,arr,e1,hI _ _ e2,e3.mono hI⟩
theorem bf.nil(T:Ty α)(I:IH):bf T I (.slice none 0 0) []:=⟨none,0,rfl,Qn _,Nat.zero_le _,fun h=>absurd h (by simp)⟩
theorem bf.one{v:Value}(h:bf T I v l):v.oneCell'=true:=by
 obtain⟨ao,cap,rfl,_⟩:=h;rfl
def tSl(T:Ty α):Ty (List α) where
 size:=1
 rd:=fun I cs l=> ∃v,cs=[v]∧bf T I v l
 len:=fun⟨v,h,_⟩=>by rw[h];rfl
 one:=fun⟨v,h,k⟩ u hu=>by rw[h]at hu;simp at hu;subst hu;exact k.one
 mono:=fun hI ⟨v,h,k⟩=>⟨v,h,k.mono hI⟩
theorem bf.at_(h:bf T I v l)(hw:Ok I w)(hi:i<l.length):∃b off cap cs,v= .slice (some ⟨b,off,none⟩) l.length cap∧T.rd I cs l[i]∧
 ∀j u,cs[j]?=some u→w.cell? ⟨b,off+i*T.size+j,none⟩=some u:=by
 obtain⟨ao,cap,hv,h1,h2,h3⟩:=h;obtain⟨b,off,arr,rfl,e2,e3⟩:=h3 (by omega);obtain⟨cs,k1,k2⟩:=e3 i hi;exact⟨b,off,cap,cs,hv,k1,fun j u hu=>by rw[hw.cell e2,Nat.add_assoc];exact k2 j u hu⟩
theorem bf.dh(h:bf T I v l):l.length≤9223372036854775807:=by
 obtain⟨ao,cap,hv,h1,h2,h3⟩:=h;unfold maxLen at h2;omega
end
@[go_sem] theorem mk_append_mk (x y:ae):(ByteArray.mk x.toArray++ByteArray.mk y.toArray)=ByteArray.mk (x++y).toArray:=ByteArray.mk_append_mk x y
@[go_sem] theorem JU (x:ae) (a b:Nat):(ByteArray.mk x.toArray).extract a b=ByteArray.mk ((x.drop a).take (b-a)).toArray:=by
  apply ByteArray.ext;simp[ByteArray.data_extract]
theorem FR{a b:ae}(h:a=b):Ending.returned (S a)= .returned (S b):=by rw[h]
theorem bT{k:IntKind}{a b:Int}(h:a=b):Ending.returned (.int k a)= .returned (.int k b):=by rw[h]
theorem gZ{a b:Bool}(h:a=b):Ending.returned (.bool a)= .returned (.bool b):=by rw[h]
@[go_sem] def OA (d:Nat) (xs ys:Array Value):List (TypeId×Nat×Bool)→Sem Bool
  | []=>pure true
  |(t,o,b)::fs=>if b then OA d xs ys fs else do
     let a ←part t xs o
     let b ←part t ys o
     let r ←Op.equalIn d t a b
     if(!r)=true then pure false else OA d xs ys fs
theorem Xg4(d : Nat)(xs ys : Array Value) : ∀fs : List Field,Op.eqFields d xs ys fs=OA d xs ys (fs.map fun f=> (f.type,f.offset,f.name== "_"))
 | []=>rfl
 |f::fs=>by
  simp only[Op.eqFields,List.map_cons,OA,Xg4 d xs ys fs];by_cases h : f.name= "_" <;> simp[h]
theorem Xq4{t:TypeId}(xs ys:Array Value)(L:List (TypeId×Nat×Bool))(W:World)(h1:P.underlying t=some (.struct (P.fieldsOf t)))(h2:P.stoodInHeld t=false)
 (hL : (P.fieldsOf t).toList.map (fun f=> (f.type,f.offset,f.name== "_"))=L) :
 (binOp .neq t (.agg xs) (.agg ys)).run P W=((OA 9999 xs ys L).run P W).andThen fun b w'=> .ok (.bool (!b)) w':=by
 rw[run_neq_struct,show(10000:Nat)=9999+1 from rfl,run_equalIn_agg _ _ _ _ _ h1 h2,Xg4,hL]
theorem dQ{a:Addr}{x:Value}(hb:Below W.heap.size W w')(h:W.cell? a=some x):w'.cell? a=some x:=(hb.cell (block_lt_of_cell h)).trans h
theorem gD{a:Addr}{x:Value}(o:Obj)(h:W.cell? a=some x):(W.alloc o).cell? a=some x:=(World.cell?_alloc_lt _ _ _ (block_lt_of_cell h)).trans h
theorem xz{a:Addr}{x:Value}{row:Option Nat}(hg:W.grownBy w' row)(cK:row≠some a.block)(h:W.cell? a=some x):w'.cell? a=some x:=
 (World.cell?_of_block (hg.block _ (block_lt_of_cell h) (fun e=>cK e.symm))).trans h
def bR{α:Type}(T:Ty α)(I:IH)(xs:List Value)(l:List α):Prop:=
 xs.length=l.length*T.size∧ ∀i (h:i<l.length),∃cs,T.rd I cs l[i]∧ ∀j u,cs[j]?=some u→xs[i*T.size+j]?=some u
def aM{α:Type}(T:Ty α)(E:TypeId)(I:IH)(w:World)(B:Nat)(v:Value)(l:List α):Prop:=
 ∃xs,w.ownsRow B E T.size v l.length xs∧bR T I xs l
section
variable {α:Type} {T:Ty α} {I I':IH} {w w':World} {v:Value} {l:List α} {xs:List Value} {E:TypeId} {B:Nat}
theorem bR.mono(hI:∀b c,I b=some c→I' b=some c)(h:bR T I xs l):bR T I' xs l:=
 ⟨h.1,fun i hi=>let ⟨cs,h1,h2⟩:=h.2 i hi;⟨cs,T.mono hI h1,h2⟩⟩
theorem bR.nil(T:Ty α)(I:IH):bR T I [] []:=⟨by simp,fun i h=>absurd h (by simp)⟩
theorem bR.one{x:α}{cs:List Value}(h:T.rd I cs x):bR T I cs [x]:=by
 refine⟨by simp[T.len h],fun i hi=>⟨cs,?_,fun j u hu=> ?_⟩⟩
 ·have:i=0:=by simp at hi;omega
  subst this;exact h
 ·have:i=0:=by simp at hi;omega
  subst this;simpa using hu
theorem bR.append{ys:List Value}{m:List α}(h:bR T I xs l)(k:bR T I ys m):bR T I (xs++ys) (l++m):=by
 refine⟨by rw[List.length_append,List.length_append,h.1,k.1,Nat.add_mul],fun i hi=> ?_⟩;by_cases hl:i<l.length
 ·obtain⟨cs,h1,h2⟩:=h.2 i hl;refine⟨cs,by rw[List.getElem_append_left hl];exact h1,fun j u hu=> ?_⟩;have hx:=h2 j u hu;rw[List.getElem?_append_left (List.getElem?_eq_some_iff.1 hx).1];exact hx
 ·obtain⟨cs,h1,h2⟩:=k.2 (i-l.length) (by simp at hi;omega);refine⟨cs,by rw[List.getElem_append_right (by omega)];exact h1,fun j u hu=> ?_⟩;have hx:=h2 j u hu;have e:i*T.size+j=xs.length+((i-l.length)*T.size+j):=by
   rw[h.1,Nat.sub_mul];have:=Nat.mul_le_mul_right T.size (show l.length≤i by omega);omega
  rw[e,List.getElem?_append_right (by omega),Nat.add_sub_cancel_left];exact hx
theorem bR.take(h:bR T I xs l)(n:Nat):bR T I (xs.take (n*T.size)) (l.take n):=by
 refine⟨by
  rw[List.length_take,List.length_take,h.1];rcases Nat.le_total n l.length with hn|hn
  ·rw[Nat.min_eq_left hn,Nat.min_eq_left (Nat.mul_le_mul_right _ hn)]
  ·rw[Nat.min_eq_right hn,Nat.min_eq_right (Nat.mul_le_mul_right _ hn)],fun i hi=> ?_⟩
 have Rw:i<n∧i<l.length:=by simp at hi;omega
 obtain⟨cs,h1,h2⟩:=h.2 i Rw.2;refine⟨cs,by rw[List.getElem_take];exact h1,fun j u hu=> ?_⟩;have hj:j<T.size:=by rw[←T.len h1];exact(List.getElem?_eq_some_iff.1 hu).1
 have:=Nat.mul_le_mul_right T.size (show i+1≤n by omega);rw[Nat.add_mul]at this;rw[List.getElem?_take_of_lt (by omega)];exact h2 j u hu
theorem bR.drop(h:bR T I xs l)(n:Nat):bR T I (xs.drop (n*T.size)) (l.drop n):=by
 refine⟨by rw[List.length_drop,List.length_drop,h.1,Nat.sub_mul],fun i hi=> ?_⟩;have Rw:n+i<l.length:=by simp at hi;omega
 obtain⟨cs,h1,h2⟩:=h.2 (n+i) Rw;refine⟨cs,by rw[List.getElem_drop];exact h1,fun j u hu=> ?_⟩;rw[List.getElem?_drop,←Nat.add_assoc,←Nat.add_mul];exact h2 j u hu
theorem bR.oneCell(h:bR T I xs l):∀u∈xs,u.oneCell'=true:=by
 intro u hu;obtain⟨p,hp,rfl⟩:=List.getElem_of_mem hu;have hs:0<T.size:=by
  rcases Nat.eq_zero_or_pos T.size with h0|h0
  ·have:=h.1;rw[h0,Nat.mul_zero]at this;omega
  ·exact h0
 have hi:p / T.size<l.length:=by rw[Nat.div_lt_iff_lt_mul hs,←h.1];exact hp
 obtain⟨cs,h1,h2⟩:=h.2 _ hi;have hj:p%T.size<cs.length:=by rw[T.len h1];exact Nat.mod_lt _ hs
 have hx:=h2 (p%T.size) _ (List.getElem?_eq_getElem hj);rw[show p / T.size*T.size+p%T.size=p by rw[Nat.mul_comm];exact Nat.div_add_mod p T.size,List.getElem?_eq_getElem hp]at hx;rw[Option.some.inj hx];exact T.one h1 _ (List.getElem_mem hj)
theorem bf.cells(h:bf T I v l)(hw:Ok I w)(hs:0<T.size):∃(ao:Option Addr) (cap:Nat) (xs:List Value),v= .slice ao l.length cap∧l.length≤cap∧cap≤maxLen∧bR T I xs l∧
 (0<l.length→ ∃b off arr,ao=some ⟨b,off,none⟩∧I b=some arr∧b<w.heap.size∧ ∀j u,xs[j]?=some u→w.cell? ⟨b,off+j,none⟩=some u):=by
 obtain⟨ao,cap,hv,h1,h2,h3⟩:=h;rcases Nat.eq_zero_or_pos l.length with h0|h0
 ·have:l=[]:=List.eq_nil_of_length_eq_zero h0;subst this;exact⟨ao,cap,[],hv,h1,h2,bR.nil T I,fun h=>absurd h (by simp)⟩
 ·obtain⟨b,off,arr,e1,e2,e3⟩:=h3 h0;have eU:off+l.length*T.size≤arr.size:=by
   obtain⟨cs,k1,k2⟩:=e3 (l.length-1) (by omega);have hx:=k2 (T.size-1) _ (List.getElem?_eq_getElem (by rw[T.len k1];omega));have:=(Qg hx);have e:(l.length-1)*T.size+T.size=l.length*T.size:=by
    rw[←Nat.succ_mul,Nat.succ_eq_add_one,show l.length-1+1=l.length by omega]
   omega
  refine⟨ao,cap,(arr.toList.drop off).take (l.length*T.size),hv,h1,h2,⟨by simp;omega,fun i hi=> ?_⟩,fun _=>⟨b,off,arr,e1,e2,hw.lt e2,fun j u hu=> ?_⟩⟩
  ·obtain⟨cs,k1,k2⟩:=e3 i hi;refine⟨cs,k1,fun j u hu=> ?_⟩;have hj:j<T.size:=by rw[←T.len k1];exact(List.getElem?_eq_some_iff.1 hu).1
   have:=Nat.mul_le_mul_right T.size (show i+1≤l.length by omega);rw[Nat.add_mul]at this;rw[List.getElem?_take_of_lt (by omega),List.getElem?_drop,Array.getElem?_toList];exact k2 j u hu
  ·rw[hw.cell e2];rw[List.getElem?_take]at hu;split at hu
   ·rw[List.getElem?_drop,Array.getElem?_toList]at hu;exact hu
   ·cases hu
theorem aM.kept{row:Option Nat}(h:aM T E I w B v l)(hg:w.grownBy w' row)(cK:v.ownBlock=none∨v.ownBlock≠row):aM T E I w' B v l:=
 let ⟨xs,h1,h2⟩:=h
 ⟨xs,h1.kept hg cK,h2⟩
theorem aM.below(h:aM T E I w B v l)(hb:Below w.heap.size w w'):aM T E I w' B v l:=
 h.kept (row:=none) ⟨hb.os,hb.tape,hb.output,hb.size,fun k hk _=>hb.block k hk⟩ (by cases v.ownBlock<;>simp)
theorem aM.alloc(h:aM T E I w B v l)(o:Obj):aM T E I (w.alloc o) B v l:=
 let ⟨xs,h1,h2⟩:=h
 ⟨xs,h1.alloc o,h2⟩
theorem aM.mono(hI:∀b c,I b=some c→I' b=some c)(h:aM T E I w B v l):aM T E I' w B v l:=
 let ⟨xs,h1,h2⟩:=h
 ⟨xs,h1,h2.mono hI⟩
theorem aM.lower{B':Nat}(h:aM T E I w B v l)(hB:B'≤B):aM T E I w B' v l:=by
 obtain⟨xs,⟨h1,EE⟩,h2⟩:=h;refine⟨xs,⟨h1,?_⟩,h2⟩;rcases EE with h0|⟨g,cap,cur,a,b,c⟩
 ·exact .inl h0
 ·exact .inr ⟨g,cap,cur,a,by omega,c⟩
theorem aM.nil(T:Ty α)(E:TypeId)(I:IH)(w:World)(B:Nat):aM T E I w B (.slice none 0 0) []:=⟨[],World.ownsRow_nil w B E T.size,bR.nil T I⟩
theorem aM.nA(h:aM T E I w B v l)(hb:w.heap.size≤b):v.ownBlock≠some b:=by
 obtain⟨xs,h1,_⟩:=h;intro e;have:=(h1.lt b e).2;omega
theorem aM.dw(h:aM T E I w B v l)(hb:b<B):v.ownBlock≠some b:=by
 obtain⟨xs,h1,_⟩:=h;intro e;have:=(h1.lt b e).1;omega
theorem aM.qY(h:aM T E I w B v l)(e:v.ownBlock=some b):B≤b:=by
 obtain⟨xs,h1,_⟩:=h;exact(h1.lt b e).1
theorem aM.freeze(h:aM T E I w B v l)(hw:Ok I w)(hI:∀b,B≤b→I b=none):∃I',Ext B I I'∧Ok I' w∧bf T I' v l∧ ∀b,v.ownBlock≠some b→I' b=I b:=by
 obtain⟨xs,⟨h1,EE⟩,h2⟩:=h;rcases EE with⟨rfl,h0⟩|⟨g,cap,cur,rfl,hb,hg,Ob,il,iY,ht⟩
 ·refine⟨I,Ext.refl _ _,hw,?_,fun _ _=>rfl⟩;have:l=[]:=List.eq_nil_of_length_eq_zero h0;subst this;exact bf.nil T I
 ·have uE:∀b c,I b=some c→(I.add g cur) b=some c:=fun b c hc=>by
   unfold IH.add;by_cases e:b=g
   ·subst e;rw[hI _ hb]at hc;cases hc
   ·rw[if_neg e];exact hc
  refine⟨I.add g cur,Ext.add hb I cur,hw.add hg,⟨_,cap,rfl,Ob,il,fun _=>⟨g,0,cur,rfl,by simp[IH.add],fun i hi=> ?_⟩⟩,fun b UH=> ?_⟩
  ·obtain⟨cs,k1,k2⟩:=h2.2 i hi;refine⟨cs,T.mono uE k1,fun j u hu=> ?_⟩;have hx:=k2 j u hu;rw[←ht,List.getElem?_take]at hx;split at hx
   ·rw[Nat.zero_add,←Array.getElem?_toList];exact hx
   ·cases hx
  ·have:b≠g:=fun e=>UH (by simp[Value.ownBlock,e]);simp[IH.add,this]
def fq(P:Program)(ts te:TypeId)(T:Ty α)(bytes:Nat):Prop:=
 ∃i z,P.underlying ts=some (.slice te)∧P.info? te=some i∧i.zero=some z∧i.size=T.size∧i.bytes=bytes∧z.cells.size=T.size∧0<T.size
theorem fq.of{z:Value}{size:Nat}(hu:P.underlying ts=some (.slice te))(h:(P.info? te).map (fun i=>(i.zero,i.size,i.bytes))=some (some z,size,bytes))(hz:z.cells.size=size)(hs:0<size)(hT:T.size=size):fq P ts te T bytes:=by
 obtain⟨i,h1,h2,h3,h4⟩:=info_parts h;exact⟨i,z,hu,h1,h2,by rw[h3,hT],h4,by rw[hz,hT],by rw[hT];exact hs⟩
theorem oq(hE:fq P ts te T bytes){rest:List Oper}(Cj:o.guard=none)(s x:Operand)
 (ho:o.op= .call {callee:= .builtin .append,args:=#[s,x],argTypes:=#[ts,ts]}) (B:Nat) (v:Value) (l:List α) (hs:a.eval s=v) (bJ:aM T te I w0 B v l)
 (y:α) (cs:List Value) (tb:TypeId) (hx:a.eval x= .slice (some ⟨w0.heap.size,0,none⟩) 1 1) (hy:T.rd I cs y) (iW:(l.length+1)*bytes≤140737488355328) (hl:l.length+1≤9223372036854775807) (hB:B≤w0.heap.size)
 (h:∀v' w',aM T te I w' B v' (l++[y])→w0.grownBy w' v.ownBlock→wpList P ops Q rest (a.put o.dst v') w'):wpList P ops Q (o::rest) a (w0.alloc (.cells cs.toArray tb)):=by
 obtain⟨i,z,h1,h2,h3,h4,h5,h6,h7⟩:=hE;obtain⟨xs,k1,k2⟩:=bJ
 refine wpList_append_own (w0.alloc (.cells cs.toArray tb)) Cj s x ts ho B te i z T.size bytes h1 h2 h3 h4 h5 h6 h7 v l.length xs hs (k1.alloc _) ⟨w0.heap.size,0,none⟩ 1 1 cs hx (by rw[T.len hy,Nat.one_mul])
  (fun j u hu=>by rw[Addr.add_lit,Nat.zero_add,World.cell?_alloc_new];simpa using hu) (T.one hy) (by unfold maxLen;omega) iW (by simp;omega) (fun v' w' r1 r2 _=>h v' w' ⟨xs++cs,by rw[List.length_append];exact r1,k2.append (bR.one hy)⟩ ?_)
 exact⟨r2.os,r2.tape,r2.output,by have:=r2.size;simp at this;omega,fun k hk cK=>(r2.block k (by simp;omega) cK).trans (Below.heap_alloc _ _ _ hk)⟩
theorem Xji(hE:fq P ts te T bytes){rest:List Oper}(Cj:o.guard=none)(s x:Operand)
 (ho:o.op= .call {callee:= .builtin .append,args:=#[s,x],argTypes:=#[ts,ts]}) (B:Nat) (v:Value) (l:List α) (hs:a.eval s=v) (bJ:aM T te I w0 B v l)
 (ys:List α) (cs:List Value) (tb:TypeId) (hx:a.eval x= .slice (some ⟨w0.heap.size,0,none⟩) ys.length ys.length) (hy:bR T I cs ys) (_hp:0<ys.length) (iW:(l.length+ys.length)*bytes≤140737488355328) (hl:l.length+ys.length≤9223372036854775807) (hB:B≤w0.heap.size)
 (h:∀v' w',aM T te I w' B v' (l++ys)→w0.grownBy w' v.ownBlock→wpList P ops Q rest (a.put o.dst v') w'):wpList P ops Q (o::rest) a (w0.alloc (.cells cs.toArray tb)):=by
 obtain⟨i,z,h1,h2,h3,h4,h5,h6,h7⟩:=hE;obtain⟨xs,k1,k2⟩:=bJ
 refine wpList_append_own (w0.alloc (.cells cs.toArray tb)) Cj s x ts ho B te i z T.size bytes h1 h2 h3 h4 h5 h6 h7 v l.length xs hs (k1.alloc _) ⟨w0.heap.size,0,none⟩ ys.length ys.length cs hx hy.1
  (fun j u hu=>by rw[Addr.add_lit,Nat.zero_add,World.cell?_alloc_new];simpa using hu) hy.oneCell (by unfold maxLen;omega) iW (by simp;omega) (fun v' w' r1 r2 _=>h v' w' ⟨xs++cs,by rw[List.length_append];exact r1,k2.append hy⟩ ?_)
 exact⟨r2.os,r2.tape,r2.output,by have:=r2.size;simp at this;omega,fun k hk cK=>(r2.block k (by simp;omega) cK).trans (Below.heap_alloc _ _ _ hk)⟩
end
theorem Below.own{l:List α}{B0:Nat}(h:Below B0 w w0)(hg:w0.grownBy w' v.ownBlock)(bJ:aM T E I w0 B v l)(hB:B0≤B)(hB':B≤w0.heap.size):Below B0 w w':=
 h.grown hg (by omega) (fun _ hk=>Nat.le_trans hB (bJ.qY hk))
theorem Ok.own{J:IH}{l:List α}(h:Ok J w0)(hg:w0.grownBy w' v.ownBlock)(bJ:aM T E I w0 B v l)(hJ:∀b,B≤b→J b=none):Ok J w':=
 h.grown hg (fun g hk=>hJ g (bJ.qY hk))
open Go.RowKit Go.Sort
section
variable {P:Program} {ops:Array Oper} {md:Region.Mode} {C:World→Prop}
def xP(P:Program)(md:Region.Mode)(ops:Array Oper)(C:World→Prop)(n:Nat)(Z:Array Bool→Prop)(K:Act→Prop):Nat→Array Bool→Act→Prop
 |0,s,a=>Z s∧K a
 |f+1,s,a=>(∃i,i∈Region.ready md ops s)∧ ∀i∈Region.ready md ops s,i<n∧qOp P ops C i (xP P md ops C n Z K f (s.setIfInBounds i true)) a
theorem Xtw(hZ:∀s a w,Z s→C w→K a→wpAny P md ops Q g s a w):
 ∀(f:Nat) (s:Array Bool) (a:Act) (w:World),C w→xP P md ops C n Z K f s a→wpAny P md ops Q (g+f) s a w:=by
 intro f;induction f with
 |zero=>exact fun s a w hw h=>hZ s a w h.1 hw h.2
 |succ f ih=>
  rintro s a w hw ⟨⟨i0,h0⟩,h⟩;refine⟨fun e=> ?_,fun i hi=>wpOp_of_qOp hw (fun a' w' ZO hk=>ih _ _ _ ZO hk) (h i hi).2⟩;rw[e]at h0;exact absurd h0 (by simp)
theorem Xoj{s:Array Bool}{oj:Oper}(bO:s.getD i true=false)(aG:∀e∈oj.after,Region.binds md e=true→s.getD e.on false=true):∀e∈oj.after,Region.binds md e=true→e.on≠i:=by
 intro e he hb Cn;have h:=aG e he hb;rw[Cn,getD_both bO]at h;exact absurd h (by simp)
theorem Xow{oi:Oper}(hi:ops[i]?=some oi)(Co:Region.noSelect ops=true)(hs:Region.sinkB md ops n=true)(hc:Region.chainB md ops n=true)(hn:n<ops.size)(lW:i<n)
 (hZ:∀s,Z s→ ∀j∈Region.ready md ops s,n≤j):∀(f:Nat) (s:Array Bool) (a:Act),HeadInv md ops n s→
   (∀j oj,ops[j]?=some oj→j≠i→s.getD j true=false→(∀e∈oj.after,Region.binds md e=true→e.on≠i)→oi.apart ops oj=true)→
   i∈Region.ready md ops s→YieldsIn P ops C oi v a→xP P md ops C n Z K f (s.setIfInBounds i true) (a.put oi.dst v)→xP P md ops C n Z K (f+1) s a:=by
 intro f;induction f with
 |zero=>
  intro s a inv EF hr hy H;have bO:=(mem_ready.1 hr).1;refine⟨⟨i,hr⟩,fun j hj=> ?_⟩;by_cases C7:j=i
  ·subst C7;exact⟨lW,hy.qOp hi H⟩
  ·have h1:=hZ _ H.1 j (ready_mono hj C7);exact absurd hj (tail_waits hs hc hn inv _ i rfl lW bO j h1)
 |succ f ih=>
  intro s a inv EF hr hy H;have bO:=(mem_ready.1 hr).1;refine⟨⟨i,hr⟩,fun j hj=> ?_⟩;have hjn:j<n:=Nat.lt_of_not_le fun h=>tail_waits hs hc hn inv _ i rfl lW bO j h hj;refine⟨hjn,?_⟩;by_cases C7:j=i
  ·subst C7;exact hy.qOp hi H
  obtain⟨Rx,oj,iD,aG⟩:=mem_ready.1 hj;have h2:=qOp_put iD (EF j oj iD C7 Rx (Xoj bO aG)) (fun cs b=>Region.noSelect_spec Co i oi cs b hi) (fun cs b=>Region.noSelect_spec Co j oj cs b iD) hy (H.2 j (ready_mono hj C7)).2;refine qOp_mono (fun a' h3=>ih _ a' (inv.set hj hjn) (fun k ok hk hki hku=>EF k ok hk hki ?_) (ready_mono hr (Ne.symm C7)) h3.1 ?_) h2
  ·by_cases e:j=k
   ·subst e;exact Rx
   ·rwa[getD_set_ne true e]at hku
  ·rw[Array.setIfInBounds_comm _ _ C7];exact h3.2
theorem Xtx(Co:Region.noSelect ops=true)(hs:Region.sinkB md ops n=true)(hc:Region.chainB md ops n=true)(hn:n<ops.size):
 ∀(l:List Oper) (k:Nat) (s:Array Bool) (a:Act),(∀j,j<l.length→l[j]?=ops[k+j]?)→k+l.length=n→HeadInv md ops n s→Region.lexHead md ops g l.length k s=true→
 wpQuiet P ops C K l a→xP P md ops C n (fun s=>Region.seqB md ops g n s=true) K l.length s a:=by
 intro l;induction l with
 |nil=>
  intro k s a _ hk _ hB h;simp only[List.length_nil,Nat.add_zero]at hk;subst hk;exact⟨hB,h⟩
 |cons o l ih=>
  intro k s a hl hk inv hB h;have h0:ops[k]?=some o:=by simpa using(hl 0 (by simp)).symm
  simp only[List.length_cons]at hk;simp only[List.length_cons,Region.lexHead,Bool.and_eq_true]at hB;have hr:k∈Region.ready md ops s:=by simpa using hB.1.1
  have hq:qOp P ops C k (wpQuiet P ops C K l) a:=by unfold qOp;rw[h0];exact h
  obtain⟨v,hy,hK⟩:=yieldsIn_of_qOp h0 hq;refine Xow h0 Co hs hc hn (by omega) (fun s hz=>seqB_ready hz) l.length s a inv (Region.free_spec h0 hB.1.2) hr hy ?_;refine ih (k+1) _ _ (fun j hj=> ?_) (by omega) (inv.set hr (by omega)) hB.2 hK;have:=hl (j+1) (by simp;omega);rw[List.getElem?_cons_succ]at this;rw[this,Nat.add_assoc,Nat.add_comm 1 j]
theorem Xe5{l:List Oper}(n:Nat)(hm:P.follows .mixedOrders=true)(hB:Region.lexTailB .any l.toArray n=true)(hC:C {w with drawn:=w.drawn+1})
 (h:wpQuiet P l.toArray C (fun a'=> ∀w',C w'→wpList P l.toArray Q (l.drop n) a' w') (l.take n) a):(Code.region id l.toArray true).wp P Q a w:=by
 simp only[Region.lexTailB,Bool.and_eq_true,decide_eq_true_eq]at hB;obtain⟨⟨⟨⟨Co,hn⟩,hs⟩,hc⟩,ZP⟩:=hB;have UI:n<l.length:=by simpa using hn
 have o9:(l.take n).length=n:=by simp;omega
 have xL:(l.drop n).length=l.toArray.size-n:=by simp
 have inv0:HeadInv .any l.toArray n (Array.replicate l.toArray.size false):=by
  refine⟨by simp,fun j oj _ hl=> ?_,fun t _ ht=>getD_in (by simpa using ht) (getD_replicate_false _ _)⟩;rw[getD_replicate_false]at hl;exact absurd hl (by simp)
 have H:=Xtx (P:=P) (C:=C) (md:= .any) (g:=l.toArray.size-n) Co hs hc hn (l.take n) 0 _ a (fun j hj=>by
  rw[o9]at hj;simp[hj]) (by omega) inv0 (by rw[o9];exact ZP) h
 have R:=Xtw (Q:=Q) (g:=l.toArray.size-n) (fun s a' w' hz hw hk=>by
  have:=wpAny_of_seq (md:= .any) (Q':=Q) (l.drop n) n s a' w' (fun j=>by simp[List.getElem?_drop]) (by rw[xL];exact hz) (hk w' hw);rwa[xL]at this) _ _ _ _ hC H
 rw[o9,show l.toArray.size-n+n=l.toArray.size by omega]at R;exact wp_region_any hm R
theorem xQ{l:List Oper}(n:Nat)(hm:P.follows .mixedOrders=true)(hB:Region.lexTailB .any l.toArray n=true)
 (h:wpQuiet P l.toArray (fun w'=> ∃p:Regrown,w'=grow (redrawn w p.d) p.os) (fun a'=> ∀w',(∃p:Regrown,w'=grow (redrawn w p.d) p.os)→wpList P l.toArray Q (l.drop n) a' w') (l.take n) a):(Code.region id l.toArray true).wp P Q a w:=
 Xe5 (C:=fun w'=> ∃p:Regrown,w'=grow (redrawn w p.d) p.os) n hm hB ⟨⟨w.drawn+1,#[]⟩,by rw[grow_empty];rfl⟩ h
theorem wpQuiet_load_row{Q:Act→Prop}{rest:List Oper}(Cj:o.guard=none)(ty:TypeId)(x:Operand)(ho:o.op= .load ty x)(g:Nat)(hx:a.eval x= .pointer (some ⟨g,0,none⟩))(t:TypeId)(cs:Array Value)(fr:Nat×Nat)(d:TypeDesc)
 (hg:∀w,C w→w.heap[g]?=some (.cells cs t fr)) (hu:P.underlying ty=some d) (hd:(match d with| .struct _| .array _ _=>true|_=>false)=true) (hi:(P.info? ty).map (·.size)=some cs.size) (h:wpQuiet P ops C Q rest (a.put o.dst (.agg cs))):wpQuiet P ops C Q (o::rest) a:=
 wpQuiet_step fun K hK=>by
  rw[if_pos (by simp[Region.wanted,Cj])];refine⟨.agg cs,fun w hw=> ?_,hK _ h⟩;unfold Oper.quietAt execOp;simp only[ho,hx,Instr.loadAt,Instr.sureAddr,Sem.run_bind,Sem.run_pure,Result.andThen_ok,run_loadVar_row w g t ty cs fr d (hg w hw) hu hd hi];exact⟨rfl,rfl⟩
theorem Xfq{o:Obj}(h:w.heap[b]?=some o)(w':World)(hw:∃p:Regrown,w'=grow (redrawn w p.d) p.os):w'.heap[b]?=some o:=by
 obtain⟨p,rfl⟩:=hw;exact((below_regrown w p.d p.os).block _ (Qg h)).trans h
end
def FT{α:Type}(T:Ty α)(I:IH)(w:World)(l:List α)(e:Ending)(w':World):Prop:=
 ∃v' I',e= .returned v'∧Below w.heap.size w w'∧Ext w.heap.size I I'∧Ok I' w'∧bf T I' v' l
def uT{α:Type}(T:Ty α)(I:IH)(w:World)(l:List α)(n:Int)(e:Ending)(w':World):Prop:=
 ∃v' I',e= .returned (.tuple #[v',.int .i64 n])∧Below w.heap.size w w'∧Ext w.heap.size I I'∧Ok I' w'∧bf T I' v' l
theorem Df:∀a:ae,Op.bytesLess a a=false
 | []=>rfl
 |x::a=>by rw[Op.bytesLess,Df a];simp
theorem U6:∀{a b c:ae},Op.bytesLess a b=true→Op.bytesLess b c=true→Op.bytesLess a c=true
 |_,[],_,h,_=>by simp[Op.bytesLess]at h
 |_,_::_,[],_,h=>by simp[Op.bytesLess]at h
 | [],_::_,_::_,_,_=>rfl
 |x::a,y::b,z::c,h,k=>by
  simp only[Op.bytesLess,Bool.or_eq_true,Bool.and_eq_true,decide_eq_true_eq,beq_iff_eq]at h k ⊢;rcases h with h|⟨rfl,h⟩<;>rcases k with k|⟨rfl,k⟩
  ·exact .inl (UInt8.lt_trans h k)
  ·exact .inl h
  ·exact .inl k
  ·exact .inr ⟨rfl,U6 h k⟩
theorem ML:∀(a b:ae),Op.bytesLess a b=true∨a=b∨Op.bytesLess b a=true
 | [],[]=> .inr (.inl rfl)
 | [],_::_=> .inl rfl
 |_::_,[]=> .inr (.inr rfl)
 |x::a,y::b=>by
  simp only[Op.bytesLess,Bool.or_eq_true,Bool.and_eq_true,decide_eq_true_eq,beq_iff_eq,List.cons.injEq];by_cases h:x=y
  ·subst h;rcases ML a b with h|h|h
   ·exact .inl (.inr ⟨rfl,h⟩)
   ·exact .inr (.inl ⟨rfl,h⟩)
   ·exact .inr (.inr (.inr ⟨rfl,h⟩))
  ·rcases UInt8.lt_or_lt_of_ne h with h|h
   ·exact .inl (.inl h)
   ·exact .inr (.inr (.inl h))
theorem MM{a b:ae}(h:Op.bytesLess a b=true):Op.bytesLess b a=false:=by
 cases k:Op.bytesLess b a
 ·rfl
 ·have:=U6 h k;rw[Df]at this;exact absurd this (by simp)
theorem MN{a b:ae}(h:Op.bytesLess a b=true):a≠b:=by
 rintro rfl;rw[Df]at h;exact absurd h (by simp)
section
variable {α:Type} {key:α→ae}
def Srt(key:α→ae)(l:List α):Prop:=l.Pairwise fun a b=>Op.bytesLess (key a) (key b)=true
end
structure At where
 k:ae
 v:ae
deriving DecidableEq
def bK(c:UInt8):Bool:=decide (97≤c)&&decide (c≤122) || decide (48≤c)&&decide (c≤57) || c==46 || c==95 || c==45
def kW(s:ae):Bool:=decide (1≤s.length)&&decide (s.length≤32)&&s.all bK
def fJ(x:At):Int:=if kW x.k=false then 7 else if 64<x.v.length then 6 else 0
def dP:Option At→List At→Int
 |_,[]=>0
 |p,x::l=>if fJ x≠0 then fJ x else if(p.any fun q=>q.k==x.k)then 8 else if(p.any fun q=>Op.bytesLess x.k q.k)then 14 else dP (some x) l
def mq(l:List At):Int:=if 16<l.length then 6 else dP none l
def ahr(l:List At)(k:ae):ae×Bool:=match l.find? (fun x=>x.k==k)with|some x=>(x.v,true)|none=>([],false)
def ahs(l:List At)(k:ae):List At:=l.filter fun x=> !(x.k==k)
def Im(x:At):Bool→List At→List At→List At
 |d,out,[]=>if d then out else out++[x]
 |d,out,y::l=>Im x (d || !(Op.bytesLess y.k x.k)) ((if !d&& !(Op.bytesLess y.k x.k)then out++[x]else out)++(if y.k==x.k then []else [y])) l
def JV(l:List At)(x:At):List At:=Im x false [] l
def OB(a b:List At):List At:=b.foldl JV a
def aht(l:List At)(x:At):List At×Int:=if mq l≠0 then([],mq l)else if fJ x≠0 then([],fJ x)else if 16<(JV l x).length then([],6)else(JV l x,0)
def U7(a b:List At):List At×Int:=if mq a≠0 then([],mq a)else if mq b≠0 then([],mq b)else if 16<(OB a b).length then([],6)else(OB a b,0)
def U8(l:List At):Prop:=30<l.length∨ ∃x∈l,100<x.k.length∨100<x.v.length
structure Okl (l:List At):Prop where
 len:l.length≤16
 all:∀x∈l,fJ x=0
 vI:Srt At.k l
theorem Xmm:∀{A B:List ae},A.Nodup→(∀x∈A,x∈B)→A.length≤B.length
 | [],_,_,_=>Nat.zero_le _
 |x::A,B,hn,hs=>by
  obtain⟨h1,h2⟩:=List.nodup_cons.1 hn;have hx:=hs x (List.mem_cons_self ..);have h3:=Xmm (B:=B.erase x) h2 fun y hy=>(List.mem_erase_of_ne (a:=y) (b:=x) (fun e=>h1 (by rw[←e];exact hy))).2 (hs y (List.mem_cons_of_mem _ hy));rw[List.length_erase_of_mem hx]at h3;have:=List.length_pos_of_mem hx;simp only[List.length_cons];omega
theorem dh{A B:List At}(hA:Srt At.k A)(h:∀x∈A,∃y∈B,y.k=x.k):A.length≤B.length:=by
 have hn:(A.map At.k).Nodup:=List.pairwise_map.2 (hA.imp fun{a b} hab=>MN hab);have hs:∀k∈A.map At.k,k∈B.map At.k:=by
  intro k hk;obtain⟨x,hx,rfl⟩:=List.mem_map.1 hk;obtain⟨y,hy,e⟩:=h x hx;rw[←e];exact List.mem_map_of_mem hy
 simpa using Xmm hn hs
def dx:ae→ae→List ae
 |p,[]=> [p]
 |p,c::s=>if c==47 then p::dx [] s else dx (p++[c]) s
def els(s:ae):List ae:=if s=[]then []else dx [] s
def comp(s:ae):Bool:=decide (1≤s.length)&&decide (s.length≤32)&&s !=[46]&&s !=[46,46]&&s.all bK
def aF(s:ae):Int:=if 200<s.length then 6 else if 8<(els s).length then 6 else if(els s).all comp then 0 else 7
def dW:List ae→ae
 | []=> []
 | [p]=>p
 |p::q::l=>p++47::dW (q::l)
def under(p d:ae):Bool:=decide (aF p=0)&&decide (aF d=0)&&(els d).isPrefixOf (els p)
def gU:List ae→List ae→Bool
 | [],[]=>false
 | [],_::_=>true
 |_::_,[]=>false
 |x::a,y::b=>Op.bytesLess x y || (x==y&&gU a b)
theorem U9:∀a,gU a a=false
 | []=>rfl
 |x::a=>by rw[gU,Df,U9 a];simp
theorem Dh:∀{a b c},gU a b=true→gU b c=true→gU a c=true
 | [],[],_,h,_=>absurd h (by simp[gU])
 | [],_::_,[],_,h=>absurd h (by simp[gU])
 | [],_::_,_::_,_,_=>rfl
 |_::_,[],_,h,_=>absurd h (by simp[gU])
 |_::_,_::_,[],_,h=>absurd h (by simp[gU])
 |x::a,y::b,z::c,h,k=>by
  rw[gU,Bool.or_eq_true,Bool.and_eq_true]at h k ⊢;rcases h with h|⟨h,h'⟩<;>rcases k with k|⟨k,k'⟩
  ·exact .inl (U6 h k)
  ·have e:y=z:=by simpa using k
   rw[←e];exact .inl h
  ·have e:x=y:=by simpa using h
   rw[e];exact .inl k
  ·have e:x=y:=by simpa using h
   rw[e];exact .inr ⟨k,Dh h' k'⟩
theorem Sr:∀a b,gU a b=true∨a=b∨gU b a=true
 | [],[]=> .inr (.inl rfl)
 | [],_::_=> .inl rfl
 |_::_,[]=> .inr (.inr rfl)
 |x::a,y::b=>by
  rcases ML x y with h|h|h
  ·exact .inl (by rw[gU,h];rfl)
  ·subst h;rcases Sr a b with k|k|k
   ·exact .inl (by rw[gU,k];simp)
   ·exact .inr (.inl (by rw[k]))
   ·exact .inr (.inr (by rw[gU,k];simp))
  ·exact .inr (.inr (by rw[gU,h];rfl))
theorem MO{a b:List ae}(h:gU a b=true):gU b a=false:=by
 cases k:gU b a with
 |false=>rfl
 |true=>have:=Dh h k;rw[U9]at this;exact absurd this (by simp)
theorem Io{a b:List ae}(h:gU a b=true):a≠b:=fun e=>by
 rw[e,U9]at h;exact absurd h (by simp)
theorem Xj6:∀(a b:List ae),b≠[]→gU a (a++b)=true
 | [],[],h=>absurd rfl h
 | [],_::_,_=>rfl
 |x::a,b,h=>by rw[List.cons_append,gU,Xj6 a b h];simp
def ic(a b:ae):Int:=if gU (els a) (els b)then -1 else if gU (els b) (els a)then 1 else 0
theorem MP:∀(s p:ae),dx p s≠[]
 | [],p=>by simp[dx]
 |c::s,p=>by
  rw[dx];by_cases h:(c==47)=true
  ·rw[if_pos h];simp
  ·rw[if_neg h];exact MP s _
theorem wm:els s=[]↔s=[]:=by
 unfold els;by_cases h:s=[]
 ·rw[if_pos h];simp[h]
 ·rw[if_neg h];simp[h,MP]
theorem Ip(p:ae){l:List ae}(h:l≠[]):dW (p::l)=p++47::dW l:=by
 cases l with
 |nil=>exact absurd rfl h
 |cons q l=>rfl
theorem Va:∀(s p:ae),dW (dx p s)=p++s
 | [],p=>by simp[dx,dW]
 |c::s,p=>by
  rw[dx];by_cases h:(c==47)=true
  ·rw[if_pos h,Ip _ (MP s []),Va s []];have:c=47:=by simpa using h
   simp[this]
  ·rw[if_neg h,Va s];simp
theorem Su(s:ae):dW (els s)=s:=by
 unfold els;by_cases h:s=[]
 ·rw[if_pos h,h];rfl
 ·rw[if_neg h,Va];simp
theorem Xuq{a b:ae}(h:els a=els b):a=b:=by rw[←Su a,h,Su]
theorem OC:∀(s p r:ae),(∀c∈s,c≠47)→dx p (s++r)=dx (p++s) r
 | [],p,r,_=>by simp
 |c::s,p,r,h=>by
  have hc:¬(c==47)=true:=by simpa using h c (List.mem_cons_self ..)
  rw[List.cons_append,dx,if_neg hc,OC s _ _ fun x hx=>h x (List.mem_cons_of_mem _ hx)];simp
theorem Xi1:∀(l:List ae),l≠[]→(∀p∈l,∀c∈p,c≠47)→dx [] (dW l)=l
 | [],h,_=>absurd rfl h
 | [p],_,h=>by
   have:=OC p [] [] (h p (by simp));rw[List.append_nil]at this;rw[dW,this];simp[dx]
 |p::q::l,_,h=>by
  rw[Ip p (by simp),OC p [] _ (h p (by simp)),List.nil_append,dx,if_pos (by simp),Xi1 (q::l) (by simp) fun x hx=>h x (List.mem_cons_of_mem _ hx)]
theorem Xup{l:List ae}(h:∀p∈l,∀c∈p,c≠47)(hn:dW l≠[]):els (dW l)=l:=by
 have hl:l≠[]:=fun e=>hn (by rw[e];rfl);rw[els,if_neg hn,Xi1 l hl h]
theorem Xno(h:comp p=true):∀c∈p,c≠47:=by
 intro c hc e;simp only[comp,Bool.and_eq_true,List.all_eq_true]at h;have:=h.2 c hc;rw[e]at this;exact absurd this (by decide)
theorem Xzx(h:comp p=true):p≠[]:=by
 intro e;rw[e]at h;exact absurd h (by decide)
theorem Bj(h:aF s=0):s.length≤200∧(els s).length≤8∧ ∀p∈els s,comp p=true:=by
 unfold aF at h;by_cases h1:200<s.length
 ·rw[if_pos h1]at h;omega
 ·rw[if_neg h1]at h;by_cases h2:8<(els s).length
  ·rw[if_pos h2]at h;omega
  ·rw[if_neg h2]at h;by_cases h3:(els s).all comp=true
   ·exact⟨by omega,by omega,by simpa using h3⟩
   ·rw[if_neg h3]at h;omega
structure Xt where
 s:Int
 o:Int
 n:Int
deriving DecidableEq
structure ay where
 ag:Int
 af:ae
 ai:List At
 target:ae
 size:Int
 aj:ae
 ak:List Xt
deriving DecidableEq
variable{t:List ay}{x e y:ay}
def digits(s:ae):Int:=s.foldl (fun n c=>10*n+((c.toNat:Int)-48)) 0
def fH(s:ae):Bool:=decide (1≤s.length)&&decide (s.length≤10)&& !(decide (1<s.length)&&s.head?==some 48)&&s.all (fun c=>decide (48≤c)&&decide (c≤57))&&decide (digits s≤1000000000)
def bG(e:ay):Bool:=if e.ag=3 then decide (1≤e.target.length)&&decide (e.target.length≤200)else if e.ag=5 then fH e.target else e.target.isEmpty
def cB(x:Xt):Bool:=decide (x.s<0) || decide (255<x.s) || decide (x.o<0) || decide (2147483647<x.o) || decide (x.n<1) || decide (65536<x.n) || (x.s==0&&x.o !=0)
def bM(file:Bool):List Xt→Int
 | []=>0
 |x::l=>if file=false then 1 else if cB x then 2 else bM file l
def fV(l:List Xt):Int:=(l.map Xt.n).sum
def az(e:ay):Int:=
 if e.ag<1∨6<e.ag then 10
 else if aF e.af≠0 then aF e.af
 else if e.af=[]∧e.ag<5 then 1
 else if mq e.ai≠0 then mq e.ai
 else if(e.ai≠[]∧3<e.ag)∨bG e=false then 1
 else if e.size<0∨65536<e.size∨(e.ag≠1∧e.size≠0)then 2
 else if(e.ag=1∧e.aj.length≠32)∨(e.ag≠1∧e.aj≠[])then 1
 else if bM (e.ag==1) e.ak≠0 then bM (e.ag==1) e.ak
 else if fV e.ak≠e.size then 1 else 0
def dC(t:List ay)(p:ae):Option ay:=t.find? fun x=>x.af==p
def aU(t:List ay)(p:ae):Int:=if p=[]then 0 else match dC t p with|none=>9|some x=>if x.ag≠2 then 10 else 0
def jO(p:ae):ae:=dW (els p).dropLast
def eH(t:List ay):Option ay→List ay→Int
 |_,[]=>0
 |q,x::l=>if az x≠0 then az x else if x.ag≠1∧x.ag≠2∧x.ag≠3 then 10 else if(q.any fun y=> !(gU (els y.af) (els x.af)))then 14 else if aU t (jO x.af)≠0 then aU t (jO x.af)else eH t (some x) l
def kv(t:List ay):Int:=eH t none t
def fC(t:List ay):Prop:=t.Pairwise fun x y=>gU (els x.af) (els y.af)=true
structure xR (t:List ay):Prop where
 mr:∀x∈t,az x=0
 ag:∀x∈t,x.ag=1∨x.ag=2∨x.ag=3
 vI:fC t
 up:∀x∈t,aU t (jO x.af)=0
theorem Xpd(t:List ay)(l:List ay):∀q:Option ay,eH t q l=0↔(∀x∈l,az x=0∧(x.ag=1∨x.ag=2∨x.ag=3)∧aU t (jO x.af)=0)∧(∀y,q=some y→ ∀x∈l,gU (els y.af) (els x.af)=true)∧fC l:=by
 induction l with
 |nil=>intro q;simp[eH,fC]
 |cons x l ih=>
  intro q;rw[eH];by_cases h0:az x=0;case neg=>
   rw[if_pos h0];exact⟨fun h=>absurd h h0,fun h=>absurd (h.1 x (List.mem_cons_self ..)).1 h0⟩
  rw[if_neg (by omega)];by_cases h1:x.ag=1∨x.ag=2∨x.ag=3;case neg=>
   rw[if_pos (by omega)];exact⟨fun h=>absurd h (by decide),fun h=>absurd (h.1 x (List.mem_cons_self ..)).2.1 h1⟩
  rw[if_neg (by omega)];by_cases h2:(q.any fun y=> !(gU (els y.af) (els x.af)))=true
  ·rw[if_pos h2];refine⟨fun h=>absurd h (by decide),fun h=> ?_⟩;cases q with
   |none=>simp at h2
   |some y=>
    have:=h.2.1 y rfl x (List.mem_cons_self ..);simp[this]at h2
  rw[if_neg h2];have hq:∀y,q=some y→gU (els y.af) (els x.af)=true:=by
   intro y hy;subst hy;simpa using h2
  by_cases h3:aU t (jO x.af)=0;case neg=>
   rw[if_pos h3];exact⟨fun h=>absurd h h3,fun h=>absurd (h.1 x (List.mem_cons_self ..)).2.2 h3⟩
  rw[if_neg (by omega),ih];constructor
  ·rintro⟨a1,a2,a3⟩;refine⟨?_,?_,List.pairwise_cons.2 ⟨fun r hr=>a2 x rfl r hr,a3⟩⟩
   ·intro r hr;rcases List.mem_cons.1 hr with rfl|hr
    ·exact⟨h0,h1,h3⟩
    ·exact a1 r hr
   ·intro y hy r hr;rcases List.mem_cons.1 hr with rfl|hr
    ·exact hq y hy
    ·exact Dh (hq y hy) (a2 x rfl r hr)
  ·rintro⟨a1,_,a3⟩;obtain⟨b1,b2⟩:=List.pairwise_cons.1 a3;exact⟨fun r hr=>a1 r (List.mem_cons_of_mem _ hr),fun y hy r hr=>by cases hy;exact b1 r hr,b2⟩
theorem Xvc(t:List ay):kv t=0↔xR t:=by
 unfold kv;rw[Xpd];constructor
 ·rintro⟨a1,_,a3⟩;exact⟨fun x hx=>(a1 x hx).1,fun x hx=>(a1 x hx).2.1,a3,fun x hx=>(a1 x hx).2.2⟩
 ·rintro⟨b1,b2,b3,b4⟩;exact⟨fun x hx=>⟨b1 x hx,b2 x hx,b4 x hx⟩,by simp,b3⟩
theorem fC.key(h:fC t)(hx:x∈t)(hy:y∈t)(e:x.af=y.af):x=y:=by
 induction t with
 |nil=>cases hx
 |cons z l ih=>
  obtain⟨h1,h2⟩:=List.pairwise_cons.1 h;rcases List.mem_cons.1 hx with hx|hx<;>rcases List.mem_cons.1 hy with hy|hy
  ·rw[hx,hy]
  ·exact absurd (by rw[←hx,e]) (Io (h1 y hy))
  ·exact absurd (by rw[←hy,e]) (Io (h1 x hx))
  ·exact ih h2 hx hy
theorem fC.ext:∀{A B:List ay},fC A→fC B→(∀x,x∈A↔x∈B)→A=B
 | [],[],_,_,_=>rfl
 | [],b::B,_,_,h=>absurd ((h b).2 (List.mem_cons_self ..)) (by simp)
 |a::A,[],_,_,h=>absurd ((h a).1 (List.mem_cons_self ..)) (by simp)
 |a::A,b::B,hA,hB,h=>by
  obtain⟨a1,a2⟩:=List.pairwise_cons.1 hA;obtain⟨b1,b2⟩:=List.pairwise_cons.1 hB;have e:a=b:=by
   rcases List.mem_cons.1 ((h a).1 (List.mem_cons_self ..))with e|hab
   ·exact e
   ·rcases List.mem_cons.1 ((h b).2 (List.mem_cons_self ..))with e|xA
    ·exact e.symm
    ·have k:=MO (a1 b xA);rw[b1 a hab]at k;exact absurd k (by simp)
  subst e;rw[fC.ext a2 b2 fun x=> ?_];have hx:=h x;rw[List.mem_cons,List.mem_cons]at hx;constructor
  ·intro hm;rcases hx.1 (.inr hm)with e|hm'
   ·subst e;exact absurd rfl (Io (a1 x hm))
   ·exact hm'
  ·intro hm;rcases hx.2 (.inr hm)with e|hm'
   ·subst e;exact absurd rfl (Io (b1 x hm))
   ·exact hm'
theorem FU(h:fC t)(hx:x∈t):dC t x.af=some x:=by
 unfold dC;cases hf:t.find? (fun y=>y.af==x.af)with
 |none=>have:=List.find?_eq_none.1 hf x hx;simp at this
 |some y=>
  have h1:=List.find?_some hf;rw[h.key (List.mem_of_find?_eq_some hf) hx (by simpa using h1)]
theorem Sv(h:dC t p=some x):x∈t∧x.af=p:=⟨List.mem_of_find?_eq_some h,by have:=List.find?_some h;simpa using this⟩
theorem Vb(h:∀x∈t,x.af≠p):dC t p=none:=List.find?_eq_none.2 fun x hx=>by simpa using h x hx
def At.Wf(x:At):Prop:=x.k.length≤9223372036854775807∧x.v.length≤9223372036854775807
abbrev At.val(x:At):Value:= .agg #[S x.k,S x.v]
def kT:Ty At:=Ty.flat 2 (fun x=> [S x.k,S x.v]) (fun _=>rfl) (fun _ u h=>by simp at h;rcases h with rfl|rfl<;>rfl)
theorem uU{l:List At}(h:bf kT I v l)(hw:Ok I w)(i:Nat)(hi:i<l.length):∃x b off cap,l[i]=x∧v= .slice (some ⟨b,off,none⟩) l.length cap∧
 w.cell? ⟨b,off+i*2,none⟩=some (S x.k)∧w.cell? ⟨b,off+i*2+1,none⟩=some (S x.v):=by
 obtain⟨b,off,cap,cs,hv,iY,hc⟩:=h.at_ hw hi;have lv:cs=[S l[i].k,S l[i].v]:=iY;subst lv;exact⟨_,b,off,cap,rfl,hv,hc 0 _ rfl,hc 1 _ rfl⟩
def mE:Ty Xt:=Ty.flat 3 (fun x=> [.int .i64 x.s,.int .i64 x.o,.int .i64 x.n]) (fun _=>rfl) (fun _ u h=>by simp at h;rcases h with rfl|rfl|rfl<;>rfl)
theorem wo{l:List Xt}(h:bf mE I v l)(hw:Ok I w)(i:Nat)(hi:i<l.length):∃x b off cap,l[i]=x∧v= .slice (some ⟨b,off,none⟩) l.length cap∧
 w.cell? ⟨b,off+i*3,none⟩=some (.int .i64 x.s)∧w.cell? ⟨b,off+i*3+1,none⟩=some (.int .i64 x.o)∧w.cell? ⟨b,off+i*3+2,none⟩=some (.int .i64 x.n):=by
 obtain⟨b,off,cap,cs,hv,iY,hc⟩:=h.at_ hw hi;have lv:cs=[.int .i64 l[i].s,.int .i64 l[i].o,.int .i64 l[i].n]:=iY;subst lv;exact⟨_,b,off,cap,rfl,hv,hc 0 _ rfl,hc 1 _ rfl,hc 2 _ rfl⟩
def Xt.Wf(x:Xt):Prop:=(-9223372036854775808≤x.s∧x.s≤9223372036854775807)∧(-9223372036854775808≤x.o∧x.o≤9223372036854775807)∧(-9223372036854775808≤x.n∧x.n≤9223372036854775807)
structure ay.Wf (e:ay):Prop where
 k0: -9223372036854775808≤e.ag
 k1:e.ag≤9223372036854775807
 af:e.af.length≤9223372036854775807
 ai:∀x∈e.ai,x.Wf
 target:e.target.length≤9223372036854775807
 s0: -9223372036854775808≤e.size
 s1:e.size≤9223372036854775807
 aj:e.aj.length≤9223372036854775807
 ak:∀x∈e.ak,x.Wf
abbrev dB(e:ay)(va vx:Value):List Value:=[.int .i64 e.ag,S e.af,va,S e.target,.int .i64 e.size,S e.aj,vx]
abbrev eT(e:ay)(va vx:Value):Value:= .agg #[.int .i64 e.ag,S e.af,va,S e.target,.int .i64 e.size,S e.aj,vx]
def bC:Ty ay where
 size:=7
 rd:=fun I cs e=> ∃va vx,cs=dB e va vx∧bf kT I va e.ai∧bf mE I vx e.ak
 len:=fun⟨_,_,h,_⟩=>by rw[h];rfl
 one:=fun⟨va,vx,h,h1,h2⟩ u hu=>by
  rw[h]at hu;simp at hu;rcases hu with rfl|rfl|rfl|rfl|rfl|rfl|rfl<;>first|rfl|exact h1.one|exact h2.one
 mono:=fun hI ⟨va,vx,h,h1,h2⟩=>⟨va,vx,h,h1.mono hI,h2.mono hI⟩
structure AB (w:World) (b o:Nat) (e:ay) (va vx:Value):Prop where
 c0:w.cell? ⟨b,o,none⟩=some (.int .i64 e.ag)
 c1:w.cell? ⟨b,o+1,none⟩=some (S e.af)
 c2:w.cell? ⟨b,o+2,none⟩=some va
 c3:w.cell? ⟨b,o+3,none⟩=some (S e.target)
 c4:w.cell? ⟨b,o+4,none⟩=some (.int .i64 e.size)
 c5:w.cell? ⟨b,o+5,none⟩=some (S e.aj)
 c6:w.cell? ⟨b,o+6,none⟩=some vx
theorem AB.aA{o:Nat}{va vx:Value}(h:AB w b o e va vx)(hb:Below w.heap.size w w'):AB w' b o e va vx:=
 ⟨dQ hb h.c0,dQ hb h.c1,dQ hb h.c2,dQ hb h.c3,dQ hb h.c4,dQ hb h.c5,dQ hb h.c6⟩
theorem oG{l:List ay}(h:bf bC I v l)(hw:Ok I w)(i:Nat)(hi:i<l.length):∃x va vx b off cap,l[i]=x∧v= .slice (some ⟨b,off,none⟩) l.length cap∧
 AB w b (off+i*7) x va vx∧bf kT I va x.ai∧bf mE I vx x.ak:=by
 obtain⟨b,off,cap,cs,hv,⟨va,vx,iY,h1,h2⟩,hc⟩:=h.at_ hw hi;subst iY;exact⟨_,va,vx,b,off,cap,rfl,hv,⟨hc 0 _ rfl,hc 1 _ rfl,hc 2 _ rfl,hc 3 _ rfl,hc 4 _ rfl,hc 5 _ rfl,hc 6 _ rfl⟩,h1,h2⟩
theorem Xsg:∀(s:ae),Lib.split s [47]=dx [] s:=by
 have key:∀(n:Nat) (s:ae),s.length≤n→Lib.split s [47]=dx [] s:=by
  intro n;induction n with
  |zero=>
   intro s h;have:s=[]:=List.eq_nil_of_length_eq_zero (by omega);subst this;rfl
  |succ n ih=>
   intro s h;rcases Lib.index_spec s [47]with⟨h1,h2⟩|⟨i,h1,h2,h3,h4⟩
   ·have hn:∀c∈s,c≠47:=by
     intro c hc e;obtain⟨j,hj,rfl⟩:=List.getElem_of_mem hc;have:=h2 j (by omega);unfold Lib.occAt at this;rw[List.drop_eq_getElem_cons hj,e]at this;simp at this
    have h5:=OC s [] [] hn;rw[List.append_nil,List.nil_append]at h5;rw[h5,Lib.split,Lib.count_miss h1];rfl
   ·have hi:i<s.length∧s[i]?=some 47:=by
     have h6:=Lib.occAt_head rfl h3;exact⟨(List.getElem?_eq_some_iff.1 h6).1,h6⟩
    have hn:∀c∈s.take i,c≠47:=by
     intro c hc e;obtain⟨j,hj,rfl⟩:=List.getElem_of_mem hc;have C7:j<i:=by simp at hj;omega
     have:=h4 j C7;unfold Lib.occAt at this;rw[List.drop_eq_getElem_cons (by omega)]at this;rw[List.getElem_take]at e;rw[e]at this;simp at this
    have hs:s=s.take i++47::s.drop (i+1):=by
     conv=>lhs;rw[←List.take_append_drop i s,List.drop_eq_getElem_cons hi.1]
     have:=hi.2;rw[List.getElem?_eq_getElem hi.1]at this;rw[Option.some.inj this]
    have h5:=OC (s.take i) [] (47::s.drop (i+1)) hn;rw[←hs,List.nil_append]at h5;rw[h5,dx,if_pos (by rfl),←ih (s.drop (i+1)) (by rw[List.length_drop];omega)];rw[Lib.split,Lib.count_hit (by simp) h1,Nat.add_comm,Lib.splitK,if_neg (by rw[h1];simp),h1];rfl
 exact fun s=>key s.length s (Qn _)
theorem Xwq(l:List ae):Lib.join l [47]=dW l:=by
 induction l with
 |nil=>rfl
 |cons p l ih=>
  cases l with
  |nil=>simp[Lib.join,List.intercalate,dW]
  |cons q l=>
   rw[dW,←ih];simp[Lib.join,List.intercalate]
def bY(r:Nat):Bool:=!(decide (97≤r)&&decide (r≤122) || decide (48≤r)&&decide (r≤57) || decide (r=46) || decide (r=95) || decide (r=45))
theorem Vd(c:UInt8):bK c=!(bY c.toNat):=by
 have e:∀n:Nat,n<256→(c==UInt8.ofNat n)=decide (c.toNat=n):=fun n hn=>by
  rw[Bool.eq_iff_iff,beq_iff_eq,decide_eq_true_iff];constructor
  ·intro h;rw[h];simp;omega
  ·intro h;have:c=UInt8.ofNat c.toNat:=by simp
   rw[this,h]
 unfold bK bY;rw[show(46:UInt8)=UInt8.ofNat 46 from rfl,show(95:UInt8)=UInt8.ofNat 95 from rfl,show(45:UInt8)=UInt8.ofNat 45 from rfl,e 46 (by omega),e 95 (by omega),e 45 (by omega)];simp[UInt8.le_iff_toNat_le]
theorem Xee{r:Nat}(h:128≤r):bY r=true:=by
 unfold bY;simp;omega
theorem Xww(s:ByteArray):∀(f pos:Nat),s.size≤pos+f→decide (0≤Lib.idxFuncFrom bY true s f pos)=!((s.data.toList.drop pos).all bK):=by
 intro f;induction f with
 |zero=>
  intro pos h;have hl:s.data.toList.length=s.size:=Array.length_toList;rw[List.drop_of_length_le (by omega)];rfl
 |succ f ih=>
  intro pos h;have hl:s.data.toList.length=s.size:=Array.length_toList;rw[Lib.idxFuncFrom];by_cases hp:pos<s.size
  ·rw[if_pos hp,List.drop_eq_getElem_cons (by omega),List.all_cons];have hb:s.data.toList[pos]'(by omega)=s[pos]'hp:=by
    rw[Array.getElem_toList];rfl
   rw[hb];by_cases ha:(s[pos]'hp).toNat<128
   ·rw[decode_ascii s pos hp ha];have hk:=Vd (s[pos]'hp);cases hn:bY (s[pos]'hp).toNat
    ·rw[if_neg (by simp),hk,hn,ih (pos+1) (by omega)];simp
    ·rw[if_pos rfl,hk,hn];simp
   ·have hd:=decode_high s pos hp (by omega);rw[if_pos (Xee hd.1),Vd,Xee (by omega)];simp
  ·rw[if_neg hp,List.drop_of_length_le (by omega)];rfl
theorem Xwx(s:ae):decide (0≤Lib.idxFunc bY true ⟨s.toArray⟩)=!(s.all bK):=by
 have:=Xww ⟨s.toArray⟩ (⟨s.toArray⟩:ByteArray).size 0 (by omega);rw[Lib.idxFunc,this];simp
def cmpL(a b:List ae):Int:=if gU a b then -1 else if gU b a then 1 else 0
theorem Xva(a b:ae):ic a b=cmpL (els a) (els b):=rfl
theorem Xnr(x:ae)(a b:List ae):cmpL (x::a) (x::b)=cmpL a b:=by
 unfold cmpL;rw[gU,gU,Df];simp
theorem Xg8{x y:ae}(h:Op.bytesLess x y=true)(a b:List ae):cmpL (x::a) (y::b)= -1:=by
 unfold cmpL;rw[gU,h];simp
theorem Xg9{x y:ae}(h:Op.bytesLess y x=true)(a b:List ae):cmpL (x::a) (y::b)=1:=by
 unfold cmpL;rw[gU,gU,h,MM h];have:(x==y)=false:=by simpa using(MN h).symm
 rw[this];simp
theorem Xnq{a b:List ae}{k:Nat}(h:a.take k=b.take k)(ha:k≤a.length)(hb:k≤b.length):cmpL a b=cmpL (a.drop k) (b.drop k):=by
 induction k generalizing a b with
 |zero=>rfl
 |succ k ih=>
  cases a with
  |nil=>simp at ha
  |cons x a=>
   cases b with
   |nil=>simp at hb
   |cons y b=>
    simp only[List.take_succ_cons,List.cons.injEq]at h;obtain⟨rfl,h⟩:=h;rw[Xnr,List.drop_succ_cons,List.drop_succ_cons];exact ih h (by simpa using ha) (by simpa using hb)
theorem gG{t:TypeId}(h:P.underlying t=some .string)(s:ae)(i:Int)(j:Nat)(hi:i=(j:Int))(hj:j<s.length)(W:World):(Instr.index t (S s) (.int .i64 i)).run P W= .ok (.int .u8 ((s.getD j 0).toNat:Nat)) W:=by
 subst hi;rw[S,run_index_string W t _ .i64 _ h];have eU:(⟨s.toArray⟩:ByteArray).size=s.length:=by simp[ByteArray.size]
 rw[dif_pos ⟨by omega,by rw[eU];omega⟩];have e:(⟨s.toArray⟩:ByteArray)[((j:Nat):Int).toNat]'(by rw[eU];simpa using hj)=s.getD j 0:=by
  simp[List.getD,List.getElem?_eq_getElem hj,ByteArray.getElem_eq_getElem_data]
 rw[e]
theorem Fb{l:List ae}(h:bf gq I v l)(hw:Ok I w)(i:Nat)(hi:i<l.length):∃s b off cap,l[i]=s∧v= .slice (some ⟨b,off,none⟩) l.length cap∧
 w.cell? ⟨b,off+i,none⟩=some (S s):=by
 obtain⟨b,off,cap,cs,hv,iY,hc⟩:=h.at_ hw hi;have lv:cs=[S l[i]]:=iY;subst lv;have:=hc 0 _ rfl;exact⟨_,b,off,cap,rfl,hv,by simpa[gq,Ty.flat]using this⟩
theorem Xvw:(Tryz.prog.info? 9).map (fun i=>(i.zero,i.size,i.bytes))=some (some (.string ⟨#[]⟩),1,16):=by kernel_rfl
theorem JW:fq Tryz.prog 60 9 gq 16:=fq.of Tryz.underlying60 Xvw rfl (by decide) rfl
theorem X0o(c:UInt8)(n:Nat)(hn:n<256):(((c.toNat:Nat):Int)==(n:Int))=(c==UInt8.ofNat n):=by
 rw[Bool.eq_iff_iff,beq_iff_eq,beq_iff_eq];constructor
 ·intro h;have h':c.toNat=n:=by omega
  rw[←h'];simp
 ·intro h;rw[h];simp;omega
theorem MQ(I:IH)(s:ae)(hs:s.length≤4294967280)(w:World)(hw:Ok I w):
 Calls Tryz.prog 166 #[S s] w (FT gq I w (els s)):=by
 have eG:∀b,w.heap.size≤b→I b=none:=fun b hb=>hw.fresh hb;have jw:=Qh eG;clear eG;have bB:=Qh (show aM gq 9 I (w.alloc (.cells #[] 9)) w.heap.size (.slice (some ⟨w.heap.size,0,none⟩) 0 0) []from⟨[],World.ownsRow_made w #[] 0 (Qn _) (Nat.zero_le _) (by simp),bR.nil _ _⟩);by_cases h0:s=[]
 ·have Hs:=Qh (show els s=[] by rw[h0];rfl);have f1:(s==[])=true:=by rw[h0];rfl
  have f2:s.isEmpty=true:=by rw[h0];rfl
  have f3:(!s.isEmpty)=false:=by rw[h0];rfl
  clear h0;go_enter Tryz.func166,Tryz.ntmps166
  go_wp2;go_ret;obtain⟨I',jo,jA,kG,_⟩:=bB.O.freeze (hw.alloc _) jw.O;rw[Hs.O];exact⟨_,I',rfl,(Qb _ _).alloc (Qn _) _,jo,jA,kG⟩
 ·have Hs:=Qh (show els s=dx [] s by rw[els,if_neg h0]);have f1:(s==[])=false:=by simpa using h0
  have f2:s.isEmpty=false:=by cases s<;>simp_all
  have f3:(!s.isEmpty)=true:=by rw[f2];rfl
  clear h0;go_enter Tryz.func166,Tryz.ntmps166
  go_wp2_with fail
  go_loopw [3,4,5] (fun s3 s4 s5 wr=> ∃(k:Nat) (out:List ae) (p:ae),k≤s.length∧s5= .int .i64 k∧s4=S p∧aM gq 9 I wr w.heap.size s3 out∧out.length≤k∧p.length≤k∧out++dx p (s.drop k)=dx [] s∧Below w.heap.size w wr) (fun _ _ i _=>s.length-(intOf i).toNat)
  case atStart=>exact⟨0,[],[],Nat.zero_le _,rfl,rfl,bB.O,Qn _,Qn _,rfl,(Qb _ _).alloc (Qn _) _⟩
  case round=>
   clear bB;obtain⟨k,out,p,hk,rfl,rfl,bJ,EG,mK,hr,hb⟩:=hrel;have Hr:=Qh hr;have bD:=Qh bJ;have dz:Ok I wr:=hw.below (Qn _) hb;clear hr bJ;by_cases hlt:k<s.length
   ·have hx:=gG Tryz.underlying9 s (k:Int) k rfl hlt;have hd:s.drop k=s.getD k 0::s.drop (k+1):=by rw[List.drop_eq_getElem_cons hlt];simp[List.getD,hlt]
    have qJ:(s.drop k).take 1=[s.getD k 0]:=by rw[hd];rfl
    have nG:=Qh qJ;have fO:dx [] s=out++(if s.getD k 0==47 then p::dx [] (s.drop (k+1))else dx (p++[s.getD k 0]) (s.drop (k+1))):=by rw[←Hr.O,hd];rfl
    have he:=X0o (s.getD k 0) 47 (by decide);generalize hg:s.getD k 0=ch at hx fO he nG;have bB:=Qh fO;clear hd qJ fO hg;have uF:IntKind.i64.wrap ((k:Int)+1)=(k:Int)+1:=IntWalk.i64_in _ (by omega);cases hc:(ch==47)
    ·rw[show(UInt8.ofNat 47)=47 from rfl,hc]at he;have gN:=Qh (show out++dx (p++[ch]) (s.drop (k+1))=dx [] s by rw[bB.O,hc];rfl);clear hc;go_wp2;go_roundw;case rel=>exact⟨k+1,out,p++[ch],by omega,by go_num,(by first|rfl|(simp[S,←nG.O];done)|(congr;simp[←nG.O])),bD.O,by omega,(by simp;omega),gN.O,hb⟩
     case measure=>simp[intOf];omega
    ·rw[show(UInt8.ofNat 47)=47 from rfl,hc]at he;have gN:=Qh (show(out++[p])++dx [] (s.drop (k+1))=dx [] s by rw[bB.O,hc];simp);clear hc;go_wp2_with (at_builtin;refine oq (w0:=wr) JW rfl _ _ rfl _ _ _ rfl bD.O p [S p] _ rfl rfl (by omega) (by omega) (Below.size hb) ?_)
     intro v9 w9 dF fw;have iq:=Below.own hb fw bD.O (Qn _) (Below.size hb);go_wp2;go_roundw;case rel=>exact⟨k+1,out++[p],[],by omega,by go_num,rfl,dF,(by simp;omega),(by simp),gN.O,iq⟩
     case measure=>simp[intOf];omega
   ·have sw:=Qh (show out++[p]=dx [] s by rw[←Hr.O,List.drop_of_length_le (by omega)];rfl);go_wp2_with (at_builtin;refine oq (w0:=wr) JW rfl _ _ rfl _ _ _ rfl bD.O p [S p] _ rfl rfl (by omega) (by omega) (Below.size hb) ?_)
    intro v9 w9 dF fw;have iq:=Below.own hb fw bD.O (Qn _) (Below.size hb);have FV:Ok I w9:=Ok.own dz fw bD.O jw.O;have OD:=Qh dF;clear dF fw;go_wp2;go_ret;obtain⟨I',jo,jA,kG,_⟩:=OD.O.freeze FV jw.O;rw[Hs.O,←sw.O];exact⟨_,I',rfl,iq,jo,jA,kG⟩
theorem Xmx(c:UInt8):bK c=(decide (97≤c.toNat)&&decide (c.toNat≤122) || decide (48≤c.toNat)&&decide (c.toNat≤57) || decide (c.toNat=46) || decide (c.toNat=95) || decide (c.toNat=45)):=by
 rw[Vd,bY,Bool.not_not]
theorem Xh9(s:ae)(hs:s.length≤9223372036854775807)(w:World):
 Calls Tryz.prog 216 #[S s] w fun e w'=>e= .returned (.bool (comp s))∧Below w.heap.size w w':=by
 by_cases h1:1≤s.length;case neg=>
  have lM:decide (0<s.length)=false:=Qf (by omega);have kw:=Qh (show comp s=false by simp[comp,h1]);go_enter Tryz.func216,Tryz.ntmps216
  go_wp2_with fail
  go_loop [3,4] (fun s3 s4=>s3= .bool false∧s4= .int .i64 0) (fun _ _=>0)
  case atStart=>exact⟨rfl,rfl⟩
  case round=>
   obtain⟨rfl,rfl⟩:=hrel;go_wp2;go_ret;exact⟨gZ kw.O.symm,Qb _ _⟩
 have lM:decide (0<s.length)=true:=Qt (by omega);by_cases vW:s.length≤32;case neg=>
  have oP:decide (s.length≤32)=false:=Qf vW;have kw:=Qh (show comp s=false by simp[comp,vW]);go_enter Tryz.func216,Tryz.ntmps216
  go_wp2_with fail
  go_loop [3,4] (fun s3 s4=>s3= .bool false∧s4= .int .i64 0) (fun _ _=>0)
  case atStart=>exact⟨rfl,rfl⟩
  case round=>
   obtain⟨rfl,rfl⟩:=hrel;go_wp2;go_ret;exact⟨gZ kw.O.symm,Qb _ _⟩
 have oP:decide (s.length≤32)=true:=Qt vW;by_cases EH:s=[46];case pos=>
  subst EH;have kw:=Qh (show comp [46]=false by rfl);clear hs h1 lM vW oP;go_enter Tryz.func216,Tryz.ntmps216
  go_wp2_with fail
  go_loop [3,4] (fun s3 s4=>s3= .bool false∧s4= .int .i64 0) (fun _ _=>0)
  case atStart=>exact⟨rfl,rfl⟩
  case round=>
   obtain⟨rfl,rfl⟩:=hrel;go_wp2;go_ret;exact⟨gZ kw.O.symm,Qb _ _⟩
 have f46:(s !=[46])=true:=by simpa using EH
 have Ve:(s==[46])=false:=by simpa using EH
 by_cases HZ:s=[46,46];case pos=>
  subst HZ;have kw:=Qh (show comp [46,46]=false by rfl);clear hs h1 lM vW oP EH f46 Ve;go_enter Tryz.func216,Tryz.ntmps216
  go_wp2_with fail
  go_loop [3,4] (fun s3 s4=>s3= .bool false∧s4= .int .i64 0) (fun _ _=>0)
  case atStart=>exact⟨rfl,rfl⟩
  case round=>
   obtain⟨rfl,rfl⟩:=hrel;go_wp2;go_ret;exact⟨gZ kw.O.symm,Qb _ _⟩
 have f47:(s !=[46,46])=true:=by simpa using HZ
 have g47:(s==[46,46])=false:=by simpa using HZ
 have kw:=Qh (show comp s=s.all bK by simp[comp,h1,vW,f46,f47]);clear EH HZ;go_enter Tryz.func216,Tryz.ntmps216
 go_wp2_with fail
 go_loop [3,4] (fun s3 s4=> ∃(k:Nat) (b:Bool),k≤s.length∧s4= .int .i64 k∧s3= .bool b∧(s.take k).all bK=b) (fun _ i=>s.length-(intOf i).toNat)
 case atStart=>exact⟨0,true,Nat.zero_le _,rfl,rfl,rfl⟩
 case round=>
  obtain⟨k,b,hk,rfl,rfl,hr⟩:=hrel;have Hr:=Qh hr;clear hr;cases b
  ·have kK:=Qh (show s.all bK=false by
    cases h:s.all bK with
    |false=>rfl
    |true=>
     have:(s.take k).all bK=true:=List.all_eq_true.2 fun x hx=>List.all_eq_true.1 h x (List.mem_of_mem_take hx);rw[Hr.O]at this;exact absurd this (by simp))
   go_wp2;go_ret;exact⟨gZ (by rw[kw.O,kK.O]),Qb _ _⟩
  ·by_cases hlt:k<s.length
   ·have hx:=gG Tryz.underlying9 s (k:Int) k rfl hlt;have ni:=Xmx (s.getD k 0);have nG:=Qh (show s.take (k+1)=s.take k++[s.getD k 0] by rw[List.take_succ_eq_append_getElem hlt];simp[List.getD,hlt]);have su:(s.getD k 0).toNat<256:=(s.getD k 0).toNat_lt;generalize s.getD k 0=ch at ni nG hx su;generalize ch.toNat=c at ni hx su;rcases(show(97≤c∧c≤122)∨122<c∨(48≤c∧c≤57)∨c=46∨c=95∨c=45∨(c<48∧c≠46∧c≠45)∨(57<c∧c<97∧c≠95) by omega)with hc|hc|hc|hc|hc|hc|hc|hc
    ·have d97:decide (97≤(c:Int))=true:=by simp;omega
     have d122:decide ((c:Int)≤122)=true:=by simp;omega
     have d48:decide (48≤(c:Int))=true:=by simp;omega
     have d57:decide ((c:Int)≤57)=false:=by simp;omega
     have n46:((c:Int)==46)=false:=by simp;omega
     have n95:((c:Int)==95)=false:=by simp;omega
     have n45:((c:Int)==45)=false:=by simp;omega
     have ow:=Qh (show bK ch=true by rw[ni];simp;omega);clear ni hc;go_wp2;go_round;case rel=>exact⟨k+1,true,by omega,by go_num,rfl,by rw[nG.O,List.all_append,Hr.O];simp[ow.O]⟩
     case measure=>simp[intOf];omega
    ·have d97:decide (97≤(c:Int))=true:=by simp;omega
     have d122:decide ((c:Int)≤122)=false:=by simp;omega
     have d48:decide (48≤(c:Int))=true:=by simp;omega
     have d57:decide ((c:Int)≤57)=false:=by simp;omega
     have n46:((c:Int)==46)=false:=by simp;omega
     have n95:((c:Int)==95)=false:=by simp;omega
     have n45:((c:Int)==45)=false:=by simp;omega
     have ow:=Qh (show bK ch=false by rw[ni];simp;omega);clear ni hc;go_wp2;go_round;case rel=>exact⟨k+1,false,by omega,by go_num,rfl,by rw[nG.O,List.all_append,Hr.O];simp[ow.O]⟩
     case measure=>simp[intOf];omega
    ·have d97:decide (97≤(c:Int))=false:=by simp;omega
     have d122:decide ((c:Int)≤122)=true:=by simp;omega
     have d48:decide (48≤(c:Int))=true:=by simp;omega
     have d57:decide ((c:Int)≤57)=true:=by simp;omega
     have n46:((c:Int)==46)=false:=by simp;omega
     have n95:((c:Int)==95)=false:=by simp;omega
     have n45:((c:Int)==45)=false:=by simp;omega
     have ow:=Qh (show bK ch=true by rw[ni];simp;omega);clear ni hc;go_wp2;go_round;case rel=>exact⟨k+1,true,by omega,by go_num,rfl,by rw[nG.O,List.all_append,Hr.O];simp[ow.O]⟩
     case measure=>simp[intOf];omega
    ·have d97:decide (97≤(c:Int))=false:=by simp;omega
     have d122:decide ((c:Int)≤122)=true:=by simp;omega
     have d48:decide (48≤(c:Int))=false:=by simp;omega
     have d57:decide ((c:Int)≤57)=true:=by simp;omega
     have n46:((c:Int)==46)=true:=by simp;omega
     have n95:((c:Int)==95)=false:=by simp;omega
     have n45:((c:Int)==45)=false:=by simp;omega
     have ow:=Qh (show bK ch=true by rw[ni];simp;omega);clear ni hc;go_wp2;go_round;case rel=>exact⟨k+1,true,by omega,by go_num,rfl,by rw[nG.O,List.all_append,Hr.O];simp[ow.O]⟩
     case measure=>simp[intOf];omega
    ·have d97:decide (97≤(c:Int))=false:=by simp;omega
     have d122:decide ((c:Int)≤122)=true:=by simp;omega
     have d48:decide (48≤(c:Int))=true:=by simp;omega
     have d57:decide ((c:Int)≤57)=false:=by simp;omega
     have n46:((c:Int)==46)=false:=by simp;omega
     have n95:((c:Int)==95)=true:=by simp;omega
     have n45:((c:Int)==45)=false:=by simp;omega
     have ow:=Qh (show bK ch=true by rw[ni];simp;omega);clear ni hc;go_wp2;go_round;case rel=>exact⟨k+1,true,by omega,by go_num,rfl,by rw[nG.O,List.all_append,Hr.O];simp[ow.O]⟩
     case measure=>simp[intOf];omega
    ·have d97:decide (97≤(c:Int))=false:=by simp;omega
     have d122:decide ((c:Int)≤122)=true:=by simp;omega
     have d48:decide (48≤(c:Int))=false:=by simp;omega
     have d57:decide ((c:Int)≤57)=true:=by simp;omega
     have n46:((c:Int)==46)=false:=by simp;omega
     have n95:((c:Int)==95)=false:=by simp;omega
     have n45:((c:Int)==45)=true:=by simp;omega
     have ow:=Qh (show bK ch=true by rw[ni];simp;omega);clear ni hc;go_wp2;go_round;case rel=>exact⟨k+1,true,by omega,by go_num,rfl,by rw[nG.O,List.all_append,Hr.O];simp[ow.O]⟩
     case measure=>simp[intOf];omega
    ·have d97:decide (97≤(c:Int))=false:=by simp;omega
     have d122:decide ((c:Int)≤122)=true:=by simp;omega
     have d48:decide (48≤(c:Int))=false:=by simp;omega
     have d57:decide ((c:Int)≤57)=true:=by simp;omega
     have n46:((c:Int)==46)=false:=by simp;omega
     have n95:((c:Int)==95)=false:=by simp;omega
     have n45:((c:Int)==45)=false:=by simp;omega
     have ow:=Qh (show bK ch=false by rw[ni];simp;omega);clear ni hc;go_wp2;go_round;case rel=>exact⟨k+1,false,by omega,by go_num,rfl,by rw[nG.O,List.all_append,Hr.O];simp[ow.O]⟩
     case measure=>simp[intOf];omega
    ·have d97:decide (97≤(c:Int))=false:=by simp;omega
     have d122:decide ((c:Int)≤122)=true:=by simp;omega
     have d48:decide (48≤(c:Int))=true:=by simp;omega
     have d57:decide ((c:Int)≤57)=false:=by simp;omega
     have n46:((c:Int)==46)=false:=by simp;omega
     have n95:((c:Int)==95)=false:=by simp;omega
     have n45:((c:Int)==45)=false:=by simp;omega
     have ow:=Qh (show bK ch=false by rw[ni];simp;omega);clear ni hc;go_wp2;go_round;case rel=>exact⟨k+1,false,by omega,by go_num,rfl,by rw[nG.O,List.all_append,Hr.O];simp[ow.O]⟩
     case measure=>simp[intOf];omega
   ·have aG:s.take k=s:=List.take_of_length_le (by omega);rw[aG]at Hr;clear aG;go_wp2;go_ret;exact⟨gZ (by rw[kw.O,Hr.O]),Qb _ _⟩
theorem Xrm{l:List ae}(q:ae)(h:l≠[]):dW (l++[q])=dW l++47::q:=by
 induction l with
 |nil=>exact absurd rfl h
 |cons p l ih=>
  cases l with
  |nil=>rfl
  |cons r l=>
   rw[List.cons_append,Ip p (by simp),Ip p (by simp),ih (by simp)];simp
theorem Xej:∀(a b:List ae),(dW a).length≤(dW (a++b)).length
 | [],_=>Nat.zero_le _
 | [p],[]=>Qn _
 | [p],q::b=>by
   rw[List.singleton_append,show dW [p]=p from rfl,Ip p (show q::b≠[] by simp)];simp
 |p::q::a,b=>by
  have:=Xej (q::a) b;rw[List.cons_append,Ip p (by simp),Ip p (by simp)];simp only[List.length_append,List.length_cons];omega
theorem Vf(l:List ae)(k:Nat):(dW (l.take k)).length≤(dW l).length:=by
 conv=>rhs;rw[←List.take_append_drop k l]
 exact Xej _ _
theorem Xrb(I:IH)(v:Value)(l:List ae)(hv:bf gq I v l)(hj:(dW l).length≤4294967296)(w:World)(hw:Ok I w):
 Calls Tryz.prog 168 #[v] w fun e w'=>e= .returned (S (dW l))∧Below w.heap.size w w':=by
 have hlen:=hv.dh;obtain⟨ao,cap,rfl,dD,il,_⟩:=id hv;have Hv:=Qh hv;clear hv;have Hj:=Qh hj;go_enter Tryz.func168,Tryz.ntmps168
 go_wp2_with fail
 go_loopw [3,4] (fun s3 s4 wr=> ∃(k:Nat) (p:ae),k≤l.length∧s4= .int .i64 k∧s3=S p∧dW (l.take k)=p∧Below w.heap.size w wr) (fun _ i _=>l.length-(intOf i).toNat)
 case atStart=>exact⟨0,[],Nat.zero_le _,rfl,rfl,rfl,Qb _ _⟩
 case round=>
  obtain⟨k,p,hk,rfl,rfl,hr,hb⟩:=hrel;have Hr:=Qh hr;clear hr;have dz:Ok I wr:=hw.below (Qn _) hb;by_cases hlt:k<l.length
  ·obtain⟨q,b,off,cap',C8,di,hc⟩:=Fb Hv.O dz k hlt;cases di;have nG:=Qh (show l.take (k+1)=l.take k++[q] by rw[List.take_succ_eq_append_getElem hlt,C8]);have Jz:=Vf l (k+1);have Hjk:=Qh Jz;clear C8 Jz;by_cases qV:k=0
   ·have hd:decide (0<k)=false:=Qf (by omega);have Hn:=Qh (show dW (l.take (k+1))=p++q by rw[nG.O,←Hr.O,qV];simp[dW]);have pg:k<1:=by omega
    have C9:p.length+q.length≤4294967296:=by have:=Hjk.O;rw[Hn.O]at this;simp at this;omega
    clear qV hd;go_wp2;go_roundw;case rel=>exact⟨k+1,p++q,by omega,by go_num,(by first|rfl|simp),Hn.O,hb⟩
    case measure=>simp[intOf];omega
   ·have hd:decide (0<k)=true:=Qt (by omega);have Hn:=Qh (show dW (l.take (k+1))=p++[47]++q by
     rw[nG.O,Xrm q (fun e=>by have:=congrArg List.length e;rw[List.length_take]at this;simp only[List.length_nil]at this;omega),Hr.O];simp)
    have pg:0<k:=by omega
    have C9:p.length+q.length+1≤4294967296:=by have:=Hjk.O;rw[Hn.O]at this;simp at this;omega
    clear qV hd;go_wp2;go_roundw;case rel=>exact⟨k+1,p++[47]++q,by omega,by go_num,(by first|rfl|simp),Hn.O,hb⟩
    case measure=>simp[intOf];omega
  ·have Hn:=Qh (show dW l=p by rw[←Hr.O,List.take_of_length_le (by omega)]);go_wp2;go_ret;exact⟨FR Hn.O.symm,hb⟩
theorem bf.xS{l:List α}{ao:Option Addr}{m cap:Nat}(h:bf T I (.slice ao m cap) l)(hn:n≤l.length):bf T I (.slice ao n cap) (l.take n):=by
 obtain⟨ao',cap',e,h1,h2,h3⟩:=h;injection e with e1 e2 e3
 subst e1 e3;have hl:(l.take n).length=n:=by rw[List.length_take,Nat.min_eq_left hn]
 refine⟨_,_,by rw[hl],by omega,h2,fun h0=> ?_⟩;obtain⟨b,off,arr,k1,k2,k3⟩:=h3 (by omega);refine⟨b,off,arr,k1,k2,fun i hi=> ?_⟩;obtain⟨cs,c1,c2⟩:=k3 i (by omega);exact⟨cs,by rw[List.getElem_take];exact c1,c2⟩
theorem Sw:∀(s p:ae) (q:ae),q∈dx p s→q.length≤p.length+s.length
 | [],p,q,h=>by
   rw[dx]at h;simp at h;subst h;simp
 |c::s,p,q,h=>by
  rw[dx]at h;split at h
  ·rcases List.mem_cons.1 h with rfl|h
   ·simp only[List.length_cons];omega
   ·have:=Sw s [] q h;simp only[List.length_cons,List.length_nil]at this ⊢;omega
  ·have:=Sw s _ q h;simp only[List.length_append,List.length_cons,List.length_nil]at this ⊢;omega
theorem Xuo{q:ae}(h:q∈els s):q.length≤s.length:=by
 unfold els at h;split at h
 ·exact absurd h (by simp)
 ·have:=Sw s [] q h;simpa using this
theorem Sy(I:IH)(s:ae)(w:World)(hw:Ok I w):
 Calls Tryz.prog 151 #[S s] w fun e w'=>e= .returned (.int .i64 (aF s))∧Below w.heap.size w w':=by
 by_cases Vg:s.length≤200;case neg=>
  have hd:decide (200<s.length)=true:=Qt (by omega);have Hp:=Qh (show aF s=6 by rw[aF,if_pos (by omega)]);go_enter Tryz.func151,Tryz.ntmps151
  go_wp2;go_ret;exact⟨bT Hp.O.symm,Qb _ _⟩
 have hd:decide (200<s.length)=false:=Qf (by omega);have Bl:=Qh (fun(q:ae) (h:q∈els s)=>Xuo h);have Hp:=Qh (show aF s=if 8<(els s).length then 6 else if(els s).all comp then 0 else 7 by rw[aF,if_neg (by omega)]);go_enter Tryz.func151,Tryz.ntmps151
 go_wp2_with fail
 refine(MQ I s (by omega) _ hw).mono ?_;generalize els s=l at Bl Hp;rintro e w1 ⟨v1,I1,rfl,au,fP,aB,kV⟩;obtain⟨ao,cap,rfl,dD,il,_⟩:=id kV;have Bn:=Qh kV;clear kV fP;by_cases h8:l.length≤8;case neg=>
  have Vh:decide (8<l.length)=true:=Qt (by omega);have FW:=Qh (show aF s=6 by rw[Hp.O,if_pos (by omega)]);go_wp2;go_ret;exact⟨bT FW.O.symm,au⟩
 have Vh:decide (8<l.length)=false:=Qf (by omega);have FW:=Qh (show aF s=if l.all comp then 0 else 7 by rw[Hp.O,if_neg (by omega)]);go_wp2_with fail
 go_loopw [4] (fun s4 wr=> ∃k:Nat,k≤l.length∧s4= .int .i64 k∧(l.take k).all comp=true∧Below w1.heap.size w1 wr) (fun i _=>l.length-(intOf i).toNat)
 case atStart=>exact⟨0,Nat.zero_le _,rfl,rfl,Qb _ _⟩
 case round=>
  obtain⟨k,hk,rfl,hr,hb⟩:=hrel;have Hr:=Qh hr;clear hr;have dz:Ok I1 wr:=aB.below (Qn _) hb;by_cases hlt:k<l.length
  ·obtain⟨q,b,off,cap',C8,di,hc⟩:=Fb Bn.O dz k hlt;cases di;have ZQ:q∈l:=by rw[←C8];exact List.getElem_mem hlt
   have Vi:q.length≤9223372036854775807:=by have:=Bl.O q ZQ;omega
   have Hqm:=Qh ZQ;have nG:=Qh (show l.take (k+1)=l.take k++[q] by rw[List.take_succ_eq_append_getElem hlt,C8]);clear C8 ZQ;go_wp2_with fail
   refine(Xh9 q Vi _).mono ?_;rintro e w2 ⟨rfl,aD⟩;have aK:=hb.trans (aD.mono hb.size);clear aD;cases hq:comp q
   ·have Hn:=Qh (show aF s=7 by
     rw[FW.O,if_neg];intro h;rw[List.all_eq_true.1 h q Hqm.O]at hq;exact absurd hq (by simp))
    clear hq;go_wp2;go_ret;exact⟨bT Hn.O.symm,au.trans (aK.mono au.size)⟩
   ·have Hn:=Qh (show(l.take (k+1)).all comp=true by rw[nG.O,List.all_append,Hr.O];simp[hq]);clear hq;go_wp2;go_roundw;case rel=>exact⟨k+1,by omega,by go_num,Hn.O,aK⟩
    case measure=>simp[intOf];omega
  ·have Hn:=Qh (show aF s=0 by
    have:=Hr.O;rw[List.take_of_length_le (by omega)]at this;rw[FW.O,if_pos this])
   go_wp2;go_ret;exact⟨bT Hn.O.symm,au.trans (hb.mono au.size)⟩
def oH(s:ae):List ae×Int:=if aF s=0 then(els s,0)else([],aF s)
theorem MR(h:aF s=0):oH s=(els s,0):=by rw[oH,if_pos h]
theorem Sz(h:aF s≠0):oH s=([],aF s):=by rw[oH,if_neg h]
theorem Xh8(I:IH)(s:ae)(w:World)(hw:Ok I w):
 Calls Tryz.prog 167 #[S s] w (uT gq I w (oH s).1 (oH s).2):=by
 have Hc:=Qh (Sy I s w hw);by_cases h0:aF s=0
 ·have hs:=(Bj h0).1;rw[h0]at Hc;have wu:=Qh (MR h0);clear h0;go_enter Tryz.func167,Tryz.ntmps167
  go_wp2_with fail
  refine Hc.O.mono ?_;rintro e w1 ⟨rfl,au⟩;have aB:Ok I w1:=hw.below (Qn _) au;go_wp2_with fail
  refine(MQ I s (by omega) _ aB).mono ?_;rintro e w2 ⟨v2,I2,rfl,aD,eZ,aP,fQ⟩;go_wp2;go_ret2;rw[wu.O];exact⟨v2,I2,rfl,au.trans (aD.mono au.size),eZ.mono au.size,aP,fQ⟩
 ·have wu:=Qh (Sz h0);obtain⟨q,hq⟩:∃q,aF s=q:=⟨_,rfl⟩;have hn:(q !=0)=true:=by rw[←hq];simpa using h0
  rw[hq]at wu Hc;clear hq h0;go_enter Tryz.func167,Tryz.ntmps167
  go_wp2_with fail
  refine Hc.O.mono ?_;rintro e w1 ⟨rfl,au⟩;have aB:Ok I w1:=hw.below (Qn _) au;go_wp2;go_ret2;rw[wu.O];exact⟨_,I,rfl,au,Ext.refl _ _,aB,bf.nil _ _⟩
def lX(s:ae):ae×Int:=if aF s≠0 then([],aF s)else if s=[]then([],1)else(jO s,0)
theorem Xma(I:IH)(s:ae)(w:World)(hw:Ok I w):
 Calls Tryz.prog 110 #[S s] w fun e w'=>e= .returned (.tuple #[S (lX s).1,.int .i64 (lX s).2])∧Below w.heap.size w w':=by
 by_cases h0:aF s=0
 ·have zw:=Qh (fun w hw=>by have:=Xh8 I s w hw;rw[MR h0]at this;exact this);have hs:=(Bj h0).1;have FX:=Qh (show lX s=if s=[]then([],1)else(jO s,0) by rw[lX,if_neg (by omega)]);have vX:(dW (els s)).length≤200:=by rw[Su];exact hs
  have yS:=wm (s:=s);have jQ:jO s=dW ((els s).take ((els s).length-1)):=by rw[jO,List.dropLast_eq_take]
  have OE:=Qh (Vf (els s) ((els s).length-1));generalize els s=l at zw vX yS jQ OE;have Bl:=Qh yS;have Vj:=Qh jQ;clear h0 yS jQ;go_enter Tryz.func110,Tryz.ntmps110
  go_wp2_with fail
  refine(zw.O _ hw).mono ?_;rintro e w1 ⟨v1,I1,rfl,au,fP,aB,kV⟩;obtain⟨ao,cap,rfl,dD,il,_⟩:=id kV;have Bn:=Qh kV;clear kV fP;have uM:maxLen=9223372036854775807:=rfl;by_cases pR:l.length=0
  ·have Hn:=Qh (show lX s=([],1) by rw[FX.O,if_pos (Bl.O.1 (List.eq_nil_of_length_eq_zero pR))]);have hz:((l.length:Int)==0)=true:=by rw[pR];rfl
   clear pR uM;go_wp2;go_ret2;rw[Hn.O];exact⟨rfl,au⟩
  ·have Hn:=Qh (show lX s=(dW (l.take (l.length-1)),0) by
    rw[FX.O,if_neg (fun e=>pR (by rw[Bl.O.2 e];rfl)),Vj.O])
   have hz:((l.length:Int)==0)=false:=by rw[beq_eq_false_iff_ne];omega
   have hlp:1≤l.length:=by omega
   have hi:IntKind.i64.wrap ((l.length:Int)-1)=(l.length:Int)-1:=IntWalk.i64_in _ (by omega);have hj:(0:Int)≤(l.length:Int)-1:=by omega
   have xk:(l.length:Int)-1≤(cap:Int):=by omega
   have hm:((l.length:Int)-1).toNat=l.length-1:=by omega
   have uN:=Qh (Bn.O.xS (n:=l.length-1) (by omega));have Vk:=Qh (show(dW (l.take (l.length-1))).length≤4294967296 by have:=OE.O;omega);clear pR uM;go_wp2_with fail
   refine(Xrb I1 _ _ uN.O Vk.O _ aB).mono ?_;rintro e w2 ⟨rfl,aD⟩;go_wp2;go_ret2;rw[Hn.O];exact⟨rfl,au.trans (aD.mono au.size)⟩
 ·have zw:=Qh (fun w hw=>by have:=Xh8 I s w hw;rw[Sz h0]at this;exact this);obtain⟨q,hq⟩:∃q,aF s=q:=⟨_,rfl⟩;have hn:(q !=0)=true:=by rw[←hq];simpa using h0
  have FX:=Qh (show lX s=([],q) by rw[lX,if_pos h0,hq]);rw[hq]at zw;clear hq h0;go_enter Tryz.func110,Tryz.ntmps110
  go_wp2_with fail
  refine(zw.O _ hw).mono ?_;rintro e w1 ⟨v1,I1,rfl,au,fP,aB,kV⟩;obtain⟨ao,cap,rfl,dD,il,_⟩:=id kV;go_wp2;go_ret2;rw[FX.O];exact⟨rfl,au⟩
theorem Xig(l d:List ae):d.isPrefixOf l=decide (l.take d.length=d):=by
 rw[Bool.eq_iff_iff,List.isPrefixOf_iff_prefix,decide_eq_true_iff,List.prefix_iff_eq_take];exact⟨fun h=>h.symm,fun h=>h.symm⟩
theorem Xgy{l d:List ae}(h:l.length<d.length):d.isPrefixOf l=false:=by
 cases hp:d.isPrefixOf l with
 |false=>rfl
 |true=>have:=(List.isPrefixOf_iff_prefix.1 hp).length_le;omega
theorem SA(I:IH)(p d:ae)(w:World)(hw:Ok I w):
 Calls Tryz.prog 209 #[S p,S d] w fun e w'=>e= .returned (.bool (under p d))∧Below w.heap.size w w':=by
 have MS:=Qh (fun w hw=>Sy I p w hw);have AC:=Qh (fun w hw=>Sy I d w hw);by_cases h0:aF p=0;case neg=>
  have Hu:=Qh (show under p d=false by rw[under,Qf h0];rfl);obtain⟨q,hq⟩:∃q,aF p=q:=⟨_,rfl⟩;have hn:(q !=0)=true:=by rw[←hq];simpa using h0
  rw[hq]at MS;clear hq h0;go_enter Tryz.func209,Tryz.ntmps209
  go_wp2_with fail
  refine(MS.O _ hw).mono ?_;rintro e w1 ⟨rfl,au⟩;go_wp2;go_ret;exact⟨gZ Hu.O.symm,au⟩
 by_cases h1:aF d=0;case neg=>
  have Hu:=Qh (show under p d=false by rw[under,Qf h1,Bool.and_false];rfl);obtain⟨q,hq⟩:∃q,aF d=q:=⟨_,rfl⟩;have hn:(q !=0)=true:=by rw[←hq];simpa using h1
  rw[hq]at AC;rw[h0]at MS;clear hq h1 h0;go_enter Tryz.func209,Tryz.ntmps209
  go_wp2_with fail
  refine(MS.O _ hw).mono ?_;rintro e w1 ⟨rfl,au⟩;go_wp2_with fail
  refine(AC.O _ (hw.below (Qn _) au)).mono ?_;rintro e w2 ⟨rfl,aD⟩;go_wp2;go_ret;exact⟨gZ Hu.O.symm,au.trans (aD.mono au.size)⟩
 have hp:=(Bj h0).1;have hd:=(Bj h1).1;have Hu:=Qh (show under p d=(els d).isPrefixOf (els p) by rw[under,Qt h0,Qt h1];rfl);have Iq:=Qh (fun I w hw=>MQ I p (by omega) w hw);have Ir:=Qh (fun I w hw=>MQ I d (by omega) w hw);rw[h0]at MS;rw[h1]at AC;generalize els p=l at Hu Iq;generalize els d=m at Hu Ir;clear h0 h1;go_enter Tryz.func209,Tryz.ntmps209
 go_wp2_with fail
 refine(MS.O _ hw).mono ?_;rintro e w1 ⟨rfl,au⟩;have aB:Ok I w1:=hw.below (Qn _) au;go_wp2_with fail
 refine(AC.O _ aB).mono ?_;rintro e w2 ⟨rfl,aD⟩;have aP:Ok I w2:=aB.below (Qn _) aD;have aK:=au.trans (aD.mono au.size);clear au aD;go_wp2_with fail
 refine(Iq.O I _ aP).mono ?_;rintro e w3 ⟨v3,I3,rfl,bU,qW,bQ,gB⟩;have df:=aK.trans (bU.mono aK.size);have sD:=Qh gB;clear gB bU;go_wp2_with fail
 refine(Ir.O I3 _ bQ).mono ?_;rintro e w4 ⟨v4,I4,rfl,aL,Ak,bA,zm⟩;have aO:=df.trans (aL.mono df.size);have gB:=sD.O.mono (Ak.keep bQ (Qn _));have hlen:=gB.dh;have xU:=zm.dh;obtain⟨ao,cap,rfl,dD,il,_⟩:=id gB;obtain⟨uV,cap2,rfl,qK,rJ,_⟩:=id zm;have Hl:=Qh gB;have Hm:=Qh zm;clear gB zm sD aL Ak qW bQ aK df;by_cases pU:m.length≤l.length;case neg=>
  have hn:decide (l.length<m.length)=true:=Qt (by omega);have JX:=Qh (show under p d=false by rw[Hu.O];exact Xgy (by omega));go_wp2;go_ret;exact⟨gZ JX.O.symm,aO⟩
 have hn:decide (l.length<m.length)=false:=Qf (by omega);have JX:=Qh (show under p d=decide (l.take m.length=m) by rw[Hu.O];exact Xig l m);have HB:=Qh aO;clear aO;go_wp2_with fail
 go_loopw [7] (fun s7 wr=> ∃k:Nat,k≤m.length∧s7= .int .i64 k∧l.take k=m.take k∧Below w4.heap.size w4 wr) (fun i _=>m.length-(intOf i).toNat)
 case atStart=>exact⟨0,Nat.zero_le _,rfl,rfl,Qb _ _⟩
 case round=>
  obtain⟨k,hk,rfl,hr,hb⟩:=hrel;have Hr:=Qh hr;clear hr;have dz:Ok I4 wr:=bA.below (Qn _) hb;by_cases hlt:k<m.length
  ·obtain⟨x,b,off,cap',bN,di,hx0⟩:=Fb Hl.O dz k (by omega);cases di;obtain⟨y,b',off',tO,iB,di,JA⟩:=Fb Hm.O dz k hlt;cases di;have sF:=Qh bN;have MU:=Qh iB;have jm:k<l.length:=by omega
   have g0:=cell_regrown hx0;have g1:=cell_regrown JA;clear bN iB;by_cases tF:x=y
   ·have f1:(x !=y)=false:=by simp[tF]
    have f2:(x==y)=true:=by simp[tF]
    have Hn:=Qh (show l.take (k+1)=m.take (k+1) by rw[List.take_succ_eq_append_getElem jm,List.take_succ_eq_append_getElem hlt,Hr.O,sF.O,MU.O,tF]);clear tF;go_wp2_with fail
    refine wp_region_quiet_below (by kernel_rfl) (by kernel_rfl) ?_;repeat(go_big_quiet_step ((fail)))
    refine wpQuiet_nil ?_;intro w5 bg;have aY:Below (wr).heap.size (wr) w5:=by
     obtain⟨pq,rfl⟩:=bg;exact below_regrown _ _ _
    clear bg;go_wp2;go_roundw;case rel=>exact⟨k+1,by omega,by go_num,Hn.O,hb.trans (aY.mono hb.size)⟩
    case measure=>simp[intOf];omega
   ·have f1:(x !=y)=true:=by simpa using tF
    have f2:(x==y)=false:=by simpa using tF
    have Hn:=Qh (show under p d=false by
     rw[JX.O,Qf];intro h;apply tF;rw[←sF.O,←MU.O];have:=congrArg (fun z=>z[k]?) h;simp only[List.getElem?_take_of_lt hlt]at this;rw[List.getElem?_eq_getElem jm,List.getElem?_eq_getElem hlt]at this;exact Option.some.inj this)
    clear tF;go_wp2_with fail
    refine wp_region_quiet_below (by kernel_rfl) (by kernel_rfl) ?_;repeat(go_big_quiet_step ((fail)))
    refine wpQuiet_nil ?_;intro w5 bg;have aY:Below (wr).heap.size (wr) w5:=by
     obtain⟨pq,rfl⟩:=bg;exact below_regrown _ _ _
    clear bg;go_wp2;go_ret;exact⟨gZ Hn.O.symm,HB.O.trans ((hb.trans (aY.mono hb.size)).mono HB.O.size)⟩
  ·have Hn:=Qh (show under p d=true by
    have:=Hr.O;rw[show k=m.length by omega,List.take_of_length_le (l:=m) (Qn _)]at this;rw[JX.O,Qt this])
   go_wp2;go_ret;exact⟨gZ Hn.O.symm,HB.O.trans (hb.mono HB.O.size)⟩
theorem SB(I:IH)(p d:ae)(hp:p.length≤4294967280)(hd:d.length≤4294967280)(w:World)(hw:Ok I w):
 Calls Tryz.prog 109 #[S p,S d] w fun e w'=>e= .returned (.int .i64 (ic p d))∧Below w.heap.size w w':=by
 have Hu:=Qh (Xva p d);have Iq:=Qh (fun I w hw=>MQ I p hp w hw);have Ir:=Qh (fun I w hw=>MQ I d hd w hw);generalize els p=l at Hu Iq;generalize els d=m at Hu Ir;go_enter Tryz.func109,Tryz.ntmps109
 go_wp2_with fail
 refine(Iq.O I _ hw).mono ?_;rintro e w3 ⟨v3,I3,rfl,bU,qW,bQ,gB⟩;have sD:=Qh gB;clear gB;go_wp2_with fail
 refine(Ir.O I3 _ bQ).mono ?_;rintro e w4 ⟨v4,I4,rfl,aL,Ak,bA,zm⟩;have HB:=Qh (bU.trans (aL.mono bU.size));have gB:=sD.O.mono (Ak.keep bQ (Qn _));have hlen:=gB.dh;have xU:=zm.dh;obtain⟨ao,cap,rfl,dD,il,_⟩:=id gB;obtain⟨uV,cap2,rfl,qK,rJ,_⟩:=id zm;have Hl:=Qh gB;have Hm:=Qh zm;clear gB zm sD aL Ak qW bQ bU;go_wp2_with fail
 go_loopw [7] (fun s7 wr=> ∃k:Nat,k≤l.length∧k≤m.length∧s7= .int .i64 k∧l.take k=m.take k∧Below w4.heap.size w4 wr) (fun i _=>m.length-(intOf i).toNat)
 case atStart=>exact⟨0,Nat.zero_le _,Nat.zero_le _,rfl,rfl,Qb _ _⟩
 case round=>
  obtain⟨k,hk,sP,rfl,hr,hb⟩:=hrel;have Hr:=Qh hr;have AC:=Qh (Xnq hr hk sP);clear hr;have dz:Ok I4 wr:=bA.below (Qn _) hb;by_cases hlt:k<l.length;case neg=>
   have OG:=Qh (show l.drop k=[]from List.drop_of_length_le (by omega));by_cases jm:k<m.length
   ·have lM:decide (l.length<m.length)=true:=Qt (by omega);have Hn:=Qh (show ic p d= -1 by rw[Hu.O,AC.O,OG.O,List.drop_eq_getElem_cons jm];rfl);go_wp2;go_ret;exact⟨bT Hn.O.symm,HB.O.trans (hb.mono HB.O.size)⟩
   ·have lM:decide (l.length<m.length)=false:=Qf (by omega);have oP:decide (m.length<l.length)=false:=Qf (by omega);have Hn:=Qh (show ic p d=0 by rw[Hu.O,AC.O,OG.O,List.drop_of_length_le (by omega)];rfl);go_wp2;go_ret;exact⟨bT Hn.O.symm,HB.O.trans (hb.mono HB.O.size)⟩
  by_cases jm:k<m.length;case neg=>
   have lM:decide (l.length<m.length)=false:=Qf (by omega);have oP:decide (m.length<l.length)=true:=Qt (by omega);have Hn:=Qh (show ic p d=1 by rw[Hu.O,AC.O,List.drop_of_length_le (l:=m) (by omega),List.drop_eq_getElem_cons hlt];rfl);go_wp2;go_ret;exact⟨bT Hn.O.symm,HB.O.trans (hb.mono HB.O.size)⟩
  obtain⟨x,b,off,cap',bN,di,hx0⟩:=Fb Hl.O dz k hlt;cases di;obtain⟨y,b',off',tO,iB,di,JA⟩:=Fb Hm.O dz k jm;cases di;have Di:=Qh (show ic p d=cmpL (x::l.drop (k+1)) (y::m.drop (k+1)) by rw[Hu.O,AC.O,List.drop_eq_getElem_cons hlt,List.drop_eq_getElem_cons jm,bN,iB]);have sF:=Qh bN;have MU:=Qh iB;have g0:=cell_regrown hx0;have g1:=cell_regrown JA;clear bN iB;rcases ML x y with ht|ht|ht
  ·have Hn:=Qh (show ic p d= -1 by rw[Di.O];exact Xg8 ht _ _);go_wp2_with fail
   refine wp_region_quiet_below (by kernel_rfl) (by kernel_rfl) ?_;repeat(go_big_quiet_step ((fail)))
   refine wpQuiet_nil ?_;intro w5 bg;have aY:Below (wr).heap.size (wr) w5:=by
    obtain⟨pq,rfl⟩:=bg;exact below_regrown _ _ _
   clear bg;go_wp2;go_ret;exact⟨bT Hn.O.symm,HB.O.trans ((hb.trans (aY.mono hb.size)).mono HB.O.size)⟩
  ·have f1:Op.bytesLess x y=false:=by rw[ht];exact Df _
   have f2:Op.bytesLess y x=false:=by rw[ht];exact Df _
   have f3:(x==y)=true:=by simp[ht]
   have f4:(!(x==y))=false:=by simp[ht]
   have Hn:=Qh (show l.take (k+1)=m.take (k+1) by rw[List.take_succ_eq_append_getElem hlt,List.take_succ_eq_append_getElem jm,Hr.O,sF.O,MU.O,ht]);clear ht;go_wp2_with fail
   refine wp_region_quiet_below (by kernel_rfl) (by kernel_rfl) ?_;repeat(go_big_quiet_step ((fail)))
   refine wpQuiet_nil ?_;intro w5 bg;have aY:Below (wr).heap.size (wr) w5:=by
    obtain⟨pq,rfl⟩:=bg;exact below_regrown _ _ _
   clear bg;have bV:=hb.trans (aY.mono hb.size);have fP:=dQ aY hx0;have ZR:=dQ aY JA;have g0:=cell_regrown fP;have g1:=cell_regrown ZR;clear aY hx0 JA;go_wp2_with fail
   refine wp_region_quiet_below (by kernel_rfl) (by kernel_rfl) ?_;repeat(go_big_quiet_step ((fail)))
   refine wpQuiet_nil ?_;intro w6 bg;have fF:Below (w5).heap.size (w5) w6:=by
    obtain⟨pq,rfl⟩:=bg;exact below_regrown _ _ _
   clear bg;go_wp2;go_roundw;case rel=>exact⟨k+1,by omega,by omega,by go_num,Hn.O,bV.trans (fF.mono bV.size)⟩
   case measure=>simp[intOf];omega
  ·have f1:=MM ht;have f3:(x==y)=false:=by simpa using(MN ht).symm
   have f4:(!(x==y))=true:=by rw[f3];rfl
   have Hn:=Qh (show ic p d=1 by rw[Di.O];exact Xg9 ht _ _);go_wp2_with fail
   refine wp_region_quiet_below (by kernel_rfl) (by kernel_rfl) ?_;repeat(go_big_quiet_step ((fail)))
   refine wpQuiet_nil ?_;intro w5 bg;have aY:Below (wr).heap.size (wr) w5:=by
    obtain⟨pq,rfl⟩:=bg;exact below_regrown _ _ _
   clear bg;have bV:=hb.trans (aY.mono hb.size);have fP:=dQ aY hx0;have ZR:=dQ aY JA;have g0:=cell_regrown fP;have g1:=cell_regrown ZR;clear aY hx0 JA;go_wp2_with fail
   refine wp_region_quiet_below (by kernel_rfl) (by kernel_rfl) ?_;repeat(go_big_quiet_step ((fail)))
   refine wpQuiet_nil ?_;intro w6 bg;have fF:Below (w5).heap.size (w5) w6:=by
    obtain⟨pq,rfl⟩:=bg;exact below_regrown _ _ _
   clear bg;go_wp2;go_ret;exact⟨bT Hn.O.symm,HB.O.trans ((bV.trans (fF.mono bV.size)).mono HB.O.size)⟩
def bH(k:Int):ae:=if k=1 then [102,105,108,101]else if k=2 then [100,105,114]else if k=3 then [108,105,110,107]else if k=4 then [114,101,109,111,118,101]else if k=5 then [104,111,108,100]else if k=6 then [114,101,108,101,97,115,101]else []
theorem vJ{k:Int}:bH k=[]↔k<1∨6<k:=by
 unfold bH;constructor
 ·intro h;by_cases h1:k<1∨6<k
  ·exact h1
  ·have:k=1∨k=2∨k=3∨k=4∨k=5∨k=6:=by omega
   rcases this with rfl|rfl|rfl|rfl|rfl|rfl<;>simp at h
 ·intro h;rw[if_neg (by omega),if_neg (by omega),if_neg (by omega),if_neg (by omega),if_neg (by omega),if_neg (by omega)]
theorem Xjy(k:Int)(w:World):Calls Tryz.prog 150 #[.int .i64 k] w fun e w'=>e= .returned (S (bH k))∧w'=w:=by
 by_cases h1:k=1;case pos=>
  subst h1;rw[show bH 1=[102,105,108,101]from rfl];go_enter Tryz.func150,Tryz.ntmps150
  go_wp2;go_ret;exact⟨rfl,rfl⟩
 by_cases h2:k=2;case pos=>
  subst h2;rw[show bH 2=[100,105,114]from rfl];go_enter Tryz.func150,Tryz.ntmps150
  go_wp2;go_ret;exact⟨rfl,rfl⟩
 by_cases h3:k=3;case pos=>
  subst h3;rw[show bH 3=[108,105,110,107]from rfl];go_enter Tryz.func150,Tryz.ntmps150
  go_wp2;go_ret;exact⟨rfl,rfl⟩
 by_cases h4:k=4;case pos=>
  subst h4;rw[show bH 4=[114,101,109,111,118,101]from rfl];go_enter Tryz.func150,Tryz.ntmps150
  go_wp2;go_ret;exact⟨rfl,rfl⟩
 by_cases h5:k=5;case pos=>
  subst h5;rw[show bH 5=[104,111,108,100]from rfl];go_enter Tryz.func150,Tryz.ntmps150
  go_wp2;go_ret;exact⟨rfl,rfl⟩
 by_cases h6:k=6;case pos=>
  subst h6;rw[show bH 6=[114,101,108,101,97,115,101]from rfl];go_enter Tryz.func150,Tryz.ntmps150
  go_wp2;go_ret;exact⟨rfl,rfl⟩
 have hn:bH k=[]:=vJ.2 (by omega);have f1:(k==1)=false:=by simpa using h1
 have f2:(k==2)=false:=by simpa using h2
 have f3:(k==3)=false:=by simpa using h3
 have f4:(k==4)=false:=by simpa using h4
 have f5:(k==5)=false:=by simpa using h5
 have f6:(k==6)=false:=by simpa using h6
 rw[hn];clear hn h1 h2 h3 h4 h5 h6;go_enter Tryz.func150,Tryz.ntmps150
 go_wp2;go_ret;exact⟨rfl,rfl⟩
def ig(c:UInt8):Bool:=decide (48≤c)&&decide (c≤57)
theorem OH(c:UInt8):ig c=(decide (48≤c.toNat)&&decide (c.toNat≤57)):=by
 unfold ig;simp[UInt8.le_iff_toNat_le]
theorem Vl(l:ae)(c:UInt8):digits (l++[c])=10*digits l+((c.toNat:Int)-48):=by
 simp[digits,List.foldl_append]
theorem Xni:∀(n:Nat) (l:ae),l.length=n→l.all ig=true→0≤digits l∧digits l<10^n:=by
 intro n;induction n with
 |zero=>
  intro l h _;have:l=[]:=List.eq_nil_of_length_eq_zero h;subst this;exact⟨Int.le_refl _,by decide⟩
 |succ n ih=>
  intro l h ha;have cK:l≠[]:=by intro e;rw[e]at h;simp at h
  have e:l=l.dropLast++[l.getLast cK]:=(List.dropLast_concat_getLast cK).symm;have hl:l.dropLast.length=n:=by rw[List.length_dropLast,h];omega
  rw[e,List.all_append,Bool.and_eq_true]at ha;obtain⟨i1,i2⟩:=ih _ hl ha.1;have hc:=ha.2;simp only[List.all_cons,List.all_nil,Bool.and_true]at hc;rw[OH,Bool.and_eq_true,decide_eq_true_iff,decide_eq_true_iff]at hc;rw[e,Vl,Int.pow_succ];generalize digits l.dropLast=d at i1 i2;generalize((10:Int)^n)=p at i1 i2 ⊢;omega
def kH(s:ae):Int×Bool:=if s.length<1∨10<s.length∨(1<s.length∧s.head?=some 48)∨s.all ig=false then(0,false)else(digits s,decide (digits s≤1000000000))
theorem Xxn(s:ae):(kH s).2=fH s:=by
 unfold kH fH;have hd:(fun c:UInt8=>decide (48≤c)&&decide (c≤57))=ig:=rfl;rw[hd];by_cases h1:s.length<1
 ·rw[if_pos (.inl h1),Qf (by omega)];rfl
 by_cases h2:10<s.length
 ·rw[if_pos (.inr (.inl h2)),Qf (show ¬s.length≤10 by omega)];simp
 by_cases h3:1<s.length∧s.head?=some 48
 ·rw[if_pos (.inr (.inr (.inl h3)))];have:(decide (1<s.length)&&s.head?==some 48)=true:=by rw[Qt h3.1,h3.2];rfl
  rw[this];simp
 have h3':(decide (1<s.length)&&s.head?==some 48)=false:=by
  cases h:(decide (1<s.length)&&s.head?==some 48)with
  |false=>rfl
  |true=>
   rw[Bool.and_eq_true,decide_eq_true_iff,beq_iff_eq]at h;exact absurd h h3
 rw[h3',Qt (show 1≤s.length by omega),Qt (show s.length≤10 by omega)];cases h4:s.all ig
 ·rw[if_pos (.inr (.inr (.inr rfl)))];simp
 ·rw[if_neg (by simp[h1,h2,h3])];simp
theorem Xra(s:ae)(hs:s.length≤9223372036854775807)(w:World):
 Calls Tryz.prog 218 #[S s] w fun e w'=>e= .returned (.tuple #[.int .i64 (kH s).1,.bool (kH s).2])∧Below w.heap.size w w':=by
 by_cases h1:s.length<1;case pos=>
  have lM:decide (s.length<1)=true:=Qt h1;have Hp:=Qh (show kH s=(0,false) by rw[kH,if_pos (.inl h1)]);go_enter Tryz.func218,Tryz.ntmps218
  go_wp2;go_ret2;rw[Hp.O];exact⟨rfl,Qb _ _⟩
 have lM:decide (s.length<1)=false:=Qf h1;by_cases h2:10<s.length;case pos=>
  have oP:decide (10<s.length)=true:=Qt h2;have Hp:=Qh (show kH s=(0,false) by rw[kH,if_pos (.inr (.inl h2))]);go_enter Tryz.func218,Tryz.ntmps218
  go_wp2;go_ret2;rw[Hp.O];exact⟨rfl,Qb _ _⟩
 have oP:decide (10<s.length)=false:=Qf h2;have hx0:=gG Tryz.underlying9 s 0 0 rfl (by omega);have Ry:((((s.getD 0 0).toNat:Nat):Int)==48)=(s.getD 0 0==UInt8.ofNat 48):=X0o (s.getD 0 0) 48 (by decide);have hh:s.head?=some (s.getD 0 0):=by cases s<;>simp_all
 have nE:(1<s.length∧s.head?=some 48)∨ ¬(1<s.length∧s.head?=some 48):=Classical.em _;rcases nE with h3|h3
 ·have EI:decide (1<s.length)=true:=Qt h3.1;have he1:(((s.getD 0 0).toNat:Int)==48)=true:=by
   rw[Ry];have:=h3.2;rw[hh]at this;rw[Option.some.inj this];rfl
  have Hp:=Qh (show kH s=(0,false) by rw[kH,if_pos (.inr (.inr (.inl h3)))]);generalize(s.getD 0 0).toNat=c0 at hx0 he1;have mM:c0=48:=by have:=beq_iff_eq.1 he1;omega
  subst mM;have h5:=h3.1;clear h3 Ry hh he1;go_enter Tryz.func218,Tryz.ntmps218
  go_wp2;go_ret2;rw[Hp.O];exact⟨rfl,Qb _ _⟩
 ·have Hp:=Qh (show kH s=if s.all ig=false then(0,false)else(digits s,decide (digits s≤1000000000)) by
   rw[kH];by_cases h4:s.all ig=false
   ·rw[if_pos (.inr (.inr (.inr h4))),if_pos h4]
   ·rw[if_neg (by simp[h1,h2,h3];simpa using h4),if_neg h4])
  have jI:(¬1<s.length∧decide (1<s.length)=false)∨(1<s.length∧decide (1<s.length)=true∧(((s.getD 0 0).toNat:Int)==48)=false):=by
   by_cases h5:1<s.length
   ·right;refine⟨h5,Qt h5,?_⟩;rw[Ry,beq_eq_false_iff_ne];intro e;exact h3 ⟨h5,by rw[hh,e];rfl⟩
   ·exact .inl ⟨h5,Qf h5⟩
  generalize(s.getD 0 0).toNat=c0 at hx0 jI;clear h3 Ry hh;have H10:s.length≤10:=by omega
  rcases jI with⟨h5,EI⟩|⟨h5,EI,he3⟩
  all_goals
   go_enter Tryz.func218,Tryz.ntmps218
   go_wp2_with fail
   go_loop [4,5] (fun s4 s5=> ∃k:Nat,k≤s.length∧s5= .int .i64 k∧s4= .int .i64 (digits (s.take k))∧(s.take k).all ig=true) (fun _ i=>s.length-(intOf i).toNat)
   case atStart=>exact⟨0,Nat.zero_le _,rfl,rfl,rfl⟩
   case round=>
    obtain⟨k,hk,rfl,rfl,hr⟩:=hrel;have Bo:=Xni k (s.take k) (by rw[List.length_take];omega) hr;have Hr:=Qh hr;clear hr;by_cases hlt:k<s.length
    ·have hx:=gG Tryz.underlying9 s (k:Int) k rfl hlt;have Iu:=OH (s.getD k 0);have ZT:(10:Int)^k≤10000000000:=by
      have:(10:Nat)^k≤10^10:=Nat.pow_le_pow_right (by decide) (by omega);have h2:((10^k:Nat):Int)≤((10^10:Nat):Int):=by exact_mod_cast this
      simpa using h2
     have qJ:s.take (k+1)=s.take k++[s.getD k 0]:=by rw[List.take_succ_eq_append_getElem hlt];simp[List.getD,hlt]
     have FN:digits (s.take (k+1))=10*digits (s.take k)+(((s.getD k 0).toNat:Int)-48):=by rw[qJ,Vl]
     have gL:s.getD k 0∈s:=by simp[List.getD,hlt]
     have su:(s.getD k 0).toNat<256:=(s.getD k 0).toNat_lt;generalize s.getD k 0=ch at Iu qJ hx su FN gL;generalize ch.toNat=c at Iu hx su FN;generalize digits (s.take k)=n at Bo FN ⊢;generalize((10:Int)^k)=p10 at Bo ZT;have nG:=Qh qJ;have Vm:=Qh FN;have zx:=Qh gL;clear qJ FN gL;by_cases qX:48≤c;case neg=>
      have d48:decide ((c:Int)<48)=true:=Qt (by omega);have Hn:=Qh (show kH s=(0,false) by
       rw[Hp.O,if_pos];cases h:s.all ig with
       |false=>rfl
       |true=>
        have:=List.all_eq_true.1 h ch zx.O;rw[Iu,Qf qX]at this;exact absurd this (by simp))
      clear Iu qX;go_wp2;go_ret2;rw[Hn.O];exact⟨rfl,Qb _ _⟩
     have d48:decide ((c:Int)<48)=false:=Qf (by omega);by_cases tH:c≤57;case neg=>
      have d57:decide (57<(c:Int))=true:=Qt (by omega);have Hn:=Qh (show kH s=(0,false) by
       rw[Hp.O,if_pos];cases h:s.all ig with
       |false=>rfl
       |true=>
        have:=List.all_eq_true.1 h ch zx.O;rw[Iu,Qf tH]at this;exact absurd this (by simp))
      clear Iu tH;go_wp2;go_ret2;rw[Hn.O];exact⟨rfl,Qb _ _⟩
     have d57:decide (57<(c:Int))=false:=Qf (by omega);have Hdc:=Qh (show ig ch=true by rw[Iu,Qt qX,Qt tH];rfl);clear Iu;go_wp2;go_round;case rel=>exact⟨k+1,by omega,by go_num,by rw[Vm.O];go_num,by rw[nG.O,List.all_append,Hr.O];simp[Hdc.O]⟩
     case measure=>simp[intOf];omega
    ·have aG:s.take k=s:=List.take_of_length_le (by omega);rw[aG]at Hr Bo ⊢;have Hn:=Qh (show kH s=(digits s,decide (digits s≤1000000000)) by rw[Hp.O,if_neg (by rw[Hr.O];simp)]);clear aG;go_wp2;go_ret2;rw[Hn.O];exact⟨rfl,Qb _ _⟩
def dS(acc:Nat)(l:ae):Nat:=l.foldl (fun n c=>10*n+(c.toNat-48)) acc
theorem Xnk(acc:Nat)(l:ae)(c:UInt8):dS acc (l++[c])=10*dS acc l+(c.toNat-48):=by simp[dS,List.foldl_append]
theorem Fe(h:ig c=true):48≤c.toNat∧c.toNat≤57:=by
 rw[OH,Bool.and_eq_true,decide_eq_true_iff,decide_eq_true_iff]at h;exact h
theorem Xi4:∀(l:ae),l.all ig=true→ ∀(a:Nat),l.foldl (fun(n:Int) c=>10*n+((c.toNat:Int)-48)) (a:Int)=(dS a l:Nat)
 | [],_,_=>rfl
 |c::l,h,a=>by
  rw[List.all_cons,Bool.and_eq_true]at h;have hc:=Fe h.1;have:=Xi4 l h.2 (10*a+(c.toNat-48));rw[List.foldl_cons,show(10*(a:Int)+((c.toNat:Int)-48))=((10*a+(c.toNat-48):Nat):Int) by omega,this];rfl
theorem Vn{l:ae}(h:l.all ig=true):digits l=(dS 0 l:Nat):=Xi4 l h 0
theorem Xpz:∀(l:ae) (acc:Nat),l.all ig=true→(acc+1)*10^l.length≤100000000000→Lib.parseUint10 acc l= .ok (dS acc l)
 | [],_,_,_=>rfl
 |c::l,acc,h,hb=>by
  rw[List.all_cons,Bool.and_eq_true]at h;have hc:=Fe h.1;rw[List.length_cons,Nat.pow_succ]at hb;have JB:1≤10^l.length:=Nat.pos_of_ne_zero (by simp);have Cq:(acc+1)*10≤100000000000:=by
   have:(acc+1)*10*1≤(acc+1)*10*10^l.length:=Nat.mul_le_mul_left _ JB;rw[Nat.mul_comm (10^l.length) 10,←Nat.mul_assoc]at hb;omega
  have hn:(acc*10+(c.toNat-48)+1)*10^l.length≤100000000000:=by
   refine Nat.le_trans (Nat.mul_le_mul_right _ (show acc*10+(c.toNat-48)+1≤(acc+1)*10 by omega)) ?_;rw[Nat.mul_assoc,Nat.mul_comm 10 (10^l.length)];exact hb
  rw[Lib.parseUint10,if_pos hc,if_neg (by omega),if_neg (by omega),Xpz l _ h.2 hn];show Lib.NumEnd.ok (dS _ l)=Lib.NumEnd.ok (dS (10*acc+(c.toNat-48)) l);rw[Nat.mul_comm acc 10]
theorem Vo{l:ae}(h:(c::l).all ig=true)(hc:c≠48):10^l.length≤dS 0 (c::l):=by
 have key:∀(n:Nat) (l:ae),l.length=n→ ∀a,a*10^n≤dS a l:=by
  intro n;induction n with
  |zero=>intro l h a;rw[List.eq_nil_of_length_eq_zero h];simp[dS]
  |succ n ih=>
   intro l h a;cases l with
   |nil=>simp at h
   |cons c l=>
    have:=ih l (by simpa using h) (10*a+(c.toNat-48));refine Nat.le_trans ?_ this;rw[Nat.pow_succ,Nat.mul_comm (10^n) 10,←Nat.mul_assoc];exact Nat.mul_le_mul_right _ (by omega)
 rw[List.all_cons,Bool.and_eq_true]at h;have hb:=Fe h.1;have cK:c.toNat≠48:=fun e=>hc (by
  have:c=UInt8.ofNat c.toNat:=by simp
  rw[this,e];rfl)
 have:=key l.length l rfl (10*0+(c.toNat-48));refine Nat.le_trans ?_ this;have h1:1≤10*0+(c.toNat-48):=by omega
 simpa using Nat.mul_le_mul_right (10^l.length) h1
def NoZ(s:ae):Prop:=s.length=1∨s.head?≠some 48
theorem Xqp:∀(n:Nat) (s:ae),s.length=n→s≠[]→s.all ig=true→NoZ s→Lib.decDigits (dS 0 s)=s:=by
 intro n;induction n with
 |zero=>intro s h h0;exact absurd (List.eq_nil_of_length_eq_zero h) h0
 |succ n ih=>
  intro s h h0 ha hz;have e:s=s.dropLast++[s.getLast h0]:=(List.dropLast_concat_getLast h0).symm;have hl:s.dropLast.length=n:=by rw[List.length_dropLast,h];omega
  have uG:=ha;rw[e,List.all_append,Bool.and_eq_true]at uG;have hc:ig (s.getLast h0)=true:=by simpa using uG.2
  have hb:=Fe hc;have hoc:UInt8.ofNat (48+((s.getLast h0).toNat-48))=s.getLast h0:=by
   rw[show 48+((s.getLast h0).toNat-48)=(s.getLast h0).toNat by omega];simp
  by_cases hn:n=0
  ·have ht:s.dropLast=[]:=List.eq_nil_of_length_eq_zero (by omega);rw[e,ht,List.nil_append];have:dS 0 [s.getLast h0]=(s.getLast h0).toNat-48:=by simp[dS]
   rw[this,Lib.decDigits,dif_pos (by omega),hoc]
  ·have Rz:s.dropLast≠[]:=by intro e2;rw[e2]at hl;simp at hl;omega
   have hh:s.head?≠some 48:=by
    rcases hz with hz|hz
    ·omega
    ·exact hz
   have RD:s.dropLast.head?=s.head? :=by
    cases hd:s.dropLast with
    |nil=>exact absurd hd Rz
    |cons a t=>rw[e,hd];rfl
   have i1:=ih s.dropLast hl Rz uG.1 (.inr (by rw[RD];exact hh));have Cr:1≤dS 0 s.dropLast:=by
    cases hd:s.dropLast with
    |nil=>exact absurd hd Rz
    |cons a t=>
     have CE:(a::t).all ig=true:=by rw[←hd];exact uG.1
     have:10^t.length≤dS 0 (a::t):=Vo CE (fun e3=>hh (by rw[←RD,hd,e3];rfl));have JB:1≤10^t.length:=Nat.pos_of_ne_zero (by simp);omega
   have hs:dS 0 s=10*dS 0 s.dropLast+((s.getLast h0).toNat-48):=by
    conv=>lhs;rw[e]
    exact Xnk _ _ _
   rw[hs,Lib.decDigits,dif_neg (by omega),show(10*dS 0 s.dropLast+((s.getLast h0).toNat-48)) / 10=dS 0 s.dropLast by omega,show(10*dS 0 s.dropLast+((s.getLast h0).toNat-48))%10=(s.getLast h0).toNat-48 by omega,i1,hoc];exact e.symm
theorem Xu0(h:n<10):ig (UInt8.ofNat (48+n))=true:=by
 rw[OH];simp;omega
theorem MV:∀(u:Nat),(Lib.decDigits u).all ig=true∧Lib.decDigits u≠[]∧dS 0 (Lib.decDigits u)=u∧(10≤u→(Lib.decDigits u).head?≠some 48)∧(1≤u→(Lib.decDigits u).head?≠some 48):=by
 intro u;induction u using Nat.strongRecOn with
 |_ u ih=>
  by_cases h:u<10
  ·have e:Lib.decDigits u=[UInt8.ofNat (48+u)]:=by rw[Lib.decDigits,dif_pos h]
   have hd:=Xu0 h;have ht:(UInt8.ofNat (48+u)).toNat=48+u:=by simp;omega
   rw[e];refine⟨by rw[List.all_cons,hd];rfl,by simp,by simp only[dS,List.foldl_cons,List.foldl_nil,ht];omega,fun h2=>by omega,fun h2 he=> ?_⟩;simp only[List.head?_cons,Option.some.injEq]at he;have:=congrArg UInt8.toNat he;rw[ht]at this;have h48:(48:UInt8).toNat=48:=rfl;omega
  ·have e:Lib.decDigits u=Lib.decDigits (u / 10)++[UInt8.ofNat (48+u%10)]:=by rw[Lib.decDigits,dif_neg h]
   obtain⟨i1,i2,i3,i4,i5⟩:=ih (u / 10) (by omega);have hd:=Xu0 (n:=u%10) (by omega);have ht:(UInt8.ofNat (48+u%10)).toNat=48+u%10:=by simp;omega
   have RD:(Lib.decDigits u).head?≠some 48:=by
    rw[e];cases hc:Lib.decDigits (u / 10)with
    |nil=>exact absurd hc i2
    |cons a t=>
     have:=i5 (by omega);rw[hc]at this;exact this
   refine⟨?_,?_,?_,fun _=>RD,fun _=>RD⟩
   ·rw[e,List.all_append,i1,List.all_cons,hd];rfl
   ·rw[e];simp
   ·rw[e,Xnk,i3,ht];omega
theorem Xqq(s:ae):fH s=true↔ ∃n:Int,Lib.atoiAll s= .ok n∧0≤n∧n≤1000000000∧Lib.itoa n=s:=by
 have hd:(fun c:UInt8=>decide (48≤c)&&decide (c≤57))=ig:=rfl;constructor
 ·intro h;unfold fH at h;rw[hd]at h;simp only[Bool.and_eq_true,decide_eq_true_eq]at h;obtain⟨⟨⟨⟨h1,h2⟩,h3⟩,h4⟩,h5⟩:=h;have h0:s≠[]:=by intro e;rw[e]at h1;simp at h1
  have hz:NoZ s:=by
   by_cases hl:s.length=1
   ·exact .inl hl
   ·right;intro e;rw[e,Qt (show 1<s.length by omega)]at h3;simp at h3
  rw[Vn h4]at h5;refine⟨(dS 0 s:Nat),?_,by omega,h5,?_⟩
  ·cases hs:s with
   |nil=>exact absurd hs h0
   |cons c r=>
    have ha:(c::r).all ig=true:=by rw[←hs];exact h4
    have hc:ig c=true:=by rw[List.all_cons,Bool.and_eq_true]at ha;exact ha.1
    have hb:=Fe hc;have hlen:(c::r).length≤10:=by rw[←hs];exact h2
    have hp:=Xpz (c::r) 0 ha (by
     have:10^(c::r).length≤10^10:=Nat.pow_le_pow_right (by decide) hlen;omega)
    rw[Lib.atoiAll];rw[if_neg (by omega),Lib.parseMag,if_neg (by simp),hp];rw[hs]at h5;simp only;rw[if_neg (by omega),if_neg (by omega),if_neg (by omega)]
  ·rw[Lib.itoa,if_neg (by omega),Int.toNat_natCast];exact Xqp _ s rfl h0 h4 hz
 ·rintro⟨n,_,h0,h1,h2⟩;obtain⟨u,rfl⟩:=Int.eq_ofNat_of_zero_le h0;rw[Lib.itoa,if_neg (by omega),Int.toNat_natCast]at h2;obtain⟨f1,f2,f3,f4,f5⟩:=MV u;rw[h2]at f1 f2 f3 f4 f5;have JC:digits s=u:=by rw[Vn f1,f3]
  unfold fH;rw[hd,f1,JC,Qt h1];have xM:1≤s.length:=List.length_pos_iff.2 f2;have hz:(decide (1<s.length)&&s.head?==some 48)=false:=by
   cases hb:(decide (1<s.length)&&s.head?==some 48)with
   |false=>rfl
   |true=>
    rw[Bool.and_eq_true,decide_eq_true_iff,beq_iff_eq]at hb;by_cases hu:1≤u
    ·exact absurd hb.2 (f5 hu)
    ·have:u=0:=by omega
     subst this;have:s=[48]:=by rw[←h2,Lib.decDigits,dif_pos (by decide)];rfl
     rw[this]at hb;simp at hb
  have Vp:s.length≤10:=by
   cases hs:s with
   |nil=>simp
   |cons c r=>
    by_cases hu:1≤u
    ·have hc:c≠48:=fun e=>f5 hu (by rw[hs,e];rfl);have:=Vo (c:=c) (l:=r) (by rw[←hs];exact f1) hc;rw[←hs,f3]at this;have hlt:¬10≤r.length:=by
      intro JB;have:10^10≤10^r.length:=Nat.pow_le_pow_right (by decide) JB;omega
     simp only[List.length_cons];omega
    ·have:u=0:=by omega
     subst this;have:s=[48]:=by rw[←h2,Lib.decDigits,dif_pos (by decide)];rfl
     rw[hs]at this;rw[this];simp
  rw[hz,Qt xM,Qt Vp];rfl
abbrev kr(x y:ay):Bool:=gU (els x.af) (els y.af)
theorem ww(h:kr x y=true):x.af≠y.af:=fun e=>Io h (by rw[e])
theorem OI(x y:ay):kr x y=true∨x.af=y.af∨kr y x=true:=by
 rcases Sr (els x.af) (els y.af)with h|h|h
 ·exact .inl h
 ·exact .inr (.inl (Xuq h))
 ·exact .inr (.inr h)
def dE(e:ay):Bool→List ay→List ay→List ay
 |d,out,[]=>if d then out else out++[e]
 |d,out,y::l=>dE e (d || !(kr y e)) ((if !d&& !(kr y e)then out++[e]else out)++(if y.af==e.af then []else [y])) l
def eF(t:List ay)(e:ay):List ay:=dE e false [] t
def bL(t:List ay)(e:ay):List ay×Int:=
 if az e≠0 then([],az e)
 else if 3<e.ag then
  if dC t e.af=none∧e.af≠[]then([],9)
  else if e.ag=4 then(t.filter fun x=> !(under x.af e.af),0)else(t,0)
 else if aU t (jO e.af)≠0 then([],aU t (jO e.af))
 else match dC t e.af with
  |some y=>if(y.ag==2) !=(e.ag==2)then([],8)else(eF t e,0)
  |none=>if 5000≤t.length then([],6)else(eF t e,0)
theorem Xif(e:ay)(l:List ay):∀out,dE e true out l=out++l.filter fun y=> !(y.af==e.af):=by
 induction l with
 |nil=>intro out;simp[dE]
 |cons y l ih=>
  intro out;rw[dE];simp only[Bool.true_or,Bool.not_true,Bool.false_and,Bool.false_eq_true,if_false];rw[ih,List.filter_cons];cases h:(y.af==e.af)<;>simp
theorem Xj1(h:fC t)(e:ay):∃A B,eF t e=A++e::B∧(∀a∈A,a∈t∧kr a e=true)∧(∀b∈B,b∈t∧kr e b=true)∧(∀z∈t,z.af≠e.af→z∈A∨z∈B)∧fC A∧fC B:=by
 have key:∀(l:List ay),fC l→ ∀out,∃A B,dE e false out l=out++(A++e::B)∧(∀a∈A,a∈l∧kr a e=true)∧(∀b∈B,b∈l∧kr e b=true)∧(∀z∈l,z.af≠e.af→z∈A∨z∈B)∧fC A∧fC B:=by
  intro l;induction l with
  |nil=>intro _ out;exact⟨[],[],by simp[dE],by simp,by simp,by simp,List.Pairwise.nil,List.Pairwise.nil⟩
  |cons y l ih=>
   intro hs out;obtain⟨h1,h2⟩:=List.pairwise_cons.1 hs;rw[dE];cases hb:kr y e
   ·simp only[Bool.not_false,Bool.or_true,Bool.and_self,if_true];rw[Xif];have gY:∀z∈l,kr e z=true:=by
     intro z hz;rcases OI e y with k|k|k
     ·exact Dh k (h1 z hz)
     ·show gU (els e.af) _=true;rw[k];exact h1 z hz
     ·rw[hb]at k;exact absurd k (by simp)
    have hf:(l.filter fun z=> !(z.af==e.af))=l:=List.filter_eq_self.2 fun z hz=>by
     have:=(ww (gY z hz)).symm;simpa using this
    rw[hf];by_cases k:y.af=e.af
    ·rw[if_pos (by simpa using k)];refine⟨[],l,by simp,by simp,fun b hb=>⟨List.mem_cons_of_mem _ hb,gY b hb⟩,fun z hz cK=> ?_,List.Pairwise.nil,h2⟩;rcases List.mem_cons.1 hz with rfl|hz
     ·exact absurd k cK
     ·exact .inr hz
    ·have tF:kr e y=true:=by
      rcases OI e y with h|h|h
      ·exact h
      ·exact absurd h.symm k
      ·rw[h]at hb;exact absurd hb (by simp)
     rw[if_neg (by simpa using k)];refine⟨[],y::l,by simp,by simp,fun b hb=>⟨hb,?_⟩,fun z hz _=> .inr hz,List.Pairwise.nil,hs⟩;rcases List.mem_cons.1 hb with rfl|hb
     ·exact tF
     ·exact gY b hb
   ·have cK:(y.af==e.af)=false:=by simpa using ww hb
    simp only[Bool.not_true,Bool.or_false,Bool.and_false,Bool.false_eq_true,if_false,cK];obtain⟨A,B,q,a1,a2,a3,a4,a5⟩:=ih h2 (out++[y]);refine⟨y::A,B,by rw[q];simp,fun a ha=> ?_,fun b hb=>⟨List.mem_cons_of_mem _ (a2 b hb).1,(a2 b hb).2⟩,fun z hz hzn=> ?_,List.pairwise_cons.2 ⟨fun a ha=>h1 a (a1 a ha).1,a4⟩,a5⟩
    ·rcases List.mem_cons.1 ha with rfl|ha
     ·exact⟨List.mem_cons_self ..,hb⟩
     ·exact⟨List.mem_cons_of_mem _ (a1 a ha).1,(a1 a ha).2⟩
    ·rcases List.mem_cons.1 hz with rfl|hz
     ·exact .inl (List.mem_cons_self ..)
     ·rcases a3 z hz hzn with h|h
      ·exact .inl (List.mem_cons_of_mem _ h)
      ·exact .inr h
 obtain⟨A,B,q,r⟩:=key t h [];exact⟨A,B,q,r⟩
theorem MW(h:fC t)(e:ay):fC (eF t e):=by
 obtain⟨A,B,q,a1,a2,_,a4,a5⟩:=Xj1 h e;rw[q];refine List.pairwise_append.2 ⟨a4,List.pairwise_cons.2 ⟨fun b hb=>(a2 b hb).2,a5⟩,fun a ha b hb=> ?_⟩;rcases List.mem_cons.1 hb with rfl|hb
 ·exact(a1 a ha).2
 ·exact Dh (a1 a ha).2 (a2 b hb).2
theorem Ff(h:fC t)(e z:ay):z∈eF t e↔z=e∨(z∈t∧z.af≠e.af):=by
 obtain⟨A,B,q,a1,a2,a3,_,_⟩:=Xj1 h e;rw[q,List.mem_append,List.mem_cons];constructor
 ·rintro(hz|hz|hz)
  ·exact .inr ⟨(a1 z hz).1,ww (a1 z hz).2⟩
  ·exact .inl hz
  ·exact .inr ⟨(a2 z hz).1,(ww (a2 z hz).2).symm⟩
 ·rintro(hz|⟨hz,hn⟩)
  ·exact .inr (.inl hz)
  ·rcases a3 z hz hn with h|h
   ·exact .inl h
   ·exact .inr (.inr h)
theorem Xw2(h:fC t)(e:ay):dC (eF t e) e.af=some e:=FU (MW h e) ((Ff h e e).2 (.inl rfl))
theorem Xo0(h:fC t)(e:ay)(hp:p≠e.af):dC (eF t e) p=dC t p:=by
 cases hg:dC t p with
 |some x=>
  obtain⟨hx,rfl⟩:=Sv hg;exact FU (MW h e) ((Ff h e x).2 (.inr ⟨hx,hp⟩))
 |none=>
  refine Vb fun z hz k=> ?_;rcases(Ff h e z).1 hz with rfl|⟨hz,_⟩
  ·exact hp k.symm
  ·have:=FU h hz;rw[k,hg]at this;exact absurd this (by simp)
theorem Xwr{l:List ae}(h:l≠[])(hc:∀p∈l,p≠[]):dW l≠[]:=by
 cases l with
 |nil=>exact absurd rfl h
 |cons p l=>
  cases l with
  |nil=>exact hc p (by simp)
  |cons q l=>rw[Ip p (by simp)];simp
theorem Vq(h:aF p=0):els (jO p)=(els p).dropLast:=by
 obtain⟨_,_,hc⟩:=Bj h;have hd:∀q∈(els p).dropLast,comp q=true:=fun q hq=>hc q (List.dropLast_subset _ hq);unfold jO;by_cases hn:(els p).dropLast=[]
 ·rw[hn];rfl
 ·exact Xup (fun q hq=>Xno (hd q hq)) (Xwr hn fun q hq=>Xzx (hd q hq))
theorem Xvq{d:ae}(h:aF p=0)(hu:under (jO p) d=true):under p d=true:=by
 simp only[under,Bool.and_eq_true,decide_eq_true_eq]at hu ⊢;obtain⟨⟨_,h2⟩,h3⟩:=hu;refine⟨⟨h,h2⟩,?_⟩;rw[List.isPrefixOf_iff_prefix]at h3 ⊢;rw[Vq h]at h3;exact h3.trans (List.dropLast_prefix _)
theorem CF(h:az e=0):1≤e.ag∧e.ag≤6∧aF e.af=0∧(e.af=[]→5≤e.ag):=by
 unfold az at h;by_cases h1:e.ag<1∨6<e.ag
 ·rw[if_pos h1]at h;omega
 rw[if_neg h1]at h;by_cases h2:aF e.af=0;case neg=>rw[if_pos h2]at h;exact absurd h h2
 rw[if_neg (by omega)]at h;by_cases h3:e.af=[]∧e.ag<5
 ·rw[if_pos h3]at h;omega
 exact⟨by omega,by omega,h2,fun hp=>Int.not_lt.1 fun hk=>h3 ⟨hp,hk⟩⟩
theorem oz:aU t p=0↔p=[]∨ ∃x,dC t p=some x∧x.ag=2:=by
 unfold aU;by_cases h:p=[]
 ·rw[if_pos h];exact⟨fun _=> .inl h,fun _=>rfl⟩
 ·rw[if_neg h];cases hg:dC t p with
  |none=>
   constructor
   ·intro k;simp at k
   ·rintro(k|⟨x,k,_⟩)
    ·exact absurd k h
    ·simp at k
  |some x=>
   show(if x.ag≠2 then(10:Int)else 0)=0↔_;by_cases hk:x.ag=2
   ·rw[if_neg (by omega)];exact⟨fun _=> .inr ⟨x,rfl,hk⟩,fun _=>rfl⟩
   ·rw[if_pos hk];constructor
    ·intro k;omega
    ·rintro(k|⟨y,k,k'⟩)
     ·exact absurd k h
     ·cases k;exact absurd k' hk
theorem Xs1(h:xR t)(he:az e=0)(hk:e.ag=1∨e.ag=2∨e.ag=3)(hu:aU t (jO e.af)=0)(hs:∀y,dC t e.af=some y→(y.ag=2↔e.ag=2)):xR (eF t e):=by
 obtain⟨_,_,hp,Cs⟩:=CF he;have cK:e.af≠[]:=fun k=>by have:=Cs k;omega
 refine⟨fun z hz=> ?_,fun z hz=> ?_,MW h.vI e,fun z hz=> ?_⟩
 ·rcases(Ff h.vI e z).1 hz with rfl|⟨hz,_⟩
  ·exact he
  ·exact h.mr z hz
 ·rcases(Ff h.vI e z).1 hz with rfl|⟨hz,_⟩
  ·exact hk
  ·exact h.ag z hz
 ·have LV:aU t (jO z.af)=0:=by
   rcases(Ff h.vI e z).1 hz with rfl|⟨hz,_⟩
   ·exact hu
   ·exact h.up z hz
  rw[oz]at LV ⊢;rcases LV with k|⟨x,k,k'⟩
  ·exact .inl k
  ·by_cases q:jO z.af=e.af
   ·refine .inr ⟨e,by rw[q];exact Xw2 h.vI e,?_⟩;rw[q]at k;exact(hs x k).1 k'
   ·exact .inr ⟨x,by rw[Xo0 h.vI e q];exact k,k'⟩
theorem Xzw(h:xR t)(d:ae):xR (t.filter fun x=> !(under x.af d)):=by
 have hm:∀z,z∈(t.filter fun x=> !(under x.af d))↔z∈t∧under z.af d=false:=fun z=>by simp[List.mem_filter]
 have hs:fC (t.filter fun x=> !(under x.af d)):=List.Pairwise.filter _ h.vI;refine⟨fun z hz=>h.mr z ((hm z).1 hz).1,fun z hz=>h.ag z ((hm z).1 hz).1,hs,fun z hz=> ?_⟩;obtain⟨oQ,uR⟩:=(hm z).1 hz;have hp:=(CF (h.mr z oQ)).2.2.1;have LV:=h.up z oQ;rw[oz]at LV ⊢;rcases LV with k|⟨x,k,k'⟩
 ·exact .inl k
 ·obtain⟨hx,yT⟩:=Sv k;refine .inr ⟨x,?_,k'⟩;rw[←yT];refine FU hs ((hm x).2 ⟨hx,?_⟩);cases q:under x.af d with
  |false=>rfl
  |true=>
   rw[yT]at q;rw[Xvq hp q]at uR;exact absurd uR (by simp)
theorem Xvi{t':List ay}(h:xR t)(ha:bL t e=(t',0)):xR t':=by
 unfold bL at ha;by_cases h0:az e=0;case neg=>rw[if_pos h0]at ha;exact absurd (Prod.mk.inj ha).2 h0
 rw[if_neg (by omega)]at ha;have hk:=CF h0;by_cases h1:3<e.ag
 ·rw[if_pos h1]at ha;by_cases h2:dC t e.af=none∧e.af≠[]
  ·rw[if_pos h2]at ha;simp at ha
  ·rw[if_neg h2]at ha;by_cases h3:e.ag=4
   ·rw[if_pos h3]at ha;rw[←(Prod.mk.inj ha).1];exact Xzw h _
   ·rw[if_neg h3]at ha;rw[←(Prod.mk.inj ha).1];exact h
 ·rw[if_neg h1]at ha;by_cases h2:aU t (jO e.af)=0;case neg=>rw[if_pos h2]at ha;exact absurd (Prod.mk.inj ha).2 h2
  rw[if_neg (by omega)]at ha;cases hg:dC t e.af with
  |none=>
   rw[hg]at ha;change (if 5000≤t.length then(([]:List ay),(6:Int))else(eF t e,0))=_ at ha;by_cases h3:5000≤t.length
   ·rw[if_pos h3]at ha;simp at ha
   ·rw[if_neg h3]at ha;rw[←(Prod.mk.inj ha).1];exact Xs1 h h0 (by omega) h2 fun y hy=>by rw[hg]at hy;cases hy
  |some y=>
   rw[hg]at ha;change (if((y.ag==2) !=(e.ag==2))=true then(([]:List ay),(8:Int))else(eF t e,0))=_ at ha;by_cases h3:((y.ag==2) !=(e.ag==2))=true
   ·rw[if_pos h3]at ha;simp at ha
   ·rw[if_neg h3]at ha;rw[←(Prod.mk.inj ha).1];refine Xs1 h h0 (by omega) h2 fun z hz=> ?_;rw[hg]at hz;cases hz;have h4:(y.ag==2)=(e.ag==2):=by simpa using h3
    constructor
    ·intro k;rw[k]at h4;simpa using h4.symm
    ·intro k;rw[k]at h4;simpa using h4
def FY(t:List ay)(e:ay):List ay:=if 3<e.ag then(if e.ag=4 then t.filter fun x=> !(under x.af e.af)else t)else eF t e
structure OJ (t:List ay) (e:ay):Prop where
 mr:az e=0
 there:3<e.ag→ ¬(dC t e.af=none∧e.af≠[])
 up:e.ag≤3→aU t (jO e.af)=0
 like:e.ag≤3→ ∀y,dC t e.af=some y→(y.ag==2)=(e.ag==2)
 room:e.ag≤3→dC t e.af=none→t.length<5000
theorem jR{a:List ay}:bL t e=(a,0)↔OJ t e∧a=FY t e:=by
 unfold bL FY;by_cases h0:az e=0;case neg=>
  rw[if_pos h0];exact⟨fun h=>absurd (Prod.mk.inj h).2 h0,fun h=>absurd h.1.mr h0⟩
 rw[if_neg (by omega)];by_cases h1:3<e.ag
 ·rw[if_pos h1,if_pos h1];by_cases h2:dC t e.af=none∧e.af≠[]
  ·rw[if_pos h2];exact⟨fun h=>absurd (Prod.mk.inj h).2 (by decide),fun h=>absurd h2 (h.1.there h1)⟩
  ·rw[if_neg h2];have hp:OJ t e:=⟨h0,fun _=>h2,fun k=>by omega,fun k=>by omega,fun k=>by omega⟩;by_cases h3:e.ag=4
   ·rw[if_pos h3,if_pos h3];exact⟨fun h=>⟨hp,(Prod.mk.inj h).1.symm⟩,fun h=>by rw[h.2]⟩
   ·rw[if_neg h3,if_neg h3];exact⟨fun h=>⟨hp,(Prod.mk.inj h).1.symm⟩,fun h=>by rw[h.2]⟩
 ·rw[if_neg h1,if_neg h1];by_cases h2:aU t (jO e.af)=0;case neg=>
   rw[if_pos h2];exact⟨fun h=>absurd (Prod.mk.inj h).2 h2,fun h=>absurd (h.1.up (by omega)) h2⟩
  rw[if_neg (by omega)];cases hg:dC t e.af with
  |none=>
   show(if 5000≤t.length then(([]:List ay),(6:Int))else(eF t e,0))=(a,0)↔_;by_cases h3:5000≤t.length
   ·rw[if_pos h3];exact⟨fun h=>absurd (Prod.mk.inj h).2 (by decide),fun h=>absurd (h.1.room (by omega) hg) (by omega)⟩
   ·rw[if_neg h3];exact⟨fun h=>⟨⟨h0,fun k=>absurd k h1,fun _=>h2,fun _ y hy=>(by rw[hg]at hy;cases hy),fun _ _=>(by omega)⟩,(Prod.mk.inj h).1.symm⟩,fun h=>by rw[h.2]⟩
  |some y=>
   show(if((y.ag==2) !=(e.ag==2))=true then(([]:List ay),(8:Int))else(eF t e,0))=(a,0)↔_;by_cases h3:((y.ag==2) !=(e.ag==2))=true
   ·rw[if_pos h3];refine⟨fun h=>absurd (Prod.mk.inj h).2 (by decide),fun h=> ?_⟩;have:=h.1.like (by omega) y hg;rw[this]at h3;simp at h3
   ·rw[if_neg h3];exact⟨fun h=>⟨⟨h0,fun k=>absurd k h1,fun _=>h2,fun _ z hz=>(by rw[hg]at hz;cases hz;simpa using h3),fun _ hn=>(by rw[hg]at hn;cases hn)⟩,(Prod.mk.inj h).1.symm⟩,fun h=>by rw[h.2]⟩
def Iw(e z:ay):Prop:=(e.ag≤3→z.af≠e.af)∧(e.ag=4→under z.af e.af=false)
theorem Xyr(h:fC t)(e z:ay):z∈FY t e↔(e.ag≤3∧z=e)∨(z∈t∧Iw e z):=by
 unfold FY Iw;by_cases h1:3<e.ag
 ·rw[if_pos h1];by_cases h2:e.ag=4
  ·rw[if_pos h2,List.mem_filter];constructor
   ·rintro⟨a,b⟩;exact .inr ⟨a,fun k=>by omega,fun _=>by simpa using b⟩
   ·rintro(⟨k,_⟩|⟨a,_,b⟩)
    ·omega
    ·exact⟨a,by simpa using b h2⟩
  ·rw[if_neg h2];constructor
   ·intro a;exact .inr ⟨a,fun k=>by omega,fun k=>absurd k h2⟩
   ·rintro(⟨k,_⟩|⟨a,_⟩)
    ·omega
    ·exact a
 ·rw[if_neg h1,Ff h];constructor
  ·rintro(k|⟨a,b⟩)
   ·exact .inl ⟨by omega,k⟩
   ·exact .inr ⟨a,fun _=>b,fun k=>by omega⟩
  ·rintro(⟨_,k⟩|⟨a,b,_⟩)
   ·exact .inl k
   ·exact .inr ⟨a,b (by omega)⟩
theorem Xwe(t:List ay)(e:ay):(eF t e).length≤t.length+1:=by
 have:∀(l out:List ay) (d:Bool),(dE e d out l).length≤out.length+l.length+1:=by
  intro l;induction l with
  |nil=>intro out d;cases d<;>simp[dE]
  |cons y l ih=>
   intro out d;rw[dE];cases hc:(!d&& !(kr y e))
   ·refine Nat.le_trans (ih _ _) ?_;cases h:(y.af==e.af)<;>simp<;>omega
   ·have hd:(d || !(kr y e))=true:=by
     simp only[Bool.and_eq_true]at hc;rw[hc.2];simp
    rw[hd,Xif];have:=List.length_filter_le (fun y:ay=> !(y.af==e.af)) l;cases h:(y.af==e.af)<;>simp<;>omega
 simpa[eF]using this t [] false
theorem Xys(t:List ay)(e:ay):(FY t e).length≤t.length+1:=by
 unfold FY;by_cases h1:3<e.ag
 ·rw[if_pos h1];by_cases h2:e.ag=4
  ·rw[if_pos h2];exact Nat.le_trans (List.length_filter_le _ _) (Nat.le_succ _)
  ·rw[if_neg h2];exact Nat.le_succ _
 ·rw[if_neg h1];exact Xwe t e
def bs(p:Nat→Bool)(lo hi:Nat):Nat:=
 if h:lo<hi then(if p ((lo+hi) / 2)then bs p lo ((lo+hi) / 2)else bs p ((lo+hi) / 2+1) hi)else lo
termination_by hi-lo
decreasing_by all_goals omega
theorem SC(p:Nat→Bool)(lo hi:Nat)(h:lo≤hi):lo≤bs p lo hi∧bs p lo hi≤hi:=by
 induction lo,hi using bs.induct p with
 |case1 lo hi hlt hp ih=>rw[bs,dif_pos hlt,if_pos hp];have:=ih (by omega);omega
 |case2 lo hi hlt hp ih=>rw[bs,dif_pos hlt,if_neg hp];have:=ih (by omega);omega
 |case3 lo hi hlt=>rw[bs,dif_neg hlt];omega
theorem Xz1(p:Nat→Bool)(lo hi:Nat)(h:lo≤hi):(lo<bs p lo hi→p (bs p lo hi-1)=false)∧(bs p lo hi<hi→p (bs p lo hi)=true):=by
 induction lo,hi using bs.induct p with
 |case1 lo hi hlt hp ih=>
  rw[bs,dif_pos hlt,if_pos hp];have h1:=ih (by omega);refine⟨h1.1,fun h2=> ?_⟩;by_cases h3:bs p lo ((lo+hi) / 2)<(lo+hi) / 2
  ·exact h1.2 h3
  ·have:=SC p lo ((lo+hi) / 2) (by omega);rw[show bs p lo ((lo+hi) / 2)=(lo+hi) / 2 by omega];exact hp
 |case2 lo hi hlt hp ih=>
  rw[bs,dif_pos hlt,if_neg hp];have h1:=ih (by omega);refine⟨fun h2=> ?_,h1.2⟩;by_cases h3:(lo+hi) / 2+1<bs p ((lo+hi) / 2+1) hi
  ·exact h1.1 h3
  ·have:=SC p ((lo+hi) / 2+1) hi (by omega);rw[show bs p ((lo+hi) / 2+1) hi-1=(lo+hi) / 2 by omega];simpa using hp
 |case3 lo hi hlt=>rw[bs,dif_neg hlt];exact⟨fun h=>by omega,fun h=>by omega⟩
theorem Xwd(h:fC t)(e:ay)(hi:i<t.length)(hp:t[i].af=e.af):eF t e=t.set i e:=by
 have H8:∀(a:ay),kr a e=kr a t[i]:=fun a=>by unfold kr;rw[hp]
 have ZU:∀(a:ay),kr e a=kr t[i] a:=fun a=>by unfold kr;rw[hp]
 have JD:=List.pairwise_iff_getElem.1 h;have Ct:fC (t.set i e):=by
  refine List.pairwise_iff_getElem.2 fun a b ha hb hab=> ?_;rw[List.length_set]at ha hb;have h0:=JD a b ha hb hab;rw[List.getElem_set,List.getElem_set];by_cases h1:i=a
  ·subst h1;rw[if_pos rfl,if_neg (by omega)];show kr e t[b]=true;rw[ZU];exact h0
  ·rw[if_neg h1];by_cases h2:i=b
   ·subst h2;rw[if_pos rfl];show kr t[a] e=true;rw[H8];exact h0
   ·rw[if_neg h2];exact h0
 refine fC.ext (MW h e) Ct fun z=> ?_;rw[Ff h];constructor
 ·rintro(rfl|⟨hz,cK⟩)
  ·exact List.mem_set hi _
  ·obtain⟨j,hj,rfl⟩:=List.getElem_of_mem hz;have JE:i≠j:=fun e2=>cK (by subst e2;exact hp);have:(t.set i e)[j]'(by rw[List.length_set];exact hj)=t[j]:=List.getElem_set_ne JE _;rw[←this];exact List.getElem_mem _
 ·intro hz;obtain⟨j,hj,rfl⟩:=List.getElem_of_mem hz;rw[List.length_set]at hj;rw[List.getElem_set];by_cases JE:i=j
  ·rw[if_pos JE];exact .inl rfl
  ·rw[if_neg JE];refine .inr ⟨List.getElem_mem _,fun he=> ?_⟩;have cK:t[j].af≠t[i].af:=by
    rcases Nat.lt_or_gt_of_ne JE with h1|h1
    ·exact(ww (JD i j hi hj h1)).symm
    ·exact ww (JD j i hj hi h1)
   exact cK (he.trans hp.symm)
theorem Xwf(h:fC t)(e:ay)(hi:i≤t.length)(hl:∀k (hk:k<t.length),k<i→kr t[k] e=true)(hg:∀k (hk:k<t.length),i≤k→kr e t[k]=true):eF t e=t.take i++e::t.drop i:=by
 have JD:=List.pairwise_iff_getElem.1 h;have Ct:fC (t.take i++e::t.drop i):=by
  refine List.pairwise_append.2 ⟨List.Pairwise.sublist (List.take_sublist _ _) h,List.pairwise_cons.2 ⟨fun b hb=> ?_,List.Pairwise.sublist (List.drop_sublist _ _) h⟩,fun a ha b hb=> ?_⟩
  ·obtain⟨j,hj,rfl⟩:=List.getElem_of_mem hb;rw[List.getElem_drop];exact hg _ (by simp at hj;omega) (by omega)
  ·obtain⟨j,hj,rfl⟩:=List.getElem_of_mem ha;have xk:j<i∧j<t.length:=by simp at hj;omega
   rw[List.getElem_take];rcases List.mem_cons.1 hb with rfl|hb
   ·exact hl j xk.2 xk.1
   ·obtain⟨q,hq,rfl⟩:=List.getElem_of_mem hb;rw[List.getElem_drop];exact JD j (i+q) xk.2 (by simp at hq;omega) (by omega)
 refine fC.ext (MW h e) Ct fun z=> ?_;rw[Ff h,List.mem_append,List.mem_cons];constructor
 ·rintro(rfl|⟨hz,cK⟩)
  ·exact .inr (.inl rfl)
  ·rw[←List.take_append_drop i t,List.mem_append]at hz;rcases hz with hz|hz
   ·exact .inl hz
   ·exact .inr (.inr hz)
 ·rintro(hz|rfl|hz)
  ·obtain⟨j,hj,rfl⟩:=List.getElem_of_mem hz;have xk:j<i∧j<t.length:=by simp at hj;omega
   rw[List.getElem_take];exact .inr ⟨List.getElem_mem _,ww (hl j xk.2 xk.1)⟩
  ·exact .inl rfl
  ·obtain⟨j,hj,rfl⟩:=List.getElem_of_mem hz;rw[List.getElem_drop];exact .inr ⟨List.getElem_mem _,(ww (hg (i+j) (by simp at hj;omega) (by omega))).symm⟩
def gF(t:List ay)(p:ae)(i:Nat):Bool:=match t[i]? with|some x=> !(gU (els x.af) (els p))|none=>true
theorem Xyn(h:fC t)(e:ay)(hn:∀x∈t,x.af≠e.af):eF t e=t.take (bs (gF t e.af) 0 t.length)++e::t.drop (bs (gF t e.af) 0 t.length):=by
 have H8:=SC (gF t e.af) 0 t.length (Nat.zero_le _);have hsp:=Xz1 (gF t e.af) 0 t.length (Nat.zero_le _);generalize bs (gF t e.af) 0 t.length=i at H8 hsp;have JD:=List.pairwise_iff_getElem.1 h;refine Xwf h e H8.2 (fun k hk hki=> ?_) (fun k hk hik=> ?_)
 ·have h1:=hsp.1 (by omega);rw[gF,List.getElem?_eq_getElem (by omega)]at h1;have h2:kr (t[i-1]'(by omega)) e=true:=by simpa using h1
  by_cases sP:k=i-1
  ·subst sP;exact h2
  ·exact Dh (JD k (i-1) hk (by omega) (by omega)) h2
 ·have h1:=hsp.2 (by omega);rw[gF,List.getElem?_eq_getElem (by omega)]at h1;have h2:kr (t[i]'(by omega)) e=false:=by simpa using h1
  have h3:kr e (t[i]'(by omega))=true:=by
   rcases OI e (t[i]'(by omega))with h3|h3|h3
   ·exact h3
   ·exact absurd h3.symm (hn _ (List.getElem_mem _))
   ·rw[h2]at h3;exact absurd h3 (by simp)
  by_cases sP:k=i
  ·subst sP;exact h3
  ·exact Dh h3 (JD i k (by omega) hk (by omega))
structure Ho where
 p:ae
 u:Int
 deriving DecidableEq
variable{l m:List Ho}
def fu(l:List Ho)(d:Int):List Ho:=l.filter fun h=>decide (d≤h.u)
def fK(l:List Ho)(p:ae)(d:Int):Bool:=(fu l d).any fun h=>under p h.p
def jS(l:List Ho)(p:ae)(d:Int):Bool:=(fu l d).any fun h=>under h.p p
def jT(l:List Ho)(k:Int)(p:ae)(d:Int):Int:=
 if k=1∨k=2∨k=3 then(if fK l p d then 15 else 0)else if k=4 then(if fK l p d || jS l p d then 15 else 0)else 0
def gV(l:List Ho)(p:ae):List Ho:=l.filter fun h=> !(h.p==p)
def jd(h:Ho):List Ho→List Ho
 | []=> [h]
 |x::l=>if gU (els h.p) (els x.p)then h::x::l else x::jd h l
def gH(p:ae):List Ho→Int→Int
 | [],u=>u
 |h::l,u=>gH p l (if h.p=p then max u h.u else u)
def wy(l:List Ho)(p:ae):Bool:=l.any fun h=>h.p==p
def appH(l:List Ho)(e:ay)(d:Int):List Ho×Int:=
 if e.ag=5 then(jd ⟨e.af,gH e.af (fu l d) (digits e.target)⟩ (gV (fu l d) e.af),0)
 else if e.ag=6 then(if wy (fu l d) e.af then(gV (fu l d) e.af,0)else([],9))
 else(fu l d,0)
structure tQ (l:List Ho):Prop where
 ne:l.Pairwise fun a b=>a.p≠b.p
 u0:∀h∈l,0≤h.u
 u1:∀h∈l,h.u≤1000000000
 af:∀h∈l,aF h.p=0
theorem Xtu:tQ []:=⟨List.Pairwise.nil,fun _ h=>(by cases h),fun _ h=>(by cases h),fun _ h=>(by cases h)⟩
theorem tQ.sub(h:tQ l)(hs:m.Sublist l):tQ m:=⟨h.ne.sublist hs,fun x hx=>h.u0 x (hs.subset hx),fun x hx=>h.u1 x (hs.subset hx),fun x hx=>h.af x (hs.subset hx)⟩
theorem tQ.act(h:tQ l)(d:Int):tQ (fu l d):=h.sub List.filter_sublist
theorem tQ.rest(h:tQ l)(p:ae):tQ (gV l p):=h.sub List.filter_sublist
theorem OL(h:Ho):∀{l:List Ho} {x:Ho},x∈jd h l↔x=h∨x∈l
 | [],x=>by simp[jd]
 |y::l,x=>by
  rw[jd];split
  ·rw[List.mem_cons]
  ·rw[List.mem_cons,OL h,List.mem_cons];constructor
   ·rintro(k|k|k)
    ·exact .inr (.inl k)
    ·exact .inl k
    ·exact .inr (.inr k)
   ·rintro(k|k|k)
    ·exact .inr (.inl k)
    ·exact .inl k
    ·exact .inr (.inr k)
theorem Xp6(h:Ho):∀l:List Ho,(jd h l).length=l.length+1
 | []=>rfl
 |y::l=>by
  rw[jd];split
  ·rfl
  ·rw[List.length_cons,Xp6 h l,List.length_cons]
theorem Xts{h:Ho}:∀{l:List Ho},l.Pairwise (fun a b=>a.p≠b.p)→(∀x∈l,x.p≠h.p)→(jd h l).Pairwise fun a b=>a.p≠b.p
 | [],_,_=>List.pairwise_singleton _ _
 |y::l,hl,hn=>by
  rw[jd];obtain⟨h1,h2⟩:=List.pairwise_cons.1 hl;split
  ·exact List.pairwise_cons.2 ⟨fun x hx k=>hn x hx k.symm,hl⟩
  ·refine List.pairwise_cons.2 ⟨fun x hx=> ?_,Xts h2 fun x hx=>hn x (List.mem_cons_of_mem _ hx)⟩;rcases(OL h).1 hx with rfl|hx
   ·exact hn y (List.mem_cons_self ..)
   ·exact h1 x hx
theorem Xv9:∀x∈gV l p,x.p≠p:=fun x hx k=>by
 have:=(List.mem_filter.1 hx).2;rw[k]at this;simp at this
theorem Vr(p:ae):∀(l:List Ho) (u:Int),(∀h∈l,0≤h.u∧h.u≤1000000000)→0≤u→u≤1000000000→0≤gH p l u∧gH p l u≤1000000000
 | [],u,_,h0,h1=>⟨h0,h1⟩
 |h::l,u,hl,h0,h1=>by
  have hh:=hl h (List.mem_cons_self ..);have hr:=fun x hx=>hl x (List.mem_cons_of_mem _ hx);rw[gH];split
  ·exact Vr p l _ hr (by omega) (by omega)
  ·exact Vr p l _ hr h0 h1
theorem SE(h:fH s=true):0≤digits s∧digits s≤1000000000:=by
 unfold fH at h;simp only[Bool.and_eq_true,decide_eq_true_eq]at h;refine⟨?_,h.2⟩;have h0:=h.1.2;unfold digits;have key:∀(l:ae) (a:Int),0≤a→(l.all fun c=>decide (48≤c)&&decide (c≤57))=true→0≤l.foldl (fun(n:Int) c=>10*n+((c.toNat:Int)-48)) a:=by
  intro l;induction l with
  |nil=>intro a ha _;exact ha
  |cons c l ih=>
   intro a ha hl;rw[List.all_cons,Bool.and_eq_true]at hl;rw[List.foldl_cons];have h48:(48:UInt8)≤c:=by
    have:=hl.1;simp only[Bool.and_eq_true,decide_eq_true_eq]at this;exact this.1
   have aqS:48≤c.toNat:=h48;exact ih _ (by omega) hl.2
 exact key s 0 (by omega) h0
theorem Vs(he:az e=0)(hk:e.ag=5):fH e.target=true:=by
 unfold az at he;rw[if_neg (by omega)]at he;by_cases h1:aF e.af≠0
 ·rw[if_pos h1]at he;exact absurd he h1
 rw[if_neg h1]at he;split at he
 ·omega
 by_cases h2:mq e.ai≠0
 ·rw[if_pos h2]at he;exact absurd he h2
 rw[if_neg h2]at he;split at he
 ·omega
 rename_i h3;have ht:bG e=true:=by
  cases hh:bG e with
  |true=>rfl
  |false=>exact absurd (.inr hh) h3
 unfold bG at ht;rw[if_neg (by omega),if_pos hk]at ht;exact ht
theorem Xz5{n:Int}(h:tQ l)(he:az e=0)(ha:appH l e d=(m,n)):tQ m:=by
 unfold appH at ha;by_cases h5:e.ag=5
 ·rw[if_pos h5]at ha;obtain⟨rfl,rfl⟩:=Prod.mk.inj ha;have hr:=(h.act d).rest e.af;have hd:=SE (Vs he h5);have hu:=Vr e.af (fu l d) (digits e.target) (fun x hx=>⟨(h.act d).u0 x hx,(h.act d).u1 x hx⟩) hd.1 hd.2;refine⟨Xts hr.ne fun x hx=>Xv9 x hx,fun x hx=> ?_,fun x hx=> ?_,fun x hx=> ?_⟩
  ·rcases(OL _).1 hx with rfl|hx
   ·exact hu.1
   ·exact hr.u0 x hx
  ·rcases(OL _).1 hx with rfl|hx
   ·exact hu.2
   ·exact hr.u1 x hx
  ·rcases(OL _).1 hx with rfl|hx
   ·exact(CF he).2.2.1
   ·exact hr.af x hx
 ·rw[if_neg h5]at ha;split at ha
  ·split at ha
   ·obtain⟨rfl,rfl⟩:=Prod.mk.inj ha;exact(h.act d).rest e.af
   ·obtain⟨rfl,rfl⟩:=Prod.mk.inj ha;exact Xtu
  ·obtain⟨rfl,rfl⟩:=Prod.mk.inj ha;exact h.act d
theorem Xxx{n:Int}(ha:appH l e d=(m,n)):m.length≤l.length+1:=by
 have h1:(fu l d).length≤l.length:=List.length_filter_le _ _;have h2:∀p,(gV (fu l d) p).length≤(fu l d).length:=fun p=>List.length_filter_le _ _;have h3:=h2 e.af;unfold appH at ha;split at ha
 ·obtain⟨rfl,rfl⟩:=Prod.mk.inj ha;rw[Xp6];omega
 ·split at ha
  ·split at ha
   ·obtain⟨rfl,rfl⟩:=Prod.mk.inj ha;omega
   ·obtain⟨rfl,rfl⟩:=Prod.mk.inj ha;simp
  ·obtain⟨rfl,rfl⟩:=Prod.mk.inj ha;omega
def lY(p:ae):List Ho→Int→Int
 | [],u=>u
 |h::l,u=>lY p l (if h.p=p then h.u else u)
theorem Vt:∀{l:List Ho} {u:Int},(∀x∈l,x.p≠p)→lY p l u=u
 | [],_,_=>rfl
 |h::l,u,hn=>by
  rw[lY,if_neg (hn h (List.mem_cons_self ..))];exact Vt fun x hx=>hn x (List.mem_cons_of_mem _ hx)
theorem Xhw:∀{l:List Ho} {u:Int},(∀x∈l,x.p≠p)→gH p l u=u
 | [],_,_=>rfl
 |h::l,u,hn=>by
  rw[gH,if_neg (hn h (List.mem_cons_self ..))];exact Xhw fun x hx=>hn x (List.mem_cons_of_mem _ hx)
theorem Xlt:∀{l:List Ho} {u:Int},tQ l→0≤u→(if u<lY p l (-1)then lY p l (-1)else u)=gH p l u
 | [],u,_,h0=>by rw[lY,gH,if_neg (by omega)]
 |h::l,u,hk,h0=>by
  obtain⟨h1,h2⟩:=List.pairwise_cons.1 hk.ne;by_cases hp:h.p=p
  ·have hn:∀x∈l,x.p≠p:=fun x hx k=>h1 x hx (by rw[hp,k]);rw[lY,gH,if_pos hp,if_pos hp,Vt hn,Xhw hn];split<;>omega
  ·rw[lY,gH,if_neg hp,if_neg hp];exact Xlt (hk.sub (List.sublist_cons_self _ _)) h0
theorem Xr7:∀{l:List Ho},tQ l→(decide (lY p l (-1)<0))=!(wy l p)
 | [],_=>by rw[lY];rfl
 |h::l,hk=>by
  obtain⟨h1,h2⟩:=List.pairwise_cons.1 hk.ne;by_cases hp:h.p=p
  ·have hn:∀x∈l,x.p≠p:=fun x hx k=>h1 x hx (by rw[hp,k]);have h0:=hk.u0 h (List.mem_cons_self ..);rw[lY,if_pos hp,Vt hn,Qf (by omega)];simp[wy,hp]
  ·rw[lY,if_neg hp,Xr7 (hk.sub (List.sublist_cons_self _ _))];simp[wy,hp]
theorem xV:((gV l p).length=l.length)↔wy l p=false:=by
 unfold gV wy;rw[List.length_filter_eq_length_iff,List.any_eq_false];constructor
 ·intro h x hx;have:=h x hx;simpa using this
 ·intro h x hx;have:=h x hx;simpa using this
def jP(t:List ay)(p:ae):List ay:=t.filter fun x=>decide (aF x.af=0)&&decide (x.af≠[])&&(jO x.af==p)
def iE(p:ae):ae:=(els p).getLastD []
section
variable (H FZ:ae→ae) (num:Int→ae) (nm:Int→ae)
def zy(x:ay):ae:=FZ (nm x.ag)++(num x.ai.length++x.ai.flatMap fun a=>FZ a.k++FZ a.v)
def rP:Nat→List ay→ay→ae
 |0,_,_=> []
 |n+1,t,x=>if x.ag=2 then H (zy FZ num nm x++num (jP t x.af).length++(jP t x.af).flatMap fun y=>FZ (iE y.af)++FZ (rP n t y))
  else H (zy FZ num nm x++FZ x.target++num x.size++FZ x.aj)
theorem qZ{z:ay}:z∈jP t p↔z∈t∧aF z.af=0∧z.af≠[]∧jO z.af=p:=by
 simp[jP,List.mem_filter,and_assoc]
end
theorem Vu(B:ae):∀(A p:ae),dx p (A++47::B)=dx p A++dx [] B
 | [],p=>by rw[List.nil_append,dx,dx];rfl
 |c::A,p=>by
  rw[List.cons_append,dx,dx];split
  ·rw[Vu B A []];rfl
  ·exact Vu B A _
theorem Vv:∀(B p:ae),(∀c∈B,c≠47)→dx p B=[p++B]
 | [],p,_=>by rw[dx,List.append_nil]
 |c::B,p,h=>by
  have hc:(c==47)=false:=by simpa using h c (List.mem_cons_self ..)
  rw[dx,hc];simp only[Bool.false_eq_true,if_false];rw[Vv B (p++[c]) fun d hd=>h d (List.mem_cons_of_mem _ hd)];simp
theorem Xrl(h:∀c∈s,c≠47):iE s=s:=by
 unfold iE els;by_cases hs:s=[]
 ·rw[if_pos hs,hs];rfl
 ·rw[if_neg hs,Vv s [] h];rfl
theorem Xtp(A B:ae)(h:∀c∈B,c≠47):iE (A++47::B)=B:=by
 unfold iE els;rw[if_neg (by simp),Vu,Vv B [] h];simp
def aN(s:ae):ae:=Lib.itoa s.length++[58]++s++[44]
def eX:List ae→ae
 | []=> []
 |s::l=>aN s++eX l
def bq(n:Int):ae:=Lib.itoa n++[32]
theorem Xgz(l m:List ae):eX (l++m)=eX l++eX m:=by
 induction l with
 |nil=>rfl
 |cons s l ih=>rw[List.cons_append,eX,eX,ih,List.append_assoc]
theorem Xj5(n w:Nat)(hn:n<10^w)(hw:1≤w):Lib.nDigits n≤w:=by
 induction w generalizing n with
 |zero=>omega
 |succ w ih=>
  by_cases h:n<10
  ·rw[Lib.nDigits_small h];omega
  ·rw[Lib.nDigits_big h];rw[Nat.pow_succ]at hn;rcases Nat.eq_zero_or_pos w with h0|h0
   ·subst h0;simp at hn;omega
   ·have:=ih (n / 10) (by omega) h0;omega
theorem MX(n:Nat)(h:n≤140737488355328):(Lib.itoa (n:Int)).length≤16:=by
 have:Lib.itoa (n:Int)=Lib.decDigits n:=by simp[Lib.itoa]
 rw[this,Lib.decDigits_length];exact Xj5 n 16 (by omega) (by omega)
theorem mQ(s:ae)(h:s.length≤100000000):(aN s).length≤s.length+18:=by
 have:=MX s.length (by omega);simp[aN];omega
theorem y9(n:Nat)(h:n≤140737488355328):(bq n).length≤17:=by
 have:=MX n h;simp[bq];omega
structure xW (x:ay):Prop where
 ag:x.ag=1∨x.ag=2∨x.ag=3
 uW:x.ai.length≤16
 Iy:∀a∈x.ai,a.k.length≤32∧a.v.length≤64
 target:x.target.length≤200
 s0:0≤x.size
 s1:x.size≤65536
 aj:x.aj.length≤32
 af:x.af.length≤200
 deep:(els x.af).length≤8
theorem Xi7:∀{l:List At} {p:Option At},dP p l=0→ ∀a∈l,a.k.length≤32∧a.v.length≤64
 | [],_,_,a,ha=>by cases ha
 |x::l,p,h,a,ha=>by
  unfold dP at h;by_cases h1:fJ x≠0
  ·rw[if_pos h1]at h;exact absurd h h1
  rw[if_neg h1]at h;split at h
  ·omega
  split at h
  ·omega
  rcases List.mem_cons.1 ha with rfl|ha
  ·have h2:fJ a=0:=by omega
   unfold fJ at h2;split at h2
   ·omega
   rename_i hk;split at h2
   ·omega
   simp[kW]at hk;omega
  ·exact Xi7 h a ha
theorem Xvb{l:List At}(h:mq l=0):l.length≤16∧ ∀a∈l,a.k.length≤32∧a.v.length≤64:=by
 unfold mq at h;split at h
 ·omega
 ·exact⟨by omega,Xi7 h⟩
theorem Xzr(h:az x=0)(hk:x.ag=1∨x.ag=2∨x.ag=3):xW x:=by
 unfold az at h;rw[if_neg (by omega)]at h;by_cases h1:aF x.af≠0
 ·rw[if_pos h1]at h;exact absurd h h1
 rw[if_neg h1]at h;split at h
 ·omega
 by_cases h2:mq x.ai≠0
 ·rw[if_pos h2]at h;exact absurd h h2
 rw[if_neg h2]at h;split at h
 ·omega
 rename_i h3;split at h
 ·omega
 rename_i h4;split at h
 ·omega
 rename_i h5;have hc:=Xvb (l:=x.ai) (by omega);have hp:aF x.af=0:=by omega
 refine⟨hk,hc.1,hc.2,?_,by omega,by omega,?_,?_,?_⟩
 ·have ht:bG x=true:=by
   cases hh:bG x with
   |true=>rfl
   |false=>exact absurd (.inr hh) h3
  unfold bG at ht;split at ht
  ·simp at ht;omega
  ·rw[if_neg (by omega)]at ht;have:x.target=[]:=by simpa using ht
   rw[this];simp
 ·rcases hk with hk|hk|hk
  ·have:¬(x.ag=1∧x.aj.length≠32):=fun q=>h5 (.inl q);omega
  all_goals
   have:¬(x.ag≠1∧x.aj≠[]):=fun q=>h5 (.inr q);have hd:x.aj=[]:=Classical.byContradiction fun q=>this ⟨by omega,q⟩;rw[hd];simp
 ·unfold aF at hp;split at hp<;>omega
 ·unfold aF at hp;split at hp
  ·omega
  ·split at hp<;>omega
def mF:ay:=⟨2,[],[],[],0,[],[]⟩
theorem Xu3:xW mF:=⟨.inr (.inl rfl),by decide,fun a ha=>(by cases ha),by decide,by decide,by decide,by decide,by decide,by decide⟩
def Deep(n:Nat)(x:ay):Prop:=10≤(els x.af).length+n
theorem Xth(h:Deep (n+1) x)(hy:y∈jP t x.af):Deep n y:=by
 obtain⟨_,h1,h2,h3⟩:=qZ.1 hy;have he:=Vq h1;rw[h3]at he;unfold Deep at*;have cK:els y.af≠[]:=by
  intro e;apply h2;unfold els at e;split at e
  ·assumption
  ·exact absurd e (MP _ _)
 have hl:(els y.af).length≠0:=fun e=>cK (List.eq_nil_of_length_eq_zero e);rw[he,List.length_dropLast]at h;omega
section
variable (H:ae→ae) (hH:∀s,(H s).length≤32)
abbrev iv(n:Nat)(t:List ay)(x:ay):ae:=rP H aN bq bH n t x
abbrev lZ(x:ay):ae:=zy aN bq bH x
theorem MZ(k:Int):(bH k).length≤7:=by
 unfold bH;repeat' split
 all_goals simp
def q8(l:List At):ae:=bq l.length++l.flatMap fun a=>aN a.k++aN a.v
theorem Vw:∀(l:List At),(∀a∈l,a.k.length≤32∧a.v.length≤64)→(l.flatMap fun a=>aN a.k++aN a.v).length≤132*l.length
 | [],_=>by simp
 |a::l,h=>by
  have h1:=h a (List.mem_cons_self ..);have h2:=Vw l fun b hb=>h b (List.mem_cons_of_mem _ hb);have h3:=mQ a.k (by omega);have h4:=mQ a.v (by omega);simp only[List.flatMap_cons,List.length_append,List.length_cons];omega
theorem Vx{l:List At}(hn:l.length≤16)(h:∀a∈l,a.k.length≤32∧a.v.length≤64):(q8 l).length≤2200:=by
 have h1:=Vw l h;have h2:=y9 l.length (by omega);unfold q8;rw[List.length_append];omega
theorem Xm6(x:ay):lZ x=aN (bH x.ag)++q8 x.ai:=rfl
theorem Xj9(h:xW x):(lZ x).length≤2300:=by
 have h1:=Vx h.uW h.Iy;have h2:=MZ x.ag;have h3:=mQ (bH x.ag) (by omega);rw[Xm6,List.length_append];omega
include hH in
theorem Xmq(n:Nat)(t:List ay)(x:ay):(iv H n t x).length≤32:=by
 cases n with
 |zero=>exact Nat.zero_le _
 |succ n=>
  show(rP H aN bq bH (n+1) t x).length≤32;rw[rP];split<;>exact hH _
def p9(n:Nat)(t:List ay)(x:ay)(l:List ay):ae:=lZ x++bq (jP t x.af).length++l.flatMap fun y=>aN (iE y.af)++aN (iv H n t y)
theorem Xwj(n:Nat)(t:List ay)(h:x.ag=2):iv H (n+1) t x=H (p9 H n t x (jP t x.af)):=by
 show rP H aN bq bH (n+1) t x=_;rw[rP,if_pos h];rfl
theorem Xtd(n:Nat)(t:List ay)(h:x.ag≠2):iv H (n+1) t x=H (lZ x++aN x.target++bq x.size++aN x.aj):=by
 show rP H aN bq bH (n+1) t x=_;rw[rP,if_neg h]
theorem Xmv(p:ae):(iE p).length≤p.length:=by
 unfold iE els;split
 ·simp
 ·rw[List.getLastD_eq_getLast?,List.getLast?_eq_some_getLast (MP p [])];have:=Sw p [] _ (List.getLast_mem (MP p []));simpa using this
include hH in
theorem Xpa(h:xW x)(ht:t.length≤100000)(hd:∀y∈t,y.af.length≤200):∀(l:List ay),(∀y∈l,y∈t)→(p9 H n t x l).length≤2400+300*l.length:=by
 intro l hl;have h1:=Xj9 h;have h2:(jP t x.af).length≤t.length:=List.length_filter_le _ _;have h3:=y9 (jP t x.af).length (by omega);have h4:(l.flatMap fun y=>aN (iE y.af)++aN (iv H n t y)).length≤300*l.length:=by
  clear h1 h2 h3;induction l with
  |nil=>simp
  |cons y l ih=>
   have k1:=ih fun z hz=>hl z (List.mem_cons_of_mem _ hz);have k2:=hd y (hl y (List.mem_cons_self ..));have k3:=Xmv y.af;have k4:=mQ (iE y.af) (by omega);have k5:=Xmq H hH n t y;have k6:=mQ (iv H n t y) (by omega);simp only[List.flatMap_cons,List.length_append,List.length_cons];omega
 unfold p9;rw[List.length_append,List.length_append];omega
end
def l5(d m x:Int):Int:=bits .or .u32 (x / d) (x*m%4294967296)
theorem SF(k:IntKind)(x y:Int):bits .or k x y=bits .or k y x:=by
 simp only[bits,BitVec.or_comm]
def tT(k d m:Int):Prop:=(k=16∧d=65536∧m=65536)∨(k=12∧d=4096∧m=1048576)∨(k=8∧d=256∧m=16777216)∨(k=7∧d=128∧m=33554432)
theorem SG(x:Int)(k d m:Int)(hk:tT k d m)(w:World):
 Calls Tryz.prog 191 #[.int .u32 x,.int .i64 (-k)] w fun e w'=>e= .returned (.int .u32 (l5 d m x))∧w'=w:=by
 rcases hk with⟨rfl,rfl,rfl⟩|⟨rfl,rfl,rfl⟩|⟨rfl,rfl,rfl⟩|⟨rfl,rfl,rfl⟩
 ·have e1:IntKind.u64.wrap (-16)=18446744073709551600:=by decide
  have e2:bits .and .u64 18446744073709551600 31=16:=by decide
  go_enter Tryz.func191,Tryz.ntmps191
  go_wp2;go_ret;exact⟨bT (SF _ _ _),rfl⟩
 ·have e1:IntKind.u64.wrap (-12)=18446744073709551604:=by decide
  have e2:bits .and .u64 18446744073709551604 31=20:=by decide
  go_enter Tryz.func191,Tryz.ntmps191
  go_wp2;go_ret;exact⟨bT (SF _ _ _),rfl⟩
 ·have e1:IntKind.u64.wrap (-8)=18446744073709551608:=by decide
  have e2:bits .and .u64 18446744073709551608 31=24:=by decide
  go_enter Tryz.func191,Tryz.ntmps191
  go_wp2;go_ret;exact⟨bT (SF _ _ _),rfl⟩
 ·have e1:IntKind.u64.wrap (-7)=18446744073709551609:=by decide
  have e2:bits .and .u64 18446744073709551609 31=25:=by decide
  go_enter Tryz.func191,Tryz.ntmps191
  go_wp2;go_ret;exact⟨bT (SF _ _ _),rfl⟩
theorem Xmb(x:Int)(k d m:Int)(hk:tT k d m)(w:World):
 Calls Tryz.prog 263 #[.int .u32 x,.int .u64 k] w fun e w'=>e= .returned (.int .u32 (l5 d m x))∧w'=w:=by
 rcases hk with⟨rfl,rfl,rfl⟩|⟨rfl,rfl,rfl⟩|⟨rfl,rfl,rfl⟩|⟨rfl,rfl,rfl⟩
 all_goals
  go_enter Tryz.func263,Tryz.ntmps263
  go_wp2;go_ret;exact⟨bT rfl,rfl⟩
def row(l:List Int):Array Value:=(l.map fun x=>Value.int .u32 x).toArray
@[simp] theorem bI (l:List Int):(row l).size=l.length:=by simp[row]
theorem oI{l:List Int}(h:i<l.length):(row l)[i]?=some (.int .u32 (l.getD i 0)):=by
 simp[row,List.getD,List.getElem?_eq_getElem h]
theorem Xyh(l:List Int)(i:Nat)(v:Int):(row l).setIfInBounds i (.int .u32 v)=row (l.set i v):=by
 simp[row,List.map_set]
theorem heap_setCell{l:List Int}{t:TypeId}(v:Int)(h:w.heap[b]?=some (.cells (row l) t f)):(w.setCell ⟨b,i,none⟩ (.int .u32 v)).heap[b]?=some (.cells (row (l.set i v)) t f):=by
 unfold World.setCell;rw[Array.getElem?_modify,if_pos rfl,h];simp[Xyh]
theorem SH(w:World)(a:Addr)(u:Value):w.grownBy (w.setCell a u) (some a.block):=
 ⟨rfl,rfl,rfl,by simp[World.setCell],fun k _ cK=>Below.heap_setCell _ _ _ _ (fun e=>cK (by rw[e]))⟩
theorem Xox(h:Below B w w')(hB:w.heap.size≤B):w.grownBy w' r:=
 ⟨h.os,h.tape,h.output,h.size,fun k hk _=>h.block k (by omega)⟩
theorem SI{w1 w2:World}(h:w.grownBy w1 r)(k:w1.grownBy w2 r):w.grownBy w2 r:=
 ⟨k.os.trans h.os,k.tape.trans h.tape,k.output.trans h.output,Nat.le_trans h.size k.size,fun j hj cK=>(k.block j (Nat.lt_of_lt_of_le hj h.size) cK).trans (h.block j hj cK)⟩
theorem Xrp(h:w.grownBy w' r):w.grownBy w'.drew r:=⟨h.os,h.tape,h.output,h.size,h.block⟩
def sG(a b c d x y:Int):Int×Int×Int×Int:=
 let a1:=(a+(b+x))%4294967296
 let d1:=l5 65536 65536 (bits .xor .u32 d a1)
 let c1:=(c+d1)%4294967296
 let b1:=l5 4096 1048576 (bits .xor .u32 b c1)
 let a2:=(a1+(b1+y))%4294967296
 let d2:=l5 256 16777216 (bits .xor .u32 d1 a2)
 let c2:=(c1+d2)%4294967296
 (a2,l5 128 33554432 (bits .xor .u32 b1 c2),c2,d2)
def nH(l:List Int)(a b c d:Nat)(x y:Int):List Int:=
 let r:=sG (l.getD a 0) (l.getD b 0) (l.getD c 0) (l.getD d 0) x y
 (((l.set a r.1).set b r.2.1).set c r.2.2.1).set d r.2.2.2
theorem Vy(l:List Int)(a b c d:Nat)(x y:Int):(nH l a b c d x y).length=l.length:=by simp[nH]
