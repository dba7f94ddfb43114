/- Lemmas for the claim's theorem;conditions: as each says. -/
import Derived.WalkKit
import Derived.WalkSpells
import Derived.WalkLawsBesides
import Derived.Lib.Hide
import Derived.Lib.QuietBelow
import Derived.Deep.QuietTactic
import Derived.BigQuiet
import Derived.Laws.StructEq
import Derived.StillTail
import Derived.Lib.SplitLaws
import Derived.Lib.Join
import Derived.Laws.RangeAny
import Derived.Shelf.GgClosure.StringsIndexFunc
import Derived.Test.YtmdfjnhfhidmhaaGreatDoorRows
set_option linter.all false
namespace Go.RowKit
theorem Hid.q{p:Prop}(h:Hid p):p:=h.out
end Go.RowKit
namespace Go.Proofs.YtmdfjnhfhidmhaaGreatDoor
open Go.RowKit
variable{v:Value}{w:World}{α:Type}{i:Nat}{P:Program}{Q:Exit→Act→World→Prop}{p:Prop}{a:Addr}{w' w0:World}{n:Nat}{x:α}{B:Nat}{W:World}{ts te:TypeId}{bytes:Nat}{K:Act→Prop}{ops:Array Oper}{o:Oper}{E:TypeId}{g:Nat}{Z:Array Bool→Prop}{id:Nat}
theorem Qi{a:Array α}(h:a[i]?=some x): ∃h:i<a.size,a[i]=x:=Array.getElem?_eq_some_iff.1 h
theorem Qg{a:Array α}(h:a[i]?=some x):i<a.size:=(Array.getElem?_eq_some_iff.1 h).1
theorem Qh(h:p):Hid p:=h
theorem Qn(n:Nat):n≤n:=Nat.le_refl n
theorem Qb(n:Nat)(w:World):Below n w w:=Below.refl n w
theorem Qt[Decidable p](h:p):decide p=true:=decide_eq_true h
theorem Qf[Decidable p](h:¬p):decide p=false:=decide_eq_false h
abbrev af:=List UInt8
variable{s b:af}{l:List af}{y:af}
abbrev S(l:af):Value:= .string ⟨l.toArray⟩
abbrev IH:=Nat→Option (Array Value)
variable{I:IH}
def Ok(I:IH)(w:World):Prop:=∀b c,I b=some c→ ∃e f,w.heap[b]?=some (.cells c e f)
def Ext(n:Nat)(I I':IH):Prop:=∀b,b<n→I' b=I b
def IH.add(I:IH)(b:Nat)(c:Array Value):IH:=fun k=>if k=b then some c else I k
section
variable {I I' M9:IH} {w w':World} {b n m:Nat} {c:Array Value}
theorem Ok.lt(h:Ok I w)(hb:I b=some c):b<w.heap.size:=by
 obtain⟨e,f,hh⟩:=h b c hb;exact(Qg hh)
theorem Ok.fresh(h:Ok I w)(hb:w.heap.size≤b):I b=none:=by
 cases hc:I b with
 |none=>rfl
 |some c=>have:=h.lt hc;omega
theorem Ok.cell(h:Ok I w)(hb:I b=some c)(j:Nat):w.cell? ⟨b,j,none⟩=c[j]? :=by
 obtain⟨e,f,hh⟩:=h b c hb;simp[World.cell?,hh]
theorem Ok.of_block(h:Ok I w)(k:∀b c,I b=some c→w'.heap[b]?=w.heap[b]?):Ok I w':=fun b c hb=>by
 rw[k b c hb];exact h b c hb
theorem Ok.below(h:Ok I w)(hB:w.heap.size≤B)(hb:Below B w w'):Ok I w':=
 h.of_block fun b _ hc=>hb.block b (Nat.lt_of_lt_of_le (h.lt hc) hB)
theorem Ok.alloc(h:Ok I w)(o:Obj):Ok I (w.alloc o):=h.of_block fun b _ hc=>Below.heap_alloc w o b (h.lt hc)
theorem Ok.setCell(h:Ok I w)(ha:I a.block=none)(u:Value):Ok I (w.setCell a u):=h.of_block fun b _ hc=>
 Below.heap_setCell w a u b (fun e=>by subst e;rw[ha]at hc;cases hc)
theorem Ok.grown(h:Ok I w){row:Option Nat}(hg:w.grownBy w' row)(hr:∀g,row=some g→I g=none):Ok I w':=h.of_block fun b _ hc=>
 hg.block b (h.lt hc) (fun e=>by have:=hr b e.symm;rw[this]at hc;cases hc)
theorem Ok.add{e:TypeId}{f:Nat×Nat}(h:Ok I w)(hb:w.heap[b]?=some (.cells c e f)):Ok (I.add b c) w:=fun k d hk=>by
 unfold IH.add at hk;split at hk
 ·rename_i e';subst e';cases hk;exact⟨e,f,hb⟩
 ·exact h k d hk
theorem Ext.refl(n:Nat)(I:IH):Ext n I I:=fun _ _=>rfl
theorem Ext.trans(h:Ext n I I')(k:Ext m I' M9)(hm:n≤m):Ext n I M9:=fun b hb=>(k b (by omega)).trans (h b hb)
theorem Ext.mono(h:Ext n I I')(hm:m≤n):Ext m I I':=fun b hb=>h b (by omega)
theorem Ext.add(hb:n≤b)(I:IH)(c:Array Value):Ext n I (I.add b c):=fun k hk=>by
 unfold IH.add;rw[if_neg (by omega)]
theorem Ext.keep(h:Ext n I I')(iU:Ok I w)(hn:w.heap.size≤n):∀b c,I b=some c→I' b=some c:=fun b c hc=>by
 rw[h b (Nat.lt_of_lt_of_le (iU.lt hc) hn)];exact hc
end
structure Ty (α:Type) where
 size:Nat
 rd:IH→List Value→α→Prop
 len:∀{I cs x},rd I cs x→cs.length=size
 one:∀{I cs x},rd I cs x→ ∀u∈cs,u.oneCell'=true
 mono:∀{I I':IH} {cs x},(∀b c,I b=some c→I' b=some c)→rd I cs x→rd I' cs x
variable{T:Ty α}
def Ty.flat{α:Type}(size:Nat)(enc:α→List Value)(hl:∀x,(enc x).length=size)(h1:∀x,∀u∈enc x,u.oneCell'=true):Ty α where
 size:=size
 rd:=fun _ cs x=>cs=enc x
 len:=fun h=>by rw[h];exact hl _
 one:=fun h=>by rw[h];exact h1 _
 mono:=fun _ h=>h
def abW(k:IntKind):Ty Int:=Ty.flat 1 (fun n=> [.int k n]) (fun _=>rfl) (fun _ u h=>by simp at h;subst h;rfl)
def ib:Ty af:=Ty.flat 1 (fun s=> [S s]) (fun _=>rfl) (fun _ u h=>by simp at h;subst h;rfl)
def yU{α:Type}(T:Ty α)(I:IH)(arr:Array Value)(off:Nat)(l:List α):Prop:=
 ∀i (h:i<l.length),∃cs,T.rd I cs l[i]∧ ∀j u,cs[j]?=some u→arr[off+(i*T.size+j)]?=some u
def aY{α:Type}(T:Ty α)(I:IH)(v:Value)(l:List α):Prop:=
 ∃(ao:Option Addr) (cap:Nat),v= .slice ao l.length cap∧l.length≤cap∧cap≤maxLen∧
  (0<l.length→ ∃b off arr,ao=some ⟨b,off,none⟩∧I b=some arr∧yU T I arr off l)
section
variable {α:Type} {T:Ty α} {I I':IH} {w:World} {v:Value} {l:List α}
theorem yU.mono{arr:Array Value}{off:Nat}(hI:∀b c,I b=some c→I' b=some c)(h:yU T I arr off l):yU T I' arr off l:=fun i hi=>
 let ⟨cs,h1,h2⟩:=h i hi
 ⟨cs,T.mono hI h1,h2⟩
theorem aY.mono(hI:∀b c,I b=some c→I' b=some c)(h:aY T I v l):aY T I' v l:=by
 obtain⟨ao,cap,hv,h1,h2,h3⟩:=h;refine⟨ao,cap,hv,h1,h2,fun hl=> ?_⟩;obtain⟨b,off,arr,e1,e2,e3⟩:=h3 hl;exact⟨b,off,arr,e1,hI _ _ e2,e3.mono hI⟩
theorem aY.nil(T:Ty α)(I:IH):aY T I (.slice none 0 0) []:=⟨none,0,rfl,Qn _,Nat.zero_le _,fun h=>absurd h (by simp)⟩
theorem aY.one{v:Value}(h:aY T I v l):v.oneCell'=true:=by
 obtain⟨ao,cap,rfl,_⟩:=h;rfl
def tSl(T:Ty α):Ty (List α) where
 size:=1
 rd:=fun I cs l=> ∃v,cs=[v]∧aY T I v l
 len:=fun⟨v,h,_⟩=>by rw[h];rfl
 one:=fun⟨v,h,k⟩ u hu=>by rw[h]at hu;simp at hu;subst hu;exact k.one
 mono:=fun hI ⟨v,h,k⟩=>⟨v,h,k.mono hI⟩
theorem aY.at_(h:aY T I v l)(hw:Ok I w)(hi:i<l.length):∃b off cap cs,v= .slice (some ⟨b,off,none⟩) l.length cap∧T.rd I cs l[i]∧
 ∀j u,cs[j]?=some u→w.cell? ⟨b,off+i*T.size+j,none⟩=some u:=by
 obtain⟨ao,cap,hv,h1,h2,h3⟩:=h;obtain⟨b,off,arr,rfl,e2,e3⟩:=h3 (by omega);obtain⟨cs,k1,k2⟩:=e3 i hi;exact⟨b,off,cap,cs,hv,k1,fun j u hu=>by rw[hw.cell e2,Nat.add_assoc];exact k2 j u hu⟩
theorem aY.bK(h:aY T I v l):l.length≤9223372036854775807:=by
 obtain⟨ao,cap,hv,h1,h2,h3⟩:=h;unfold maxLen at h2;omega
end
@[go_sem] theorem mk_append_mk (x y:af):(ByteArray.mk x.toArray++ByteArray.mk y.toArray)=ByteArray.mk (x++y).toArray:=ByteArray.mk_append_mk x y
@[go_sem] theorem Eo (x:af) (a b:Nat):(ByteArray.mk x.toArray).extract a b=ByteArray.mk ((x.drop a).take (b-a)).toArray:=by
  apply ByteArray.ext;simp[ByteArray.data_extract]
theorem Na{a:af}(h:a=b):Ending.returned (S a)= .returned (S b):=by rw[h]
theorem dK{k:IntKind}{a b:Int}(h:a=b):Ending.returned (.int k a)= .returned (.int k b):=by rw[h]
theorem iG{a b:Bool}(h:a=b):Ending.returned (.bool a)= .returned (.bool b):=by rw[h]
@[go_sem] def Jh (d:Nat) (xs ys:Array Value):List (TypeId×Nat×Bool)→Sem Bool
  | []=>pure true
  |(t,o,b)::fs=>if b then Jh d xs ys fs else do
     let a ←part t xs o
     let b ←part t ys o
     let r ←Op.equalIn d t a b
     if(!r)=true then pure false else Jh d xs ys fs
theorem Vw(d : Nat)(xs ys : Array Value) : ∀fs : List Field,Op.eqFields d xs ys fs=Jh d xs ys (fs.map fun f=> (f.type,f.offset,f.name== "_"))
 | []=>rfl
 |f::fs=>by
  simp only[Op.eqFields,List.map_cons,Jh,Vw d xs ys fs];by_cases h : f.name= "_" <;> simp[h]
theorem Pv{t:TypeId}(xs ys:Array Value)(L:List (TypeId×Nat×Bool))(W:World)(h1:P.underlying t=some (.struct (P.fieldsOf t)))(h2:P.stoodInHeld t=false)
 (hL : (P.fieldsOf t).toList.map (fun f=> (f.type,f.offset,f.name== "_"))=L) :
 (binOp .neq t (.agg xs) (.agg ys)).run P W=((Jh 9999 xs ys L).run P W).andThen fun b w'=> .ok (.bool (!b)) w':=by
 rw[run_neq_struct,show(10000:Nat)=9999+1 from rfl,run_equalIn_agg _ _ _ _ _ h1 h2,Vw,hL]
theorem bI{x:Value}(hb:Below W.heap.size W w')(h:W.cell? a=some x):w'.cell? a=some x:=(hb.cell (block_lt_of_cell h)).trans h
theorem jH{x:Value}(o:Obj)(h:W.cell? a=some x):(W.alloc o).cell? a=some x:=(World.cell?_alloc_lt _ _ _ (block_lt_of_cell h)).trans h
theorem iV{x:Value}{row:Option Nat}(hg:W.grownBy w' row)(aZ:row≠some a.block)(h:W.cell? a=some x):w'.cell? a=some x:=
 (World.cell?_of_block (hg.block _ (block_lt_of_cell h) (fun e=>aZ e.symm))).trans h
def bB{α:Type}(T:Ty α)(I:IH)(xs:List Value)(l:List α):Prop:=
 xs.length=l.length*T.size∧ ∀i (h:i<l.length),∃cs,T.rd I cs l[i]∧ ∀j u,cs[j]?=some u→xs[i*T.size+j]?=some u
def aN{α:Type}(T:Ty α)(E:TypeId)(I:IH)(w:World)(B:Nat)(v:Value)(l:List α):Prop:=
 ∃xs,w.ownsRow B E T.size v l.length xs∧bB T I xs l
section
variable {α:Type} {T:Ty α} {I I':IH} {w w':World} {v:Value} {l:List α} {xs:List Value} {E:TypeId} {B:Nat}
theorem bB.mono(hI:∀b c,I b=some c→I' b=some c)(h:bB T I xs l):bB T I' xs l:=
 ⟨h.1,fun i hi=>let ⟨cs,h1,h2⟩:=h.2 i hi;⟨cs,T.mono hI h1,h2⟩⟩
theorem bB.nil(T:Ty α)(I:IH):bB T I [] []:=⟨by simp,fun i h=>absurd h (by simp)⟩
theorem bB.one{x:α}{cs:List Value}(h:T.rd I cs x):bB T I cs [x]:=by
 refine⟨by simp[T.len h],fun i hi=>⟨cs,?_,fun j u hu=> ?_⟩⟩
 ·have:i=0:=by simp at hi;omega
  subst this;exact h
 ·have:i=0:=by simp at hi;omega
  subst this;simpa using hu
theorem bB.append{ys:List Value}{m:List α}(h:bB T I xs l)(k:bB T I ys m):bB T I (xs++ys) (l++m):=by
 refine⟨by rw[List.length_append,List.length_append,h.1,k.1,Nat.add_mul],fun i hi=> ?_⟩;by_cases hl:i<l.length
 ·obtain⟨cs,h1,h2⟩:=h.2 i hl;refine⟨cs,by rw[List.getElem_append_left hl];exact h1,fun j u hu=> ?_⟩;have hx:=h2 j u hu;rw[List.getElem?_append_left (List.getElem?_eq_some_iff.1 hx).1];exact hx
 ·obtain⟨cs,h1,h2⟩:=k.2 (i-l.length) (by simp at hi;omega);refine⟨cs,by rw[List.getElem_append_right (by omega)];exact h1,fun j u hu=> ?_⟩;have hx:=h2 j u hu;have e:i*T.size+j=xs.length+((i-l.length)*T.size+j):=by
   rw[h.1,Nat.sub_mul];have:=Nat.mul_le_mul_right T.size (show l.length≤i by omega);omega
  rw[e,List.getElem?_append_right (by omega),Nat.add_sub_cancel_left];exact hx
theorem bB.take(h:bB T I xs l)(n:Nat):bB T I (xs.take (n*T.size)) (l.take n):=by
 refine⟨by
  rw[List.length_take,List.length_take,h.1];rcases Nat.le_total n l.length with hn|hn
  ·rw[Nat.min_eq_left hn,Nat.min_eq_left (Nat.mul_le_mul_right _ hn)]
  ·rw[Nat.min_eq_right hn,Nat.min_eq_right (Nat.mul_le_mul_right _ hn)],fun i hi=> ?_⟩
 have Mf:i<n∧i<l.length:=by simp at hi;omega
 obtain⟨cs,h1,h2⟩:=h.2 i Mf.2;refine⟨cs,by rw[List.getElem_take];exact h1,fun j u hu=> ?_⟩;have hj:j<T.size:=by rw[←T.len h1];exact(List.getElem?_eq_some_iff.1 hu).1
 have:=Nat.mul_le_mul_right T.size (show i+1≤n by omega);rw[Nat.add_mul]at this;rw[List.getElem?_take_of_lt (by omega)];exact h2 j u hu
theorem bB.drop(h:bB T I xs l)(n:Nat):bB T I (xs.drop (n*T.size)) (l.drop n):=by
 refine⟨by rw[List.length_drop,List.length_drop,h.1,Nat.sub_mul],fun i hi=> ?_⟩;have Mf:n+i<l.length:=by simp at hi;omega
 obtain⟨cs,h1,h2⟩:=h.2 (n+i) Mf;refine⟨cs,by rw[List.getElem_drop];exact h1,fun j u hu=> ?_⟩;rw[List.getElem?_drop,←Nat.add_assoc,←Nat.add_mul];exact h2 j u hu
theorem bB.oneCell(h:bB T I xs l):∀u∈xs,u.oneCell'=true:=by
 intro u hu;obtain⟨p,hp,rfl⟩:=List.getElem_of_mem hu;have hs:0<T.size:=by
  rcases Nat.eq_zero_or_pos T.size with h0|h0
  ·have:=h.1;rw[h0,Nat.mul_zero]at this;omega
  ·exact h0
 have hi:p / T.size<l.length:=by rw[Nat.div_lt_iff_lt_mul hs,←h.1];exact hp
 obtain⟨cs,h1,h2⟩:=h.2 _ hi;have hj:p%T.size<cs.length:=by rw[T.len h1];exact Nat.mod_lt _ hs
 have hx:=h2 (p%T.size) _ (List.getElem?_eq_getElem hj);rw[show p / T.size*T.size+p%T.size=p by rw[Nat.mul_comm];exact Nat.div_add_mod p T.size,List.getElem?_eq_getElem hp]at hx;rw[Option.some.inj hx];exact T.one h1 _ (List.getElem_mem hj)
theorem aY.cells(h:aY T I v l)(hw:Ok I w)(hs:0<T.size):∃(ao:Option Addr) (cap:Nat) (xs:List Value),v= .slice ao l.length cap∧l.length≤cap∧cap≤maxLen∧bB T I xs l∧
 (0<l.length→ ∃b off arr,ao=some ⟨b,off,none⟩∧I b=some arr∧b<w.heap.size∧ ∀j u,xs[j]?=some u→w.cell? ⟨b,off+j,none⟩=some u):=by
 obtain⟨ao,cap,hv,h1,h2,h3⟩:=h;rcases Nat.eq_zero_or_pos l.length with h0|h0
 ·have:l=[]:=List.eq_nil_of_length_eq_zero h0;subst this;exact⟨ao,cap,[],hv,h1,h2,bB.nil T I,fun h=>absurd h (by simp)⟩
 ·obtain⟨b,off,arr,e1,e2,e3⟩:=h3 h0;have cu:off+l.length*T.size≤arr.size:=by
   obtain⟨cs,k1,k2⟩:=e3 (l.length-1) (by omega);have hx:=k2 (T.size-1) _ (List.getElem?_eq_getElem (by rw[T.len k1];omega));have:=(Qg hx);have e:(l.length-1)*T.size+T.size=l.length*T.size:=by
    rw[←Nat.succ_mul,Nat.succ_eq_add_one,show l.length-1+1=l.length by omega]
   omega
  refine⟨ao,cap,(arr.toList.drop off).take (l.length*T.size),hv,h1,h2,⟨by simp;omega,fun i hi=> ?_⟩,fun _=>⟨b,off,arr,e1,e2,hw.lt e2,fun j u hu=> ?_⟩⟩
  ·obtain⟨cs,k1,k2⟩:=e3 i hi;refine⟨cs,k1,fun j u hu=> ?_⟩;have hj:j<T.size:=by rw[←T.len k1];exact(List.getElem?_eq_some_iff.1 hu).1
   have:=Nat.mul_le_mul_right T.size (show i+1≤l.length by omega);rw[Nat.add_mul]at this;rw[List.getElem?_take_of_lt (by omega),List.getElem?_drop,Array.getElem?_toList];exact k2 j u hu
  ·rw[hw.cell e2];rw[List.getElem?_take]at hu;split at hu
   ·rw[List.getElem?_drop,Array.getElem?_toList]at hu;exact hu
   ·cases hu
theorem aN.kept{row:Option Nat}(h:aN T E I w B v l)(hg:w.grownBy w' row)(aZ:v.ownBlock=none∨v.ownBlock≠row):aN T E I w' B v l:=
 let ⟨xs,h1,h2⟩:=h
 ⟨xs,h1.kept hg aZ,h2⟩
theorem aN.below(h:aN T E I w B v l)(hb:Below w.heap.size w w'):aN T E I w' B v l:=
 h.kept (row:=none) ⟨hb.os,hb.tape,hb.output,hb.size,fun k hk _=>hb.block k hk⟩ (by cases v.ownBlock<;>simp)
theorem aN.alloc(h:aN T E I w B v l)(o:Obj):aN T E I (w.alloc o) B v l:=
 let ⟨xs,h1,h2⟩:=h
 ⟨xs,h1.alloc o,h2⟩
theorem aN.mono(hI:∀b c,I b=some c→I' b=some c)(h:aN T E I w B v l):aN T E I' w B v l:=
 let ⟨xs,h1,h2⟩:=h
 ⟨xs,h1,h2.mono hI⟩
theorem aN.lower{B':Nat}(h:aN T E I w B v l)(hB:B'≤B):aN T E I w B' v l:=by
 obtain⟨xs,⟨h1,Bf⟩,h2⟩:=h;refine⟨xs,⟨h1,?_⟩,h2⟩;rcases Bf with h0|⟨g,cap,cur,a,b,c⟩
 ·exact .inl h0
 ·exact .inr ⟨g,cap,cur,a,by omega,c⟩
theorem aN.nil(T:Ty α)(E:TypeId)(I:IH)(w:World)(B:Nat):aN T E I w B (.slice none 0 0) []:=⟨[],World.ownsRow_nil w B E T.size,bB.nil T I⟩
theorem aN.wE(h:aN T E I w B v l){b:Nat}(hb:w.heap.size≤b):v.ownBlock≠some b:=by
 obtain⟨xs,h1,_⟩:=h;intro e;have:=(h1.lt b e).2;omega
theorem aN.iK(h:aN T E I w B v l){b:Nat}(hb:b<B):v.ownBlock≠some b:=by
 obtain⟨xs,h1,_⟩:=h;intro e;have:=(h1.lt b e).1;omega
theorem aN.l5(h:aN T E I w B v l){b:Nat}(e:v.ownBlock=some b):B≤b:=by
 obtain⟨xs,h1,_⟩:=h;exact(h1.lt b e).1
theorem aN.freeze(h:aN T E I w B v l)(hw:Ok I w)(hI:∀b,B≤b→I b=none):∃I',Ext B I I'∧Ok I' w∧aY T I' v l∧ ∀b,v.ownBlock≠some b→I' b=I b:=by
 obtain⟨xs,⟨h1,Bf⟩,h2⟩:=h;rcases Bf with⟨rfl,h0⟩|⟨g,cap,cur,rfl,hb,hg,Bg,gV,fK,ht⟩
 ·refine⟨I,Ext.refl _ _,hw,?_,fun _ _=>rfl⟩;have:l=[]:=List.eq_nil_of_length_eq_zero h0;subst this;exact aY.nil T I
 ·have nH:∀b c,I b=some c→(I.add g cur) b=some c:=fun b c hc=>by
   unfold IH.add;by_cases e:b=g
   ·subst e;rw[hI _ hb]at hc;cases hc
   ·rw[if_neg e];exact hc
  refine⟨I.add g cur,Ext.add hb I cur,hw.add hg,⟨_,cap,rfl,Bg,gV,fun _=>⟨g,0,cur,rfl,by simp[IH.add],fun i hi=> ?_⟩⟩,fun b O1=> ?_⟩
  ·obtain⟨cs,k1,k2⟩:=h2.2 i hi;refine⟨cs,T.mono nH k1,fun j u hu=> ?_⟩;have hx:=k2 j u hu;rw[←ht,List.getElem?_take]at hx;split at hx
   ·rw[Nat.zero_add,←Array.getElem?_toList];exact hx
   ·cases hx
  ·have:b≠g:=fun e=>O1 (by simp[Value.ownBlock,e]);simp[IH.add,this]
def dx(P:Program)(ts te:TypeId)(T:Ty α)(bytes:Nat):Prop:=
 ∃i z,P.underlying ts=some (.slice te)∧P.info? te=some i∧i.zero=some z∧i.size=T.size∧i.bytes=bytes∧z.cells.size=T.size∧0<T.size
theorem dx.of{z:Value}{size:Nat}(hu:P.underlying ts=some (.slice te))(h:(P.info? te).map (fun i=>(i.zero,i.size,i.bytes))=some (some z,size,bytes))(hz:z.cells.size=size)(hs:0<size)(hT:T.size=size):dx P ts te T bytes:=by
 obtain⟨i,h1,h2,h3,h4⟩:=info_parts h;exact⟨i,z,hu,h1,h2,by rw[h3,hT],h4,by rw[hz,hT],by rw[hT];exact hs⟩
theorem Xgb(hE:dx P ts te T bytes){rest:List Oper}{a:Act}(yf:o.guard=none)(s x:Operand)
 (ho:o.op= .call {callee:= .builtin .append,args:=#[s,x],argTypes:=#[ts,ts]}) (B:Nat) (v:Value) (l:List α) (hs:a.eval s=v) (bM:aN T te I w0 B v l)
 (y:α) (cs:List Value) (tb:TypeId) (hx:a.eval x= .slice (some ⟨w0.heap.size,0,none⟩) 1 1) (hy:T.rd I cs y) (eU:(l.length+1)*bytes≤140737488355328) (hl:l.length+1≤9223372036854775807) (hB:B≤w0.heap.size)
 (h:∀v' w',aN T te I w' B v' (l++[y])→w0.grownBy w' v.ownBlock→wpList P ops Q rest (a.put o.dst v') w'):wpList P ops Q (o::rest) a (w0.alloc (.cells cs.toArray tb)):=by
 obtain⟨i,z,h1,h2,h3,h4,h5,h6,h7⟩:=hE;obtain⟨xs,k1,k2⟩:=bM
 refine wpList_append_own (w0.alloc (.cells cs.toArray tb)) yf s x ts ho B te i z T.size bytes h1 h2 h3 h4 h5 h6 h7 v l.length xs hs (k1.alloc _) ⟨w0.heap.size,0,none⟩ 1 1 cs hx (by rw[T.len hy,Nat.one_mul])
  (fun j u hu=>by rw[Addr.add_lit,Nat.zero_add,World.cell?_alloc_new];simpa using hu) (T.one hy) (by unfold maxLen;omega) eU (by simp;omega) (fun v' w' r1 r2 _=>h v' w' ⟨xs++cs,by rw[List.length_append];exact r1,k2.append (bB.one hy)⟩ ?_)
 exact⟨r2.os,r2.tape,r2.output,by have:=r2.size;simp at this;omega,fun k hk aZ=>(r2.block k (by simp;omega) aZ).trans (Below.heap_alloc _ _ _ hk)⟩
theorem Xf9(hE:dx P ts te T bytes){rest:List Oper}{a:Act}(yf:o.guard=none)(s x:Operand)
 (ho:o.op= .call {callee:= .builtin .append,args:=#[s,x],argTypes:=#[ts,ts]}) (B:Nat) (v:Value) (l:List α) (hs:a.eval s=v) (bM:aN T te I w0 B v l)
 (ys:List α) (cs:List Value) (tb:TypeId) (hx:a.eval x= .slice (some ⟨w0.heap.size,0,none⟩) ys.length ys.length) (hy:bB T I cs ys) (_hp:0<ys.length) (eU:(l.length+ys.length)*bytes≤140737488355328) (hl:l.length+ys.length≤9223372036854775807) (hB:B≤w0.heap.size)
 (h:∀v' w',aN T te I w' B v' (l++ys)→w0.grownBy w' v.ownBlock→wpList P ops Q rest (a.put o.dst v') w'):wpList P ops Q (o::rest) a (w0.alloc (.cells cs.toArray tb)):=by
 obtain⟨i,z,h1,h2,h3,h4,h5,h6,h7⟩:=hE;obtain⟨xs,k1,k2⟩:=bM
 refine wpList_append_own (w0.alloc (.cells cs.toArray tb)) yf s x ts ho B te i z T.size bytes h1 h2 h3 h4 h5 h6 h7 v l.length xs hs (k1.alloc _) ⟨w0.heap.size,0,none⟩ ys.length ys.length cs hx hy.1
  (fun j u hu=>by rw[Addr.add_lit,Nat.zero_add,World.cell?_alloc_new];simpa using hu) hy.oneCell (by unfold maxLen;omega) eU (by simp;omega) (fun v' w' r1 r2 _=>h v' w' ⟨xs++cs,by rw[List.length_append];exact r1,k2.append hy⟩ ?_)
 exact⟨r2.os,r2.tape,r2.output,by have:=r2.size;simp at this;omega,fun k hk aZ=>(r2.block k (by simp;omega) aZ).trans (Below.heap_alloc _ _ _ hk)⟩
end
theorem Below.own{l:List α}{B0:Nat}(h:Below B0 w w0)(hg:w0.grownBy w' v.ownBlock)(bM:aN T E I w0 B v l)(hB:B0≤B)(hB':B≤w0.heap.size):Below B0 w w':=
 h.grown hg (by omega) (fun _ hk=>Nat.le_trans hB (bM.l5 hk))
theorem Ok.own{J:IH}{l:List α}(h:Ok J w0)(hg:w0.grownBy w' v.ownBlock)(bM:aN T E I w0 B v l)(hJ:∀b,B≤b→J b=none):Ok J w':=
 h.grown hg (fun g hk=>hJ g (bM.l5 hk))
open Go.RowKit Go.Sort
section
variable {P:Program} {ops:Array Oper} {md:Region.Mode} {C:World→Prop}
def tY(P:Program)(md:Region.Mode)(ops:Array Oper)(C:World→Prop)(n:Nat)(Z:Array Bool→Prop)(K:Act→Prop):Nat→Array Bool→Act→Prop
 |0,s,a=>Z s∧K a
 |f+1,s,a=>(∃i,i∈Region.ready md ops s)∧ ∀i∈Region.ready md ops s,i<n∧qOp P ops C i (tY P md ops C n Z K f (s.setIfInBounds i true)) a
theorem Xn4(hZ:∀s a w,Z s→C w→K a→wpAny P md ops Q g s a w):
 ∀(f:Nat) (s:Array Bool) (a:Act) (w:World),C w→tY P md ops C n Z K f s a→wpAny P md ops Q (g+f) s a w:=by
 intro f;induction f with
 |zero=>exact fun s a w hw h=>hZ s a w h.1 hw h.2
 |succ f ih=>
  rintro s a w hw ⟨⟨i0,h0⟩,h⟩;refine⟨fun e=> ?_,fun i hi=>wpOp_of_qOp hw (fun a' w' Uz hk=>ih _ _ _ Uz hk) (h i hi).2⟩;rw[e]at h0;exact absurd h0 (by simp)
theorem Xj3{s:Array Bool}{oj:Oper}(aJ:s.getD i true=false)(aA:∀e∈oj.after,Region.binds md e=true→s.getD e.on false=true):∀e∈oj.after,Region.binds md e=true→e.on≠i:=by
 intro e he hb F7;have h:=aA e he hb;rw[F7,getD_both aJ]at h;exact absurd h (by simp)
theorem Xkb{oi:Oper}(hi:ops[i]?=some oi)(yg:Region.noSelect ops=true)(hs:Region.sinkB md ops n=true)(hc:Region.chainB md ops n=true)(hn:n<ops.size)(ql:i<n)
 (hZ:∀s,Z s→ ∀j∈Region.ready md ops s,n≤j):∀(f:Nat) (s:Array Bool) (a:Act),HeadInv md ops n s→
   (∀j oj,ops[j]?=some oj→j≠i→s.getD j true=false→(∀e∈oj.after,Region.binds md e=true→e.on≠i)→oi.apart ops oj=true)→
   i∈Region.ready md ops s→YieldsIn P ops C oi v a→tY P md ops C n Z K f (s.setIfInBounds i true) (a.put oi.dst v)→tY P md ops C n Z K (f+1) s a:=by
 intro f;induction f with
 |zero=>
  intro s a inv Af hr hy H;have aJ:=(mem_ready.1 hr).1;refine⟨⟨i,hr⟩,fun j hj=> ?_⟩;by_cases yM:j=i
  ·subst yM;exact⟨ql,hy.qOp hi H⟩
  ·have h1:=hZ _ H.1 j (ready_mono hj yM);exact absurd hj (tail_waits hs hc hn inv _ i rfl ql aJ j h1)
 |succ f ih=>
  intro s a inv Af hr hy H;have aJ:=(mem_ready.1 hr).1;refine⟨⟨i,hr⟩,fun j hj=> ?_⟩;have hjn:j<n:=Nat.lt_of_not_le fun h=>tail_waits hs hc hn inv _ i rfl ql aJ j h hj;refine⟨hjn,?_⟩;by_cases yM:j=i
  ·subst yM;exact hy.qOp hi H
  obtain⟨Mg,oj,bY,aA⟩:=mem_ready.1 hj;have h2:=qOp_put bY (Af j oj bY yM Mg (Xj3 aJ aA)) (fun cs b=>Region.noSelect_spec yg i oi cs b hi) (fun cs b=>Region.noSelect_spec yg j oj cs b bY) hy (H.2 j (ready_mono hj yM)).2;refine qOp_mono (fun a' h3=>ih _ a' (inv.set hj hjn) (fun k ok hk hki hku=>Af k ok hk hki ?_) (ready_mono hr (Ne.symm yM)) h3.1 ?_) h2
  ·by_cases e:j=k
   ·subst e;exact Mg
   ·rwa[getD_set_ne true e]at hku
  ·rw[Array.setIfInBounds_comm _ _ yM];exact h3.2
theorem Xn5(yg:Region.noSelect ops=true)(hs:Region.sinkB md ops n=true)(hc:Region.chainB md ops n=true)(hn:n<ops.size):
 ∀(l:List Oper) (k:Nat) (s:Array Bool) (a:Act),(∀j,j<l.length→l[j]?=ops[k+j]?)→k+l.length=n→HeadInv md ops n s→Region.lexHead md ops g l.length k s=true→
 wpQuiet P ops C K l a→tY P md ops C n (fun s=>Region.seqB md ops g n s=true) K l.length s a:=by
 intro l;induction l with
 |nil=>
  intro k s a _ hk _ hB h;simp only[List.length_nil,Nat.add_zero]at hk;subst hk;exact⟨hB,h⟩
 |cons o l ih=>
  intro k s a hl hk inv hB h;have h0:ops[k]?=some o:=by simpa using(hl 0 (by simp)).symm
  simp only[List.length_cons]at hk;simp only[List.length_cons,Region.lexHead,Bool.and_eq_true]at hB;have hr:k∈Region.ready md ops s:=by simpa using hB.1.1
  have hq:qOp P ops C k (wpQuiet P ops C K l) a:=by unfold qOp;rw[h0];exact h
  obtain⟨v,hy,hK⟩:=yieldsIn_of_qOp h0 hq;refine Xkb h0 yg hs hc hn (by omega) (fun s hz=>seqB_ready hz) l.length s a inv (Region.free_spec h0 hB.1.2) hr hy ?_;refine ih (k+1) _ _ (fun j hj=> ?_) (by omega) (inv.set hr (by omega)) hB.2 hK;have:=hl (j+1) (by simp;omega);rw[List.getElem?_cons_succ]at this;rw[this,Nat.add_assoc,Nat.add_comm 1 j]
theorem Xdc{a:Act}{l:List Oper}(n:Nat)(hm:P.follows .mixedOrders=true)(hB:Region.lexTailB .any l.toArray n=true)(hC:C {w with drawn:=w.drawn+1})
 (h:wpQuiet P l.toArray C (fun a'=> ∀w',C w'→wpList P l.toArray Q (l.drop n) a' w') (l.take n) a):(Code.region id l.toArray true).wp P Q a w:=by
 simp only[Region.lexTailB,Bool.and_eq_true,decide_eq_true_eq]at hB;obtain⟨⟨⟨⟨yg,hn⟩,hs⟩,hc⟩,UA⟩:=hB;have hn':n<l.length:=by simpa using hn
 have sO:(l.take n).length=n:=by simp;omega
 have u7:(l.drop n).length=l.toArray.size-n:=by simp
 have inv0:HeadInv .any l.toArray n (Array.replicate l.toArray.size false):=by
  refine⟨by simp,fun j oj _ hl=> ?_,fun t _ ht=>getD_in (by simpa using ht) (getD_replicate_false _ _)⟩;rw[getD_replicate_false]at hl;exact absurd hl (by simp)
 have H:=Xn5 (P:=P) (C:=C) (md:= .any) (g:=l.toArray.size-n) yg hs hc hn (l.take n) 0 _ a (fun j hj=>by
  rw[sO]at hj;simp[hj]) (by omega) inv0 (by rw[sO];exact UA) h
 have R:=Xn4 (Q:=Q) (g:=l.toArray.size-n) (fun s a' w' hz hw hk=>by
  have:=wpAny_of_seq (md:= .any) (Q':=Q) (l.drop n) n s a' w' (fun j=>by simp[List.getElem?_drop]) (by rw[u7];exact hz) (hk w' hw);rwa[u7]at this) _ _ _ _ hC H
 rw[sO,show l.toArray.size-n+n=l.toArray.size by omega]at R;exact wp_region_any hm R
theorem Pw{a:Act}{l:List Oper}(n:Nat)(hm:P.follows .mixedOrders=true)(hB:Region.lexTailB .any l.toArray n=true)
 (h:wpQuiet P l.toArray (fun w'=> ∃p:Regrown,w'=grow (redrawn w p.d) p.os) (fun a'=> ∀w',(∃p:Regrown,w'=grow (redrawn w p.d) p.os)→wpList P l.toArray Q (l.drop n) a' w') (l.take n) a):(Code.region id l.toArray true).wp P Q a w:=
 Xdc (C:=fun w'=> ∃p:Regrown,w'=grow (redrawn w p.d) p.os) n hm hB ⟨⟨w.drawn+1,#[]⟩,by rw[grow_empty];rfl⟩ h
end
def Ji{α:Type}(T:Ty α)(I:IH)(w:World)(l:List α)(e:Ending)(w':World):Prop:=
 ∃v' I',e= .returned v'∧Below w.heap.size w w'∧Ext w.heap.size I I'∧Ok I' w'∧aY T I' v' l
def Ep{α:Type}(T:Ty α)(I:IH)(w:World)(l:List α)(n:Int)(e:Ending)(w':World):Prop:=
 ∃v' I',e= .returned (.tuple #[v',.int .i64 n])∧Below w.heap.size w w'∧Ext w.heap.size I I'∧Ok I' w'∧aY T I' v' l
theorem Bn:∀a:af,Op.bytesLess a a=false
 | []=>rfl
 |x::a=>by rw[Op.bytesLess,Bn a];simp
theorem Px:∀{a b c:af},Op.bytesLess a b=true→Op.bytesLess b c=true→Op.bytesLess a c=true
 |_,[],_,h,_=>by simp[Op.bytesLess]at h
 |_,_::_,[],_,h=>by simp[Op.bytesLess]at h
 | [],_::_,_::_,_,_=>rfl
 |x::a,y::b,z::c,h,k=>by
  simp only[Op.bytesLess,Bool.or_eq_true,Bool.and_eq_true,decide_eq_true_eq,beq_iff_eq]at h k ⊢;rcases h with h|⟨rfl,h⟩<;>rcases k with k|⟨rfl,k⟩
  ·exact .inl (UInt8.lt_trans h k)
  ·exact .inl h
  ·exact .inl k
  ·exact .inr ⟨rfl,Px h k⟩
theorem Jj:∀(a b:af),Op.bytesLess a b=true∨a=b∨Op.bytesLess b a=true
 | [],[]=> .inr (.inl rfl)
 | [],_::_=> .inl rfl
 |_::_,[]=> .inr (.inr rfl)
 |x::a,y::b=>by
  simp only[Op.bytesLess,Bool.or_eq_true,Bool.and_eq_true,decide_eq_true_eq,beq_iff_eq,List.cons.injEq];by_cases h:x=y
  ·subst h;rcases Jj a b with h|h|h
   ·exact .inl (.inr ⟨rfl,h⟩)
   ·exact .inr (.inl ⟨rfl,h⟩)
   ·exact .inr (.inr (.inr ⟨rfl,h⟩))
  ·rcases UInt8.lt_or_lt_of_ne h with h|h
   ·exact .inl (.inl h)
   ·exact .inr (.inr (.inl h))
theorem Jk{a:af}(h:Op.bytesLess a b=true):Op.bytesLess b a=false:=by
 cases k:Op.bytesLess b a
 ·rfl
 ·have:=Px h k;rw[Bn]at this;exact absurd this (by simp)
theorem Jl{a:af}(h:Op.bytesLess a b=true):a≠b:=by
 rintro rfl;rw[Bn]at h;exact absurd h (by simp)
section
variable {α:Type} {key:α→af}
def Vx(key:α→af)(l:List α):Prop:=l.Pairwise fun a b=>Op.bytesLess (key a) (key b)=true
end
structure At where
 k:af
 v:af
deriving DecidableEq
def iL(c:UInt8):Bool:=decide (97≤c)&&decide (c≤122) || decide (48≤c)&&decide (c≤57) || c==46 || c==95 || c==45
def o7(s:af):Bool:=decide (1≤s.length)&&decide (s.length≤32)&&s.all iL
def fQ(x:At):Int:=if o7 x.k=false then 7 else if 64<x.v.length then 6 else 0
def eG:Option At→List At→Int
 |_,[]=>0
 |p,x::l=>if fQ x≠0 then fQ x else if(p.any fun q=>q.k==x.k)then 8 else if(p.any fun q=>Op.bytesLess x.k q.k)then 14 else eG (some x) l
def nK(l:List At):Int:=if 16<l.length then 6 else eG none l
def ab5(l:List At)(k:af):af×Bool:=match l.find? (fun x=>x.k==k)with|some x=>(x.v,true)|none=>([],false)
def ab6(l:List At)(k:af):List At:=l.filter fun x=> !(x.k==k)
def CX(x:At):Bool→List At→List At→List At
 |d,out,[]=>if d then out else out++[x]
 |d,out,y::l=>CX x (d || !(Op.bytesLess y.k x.k)) ((if !d&& !(Op.bytesLess y.k x.k)then out++[x]else out)++(if y.k==x.k then []else [y])) l
def Er(l:List At)(x:At):List At:=CX x false [] l
def Jm(a b:List At):List At:=b.foldl Er a
def ab7(l:List At)(x:At):List At×Int:=if nK l≠0 then([],nK l)else if fQ x≠0 then([],fQ x)else if 16<(Er l x).length then([],6)else(Er l x,0)
def Py(a b:List At):List At×Int:=if nK a≠0 then([],nK a)else if nK b≠0 then([],nK b)else if 16<(Jm a b).length then([],6)else(Jm a b,0)
def Pz(l:List At):Prop:=30<l.length∨ ∃x∈l,100<x.k.length∨100<x.v.length
structure Okl (l:List At):Prop where
 len:l.length≤16
 all:∀x∈l,fQ x=0
 yw:Vx At.k l
theorem Vy:∀{A B:List af},A.Nodup→(∀x∈A,x∈B)→A.length≤B.length
 | [],_,_,_=>Nat.zero_le _
 |x::A,B,hn,hs=>by
  obtain⟨h1,h2⟩:=List.nodup_cons.1 hn;have hx:=hs x (List.mem_cons_self ..);have h3:=Vy (B:=B.erase x) h2 fun y hy=>(List.mem_erase_of_ne (a:=y) (b:=x) (fun e=>h1 (by rw[←e];exact hy))).2 (hs y (List.mem_cons_of_mem _ hy));rw[List.length_erase_of_mem hx]at h3;have:=List.length_pos_of_mem hx;simp only[List.length_cons];omega
theorem bK{A B:List At}(hA:Vx At.k A)(h:∀x∈A,∃y∈B,y.k=x.k):A.length≤B.length:=by
 have hn:(A.map At.k).Nodup:=List.pairwise_map.2 (hA.imp fun{a b} hab=>Jl hab);have hs:∀k∈A.map At.k,k∈B.map At.k:=by
  intro k hk;obtain⟨x,hx,rfl⟩:=List.mem_map.1 hk;obtain⟨y,hy,e⟩:=h x hx;rw[←e];exact List.mem_map_of_mem hy
 simpa using Vy hn hs
def dO:af→af→List af
 |p,[]=> [p]
 |p,c::s=>if c==47 then p::dO [] s else dO (p++[c]) s
def els(s:af):List af:=if s=[]then []else dO [] s
def comp(s:af):Bool:=decide (1≤s.length)&&decide (s.length≤32)&&s !=[46]&&s !=[46,46]&&s.all iL
def aR(s:af):Int:=if 200<s.length then 6 else if 8<(els s).length then 6 else if(els s).all comp then 0 else 7
def eF:List af→af
 | []=> []
 | [p]=>p
 |p::q::l=>p++47::eF (q::l)
def under(p d:af):Bool:=decide (aR p=0)&&decide (aR d=0)&&(els d).isPrefixOf (els p)
def ic:List af→List af→Bool
 | [],[]=>false
 | [],_::_=>true
 |_::_,[]=>false
 |x::a,y::b=>Op.bytesLess x y || (x==y&&ic a b)
theorem PD:∀a,ic a a=false
 | []=>rfl
 |x::a=>by rw[ic,Bn,PD a];simp
theorem Es:∀{a b c},ic a b=true→ic b c=true→ic a c=true
 | [],[],_,h,_=>absurd h (by simp[ic])
 | [],_::_,[],_,h=>absurd h (by simp[ic])
 | [],_::_,_::_,_,_=>rfl
 |_::_,[],_,h,_=>absurd h (by simp[ic])
 |_::_,_::_,[],_,h=>absurd h (by simp[ic])
 |x::a,y::b,z::c,h,k=>by
  rw[ic,Bool.or_eq_true,Bool.and_eq_true]at h k ⊢;rcases h with h|⟨h,h'⟩<;>rcases k with k|⟨k,k'⟩
  ·exact .inl (Px h k)
  ·have e:y=z:=by simpa using k
   rw[←e];exact .inl h
  ·have e:x=y:=by simpa using h
   rw[e];exact .inl k
  ·have e:x=y:=by simpa using h
   rw[e];exact .inr ⟨k,Es h' k'⟩
theorem Vz:∀a b,ic a b=true∨a=b∨ic b a=true
 | [],[]=> .inr (.inl rfl)
 | [],_::_=> .inl rfl
 |_::_,[]=> .inr (.inr rfl)
 |x::a,y::b=>by
  rcases Jj x y with h|h|h
  ·exact .inl (by rw[ic,h];rfl)
  ·subst h;rcases Vz a b with k|k|k
   ·exact .inl (by rw[ic,k];simp)
   ·exact .inr (.inl (by rw[k]))
   ·exact .inr (.inr (by rw[ic,k];simp))
  ·exact .inr (.inr (by rw[ic,h];rfl))
theorem PE{a b:List af}(h:ic a b=true):ic b a=false:=by
 cases k:ic b a with
 |false=>rfl
 |true=>have:=Es h k;rw[PD]at this;exact absurd this (by simp)
theorem Jn{a b:List af}(h:ic a b=true):a≠b:=fun e=>by
 rw[e,PD]at h;exact absurd h (by simp)
def kF(a b:af):Int:=if ic (els a) (els b)then -1 else if ic (els b) (els a)then 1 else 0
theorem PG:∀(s p:af),dO p s≠[]
 | [],p=>by simp[dO]
 |c::s,p=>by
  rw[dO];by_cases h:(c==47)=true
  ·rw[if_pos h];simp
  ·rw[if_neg h];exact PG s _
theorem Xsg:els s=[]↔s=[]:=by
 unfold els;by_cases h:s=[]
 ·rw[if_pos h];simp[h]
 ·rw[if_neg h];simp[h,PG]
theorem GN(p:af)(h:l≠[]):eF (p::l)=p++47::eF l:=by
 cases l with
 |nil=>exact absurd rfl h
 |cons q l=>rfl
theorem PH:∀(s p:af),eF (dO p s)=p++s
 | [],p=>by simp[dO,eF]
 |c::s,p=>by
  rw[dO];by_cases h:(c==47)=true
  ·rw[if_pos h,GN _ (PG s []),PH s []];have:c=47:=by simpa using h
   simp[this]
  ·rw[if_neg h,PH s];simp
theorem PI(s:af):eF (els s)=s:=by
 unfold els;by_cases h:s=[]
 ·rw[if_pos h,h];rfl
 ·rw[if_neg h,PH];simp
theorem Xsi{a:af}(h:els a=els b):a=b:=by rw[←PI a,h,PI]
theorem Jo:∀(s p r:af),(∀c∈s,c≠47)→dO p (s++r)=dO (p++s) r
 | [],p,r,_=>by simp
 |c::s,p,r,h=>by
  have hc:¬(c==47)=true:=by simpa using h c (List.mem_cons_self ..)
  rw[List.cons_append,dO,if_neg hc,Jo s _ _ fun x hx=>h x (List.mem_cons_of_mem _ hx)];simp
theorem VA:∀(l:List af),l≠[]→(∀p∈l,∀c∈p,c≠47)→dO [] (eF l)=l
 | [],h,_=>absurd rfl h
 | [p],_,h=>by
   have:=Jo p [] [] (h p (by simp));rw[List.append_nil]at this;rw[eF,this];simp[dO]
 |p::q::l,_,h=>by
  rw[GN p (by simp),Jo p [] _ (h p (by simp)),List.nil_append,dO,if_pos (by simp),VA (q::l) (by simp) fun x hx=>h x (List.mem_cons_of_mem _ hx)]
theorem Xoi(h:∀p∈l,∀c∈p,c≠47)(hn:eF l≠[]):els (eF l)=l:=by
 have hl:l≠[]:=fun e=>hn (by rw[e];rfl);rw[els,if_neg hn,VA l hl h]
theorem Xjd{p:af}(h:comp p=true):∀c∈p,c≠47:=by
 intro c hc e;simp only[comp,Bool.and_eq_true,List.all_eq_true]at h;have:=h.2 c hc;rw[e]at this;exact absurd this (by decide)
theorem Xsn{p:af}(h:comp p=true):p≠[]:=by
 intro e;rw[e]at h;exact absurd h (by decide)
theorem CY(h:aR s=0):s.length≤200∧(els s).length≤8∧ ∀p∈els s,comp p=true:=by
 unfold aR at h;by_cases h1:200<s.length
 ·rw[if_pos h1]at h;omega
 ·rw[if_neg h1]at h;by_cases h2:8<(els s).length
  ·rw[if_pos h2]at h;omega
  ·rw[if_neg h2]at h;by_cases h3:(els s).all comp=true
   ·exact⟨by omega,by omega,by simpa using h3⟩
   ·rw[if_neg h3]at h;omega
structure Xt where
 s:Int
 o:Int
 n:Int
deriving DecidableEq
structure aQ where
 aj:Int
 ag:af
 au:List At
 av:af
 size:Int
 aI:af
 aD:List Xt
deriving DecidableEq
variable{t:List aQ}
def digits(s:af):Int:=s.foldl (fun n c=>10*n+((c.toNat:Int)-48)) 0
def eH(s:af):Bool:=decide (1≤s.length)&&decide (s.length≤10)&& !(decide (1<s.length)&&s.head?==some 48)&&s.all (fun c=>decide (48≤c)&&decide (c≤57))&&decide (digits s≤1000000000)
def bR(e:aQ):Bool:=if e.aj=3 then decide (1≤e.av.length)&&decide (e.av.length≤200)else if e.aj=5 then eH e.av else e.av.isEmpty
def dE(x:Xt):Bool:=decide (x.s<0) || decide (255<x.s) || decide (x.o<0) || decide (2147483647<x.o) || decide (x.n<1) || decide (65536<x.n) || (x.s==0&&x.o !=0)
def cz(file:Bool):List Xt→Int
 | []=>0
 |x::l=>if file=false then 1 else if dE x then 2 else cz file l
def gH(l:List Xt):Int:=(l.map Xt.n).sum
def aL(e:aQ):Int:=
 if e.aj<1∨6<e.aj then 10
 else if aR e.ag≠0 then aR e.ag
 else if e.ag=[]∧e.aj<5 then 1
 else if nK e.au≠0 then nK e.au
 else if(e.au≠[]∧3<e.aj)∨bR e=false then 1
 else if e.size<0∨65536<e.size∨(e.aj≠1∧e.size≠0)then 2
 else if(e.aj=1∧e.aI.length≠32)∨(e.aj≠1∧e.aI≠[])then 1
 else if cz (e.aj==1) e.aD≠0 then cz (e.aj==1) e.aD
 else if gH e.aD≠e.size then 1 else 0
def dP(t:List aQ)(p:af):Option aQ:=t.find? fun x=>x.ag==p
def bn(t:List aQ)(p:af):Int:=if p=[]then 0 else match dP t p with|none=>9|some x=>if x.aj≠2 then 10 else 0
def iT(p:af):af:=eF (els p).dropLast
def dQ(t:List aQ):Option aQ→List aQ→Int
 |_,[]=>0
 |q,x::l=>if aL x≠0 then aL x else if x.aj≠1∧x.aj≠2∧x.aj≠3 then 10 else if(q.any fun y=> !(ic (els y.ag) (els x.ag)))then 14 else if bn t (iT x.ag)≠0 then bn t (iT x.ag)else dQ t (some x) l
def jV(t:List aQ):Int:=dQ t none t
def gz(t:List aQ):Prop:=t.Pairwise fun x y=>ic (els x.ag) (els y.ag)=true
structure CZ (t:List aQ):Prop where
 C8:∀x∈t,aL x=0
 aj:∀x∈t,x.aj=1∨x.aj=2∨x.aj=3
 yw:gz t
 up:∀x∈t,bn t (iT x.ag)=0
theorem Xkg(t:List aQ)(l:List aQ):∀q:Option aQ,dQ t q l=0↔(∀x∈l,aL x=0∧(x.aj=1∨x.aj=2∨x.aj=3)∧bn t (iT x.ag)=0)∧(∀y,q=some y→ ∀x∈l,ic (els y.ag) (els x.ag)=true)∧gz l:=by
 induction l with
 |nil=>intro q;simp[dQ,gz]
 |cons x l ih=>
  intro q;rw[dQ];by_cases h0:aL x=0;case neg=>
   rw[if_pos h0];exact⟨fun h=>absurd h h0,fun h=>absurd (h.1 x (List.mem_cons_self ..)).1 h0⟩
  rw[if_neg (by omega)];by_cases h1:x.aj=1∨x.aj=2∨x.aj=3;case neg=>
   rw[if_pos (by omega)];exact⟨fun h=>absurd h (by decide),fun h=>absurd (h.1 x (List.mem_cons_self ..)).2.1 h1⟩
  rw[if_neg (by omega)];by_cases h2:(q.any fun y=> !(ic (els y.ag) (els x.ag)))=true
  ·rw[if_pos h2];refine⟨fun h=>absurd h (by decide),fun h=> ?_⟩;cases q with
   |none=>simp at h2
   |some y=>
    have:=h.2.1 y rfl x (List.mem_cons_self ..);simp[this]at h2
  rw[if_neg h2];have hq:∀y,q=some y→ic (els y.ag) (els x.ag)=true:=by
   intro y hy;subst hy;simpa using h2
  by_cases h3:bn t (iT x.ag)=0;case neg=>
   rw[if_pos h3];exact⟨fun h=>absurd h h3,fun h=>absurd (h.1 x (List.mem_cons_self ..)).2.2 h3⟩
  rw[if_neg (by omega),ih];constructor
  ·rintro⟨a1,a2,a3⟩;refine⟨?_,?_,List.pairwise_cons.2 ⟨fun r hr=>a2 x rfl r hr,a3⟩⟩
   ·intro r hr;rcases List.mem_cons.1 hr with rfl|hr
    ·exact⟨h0,h1,h3⟩
    ·exact a1 r hr
   ·intro y hy r hr;rcases List.mem_cons.1 hr with rfl|hr
    ·exact hq y hy
    ·exact Es (hq y hy) (a2 x rfl r hr)
  ·rintro⟨a1,_,a3⟩;obtain⟨b1,b2⟩:=List.pairwise_cons.1 a3;exact⟨fun r hr=>a1 r (List.mem_cons_of_mem _ hr),fun y hy r hr=>by cases hy;exact b1 r hr,b2⟩
theorem VB(t:List aQ):jV t=0↔CZ t:=by
 unfold jV;rw[Xkg];constructor
 ·rintro⟨a1,_,a3⟩;exact⟨fun x hx=>(a1 x hx).1,fun x hx=>(a1 x hx).2.1,a3,fun x hx=>(a1 x hx).2.2⟩
 ·rintro⟨b1,b2,b3,b4⟩;exact⟨fun x hx=>⟨b1 x hx,b2 x hx,b4 x hx⟩,by simp,b3⟩
theorem gz.key(h:gz t){x y:aQ}(hx:x∈t)(hy:y∈t)(e:x.ag=y.ag):x=y:=by
 induction t with
 |nil=>cases hx
 |cons z l ih=>
  obtain⟨h1,h2⟩:=List.pairwise_cons.1 h;rcases List.mem_cons.1 hx with hx|hx<;>rcases List.mem_cons.1 hy with hy|hy
  ·rw[hx,hy]
  ·exact absurd (by rw[←hx,e]) (Jn (h1 y hy))
  ·exact absurd (by rw[←hy,e]) (Jn (h1 x hx))
  ·exact ih h2 hx hy
theorem gz.ext:∀{A B:List aQ},gz A→gz B→(∀x,x∈A↔x∈B)→A=B
 | [],[],_,_,_=>rfl
 | [],b::B,_,_,h=>absurd ((h b).2 (List.mem_cons_self ..)) (by simp)
 |a::A,[],_,_,h=>absurd ((h a).1 (List.mem_cons_self ..)) (by simp)
 |a::A,b::B,hA,hB,h=>by
  obtain⟨a1,a2⟩:=List.pairwise_cons.1 hA;obtain⟨b1,b2⟩:=List.pairwise_cons.1 hB;have e:a=b:=by
   rcases List.mem_cons.1 ((h a).1 (List.mem_cons_self ..))with e|hab
   ·exact e
   ·rcases List.mem_cons.1 ((h b).2 (List.mem_cons_self ..))with e|Nb
    ·exact e.symm
    ·have k:=PE (a1 b Nb);rw[b1 a hab]at k;exact absurd k (by simp)
  subst e;rw[gz.ext a2 b2 fun x=> ?_];have hx:=h x;rw[List.mem_cons,List.mem_cons]at hx;constructor
  ·intro hm;rcases hx.1 (.inr hm)with e|hm'
   ·subst e;exact absurd rfl (Jn (a1 x hm))
   ·exact hm'
  ·intro hm;rcases hx.2 (.inr hm)with e|hm'
   ·subst e;exact absurd rfl (Jn (b1 x hm))
   ·exact hm'
theorem Nc(h:gz t){x:aQ}(hx:x∈t):dP t x.ag=some x:=by
 unfold dP;cases hf:t.find? (fun y=>y.ag==x.ag)with
 |none=>have:=List.find?_eq_none.1 hf x hx;simp at this
 |some y=>
  have h1:=List.find?_some hf;rw[h.key (List.mem_of_find?_eq_some hf) hx (by simpa using h1)]
theorem VC{p:af}{x:aQ}(h:dP t p=some x):x∈t∧x.ag=p:=⟨List.mem_of_find?_eq_some h,by have:=List.find?_some h;simpa using this⟩
theorem Xn6{p:af}(h:∀x∈t,x.ag≠p):dP t p=none:=List.find?_eq_none.2 fun x hx=>by simpa using h x hx
def At.Wf(x:At):Prop:=x.k.length≤9223372036854775807∧x.v.length≤9223372036854775807
abbrev At.val(x:At):Value:= .agg #[S x.k,S x.v]
def lv:Ty At:=Ty.flat 2 (fun x=> [S x.k,S x.v]) (fun _=>rfl) (fun _ u h=>by simp at h;rcases h with rfl|rfl<;>rfl)
theorem xE{l:List At}(h:aY lv I v l)(hw:Ok I w)(i:Nat)(hi:i<l.length):∃x b off cap,l[i]=x∧v= .slice (some ⟨b,off,none⟩) l.length cap∧
 w.cell? ⟨b,off+i*2,none⟩=some (S x.k)∧w.cell? ⟨b,off+i*2+1,none⟩=some (S x.v):=by
 obtain⟨b,off,cap,cs,hv,fK,hc⟩:=h.at_ hw hi;have iw:cs=[S l[i].k,S l[i].v]:=fK;subst iw;exact⟨_,b,off,cap,rfl,hv,hc 0 _ rfl,hc 1 _ rfl⟩
def kQ:Ty Xt:=Ty.flat 3 (fun x=> [.int .i64 x.s,.int .i64 x.o,.int .i64 x.n]) (fun _=>rfl) (fun _ u h=>by simp at h;rcases h with rfl|rfl|rfl<;>rfl)
theorem tZ{l:List Xt}(h:aY kQ I v l)(hw:Ok I w)(i:Nat)(hi:i<l.length):∃x b off cap,l[i]=x∧v= .slice (some ⟨b,off,none⟩) l.length cap∧
 w.cell? ⟨b,off+i*3,none⟩=some (.int .i64 x.s)∧w.cell? ⟨b,off+i*3+1,none⟩=some (.int .i64 x.o)∧w.cell? ⟨b,off+i*3+2,none⟩=some (.int .i64 x.n):=by
 obtain⟨b,off,cap,cs,hv,fK,hc⟩:=h.at_ hw hi;have iw:cs=[.int .i64 l[i].s,.int .i64 l[i].o,.int .i64 l[i].n]:=fK;subst iw;exact⟨_,b,off,cap,rfl,hv,hc 0 _ rfl,hc 1 _ rfl,hc 2 _ rfl⟩
def Xt.Wf(x:Xt):Prop:=(-9223372036854775808≤x.s∧x.s≤9223372036854775807)∧(-9223372036854775808≤x.o∧x.o≤9223372036854775807)∧(-9223372036854775808≤x.n∧x.n≤9223372036854775807)
structure aQ.Wf (e:aQ):Prop where
 k0: -9223372036854775808≤e.aj
 k1:e.aj≤9223372036854775807
 ag:e.ag.length≤9223372036854775807
 au:∀x∈e.au,x.Wf
 av:e.av.length≤9223372036854775807
 s0: -9223372036854775808≤e.size
 s1:e.size≤9223372036854775807
 aI:e.aI.length≤9223372036854775807
 aD:∀x∈e.aD,x.Wf
abbrev fT(e:aQ)(va vx:Value):List Value:=[.int .i64 e.aj,S e.ag,va,S e.av,.int .i64 e.size,S e.aI,vx]
abbrev fG(e:aQ)(va vx:Value):Value:= .agg #[.int .i64 e.aj,S e.ag,va,S e.av,.int .i64 e.size,S e.aI,vx]
def bJ:Ty aQ where
 size:=7
 rd:=fun I cs e=> ∃va vx,cs=fT e va vx∧aY lv I va e.au∧aY kQ I vx e.aD
 len:=fun⟨_,_,h,_⟩=>by rw[h];rfl
 one:=fun⟨va,vx,h,h1,h2⟩ u hu=>by
  rw[h]at hu;simp at hu;rcases hu with rfl|rfl|rfl|rfl|rfl|rfl|rfl<;>first|rfl|exact h1.one|exact h2.one
 mono:=fun hI ⟨va,vx,h,h1,h2⟩=>⟨va,vx,h,h1.mono hI,h2.mono hI⟩
structure Jp (w:World) (b o:Nat) (e:aQ) (va vx:Value):Prop where
 c0:w.cell? ⟨b,o,none⟩=some (.int .i64 e.aj)
 c1:w.cell? ⟨b,o+1,none⟩=some (S e.ag)
 c2:w.cell? ⟨b,o+2,none⟩=some va
 c3:w.cell? ⟨b,o+3,none⟩=some (S e.av)
 c4:w.cell? ⟨b,o+4,none⟩=some (.int .i64 e.size)
 c5:w.cell? ⟨b,o+5,none⟩=some (S e.aI)
 c6:w.cell? ⟨b,o+6,none⟩=some vx
theorem uT{l:List aQ}(h:aY bJ I v l)(hw:Ok I w)(i:Nat)(hi:i<l.length):∃x va vx b off cap,l[i]=x∧v= .slice (some ⟨b,off,none⟩) l.length cap∧
 Jp w b (off+i*7) x va vx∧aY lv I va x.au∧aY kQ I vx x.aD:=by
 obtain⟨b,off,cap,cs,hv,⟨va,vx,fK,h1,h2⟩,hc⟩:=h.at_ hw hi;subst fK;exact⟨_,va,vx,b,off,cap,rfl,hv,⟨hc 0 _ rfl,hc 1 _ rfl,hc 2 _ rfl,hc 3 _ rfl,hc 4 _ rfl,hc 5 _ rfl,hc 6 _ rfl⟩,h1,h2⟩
theorem Xm4:∀(s:af),Lib.split s [47]=dO [] s:=by
 have key:∀(n:Nat) (s:af),s.length≤n→Lib.split s [47]=dO [] s:=by
  intro n;induction n with
  |zero=>
   intro s h;have:s=[]:=List.eq_nil_of_length_eq_zero (by omega);subst this;rfl
  |succ n ih=>
   intro s h;rcases Lib.index_spec s [47]with⟨h1,h2⟩|⟨i,h1,h2,h3,h4⟩
   ·have hn:∀c∈s,c≠47:=by
     intro c hc e;obtain⟨j,hj,rfl⟩:=List.getElem_of_mem hc;have:=h2 j (by omega);unfold Lib.occAt at this;rw[List.drop_eq_getElem_cons hj,e]at this;simp at this
    have h5:=Jo s [] [] hn;rw[List.append_nil,List.nil_append]at h5;rw[h5,Lib.split,Lib.count_miss h1];rfl
   ·have hi:i<s.length∧s[i]?=some 47:=by
     have h6:=Lib.occAt_head rfl h3;exact⟨(List.getElem?_eq_some_iff.1 h6).1,h6⟩
    have hn:∀c∈s.take i,c≠47:=by
     intro c hc e;obtain⟨j,hj,rfl⟩:=List.getElem_of_mem hc;have yM:j<i:=by simp at hj;omega
     have:=h4 j yM;unfold Lib.occAt at this;rw[List.drop_eq_getElem_cons (by omega)]at this;rw[List.getElem_take]at e;rw[e]at this;simp at this
    have hs:s=s.take i++47::s.drop (i+1):=by
     conv=>lhs;rw[←List.take_append_drop i s,List.drop_eq_getElem_cons hi.1]
     have:=hi.2;rw[List.getElem?_eq_getElem hi.1]at this;rw[Option.some.inj this]
    have h5:=Jo (s.take i) [] (47::s.drop (i+1)) hn;rw[←hs,List.nil_append]at h5;rw[h5,dO,if_pos (by rfl),←ih (s.drop (i+1)) (by rw[List.length_drop];omega)];rw[Lib.split,Lib.count_hit (by simp) h1,Nat.add_comm,Lib.splitK,if_neg (by rw[h1];simp),h1];rfl
 exact fun s=>key s.length s (Qn _)
theorem Xp7(l:List af):Lib.join l [47]=eF l:=by
 induction l with
 |nil=>rfl
 |cons p l ih=>
  cases l with
  |nil=>simp[Lib.join,List.intercalate,eF]
  |cons q l=>
   rw[eF,←ih];simp[Lib.join,List.intercalate]
def bD(r:Nat):Bool:=!(decide (97≤r)&&decide (r≤122) || decide (48≤r)&&decide (r≤57) || decide (r=46) || decide (r=95) || decide (r=45))
theorem VD(c:UInt8):iL c=!(bD c.toNat):=by
 have e:∀n:Nat,n<256→(c==UInt8.ofNat n)=decide (c.toNat=n):=fun n hn=>by
  rw[Bool.eq_iff_iff,beq_iff_eq,decide_eq_true_iff];constructor
  ·intro h;rw[h];simp;omega
  ·intro h;have:c=UInt8.ofNat c.toNat:=by simp
   rw[this,h]
 unfold iL bD;rw[show(46:UInt8)=UInt8.ofNat 46 from rfl,show(95:UInt8)=UInt8.ofNat 95 from rfl,show(45:UInt8)=UInt8.ofNat 45 from rfl,e 46 (by omega),e 95 (by omega),e 45 (by omega)];simp[UInt8.le_iff_toNat_le]
theorem VE{r:Nat}(h:128≤r):bD r=true:=by
 unfold bD;simp;omega
theorem Xqa(s:ByteArray):∀(f pos:Nat),s.size≤pos+f→decide (0≤Lib.idxFuncFrom bD true s f pos)=!((s.data.toList.drop pos).all iL):=by
 intro f;induction f with
 |zero=>
  intro pos h;have hl:s.data.toList.length=s.size:=Array.length_toList;rw[List.drop_of_length_le (by omega)];rfl
 |succ f ih=>
  intro pos h;have hl:s.data.toList.length=s.size:=Array.length_toList;rw[Lib.idxFuncFrom];by_cases hp:pos<s.size
  ·rw[if_pos hp,List.drop_eq_getElem_cons (by omega),List.all_cons];have hb:s.data.toList[pos]'(by omega)=s[pos]'hp:=by
    rw[Array.getElem_toList];rfl
   rw[hb];by_cases ha:(s[pos]'hp).toNat<128
   ·rw[decode_ascii s pos hp ha];have hk:=VD (s[pos]'hp);cases hn:bD (s[pos]'hp).toNat
    ·rw[if_neg (by simp),hk,hn,ih (pos+1) (by omega)];simp
    ·rw[if_pos rfl,hk,hn];simp
   ·have hd:=decode_high s pos hp (by omega);rw[if_pos (VE hd.1),VD,VE (by omega)];simp
  ·rw[if_neg hp,List.drop_of_length_le (by omega)];rfl
theorem Xqb(s:af):decide (0≤Lib.idxFunc bD true ⟨s.toArray⟩)=!(s.all iL):=by
 have:=Xqa ⟨s.toArray⟩ (⟨s.toArray⟩:ByteArray).size 0 (by omega);rw[Lib.idxFunc,this];simp
def cmpL(a b:List af):Int:=if ic a b then -1 else if ic b a then 1 else 0
theorem Xso(a b:af):kF a b=cmpL (els a) (els b):=rfl
theorem Xjh(x:af)(a b:List af):cmpL (x::a) (x::b)=cmpL a b:=by
 unfold cmpL;rw[ic,ic,Bn];simp
theorem Xjf{x:af}(h:Op.bytesLess x y=true)(a b:List af):cmpL (x::a) (y::b)= -1:=by
 unfold cmpL;rw[ic,h];simp
theorem Xjg{x:af}(h:Op.bytesLess y x=true)(a b:List af):cmpL (x::a) (y::b)=1:=by
 unfold cmpL;rw[ic,ic,h,Jk h];have:(x==y)=false:=by simpa using(Jl h).symm
 rw[this];simp
theorem Xoo{a b:List af}{k:Nat}(h:a.take k=b.take k)(ha:k≤a.length)(hb:k≤b.length):cmpL a b=cmpL (a.drop k) (b.drop k):=by
 induction k generalizing a b with
 |zero=>rfl
 |succ k ih=>
  cases a with
  |nil=>simp at ha
  |cons x a=>
   cases b with
   |nil=>simp at hb
   |cons y b=>
    simp only[List.take_succ_cons,List.cons.injEq]at h;obtain⟨rfl,h⟩:=h;rw[Xjh,List.drop_succ_cons,List.drop_succ_cons];exact ih h (by simpa using ha) (by simpa using hb)
theorem l6{t:TypeId}(h:P.underlying t=some .string)(s:af)(i:Int)(j:Nat)(hi:i=(j:Int))(hj:j<s.length)(W:World):(Instr.index t (S s) (.int .i64 i)).run P W= .ok (.int .u8 ((s.getD j 0).toNat:Nat)) W:=by
 subst hi;rw[S,run_index_string W t _ .i64 _ h];have cu:(⟨s.toArray⟩:ByteArray).size=s.length:=by simp[ByteArray.size]
 rw[dif_pos ⟨by omega,by rw[cu];omega⟩];have e:(⟨s.toArray⟩:ByteArray)[((j:Nat):Int).toNat]'(by rw[cu];simpa using hj)=s.getD j 0:=by
  simp[List.getD,List.getElem?_eq_getElem hj,ByteArray.getElem_eq_getElem_data]
 rw[e]
theorem Jq(h:aY ib I v l)(hw:Ok I w)(i:Nat)(hi:i<l.length):∃s b off cap,l[i]=s∧v= .slice (some ⟨b,off,none⟩) l.length cap∧
 w.cell? ⟨b,off+i,none⟩=some (S s):=by
 obtain⟨b,off,cap,cs,hv,fK,hc⟩:=h.at_ hw hi;have iw:cs=[S l[i]]:=fK;subst iw;have:=hc 0 _ rfl;exact⟨_,b,off,cap,rfl,hv,by simpa[ib,Ty.flat]using this⟩
theorem Xpd:(Tryz.prog.info? 9).map (fun i=>(i.zero,i.size,i.bytes))=some (some (.string ⟨#[]⟩),1,16):=by kernel_rfl
theorem VF:dx Tryz.prog 126 9 ib 16:=dx.of Tryz.underlying126 Xpd rfl (by decide) rfl
theorem Xtr(c:UInt8)(n:Nat)(hn:n<256):(((c.toNat:Nat):Int)==(n:Int))=(c==UInt8.ofNat n):=by
 rw[Bool.eq_iff_iff,beq_iff_eq,beq_iff_eq];constructor
 ·intro h;have h':c.toNat=n:=by omega
  rw[←h'];simp
 ·intro h;rw[h];simp;omega
theorem VG:∀(a b:List af),(eF a).length≤(eF (a++b)).length
 | [],_=>Nat.zero_le _
 | [p],[]=>Qn _
 | [p],q::b=>by
   rw[List.singleton_append,show eF [p]=p from rfl,GN p (show q::b≠[] by simp)];simp
 |p::q::a,b=>by
  have:=VG (q::a) b;rw[List.cons_append,GN p (by simp),GN p (by simp)];simp only[List.length_append,List.length_cons];omega
theorem Xhk(l:List af)(k:Nat):(eF (l.take k)).length≤(eF l).length:=by
 conv=>rhs;rw[←List.take_append_drop k l]
 exact VG _ _
theorem aY.C9{l:List α}{ao:Option Addr}{m cap:Nat}(h:aY T I (.slice ao m cap) l)(hn:n≤l.length):aY T I (.slice ao n cap) (l.take n):=by
 obtain⟨ao',cap',e,h1,h2,h3⟩:=h;injection e with e1 e2 e3
 subst e1 e3;have hl:(l.take n).length=n:=by rw[List.length_take,Nat.min_eq_left hn]
 refine⟨_,_,by rw[hl],by omega,h2,fun h0=> ?_⟩;obtain⟨b,off,arr,k1,k2,k3⟩:=h3 (by omega);refine⟨b,off,arr,k1,k2,fun i hi=> ?_⟩;obtain⟨cs,c1,c2⟩:=k3 i (by omega);exact⟨cs,by rw[List.getElem_take];exact c1,c2⟩
theorem PK:∀(s p:af) (q:af),q∈dO p s→q.length≤p.length+s.length
 | [],p,q,h=>by
   rw[dO]at h;simp at h;subst h;simp
 |c::s,p,q,h=>by
  rw[dO]at h;split at h
  ·rcases List.mem_cons.1 h with rfl|h
   ·simp only[List.length_cons];omega
   ·have:=PK s [] q h;simp only[List.length_cons,List.length_nil]at this ⊢;omega
  ·have:=PK s _ q h;simp only[List.length_append,List.length_cons,List.length_nil]at this ⊢;omega
theorem Xsh{q:af}(h:q∈els s):q.length≤s.length:=by
 unfold els at h;split at h
 ·exact absurd h (by simp)
 ·have:=PK s [] q h;simpa using this
def mK(s:af):List af×Int:=if aR s=0 then(els s,0)else([],aR s)
theorem Nf(h:aR s=0):mK s=(els s,0):=by rw[mK,if_pos h]
theorem VH(h:aR s≠0):mK s=([],aR s):=by rw[mK,if_neg h]
def qL(s:af):af×Int:=if aR s≠0 then([],aR s)else if s=[]then([],1)else(iT s,0)
theorem Xj1(l d:List af):d.isPrefixOf l=decide (l.take d.length=d):=by
 rw[Bool.eq_iff_iff,List.isPrefixOf_iff_prefix,decide_eq_true_iff,List.prefix_iff_eq_take];exact⟨fun h=>h.symm,fun h=>h.symm⟩
theorem Xig{d:List af}(h:l.length<d.length):d.isPrefixOf l=false:=by
 cases hp:d.isPrefixOf l with
 |false=>rfl
 |true=>have:=(List.isPrefixOf_iff_prefix.1 hp).length_le;omega
