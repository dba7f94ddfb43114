/- Lemmas for the claim's theorem;conditions: as each says. -/
import Derived.WalkKit
import Derived.WalkSpells
import Derived.WalkLawsBesides
import Derived.Lib.Hide
import Derived.Lib.QuietBelow
import Derived.Deep.QuietTactic
import Derived.BigQuiet
import Derived.Laws.StructEq
import Derived.StillTail
set_option linter.all false
namespace Go.RowKit
theorem Hid.O{p:Prop}(h:Hid p):p:=h.out
end Go.RowKit
namespace Go.Proofs.YtegieeommgiknaaGreatDoor
open Go.RowKit
variable{i:Nat}{a:Act}{Q:Exit→Act→World→Prop}{p:Prop}{α:Type}{v:Value}{P:Program}{w' w0 w:World}{x:α}{B:Nat}{W:World}{ts te:TypeId}{bytes:Nat}{o:Oper}{n:Nat}{K:Act→Prop}{ops:Array Oper}{E:TypeId}{l:List α}{g:Nat}{Z:Array Bool→Prop}{id:Nat}
theorem Qi{a:Array α}(h:a[i]?=some x): ∃h:i<a.size,a[i]=x:=Array.getElem?_eq_some_iff.1 h
theorem Qg{a:Array α}(h:a[i]?=some x):i<a.size:=(Array.getElem?_eq_some_iff.1 h).1
theorem Qh(h:p):Hid p:=h
theorem Qn(n:Nat):n≤n:=Nat.le_refl n
theorem Qb(n:Nat)(w:World):Below n w w:=Below.refl n w
theorem Qt[Decidable p](h:p):decide p=true:=decide_eq_true h
theorem Qf[Decidable p](h:¬p):decide p=false:=decide_eq_false h
abbrev af:=List UInt8
variable{b s:af}
abbrev S(l:af):Value:= .string ⟨l.toArray⟩
abbrev IH:=Nat→Option (Array Value)
variable{I:IH}
def Ok(I:IH)(w:World):Prop:=∀b c,I b=some c→ ∃e f,w.heap[b]?=some (.cells c e f)
def Ext(n:Nat)(I I':IH):Prop:=∀b,b<n→I' b=I b
def IH.add(I:IH)(b:Nat)(c:Array Value):IH:=fun k=>if k=b then some c else I k
section
variable {I I' XV:IH} {w w':World} {b n m:Nat} {c:Array Value}
theorem Ok.lt(h:Ok I w)(hb:I b=some c):b<w.heap.size:=by
 obtain⟨e,f,hh⟩:=h b c hb;exact(Qg hh)
theorem Ok.fresh(h:Ok I w)(hb:w.heap.size≤b):I b=none:=by
 cases hc:I b with
 |none=>rfl
 |some c=>have:=h.lt hc;omega
theorem Ok.cell(h:Ok I w)(hb:I b=some c)(j:Nat):w.cell? ⟨b,j,none⟩=c[j]? :=by
 obtain⟨e,f,hh⟩:=h b c hb;simp[World.cell?,hh]
theorem Ok.of_block(h:Ok I w)(k:∀b c,I b=some c→w'.heap[b]?=w.heap[b]?):Ok I w':=fun b c hb=>by
 rw[k b c hb];exact h b c hb
theorem Ok.below(h:Ok I w)(hB:w.heap.size≤B)(hb:Below B w w'):Ok I w':=
 h.of_block fun b _ hc=>hb.block b (Nat.lt_of_lt_of_le (h.lt hc) hB)
theorem Ok.drew(h:Ok I w):Ok I w.drew:=h
theorem Ok.alloc(h:Ok I w)(o:Obj):Ok I (w.alloc o):=h.of_block fun b _ hc=>Below.heap_alloc w o b (h.lt hc)
theorem Ok.setCell(h:Ok I w){a:Addr}(ha:I a.block=none)(u:Value):Ok I (w.setCell a u):=h.of_block fun b _ hc=>
 Below.heap_setCell w a u b (fun e=>by subst e;rw[ha]at hc;cases hc)
theorem Ok.grown(h:Ok I w){row:Option Nat}(hg:w.grownBy w' row)(hr:∀g,row=some g→I g=none):Ok I w':=h.of_block fun b _ hc=>
 hg.block b (h.lt hc) (fun e=>by have:=hr b e.symm;rw[this]at hc;cases hc)
theorem Ok.add{e:TypeId}{f:Nat×Nat}(h:Ok I w)(hb:w.heap[b]?=some (.cells c e f)):Ok (I.add b c) w:=fun k d hk=>by
 unfold IH.add at hk;split at hk
 ·rename_i e';subst e';cases hk;exact⟨e,f,hb⟩
 ·exact h k d hk
theorem Ext.refl(n:Nat)(I:IH):Ext n I I:=fun _ _=>rfl
theorem Ext.trans(h:Ext n I I')(k:Ext m I' XV)(hm:n≤m):Ext n I XV:=fun b hb=>(k b (by omega)).trans (h b hb)
theorem Ext.mono(h:Ext n I I')(hm:m≤n):Ext m I I':=fun b hb=>h b (by omega)
theorem Ext.add(hb:n≤b)(I:IH)(c:Array Value):Ext n I (I.add b c):=fun k hk=>by
 unfold IH.add;rw[if_neg (by omega)]
theorem Ext.keep(h:Ext n I I')(iZ:Ok I w)(hn:w.heap.size≤n):∀b c,I b=some c→I' b=some c:=fun b c hc=>by
 rw[h b (Nat.lt_of_lt_of_le (iZ.lt hc) hn)];exact hc
end
structure Ty (α:Type) where
 size:Nat
 rd:IH→List Value→α→Prop
 len:∀{I cs x},rd I cs x→cs.length=size
 one:∀{I cs x},rd I cs x→ ∀u∈cs,u.oneCell'=true
 mono:∀{I I':IH} {cs x},(∀b c,I b=some c→I' b=some c)→rd I cs x→rd I' cs x
variable{T:Ty α}
def Ty.flat{α:Type}(size:Nat)(enc:α→List Value)(hl:∀x,(enc x).length=size)(h1:∀x,∀u∈enc x,u.oneCell'=true):Ty α where
 size:=size
 rd:=fun _ cs x=>cs=enc x
 len:=fun h=>by rw[h];exact hl _
 one:=fun h=>by rw[h];exact h1 _
 mono:=fun _ h=>h
def alC(k:IntKind):Ty Int:=Ty.flat 1 (fun n=> [.int k n]) (fun _=>rfl) (fun _ u h=>by simp at h;subst h;rfl)
def iE:Ty af:=Ty.flat 1 (fun s=> [S s]) (fun _=>rfl) (fun _ u h=>by simp at h;subst h;rfl)
def Ip{α:Type}(T:Ty α)(I:IH)(arr:Array Value)(off:Nat)(l:List α):Prop:=
 ∀i (h:i<l.length),∃cs,T.rd I cs l[i]∧ ∀j u,cs[j]?=some u→arr[off+(i*T.size+j)]?=some u
def aZ{α:Type}(T:Ty α)(I:IH)(v:Value)(l:List α):Prop:=
 ∃(ao:Option Addr) (cap:Nat),v= .slice ao l.length cap∧l.length≤cap∧cap≤maxLen∧
  (0<l.length→ ∃b off arr,ao=some ⟨b,off,none⟩∧I b=some arr∧Ip T I arr off l)
section
variable {α:Type} {T:Ty α} {I I':IH} {w:World} {v:Value} {l:List α}
theorem Ip.mono{arr:Array Value}{off:Nat}(hI:∀b c,I b=some c→I' b=some c)(h:Ip T I arr off l):Ip T I' arr off l:=fun i hi=>
 let ⟨cs,h1,h2⟩:=h i hi
 ⟨cs,T.mono hI h1,h2⟩
theorem aZ.mono(hI:∀b c,I b=some c→I' b=some c)(h:aZ T I v l):aZ T I' v l:=by
 obtain⟨ao,cap,hv,h1,h2,h3⟩:=h;refine⟨ao,cap,hv,h1,h2,fun hl=> ?_⟩;obtain⟨b,off,arr,e1,e2,e3⟩:=h3 hl;exact⟨b,off,arr,e1,hI _ _ e2,e3.mono hI⟩
theorem aZ.nil(T:Ty α)(I:IH):aZ T I (.slice none 0 0) []:=⟨none,0,rfl,Qn _,Nat.zero_le _,fun h=>absurd h (by simp)⟩
theorem aZ.one{v:Value}(h:aZ T I v l):v.oneCell'=true:=by
 obtain⟨ao,cap,rfl,_⟩:=h;rfl
def tSl(T:Ty α):Ty (List α) where
 size:=1
 rd:=fun I cs l=> ∃v,cs=[v]∧aZ T I v l
 len:=fun⟨v,h,_⟩=>by rw[h];rfl
 one:=fun⟨v,h,k⟩ u hu=>by rw[h]at hu;simp at hu;subst hu;exact k.one
 mono:=fun hI ⟨v,h,k⟩=>⟨v,h,k.mono hI⟩
theorem aZ.at_(h:aZ T I v l)(hw:Ok I w)(hi:i<l.length):∃b off cap cs,v= .slice (some ⟨b,off,none⟩) l.length cap∧T.rd I cs l[i]∧
 ∀j u,cs[j]?=some u→w.cell? ⟨b,off+i*T.size+j,none⟩=some u:=by
 obtain⟨ao,cap,hv,h1,h2,h3⟩:=h;obtain⟨b,off,arr,rfl,e2,e3⟩:=h3 (by omega);obtain⟨cs,k1,k2⟩:=e3 i hi;exact⟨b,off,cap,cs,hv,k1,fun j u hu=>by rw[hw.cell e2,Nat.add_assoc];exact k2 j u hu⟩
theorem aZ.bL(h:aZ T I v l):l.length≤9223372036854775807:=by
 obtain⟨ao,cap,hv,h1,h2,h3⟩:=h;unfold maxLen at h2;omega
end
@[go_sem] theorem mk_append_mk (x y:af):(ByteArray.mk x.toArray++ByteArray.mk y.toArray)=ByteArray.mk (x++y).toArray:=ByteArray.mk_append_mk x y
@[go_sem] theorem OT (x:af) (a b:Nat):(ByteArray.mk x.toArray).extract a b=ByteArray.mk ((x.drop a).take (b-a)).toArray:=by
  apply ByteArray.ext;simp[ByteArray.data_extract]
theorem OU{a:af}(h:a=b):Ending.returned (S a)= .returned (S b):=by rw[h]
theorem dZ{k:IntKind}{a b:Int}(h:a=b):Ending.returned (.int k a)= .returned (.int k b):=by rw[h]
theorem jr{a b:Bool}(h:a=b):Ending.returned (.bool a)= .returned (.bool b):=by rw[h]
@[go_sem] def Ui (d:Nat) (xs ys:Array Value):List (TypeId×Nat×Bool)→Sem Bool
  | []=>pure true
  |(t,o,b)::fs=>if b then Ui d xs ys fs else do
     let a ←part t xs o
     let b ←part t ys o
     let r ←Op.equalIn d t a b
     if(!r)=true then pure false else Ui d xs ys fs
theorem Z8(d : Nat)(xs ys : Array Value) : ∀fs : List Field,Op.eqFields d xs ys fs=Ui d xs ys (fs.map fun f=> (f.type,f.offset,f.name== "_"))
 | []=>rfl
 |f::fs=>by
  simp only[Op.eqFields,List.map_cons,Ui,Z8 d xs ys fs];by_cases h : f.name= "_" <;> simp[h]
theorem Tv{t:TypeId}(xs ys:Array Value)(L:List (TypeId×Nat×Bool))(W:World)(h1:P.underlying t=some (.struct (P.fieldsOf t)))(h2:P.stoodInHeld t=false)
 (hL : (P.fieldsOf t).toList.map (fun f=> (f.type,f.offset,f.name== "_"))=L) :
 (binOp .neq t (.agg xs) (.agg ys)).run P W=((Ui 9999 xs ys L).run P W).andThen fun b w'=> .ok (.bool (!b)) w':=by
 rw[run_neq_struct,show(10000:Nat)=9999+1 from rfl,run_equalIn_agg _ _ _ _ _ h1 h2,Z8,hL]
theorem aV{a:Addr}{x:Value}(hb:Below W.heap.size W w')(h:W.cell? a=some x):w'.cell? a=some x:=(hb.cell (block_lt_of_cell h)).trans h
theorem kM{a:Addr}{x:Value}(o:Obj)(h:W.cell? a=some x):(W.alloc o).cell? a=some x:=(World.cell?_alloc_lt _ _ _ (block_lt_of_cell h)).trans h
theorem fC{a:Addr}{x:Value}{row:Option Nat}(hg:W.grownBy w' row)(bq:row≠some a.block)(h:W.cell? a=some x):w'.cell? a=some x:=
 (World.cell?_of_block (hg.block _ (block_lt_of_cell h) (fun e=>bq e.symm))).trans h
def dF{α:Type}(T:Ty α)(I:IH)(xs:List Value)(l:List α):Prop:=
 xs.length=l.length*T.size∧ ∀i (h:i<l.length),∃cs,T.rd I cs l[i]∧ ∀j u,cs[j]?=some u→xs[i*T.size+j]?=some u
def aQ{α:Type}(T:Ty α)(E:TypeId)(I:IH)(w:World)(B:Nat)(v:Value)(l:List α):Prop:=
 ∃xs,w.ownsRow B E T.size v l.length xs∧dF T I xs l
section
variable {α:Type} {T:Ty α} {I I':IH} {w w':World} {v:Value} {l:List α} {xs:List Value} {E:TypeId} {B:Nat}
theorem dF.mono(hI:∀b c,I b=some c→I' b=some c)(h:dF T I xs l):dF T I' xs l:=
 ⟨h.1,fun i hi=>let ⟨cs,h1,h2⟩:=h.2 i hi;⟨cs,T.mono hI h1,h2⟩⟩
theorem dF.nil(T:Ty α)(I:IH):dF T I [] []:=⟨by simp,fun i h=>absurd h (by simp)⟩
theorem dF.one{x:α}{cs:List Value}(h:T.rd I cs x):dF T I cs [x]:=by
 refine⟨by simp[T.len h],fun i hi=>⟨cs,?_,fun j u hu=> ?_⟩⟩
 ·have:i=0:=by simp at hi;omega
  subst this;exact h
 ·have:i=0:=by simp at hi;omega
  subst this;simpa using hu
theorem dF.append{ys:List Value}{m:List α}(h:dF T I xs l)(k:dF T I ys m):dF T I (xs++ys) (l++m):=by
 refine⟨by rw[List.length_append,List.length_append,h.1,k.1,Nat.add_mul],fun i hi=> ?_⟩;by_cases hl:i<l.length
 ·obtain⟨cs,h1,h2⟩:=h.2 i hl;refine⟨cs,by rw[List.getElem_append_left hl];exact h1,fun j u hu=> ?_⟩;have hx:=h2 j u hu;rw[List.getElem?_append_left (List.getElem?_eq_some_iff.1 hx).1];exact hx
 ·obtain⟨cs,h1,h2⟩:=k.2 (i-l.length) (by simp at hi;omega);refine⟨cs,by rw[List.getElem_append_right (by omega)];exact h1,fun j u hu=> ?_⟩;have hx:=h2 j u hu;have e:i*T.size+j=xs.length+((i-l.length)*T.size+j):=by
   rw[h.1,Nat.sub_mul];have:=Nat.mul_le_mul_right T.size (show l.length≤i by omega);omega
  rw[e,List.getElem?_append_right (by omega),Nat.add_sub_cancel_left];exact hx
theorem dF.take(h:dF T I xs l)(n:Nat):dF T I (xs.take (n*T.size)) (l.take n):=by
 refine⟨by
  rw[List.length_take,List.length_take,h.1];rcases Nat.le_total n l.length with hn|hn
  ·rw[Nat.min_eq_left hn,Nat.min_eq_left (Nat.mul_le_mul_right _ hn)]
  ·rw[Nat.min_eq_right hn,Nat.min_eq_right (Nat.mul_le_mul_right _ hn)],fun i hi=> ?_⟩
 have WJ:i<n∧i<l.length:=by simp at hi;omega
 obtain⟨cs,h1,h2⟩:=h.2 i WJ.2;refine⟨cs,by rw[List.getElem_take];exact h1,fun j u hu=> ?_⟩;have hj:j<T.size:=by rw[←T.len h1];exact(List.getElem?_eq_some_iff.1 hu).1
 have:=Nat.mul_le_mul_right T.size (show i+1≤n by omega);rw[Nat.add_mul]at this;rw[List.getElem?_take_of_lt (by omega)];exact h2 j u hu
theorem dF.drop(h:dF T I xs l)(n:Nat):dF T I (xs.drop (n*T.size)) (l.drop n):=by
 refine⟨by rw[List.length_drop,List.length_drop,h.1,Nat.sub_mul],fun i hi=> ?_⟩;have WJ:n+i<l.length:=by simp at hi;omega
 obtain⟨cs,h1,h2⟩:=h.2 (n+i) WJ;refine⟨cs,by rw[List.getElem_drop];exact h1,fun j u hu=> ?_⟩;rw[List.getElem?_drop,←Nat.add_assoc,←Nat.add_mul];exact h2 j u hu
theorem dF.oneCell(h:dF T I xs l):∀u∈xs,u.oneCell'=true:=by
 intro u hu;obtain⟨p,hp,rfl⟩:=List.getElem_of_mem hu;have hs:0<T.size:=by
  rcases Nat.eq_zero_or_pos T.size with h0|h0
  ·have:=h.1;rw[h0,Nat.mul_zero]at this;omega
  ·exact h0
 have hi:p / T.size<l.length:=by rw[Nat.div_lt_iff_lt_mul hs,←h.1];exact hp
 obtain⟨cs,h1,h2⟩:=h.2 _ hi;have hj:p%T.size<cs.length:=by rw[T.len h1];exact Nat.mod_lt _ hs
 have hx:=h2 (p%T.size) _ (List.getElem?_eq_getElem hj);rw[show p / T.size*T.size+p%T.size=p by rw[Nat.mul_comm];exact Nat.div_add_mod p T.size,List.getElem?_eq_getElem hp]at hx;rw[Option.some.inj hx];exact T.one h1 _ (List.getElem_mem hj)
theorem aZ.cells(h:aZ T I v l)(hw:Ok I w)(hs:0<T.size):∃(ao:Option Addr) (cap:Nat) (xs:List Value),v= .slice ao l.length cap∧l.length≤cap∧cap≤maxLen∧dF T I xs l∧
 (0<l.length→ ∃b off arr,ao=some ⟨b,off,none⟩∧I b=some arr∧b<w.heap.size∧ ∀j u,xs[j]?=some u→w.cell? ⟨b,off+j,none⟩=some u):=by
 obtain⟨ao,cap,hv,h1,h2,h3⟩:=h;rcases Nat.eq_zero_or_pos l.length with h0|h0
 ·have:l=[]:=List.eq_nil_of_length_eq_zero h0;subst this;exact⟨ao,cap,[],hv,h1,h2,dF.nil T I,fun h=>absurd h (by simp)⟩
 ·obtain⟨b,off,arr,e1,e2,e3⟩:=h3 h0;have bS:off+l.length*T.size≤arr.size:=by
   obtain⟨cs,k1,k2⟩:=e3 (l.length-1) (by omega);have hx:=k2 (T.size-1) _ (List.getElem?_eq_getElem (by rw[T.len k1];omega));have:=(Qg hx);have e:(l.length-1)*T.size+T.size=l.length*T.size:=by
    rw[←Nat.succ_mul,Nat.succ_eq_add_one,show l.length-1+1=l.length by omega]
   omega
  refine⟨ao,cap,(arr.toList.drop off).take (l.length*T.size),hv,h1,h2,⟨by simp;omega,fun i hi=> ?_⟩,fun _=>⟨b,off,arr,e1,e2,hw.lt e2,fun j u hu=> ?_⟩⟩
  ·obtain⟨cs,k1,k2⟩:=e3 i hi;refine⟨cs,k1,fun j u hu=> ?_⟩;have hj:j<T.size:=by rw[←T.len k1];exact(List.getElem?_eq_some_iff.1 hu).1
   have:=Nat.mul_le_mul_right T.size (show i+1≤l.length by omega);rw[Nat.add_mul]at this;rw[List.getElem?_take_of_lt (by omega),List.getElem?_drop,Array.getElem?_toList];exact k2 j u hu
  ·rw[hw.cell e2];rw[List.getElem?_take]at hu;split at hu
   ·rw[List.getElem?_drop,Array.getElem?_toList]at hu;exact hu
   ·cases hu
theorem aQ.kept{row:Option Nat}(h:aQ T E I w B v l)(hg:w.grownBy w' row)(bq:v.ownBlock=none∨v.ownBlock≠row):aQ T E I w' B v l:=
 let ⟨xs,h1,h2⟩:=h
 ⟨xs,h1.kept hg bq,h2⟩
theorem aQ.below(h:aQ T E I w B v l)(hb:Below w.heap.size w w'):aQ T E I w' B v l:=
 h.kept (row:=none) ⟨hb.os,hb.tape,hb.output,hb.size,fun k hk _=>hb.block k hk⟩ (by cases v.ownBlock<;>simp)
theorem aQ.alloc(h:aQ T E I w B v l)(o:Obj):aQ T E I (w.alloc o) B v l:=
 let ⟨xs,h1,h2⟩:=h
 ⟨xs,h1.alloc o,h2⟩
theorem aQ.mono(hI:∀b c,I b=some c→I' b=some c)(h:aQ T E I w B v l):aQ T E I' w B v l:=
 let ⟨xs,h1,h2⟩:=h
 ⟨xs,h1,h2.mono hI⟩
theorem aQ.lower{B':Nat}(h:aQ T E I w B v l)(hB:B'≤B):aQ T E I w B' v l:=by
 obtain⟨xs,⟨h1,Kk⟩,h2⟩:=h;refine⟨xs,⟨h1,?_⟩,h2⟩;rcases Kk with h0|⟨g,cap,cur,a,b,c⟩
 ·exact .inl h0
 ·exact .inr ⟨g,cap,cur,a,by omega,c⟩
theorem aQ.nil(T:Ty α)(E:TypeId)(I:IH)(w:World)(B:Nat):aQ T E I w B (.slice none 0 0) []:=⟨[],World.ownsRow_nil w B E T.size,dF.nil T I⟩
theorem aQ.sO(h:aQ T E I w B v l){b:Nat}(hb:w.heap.size≤b):v.ownBlock≠some b:=by
 obtain⟨xs,h1,_⟩:=h;intro e;have:=(h1.lt b e).2;omega
theorem aQ.dm(h:aQ T E I w B v l){b:Nat}(hb:b<B):v.ownBlock≠some b:=by
 obtain⟨xs,h1,_⟩:=h;intro e;have:=(h1.lt b e).1;omega
theorem aQ.rf(h:aQ T E I w B v l){b:Nat}(e:v.ownBlock=some b):B≤b:=by
 obtain⟨xs,h1,_⟩:=h;exact(h1.lt b e).1
theorem aQ.freeze(h:aQ T E I w B v l)(hw:Ok I w)(hI:∀b,B≤b→I b=none):∃I',Ext B I I'∧Ok I' w∧aZ T I' v l∧ ∀b,v.ownBlock≠some b→I' b=I b:=by
 obtain⟨xs,⟨h1,Kk⟩,h2⟩:=h;rcases Kk with⟨rfl,h0⟩|⟨g,cap,cur,rfl,hb,hg,Kl,iv,jf,ht⟩
 ·refine⟨I,Ext.refl _ _,hw,?_,fun _ _=>rfl⟩;have:l=[]:=List.eq_nil_of_length_eq_zero h0;subst this;exact aZ.nil T I
 ·have mM:∀b c,I b=some c→(I.add g cur) b=some c:=fun b c hc=>by
   unfold IH.add;by_cases e:b=g
   ·subst e;rw[hI _ hb]at hc;cases hc
   ·rw[if_neg e];exact hc
  refine⟨I.add g cur,Ext.add hb I cur,hw.add hg,⟨_,cap,rfl,Kl,iv,fun _=>⟨g,0,cur,rfl,by simp[IH.add],fun i hi=> ?_⟩⟩,fun b N8=> ?_⟩
  ·obtain⟨cs,k1,k2⟩:=h2.2 i hi;refine⟨cs,T.mono mM k1,fun j u hu=> ?_⟩;have hx:=k2 j u hu;rw[←ht,List.getElem?_take]at hx;split at hx
   ·rw[Nat.zero_add,←Array.getElem?_toList];exact hx
   ·cases hx
  ·have:b≠g:=fun e=>N8 (by simp[Value.ownBlock,e]);simp[IH.add,this]
def eZ(P:Program)(ts te:TypeId)(T:Ty α)(bytes:Nat):Prop:=
 ∃i z,P.underlying ts=some (.slice te)∧P.info? te=some i∧i.zero=some z∧i.size=T.size∧i.bytes=bytes∧z.cells.size=T.size∧0<T.size
theorem eZ.of{z:Value}{size:Nat}(hu:P.underlying ts=some (.slice te))(h:(P.info? te).map (fun i=>(i.zero,i.size,i.bytes))=some (some z,size,bytes))(hz:z.cells.size=size)(hs:0<size)(hT:T.size=size):eZ P ts te T bytes:=by
 obtain⟨i,h1,h2,h3,h4⟩:=info_parts h;exact⟨i,z,hu,h1,h2,by rw[h3,hT],h4,by rw[hz,hT],by rw[hT];exact hs⟩
theorem qX(hE:eZ P ts te T bytes){rest:List Oper}(Ak:o.guard=none)(s x:Operand)
 (ho:o.op= .call {callee:= .builtin .append,args:=#[s,x],argTypes:=#[ts,ts]}) (B:Nat) (v:Value) (l:List α) (hs:a.eval s=v) (bU:aQ T te I w0 B v l)
 (y:α) (cs:List Value) (tb:TypeId) (hx:a.eval x= .slice (some ⟨w0.heap.size,0,none⟩) 1 1) (hy:T.rd I cs y) (iw:(l.length+1)*bytes≤140737488355328) (hl:l.length+1≤9223372036854775807) (hB:B≤w0.heap.size)
 (h:∀v' w',aQ T te I w' B v' (l++[y])→w0.grownBy w' v.ownBlock→wpList P ops Q rest (a.put o.dst v') w'):wpList P ops Q (o::rest) a (w0.alloc (.cells cs.toArray tb)):=by
 obtain⟨i,z,h1,h2,h3,h4,h5,h6,h7⟩:=hE;obtain⟨xs,k1,k2⟩:=bU
 refine wpList_append_own (w0.alloc (.cells cs.toArray tb)) Ak s x ts ho B te i z T.size bytes h1 h2 h3 h4 h5 h6 h7 v l.length xs hs (k1.alloc _) ⟨w0.heap.size,0,none⟩ 1 1 cs hx (by rw[T.len hy,Nat.one_mul])
  (fun j u hu=>by rw[Addr.add_lit,Nat.zero_add,World.cell?_alloc_new];simpa using hu) (T.one hy) (by unfold maxLen;omega) iw (by simp;omega) (fun v' w' r1 r2 _=>h v' w' ⟨xs++cs,by rw[List.length_append];exact r1,k2.append (dF.one hy)⟩ ?_)
 exact⟨r2.os,r2.tape,r2.output,by have:=r2.size;simp at this;omega,fun k hk bq=>(r2.block k (by simp;omega) bq).trans (Below.heap_alloc _ _ _ hk)⟩
theorem Xi8(hE:eZ P ts te T bytes){rest:List Oper}(Ak:o.guard=none)(s x:Operand)
 (ho:o.op= .call {callee:= .builtin .append,args:=#[s,x],argTypes:=#[ts,ts]}) (B:Nat) (v:Value) (l:List α) (hs:a.eval s=v) (bU:aQ T te I w0 B v l)
 (ys:List α) (cs:List Value) (tb:TypeId) (hx:a.eval x= .slice (some ⟨w0.heap.size,0,none⟩) ys.length ys.length) (hy:dF T I cs ys) (_hp:0<ys.length) (iw:(l.length+ys.length)*bytes≤140737488355328) (hl:l.length+ys.length≤9223372036854775807) (hB:B≤w0.heap.size)
 (h:∀v' w',aQ T te I w' B v' (l++ys)→w0.grownBy w' v.ownBlock→wpList P ops Q rest (a.put o.dst v') w'):wpList P ops Q (o::rest) a (w0.alloc (.cells cs.toArray tb)):=by
 obtain⟨i,z,h1,h2,h3,h4,h5,h6,h7⟩:=hE;obtain⟨xs,k1,k2⟩:=bU
 refine wpList_append_own (w0.alloc (.cells cs.toArray tb)) Ak s x ts ho B te i z T.size bytes h1 h2 h3 h4 h5 h6 h7 v l.length xs hs (k1.alloc _) ⟨w0.heap.size,0,none⟩ ys.length ys.length cs hx hy.1
  (fun j u hu=>by rw[Addr.add_lit,Nat.zero_add,World.cell?_alloc_new];simpa using hu) hy.oneCell (by unfold maxLen;omega) iw (by simp;omega) (fun v' w' r1 r2 _=>h v' w' ⟨xs++cs,by rw[List.length_append];exact r1,k2.append hy⟩ ?_)
 exact⟨r2.os,r2.tape,r2.output,by have:=r2.size;simp at this;omega,fun k hk bq=>(r2.block k (by simp;omega) bq).trans (Below.heap_alloc _ _ _ hk)⟩
end
theorem Below.own{B0:Nat}(h:Below B0 w w0)(hg:w0.grownBy w' v.ownBlock)(bU:aQ T E I w0 B v l)(hB:B0≤B)(hB':B≤w0.heap.size):Below B0 w w':=
 h.grown hg (by omega) (fun _ hk=>Nat.le_trans hB (bU.rf hk))
theorem Ok.own{J:IH}(h:Ok J w0)(hg:w0.grownBy w' v.ownBlock)(bU:aQ T E I w0 B v l)(hJ:∀b,B≤b→J b=none):Ok J w':=
 h.grown hg (fun g hk=>hJ g (bU.rf hk))
open Go.RowKit Go.Sort
section
variable {P:Program} {ops:Array Oper} {md:Region.Mode} {C:World→Prop}
def Br(P:Program)(md:Region.Mode)(ops:Array Oper)(C:World→Prop)(n:Nat)(Z:Array Bool→Prop)(K:Act→Prop):Nat→Array Bool→Act→Prop
 |0,s,a=>Z s∧K a
 |f+1,s,a=>(∃i,i∈Region.ready md ops s)∧ ∀i∈Region.ready md ops s,i<n∧qOp P ops C i (Br P md ops C n Z K f (s.setIfInBounds i true)) a
theorem Xss(hZ:∀s a w,Z s→C w→K a→wpAny P md ops Q g s a w):
 ∀(f:Nat) (s:Array Bool) (a:Act) (w:World),C w→Br P md ops C n Z K f s a→wpAny P md ops Q (g+f) s a w:=by
 intro f;induction f with
 |zero=>exact fun s a w hw h=>hZ s a w h.1 hw h.2
 |succ f ih=>
  rintro s a w hw ⟨⟨i0,h0⟩,h⟩;refine⟨fun e=> ?_,fun i hi=>wpOp_of_qOp hw (fun a' w' WI hk=>ih _ _ _ WI hk) (h i hi).2⟩;rw[e]at h0;exact absurd h0 (by simp)
theorem Xn0{s:Array Bool}{oj:Oper}(aH:s.getD i true=false)(au:∀e∈oj.after,Region.binds md e=true→s.getD e.on false=true):∀e∈oj.after,Region.binds md e=true→e.on≠i:=by
 intro e he hb QK;have h:=au e he hb;rw[QK,getD_both aH]at h;exact absurd h (by simp)
theorem Xn8{oi:Oper}(hi:ops[i]?=some oi)(FX:Region.noSelect ops=true)(hs:Region.sinkB md ops n=true)(hc:Region.chainB md ops n=true)(hn:n<ops.size)(vM:i<n)
 (hZ:∀s,Z s→ ∀j∈Region.ready md ops s,n≤j):∀(f:Nat) (s:Array Bool) (a:Act),HeadInv md ops n s→
   (∀j oj,ops[j]?=some oj→j≠i→s.getD j true=false→(∀e∈oj.after,Region.binds md e=true→e.on≠i)→oi.apart ops oj=true)→
   i∈Region.ready md ops s→YieldsIn P ops C oi v a→Br P md ops C n Z K f (s.setIfInBounds i true) (a.put oi.dst v)→Br P md ops C n Z K (f+1) s a:=by
 intro f;induction f with
 |zero=>
  intro s a inv JA hr hy H;have aH:=(mem_ready.1 hr).1;refine⟨⟨i,hr⟩,fun j hj=> ?_⟩;by_cases Gs:j=i
  ·subst Gs;exact⟨vM,hy.qOp hi H⟩
  ·have h1:=hZ _ H.1 j (ready_mono hj Gs);exact absurd hj (tail_waits hs hc hn inv _ i rfl vM aH j h1)
 |succ f ih=>
  intro s a inv JA hr hy H;have aH:=(mem_ready.1 hr).1;refine⟨⟨i,hr⟩,fun j hj=> ?_⟩;have hjn:j<n:=Nat.lt_of_not_le fun h=>tail_waits hs hc hn inv _ i rfl vM aH j h hj;refine⟨hjn,?_⟩;by_cases Gs:j=i
  ·subst Gs;exact hy.qOp hi H
  obtain⟨WK,oj,dH,au⟩:=mem_ready.1 hj;have h2:=qOp_put dH (JA j oj dH Gs WK (Xn0 aH au)) (fun cs b=>Region.noSelect_spec FX i oi cs b hi) (fun cs b=>Region.noSelect_spec FX j oj cs b dH) hy (H.2 j (ready_mono hj Gs)).2;refine qOp_mono (fun a' h3=>ih _ a' (inv.set hj hjn) (fun k ok hk hki hku=>JA k ok hk hki ?_) (ready_mono hr (Ne.symm Gs)) h3.1 ?_) h2
  ·by_cases e:j=k
   ·subst e;exact WK
   ·rwa[getD_set_ne true e]at hku
  ·rw[Array.setIfInBounds_comm _ _ Gs];exact h3.2
theorem Xst(FX:Region.noSelect ops=true)(hs:Region.sinkB md ops n=true)(hc:Region.chainB md ops n=true)(hn:n<ops.size):
 ∀(l:List Oper) (k:Nat) (s:Array Bool) (a:Act),(∀j,j<l.length→l[j]?=ops[k+j]?)→k+l.length=n→HeadInv md ops n s→Region.lexHead md ops g l.length k s=true→
 wpQuiet P ops C K l a→Br P md ops C n (fun s=>Region.seqB md ops g n s=true) K l.length s a:=by
 intro l;induction l with
 |nil=>
  intro k s a _ hk _ hB h;simp only[List.length_nil,Nat.add_zero]at hk;subst hk;exact⟨hB,h⟩
 |cons o l ih=>
  intro k s a hl hk inv hB h;have h0:ops[k]?=some o:=by simpa using(hl 0 (by simp)).symm
  simp only[List.length_cons]at hk;simp only[List.length_cons,Region.lexHead,Bool.and_eq_true]at hB;have hr:k∈Region.ready md ops s:=by simpa using hB.1.1
  have hq:qOp P ops C k (wpQuiet P ops C K l) a:=by unfold qOp;rw[h0];exact h
  obtain⟨v,hy,hK⟩:=yieldsIn_of_qOp h0 hq;refine Xn8 h0 FX hs hc hn (by omega) (fun s hz=>seqB_ready hz) l.length s a inv (Region.free_spec h0 hB.1.2) hr hy ?_;refine ih (k+1) _ _ (fun j hj=> ?_) (by omega) (inv.set hr (by omega)) hB.2 hK;have:=hl (j+1) (by simp;omega);rw[List.getElem?_cons_succ]at this;rw[this,Nat.add_assoc,Nat.add_comm 1 j]
theorem Xe6{l:List Oper}(n:Nat)(hm:P.follows .mixedOrders=true)(hB:Region.lexTailB .any l.toArray n=true)(hC:C {w with drawn:=w.drawn+1})
 (h:wpQuiet P l.toArray C (fun a'=> ∀w',C w'→wpList P l.toArray Q (l.drop n) a' w') (l.take n) a):(Code.region id l.toArray true).wp P Q a w:=by
 simp only[Region.lexTailB,Bool.and_eq_true,decide_eq_true_eq]at hB;obtain⟨⟨⟨⟨FX,hn⟩,hs⟩,hc⟩,aeV⟩:=hB;have hn':n<l.length:=by simpa using hn
 have zu:(l.take n).length=n:=by simp;omega
 have Cw:(l.drop n).length=l.toArray.size-n:=by simp
 have inv0:HeadInv .any l.toArray n (Array.replicate l.toArray.size false):=by
  refine⟨by simp,fun j oj _ hl=> ?_,fun t _ ht=>getD_in (by simpa using ht) (getD_replicate_false _ _)⟩;rw[getD_replicate_false]at hl;exact absurd hl (by simp)
 have H:=Xst (P:=P) (C:=C) (md:= .any) (g:=l.toArray.size-n) FX hs hc hn (l.take n) 0 _ a (fun j hj=>by
  rw[zu]at hj;simp[hj]) (by omega) inv0 (by rw[zu];exact aeV) h
 have R:=Xss (Q:=Q) (g:=l.toArray.size-n) (fun s a' w' hz hw hk=>by
  have:=wpAny_of_seq (md:= .any) (Q':=Q) (l.drop n) n s a' w' (fun j=>by simp[List.getElem?_drop]) (by rw[Cw];exact hz) (hk w' hw);rwa[Cw]at this) _ _ _ _ hC H
 rw[zu,show l.toArray.size-n+n=l.toArray.size by omega]at R;exact wp_region_any hm R
theorem zI{l:List Oper}(n:Nat)(hm:P.follows .mixedOrders=true)(hB:Region.lexTailB .any l.toArray n=true)
 (h:wpQuiet P l.toArray (fun w'=> ∃p:Regrown,w'=grow (redrawn w p.d) p.os) (fun a'=> ∀w',(∃p:Regrown,w'=grow (redrawn w p.d) p.os)→wpList P l.toArray Q (l.drop n) a' w') (l.take n) a):(Code.region id l.toArray true).wp P Q a w:=
 Xe6 (C:=fun w'=> ∃p:Regrown,w'=grow (redrawn w p.d) p.os) n hm hB ⟨⟨w.drawn+1,#[]⟩,by rw[grow_empty];rfl⟩ h
theorem wpQuiet_load_row{Q:Act→Prop}{rest:List Oper}(Ak:o.guard=none)(ty:TypeId)(x:Operand)(ho:o.op= .load ty x)(g:Nat)(hx:a.eval x= .pointer (some ⟨g,0,none⟩))(t:TypeId)(cs:Array Value)(fr:Nat×Nat)(d:TypeDesc)
 (hg:∀w,C w→w.heap[g]?=some (.cells cs t fr)) (hu:P.underlying ty=some d) (hd:(match d with| .struct _| .array _ _=>true|_=>false)=true) (hi:(P.info? ty).map (·.size)=some cs.size) (h:wpQuiet P ops C Q rest (a.put o.dst (.agg cs))):wpQuiet P ops C Q (o::rest) a:=
 wpQuiet_step fun K hK=>by
  rw[if_pos (by simp[Region.wanted,Ak])];refine⟨.agg cs,fun w hw=> ?_,hK _ h⟩;unfold Oper.quietAt execOp;simp only[ho,hx,Instr.loadAt,Instr.sureAddr,Sem.run_bind,Sem.run_pure,Result.andThen_ok,run_loadVar_row w g t ty cs fr d (hg w hw) hu hd hi];exact⟨rfl,rfl⟩
theorem Xft{b:Nat}{o:Obj}(h:w.heap[b]?=some o)(w':World)(hw:∃p:Regrown,w'=grow (redrawn w p.d) p.os):w'.heap[b]?=some o:=by
 obtain⟨p,rfl⟩:=hw;exact((below_regrown w p.d p.os).block _ (Qg h)).trans h
end
def OV{α:Type}(T:Ty α)(I:IH)(w:World)(l:List α)(e:Ending)(w':World):Prop:=
 ∃v' I',e= .returned v'∧Below w.heap.size w w'∧Ext w.heap.size I I'∧Ok I' w'∧aZ T I' v' l
def Fx{α:Type}(T:Ty α)(I:IH)(w:World)(l:List α)(n:Int)(e:Ending)(w':World):Prop:=
 ∃v' I',e= .returned (.tuple #[v',.int .i64 n])∧Below w.heap.size w w'∧Ext w.heap.size I I'∧Ok I' w'∧aZ T I' v' l
theorem Iq:∀a:af,Op.bytesLess a a=false
 | []=>rfl
 |x::a=>by rw[Op.bytesLess,Iq a];simp
theorem Xk2:∀{a b c:af},Op.bytesLess a b=true→Op.bytesLess b c=true→Op.bytesLess a c=true
 |_,[],_,h,_=>by simp[Op.bytesLess]at h
 |_,_::_,[],_,h=>by simp[Op.bytesLess]at h
 | [],_::_,_::_,_,_=>rfl
 |x::a,y::b,z::c,h,k=>by
  simp only[Op.bytesLess,Bool.or_eq_true,Bool.and_eq_true,decide_eq_true_eq,beq_iff_eq]at h k ⊢;rcases h with h|⟨rfl,h⟩<;>rcases k with k|⟨rfl,k⟩
  ·exact .inl (UInt8.lt_trans h k)
  ·exact .inl h
  ·exact .inl k
  ·exact .inr ⟨rfl,Xk2 h k⟩
theorem Rz:∀(a b:af),Op.bytesLess a b=true∨a=b∨Op.bytesLess b a=true
 | [],[]=> .inr (.inl rfl)
 | [],_::_=> .inl rfl
 |_::_,[]=> .inr (.inr rfl)
 |x::a,y::b=>by
  simp only[Op.bytesLess,Bool.or_eq_true,Bool.and_eq_true,decide_eq_true_eq,beq_iff_eq,List.cons.injEq];by_cases h:x=y
  ·subst h;rcases Rz a b with h|h|h
   ·exact .inl (.inr ⟨rfl,h⟩)
   ·exact .inr (.inl ⟨rfl,h⟩)
   ·exact .inr (.inr (.inr ⟨rfl,h⟩))
  ·rcases UInt8.lt_or_lt_of_ne h with h|h
   ·exact .inl (.inl h)
   ·exact .inr (.inr (.inl h))
theorem RA{a:af}(h:Op.bytesLess a b=true):Op.bytesLess b a=false:=by
 cases k:Op.bytesLess b a
 ·rfl
 ·have:=Xk2 h k;rw[Iq]at this;exact absurd this (by simp)
theorem RB{a:af}(h:Op.bytesLess a b=true):a≠b:=by
 rintro rfl;rw[Iq]at h;exact absurd h (by simp)
section
variable {α:Type} {key:α→af}
def Srt(key:α→af)(l:List α):Prop:=l.Pairwise fun a b=>Op.bytesLess (key a) (key b)=true
end
structure At where
 k:af
 v:af
deriving DecidableEq
def cZ(c:UInt8):Bool:=decide (97≤c)&&decide (c≤122) || decide (48≤c)&&decide (c≤57) || c==46 || c==95 || c==45
def nI(s:af):Bool:=decide (1≤s.length)&&decide (s.length≤32)&&s.all cZ
def iB(x:At):Int:=if nI x.k=false then 7 else if 64<x.v.length then 6 else 0
def fE:Option At→List At→Int
 |_,[]=>0
 |p,x::l=>if iB x≠0 then iB x else if(p.any fun q=>q.k==x.k)then 8 else if(p.any fun q=>Op.bytesLess x.k q.k)then 14 else fE (some x) l
def oP(l:List At):Int:=if 16<l.length then 6 else fE none l
def alK(l:List At)(k:af):af×Bool:=match l.find? (fun x=>x.k==k)with|some x=>(x.v,true)|none=>([],false)
def alL(l:List At)(k:af):List At:=l.filter fun x=> !(x.k==k)
def Nc(x:At):Bool→List At→List At→List At
 |d,out,[]=>if d then out else out++[x]
 |d,out,y::l=>Nc x (d || !(Op.bytesLess y.k x.k)) ((if !d&& !(Op.bytesLess y.k x.k)then out++[x]else out)++(if y.k==x.k then []else [y])) l
def OW(l:List At)(x:At):List At:=Nc x false [] l
def Uj(a b:List At):List At:=b.foldl OW a
def alM(l:List At)(x:At):List At×Int:=if oP l≠0 then([],oP l)else if iB x≠0 then([],iB x)else if 16<(OW l x).length then([],6)else(OW l x,0)
def abg(a b:List At):List At×Int:=if oP a≠0 then([],oP a)else if oP b≠0 then([],oP b)else if 16<(Uj a b).length then([],6)else(Uj a b,0)
def abh(l:List At):Prop:=30<l.length∨ ∃x∈l,100<x.k.length∨100<x.v.length
structure Okl (l:List At):Prop where
 len:l.length≤16
 all:∀x∈l,iB x=0
 Ir:Srt At.k l
theorem Xl3:∀{A B:List af},A.Nodup→(∀x∈A,x∈B)→A.length≤B.length
 | [],_,_,_=>Nat.zero_le _
 |x::A,B,hn,hs=>by
  obtain⟨h1,h2⟩:=List.nodup_cons.1 hn;have hx:=hs x (List.mem_cons_self ..);have h3:=Xl3 (B:=B.erase x) h2 fun y hy=>(List.mem_erase_of_ne (a:=y) (b:=x) (fun e=>h1 (by rw[←e];exact hy))).2 (hs y (List.mem_cons_of_mem _ hy));rw[List.length_erase_of_mem hx]at h3;have:=List.length_pos_of_mem hx;simp only[List.length_cons];omega
theorem bL{A B:List At}(hA:Srt At.k A)(h:∀x∈A,∃y∈B,y.k=x.k):A.length≤B.length:=by
 have hn:(A.map At.k).Nodup:=List.pairwise_map.2 (hA.imp fun{a b} hab=>RB hab);have hs:∀k∈A.map At.k,k∈B.map At.k:=by
  intro k hk;obtain⟨x,hx,rfl⟩:=List.mem_map.1 hk;obtain⟨y,hy,e⟩:=h x hx;rw[←e];exact List.mem_map_of_mem hy
 simpa using Xl3 hn hs
def fJ:af→af→List af
 |p,[]=> [p]
 |p,c::s=>if c==47 then p::fJ [] s else fJ (p++[c]) s
def els(s:af):List af:=if s=[]then []else fJ [] s
def comp(s:af):Bool:=decide (1≤s.length)&&decide (s.length≤32)&&s !=[46]&&s !=[46,46]&&s.all cZ
def aW(s:af):Int:=if 200<s.length then 6 else if 8<(els s).length then 6 else if(els s).all comp then 0 else 7
def fT:List af→af
 | []=> []
 | [p]=>p
 |p::q::l=>p++47::fT (q::l)
def under(p d:af):Bool:=decide (aW p=0)&&decide (aW d=0)&&(els d).isPrefixOf (els p)
def kZ:List af→List af→Bool
 | [],[]=>false
 | [],_::_=>true
 |_::_,[]=>false
 |x::a,y::b=>Op.bytesLess x y || (x==y&&kZ a b)
theorem Xgm:∀a,kZ a a=false
 | []=>rfl
 |x::a=>by rw[kZ,Iq,Xgm a];simp
theorem OX:∀{a b c},kZ a b=true→kZ b c=true→kZ a c=true
 | [],[],_,h,_=>absurd h (by simp[kZ])
 | [],_::_,[],_,h=>absurd h (by simp[kZ])
 | [],_::_,_::_,_,_=>rfl
 |_::_,[],_,h,_=>absurd h (by simp[kZ])
 |_::_,_::_,[],_,h=>absurd h (by simp[kZ])
 |x::a,y::b,z::c,h,k=>by
  rw[kZ,Bool.or_eq_true,Bool.and_eq_true]at h k ⊢;rcases h with h|⟨h,h'⟩<;>rcases k with k|⟨k,k'⟩
  ·exact .inl (Xk2 h k)
  ·have e:y=z:=by simpa using k
   rw[←e];exact .inl h
  ·have e:x=y:=by simpa using h
   rw[e];exact .inl k
  ·have e:x=y:=by simpa using h
   rw[e];exact .inr ⟨k,OX h' k'⟩
theorem Xl5:∀a b,kZ a b=true∨a=b∨kZ b a=true
 | [],[]=> .inr (.inl rfl)
 | [],_::_=> .inl rfl
 |_::_,[]=> .inr (.inr rfl)
 |x::a,y::b=>by
  rcases Rz x y with h|h|h
  ·exact .inl (by rw[kZ,h];rfl)
  ·subst h;rcases Xl5 a b with k|k|k
   ·exact .inl (by rw[kZ,k];simp)
   ·exact .inr (.inl (by rw[k]))
   ·exact .inr (.inr (by rw[kZ,k];simp))
  ·exact .inr (.inr (by rw[kZ,h];rfl))
theorem XW{a b:List af}(h:kZ a b=true):kZ b a=false:=by
 cases k:kZ b a with
 |false=>rfl
 |true=>have:=OX h k;rw[Xgm]at this;exact absurd this (by simp)
theorem Uk{a b:List af}(h:kZ a b=true):a≠b:=fun e=>by
 rw[e,Xgm]at h;exact absurd h (by simp)
def jQ(a b:af):Int:=if kZ (els a) (els b)then -1 else if kZ (els b) (els a)then 1 else 0
theorem Xkv:∀(s p:af),fJ p s≠[]
 | [],p=>by simp[fJ]
 |c::s,p=>by
  rw[fJ];by_cases h:(c==47)=true
  ·rw[if_pos h];simp
  ·rw[if_neg h];exact Xkv s _
theorem Xta:els s=[]↔s=[]:=by
 unfold els;by_cases h:s=[]
 ·rw[if_pos h];simp[h]
 ·rw[if_neg h];simp[h,Xkv]
theorem Nf(p:af){l:List af}(h:l≠[]):fT (p::l)=p++47::fT l:=by
 cases l with
 |nil=>exact absurd rfl h
 |cons q l=>rfl
theorem Xfe:∀(s p:af),fT (fJ p s)=p++s
 | [],p=>by simp[fJ,fT]
 |c::s,p=>by
  rw[fJ];by_cases h:(c==47)=true
  ·rw[if_pos h,Nf _ (Xkv s []),Xfe s []];have:c=47:=by simpa using h
   simp[this]
  ·rw[if_neg h,Xfe s];simp
theorem XX(s:af):fT (els s)=s:=by
 unfold els;by_cases h:s=[]
 ·rw[if_pos h,h];rfl
 ·rw[if_neg h,Xfe];simp
theorem Xw4{a:af}(h:els a=els b):a=b:=by rw[←XX a,h,XX]
theorem Ul:∀(s p r:af),(∀c∈s,c≠47)→fJ p (s++r)=fJ (p++s) r
 | [],p,r,_=>by simp
 |c::s,p,r,h=>by
  have hc:¬(c==47)=true:=by simpa using h c (List.mem_cons_self ..)
  rw[List.cons_append,fJ,if_neg hc,Ul s _ _ fun x hx=>h x (List.mem_cons_of_mem _ hx)];simp
theorem Xiv:∀(l:List af),l≠[]→(∀p∈l,∀c∈p,c≠47)→fJ [] (fT l)=l
 | [],h,_=>absurd rfl h
 | [p],_,h=>by
   have:=Ul p [] [] (h p (by simp));rw[List.append_nil]at this;rw[fT,this];simp[fJ]
 |p::q::l,_,h=>by
  rw[Nf p (by simp),Ul p [] _ (h p (by simp)),List.nil_append,fJ,if_pos (by simp),Xiv (q::l) (by simp) fun x hx=>h x (List.mem_cons_of_mem _ hx)]
theorem Xtc{l:List af}(h:∀p∈l,∀c∈p,c≠47)(hn:fT l≠[]):els (fT l)=l:=by
 have hl:l≠[]:=fun e=>hn (by rw[e];rfl);rw[els,if_neg hn,Xiv l hl h]
theorem Xmz{p:af}(h:comp p=true):∀c∈p,c≠47:=by
 intro c hc e;simp only[comp,Bool.and_eq_true,List.all_eq_true]at h;have:=h.2 c hc;rw[e]at this;exact absurd this (by decide)
theorem Xw9{p:af}(h:comp p=true):p≠[]:=by
 intro e;rw[e]at h;exact absurd h (by decide)
theorem Iu(h:aW s=0):s.length≤200∧(els s).length≤8∧ ∀p∈els s,comp p=true:=by
 unfold aW at h;by_cases h1:200<s.length
 ·rw[if_pos h1]at h;omega
 ·rw[if_neg h1]at h;by_cases h2:8<(els s).length
  ·rw[if_pos h2]at h;omega
  ·rw[if_neg h2]at h;by_cases h3:(els s).all comp=true
   ·exact⟨by omega,by omega,by simpa using h3⟩
   ·rw[if_neg h3]at h;omega
structure Xt where
 s:Int
 o:Int
 n:Int
deriving DecidableEq
structure bD where
 av:Int
 aj:af
 ag:List At
 target:af
 size:Int
 aD:af
 aC:List Xt
deriving DecidableEq
variable{t:List bD}
def digits(s:af):Int:=s.foldl (fun n c=>10*n+((c.toNat:Int)-48)) 0
def il(s:af):Bool:=decide (1≤s.length)&&decide (s.length≤10)&& !(decide (1<s.length)&&s.head?==some 48)&&s.all (fun c=>decide (48≤c)&&decide (c≤57))&&decide (digits s≤1000000000)
def dx(e:bD):Bool:=if e.av=3 then decide (1≤e.target.length)&&decide (e.target.length≤200)else if e.av=5 then il e.target else e.target.isEmpty
def dQ(x:Xt):Bool:=decide (x.s<0) || decide (255<x.s) || decide (x.o<0) || decide (2147483647<x.o) || decide (x.n<1) || decide (65536<x.n) || (x.s==0&&x.o !=0)
def dL(file:Bool):List Xt→Int
 | []=>0
 |x::l=>if file=false then 1 else if dQ x then 2 else dL file l
def jG(l:List Xt):Int:=(l.map Xt.n).sum
def aX(e:bD):Int:=
 if e.av<1∨6<e.av then 10
 else if aW e.aj≠0 then aW e.aj
 else if e.aj=[]∧e.av<5 then 1
 else if oP e.ag≠0 then oP e.ag
 else if(e.ag≠[]∧3<e.av)∨dx e=false then 1
 else if e.size<0∨65536<e.size∨(e.av≠1∧e.size≠0)then 2
 else if(e.av=1∧e.aD.length≠32)∨(e.av≠1∧e.aD≠[])then 1
 else if dL (e.av==1) e.aC≠0 then dL (e.av==1) e.aC
 else if jG e.aC≠e.size then 1 else 0
def gu(t:List bD)(p:af):Option bD:=t.find? fun x=>x.aj==p
def dX(t:List bD)(p:af):Int:=if p=[]then 0 else match gu t p with|none=>9|some x=>if x.av≠2 then 10 else 0
def qA(p:af):af:=fT (els p).dropLast
def rz(t:List bD):Option bD→List bD→Int
 |_,[]=>0
 |q,x::l=>if aX x≠0 then aX x else if x.av≠1∧x.av≠2∧x.av≠3 then 10 else if(q.any fun y=> !(kZ (els y.aj) (els x.aj)))then 14 else if dX t (qA x.aj)≠0 then dX t (qA x.aj)else rz t (some x) l
def Um(t:List bD):Int:=rz t none t
def kP(t:List bD):Prop:=t.Pairwise fun x y=>kZ (els x.aj) (els y.aj)=true
structure Ng (t:List bD):Prop where
 OY:∀x∈t,aX x=0
 av:∀x∈t,x.av=1∨x.av=2∨x.av=3
 Ir:kP t
 up:∀x∈t,dX t (qA x.aj)=0
theorem Xod(t:List bD)(l:List bD):∀q:Option bD,rz t q l=0↔(∀x∈l,aX x=0∧(x.av=1∨x.av=2∨x.av=3)∧dX t (qA x.aj)=0)∧(∀y,q=some y→ ∀x∈l,kZ (els y.aj) (els x.aj)=true)∧kP l:=by
 induction l with
 |nil=>intro q;simp[rz,kP]
 |cons x l ih=>
  intro q;rw[rz];by_cases h0:aX x=0;case neg=>
   rw[if_pos h0];exact⟨fun h=>absurd h h0,fun h=>absurd (h.1 x (List.mem_cons_self ..)).1 h0⟩
  rw[if_neg (by omega)];by_cases h1:x.av=1∨x.av=2∨x.av=3;case neg=>
   rw[if_pos (by omega)];exact⟨fun h=>absurd h (by decide),fun h=>absurd (h.1 x (List.mem_cons_self ..)).2.1 h1⟩
  rw[if_neg (by omega)];by_cases h2:(q.any fun y=> !(kZ (els y.aj) (els x.aj)))=true
  ·rw[if_pos h2];refine⟨fun h=>absurd h (by decide),fun h=> ?_⟩;cases q with
   |none=>simp at h2
   |some y=>
    have:=h.2.1 y rfl x (List.mem_cons_self ..);simp[this]at h2
  rw[if_neg h2];have hq:∀y,q=some y→kZ (els y.aj) (els x.aj)=true:=by
   intro y hy;subst hy;simpa using h2
  by_cases h3:dX t (qA x.aj)=0;case neg=>
   rw[if_pos h3];exact⟨fun h=>absurd h h3,fun h=>absurd (h.1 x (List.mem_cons_self ..)).2.2 h3⟩
  rw[if_neg (by omega),ih];constructor
  ·rintro⟨a1,a2,a3⟩;refine⟨?_,?_,List.pairwise_cons.2 ⟨fun r hr=>a2 x rfl r hr,a3⟩⟩
   ·intro r hr;rcases List.mem_cons.1 hr with rfl|hr
    ·exact⟨h0,h1,h3⟩
    ·exact a1 r hr
   ·intro y hy r hr;rcases List.mem_cons.1 hr with rfl|hr
    ·exact hq y hy
    ·exact OX (hq y hy) (a2 x rfl r hr)
  ·rintro⟨a1,_,a3⟩;obtain⟨b1,b2⟩:=List.pairwise_cons.1 a3;exact⟨fun r hr=>a1 r (List.mem_cons_of_mem _ hr),fun y hy r hr=>by cases hy;exact b1 r hr,b2⟩
theorem Xxe(t:List bD):Um t=0↔Ng t:=by
 unfold Um;rw[Xod];constructor
 ·rintro⟨a1,_,a3⟩;exact⟨fun x hx=>(a1 x hx).1,fun x hx=>(a1 x hx).2.1,a3,fun x hx=>(a1 x hx).2.2⟩
 ·rintro⟨b1,b2,b3,b4⟩;exact⟨fun x hx=>⟨b1 x hx,b2 x hx,b4 x hx⟩,by simp,b3⟩
theorem kP.key(h:kP t){x y:bD}(hx:x∈t)(hy:y∈t)(e:x.aj=y.aj):x=y:=by
 induction t with
 |nil=>cases hx
 |cons z l ih=>
  obtain⟨h1,h2⟩:=List.pairwise_cons.1 h;rcases List.mem_cons.1 hx with hx|hx<;>rcases List.mem_cons.1 hy with hy|hy
  ·rw[hx,hy]
  ·exact absurd (by rw[←hx,e]) (Uk (h1 y hy))
  ·exact absurd (by rw[←hy,e]) (Uk (h1 x hx))
  ·exact ih h2 hx hy
theorem kP.ext:∀{A B:List bD},kP A→kP B→(∀x,x∈A↔x∈B)→A=B
 | [],[],_,_,_=>rfl
 | [],b::B,_,_,h=>absurd ((h b).2 (List.mem_cons_self ..)) (by simp)
 |a::A,[],_,_,h=>absurd ((h a).1 (List.mem_cons_self ..)) (by simp)
 |a::A,b::B,hA,hB,h=>by
  obtain⟨a1,a2⟩:=List.pairwise_cons.1 hA;obtain⟨b1,b2⟩:=List.pairwise_cons.1 hB;have e:a=b:=by
   rcases List.mem_cons.1 ((h a).1 (List.mem_cons_self ..))with e|hab
   ·exact e
   ·rcases List.mem_cons.1 ((h b).2 (List.mem_cons_self ..))with e|xw
    ·exact e.symm
    ·have k:=XW (a1 b xw);rw[b1 a hab]at k;exact absurd k (by simp)
  subst e;rw[kP.ext a2 b2 fun x=> ?_];have hx:=h x;rw[List.mem_cons,List.mem_cons]at hx;constructor
  ·intro hm;rcases hx.1 (.inr hm)with e|hm'
   ·subst e;exact absurd rfl (Uk (a1 x hm))
   ·exact hm'
  ·intro hm;rcases hx.2 (.inr hm)with e|hm'
   ·subst e;exact absurd rfl (Uk (b1 x hm))
   ·exact hm'
theorem XY(h:kP t){x:bD}(hx:x∈t):gu t x.aj=some x:=by
 unfold gu;cases hf:t.find? (fun y=>y.aj==x.aj)with
 |none=>have:=List.find?_eq_none.1 hf x hx;simp at this
 |some y=>
  have h1:=List.find?_some hf;rw[h.key (List.mem_of_find?_eq_some hf) hx (by simpa using h1)]
theorem Xmg{p:af}{x:bD}(h:gu t p=some x):x∈t∧x.aj=p:=⟨List.mem_of_find?_eq_some h,by have:=List.find?_some h;simpa using this⟩
theorem Xsv{p:af}(h:∀x∈t,x.aj≠p):gu t p=none:=List.find?_eq_none.2 fun x hx=>by simpa using h x hx
