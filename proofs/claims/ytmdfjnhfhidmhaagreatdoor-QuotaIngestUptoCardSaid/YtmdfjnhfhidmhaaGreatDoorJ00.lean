/- Lemmas for the claim's theorem;conditions: as each says. -/
import Derived.WalkKit
import Derived.WalkSpells
import Derived.WalkLawsBesides
import Derived.Lib.Hide
import Derived.Lib.QuietBelow
import Derived.Deep.QuietTactic
import Derived.BigQuiet
import Derived.Laws.StructEq
import Derived.StillTail
import Derived.Lib.SplitLaws
import Derived.Lib.Join
import Derived.Laws.RangeAny
import Derived.Shelf.GgClosure.StringsIndexFunc
import Derived.Test.YtmdfjnhfhidmhaaGreatDoorRows
set_option maxHeartbeats 0
set_option maxRecDepth 100000
set_option linter.all false
namespace Go.RowKit
theorem Hid.O{p:Prop}(h:Hid p):p:=h.out
end Go.RowKit
namespace Go.Proofs.YtmdfjnhfhidmhaaGreatDoor
open Go.RowKit
variable{v:Value}{w:World}{i:Nat}{α:Type}{P:Program}{a:Act}{Q:Exit→Act→World→Prop}{w' w0:World}{n B:Nat}{W:World}{ts te:TypeId}{bytes:Nat}{o:Oper}{K:Act→Prop}{d:Int}{ops:Array Oper}{E:TypeId}{g:Nat}{Z:Array Bool→Prop}{id:Nat}
theorem Qi{a:Array α}{x:α}(h:a[i]?=some x): ∃h:i<a.size,a[i]=x:=Array.getElem?_eq_some_iff.1 h
theorem Qg{a:Array α}{x:α}(h:a[i]?=some x):i<a.size:=(Array.getElem?_eq_some_iff.1 h).1
theorem Qh{p:Prop}(h:p):Hid p:=h
theorem Qn(n:Nat):n≤n:=Nat.le_refl n
theorem Qb(n:Nat)(w:World):Below n w w:=Below.refl n w
theorem Qt{p:Prop}[Decidable p](h:p):decide p=true:=decide_eq_true h
theorem Qf{p:Prop}[Decidable p](h:¬p):decide p=false:=decide_eq_false h
abbrev af:=List UInt8
variable{p s b r:af}
abbrev S(l:af):Value:= .string ⟨l.toArray⟩
abbrev IH:=Nat→Option (Array Value)
variable{I:IH}
def Ok(I:IH)(w:World):Prop:=∀b c,I b=some c→ ∃e f,w.heap[b]?=some (.cells c e f)
def Ext(n:Nat)(I I':IH):Prop:=∀b,b<n→I' b=I b
def IH.add(I:IH)(b:Nat)(c:Array Value):IH:=fun k=>if k=b then some c else I k
section
variable {I I' Ul:IH} {w w':World} {b n m:Nat} {c:Array Value}
theorem Ok.lt(h:Ok I w)(hb:I b=some c):b<w.heap.size:=by
 obtain⟨e,f,hh⟩:=h b c hb;exact(Qg hh)
theorem Ok.fresh(h:Ok I w)(hb:w.heap.size≤b):I b=none:=by
 cases hc:I b with
 |none=>rfl
 |some c=>have:=h.lt hc;omega
theorem Ok.cell(h:Ok I w)(hb:I b=some c)(j:Nat):w.cell? ⟨b,j,none⟩=c[j]? :=by
 obtain⟨e,f,hh⟩:=h b c hb;simp[World.cell?,hh]
theorem Ok.of_block(h:Ok I w)(k:∀b c,I b=some c→w'.heap[b]?=w.heap[b]?):Ok I w':=fun b c hb=>by
 rw[k b c hb];exact h b c hb
theorem Ok.below(h:Ok I w)(hB:w.heap.size≤B)(hb:Below B w w'):Ok I w':=
 h.of_block fun b _ hc=>hb.block b (Nat.lt_of_lt_of_le (h.lt hc) hB)
theorem Ok.drew(h:Ok I w):Ok I w.drew:=h
theorem Ok.alloc(h:Ok I w)(o:Obj):Ok I (w.alloc o):=h.of_block fun b _ hc=>Below.heap_alloc w o b (h.lt hc)
theorem Ok.setCell(h:Ok I w){a:Addr}(ha:I a.block=none)(u:Value):Ok I (w.setCell a u):=h.of_block fun b _ hc=>
 Below.heap_setCell w a u b (fun e=>by subst e;rw[ha]at hc;cases hc)
theorem Ok.grown(h:Ok I w){row:Option Nat}(hg:w.grownBy w' row)(hr:∀g,row=some g→I g=none):Ok I w':=h.of_block fun b _ hc=>
 hg.block b (h.lt hc) (fun e=>by have:=hr b e.symm;rw[this]at hc;cases hc)
theorem Ok.add{e:TypeId}{f:Nat×Nat}(h:Ok I w)(hb:w.heap[b]?=some (.cells c e f)):Ok (I.add b c) w:=fun k d hk=>by
 unfold IH.add at hk;split at hk
 ·rename_i e';subst e';cases hk;exact⟨e,f,hb⟩
 ·exact h k d hk
theorem Ext.refl(n:Nat)(I:IH):Ext n I I:=fun _ _=>rfl
theorem Ext.trans(h:Ext n I I')(k:Ext m I' Ul)(hm:n≤m):Ext n I Ul:=fun b hb=>(k b (by omega)).trans (h b hb)
theorem Ext.mono(h:Ext n I I')(hm:m≤n):Ext m I I':=fun b hb=>h b (by omega)
theorem Ext.add(hb:n≤b)(I:IH)(c:Array Value):Ext n I (I.add b c):=fun k hk=>by
 unfold IH.add;rw[if_neg (by omega)]
theorem Ext.keep(h:Ext n I I')(iQ:Ok I w)(hn:w.heap.size≤n):∀b c,I b=some c→I' b=some c:=fun b c hc=>by
 rw[h b (Nat.lt_of_lt_of_le (iQ.lt hc) hn)];exact hc
end
structure Ty (α:Type) where
 size:Nat
 rd:IH→List Value→α→Prop
 len:∀{I cs x},rd I cs x→cs.length=size
 one:∀{I cs x},rd I cs x→ ∀u∈cs,u.oneCell'=true
 mono:∀{I I':IH} {cs x},(∀b c,I b=some c→I' b=some c)→rd I cs x→rd I' cs x
variable{T:Ty α}
def Ty.flat{α:Type}(size:Nat)(enc:α→List Value)(hl:∀x,(enc x).length=size)(h1:∀x,∀u∈enc x,u.oneCell'=true):Ty α where
 size:=size
 rd:=fun _ cs x=>cs=enc x
 len:=fun h=>by rw[h];exact hl _
 one:=fun h=>by rw[h];exact h1 _
 mono:=fun _ h=>h
def PU(k:IntKind):Ty Int:=Ty.flat 1 (fun n=> [.int k n]) (fun _=>rfl) (fun _ u h=>by simp at h;subst h;rfl)
def iE:Ty af:=Ty.flat 1 (fun s=> [S s]) (fun _=>rfl) (fun _ u h=>by simp at h;subst h;rfl)
def Ex{α:Type}(T:Ty α)(I:IH)(arr:Array Value)(off:Nat)(l:List α):Prop:=
 ∀i (h:i<l.length),∃cs,T.rd I cs l[i]∧ ∀j u,cs[j]?=some u→arr[off+(i*T.size+j)]?=some u
def aZ{α:Type}(T:Ty α)(I:IH)(v:Value)(l:List α):Prop:=
 ∃(ao:Option Addr) (cap:Nat),v= .slice ao l.length cap∧l.length≤cap∧cap≤maxLen∧
  (0<l.length→ ∃b off arr,ao=some ⟨b,off,none⟩∧I b=some arr∧Ex T I arr off l)
section
variable {α:Type} {T:Ty α} {I I':IH} {w:World} {v:Value} {l:List α}
theorem Ex.mono{arr:Array Value}{off:Nat}(hI:∀b c,I b=some c→I' b=some c)(h:Ex T I arr off l):Ex T I' arr off l:=fun i hi=>
 let ⟨cs,h1,h2⟩:=h i hi
 ⟨cs,T.mono hI h1,h2⟩
theorem aZ.mono(hI:∀b c,I b=some c→I' b=some c)(h:aZ T I v l):aZ T I' v l:=by
 obtain⟨ao,cap,hv,h1,h2,h3⟩:=h;refine⟨ao,cap,hv,h1,h2,fun hl=> ?_⟩;obtain⟨b,off,arr,e1,e2,e3⟩:=h3 hl;exact⟨b,off,arr,e1,hI _ _ e2,e3.mono hI⟩
theorem aZ.nil(T:Ty α)(I:IH):aZ T I (.slice none 0 0) []:=⟨none,0,rfl,Qn _,Nat.zero_le _,fun h=>absurd h (by simp)⟩
theorem aZ.one{v:Value}(h:aZ T I v l):v.oneCell'=true:=by
 obtain⟨ao,cap,rfl,_⟩:=h;rfl
def tSl(T:Ty α):Ty (List α) where
 size:=1
 rd:=fun I cs l=> ∃v,cs=[v]∧aZ T I v l
 len:=fun⟨v,h,_⟩=>by rw[h];rfl
 one:=fun⟨v,h,k⟩ u hu=>by rw[h]at hu;simp at hu;subst hu;exact k.one
 mono:=fun hI ⟨v,h,k⟩=>⟨v,h,k.mono hI⟩
theorem aZ.at_(h:aZ T I v l)(hw:Ok I w)(hi:i<l.length):∃b off cap cs,v= .slice (some ⟨b,off,none⟩) l.length cap∧T.rd I cs l[i]∧
 ∀j u,cs[j]?=some u→w.cell? ⟨b,off+i*T.size+j,none⟩=some u:=by
 obtain⟨ao,cap,hv,h1,h2,h3⟩:=h;obtain⟨b,off,arr,rfl,e2,e3⟩:=h3 (by omega);obtain⟨cs,k1,k2⟩:=e3 i hi;exact⟨b,off,cap,cs,hv,k1,fun j u hu=>by rw[hw.cell e2,Nat.add_assoc];exact k2 j u hu⟩
theorem aZ.bF(h:aZ T I v l):l.length≤9223372036854775807:=by
 obtain⟨ao,cap,hv,h1,h2,h3⟩:=h;unfold maxLen at h2;omega
end
@[go_sem] theorem mk_append_mk (x y:af):(ByteArray.mk x.toArray++ByteArray.mk y.toArray)=ByteArray.mk (x++y).toArray:=ByteArray.mk_append_mk x y
@[go_sem] theorem Ll (x:af) (a b:Nat):(ByteArray.mk x.toArray).extract a b=ByteArray.mk ((x.drop a).take (b-a)).toArray:=by
  apply ByteArray.ext;simp[ByteArray.data_extract]
theorem PV{a:af}(h:a=b):Ending.returned (S a)= .returned (S b):=by rw[h]
theorem di{k:IntKind}{a b:Int}(h:a=b):Ending.returned (.int k a)= .returned (.int k b):=by rw[h]
theorem ib{a b:Bool}(h:a=b):Ending.returned (.bool a)= .returned (.bool b):=by rw[h]
@[go_sem] def PW (d:Nat) (xs ys:Array Value):List (TypeId×Nat×Bool)→Sem Bool
  | []=>pure true
  |(t,o,b)::fs=>if b then PW d xs ys fs else do
     let a ←part t xs o
     let b ←part t ys o
     let r ←Op.equalIn d t a b
     if(!r)=true then pure false else PW d xs ys fs
theorem WH(d : Nat)(xs ys : Array Value) : ∀fs : List Field,Op.eqFields d xs ys fs=PW d xs ys (fs.map fun f=> (f.type,f.offset,f.name== "_"))
 | []=>rfl
 |f::fs=>by
  simp only[Op.eqFields,List.map_cons,PW,WH d xs ys fs];by_cases h : f.name= "_" <;> simp[h]
theorem PX{t:TypeId}(xs ys:Array Value)(L:List (TypeId×Nat×Bool))(W:World)(h1:P.underlying t=some (.struct (P.fieldsOf t)))(h2:P.stoodInHeld t=false)
 (hL : (P.fieldsOf t).toList.map (fun f=> (f.type,f.offset,f.name== "_"))=L) :
 (binOp .neq t (.agg xs) (.agg ys)).run P W=((PW 9999 xs ys L).run P W).andThen fun b w'=> .ok (.bool (!b)) w':=by
 rw[run_neq_struct,show(10000:Nat)=9999+1 from rfl,run_equalIn_agg _ _ _ _ _ h1 h2,WH,hL]
theorem zU:∀a:af,Op.bytesLess a a=false
 | []=>rfl
 |x::a=>by rw[Op.bytesLess,zU a];simp
theorem PY:∀{a b c:af},Op.bytesLess a b=true→Op.bytesLess b c=true→Op.bytesLess a c=true
 |_,[],_,h,_=>by simp[Op.bytesLess]at h
 |_,_::_,[],_,h=>by simp[Op.bytesLess]at h
 | [],_::_,_::_,_,_=>rfl
 |x::a,y::b,z::c,h,k=>by
  simp only[Op.bytesLess,Bool.or_eq_true,Bool.and_eq_true,decide_eq_true_eq,beq_iff_eq]at h k ⊢;rcases h with h|⟨rfl,h⟩<;>rcases k with k|⟨rfl,k⟩
  ·exact .inl (UInt8.lt_trans h k)
  ·exact .inl h
  ·exact .inl k
  ·exact .inr ⟨rfl,PY h k⟩
theorem Lm:∀(a b:af),Op.bytesLess a b=true∨a=b∨Op.bytesLess b a=true
 | [],[]=> .inr (.inl rfl)
 | [],_::_=> .inl rfl
 |_::_,[]=> .inr (.inr rfl)
 |x::a,y::b=>by
  simp only[Op.bytesLess,Bool.or_eq_true,Bool.and_eq_true,decide_eq_true_eq,beq_iff_eq,List.cons.injEq];by_cases h:x=y
  ·subst h;rcases Lm a b with h|h|h
   ·exact .inl (.inr ⟨rfl,h⟩)
   ·exact .inr (.inl ⟨rfl,h⟩)
   ·exact .inr (.inr (.inr ⟨rfl,h⟩))
  ·rcases UInt8.lt_or_lt_of_ne h with h|h
   ·exact .inl (.inl h)
   ·exact .inr (.inr (.inl h))
theorem OP{a:af}(h:Op.bytesLess a b=true):Op.bytesLess b a=false:=by
 cases k:Op.bytesLess b a
 ·rfl
 ·have:=PY h k;rw[zU]at this;exact absurd this (by simp)
theorem OQ{a:af}(h:Op.bytesLess a b=true):a≠b:=by
 rintro rfl;rw[zU]at h;exact absurd h (by simp)
section
variable {α:Type} {key:α→af}
def Srt(key:α→af)(l:List α):Prop:=l.Pairwise fun a b=>Op.bytesLess (key a) (key b)=true
end
structure At where
 k:af
 v:af
deriving DecidableEq
def bJ(c:UInt8):Bool:=decide (97≤c)&&decide (c≤122) || decide (48≤c)&&decide (c≤57) || c==46 || c==95 || c==45
def lG(s:af):Bool:=decide (1≤s.length)&&decide (s.length≤32)&&s.all bJ
def fQ(x:At):Int:=if lG x.k=false then 7 else if 64<x.v.length then 6 else 0
def dW:Option At→List At→Int
 |_,[]=>0
 |p,x::l=>if fQ x≠0 then fQ x else if(p.any fun q=>q.k==x.k)then 8 else if(p.any fun q=>Op.bytesLess x.k q.k)then 14 else dW (some x) l
def mK(l:List At):Int:=if 16<l.length then 6 else dW none l
def aiP(l:List At)(k:af):af×Bool:=match l.find? (fun x=>x.k==k)with|some x=>(x.v,true)|none=>([],false)
def aiQ(l:List At)(k:af):List At:=l.filter fun x=> !(x.k==k)
def JN(x:At):Bool→List At→List At→List At
 |d,out,[]=>if d then out else out++[x]
 |d,out,y::l=>JN x (d || !(Op.bytesLess y.k x.k)) ((if !d&& !(Op.bytesLess y.k x.k)then out++[x]else out)++(if y.k==x.k then []else [y])) l
def Lp(l:List At)(x:At):List At:=JN x false [] l
def PZ(a b:List At):List At:=b.foldl Lp a
def aiR(l:List At)(x:At):List At×Int:=if mK l≠0 then([],mK l)else if fQ x≠0 then([],fQ x)else if 16<(Lp l x).length then([],6)else(Lp l x,0)
def WI(a b:List At):List At×Int:=if mK a≠0 then([],mK a)else if mK b≠0 then([],mK b)else if 16<(PZ a b).length then([],6)else(PZ a b,0)
def WJ(l:List At):Prop:=30<l.length∨ ∃x∈l,100<x.k.length∨100<x.v.length
structure Okl (l:List At):Prop where
 len:l.length≤16
 all:∀x∈l,fQ x=0
 BN:Srt At.k l
theorem Xk9:∀{A B:List af},A.Nodup→(∀x∈A,x∈B)→A.length≤B.length
 | [],_,_,_=>Nat.zero_le _
 |x::A,B,hn,hs=>by
  obtain⟨h1,h2⟩:=List.nodup_cons.1 hn;have hx:=hs x (List.mem_cons_self ..);have h3:=Xk9 (B:=B.erase x) h2 fun y hy=>(List.mem_erase_of_ne (a:=y) (b:=x) (fun e=>h1 (by rw[←e];exact hy))).2 (hs y (List.mem_cons_of_mem _ hy));rw[List.length_erase_of_mem hx]at h3;have:=List.length_pos_of_mem hx;simp only[List.length_cons];omega
theorem bF{A B:List At}(hA:Srt At.k A)(h:∀x∈A,∃y∈B,y.k=x.k):A.length≤B.length:=by
 have hn:(A.map At.k).Nodup:=List.pairwise_map.2 (hA.imp fun{a b} hab=>OQ hab);have hs:∀k∈A.map At.k,k∈B.map At.k:=by
  intro k hk;obtain⟨x,hx,rfl⟩:=List.mem_map.1 hk;obtain⟨y,hy,e⟩:=h x hx;rw[←e];exact List.mem_map_of_mem hy
 simpa using Xk9 hn hs
def dR:af→af→List af
 |p,[]=> [p]
 |p,c::s=>if c==47 then p::dR [] s else dR (p++[c]) s
def els(s:af):List af:=if s=[]then []else dR [] s
def comp(s:af):Bool:=decide (1≤s.length)&&decide (s.length≤32)&&s !=[46]&&s !=[46,46]&&s.all bJ
def aO(s:af):Int:=if 200<s.length then 6 else if 8<(els s).length then 6 else if(els s).all comp then 0 else 7
def dY:List af→af
 | []=> []
 | [p]=>p
 |p::q::l=>p++47::dY (q::l)
def under(p d:af):Bool:=decide (aO p=0)&&decide (aO d=0)&&(els d).isPrefixOf (els p)
def jO:List af→List af→Bool
 | [],[]=>false
 | [],_::_=>true
 |_::_,[]=>false
 |x::a,y::b=>Op.bytesLess x y || (x==y&&jO a b)
theorem WK:∀a,jO a a=false
 | []=>rfl
 |x::a=>by rw[jO,zU,WK a];simp
theorem Lr:∀{a b c},jO a b=true→jO b c=true→jO a c=true
 | [],[],_,h,_=>absurd h (by simp[jO])
 | [],_::_,[],_,h=>absurd h (by simp[jO])
 | [],_::_,_::_,_,_=>rfl
 |_::_,[],_,h,_=>absurd h (by simp[jO])
 |_::_,_::_,[],_,h=>absurd h (by simp[jO])
 |x::a,y::b,z::c,h,k=>by
  rw[jO,Bool.or_eq_true,Bool.and_eq_true]at h k ⊢;rcases h with h|⟨h,h'⟩<;>rcases k with k|⟨k,k'⟩
  ·exact .inl (PY h k)
  ·have e:y=z:=by simpa using k
   rw[←e];exact .inl h
  ·have e:x=y:=by simpa using h
   rw[e];exact .inl k
  ·have e:x=y:=by simpa using h
   rw[e];exact .inr ⟨k,Lr h' k'⟩
theorem Xlb:∀a b,jO a b=true∨a=b∨jO b a=true
 | [],[]=> .inr (.inl rfl)
 | [],_::_=> .inl rfl
 |_::_,[]=> .inr (.inr rfl)
 |x::a,y::b=>by
  rcases Lm x y with h|h|h
  ·exact .inl (by rw[jO,h];rfl)
  ·subst h;rcases Xlb a b with k|k|k
   ·exact .inl (by rw[jO,k];simp)
   ·exact .inr (.inl (by rw[k]))
   ·exact .inr (.inr (by rw[jO,k];simp))
  ·exact .inr (.inr (by rw[jO,h];rfl))
theorem Um{a b:List af}(h:jO a b=true):jO b a=false:=by
 cases k:jO b a with
 |false=>rfl
 |true=>have:=Lr h k;rw[WK]at this;exact absurd this (by simp)
theorem P5{a b:List af}(h:jO a b=true):a≠b:=fun e=>by
 rw[e,WK]at h;exact absurd h (by simp)
def iU(a b:af):Int:=if jO (els a) (els b)then -1 else if jO (els b) (els a)then 1 else 0
theorem WL:∀(s p:af),dR p s≠[]
 | [],p=>by simp[dR]
 |c::s,p=>by
  rw[dR];by_cases h:(c==47)=true
  ·rw[if_pos h];simp
  ·rw[if_neg h];exact WL s _
theorem Xsj:els s=[]↔s=[]:=by
 unfold els;by_cases h:s=[]
 ·rw[if_pos h];simp[h]
 ·rw[if_neg h];simp[h,WL]
theorem JO(p:af){l:List af}(h:l≠[]):dY (p::l)=p++47::dY l:=by
 cases l with
 |nil=>exact absurd rfl h
 |cons q l=>rfl
theorem WM:∀(s p:af),dY (dR p s)=p++s
 | [],p=>by simp[dR,dY]
 |c::s,p=>by
  rw[dR];by_cases h:(c==47)=true
  ·rw[if_pos h,JO _ (WL s []),WM s []];have:c=47:=by simpa using h
   simp[this]
  ·rw[if_neg h,WM s];simp
theorem P6(s:af):dY (els s)=s:=by
 unfold els;by_cases h:s=[]
 ·rw[if_pos h,h];rfl
 ·rw[if_neg h,WM];simp
theorem Xwk{a:af}(h:els a=els b):a=b:=by rw[←P6 a,h,P6]
theorem P7:∀(s p r:af),(∀c∈s,c≠47)→dR p (s++r)=dR (p++s) r
 | [],p,r,_=>by simp
 |c::s,p,r,h=>by
  have hc:¬(c==47)=true:=by simpa using h c (List.mem_cons_self ..)
  rw[List.cons_append,dR,if_neg hc,P7 s _ _ fun x hx=>h x (List.mem_cons_of_mem _ hx)];simp
theorem Xh3:∀(l:List af),l≠[]→(∀p∈l,∀c∈p,c≠47)→dR [] (dY l)=l
 | [],h,_=>absurd rfl h
 | [p],_,h=>by
   have:=P7 p [] [] (h p (by simp));rw[List.append_nil]at this;rw[dY,this];simp[dR]
 |p::q::l,_,h=>by
  rw[JO p (by simp),P7 p [] _ (h p (by simp)),List.nil_append,dR,if_pos (by simp),Xh3 (q::l) (by simp) fun x hx=>h x (List.mem_cons_of_mem _ hx)]
theorem Xsl{l:List af}(h:∀p∈l,∀c∈p,c≠47)(hn:dY l≠[]):els (dY l)=l:=by
 have hl:l≠[]:=fun e=>hn (by rw[e];rfl);rw[els,if_neg hn,Xh3 l hl h]
theorem Xl3(h:comp p=true):∀c∈p,c≠47:=by
 intro c hc e;simp only[comp,Bool.and_eq_true,List.all_eq_true]at h;have:=h.2 c hc;rw[e]at this;exact absurd this (by decide)
theorem Xwp(h:comp p=true):p≠[]:=by
 intro e;rw[e]at h;exact absurd h (by decide)
theorem Ey(h:aO s=0):s.length≤200∧(els s).length≤8∧ ∀p∈els s,comp p=true:=by
 unfold aO at h;by_cases h1:200<s.length
 ·rw[if_pos h1]at h;omega
 ·rw[if_neg h1]at h;by_cases h2:8<(els s).length
  ·rw[if_pos h2]at h;omega
  ·rw[if_neg h2]at h;by_cases h3:(els s).all comp=true
   ·exact⟨by omega,by omega,by simpa using h3⟩
   ·rw[if_neg h3]at h;omega
structure Xt where
 s:Int
 o:Int
 n:Int
deriving DecidableEq
structure aT where
 au:Int
 ag:af
 aj:List At
 target:af
 size:Int
 av:af
 aA:List Xt
deriving DecidableEq
variable{t:List aT}{e x y:aT}
def digits(s:af):Int:=s.foldl (fun n c=>10*n+((c.toNat:Int)-48)) 0
def fK(s:af):Bool:=decide (1≤s.length)&&decide (s.length≤10)&& !(decide (1<s.length)&&s.head?==some 48)&&s.all (fun c=>decide (48≤c)&&decide (c≤57))&&decide (digits s≤1000000000)
def bO(e:aT):Bool:=if e.au=3 then decide (1≤e.target.length)&&decide (e.target.length≤200)else if e.au=5 then fK e.target else e.target.isEmpty
def dh(x:Xt):Bool:=decide (x.s<0) || decide (255<x.s) || decide (x.o<0) || decide (2147483647<x.o) || decide (x.n<1) || decide (65536<x.n) || (x.s==0&&x.o !=0)
def bW(file:Bool):List Xt→Int
 | []=>0
 |x::l=>if file=false then 1 else if dh x then 2 else bW file l
def iI(l:List Xt):Int:=(l.map Xt.n).sum
def aP(e:aT):Int:=
 if e.au<1∨6<e.au then 10
 else if aO e.ag≠0 then aO e.ag
 else if e.ag=[]∧e.au<5 then 1
 else if mK e.aj≠0 then mK e.aj
 else if(e.aj≠[]∧3<e.au)∨bO e=false then 1
 else if e.size<0∨65536<e.size∨(e.au≠1∧e.size≠0)then 2
 else if(e.au=1∧e.av.length≠32)∨(e.au≠1∧e.av≠[])then 1
 else if bW (e.au==1) e.aA≠0 then bW (e.au==1) e.aA
 else if iI e.aA≠e.size then 1 else 0
def ek(t:List aT)(p:af):Option aT:=t.find? fun x=>x.ag==p
def dm(t:List aT)(p:af):Int:=if p=[]then 0 else match ek t p with|none=>9|some x=>if x.au≠2 then 10 else 0
def nZ(p:af):af:=dY (els p).dropLast
def oJ(t:List aT):Option aT→List aT→Int
 |_,[]=>0
 |q,x::l=>if aP x≠0 then aP x else if x.au≠1∧x.au≠2∧x.au≠3 then 10 else if(q.any fun y=> !(jO (els y.ag) (els x.ag)))then 14 else if dm t (nZ x.ag)≠0 then dm t (nZ x.ag)else oJ t (some x) l
def P8(t:List aT):Int:=oJ t none t
def jD(t:List aT):Prop:=t.Pairwise fun x y=>jO (els x.ag) (els y.ag)=true
structure JP (t:List aT):Prop where
 Ls:∀x∈t,aP x=0
 au:∀x∈t,x.au=1∨x.au=2∨x.au=3
 BN:jD t
 up:∀x∈t,dm t (nZ x.ag)=0
theorem Xnj(t:List aT)(l:List aT):∀q:Option aT,oJ t q l=0↔(∀x∈l,aP x=0∧(x.au=1∨x.au=2∨x.au=3)∧dm t (nZ x.ag)=0)∧(∀y,q=some y→ ∀x∈l,jO (els y.ag) (els x.ag)=true)∧jD l:=by
 induction l with
 |nil=>intro q;simp[oJ,jD]
 |cons x l ih=>
  intro q;rw[oJ];by_cases h0:aP x=0;case neg=>
   rw[if_pos h0];exact⟨fun h=>absurd h h0,fun h=>absurd (h.1 x (List.mem_cons_self ..)).1 h0⟩
  rw[if_neg (by omega)];by_cases h1:x.au=1∨x.au=2∨x.au=3;case neg=>
   rw[if_pos (by omega)];exact⟨fun h=>absurd h (by decide),fun h=>absurd (h.1 x (List.mem_cons_self ..)).2.1 h1⟩
  rw[if_neg (by omega)];by_cases h2:(q.any fun y=> !(jO (els y.ag) (els x.ag)))=true
  ·rw[if_pos h2];refine⟨fun h=>absurd h (by decide),fun h=> ?_⟩;cases q with
   |none=>simp at h2
   |some y=>
    have:=h.2.1 y rfl x (List.mem_cons_self ..);simp[this]at h2
  rw[if_neg h2];have hq:∀y,q=some y→jO (els y.ag) (els x.ag)=true:=by
   intro y hy;subst hy;simpa using h2
  by_cases h3:dm t (nZ x.ag)=0;case neg=>
   rw[if_pos h3];exact⟨fun h=>absurd h h3,fun h=>absurd (h.1 x (List.mem_cons_self ..)).2.2 h3⟩
  rw[if_neg (by omega),ih];constructor
  ·rintro⟨a1,a2,a3⟩;refine⟨?_,?_,List.pairwise_cons.2 ⟨fun r hr=>a2 x rfl r hr,a3⟩⟩
   ·intro r hr;rcases List.mem_cons.1 hr with rfl|hr
    ·exact⟨h0,h1,h3⟩
    ·exact a1 r hr
   ·intro y hy r hr;rcases List.mem_cons.1 hr with rfl|hr
    ·exact hq y hy
    ·exact Lr (hq y hy) (a2 x rfl r hr)
  ·rintro⟨a1,_,a3⟩;obtain⟨b1,b2⟩:=List.pairwise_cons.1 a3;exact⟨fun r hr=>a1 r (List.mem_cons_of_mem _ hr),fun y hy r hr=>by cases hy;exact b1 r hr,b2⟩
theorem Xwu(t:List aT):P8 t=0↔JP t:=by
 unfold P8;rw[Xnj];constructor
 ·rintro⟨a1,_,a3⟩;exact⟨fun x hx=>(a1 x hx).1,fun x hx=>(a1 x hx).2.1,a3,fun x hx=>(a1 x hx).2.2⟩
 ·rintro⟨b1,b2,b3,b4⟩;exact⟨fun x hx=>⟨b1 x hx,b2 x hx,b4 x hx⟩,by simp,b3⟩
theorem jD.key(h:jD t)(hx:x∈t)(hy:y∈t)(e:x.ag=y.ag):x=y:=by
 induction t with
 |nil=>cases hx
 |cons z l ih=>
  obtain⟨h1,h2⟩:=List.pairwise_cons.1 h;rcases List.mem_cons.1 hx with hx|hx<;>rcases List.mem_cons.1 hy with hy|hy
  ·rw[hx,hy]
  ·exact absurd (by rw[←hx,e]) (P5 (h1 y hy))
  ·exact absurd (by rw[←hy,e]) (P5 (h1 x hx))
  ·exact ih h2 hx hy
theorem jD.ext:∀{A B:List aT},jD A→jD B→(∀x,x∈A↔x∈B)→A=B
 | [],[],_,_,_=>rfl
 | [],b::B,_,_,h=>absurd ((h b).2 (List.mem_cons_self ..)) (by simp)
 |a::A,[],_,_,h=>absurd ((h a).1 (List.mem_cons_self ..)) (by simp)
 |a::A,b::B,hA,hB,h=>by
  obtain⟨a1,a2⟩:=List.pairwise_cons.1 hA;obtain⟨b1,b2⟩:=List.pairwise_cons.1 hB;have e:a=b:=by
   rcases List.mem_cons.1 ((h a).1 (List.mem_cons_self ..))with e|hab
   ·exact e
   ·rcases List.mem_cons.1 ((h b).2 (List.mem_cons_self ..))with e|JQ
    ·exact e.symm
    ·have k:=Um (a1 b JQ);rw[b1 a hab]at k;exact absurd k (by simp)
  subst e;rw[jD.ext a2 b2 fun x=> ?_];have hx:=h x;rw[List.mem_cons,List.mem_cons]at hx;constructor
  ·intro hm;rcases hx.1 (.inr hm)with e|hm'
   ·subst e;exact absurd rfl (P5 (a1 x hm))
   ·exact hm'
  ·intro hm;rcases hx.2 (.inr hm)with e|hm'
   ·subst e;exact absurd rfl (P5 (b1 x hm))
   ·exact hm'
theorem Un(h:jD t)(hx:x∈t):ek t x.ag=some x:=by
 unfold ek;cases hf:t.find? (fun y=>y.ag==x.ag)with
 |none=>have:=List.find?_eq_none.1 hf x hx;simp at this
 |some y=>
  have h1:=List.find?_some hf;rw[h.key (List.mem_of_find?_eq_some hf) hx (by simpa using h1)]
theorem Xln(h:ek t p=some x):x∈t∧x.ag=p:=⟨List.mem_of_find?_eq_some h,by have:=List.find?_some h;simpa using this⟩
theorem Xr1(h:∀x∈t,x.ag≠p):ek t p=none:=List.find?_eq_none.2 fun x hx=>by simpa using h x hx
def Ez(h:Nat)(b:UInt8):Nat:=(2*h+40503*(b.toNat+1))%65536
def fZ:af→Nat→Nat→Nat
 | [],i,_=>i
 |b::r,i,h=>if i+1=96∨(16≤i+1∧Ez h b<2048)then i+1 else fZ r (i+1) (Ez h b)
def gW(s:af):Nat:=fZ s 0 0
theorem WN:∀(r:af) (i h:Nat),i≤fZ r i h∧fZ r i h≤i+r.length
 | [],i,h=>⟨Qn _,by simp[fZ]⟩
 |b::r,i,h=>by
  have:=WN r (i+1) (Ez h b);rw[fZ,List.length_cons];split<;>omega
theorem Xp0(b:UInt8)(r:af)(i h:Nat):i<fZ (b::r) i h:=by
 have:=(WN r (i+1) (Ez h b)).1;rw[fZ];split<;>omega
theorem P9(h:s≠[]):0<gW s:=by
 cases s with
 |nil=>exact absurd rfl h
 |cons b r=>exact Xp0 b r 0 0
theorem WO(s:af):gW s≤s.length:=by have:=(WN s 0 0).2;unfold gW;omega
def kZ:Nat→af→List af
 |0,_=> []
 |n+1,s=>if s=[]then []else s.take (gW s)::kZ n (s.drop (gW s))
def bT(s:af):List af:=kZ s.length s
theorem Xjb:∀(n m:Nat) (s:af),s.length≤n→s.length≤m→kZ n s=kZ m s
 |0,m,s,h,_=>by
  have:s=[]:=List.eq_nil_of_length_eq_zero (by omega);subst this;cases m<;>simp[kZ]
 |n+1,0,s,_,h=>by
  have:s=[]:=List.eq_nil_of_length_eq_zero (by omega);subst this;simp[kZ]
 |n+1,m+1,s,h1,h2=>by
  rw[kZ,kZ];by_cases h0:s=[]
  ·rw[if_pos h0,if_pos h0]
  ·have hp:=P9 h0;rw[if_neg h0,if_neg h0,Xjb n m _ (by rw[List.length_drop];omega) (by rw[List.length_drop];omega)]
theorem Xja:bT []=[]:=rfl
theorem WQ(h:s≠[]):bT s=s.take (gW s)::bT (s.drop (gW s)):=by
 have hp:=P9 h;have hl:0<s.length:=List.length_pos_iff.2 h;obtain⟨n,hn⟩:∃n,s.length=n+1:=⟨s.length-1,by omega⟩;unfold bT;rw[hn,kZ,if_neg h,Xjb n (s.drop (gW s)).length _ (by rw[List.length_drop];omega) (Qn _)]
theorem Uo:∀(n:Nat) (s:af),s.length≤n→(bT s).flatten=s∧(∀c∈bT s,c≠[])∧(bT s).length≤s.length
 |0,s,h=>by
  have:s=[]:=List.eq_nil_of_length_eq_zero (by omega);subst this;exact⟨rfl,fun _ h=>(by cases h),Qn _⟩
 |n+1,s,h=>by
  by_cases h0:s=[]
  ·subst h0;exact⟨rfl,fun _ h=>(by cases h),Qn _⟩
  ·have hp:=P9 h0;have hf:=WO s;obtain⟨h1,h2,h3⟩:=Uo n (s.drop (gW s)) (by rw[List.length_drop];omega);rw[List.length_drop]at h3;rw[WQ h0];refine⟨by rw[List.flatten_cons,h1,List.take_append_drop],fun c hc=> ?_,by rw[List.length_cons];omega⟩;rcases List.mem_cons.1 hc with rfl|hc
   ·intro e;have:=congrArg List.length e;rw[List.length_take]at this;simp at this;rcases this with h|h
    ·omega
    ·exact h0 h
   ·exact h2 c hc
theorem WR(s:af):(bT s).flatten=s:=(Uo _ s (Qn _)).1
theorem Xsx:∀c∈bT s,c≠[]:=(Uo _ s (Qn _)).2.1
theorem Uq(s:af):(bT s).length≤s.length:=(Uo _ s (Qn _)).2.2
structure Sg where
 n:Int
 d:af
def dw:af→Nat
 | []=>0
 |b::r=>if b=0 then dw r+1 else 0
theorem Ur:∀s:af,dw s≤s.length
 | []=>Qn _
 |b::r=>by
  have:=Ur r;rw[dw,List.length_cons];split<;>omega
def iJ(d:af):List Sg:=if d=[]then []else [⟨0,d⟩]
def qQ:Nat→af→af→List Sg
 |0,acc,_=>iJ acc
 |f+1,acc,r=>
  if r=[]then iJ acc
  else if 32≤dw r then iJ acc++⟨(dw r:Nat),[]⟩::qQ f [] (r.drop (dw r))
  else qQ f (acc++r.take (max (dw r) 1)) (r.drop (max (dw r) 1))
def mh(acc r:af):List Sg:=qQ r.length acc r
def iK(s:af):List Sg:=mh [] s
theorem Us:∀(n m:Nat) (acc r:af),r.length≤n→r.length≤m→qQ n acc r=qQ m acc r
 |0,m,acc,r,h,_=>by
  have:r=[]:=List.eq_nil_of_length_eq_zero (by omega);subst this;cases m<;>simp[qQ]
 |n+1,0,acc,r,_,h=>by
  have:r=[]:=List.eq_nil_of_length_eq_zero (by omega);subst this;simp[qQ]
 |n+1,m+1,acc,r,h1,h2=>by
  rw[qQ,qQ];by_cases h0:r=[]
  ·rw[if_pos h0,if_pos h0]
  ·have hl:0<r.length:=List.length_pos_iff.2 h0;rw[if_neg h0,if_neg h0];by_cases h3:32≤dw r
   ·rw[if_pos h3,if_pos h3,Us n m _ _ (by rw[List.length_drop];omega) (by rw[List.length_drop];omega)]
   ·rw[if_neg h3,if_neg h3,Us n m _ _ (by rw[List.length_drop];omega) (by rw[List.length_drop];omega)]
theorem Xqz(acc:af):mh acc []=iJ acc:=rfl
theorem Xnu{acc:af}(h0:r≠[])(h:32≤dw r):mh acc r=iJ acc++⟨(dw r:Nat),[]⟩::mh [] (r.drop (dw r)):=by
 have hl:0<r.length:=List.length_pos_iff.2 h0;obtain⟨n,hn⟩:∃n,r.length=n+1:=⟨r.length-1,by omega⟩;unfold mh;rw[hn,qQ,if_neg h0,if_pos h,Us n _ _ _ (by rw[List.length_drop];omega) (Qn _)]
theorem Xnv{acc:af}(h0:r≠[])(h:¬32≤dw r):mh acc r=mh (acc++r.take (max (dw r) 1)) (r.drop (max (dw r) 1)):=by
 have hl:0<r.length:=List.length_pos_iff.2 h0;obtain⟨n,hn⟩:∃n,r.length=n+1:=⟨r.length-1,by omega⟩;unfold mh;rw[hn,qQ,if_neg h0,if_neg h,Us n _ _ _ (by rw[List.length_drop];omega) (Qn _)]
def gJ(l:List Sg):Nat:=(l.map fun g=>g.n.toNat+g.d.length).sum
theorem Qa(g:Sg)(l:List Sg):gJ (g::l)=g.n.toNat+g.d.length+gJ l:=by simp[gJ]
theorem Xku(a b:List Sg):gJ (a++b)=gJ a+gJ b:=by simp[gJ]
theorem WS(d:af):gJ (iJ d)=d.length∧ ∀g∈iJ d,(g.n=0∧g.d≠[])∨(0<g.n∧g.d=[]):=by
 unfold iJ;split
 ·rename_i h;subst h;exact⟨rfl,fun _ h=>(by cases h)⟩
 ·rename_i h;refine⟨by simp[gJ],fun g hg=> ?_⟩;simp at hg;subst hg;exact .inl ⟨rfl,h⟩
theorem Ut:∀(f:Nat) (acc r:af),r.length≤f→gJ (qQ f acc r)=acc.length+r.length∧ ∀g∈qQ f acc r,(g.n=0∧g.d≠[])∨(0<g.n∧g.d=[])
 |0,acc,r,h=>by
  have:r=[]:=List.eq_nil_of_length_eq_zero (by omega);subst this;exact WS acc
 |f+1,acc,r,h=>by
  rw[qQ];by_cases h0:r=[]
  ·subst h0;rw[if_pos rfl];exact WS acc
  ·have hl:0<r.length:=List.length_pos_iff.2 h0;have hz:=Ur r;rw[if_neg h0];by_cases h3:32≤dw r
   ·rw[if_pos h3];obtain⟨h1,h2⟩:=Ut f [] (r.drop (dw r)) (by rw[List.length_drop];omega);obtain⟨d1,d2⟩:=WS acc;rw[List.length_drop]at h1;refine⟨by rw[Xku,Qa,h1,d1];simp;omega,fun g hg=> ?_⟩;rcases List.mem_append.1 hg with hg|hg
    ·exact d2 g hg
    ·rcases List.mem_cons.1 hg with rfl|hg
     ·exact .inr ⟨by show(0:Int)<(dw r:Nat);omega,rfl⟩
     ·exact h2 g hg
   ·rw[if_neg h3];obtain⟨h1,h2⟩:=Ut f (acc++r.take (max (dw r) 1)) (r.drop (max (dw r) 1)) (by rw[List.length_drop];omega);refine⟨by rw[h1];simp;omega,h2⟩
theorem Qc(s:af):gJ (iK s)=s.length:=by
 have:=(Ut s.length [] s (Qn _)).1;simpa[iK,mh]using this
theorem Uu:∀g∈iK s,(g.n=0∧g.d≠[])∨(0<g.n∧g.d=[]):=(Ut s.length [] s (Qn _)).2
theorem Xg4:∀{l:List Sg},(∀g∈l,(g.n=0∧g.d≠[])∨(0<g.n∧g.d=[]))→l.length≤gJ l
 | [],_=>Qn _
 |g::l,h=>by
  have h1:=h g (List.mem_cons_self ..);have h2:=Xg4 (l:=l) fun x hx=>h x (List.mem_cons_of_mem _ hx);rw[Qa,List.length_cons];rcases h1 with⟨_,h1⟩|⟨h1,_⟩
  ·have:=List.length_pos_iff.2 h1;omega
  ·omega
theorem WT(s:af):(iK s).length≤s.length:=by rw[←Qc s];exact Xg4 Uu
abbrev mM(x y:aT):Bool:=jO (els x.ag) (els y.ag)
theorem JR(h:mM x y=true):x.ag≠y.ag:=fun e=>P5 h (by rw[e])
theorem WU(x y:aT):mM x y=true∨x.ag=y.ag∨mM y x=true:=by
 rcases Xlb (els x.ag) (els y.ag)with h|h|h
 ·exact .inl h
 ·exact .inr (.inl (Xwk h))
 ·exact .inr (.inr h)
def dH(e:aT):Bool→List aT→List aT→List aT
 |d,out,[]=>if d then out else out++[e]
 |d,out,y::l=>dH e (d || !(mM y e)) ((if !d&& !(mM y e)then out++[e]else out)++(if y.ag==e.ag then []else [y])) l
def eP(t:List aT)(e:aT):List aT:=dH e false [] t
def bS(t:List aT)(e:aT):List aT×Int:=
 if aP e≠0 then([],aP e)
 else if 3<e.au then
  if ek t e.ag=none∧e.ag≠[]then([],9)
  else if e.au=4 then(t.filter fun x=> !(under x.ag e.ag),0)else(t,0)
 else if dm t (nZ e.ag)≠0 then([],dm t (nZ e.ag))
 else match ek t e.ag with
  |some y=>if(y.au==2) !=(e.au==2)then([],8)else(eP t e,0)
  |none=>if 5000≤t.length then([],6)else(eP t e,0)
theorem Xhd(e:aT)(l:List aT):∀out,dH e true out l=out++l.filter fun y=> !(y.ag==e.ag):=by
 induction l with
 |nil=>intro out;simp[dH]
 |cons y l ih=>
  intro out;rw[dH];simp only[Bool.true_or,Bool.not_true,Bool.false_and,Bool.false_eq_true,if_false];rw[ih,List.filter_cons];cases h:(y.ag==e.ag)<;>simp
theorem Xiu(h:jD t)(e:aT):∃A B,eP t e=A++e::B∧(∀a∈A,a∈t∧mM a e=true)∧(∀b∈B,b∈t∧mM e b=true)∧(∀z∈t,z.ag≠e.ag→z∈A∨z∈B)∧jD A∧jD B:=by
 have key:∀(l:List aT),jD l→ ∀out,∃A B,dH e false out l=out++(A++e::B)∧(∀a∈A,a∈l∧mM a e=true)∧(∀b∈B,b∈l∧mM e b=true)∧(∀z∈l,z.ag≠e.ag→z∈A∨z∈B)∧jD A∧jD B:=by
  intro l;induction l with
  |nil=>intro _ out;exact⟨[],[],by simp[dH],by simp,by simp,by simp,List.Pairwise.nil,List.Pairwise.nil⟩
  |cons y l ih=>
   intro hs out;obtain⟨h1,h2⟩:=List.pairwise_cons.1 hs;rw[dH];cases hb:mM y e
   ·simp only[Bool.not_false,Bool.or_true,Bool.and_self,if_true];rw[Xhd];have jd:∀z∈l,mM e z=true:=by
     intro z hz;rcases WU e y with k|k|k
     ·exact Lr k (h1 z hz)
     ·show jO (els e.ag) _=true;rw[k];exact h1 z hz
     ·rw[hb]at k;exact absurd k (by simp)
    have hf:(l.filter fun z=> !(z.ag==e.ag))=l:=List.filter_eq_self.2 fun z hz=>by
     have:=(JR (jd z hz)).symm;simpa using this
    rw[hf];by_cases k:y.ag=e.ag
    ·rw[if_pos (by simpa using k)];refine⟨[],l,by simp,by simp,fun b hb=>⟨List.mem_cons_of_mem _ hb,jd b hb⟩,fun z hz bn=> ?_,List.Pairwise.nil,h2⟩;rcases List.mem_cons.1 hz with rfl|hz
     ·exact absurd k bn
     ·exact .inr hz
    ·have GJ:mM e y=true:=by
      rcases WU e y with h|h|h
      ·exact h
      ·exact absurd h.symm k
      ·rw[h]at hb;exact absurd hb (by simp)
     rw[if_neg (by simpa using k)];refine⟨[],y::l,by simp,by simp,fun b hb=>⟨hb,?_⟩,fun z hz _=> .inr hz,List.Pairwise.nil,hs⟩;rcases List.mem_cons.1 hb with rfl|hb
     ·exact GJ
     ·exact jd b hb
   ·have bn:(y.ag==e.ag)=false:=by simpa using JR hb
    simp only[Bool.not_true,Bool.or_false,Bool.and_false,Bool.false_eq_true,if_false,bn];obtain⟨A,B,q,a1,a2,a3,a4,a5⟩:=ih h2 (out++[y]);refine⟨y::A,B,by rw[q];simp,fun a ha=> ?_,fun b hb=>⟨List.mem_cons_of_mem _ (a2 b hb).1,(a2 b hb).2⟩,fun z hz hzn=> ?_,List.pairwise_cons.2 ⟨fun a ha=>h1 a (a1 a ha).1,a4⟩,a5⟩
    ·rcases List.mem_cons.1 ha with rfl|ha
     ·exact⟨List.mem_cons_self ..,hb⟩
     ·exact⟨List.mem_cons_of_mem _ (a1 a ha).1,(a1 a ha).2⟩
    ·rcases List.mem_cons.1 hz with rfl|hz
     ·exact .inl (List.mem_cons_self ..)
     ·rcases a3 z hz hzn with h|h
      ·exact .inl (List.mem_cons_of_mem _ h)
      ·exact .inr h
 obtain⟨A,B,q,r⟩:=key t h [];exact⟨A,B,q,r⟩
theorem Qd(h:jD t)(e:aT):jD (eP t e):=by
 obtain⟨A,B,q,a1,a2,_,a4,a5⟩:=Xiu h e;rw[q];refine List.pairwise_append.2 ⟨a4,List.pairwise_cons.2 ⟨fun b hb=>(a2 b hb).2,a5⟩,fun a ha b hb=> ?_⟩;rcases List.mem_cons.1 hb with rfl|hb
 ·exact(a1 a ha).2
 ·exact Lr (a1 a ha).2 (a2 b hb).2
theorem G9(h:jD t)(e z:aT):z∈eP t e↔z=e∨(z∈t∧z.ag≠e.ag):=by
 obtain⟨A,B,q,a1,a2,a3,_,_⟩:=Xiu h e;rw[q,List.mem_append,List.mem_cons];constructor
 ·rintro(hz|hz|hz)
  ·exact .inr ⟨(a1 z hz).1,JR (a1 z hz).2⟩
  ·exact .inl hz
  ·exact .inr ⟨(a2 z hz).1,(JR (a2 z hz).2).symm⟩
 ·rintro(hz|⟨hz,hn⟩)
  ·exact .inr (.inl hz)
  ·rcases a3 z hz hn with h|h
   ·exact .inl h
   ·exact .inr (.inr h)
theorem Xui(h:jD t)(e:aT):ek (eP t e) e.ag=some e:=Un (Qd h e) ((G9 h e e).2 (.inl rfl))
theorem Xnf(h:jD t)(e:aT)(hp:p≠e.ag):ek (eP t e) p=ek t p:=by
 cases hg:ek t p with
 |some x=>
  obtain⟨hx,rfl⟩:=Xln hg;exact Un (Qd h e) ((G9 h e x).2 (.inr ⟨hx,hp⟩))
 |none=>
  refine Xr1 fun z hz k=> ?_;rcases(G9 h e z).1 hz with rfl|⟨hz,_⟩
  ·exact hp k.symm
  ·have:=Un h hz;rw[k,hg]at this;exact absurd this (by simp)
theorem Xue{l:List af}(h:l≠[])(hc:∀p∈l,p≠[]):dY l≠[]:=by
 cases l with
 |nil=>exact absurd rfl h
 |cons p l=>
  cases l with
  |nil=>exact hc p (by simp)
  |cons q l=>rw[JO p (by simp)];simp
theorem Xwj(h:aO p=0):els (nZ p)=(els p).dropLast:=by
 obtain⟨_,_,hc⟩:=Ey h;have hd:∀q∈(els p).dropLast,comp q=true:=fun q hq=>hc q (List.dropLast_subset _ hq);unfold nZ;by_cases hn:(els p).dropLast=[]
 ·rw[hn];rfl
 ·exact Xsl (fun q hq=>Xl3 (hd q hq)) (Xue hn fun q hq=>Xwp (hd q hq))
theorem Xtf{d:af}(h:aO p=0)(hu:under (nZ p) d=true):under p d=true:=by
 simp only[under,Bool.and_eq_true,decide_eq_true_eq]at hu ⊢;obtain⟨⟨_,h2⟩,h3⟩:=hu;refine⟨⟨h,h2⟩,?_⟩;rw[List.isPrefixOf_iff_prefix]at h3 ⊢;rw[Xwj h]at h3;exact h3.trans (List.dropLast_prefix _)
theorem Gm(h:aP e=0):1≤e.au∧e.au≤6∧aO e.ag=0∧(e.ag=[]→5≤e.au):=by
 unfold aP at h;by_cases h1:e.au<1∨6<e.au
 ·rw[if_pos h1]at h;omega
 rw[if_neg h1]at h;by_cases h2:aO e.ag=0;case neg=>rw[if_pos h2]at h;exact absurd h h2
 rw[if_neg (by omega)]at h;by_cases h3:e.ag=[]∧e.au<5
 ·rw[if_pos h3]at h;omega
 exact⟨by omega,by omega,h2,fun hp=>Int.not_lt.1 fun hk=>h3 ⟨hp,hk⟩⟩
theorem Xlw:dm t p=0↔p=[]∨ ∃x,ek t p=some x∧x.au=2:=by
 unfold dm;by_cases h:p=[]
 ·rw[if_pos h];exact⟨fun _=> .inl h,fun _=>rfl⟩
 ·rw[if_neg h];cases hg:ek t p with
  |none=>
   constructor
   ·intro k;simp at k
   ·rintro(k|⟨x,k,_⟩)
    ·exact absurd k h
    ·simp at k
  |some x=>
   show(if x.au≠2 then(10:Int)else 0)=0↔_;by_cases hk:x.au=2
   ·rw[if_neg (by omega)];exact⟨fun _=> .inr ⟨x,rfl,hk⟩,fun _=>rfl⟩
   ·rw[if_pos hk];constructor
    ·intro k;omega
    ·rintro(k|⟨y,k,k'⟩)
     ·exact absurd k h
     ·cases k;exact absurd k' hk
theorem Xrf(h:JP t)(he:aP e=0)(hk:e.au=1∨e.au=2∨e.au=3)(hu:dm t (nZ e.ag)=0)(hs:∀y,ek t e.ag=some y→(y.au=2↔e.au=2)):JP (eP t e):=by
 obtain⟨_,_,hp,DJ⟩:=Gm he;have bn:e.ag≠[]:=fun k=>by have:=DJ k;omega
 refine⟨fun z hz=> ?_,fun z hz=> ?_,Qd h.BN e,fun z hz=> ?_⟩
 ·rcases(G9 h.BN e z).1 hz with rfl|⟨hz,_⟩
  ·exact he
  ·exact h.Ls z hz
 ·rcases(G9 h.BN e z).1 hz with rfl|⟨hz,_⟩
  ·exact hk
  ·exact h.au z hz
 ·have TA:dm t (nZ z.ag)=0:=by
   rcases(G9 h.BN e z).1 hz with rfl|⟨hz,_⟩
   ·exact hu
   ·exact h.up z hz
  rw[Xlw]at TA ⊢;rcases TA with k|⟨x,k,k'⟩
  ·exact .inl k
  ·by_cases q:nZ z.ag=e.ag
   ·refine .inr ⟨e,by rw[q];exact Xui h.BN e,?_⟩;rw[q]at k;exact(hs x k).1 k'
   ·exact .inr ⟨x,by rw[Xnf h.BN e q];exact k,k'⟩
theorem Xwl(h:JP t)(d:af):JP (t.filter fun x=> !(under x.ag d)):=by
 have hm:∀z,z∈(t.filter fun x=> !(under x.ag d))↔z∈t∧under z.ag d=false:=fun z=>by simp[List.mem_filter]
 have hs:jD (t.filter fun x=> !(under x.ag d)):=List.Pairwise.filter _ h.BN;refine⟨fun z hz=>h.Ls z ((hm z).1 hz).1,fun z hz=>h.au z ((hm z).1 hz).1,hs,fun z hz=> ?_⟩;obtain⟨ow,uD⟩:=(hm z).1 hz;have hp:=(Gm (h.Ls z ow)).2.2.1;have TA:=h.up z ow;rw[Xlw]at TA ⊢;rcases TA with k|⟨x,k,k'⟩
 ·exact .inl k
 ·obtain⟨hx,Bq⟩:=Xln k;refine .inr ⟨x,?_,k'⟩;rw[←Bq];refine Un hs ((hm x).2 ⟨hx,?_⟩);cases q:under x.ag d with
  |false=>rfl
  |true=>
   rw[Bq]at q;rw[Xtf hp q]at uD;exact absurd uD (by simp)
theorem Xs5{t':List aT}(h:JP t)(ha:bS t e=(t',0)):JP t':=by
 unfold bS at ha;by_cases h0:aP e=0;case neg=>rw[if_pos h0]at ha;exact absurd (Prod.mk.inj ha).2 h0
 rw[if_neg (by omega)]at ha;have hk:=Gm h0;by_cases h1:3<e.au
 ·rw[if_pos h1]at ha;by_cases h2:ek t e.ag=none∧e.ag≠[]
  ·rw[if_pos h2]at ha;simp at ha
  ·rw[if_neg h2]at ha;by_cases h3:e.au=4
   ·rw[if_pos h3]at ha;rw[←(Prod.mk.inj ha).1];exact Xwl h _
   ·rw[if_neg h3]at ha;rw[←(Prod.mk.inj ha).1];exact h
 ·rw[if_neg h1]at ha;by_cases h2:dm t (nZ e.ag)=0;case neg=>rw[if_pos h2]at ha;exact absurd (Prod.mk.inj ha).2 h2
  rw[if_neg (by omega)]at ha;cases hg:ek t e.ag with
  |none=>
   rw[hg]at ha;change (if 5000≤t.length then(([]:List aT),(6:Int))else(eP t e,0))=_ at ha;by_cases h3:5000≤t.length
   ·rw[if_pos h3]at ha;simp at ha
   ·rw[if_neg h3]at ha;rw[←(Prod.mk.inj ha).1];exact Xrf h h0 (by omega) h2 fun y hy=>by rw[hg]at hy;cases hy
  |some y=>
   rw[hg]at ha;change (if((y.au==2) !=(e.au==2))=true then(([]:List aT),(8:Int))else(eP t e,0))=_ at ha;by_cases h3:((y.au==2) !=(e.au==2))=true
   ·rw[if_pos h3]at ha;simp at ha
   ·rw[if_neg h3]at ha;rw[←(Prod.mk.inj ha).1];refine Xrf h h0 (by omega) h2 fun z hz=> ?_;rw[hg]at hz;cases hz;have h4:(y.au==2)=(e.au==2):=by simpa using h3
    constructor
    ·intro k;rw[k]at h4;simpa using h4.symm
    ·intro k;rw[k]at h4;simpa using h4
def JS(t:List aT)(e:aT):List aT:=if 3<e.au then(if e.au=4 then t.filter fun x=> !(under x.ag e.ag)else t)else eP t e
structure Qe (t:List aT) (e:aT):Prop where
 Ls:aP e=0
 there:3<e.au→ ¬(ek t e.ag=none∧e.ag≠[])
 up:e.au≤3→dm t (nZ e.ag)=0
 like:e.au≤3→ ∀y,ek t e.ag=some y→(y.au==2)=(e.au==2)
 room:e.au≤3→ek t e.ag=none→t.length<5000
theorem qm{a:List aT}:bS t e=(a,0)↔Qe t e∧a=JS t e:=by
 unfold bS JS;by_cases h0:aP e=0;case neg=>
  rw[if_pos h0];exact⟨fun h=>absurd (Prod.mk.inj h).2 h0,fun h=>absurd h.1.Ls h0⟩
 rw[if_neg (by omega)];by_cases h1:3<e.au
 ·rw[if_pos h1,if_pos h1];by_cases h2:ek t e.ag=none∧e.ag≠[]
  ·rw[if_pos h2];exact⟨fun h=>absurd (Prod.mk.inj h).2 (by decide),fun h=>absurd h2 (h.1.there h1)⟩
  ·rw[if_neg h2];have hp:Qe t e:=⟨h0,fun _=>h2,fun k=>by omega,fun k=>by omega,fun k=>by omega⟩;by_cases h3:e.au=4
   ·rw[if_pos h3,if_pos h3];exact⟨fun h=>⟨hp,(Prod.mk.inj h).1.symm⟩,fun h=>by rw[h.2]⟩
   ·rw[if_neg h3,if_neg h3];exact⟨fun h=>⟨hp,(Prod.mk.inj h).1.symm⟩,fun h=>by rw[h.2]⟩
 ·rw[if_neg h1,if_neg h1];by_cases h2:dm t (nZ e.ag)=0;case neg=>
   rw[if_pos h2];exact⟨fun h=>absurd (Prod.mk.inj h).2 h2,fun h=>absurd (h.1.up (by omega)) h2⟩
  rw[if_neg (by omega)];cases hg:ek t e.ag with
  |none=>
   show(if 5000≤t.length then(([]:List aT),(6:Int))else(eP t e,0))=(a,0)↔_;by_cases h3:5000≤t.length
   ·rw[if_pos h3];exact⟨fun h=>absurd (Prod.mk.inj h).2 (by decide),fun h=>absurd (h.1.room (by omega) hg) (by omega)⟩
   ·rw[if_neg h3];exact⟨fun h=>⟨⟨h0,fun k=>absurd k h1,fun _=>h2,fun _ y hy=>(by rw[hg]at hy;cases hy),fun _ _=>(by omega)⟩,(Prod.mk.inj h).1.symm⟩,fun h=>by rw[h.2]⟩
  |some y=>
   show(if((y.au==2) !=(e.au==2))=true then(([]:List aT),(8:Int))else(eP t e,0))=(a,0)↔_;by_cases h3:((y.au==2) !=(e.au==2))=true
   ·rw[if_pos h3];refine⟨fun h=>absurd (Prod.mk.inj h).2 (by decide),fun h=> ?_⟩;have:=h.1.like (by omega) y hg;rw[this]at h3;simp at h3
   ·rw[if_neg h3];exact⟨fun h=>⟨⟨h0,fun k=>absurd k h1,fun _=>h2,fun _ z hz=>(by rw[hg]at hz;cases hz;simpa using h3),fun _ hn=>(by rw[hg]at hn;cases hn)⟩,(Prod.mk.inj h).1.symm⟩,fun h=>by rw[h.2]⟩
def JU(e z:aT):Prop:=(e.au≤3→z.ag≠e.ag)∧(e.au=4→under z.ag e.ag=false)
theorem Xwd(h:jD t)(e z:aT):z∈JS t e↔(e.au≤3∧z=e)∨(z∈t∧JU e z):=by
 unfold JS JU;by_cases h1:3<e.au
 ·rw[if_pos h1];by_cases h2:e.au=4
  ·rw[if_pos h2,List.mem_filter];constructor
   ·rintro⟨a,b⟩;exact .inr ⟨a,fun k=>by omega,fun _=>by simpa using b⟩
   ·rintro(⟨k,_⟩|⟨a,_,b⟩)
    ·omega
    ·exact⟨a,by simpa using b h2⟩
  ·rw[if_neg h2];constructor
   ·intro a;exact .inr ⟨a,fun k=>by omega,fun k=>absurd k h2⟩
   ·rintro(⟨k,_⟩|⟨a,_⟩)
    ·omega
    ·exact a
 ·rw[if_neg h1,G9 h];constructor
  ·rintro(k|⟨a,b⟩)
   ·exact .inl ⟨by omega,k⟩
   ·exact .inr ⟨a,fun _=>b,fun k=>by omega⟩
  ·rintro(⟨_,k⟩|⟨a,b,_⟩)
   ·exact .inl k
   ·exact .inr ⟨a,b (by omega)⟩
theorem Xt3(t:List aT)(e:aT):(eP t e).length≤t.length+1:=by
 have:∀(l out:List aT) (d:Bool),(dH e d out l).length≤out.length+l.length+1:=by
  intro l;induction l with
  |nil=>intro out d;cases d<;>simp[dH]
  |cons y l ih=>
   intro out d;rw[dH];cases hc:(!d&& !(mM y e))
   ·refine Nat.le_trans (ih _ _) ?_;cases h:(y.ag==e.ag)<;>simp<;>omega
   ·have hd:(d || !(mM y e))=true:=by
     simp only[Bool.and_eq_true]at hc;rw[hc.2];simp
    rw[hd,Xhd];have:=List.length_filter_le (fun y:aT=> !(y.ag==e.ag)) l;cases h:(y.ag==e.ag)<;>simp<;>omega
 simpa[eP]using this t [] false
theorem Xwe(t:List aT)(e:aT):(JS t e).length≤t.length+1:=by
 unfold JS;by_cases h1:3<e.au
 ·rw[if_pos h1];by_cases h2:e.au=4
  ·rw[if_pos h2];exact Nat.le_trans (List.length_filter_le _ _) (Nat.le_succ _)
  ·rw[if_neg h2];exact Nat.le_succ _
 ·rw[if_neg h1];exact Xt3 t e
def bs(p:Nat→Bool)(lo hi:Nat):Nat:=
 if h:lo<hi then(if p ((lo+hi) / 2)then bs p lo ((lo+hi) / 2)else bs p ((lo+hi) / 2+1) hi)else lo
termination_by hi-lo
decreasing_by all_goals omega
theorem Uv(p:Nat→Bool)(lo hi:Nat)(h:lo≤hi):lo≤bs p lo hi∧bs p lo hi≤hi:=by
 induction lo,hi using bs.induct p with
 |case1 lo hi hlt hp ih=>rw[bs,dif_pos hlt,if_pos hp];have:=ih (by omega);omega
 |case2 lo hi hlt hp ih=>rw[bs,dif_pos hlt,if_neg hp];have:=ih (by omega);omega
 |case3 lo hi hlt=>rw[bs,dif_neg hlt];omega
theorem Xww(p:Nat→Bool)(lo hi:Nat)(h:lo≤hi):(lo<bs p lo hi→p (bs p lo hi-1)=false)∧(bs p lo hi<hi→p (bs p lo hi)=true):=by
 induction lo,hi using bs.induct p with
 |case1 lo hi hlt hp ih=>
  rw[bs,dif_pos hlt,if_pos hp];have h1:=ih (by omega);refine⟨h1.1,fun h2=> ?_⟩;by_cases h3:bs p lo ((lo+hi) / 2)<(lo+hi) / 2
  ·exact h1.2 h3
  ·have:=Uv p lo ((lo+hi) / 2) (by omega);rw[show bs p lo ((lo+hi) / 2)=(lo+hi) / 2 by omega];exact hp
 |case2 lo hi hlt hp ih=>
  rw[bs,dif_pos hlt,if_neg hp];have h1:=ih (by omega);refine⟨fun h2=> ?_,h1.2⟩;by_cases h3:(lo+hi) / 2+1<bs p ((lo+hi) / 2+1) hi
  ·exact h1.1 h3
  ·have:=Uv p ((lo+hi) / 2+1) hi (by omega);rw[show bs p ((lo+hi) / 2+1) hi-1=(lo+hi) / 2 by omega];simpa using hp
 |case3 lo hi hlt=>rw[bs,dif_neg hlt];exact⟨fun h=>by omega,fun h=>by omega⟩
theorem Xt2(h:jD t)(e:aT)(hi:i<t.length)(hp:t[i].ag=e.ag):eP t e=t.set i e:=by
 have CL:∀(a:aT),mM a e=mM a t[i]:=fun a=>by unfold mM;rw[hp]
 have abj:∀(a:aT),mM e a=mM t[i] a:=fun a=>by unfold mM;rw[hp]
 have K5:=List.pairwise_iff_getElem.1 h;have NS:jD (t.set i e):=by
  refine List.pairwise_iff_getElem.2 fun a b ha hb hab=> ?_;rw[List.length_set]at ha hb;have h0:=K5 a b ha hb hab;rw[List.getElem_set,List.getElem_set];by_cases h1:i=a
  ·subst h1;rw[if_pos rfl,if_neg (by omega)];show mM e t[b]=true;rw[abj];exact h0
  ·rw[if_neg h1];by_cases h2:i=b
   ·subst h2;rw[if_pos rfl];show mM t[a] e=true;rw[CL];exact h0
   ·rw[if_neg h2];exact h0
 refine jD.ext (Qd h e) NS fun z=> ?_;rw[G9 h];constructor
 ·rintro(rfl|⟨hz,bn⟩)
  ·exact List.mem_set hi _
  ·obtain⟨j,hj,rfl⟩:=List.getElem_of_mem hz;have PG:i≠j:=fun e2=>bn (by subst e2;exact hp);have:(t.set i e)[j]'(by rw[List.length_set];exact hj)=t[j]:=List.getElem_set_ne PG _;rw[←this];exact List.getElem_mem _
 ·intro hz;obtain⟨j,hj,rfl⟩:=List.getElem_of_mem hz;rw[List.length_set]at hj;rw[List.getElem_set];by_cases PG:i=j
  ·rw[if_pos PG];exact .inl rfl
  ·rw[if_neg PG];refine .inr ⟨List.getElem_mem _,fun he=> ?_⟩;have bn:t[j].ag≠t[i].ag:=by
    rcases Nat.lt_or_gt_of_ne PG with h1|h1
    ·exact(JR (K5 i j hi hj h1)).symm
    ·exact JR (K5 j i hj hi h1)
   exact bn (he.trans hp.symm)
theorem Xt4(h:jD t)(e:aT)(hi:i≤t.length)(hl:∀k (hk:k<t.length),k<i→mM t[k] e=true)(hg:∀k (hk:k<t.length),i≤k→mM e t[k]=true):eP t e=t.take i++e::t.drop i:=by
 have K5:=List.pairwise_iff_getElem.1 h;have NS:jD (t.take i++e::t.drop i):=by
  refine List.pairwise_append.2 ⟨List.Pairwise.sublist (List.take_sublist _ _) h,List.pairwise_cons.2 ⟨fun b hb=> ?_,List.Pairwise.sublist (List.drop_sublist _ _) h⟩,fun a ha b hb=> ?_⟩
  ·obtain⟨j,hj,rfl⟩:=List.getElem_of_mem hb;rw[List.getElem_drop];exact hg _ (by simp at hj;omega) (by omega)
  ·obtain⟨j,hj,rfl⟩:=List.getElem_of_mem ha;have JA:j<i∧j<t.length:=by simp at hj;omega
   rw[List.getElem_take];rcases List.mem_cons.1 hb with rfl|hb
   ·exact hl j JA.2 JA.1
   ·obtain⟨q,hq,rfl⟩:=List.getElem_of_mem hb;rw[List.getElem_drop];exact K5 j (i+q) JA.2 (by simp at hq;omega) (by omega)
 refine jD.ext (Qd h e) NS fun z=> ?_;rw[G9 h,List.mem_append,List.mem_cons];constructor
 ·rintro(rfl|⟨hz,bn⟩)
  ·exact .inr (.inl rfl)
  ·rw[←List.take_append_drop i t,List.mem_append]at hz;rcases hz with hz|hz
   ·exact .inl hz
   ·exact .inr (.inr hz)
 ·rintro(hz|rfl|hz)
  ·obtain⟨j,hj,rfl⟩:=List.getElem_of_mem hz;have JA:j<i∧j<t.length:=by simp at hj;omega
   rw[List.getElem_take];exact .inr ⟨List.getElem_mem _,JR (hl j JA.2 JA.1)⟩
  ·exact .inl rfl
  ·obtain⟨j,hj,rfl⟩:=List.getElem_of_mem hz;rw[List.getElem_drop];exact .inr ⟨List.getElem_mem _,(JR (hg (i+j) (by simp at hj;omega) (by omega))).symm⟩
def gF(t:List aT)(p:af)(i:Nat):Bool:=match t[i]? with|some x=> !(jO (els x.ag) (els p))|none=>true
theorem Xwb(h:jD t)(e:aT)(hn:∀x∈t,x.ag≠e.ag):eP t e=t.take (bs (gF t e.ag) 0 t.length)++e::t.drop (bs (gF t e.ag) 0 t.length):=by
 have CL:=Uv (gF t e.ag) 0 t.length (Nat.zero_le _);have hsp:=Xww (gF t e.ag) 0 t.length (Nat.zero_le _);generalize bs (gF t e.ag) 0 t.length=i at CL hsp;have K5:=List.pairwise_iff_getElem.1 h;refine Xt4 h e CL.2 (fun k hk hki=> ?_) (fun k hk hik=> ?_)
 ·have h1:=hsp.1 (by omega);rw[gF,List.getElem?_eq_getElem (by omega)]at h1;have h2:mM (t[i-1]'(by omega)) e=true:=by simpa using h1
  by_cases yD:k=i-1
  ·subst yD;exact h2
  ·exact Lr (K5 k (i-1) hk (by omega) (by omega)) h2
 ·have h1:=hsp.2 (by omega);rw[gF,List.getElem?_eq_getElem (by omega)]at h1;have h2:mM (t[i]'(by omega)) e=false:=by simpa using h1
  have h3:mM e (t[i]'(by omega))=true:=by
   rcases WU e (t[i]'(by omega))with h3|h3|h3
   ·exact h3
   ·exact absurd h3.symm (hn _ (List.getElem_mem _))
   ·rw[h2]at h3;exact absurd h3 (by simp)
  by_cases yD:k=i
  ·subst yD;exact h3
  ·exact Lr h3 (K5 i k (by omega) hk (by omega))
structure Ho where
 p:af
 u:Int
 deriving DecidableEq
variable{l m:List Ho}
def dP(l:List Ho)(d:Int):List Ho:=l.filter fun h=>decide (d≤h.u)
def fT(l:List Ho)(p:af)(d:Int):Bool:=(dP l d).any fun h=>under p h.p
def kE(l:List Ho)(p:af)(d:Int):Bool:=(dP l d).any fun h=>under h.p p
def jP(l:List Ho)(k:Int)(p:af)(d:Int):Int:=
 if k=1∨k=2∨k=3 then(if fT l p d then 15 else 0)else if k=4 then(if fT l p d || kE l p d then 15 else 0)else 0
def ic(l:List Ho)(p:af):List Ho:=l.filter fun h=> !(h.p==p)
def jl(h:Ho):List Ho→List Ho
 | []=> [h]
 |x::l=>if jO (els h.p) (els x.p)then h::x::l else x::jl h l
def gK(p:af):List Ho→Int→Int
 | [],u=>u
 |h::l,u=>gK p l (if h.p=p then max u h.u else u)
def xw(l:List Ho)(p:af):Bool:=l.any fun h=>h.p==p
def appH(l:List Ho)(e:aT)(d:Int):List Ho×Int:=
 if e.au=5 then(jl ⟨e.ag,gK e.ag (dP l d) (digits e.target)⟩ (ic (dP l d) e.ag),0)
 else if e.au=6 then(if xw (dP l d) e.ag then(ic (dP l d) e.ag,0)else([],9))
 else(dP l d,0)
structure vL (l:List Ho):Prop where
 ne:l.Pairwise fun a b=>a.p≠b.p
 u0:∀h∈l,0≤h.u
 u1:∀h∈l,h.u≤1000000000
 ag:∀h∈l,aO h.p=0
theorem Xrx:vL []:=⟨List.Pairwise.nil,fun _ h=>(by cases h),fun _ h=>(by cases h),fun _ h=>(by cases h)⟩
theorem vL.sub(h:vL l)(hs:m.Sublist l):vL m:=⟨h.ne.sublist hs,fun x hx=>h.u0 x (hs.subset hx),fun x hx=>h.u1 x (hs.subset hx),fun x hx=>h.ag x (hs.subset hx)⟩
theorem vL.act(h:vL l)(d:Int):vL (dP l d):=h.sub List.filter_sublist
theorem vL.rest(h:vL l)(p:af):vL (ic l p):=h.sub List.filter_sublist
theorem Qj(h:Ho):∀{l:List Ho} {x:Ho},x∈jl h l↔x=h∨x∈l
 | [],x=>by simp[jl]
 |y::l,x=>by
  rw[jl];split
  ·rw[List.mem_cons]
  ·rw[List.mem_cons,Qj h,List.mem_cons];constructor
   ·rintro(k|k|k)
    ·exact .inr (.inl k)
    ·exact .inl k
    ·exact .inr (.inr k)
   ·rintro(k|k|k)
    ·exact .inr (.inl k)
    ·exact .inl k
    ·exact .inr (.inr k)
theorem Xob(h:Ho):∀l:List Ho,(jl h l).length=l.length+1
 | []=>rfl
 |y::l=>by
  rw[jl];split
  ·rfl
  ·rw[List.length_cons,Xob h l,List.length_cons]
theorem Xrv{h:Ho}:∀{l:List Ho},l.Pairwise (fun a b=>a.p≠b.p)→(∀x∈l,x.p≠h.p)→(jl h l).Pairwise fun a b=>a.p≠b.p
 | [],_,_=>List.pairwise_singleton _ _
 |y::l,hl,hn=>by
  rw[jl];obtain⟨h1,h2⟩:=List.pairwise_cons.1 hl;split
  ·exact List.pairwise_cons.2 ⟨fun x hx k=>hn x hx k.symm,hl⟩
  ·refine List.pairwise_cons.2 ⟨fun x hx=> ?_,Xrv h2 fun x hx=>hn x (List.mem_cons_of_mem _ hx)⟩;rcases(Qj h).1 hx with rfl|hx
   ·exact hn y (List.mem_cons_self ..)
   ·exact h1 x hx
theorem Xtw:∀x∈ic l p,x.p≠p:=fun x hx k=>by
 have:=(List.mem_filter.1 hx).2;rw[k]at this;simp at this
theorem WV(p:af):∀(l:List Ho) (u:Int),(∀h∈l,0≤h.u∧h.u≤1000000000)→0≤u→u≤1000000000→0≤gK p l u∧gK p l u≤1000000000
 | [],u,_,h0,h1=>⟨h0,h1⟩
 |h::l,u,hl,h0,h1=>by
  have hh:=hl h (List.mem_cons_self ..);have hr:=fun x hx=>hl x (List.mem_cons_of_mem _ hx);rw[gK];split
  ·exact WV p l _ hr (by omega) (by omega)
  ·exact WV p l _ hr h0 h1
theorem Uw(h:fK s=true):0≤digits s∧digits s≤1000000000:=by
 unfold fK at h;simp only[Bool.and_eq_true,decide_eq_true_eq]at h;refine⟨?_,h.2⟩;have h0:=h.1.2;unfold digits;have key:∀(l:af) (a:Int),0≤a→(l.all fun c=>decide (48≤c)&&decide (c≤57))=true→0≤l.foldl (fun(n:Int) c=>10*n+((c.toNat:Int)-48)) a:=by
  intro l;induction l with
  |nil=>intro a ha _;exact ha
  |cons c l ih=>
   intro a ha hl;rw[List.all_cons,Bool.and_eq_true]at hl;rw[List.foldl_cons];have h48:(48:UInt8)≤c:=by
    have:=hl.1;simp only[Bool.and_eq_true,decide_eq_true_eq]at this;exact this.1
   have arB:48≤c.toNat:=h48;exact ih _ (by omega) hl.2
 exact key s 0 (by omega) h0
theorem WW(he:aP e=0)(hk:e.au=5):fK e.target=true:=by
 unfold aP at he;rw[if_neg (by omega)]at he;by_cases h1:aO e.ag≠0
 ·rw[if_pos h1]at he;exact absurd he h1
 rw[if_neg h1]at he;split at he
 ·omega
 by_cases h2:mK e.aj≠0
 ·rw[if_pos h2]at he;exact absurd he h2
 rw[if_neg h2]at he;split at he
 ·omega
 rename_i h3;have ht:bO e=true:=by
  cases hh:bO e with
  |true=>rfl
  |false=>exact absurd (.inr hh) h3
 unfold bO at ht;rw[if_neg (by omega),if_pos hk]at ht;exact ht
theorem Xwz{n:Int}(h:vL l)(he:aP e=0)(ha:appH l e d=(m,n)):vL m:=by
 unfold appH at ha;by_cases h5:e.au=5
 ·rw[if_pos h5]at ha;obtain⟨rfl,rfl⟩:=Prod.mk.inj ha;have hr:=(h.act d).rest e.ag;have hd:=Uw (WW he h5);have hu:=WV e.ag (dP l d) (digits e.target) (fun x hx=>⟨(h.act d).u0 x hx,(h.act d).u1 x hx⟩) hd.1 hd.2;refine⟨Xrv hr.ne fun x hx=>Xtw x hx,fun x hx=> ?_,fun x hx=> ?_,fun x hx=> ?_⟩
  ·rcases(Qj _).1 hx with rfl|hx
   ·exact hu.1
   ·exact hr.u0 x hx
  ·rcases(Qj _).1 hx with rfl|hx
   ·exact hu.2
   ·exact hr.u1 x hx
  ·rcases(Qj _).1 hx with rfl|hx
   ·exact(Gm he).2.2.1
   ·exact hr.ag x hx
 ·rw[if_neg h5]at ha;split at ha
  ·split at ha
   ·obtain⟨rfl,rfl⟩:=Prod.mk.inj ha;exact(h.act d).rest e.ag
   ·obtain⟨rfl,rfl⟩:=Prod.mk.inj ha;exact Xrx
  ·obtain⟨rfl,rfl⟩:=Prod.mk.inj ha;exact h.act d
theorem Xu7{n:Int}(ha:appH l e d=(m,n)):m.length≤l.length+1:=by
 have h1:(dP l d).length≤l.length:=List.length_filter_le _ _;have h2:∀p,(ic (dP l d) p).length≤(dP l d).length:=fun p=>List.length_filter_le _ _;have h3:=h2 e.ag;unfold appH at ha;split at ha
 ·obtain⟨rfl,rfl⟩:=Prod.mk.inj ha;rw[Xob];omega
 ·split at ha
  ·split at ha
   ·obtain⟨rfl,rfl⟩:=Prod.mk.inj ha;omega
   ·obtain⟨rfl,rfl⟩:=Prod.mk.inj ha;simp
  ·obtain⟨rfl,rfl⟩:=Prod.mk.inj ha;omega
def mi(p:af):List Ho→Int→Int
 | [],u=>u
 |h::l,u=>mi p l (if h.p=p then h.u else u)
theorem WX:∀{l:List Ho} {u:Int},(∀x∈l,x.p≠p)→mi p l u=u
 | [],_,_=>rfl
 |h::l,u,hn=>by
  rw[mi,if_neg (hn h (List.mem_cons_self ..))];exact WX fun x hx=>hn x (List.mem_cons_of_mem _ hx)
theorem Xg0:∀{l:List Ho} {u:Int},(∀x∈l,x.p≠p)→gK p l u=u
 | [],_,_=>rfl
 |h::l,u,hn=>by
  rw[gK,if_neg (hn h (List.mem_cons_self ..))];exact Xg0 fun x hx=>hn x (List.mem_cons_of_mem _ hx)
theorem Xkn:∀{l:List Ho} {u:Int},vL l→0≤u→(if u<mi p l (-1)then mi p l (-1)else u)=gK p l u
 | [],u,_,h0=>by rw[mi,gK,if_neg (by omega)]
 |h::l,u,hk,h0=>by
  obtain⟨h1,h2⟩:=List.pairwise_cons.1 hk.ne;by_cases hp:h.p=p
  ·have hn:∀x∈l,x.p≠p:=fun x hx k=>h1 x hx (by rw[hp,k]);rw[mi,gK,if_pos hp,if_pos hp,WX hn,Xg0 hn];split<;>omega
  ·rw[mi,gK,if_neg hp,if_neg hp];exact Xkn (hk.sub (List.sublist_cons_self _ _)) h0
theorem Xqf:∀{l:List Ho},vL l→(decide (mi p l (-1)<0))=!(xw l p)
 | [],_=>by rw[mi];rfl
 |h::l,hk=>by
  obtain⟨h1,h2⟩:=List.pairwise_cons.1 hk.ne;by_cases hp:h.p=p
  ·have hn:∀x∈l,x.p≠p:=fun x hx k=>h1 x hx (by rw[hp,k]);have h0:=hk.u0 h (List.mem_cons_self ..);rw[mi,if_pos hp,WX hn,Qf (by omega)];simp[xw,hp]
  ·rw[mi,if_neg hp,Xqf (hk.sub (List.sublist_cons_self _ _))];simp[xw,hp]
theorem yI:((ic l p).length=l.length)↔xw l p=false:=by
 unfold ic xw;rw[List.length_filter_eq_length_iff,List.any_eq_false];constructor
 ·intro h x hx;have:=h x hx;simpa using this
 ·intro h x hx;have:=h x hx;simpa using this
def EA(t:List aT)(p:af):List aT:=t.filter fun x=>decide (aO x.ag=0)&&decide (x.ag≠[])&&(nZ x.ag==p)
def JV(p:af):af:=(els p).getLastD []
section
variable (H net:af→af) (num:Int→af) (nm:Int→af)
def Ai(x:aT):af:=net (nm x.au)++(num x.aj.length++x.aj.flatMap fun a=>net a.k++net a.v)
def JW:Nat→List aT→aT→af
 |0,_,_=> []
 |n+1,t,x=>if x.au=2 then H (Ai net num nm x++num (EA t x.ag).length++(EA t x.ag).flatMap fun y=>net (JV y.ag)++net (JW n t y))
  else H (Ai net num nm x++net x.target++num x.size++net x.av)
end
theorem bK{a:Addr}{x:Value}(hb:Below W.heap.size W w')(h:W.cell? a=some x):w'.cell? a=some x:=(hb.cell (block_lt_of_cell h)).trans h
theorem kP{a:Addr}{x:Value}(o:Obj)(h:W.cell? a=some x):(W.alloc o).cell? a=some x:=(World.cell?_alloc_lt _ _ _ (block_lt_of_cell h)).trans h
theorem jo{a:Addr}{x:Value}{row:Option Nat}(hg:W.grownBy w' row)(bn:row≠some a.block)(h:W.cell? a=some x):w'.cell? a=some x:=
 (World.cell?_of_block (hg.block _ (block_lt_of_cell h) (fun e=>bn e.symm))).trans h
def bA{α:Type}(T:Ty α)(I:IH)(xs:List Value)(l:List α):Prop:=
 xs.length=l.length*T.size∧ ∀i (h:i<l.length),∃cs,T.rd I cs l[i]∧ ∀j u,cs[j]?=some u→xs[i*T.size+j]?=some u
def aK{α:Type}(T:Ty α)(E:TypeId)(I:IH)(w:World)(B:Nat)(v:Value)(l:List α):Prop:=
 ∃xs,w.ownsRow B E T.size v l.length xs∧bA T I xs l
section
variable {α:Type} {T:Ty α} {I I':IH} {w w':World} {v:Value} {l:List α} {xs:List Value} {E:TypeId} {B:Nat}
theorem bA.mono(hI:∀b c,I b=some c→I' b=some c)(h:bA T I xs l):bA T I' xs l:=
 ⟨h.1,fun i hi=>let ⟨cs,h1,h2⟩:=h.2 i hi;⟨cs,T.mono hI h1,h2⟩⟩
theorem bA.nil(T:Ty α)(I:IH):bA T I [] []:=⟨by simp,fun i h=>absurd h (by simp)⟩
theorem bA.one{x:α}{cs:List Value}(h:T.rd I cs x):bA T I cs [x]:=by
 refine⟨by simp[T.len h],fun i hi=>⟨cs,?_,fun j u hu=> ?_⟩⟩
 ·have:i=0:=by simp at hi;omega
  subst this;exact h
 ·have:i=0:=by simp at hi;omega
  subst this;simpa using hu
theorem bA.append{ys:List Value}{m:List α}(h:bA T I xs l)(k:bA T I ys m):bA T I (xs++ys) (l++m):=by
 refine⟨by rw[List.length_append,List.length_append,h.1,k.1,Nat.add_mul],fun i hi=> ?_⟩;by_cases hl:i<l.length
 ·obtain⟨cs,h1,h2⟩:=h.2 i hl;refine⟨cs,by rw[List.getElem_append_left hl];exact h1,fun j u hu=> ?_⟩;have hx:=h2 j u hu;rw[List.getElem?_append_left (List.getElem?_eq_some_iff.1 hx).1];exact hx
 ·obtain⟨cs,h1,h2⟩:=k.2 (i-l.length) (by simp at hi;omega);refine⟨cs,by rw[List.getElem_append_right (by omega)];exact h1,fun j u hu=> ?_⟩;have hx:=h2 j u hu;have e:i*T.size+j=xs.length+((i-l.length)*T.size+j):=by
   rw[h.1,Nat.sub_mul];have:=Nat.mul_le_mul_right T.size (show l.length≤i by omega);omega
  rw[e,List.getElem?_append_right (by omega),Nat.add_sub_cancel_left];exact hx
theorem bA.take(h:bA T I xs l)(n:Nat):bA T I (xs.take (n*T.size)) (l.take n):=by
 refine⟨by
  rw[List.length_take,List.length_take,h.1];rcases Nat.le_total n l.length with hn|hn
  ·rw[Nat.min_eq_left hn,Nat.min_eq_left (Nat.mul_le_mul_right _ hn)]
  ·rw[Nat.min_eq_right hn,Nat.min_eq_right (Nat.mul_le_mul_right _ hn)],fun i hi=> ?_⟩
 have TB:i<n∧i<l.length:=by simp at hi;omega
 obtain⟨cs,h1,h2⟩:=h.2 i TB.2;refine⟨cs,by rw[List.getElem_take];exact h1,fun j u hu=> ?_⟩;have hj:j<T.size:=by rw[←T.len h1];exact(List.getElem?_eq_some_iff.1 hu).1
 have:=Nat.mul_le_mul_right T.size (show i+1≤n by omega);rw[Nat.add_mul]at this;rw[List.getElem?_take_of_lt (by omega)];exact h2 j u hu
theorem bA.drop(h:bA T I xs l)(n:Nat):bA T I (xs.drop (n*T.size)) (l.drop n):=by
 refine⟨by rw[List.length_drop,List.length_drop,h.1,Nat.sub_mul],fun i hi=> ?_⟩;have TB:n+i<l.length:=by simp at hi;omega
 obtain⟨cs,h1,h2⟩:=h.2 (n+i) TB;refine⟨cs,by rw[List.getElem_drop];exact h1,fun j u hu=> ?_⟩;rw[List.getElem?_drop,←Nat.add_assoc,←Nat.add_mul];exact h2 j u hu
theorem bA.oneCell(h:bA T I xs l):∀u∈xs,u.oneCell'=true:=by
 intro u hu;obtain⟨p,hp,rfl⟩:=List.getElem_of_mem hu;have hs:0<T.size:=by
  rcases Nat.eq_zero_or_pos T.size with h0|h0
  ·have:=h.1;rw[h0,Nat.mul_zero]at this;omega
  ·exact h0
 have hi:p / T.size<l.length:=by rw[Nat.div_lt_iff_lt_mul hs,←h.1];exact hp
 obtain⟨cs,h1,h2⟩:=h.2 _ hi;have hj:p%T.size<cs.length:=by rw[T.len h1];exact Nat.mod_lt _ hs
 have hx:=h2 (p%T.size) _ (List.getElem?_eq_getElem hj);rw[show p / T.size*T.size+p%T.size=p by rw[Nat.mul_comm];exact Nat.div_add_mod p T.size,List.getElem?_eq_getElem hp]at hx;rw[Option.some.inj hx];exact T.one h1 _ (List.getElem_mem hj)
theorem aZ.cells(h:aZ T I v l)(hw:Ok I w)(hs:0<T.size):∃(ao:Option Addr) (cap:Nat) (xs:List Value),v= .slice ao l.length cap∧l.length≤cap∧cap≤maxLen∧bA T I xs l∧
 (0<l.length→ ∃b off arr,ao=some ⟨b,off,none⟩∧I b=some arr∧b<w.heap.size∧ ∀j u,xs[j]?=some u→w.cell? ⟨b,off+j,none⟩=some u):=by
 obtain⟨ao,cap,hv,h1,h2,h3⟩:=h;rcases Nat.eq_zero_or_pos l.length with h0|h0
 ·have:l=[]:=List.eq_nil_of_length_eq_zero h0;subst this;exact⟨ao,cap,[],hv,h1,h2,bA.nil T I,fun h=>absurd h (by simp)⟩
 ·obtain⟨b,off,arr,e1,e2,e3⟩:=h3 h0;have dM:off+l.length*T.size≤arr.size:=by
   obtain⟨cs,k1,k2⟩:=e3 (l.length-1) (by omega);have hx:=k2 (T.size-1) _ (List.getElem?_eq_getElem (by rw[T.len k1];omega));have:=(Qg hx);have e:(l.length-1)*T.size+T.size=l.length*T.size:=by
    rw[←Nat.succ_mul,Nat.succ_eq_add_one,show l.length-1+1=l.length by omega]
   omega
  refine⟨ao,cap,(arr.toList.drop off).take (l.length*T.size),hv,h1,h2,⟨by simp;omega,fun i hi=> ?_⟩,fun _=>⟨b,off,arr,e1,e2,hw.lt e2,fun j u hu=> ?_⟩⟩
  ·obtain⟨cs,k1,k2⟩:=e3 i hi;refine⟨cs,k1,fun j u hu=> ?_⟩;have hj:j<T.size:=by rw[←T.len k1];exact(List.getElem?_eq_some_iff.1 hu).1
   have:=Nat.mul_le_mul_right T.size (show i+1≤l.length by omega);rw[Nat.add_mul]at this;rw[List.getElem?_take_of_lt (by omega),List.getElem?_drop,Array.getElem?_toList];exact k2 j u hu
  ·rw[hw.cell e2];rw[List.getElem?_take]at hu;split at hu
   ·rw[List.getElem?_drop,Array.getElem?_toList]at hu;exact hu
   ·cases hu
theorem aK.kept{row:Option Nat}(h:aK T E I w B v l)(hg:w.grownBy w' row)(bn:v.ownBlock=none∨v.ownBlock≠row):aK T E I w' B v l:=
 let ⟨xs,h1,h2⟩:=h
 ⟨xs,h1.kept hg bn,h2⟩
theorem aK.below(h:aK T E I w B v l)(hb:Below w.heap.size w w'):aK T E I w' B v l:=
 h.kept (row:=none) ⟨hb.os,hb.tape,hb.output,hb.size,fun k hk _=>hb.block k hk⟩ (by cases v.ownBlock<;>simp)
theorem aK.alloc(h:aK T E I w B v l)(o:Obj):aK T E I (w.alloc o) B v l:=
 let ⟨xs,h1,h2⟩:=h
 ⟨xs,h1.alloc o,h2⟩
theorem aK.mono(hI:∀b c,I b=some c→I' b=some c)(h:aK T E I w B v l):aK T E I' w B v l:=
 let ⟨xs,h1,h2⟩:=h
 ⟨xs,h1,h2.mono hI⟩
theorem aK.lower{B':Nat}(h:aK T E I w B v l)(hB:B'≤B):aK T E I w B' v l:=by
 obtain⟨xs,⟨h1,Ei⟩,h2⟩:=h;refine⟨xs,⟨h1,?_⟩,h2⟩;rcases Ei with h0|⟨g,cap,cur,a,b,c⟩
 ·exact .inl h0
 ·exact .inr ⟨g,cap,cur,a,by omega,c⟩
theorem aK.nil(T:Ty α)(E:TypeId)(I:IH)(w:World)(B:Nat):aK T E I w B (.slice none 0 0) []:=⟨[],World.ownsRow_nil w B E T.size,bA.nil T I⟩
theorem aK.nP(h:aK T E I w B v l){b:Nat}(hb:w.heap.size≤b):v.ownBlock≠some b:=by
 obtain⟨xs,h1,_⟩:=h;intro e;have:=(h1.lt b e).2;omega
theorem aK.cK(h:aK T E I w B v l){b:Nat}(hb:b<B):v.ownBlock≠some b:=by
 obtain⟨xs,h1,_⟩:=h;intro e;have:=(h1.lt b e).1;omega
theorem aK.qo(h:aK T E I w B v l){b:Nat}(e:v.ownBlock=some b):B≤b:=by
 obtain⟨xs,h1,_⟩:=h;exact(h1.lt b e).1
theorem aK.freeze(h:aK T E I w B v l)(hw:Ok I w)(hI:∀b,B≤b→I b=none):∃I',Ext B I I'∧Ok I' w∧aZ T I' v l∧ ∀b,v.ownBlock≠some b→I' b=I b:=by
 obtain⟨xs,⟨h1,Ei⟩,h2⟩:=h;rcases Ei with⟨rfl,h0⟩|⟨g,cap,cur,rfl,hb,hg,Ej,fJ,fE,ht⟩
 ·refine⟨I,Ext.refl _ _,hw,?_,fun _ _=>rfl⟩;have:l=[]:=List.eq_nil_of_length_eq_zero h0;subst this;exact aZ.nil T I
 ·have kY:∀b c,I b=some c→(I.add g cur) b=some c:=fun b c hc=>by
   unfold IH.add;by_cases e:b=g
   ·subst e;rw[hI _ hb]at hc;cases hc
   ·rw[if_neg e];exact hc
  refine⟨I.add g cur,Ext.add hb I cur,hw.add hg,⟨_,cap,rfl,Ej,fJ,fun _=>⟨g,0,cur,rfl,by simp[IH.add],fun i hi=> ?_⟩⟩,fun b K6=> ?_⟩
  ·obtain⟨cs,k1,k2⟩:=h2.2 i hi;refine⟨cs,T.mono kY k1,fun j u hu=> ?_⟩;have hx:=k2 j u hu;rw[←ht,List.getElem?_take]at hx;split at hx
   ·rw[Nat.zero_add,←Array.getElem?_toList];exact hx
   ·cases hx
  ·have:b≠g:=fun e=>K6 (by simp[Value.ownBlock,e]);simp[IH.add,this]
def dS(P:Program)(ts te:TypeId)(T:Ty α)(bytes:Nat):Prop:=
 ∃i z,P.underlying ts=some (.slice te)∧P.info? te=some i∧i.zero=some z∧i.size=T.size∧i.bytes=bytes∧z.cells.size=T.size∧0<T.size
theorem dS.of{z:Value}{size:Nat}(hu:P.underlying ts=some (.slice te))(h:(P.info? te).map (fun i=>(i.zero,i.size,i.bytes))=some (some z,size,bytes))(hz:z.cells.size=size)(hs:0<size)(hT:T.size=size):dS P ts te T bytes:=by
 obtain⟨i,h1,h2,h3,h4⟩:=info_parts h;exact⟨i,z,hu,h1,h2,by rw[h3,hT],h4,by rw[hz,hT],by rw[hT];exact hs⟩
theorem pE(hE:dS P ts te T bytes){rest:List Oper}(yg:o.guard=none)(s x:Operand)
 (ho:o.op= .call {callee:= .builtin .append,args:=#[s,x],argTypes:=#[ts,ts]}) (B:Nat) (v:Value) (l:List α) (hs:a.eval s=v) (bg:aK T te I w0 B v l)
 (y:α) (cs:List Value) (tb:TypeId) (hx:a.eval x= .slice (some ⟨w0.heap.size,0,none⟩) 1 1) (hy:T.rd I cs y) (fO:(l.length+1)*bytes≤140737488355328) (hl:l.length+1≤9223372036854775807) (hB:B≤w0.heap.size)
 (h:∀v' w',aK T te I w' B v' (l++[y])→w0.grownBy w' v.ownBlock→wpList P ops Q rest (a.put o.dst v') w'):wpList P ops Q (o::rest) a (w0.alloc (.cells cs.toArray tb)):=by
 obtain⟨i,z,h1,h2,h3,h4,h5,h6,h7⟩:=hE;obtain⟨xs,k1,k2⟩:=bg
 refine wpList_append_own (w0.alloc (.cells cs.toArray tb)) yg s x ts ho B te i z T.size bytes h1 h2 h3 h4 h5 h6 h7 v l.length xs hs (k1.alloc _) ⟨w0.heap.size,0,none⟩ 1 1 cs hx (by rw[T.len hy,Nat.one_mul])
  (fun j u hu=>by rw[Addr.add_lit,Nat.zero_add,World.cell?_alloc_new];simpa using hu) (T.one hy) (by unfold maxLen;omega) fO (by simp;omega) (fun v' w' r1 r2 _=>h v' w' ⟨xs++cs,by rw[List.length_append];exact r1,k2.append (bA.one hy)⟩ ?_)
 exact⟨r2.os,r2.tape,r2.output,by have:=r2.size;simp at this;omega,fun k hk bn=>(r2.block k (by simp;omega) bn).trans (Below.heap_alloc _ _ _ hk)⟩
theorem Xii(hE:dS P ts te T bytes){rest:List Oper}(yg:o.guard=none)(s x:Operand)
 (ho:o.op= .call {callee:= .builtin .append,args:=#[s,x],argTypes:=#[ts,ts]}) (B:Nat) (v:Value) (l:List α) (hs:a.eval s=v) (bg:aK T te I w0 B v l)
 (ys:List α) (cs:List Value) (tb:TypeId) (hx:a.eval x= .slice (some ⟨w0.heap.size,0,none⟩) ys.length ys.length) (hy:bA T I cs ys) (_hp:0<ys.length) (fO:(l.length+ys.length)*bytes≤140737488355328) (hl:l.length+ys.length≤9223372036854775807) (hB:B≤w0.heap.size)
 (h:∀v' w',aK T te I w' B v' (l++ys)→w0.grownBy w' v.ownBlock→wpList P ops Q rest (a.put o.dst v') w'):wpList P ops Q (o::rest) a (w0.alloc (.cells cs.toArray tb)):=by
 obtain⟨i,z,h1,h2,h3,h4,h5,h6,h7⟩:=hE;obtain⟨xs,k1,k2⟩:=bg
 refine wpList_append_own (w0.alloc (.cells cs.toArray tb)) yg s x ts ho B te i z T.size bytes h1 h2 h3 h4 h5 h6 h7 v l.length xs hs (k1.alloc _) ⟨w0.heap.size,0,none⟩ ys.length ys.length cs hx hy.1
  (fun j u hu=>by rw[Addr.add_lit,Nat.zero_add,World.cell?_alloc_new];simpa using hu) hy.oneCell (by unfold maxLen;omega) fO (by simp;omega) (fun v' w' r1 r2 _=>h v' w' ⟨xs++cs,by rw[List.length_append];exact r1,k2.append hy⟩ ?_)
 exact⟨r2.os,r2.tape,r2.output,by have:=r2.size;simp at this;omega,fun k hk bn=>(r2.block k (by simp;omega) bn).trans (Below.heap_alloc _ _ _ hk)⟩
end
theorem Below.own{l:List α}{B0:Nat}(h:Below B0 w w0)(hg:w0.grownBy w' v.ownBlock)(bg:aK T E I w0 B v l)(hB:B0≤B)(hB':B≤w0.heap.size):Below B0 w w':=
 h.grown hg (by omega) (fun _ hk=>Nat.le_trans hB (bg.qo hk))
theorem Ok.own{J:IH}{l:List α}(h:Ok J w0)(hg:w0.grownBy w' v.ownBlock)(bg:aK T E I w0 B v l)(hJ:∀b,B≤b→J b=none):Ok J w':=
 h.grown hg (fun g hk=>hJ g (bg.qo hk))
open Go.RowKit Go.Sort
section
variable {P:Program} {ops:Array Oper} {md:Region.Mode} {C:World→Prop}
def yJ(P:Program)(md:Region.Mode)(ops:Array Oper)(C:World→Prop)(n:Nat)(Z:Array Bool→Prop)(K:Act→Prop):Nat→Array Bool→Act→Prop
 |0,s,a=>Z s∧K a
 |f+1,s,a=>(∃i,i∈Region.ready md ops s)∧ ∀i∈Region.ready md ops s,i<n∧qOp P ops C i (yJ P md ops C n Z K f (s.setIfInBounds i true)) a
theorem Xrz(hZ:∀s a w,Z s→C w→K a→wpAny P md ops Q g s a w):
 ∀(f:Nat) (s:Array Bool) (a:Act) (w:World),C w→yJ P md ops C n Z K f s a→wpAny P md ops Q (g+f) s a w:=by
 intro f;induction f with
 |zero=>exact fun s a w hw h=>hZ s a w h.1 hw h.2
 |succ f ih=>
  rintro s a w hw ⟨⟨i0,h0⟩,h⟩;refine⟨fun e=> ?_,fun i hi=>wpOp_of_qOp hw (fun a' w' hw' hk=>ih _ _ _ hw' hk) (h i hi).2⟩;rw[e]at h0;exact absurd h0 (by simp)
theorem Xm6{s:Array Bool}{oj:Oper}(aN:s.getD i true=false)(aC:∀e∈oj.after,Region.binds md e=true→s.getD e.on false=true):∀e∈oj.after,Region.binds md e=true→e.on≠i:=by
 intro e he hb NT;have h:=aC e he hb;rw[NT,getD_both aN]at h;exact absurd h (by simp)
theorem Xnc{oi:Oper}(hi:ops[i]?=some oi)(DK:Region.noSelect ops=true)(hs:Region.sinkB md ops n=true)(hc:Region.chainB md ops n=true)(hn:n<ops.size)(uE:i<n)
 (hZ:∀s,Z s→ ∀j∈Region.ready md ops s,n≤j):∀(f:Nat) (s:Array Bool) (a:Act),HeadInv md ops n s→
   (∀j oj,ops[j]?=some oj→j≠i→s.getD j true=false→(∀e∈oj.after,Region.binds md e=true→e.on≠i)→oi.apart ops oj=true)→
   i∈Region.ready md ops s→YieldsIn P ops C oi v a→yJ P md ops C n Z K f (s.setIfInBounds i true) (a.put oi.dst v)→yJ P md ops C n Z K (f+1) s a:=by
 intro f;induction f with
 |zero=>
  intro s a inv FZ hr hy H;have aN:=(mem_ready.1 hr).1;refine⟨⟨i,hr⟩,fun j hj=> ?_⟩;by_cases El:j=i
  ·subst El;exact⟨uE,hy.qOp hi H⟩
  ·have h1:=hZ _ H.1 j (ready_mono hj El);exact absurd hj (tail_waits hs hc hn inv _ i rfl uE aN j h1)
 |succ f ih=>
  intro s a inv FZ hr hy H;have aN:=(mem_ready.1 hr).1;refine⟨⟨i,hr⟩,fun j hj=> ?_⟩;have hjn:j<n:=Nat.lt_of_not_le fun h=>tail_waits hs hc hn inv _ i rfl uE aN j h hj;refine⟨hjn,?_⟩;by_cases El:j=i
  ·subst El;exact hy.qOp hi H
  obtain⟨TC,oj,dV,aC⟩:=mem_ready.1 hj;have h2:=qOp_put dV (FZ j oj dV El TC (Xm6 aN aC)) (fun cs b=>Region.noSelect_spec DK i oi cs b hi) (fun cs b=>Region.noSelect_spec DK j oj cs b dV) hy (H.2 j (ready_mono hj El)).2;refine qOp_mono (fun a' h3=>ih _ a' (inv.set hj hjn) (fun k ok hk hki hku=>FZ k ok hk hki ?_) (ready_mono hr (Ne.symm El)) h3.1 ?_) h2
  ·by_cases e:j=k
   ·subst e;exact TC
   ·rwa[getD_set_ne true e]at hku
  ·rw[Array.setIfInBounds_comm _ _ El];exact h3.2
theorem Xr0(DK:Region.noSelect ops=true)(hs:Region.sinkB md ops n=true)(hc:Region.chainB md ops n=true)(hn:n<ops.size):
 ∀(l:List Oper) (k:Nat) (s:Array Bool) (a:Act),(∀j,j<l.length→l[j]?=ops[k+j]?)→k+l.length=n→HeadInv md ops n s→Region.lexHead md ops g l.length k s=true→
 wpQuiet P ops C K l a→yJ P md ops C n (fun s=>Region.seqB md ops g n s=true) K l.length s a:=by
 intro l;induction l with
 |nil=>
  intro k s a _ hk _ hB h;simp only[List.length_nil,Nat.add_zero]at hk;subst hk;exact⟨hB,h⟩
 |cons o l ih=>
  intro k s a hl hk inv hB h;have h0:ops[k]?=some o:=by simpa using(hl 0 (by simp)).symm
  simp only[List.length_cons]at hk;simp only[List.length_cons,Region.lexHead,Bool.and_eq_true]at hB;have hr:k∈Region.ready md ops s:=by simpa using hB.1.1
  have hq:qOp P ops C k (wpQuiet P ops C K l) a:=by unfold qOp;rw[h0];exact h
  obtain⟨v,hy,hK⟩:=yieldsIn_of_qOp h0 hq;refine Xnc h0 DK hs hc hn (by omega) (fun s hz=>seqB_ready hz) l.length s a inv (Region.free_spec h0 hB.1.2) hr hy ?_;refine ih (k+1) _ _ (fun j hj=> ?_) (by omega) (inv.set hr (by omega)) hB.2 hK;have:=hl (j+1) (by simp;omega);rw[List.getElem?_cons_succ]at this;rw[this,Nat.add_assoc,Nat.add_comm 1 j]
theorem Xee{l:List Oper}(n:Nat)(hm:P.follows .mixedOrders=true)(hB:Region.lexTailB .any l.toArray n=true)(hC:C {w with drawn:=w.drawn+1})
 (h:wpQuiet P l.toArray C (fun a'=> ∀w',C w'→wpList P l.toArray Q (l.drop n) a' w') (l.take n) a):(Code.region id l.toArray true).wp P Q a w:=by
 simp only[Region.lexTailB,Bool.and_eq_true,decide_eq_true_eq]at hB;obtain⟨⟨⟨⟨DK,hn⟩,hs⟩,hc⟩,abl⟩:=hB;have hn':n<l.length:=by simpa using hn
 have xh:(l.take n).length=n:=by simp;omega
 have Af:(l.drop n).length=l.toArray.size-n:=by simp
 have inv0:HeadInv .any l.toArray n (Array.replicate l.toArray.size false):=by
  refine⟨by simp,fun j oj _ hl=> ?_,fun t _ ht=>getD_in (by simpa using ht) (getD_replicate_false _ _)⟩;rw[getD_replicate_false]at hl;exact absurd hl (by simp)
 have H:=Xr0 (P:=P) (C:=C) (md:= .any) (g:=l.toArray.size-n) DK hs hc hn (l.take n) 0 _ a (fun j hj=>by
  rw[xh]at hj;simp[hj]) (by omega) inv0 (by rw[xh];exact abl) h
 have R:=Xrz (Q:=Q) (g:=l.toArray.size-n) (fun s a' w' hz hw hk=>by
  have:=wpAny_of_seq (md:= .any) (Q':=Q) (l.drop n) n s a' w' (fun j=>by simp[List.getElem?_drop]) (by rw[Af];exact hz) (hk w' hw);rwa[Af]at this) _ _ _ _ hC H
 rw[xh,show l.toArray.size-n+n=l.toArray.size by omega]at R;exact wp_region_any hm R
theorem xy{l:List Oper}(n:Nat)(hm:P.follows .mixedOrders=true)(hB:Region.lexTailB .any l.toArray n=true)
 (h:wpQuiet P l.toArray (fun w'=> ∃p:Regrown,w'=grow (redrawn w p.d) p.os) (fun a'=> ∀w',(∃p:Regrown,w'=grow (redrawn w p.d) p.os)→wpList P l.toArray Q (l.drop n) a' w') (l.take n) a):(Code.region id l.toArray true).wp P Q a w:=
 Xee (C:=fun w'=> ∃p:Regrown,w'=grow (redrawn w p.d) p.os) n hm hB ⟨⟨w.drawn+1,#[]⟩,by rw[grow_empty];rfl⟩ h
theorem wpQuiet_load_row{Q:Act→Prop}{rest:List Oper}(yg:o.guard=none)(ty:TypeId)(x:Operand)(ho:o.op= .load ty x)(g:Nat)(hx:a.eval x= .pointer (some ⟨g,0,none⟩))(t:TypeId)(cs:Array Value)(fr:Nat×Nat)(d:TypeDesc)
 (hg:∀w,C w→w.heap[g]?=some (.cells cs t fr)) (hu:P.underlying ty=some d) (hd:(match d with| .struct _| .array _ _=>true|_=>false)=true) (hi:(P.info? ty).map (·.size)=some cs.size) (h:wpQuiet P ops C Q rest (a.put o.dst (.agg cs))):wpQuiet P ops C Q (o::rest) a:=
 wpQuiet_step fun K hK=>by
  rw[if_pos (by simp[Region.wanted,yg])];refine⟨.agg cs,fun w hw=> ?_,hK _ h⟩;unfold Oper.quietAt execOp;simp only[ho,hx,Instr.loadAt,Instr.sureAddr,Sem.run_bind,Sem.run_pure,Result.andThen_ok,run_loadVar_row w g t ty cs fr d (hg w hw) hu hd hi];exact⟨rfl,rfl⟩
theorem Xe4{b:Nat}{o:Obj}(h:w.heap[b]?=some o)(w':World)(hw:∃p:Regrown,w'=grow (redrawn w p.d) p.os):w'.heap[b]?=some o:=by
 obtain⟨p,rfl⟩:=hw;exact((below_regrown w p.d p.os).block _ (Qg h)).trans h
end
def Lt{α:Type}(T:Ty α)(I:IH)(w:World)(l:List α)(e:Ending)(w':World):Prop:=
 ∃v' I',e= .returned v'∧Below w.heap.size w w'∧Ext w.heap.size I I'∧Ok I' w'∧aZ T I' v' l
def xz{α:Type}(T:Ty α)(I:IH)(w:World)(l:List α)(n:Int)(e:Ending)(w':World):Prop:=
 ∃v' I',e= .returned (.tuple #[v',.int .i64 n])∧Below w.heap.size w w'∧Ext w.heap.size I I'∧Ok I' w'∧aZ T I' v' l
def At.Wf(x:At):Prop:=x.k.length≤9223372036854775807∧x.v.length≤9223372036854775807
abbrev At.val(x:At):Value:= .agg #[S x.k,S x.v]
def lD:Ty At:=Ty.flat 2 (fun x=> [S x.k,S x.v]) (fun _=>rfl) (fun _ u h=>by simp at h;rcases h with rfl|rfl<;>rfl)
theorem yK{l:List At}(h:aZ lD I v l)(hw:Ok I w)(i:Nat)(hi:i<l.length):∃x b off cap,l[i]=x∧v= .slice (some ⟨b,off,none⟩) l.length cap∧
 w.cell? ⟨b,off+i*2,none⟩=some (S x.k)∧w.cell? ⟨b,off+i*2+1,none⟩=some (S x.v):=by
 obtain⟨b,off,cap,cs,hv,fE,hc⟩:=h.at_ hw hi;have kI:cs=[S l[i].k,S l[i].v]:=fE;subst kI;exact⟨_,b,off,cap,rfl,hv,hc 0 _ rfl,hc 1 _ rfl⟩
def lY:Ty Xt:=Ty.flat 3 (fun x=> [.int .i64 x.s,.int .i64 x.o,.int .i64 x.n]) (fun _=>rfl) (fun _ u h=>by simp at h;rcases h with rfl|rfl|rfl<;>rfl)
theorem xA{l:List Xt}(h:aZ lY I v l)(hw:Ok I w)(i:Nat)(hi:i<l.length):∃x b off cap,l[i]=x∧v= .slice (some ⟨b,off,none⟩) l.length cap∧
 w.cell? ⟨b,off+i*3,none⟩=some (.int .i64 x.s)∧w.cell? ⟨b,off+i*3+1,none⟩=some (.int .i64 x.o)∧w.cell? ⟨b,off+i*3+2,none⟩=some (.int .i64 x.n):=by
 obtain⟨b,off,cap,cs,hv,fE,hc⟩:=h.at_ hw hi;have kI:cs=[.int .i64 l[i].s,.int .i64 l[i].o,.int .i64 l[i].n]:=fE;subst kI;exact⟨_,b,off,cap,rfl,hv,hc 0 _ rfl,hc 1 _ rfl,hc 2 _ rfl⟩
def Xt.Wf(x:Xt):Prop:=(-9223372036854775808≤x.s∧x.s≤9223372036854775807)∧(-9223372036854775808≤x.o∧x.o≤9223372036854775807)∧(-9223372036854775808≤x.n∧x.n≤9223372036854775807)
structure aT.Wf (e:aT):Prop where
 k0: -9223372036854775808≤e.au
 k1:e.au≤9223372036854775807
 ag:e.ag.length≤9223372036854775807
 aj:∀x∈e.aj,x.Wf
 target:e.target.length≤9223372036854775807
 s0: -9223372036854775808≤e.size
 s1:e.size≤9223372036854775807
 av:e.av.length≤9223372036854775807
 aA:∀x∈e.aA,x.Wf
abbrev dI(e:aT)(va vx:Value):List Value:=[.int .i64 e.au,S e.ag,va,S e.target,.int .i64 e.size,S e.av,vx]
abbrev gN(e:aT)(va vx:Value):Value:= .agg #[.int .i64 e.au,S e.ag,va,S e.target,.int .i64 e.size,S e.av,vx]
def bQ:Ty aT where
 size:=7
 rd:=fun I cs e=> ∃va vx,cs=dI e va vx∧aZ lD I va e.aj∧aZ lY I vx e.aA
 len:=fun⟨_,_,h,_⟩=>by rw[h];rfl
 one:=fun⟨va,vx,h,h1,h2⟩ u hu=>by
  rw[h]at hu;simp at hu;rcases hu with rfl|rfl|rfl|rfl|rfl|rfl|rfl<;>first|rfl|exact h1.one|exact h2.one
 mono:=fun hI ⟨va,vx,h,h1,h2⟩=>⟨va,vx,h,h1.mono hI,h2.mono hI⟩
structure Qk (w:World) (b o:Nat) (e:aT) (va vx:Value):Prop where
 c0:w.cell? ⟨b,o,none⟩=some (.int .i64 e.au)
 c1:w.cell? ⟨b,o+1,none⟩=some (S e.ag)
 c2:w.cell? ⟨b,o+2,none⟩=some va
 c3:w.cell? ⟨b,o+3,none⟩=some (S e.target)
 c4:w.cell? ⟨b,o+4,none⟩=some (.int .i64 e.size)
 c5:w.cell? ⟨b,o+5,none⟩=some (S e.av)
 c6:w.cell? ⟨b,o+6,none⟩=some vx
theorem yu{l:List aT}(h:aZ bQ I v l)(hw:Ok I w)(i:Nat)(hi:i<l.length):∃x va vx b off cap,l[i]=x∧v= .slice (some ⟨b,off,none⟩) l.length cap∧
 Qk w b (off+i*7) x va vx∧aZ lD I va x.aj∧aZ lY I vx x.aA:=by
 obtain⟨b,off,cap,cs,hv,⟨va,vx,fE,h1,h2⟩,hc⟩:=h.at_ hw hi;subst fE;exact⟨_,va,vx,b,off,cap,rfl,hv,⟨hc 0 _ rfl,hc 1 _ rfl,hc 2 _ rfl,hc 3 _ rfl,hc 4 _ rfl,hc 5 _ rfl,hc 6 _ rfl⟩,h1,h2⟩
theorem Xqo:∀(s:af),Lib.split s [47]=dR [] s:=by
 have key:∀(n:Nat) (s:af),s.length≤n→Lib.split s [47]=dR [] s:=by
  intro n;induction n with
  |zero=>
   intro s h;have:s=[]:=List.eq_nil_of_length_eq_zero (by omega);subst this;rfl
  |succ n ih=>
   intro s h;rcases Lib.index_spec s [47]with⟨h1,h2⟩|⟨i,h1,h2,h3,h4⟩
   ·have hn:∀c∈s,c≠47:=by
     intro c hc e;obtain⟨j,hj,rfl⟩:=List.getElem_of_mem hc;have:=h2 j (by omega);unfold Lib.occAt at this;rw[List.drop_eq_getElem_cons hj,e]at this;simp at this
    have h5:=P7 s [] [] hn;rw[List.append_nil,List.nil_append]at h5;rw[h5,Lib.split,Lib.count_miss h1];rfl
   ·have hi:i<s.length∧s[i]?=some 47:=by
     have h6:=Lib.occAt_head rfl h3;exact⟨(List.getElem?_eq_some_iff.1 h6).1,h6⟩
    have hn:∀c∈s.take i,c≠47:=by
     intro c hc e;obtain⟨j,hj,rfl⟩:=List.getElem_of_mem hc;have El:j<i:=by simp at hj;omega
     have:=h4 j El;unfold Lib.occAt at this;rw[List.drop_eq_getElem_cons (by omega)]at this;rw[List.getElem_take]at e;rw[e]at this;simp at this
    have hs:s=s.take i++47::s.drop (i+1):=by
     conv=>lhs;rw[←List.take_append_drop i s,List.drop_eq_getElem_cons hi.1]
     have:=hi.2;rw[List.getElem?_eq_getElem hi.1]at this;rw[Option.some.inj this]
    have h5:=P7 (s.take i) [] (47::s.drop (i+1)) hn;rw[←hs,List.nil_append]at h5;rw[h5,dR,if_pos (by rfl),←ih (s.drop (i+1)) (by rw[List.length_drop];omega)];rw[Lib.split,Lib.count_hit (by simp) h1,Nat.add_comm,Lib.splitK,if_neg (by rw[h1];simp),h1];rfl
 exact fun s=>key s.length s (Qn _)
theorem Xud(l:List af):Lib.join l [47]=dY l:=by
 induction l with
 |nil=>rfl
 |cons p l ih=>
  cases l with
  |nil=>simp[Lib.join,List.intercalate,dY]
  |cons q l=>
   rw[dY,←ih];simp[Lib.join,List.intercalate]
def bX(r:Nat):Bool:=!(decide (97≤r)&&decide (r≤122) || decide (48≤r)&&decide (r≤57) || decide (r=46) || decide (r=95) || decide (r=45))
theorem WY(c:UInt8):bJ c=!(bX c.toNat):=by
 have e:∀n:Nat,n<256→(c==UInt8.ofNat n)=decide (c.toNat=n):=fun n hn=>by
  rw[Bool.eq_iff_iff,beq_iff_eq,decide_eq_true_iff];constructor
  ·intro h;rw[h];simp;omega
  ·intro h;have:c=UInt8.ofNat c.toNat:=by simp
   rw[this,h]
 unfold bJ bX;rw[show(46:UInt8)=UInt8.ofNat 46 from rfl,show(95:UInt8)=UInt8.ofNat 95 from rfl,show(45:UInt8)=UInt8.ofNat 45 from rfl,e 46 (by omega),e 95 (by omega),e 45 (by omega)];simp[UInt8.le_iff_toNat_le]
theorem Xdu{r:Nat}(h:128≤r):bX r=true:=by
 unfold bX;simp;omega
theorem Xug(s:ByteArray):∀(f pos:Nat),s.size≤pos+f→decide (0≤Lib.idxFuncFrom bX true s f pos)=!((s.data.toList.drop pos).all bJ):=by
 intro f;induction f with
 |zero=>
  intro pos h;have hl:s.data.toList.length=s.size:=Array.length_toList;rw[List.drop_of_length_le (by omega)];rfl
 |succ f ih=>
  intro pos h;have hl:s.data.toList.length=s.size:=Array.length_toList;rw[Lib.idxFuncFrom];by_cases hp:pos<s.size
  ·rw[if_pos hp,List.drop_eq_getElem_cons (by omega),List.all_cons];have hb:s.data.toList[pos]'(by omega)=s[pos]'hp:=by
    rw[Array.getElem_toList];rfl
   rw[hb];by_cases ha:(s[pos]'hp).toNat<128
   ·rw[decode_ascii s pos hp ha];have hk:=WY (s[pos]'hp);cases hn:bX (s[pos]'hp).toNat
    ·rw[if_neg (by simp),hk,hn,ih (pos+1) (by omega)];simp
    ·rw[if_pos rfl,hk,hn];simp
   ·have hd:=decode_high s pos hp (by omega);rw[if_pos (Xdu hd.1),WY,Xdu (by omega)];simp
  ·rw[if_neg hp,List.drop_of_length_le (by omega)];rfl
theorem Xuh(s:af):decide (0≤Lib.idxFunc bX true ⟨s.toArray⟩)=!(s.all bJ):=by
 have:=Xug ⟨s.toArray⟩ (⟨s.toArray⟩:ByteArray).size 0 (by omega);rw[Lib.idxFunc,this];simp
def cmpL(a b:List af):Int:=if jO a b then -1 else if jO b a then 1 else 0
theorem Xsu(a b:af):iU a b=cmpL (els a) (els b):=rfl
theorem Xl6(x:af)(a b:List af):cmpL (x::a) (x::b)=cmpL a b:=by
 unfold cmpL;rw[jO,jO,zU];simp
theorem Xga{x y:af}(h:Op.bytesLess x y=true)(a b:List af):cmpL (x::a) (y::b)= -1:=by
 unfold cmpL;rw[jO,h];simp
theorem Xgb{x y:af}(h:Op.bytesLess y x=true)(a b:List af):cmpL (x::a) (y::b)=1:=by
 unfold cmpL;rw[jO,jO,h,OP h];have:(x==y)=false:=by simpa using(OQ h).symm
 rw[this];simp
theorem Xl5{a b:List af}{k:Nat}(h:a.take k=b.take k)(ha:k≤a.length)(hb:k≤b.length):cmpL a b=cmpL (a.drop k) (b.drop k):=by
 induction k generalizing a b with
 |zero=>rfl
 |succ k ih=>
  cases a with
  |nil=>simp at ha
  |cons x a=>
   cases b with
   |nil=>simp at hb
   |cons y b=>
    simp only[List.take_succ_cons,List.cons.injEq]at h;obtain⟨rfl,h⟩:=h;rw[Xl6,List.drop_succ_cons,List.drop_succ_cons];exact ih h (by simpa using ha) (by simpa using hb)
theorem gm{t:TypeId}(h:P.underlying t=some .string)(s:af)(i:Int)(j:Nat)(hi:i=(j:Int))(hj:j<s.length)(W:World):(Instr.index t (S s) (.int .i64 i)).run P W= .ok (.int .u8 ((s.getD j 0).toNat:Nat)) W:=by
 subst hi;rw[S,run_index_string W t _ .i64 _ h];have dM:(⟨s.toArray⟩:ByteArray).size=s.length:=by simp[ByteArray.size]
 rw[dif_pos ⟨by omega,by rw[dM];omega⟩];have e:(⟨s.toArray⟩:ByteArray)[((j:Nat):Int).toNat]'(by rw[dM];simpa using hj)=s.getD j 0:=by
  simp[List.getD,List.getElem?_eq_getElem hj,ByteArray.getElem_eq_getElem_data]
 rw[e]
theorem DY{l:List af}(h:aZ iE I v l)(hw:Ok I w)(i:Nat)(hi:i<l.length):∃s b off cap,l[i]=s∧v= .slice (some ⟨b,off,none⟩) l.length cap∧
 w.cell? ⟨b,off+i,none⟩=some (S s):=by
 obtain⟨b,off,cap,cs,hv,fE,hc⟩:=h.at_ hw hi;have kI:cs=[S l[i]]:=fE;subst kI;have:=hc 0 _ rfl;exact⟨_,b,off,cap,rfl,hv,by simpa[iE,Ty.flat]using this⟩
theorem Xti:(Tryz.prog.info? 9).map (fun i=>(i.zero,i.size,i.bytes))=some (some (.string ⟨#[]⟩),1,16):=by kernel_rfl
theorem Ql:dS Tryz.prog 126 9 iE 16:=dS.of Tryz.underlying126 Xti rfl (by decide) rfl
theorem Ux(c:UInt8)(n:Nat)(hn:n<256):(((c.toNat:Nat):Int)==(n:Int))=(c==UInt8.ofNat n):=by
 rw[Bool.eq_iff_iff,beq_iff_eq,beq_iff_eq];constructor
 ·intro h;have h':c.toNat=n:=by omega
  rw[←h'];simp
 ·intro h;rw[h];simp;omega
theorem OT(I:IH)(s:af)(hs:s.length≤4294967280)(w:World)(hw:Ok I w):
 Calls Tryz.prog 170 #[S s] w (Lt iE I w (els s)):=by
 have iR:∀b,w.heap.size≤b→I b=none:=fun b hb=>hw.fresh hb;have kw:=Qh iR;clear iR;have bu:=Qh (show aK iE 9 I (w.alloc (.cells #[] 9)) w.heap.size (.slice (some ⟨w.heap.size,0,none⟩) 0 0) []from⟨[],World.ownsRow_made w #[] 0 (Qn _) (Nat.zero_le _) (by simp),bA.nil _ _⟩);by_cases h0:s=[]
 ·have Hs:=Qh (show els s=[] by rw[h0];rfl);have f1:(s==[])=true:=by rw[h0];rfl
  have f2:s.isEmpty=true:=by rw[h0];rfl
  have f3:(!s.isEmpty)=false:=by rw[h0];rfl
  clear h0;go_enter Tryz.func170,Tryz.ntmps170
  go_wp2;go_ret;obtain⟨I',jC,ku,lX,_⟩:=bu.O.freeze (hw.alloc _) kw.O;rw[Hs.O];exact⟨_,I',rfl,(Qb _ _).alloc (Qn _) _,jC,ku,lX⟩
 ·have Hs:=Qh (show els s=dR [] s by rw[els,if_neg h0]);have f1:(s==[])=false:=by simpa using h0
  have f2:s.isEmpty=false:=by cases s<;>simp_all
  have f3:(!s.isEmpty)=true:=by rw[f2];rfl
  clear h0;go_enter Tryz.func170,Tryz.ntmps170
  go_wp2_with fail
  go_loopw [3,4,5] (fun s3 s4 s5 wr=> ∃(k:Nat) (out:List af) (p:af),k≤s.length∧s5= .int .i64 k∧s4=S p∧aK iE 9 I wr w.heap.size s3 out∧out.length≤k∧p.length≤k∧out++dR p (s.drop k)=dR [] s∧Below w.heap.size w wr) (fun _ _ i _=>s.length-(intOf i).toNat)
  case atStart=>exact⟨0,[],[],Nat.zero_le _,rfl,rfl,bu.O,Qn _,Qn _,rfl,(Qb _ _).alloc (Qn _) _⟩
  case round=>
   clear bu;obtain⟨k,out,p,hk,rfl,rfl,bg,F3,nV,hr,hb⟩:=hrel;have Hr:=Qh hr;have bL:=Qh bg;have dG:Ok I wr:=hw.below (Qn _) hb;clear hr bg;by_cases hlt:k<s.length
   ·have hx:=gm Tryz.underlying9 s (k:Int) k rfl hlt;have hd:s.drop k=s.getD k 0::s.drop (k+1):=by rw[List.drop_eq_getElem_cons hlt];simp[List.getD,hlt]
    have rQ:(s.drop k).take 1=[s.getD k 0]:=by rw[hd];rfl
    have ny:=Qh rQ;have jk:dR [] s=out++(if s.getD k 0==47 then p::dR [] (s.drop (k+1))else dR (p++[s.getD k 0]) (s.drop (k+1))):=by rw[←Hr.O,hd];rfl
    have he:=Ux (s.getD k 0) 47 (by decide);generalize hg:s.getD k 0=ch at hx jk he ny;have bu:=Qh jk;clear hd rQ jk hg;have wL:IntKind.i64.wrap ((k:Int)+1)=(k:Int)+1:=IntWalk.i64_in _ (by omega);cases hc:(ch==47)
    ·rw[show(UInt8.ofNat 47)=47 from rfl,hc]at he;have iL:=Qh (show out++dR (p++[ch]) (s.drop (k+1))=dR [] s by rw[bu.O,hc];rfl);clear hc;go_wp2;go_roundw;case rel=>exact⟨k+1,out,p++[ch],by omega,by go_num,(by first|rfl|(simp[S,←ny.O];done)|(congr;simp[←ny.O])),bL.O,by omega,(by simp;omega),iL.O,hb⟩
     case measure=>simp[intOf];omega
    ·rw[show(UInt8.ofNat 47)=47 from rfl,hc]at he;have iL:=Qh (show(out++[p])++dR [] (s.drop (k+1))=dR [] s by rw[bu.O,hc];simp);clear hc;go_wp2_with (at_builtin;refine pE (w0:=wr) Ql rfl _ _ rfl _ _ _ rfl bL.O p [S p] _ rfl rfl (by omega) (by omega) (Below.size hb) ?_)
     intro v9 w9 bD bP;have gP:=Below.own hb bP bL.O (Qn _) (Below.size hb);go_wp2;go_roundw;case rel=>exact⟨k+1,out++[p],[],by omega,by go_num,rfl,bD,(by simp;omega),(by simp),iL.O,gP⟩
     case measure=>simp[intOf];omega
   ·have wh:=Qh (show out++[p]=dR [] s by rw[←Hr.O,List.drop_of_length_le (by omega)];rfl);go_wp2_with (at_builtin;refine pE (w0:=wr) Ql rfl _ _ rfl _ _ _ rfl bL.O p [S p] _ rfl rfl (by omega) (by omega) (Below.size hb) ?_)
    intro v9 w9 bD bP;have gP:=Below.own hb bP bL.O (Qn _) (Below.size hb);have tY:Ok I w9:=Ok.own dG bP bL.O kw.O;have Qm:=Qh bD;clear bD bP;go_wp2;go_ret;obtain⟨I',jC,ku,lX,_⟩:=Qm.O.freeze tY kw.O;rw[Hs.O,←wh.O];exact⟨_,I',rfl,gP,jC,ku,lX⟩
theorem Xlh(c:UInt8):bJ c=(decide (97≤c.toNat)&&decide (c.toNat≤122) || decide (48≤c.toNat)&&decide (c.toNat≤57) || decide (c.toNat=46) || decide (c.toNat=95) || decide (c.toNat=45)):=by
 rw[WY,bX,Bool.not_not]
theorem Xdr(s:af)(hs:s.length≤9223372036854775807)(w:World):
 Calls Tryz.prog 98 #[S s] w fun e w'=>e= .returned (.bool (comp s))∧Below w.heap.size w w':=by
 by_cases h1:1≤s.length;case neg=>
  have ng:decide (0<s.length)=false:=Qf (by omega);have o7:=Qh (show comp s=false by simp[comp,h1]);go_enter Tryz.func98,Tryz.ntmps98
  go_wp2_with fail
  go_loop [3,4] (fun s3 s4=>s3= .bool false∧s4= .int .i64 0) (fun _ _=>0)
  case atStart=>exact⟨rfl,rfl⟩
  case round=>
   obtain⟨rfl,rfl⟩:=hrel;go_wp2;go_ret;exact⟨ib o7.O.symm,Qb _ _⟩
 have ng:decide (0<s.length)=true:=Qt (by omega);by_cases pz:s.length≤32;case neg=>
  have rR:decide (s.length≤32)=false:=Qf pz;have o7:=Qh (show comp s=false by simp[comp,pz]);go_enter Tryz.func98,Tryz.ntmps98
  go_wp2_with fail
  go_loop [3,4] (fun s3 s4=>s3= .bool false∧s4= .int .i64 0) (fun _ _=>0)
  case atStart=>exact⟨rfl,rfl⟩
  case round=>
   obtain⟨rfl,rfl⟩:=hrel;go_wp2;go_ret;exact⟨ib o7.O.symm,Qb _ _⟩
 have rR:decide (s.length≤32)=true:=Qt pz;by_cases F4:s=[46];case pos=>
  subst F4;have o7:=Qh (show comp [46]=false by rfl);clear hs h1 ng pz rR;go_enter Tryz.func98,Tryz.ntmps98
  go_wp2_with fail
  go_loop [3,4] (fun s3 s4=>s3= .bool false∧s4= .int .i64 0) (fun _ _=>0)
  case atStart=>exact⟨rfl,rfl⟩
  case round=>
   obtain⟨rfl,rfl⟩:=hrel;go_wp2;go_ret;exact⟨ib o7.O.symm,Qb _ _⟩
 have f46:(s !=[46])=true:=by simpa using F4
 have WZ:(s==[46])=false:=by simpa using F4
 by_cases JB:s=[46,46];case pos=>
  subst JB;have o7:=Qh (show comp [46,46]=false by rfl);clear hs h1 ng pz rR F4 f46 WZ;go_enter Tryz.func98,Tryz.ntmps98
  go_wp2_with fail
  go_loop [3,4] (fun s3 s4=>s3= .bool false∧s4= .int .i64 0) (fun _ _=>0)
  case atStart=>exact⟨rfl,rfl⟩
  case round=>
   obtain⟨rfl,rfl⟩:=hrel;go_wp2;go_ret;exact⟨ib o7.O.symm,Qb _ _⟩
 have f47:(s !=[46,46])=true:=by simpa using JB
 have g47:(s==[46,46])=false:=by simpa using JB
 have o7:=Qh (show comp s=s.all bJ by simp[comp,h1,pz,f46,f47]);clear F4 JB;go_enter Tryz.func98,Tryz.ntmps98
 go_wp2_with fail
 go_loop [3,4] (fun s3 s4=> ∃(k:Nat) (b:Bool),k≤s.length∧s4= .int .i64 k∧s3= .bool b∧(s.take k).all bJ=b) (fun _ i=>s.length-(intOf i).toNat)
 case atStart=>exact⟨0,true,Nat.zero_le _,rfl,rfl,rfl⟩
 case round=>
  obtain⟨k,b,hk,rfl,rfl,hr⟩:=hrel;have Hr:=Qh hr;clear hr;cases b
  ·have qR:=Qh (show s.all bJ=false by
    cases h:s.all bJ with
    |false=>rfl
    |true=>
     have:(s.take k).all bJ=true:=List.all_eq_true.2 fun x hx=>List.all_eq_true.1 h x (List.mem_of_mem_take hx);rw[Hr.O]at this;exact absurd this (by simp))
   go_wp2;go_ret;exact⟨ib (by rw[o7.O,qR.O]),Qb _ _⟩
  ·by_cases hlt:k<s.length
   ·have hx:=gm Tryz.underlying9 s (k:Int) k rfl hlt;have oz:=Xlh (s.getD k 0);have ny:=Qh (show s.take (k+1)=s.take k++[s.getD k 0] by rw[List.take_succ_eq_append_getElem hlt];simp[List.getD,hlt]);have tQ:(s.getD k 0).toNat<256:=(s.getD k 0).toNat_lt;generalize s.getD k 0=ch at oz ny hx tQ;generalize ch.toNat=c at oz hx tQ;rcases(show(97≤c∧c≤122)∨122<c∨(48≤c∧c≤57)∨c=46∨c=95∨c=45∨(c<48∧c≠46∧c≠45)∨(57<c∧c<97∧c≠95) by omega)with hc|hc|hc|hc|hc|hc|hc|hc
    ·have d97:decide (97≤(c:Int))=true:=by simp;omega
     have d122:decide ((c:Int)≤122)=true:=by simp;omega
     have d48:decide (48≤(c:Int))=true:=by simp;omega
     have d57:decide ((c:Int)≤57)=false:=by simp;omega
     have n46:((c:Int)==46)=false:=by simp;omega
     have n95:((c:Int)==95)=false:=by simp;omega
     have n45:((c:Int)==45)=false:=by simp;omega
     have o8:=Qh (show bJ ch=true by rw[oz];simp;omega);clear oz hc;go_wp2;go_round;case rel=>exact⟨k+1,true,by omega,by go_num,rfl,by rw[ny.O,List.all_append,Hr.O];simp[o8.O]⟩
     case measure=>simp[intOf];omega
    ·have d97:decide (97≤(c:Int))=true:=by simp;omega
     have d122:decide ((c:Int)≤122)=false:=by simp;omega
     have d48:decide (48≤(c:Int))=true:=by simp;omega
     have d57:decide ((c:Int)≤57)=false:=by simp;omega
     have n46:((c:Int)==46)=false:=by simp;omega
     have n95:((c:Int)==95)=false:=by simp;omega
     have n45:((c:Int)==45)=false:=by simp;omega
     have o8:=Qh (show bJ ch=false by rw[oz];simp;omega);clear oz hc;go_wp2;go_round;case rel=>exact⟨k+1,false,by omega,by go_num,rfl,by rw[ny.O,List.all_append,Hr.O];simp[o8.O]⟩
     case measure=>simp[intOf];omega
    ·have d97:decide (97≤(c:Int))=false:=by simp;omega
     have d122:decide ((c:Int)≤122)=true:=by simp;omega
     have d48:decide (48≤(c:Int))=true:=by simp;omega
     have d57:decide ((c:Int)≤57)=true:=by simp;omega
     have n46:((c:Int)==46)=false:=by simp;omega
     have n95:((c:Int)==95)=false:=by simp;omega
     have n45:((c:Int)==45)=false:=by simp;omega
     have o8:=Qh (show bJ ch=true by rw[oz];simp;omega);clear oz hc;go_wp2;go_round;case rel=>exact⟨k+1,true,by omega,by go_num,rfl,by rw[ny.O,List.all_append,Hr.O];simp[o8.O]⟩
     case measure=>simp[intOf];omega
    ·have d97:decide (97≤(c:Int))=false:=by simp;omega
     have d122:decide ((c:Int)≤122)=true:=by simp;omega
     have d48:decide (48≤(c:Int))=false:=by simp;omega
     have d57:decide ((c:Int)≤57)=true:=by simp;omega
     have n46:((c:Int)==46)=true:=by simp;omega
     have n95:((c:Int)==95)=false:=by simp;omega
     have n45:((c:Int)==45)=false:=by simp;omega
     have o8:=Qh (show bJ ch=true by rw[oz];simp;omega);clear oz hc;go_wp2;go_round;case rel=>exact⟨k+1,true,by omega,by go_num,rfl,by rw[ny.O,List.all_append,Hr.O];simp[o8.O]⟩
     case measure=>simp[intOf];omega
    ·have d97:decide (97≤(c:Int))=false:=by simp;omega
     have d122:decide ((c:Int)≤122)=true:=by simp;omega
     have d48:decide (48≤(c:Int))=true:=by simp;omega
     have d57:decide ((c:Int)≤57)=false:=by simp;omega
     have n46:((c:Int)==46)=false:=by simp;omega
     have n95:((c:Int)==95)=true:=by simp;omega
     have n45:((c:Int)==45)=false:=by simp;omega
     have o8:=Qh (show bJ ch=true by rw[oz];simp;omega);clear oz hc;go_wp2;go_round;case rel=>exact⟨k+1,true,by omega,by go_num,rfl,by rw[ny.O,List.all_append,Hr.O];simp[o8.O]⟩
     case measure=>simp[intOf];omega
    ·have d97:decide (97≤(c:Int))=false:=by simp;omega
     have d122:decide ((c:Int)≤122)=true:=by simp;omega
     have d48:decide (48≤(c:Int))=false:=by simp;omega
     have d57:decide ((c:Int)≤57)=true:=by simp;omega
     have n46:((c:Int)==46)=false:=by simp;omega
     have n95:((c:Int)==95)=false:=by simp;omega
     have n45:((c:Int)==45)=true:=by simp;omega
     have o8:=Qh (show bJ ch=true by rw[oz];simp;omega);clear oz hc;go_wp2;go_round;case rel=>exact⟨k+1,true,by omega,by go_num,rfl,by rw[ny.O,List.all_append,Hr.O];simp[o8.O]⟩
     case measure=>simp[intOf];omega
    ·have d97:decide (97≤(c:Int))=false:=by simp;omega
     have d122:decide ((c:Int)≤122)=true:=by simp;omega
     have d48:decide (48≤(c:Int))=false:=by simp;omega
     have d57:decide ((c:Int)≤57)=true:=by simp;omega
     have n46:((c:Int)==46)=false:=by simp;omega
     have n95:((c:Int)==95)=false:=by simp;omega
     have n45:((c:Int)==45)=false:=by simp;omega
     have o8:=Qh (show bJ ch=false by rw[oz];simp;omega);clear oz hc;go_wp2;go_round;case rel=>exact⟨k+1,false,by omega,by go_num,rfl,by rw[ny.O,List.all_append,Hr.O];simp[o8.O]⟩
     case measure=>simp[intOf];omega
    ·have d97:decide (97≤(c:Int))=false:=by simp;omega
     have d122:decide ((c:Int)≤122)=true:=by simp;omega
     have d48:decide (48≤(c:Int))=true:=by simp;omega
     have d57:decide ((c:Int)≤57)=false:=by simp;omega
     have n46:((c:Int)==46)=false:=by simp;omega
     have n95:((c:Int)==95)=false:=by simp;omega
     have n45:((c:Int)==45)=false:=by simp;omega
     have o8:=Qh (show bJ ch=false by rw[oz];simp;omega);clear oz hc;go_wp2;go_round;case rel=>exact⟨k+1,false,by omega,by go_num,rfl,by rw[ny.O,List.all_append,Hr.O];simp[o8.O]⟩
     case measure=>simp[intOf];omega
   ·have aC:s.take k=s:=List.take_of_length_le (by omega);rw[aC]at Hr;clear aC;go_wp2;go_ret;exact⟨ib (by rw[o7.O,Hr.O]),Qb _ _⟩
theorem Xpv{l:List af}(q:af)(h:l≠[]):dY (l++[q])=dY l++47::q:=by
 induction l with
 |nil=>exact absurd rfl h
 |cons p l ih=>
  cases l with
  |nil=>rfl
  |cons r l=>
   rw[List.cons_append,JO p (by simp),JO p (by simp),ih (by simp)];simp
theorem Xdy:∀(a b:List af),(dY a).length≤(dY (a++b)).length
 | [],_=>Nat.zero_le _
 | [p],[]=>Qn _
 | [p],q::b=>by
   rw[List.singleton_append,show dY [p]=p from rfl,JO p (show q::b≠[] by simp)];simp
 |p::q::a,b=>by
  have:=Xdy (q::a) b;rw[List.cons_append,JO p (by simp),JO p (by simp)];simp only[List.length_append,List.length_cons];omega
theorem W9(l:List af)(k:Nat):(dY (l.take k)).length≤(dY l).length:=by
 conv=>rhs;rw[←List.take_append_drop k l]
 exact Xdy _ _
theorem Xpj(I:IH)(v:Value)(l:List af)(hv:aZ iE I v l)(hj:(dY l).length≤4294967296)(w:World)(hw:Ok I w):
 Calls Tryz.prog 174 #[v] w fun e w'=>e= .returned (S (dY l))∧Below w.heap.size w w':=by
 have hlen:=hv.bF;obtain⟨ao,cap,rfl,dO,fJ,_⟩:=id hv;have Hv:=Qh hv;clear hv;have Hj:=Qh hj;go_enter Tryz.func174,Tryz.ntmps174
 go_wp2_with fail
 go_loopw [3,4] (fun s3 s4 wr=> ∃(k:Nat) (p:af),k≤l.length∧s4= .int .i64 k∧s3=S p∧dY (l.take k)=p∧Below w.heap.size w wr) (fun _ i _=>l.length-(intOf i).toNat)
 case atStart=>exact⟨0,[],Nat.zero_le _,rfl,rfl,rfl,Qb _ _⟩
 case round=>
  obtain⟨k,p,hk,rfl,rfl,hr,hb⟩:=hrel;have Hr:=Qh hr;clear hr;have dG:Ok I wr:=hw.below (Qn _) hb;by_cases hlt:k<l.length
  ·obtain⟨q,b,off,cap',Em,cZ,hc⟩:=DY Hv.O dG k hlt;cases cZ;have ny:=Qh (show l.take (k+1)=l.take k++[q] by rw[List.take_succ_eq_append_getElem hlt,Em]);have K7:=W9 l (k+1);have Hjk:=Qh K7;clear Em K7;by_cases vG:k=0
   ·have hd:decide (0<k)=false:=Qf (by omega);have Hn:=Qh (show dY (l.take (k+1))=p++q by rw[ny.O,←Hr.O,vG];simp[dY]);have vZ:k<1:=by omega
    have uF:p.length+q.length≤4294967296:=by have:=Hjk.O;rw[Hn.O]at this;simp at this;omega
    clear vG hd;go_wp2;go_roundw;case rel=>exact⟨k+1,p++q,by omega,by go_num,(by first|rfl|simp),Hn.O,hb⟩
    case measure=>simp[intOf];omega
   ·have hd:decide (0<k)=true:=Qt (by omega);have Hn:=Qh (show dY (l.take (k+1))=p++[47]++q by
     rw[ny.O,Xpv q (fun e=>by have:=congrArg List.length e;rw[List.length_take]at this;simp only[List.length_nil]at this;omega),Hr.O];simp)
    have vZ:0<k:=by omega
    have uF:p.length+q.length+1≤4294967296:=by have:=Hjk.O;rw[Hn.O]at this;simp at this;omega
    clear vG hd;go_wp2;go_roundw;case rel=>exact⟨k+1,p++[47]++q,by omega,by go_num,(by first|rfl|simp),Hn.O,hb⟩
    case measure=>simp[intOf];omega
  ·have Hn:=Qh (show dY l=p by rw[←Hr.O,List.take_of_length_le (by omega)]);go_wp2;go_ret;exact⟨PV Hn.O.symm,hb⟩
theorem aZ.BO{l:List α}{ao:Option Addr}{m cap:Nat}(h:aZ T I (.slice ao m cap) l)(hn:n≤l.length):aZ T I (.slice ao n cap) (l.take n):=by
 obtain⟨Xa,cap',e,h1,h2,h3⟩:=h;injection e with e1 e2 e3
 subst e1 e3;have hl:(l.take n).length=n:=by rw[List.length_take,Nat.min_eq_left hn]
 refine⟨_,_,by rw[hl],by omega,h2,fun h0=> ?_⟩;obtain⟨b,off,arr,k1,k2,k3⟩:=h3 (by omega);refine⟨b,off,arr,k1,k2,fun i hi=> ?_⟩;obtain⟨cs,c1,c2⟩:=k3 i (by omega);exact⟨cs,by rw[List.getElem_take];exact c1,c2⟩
theorem Xb:∀(s p:af) (q:af),q∈dR p s→q.length≤p.length+s.length
 | [],p,q,h=>by
   rw[dR]at h;simp at h;subst h;simp
 |c::s,p,q,h=>by
  rw[dR]at h;split at h
  ·rcases List.mem_cons.1 h with rfl|h
   ·simp only[List.length_cons];omega
   ·have:=Xb s [] q h;simp only[List.length_cons,List.length_nil]at this ⊢;omega
  ·have:=Xb s _ q h;simp only[List.length_append,List.length_cons,List.length_nil]at this ⊢;omega
theorem Xsk{q:af}(h:q∈els s):q.length≤s.length:=by
 unfold els at h;split at h
 ·exact absurd h (by simp)
 ·have:=Xb s [] q h;simpa using this
theorem Uy(I:IH)(s:af)(w:World)(hw:Ok I w):
 Calls Tryz.prog 119 #[S s] w fun e w'=>e= .returned (.int .i64 (aO s))∧Below w.heap.size w w':=by
 by_cases Xc:s.length≤200;case neg=>
  have hd:decide (200<s.length)=true:=Qt (by omega);have Hp:=Qh (show aO s=6 by rw[aO,if_pos (by omega)]);go_enter Tryz.func119,Tryz.ntmps119
  go_wp2;go_ret;exact⟨di Hp.O.symm,Qb _ _⟩
 have hd:decide (200<s.length)=false:=Qf (by omega);have qp:=Qh (fun(q:af) (h:q∈els s)=>Xsk h);have Hp:=Qh (show aO s=if 8<(els s).length then 6 else if(els s).all comp then 0 else 7 by rw[aO,if_neg (by omega)]);go_enter Tryz.func119,Tryz.ntmps119
 go_wp2_with fail
 refine(OT I s (by omega) _ hw).mono ?_;generalize els s=l at qp Hp;rintro e w1 ⟨v1,I1,rfl,aD,gu,aM,gy⟩;obtain⟨ao,cap,rfl,dO,fJ,_⟩:=id gy;have uz:=Qh gy;clear gy gu;by_cases h8:l.length≤8;case neg=>
  have hd8:decide (8<l.length)=true:=Qt (by omega);have HZ:=Qh (show aO s=6 by rw[Hp.O,if_pos (by omega)]);go_wp2;go_ret;exact⟨di HZ.O.symm,aD⟩
 have hd8:decide (8<l.length)=false:=Qf (by omega);have HZ:=Qh (show aO s=if l.all comp then 0 else 7 by rw[Hp.O,if_neg (by omega)]);go_wp2_with fail
 go_loopw [4] (fun s4 wr=> ∃k:Nat,k≤l.length∧s4= .int .i64 k∧(l.take k).all comp=true∧Below w1.heap.size w1 wr) (fun i _=>l.length-(intOf i).toNat)
 case atStart=>exact⟨0,Nat.zero_le _,rfl,rfl,Qb _ _⟩
 case round=>
  obtain⟨k,hk,rfl,hr,hb⟩:=hrel;have Hr:=Qh hr;clear hr;have dG:Ok I1 wr:=aM.below (Qn _) hb;by_cases hlt:k<l.length
  ·obtain⟨q,b,off,cap',Em,cZ,hc⟩:=DY uz.O dG k hlt;cases cZ;have hqm:q∈l:=by rw[←Em];exact List.getElem_mem hlt
   have Xd:q.length≤9223372036854775807:=by have:=qp.O q hqm;omega
   have Hqm:=Qh hqm;have ny:=Qh (show l.take (k+1)=l.take k++[q] by rw[List.take_succ_eq_append_getElem hlt,Em]);clear Em hqm;go_wp2_with fail
   refine(Xdr q Xd _).mono ?_;rintro e w2 ⟨rfl,aL⟩;have aY:=hb.trans (aL.mono hb.size);clear aL;cases hq:comp q
   ·have Hn:=Qh (show aO s=7 by
     rw[HZ.O,if_neg];intro h;rw[List.all_eq_true.1 h q Hqm.O]at hq;exact absurd hq (by simp))
    clear hq;go_wp2;go_ret;exact⟨di Hn.O.symm,aD.trans (aY.mono aD.size)⟩
   ·have Hn:=Qh (show(l.take (k+1)).all comp=true by rw[ny.O,List.all_append,Hr.O];simp[hq]);clear hq;go_wp2;go_roundw;case rel=>exact⟨k+1,by omega,by go_num,Hn.O,aY⟩
    case measure=>simp[intOf];omega
  ·have Hn:=Qh (show aO s=0 by
    have:=Hr.O;rw[List.take_of_length_le (by omega)]at this;rw[HZ.O,if_pos this])
   go_wp2;go_ret;exact⟨di Hn.O.symm,aD.trans (hb.mono aD.size)⟩
def lZ(s:af):List af×Int:=if aO s=0 then(els s,0)else([],aO s)
theorem JX(h:aO s=0):lZ s=(els s,0):=by rw[lZ,if_pos h]
theorem Qo(h:aO s≠0):lZ s=([],aO s):=by rw[lZ,if_neg h]
theorem Xhb(I:IH)(s:af)(w:World)(hw:Ok I w):
 Calls Tryz.prog 173 #[S s] w (xz iE I w (lZ s).1 (lZ s).2):=by
 have Hc:=Qh (Uy I s w hw);by_cases h0:aO s=0
 ·have hs:=(Ey h0).1;rw[h0]at Hc;have xB:=Qh (JX h0);clear h0;go_enter Tryz.func173,Tryz.ntmps173
  go_wp2_with fail
  refine Hc.O.mono ?_;rintro e w1 ⟨rfl,aD⟩;have aM:Ok I w1:=hw.below (Qn _) aD;go_wp2_with fail
  refine(OT I s (by omega) _ aM).mono ?_;rintro e w2 ⟨v2,I2,rfl,aL,oQ,aX,kD⟩;go_wp2;go_ret2;rw[xB.O];exact⟨v2,I2,rfl,aD.trans (aL.mono aD.size),oQ.mono aD.size,aX,kD⟩
 ·have xB:=Qh (Qo h0);obtain⟨q,hq⟩:∃q,aO s=q:=⟨_,rfl⟩;have hn:(q !=0)=true:=by rw[←hq];simpa using h0
  rw[hq]at xB Hc;clear hq h0;go_enter Tryz.func173,Tryz.ntmps173
  go_wp2_with fail
  refine Hc.O.mono ?_;rintro e w1 ⟨rfl,aD⟩;have aM:Ok I w1:=hw.below (Qn _) aD;go_wp2;go_ret2;rw[xB.O];exact⟨_,I,rfl,aD,Ext.refl _ _,aM,aZ.nil _ _⟩
def og(s:af):af×Int:=if aO s≠0 then([],aO s)else if s=[]then([],1)else(nZ s,0)
theorem Xkz(I:IH)(s:af)(w:World)(hw:Ok I w):
 Calls Tryz.prog 123 #[S s] w fun e w'=>e= .returned (.tuple #[S (og s).1,.int .i64 (og s).2])∧Below w.heap.size w w':=by
 by_cases h0:aO s=0
 ·have oC:=Qh (fun w hw=>by have:=Xhb I s w hw;rw[JX h0]at this;exact this);have hs:=(Ey h0).1;have H8:=Qh (show og s=if s=[]then([],1)else(nZ s,0) by rw[og,if_neg (by omega)]);have xk:(dY (els s)).length≤200:=by rw[P6];exact hs
  have xm:=Xsj (s:=s);have gz:nZ s=dY ((els s).take ((els s).length-1)):=by rw[nZ,List.dropLast_eq_take]
  have Qp:=Qh (W9 (els s) ((els s).length-1));generalize els s=l at oC xk xm gz Qp;have qp:=Qh xm;have Xe:=Qh gz;clear h0 xm gz;go_enter Tryz.func123,Tryz.ntmps123
  go_wp2_with fail
  refine(oC.O _ hw).mono ?_;rintro e w1 ⟨v1,I1,rfl,aD,gu,aM,gy⟩;obtain⟨ao,cap,rfl,dO,fJ,_⟩:=id gy;have uz:=Qh gy;clear gy gu;have vM:maxLen=9223372036854775807:=rfl;by_cases tT:l.length=0
  ·have Hn:=Qh (show og s=([],1) by rw[H8.O,if_pos (qp.O.1 (List.eq_nil_of_length_eq_zero tT))]);have hz:((l.length:Int)==0)=true:=by rw[tT];rfl
   clear tT vM;go_wp2;go_ret2;rw[Hn.O];exact⟨rfl,aD⟩
  ·have Hn:=Qh (show og s=(dY (l.take (l.length-1)),0) by
    rw[H8.O,if_neg (fun e=>tT (by rw[qp.O.2 e];rfl)),Xe.O])
   have hz:((l.length:Int)==0)=false:=by rw[beq_eq_false_iff_ne];omega
   have hlp:1≤l.length:=by omega
   have hi:IntKind.i64.wrap ((l.length:Int)-1)=(l.length:Int)-1:=IntWalk.i64_in _ (by omega);have hj:(0:Int)≤(l.length:Int)-1:=by omega
   have JA:(l.length:Int)-1≤(cap:Int):=by omega
   have hm:((l.length:Int)-1).toNat=l.length-1:=by omega
   have H9:=Qh (uz.O.BO (n:=l.length-1) (by omega));have Xf:=Qh (show(dY (l.take (l.length-1))).length≤4294967296 by have:=Qp.O;omega);clear tT vM;go_wp2_with fail
   refine(Xpj I1 _ _ H9.O Xf.O _ aM).mono ?_;rintro e w2 ⟨rfl,aL⟩;go_wp2;go_ret2;rw[Hn.O];exact⟨rfl,aD.trans (aL.mono aD.size)⟩
 ·have oC:=Qh (fun w hw=>by have:=Xhb I s w hw;rw[Qo h0]at this;exact this);obtain⟨q,hq⟩:∃q,aO s=q:=⟨_,rfl⟩;have hn:(q !=0)=true:=by rw[←hq];simpa using h0
  have H8:=Qh (show og s=([],q) by rw[og,if_pos h0,hq]);rw[hq]at oC;clear hq h0;go_enter Tryz.func123,Tryz.ntmps123
  go_wp2_with fail
  refine(oC.O _ hw).mono ?_;rintro e w1 ⟨v1,I1,rfl,aD,gu,aM,gy⟩;obtain⟨ao,cap,rfl,dO,fJ,_⟩:=id gy;go_wp2;go_ret2;rw[H8.O];exact⟨rfl,aD⟩
