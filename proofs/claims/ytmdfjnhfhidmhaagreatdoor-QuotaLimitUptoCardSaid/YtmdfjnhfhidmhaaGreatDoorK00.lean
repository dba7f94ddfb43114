/-
  Walks and laws that the claim's theorem uses: texts Base Ord AtP Pth Tre CkO PlT RhP Trl Own Tail Ret Ent Ptl PaA PaB PaC, joined; comments out. Conditions: as each theorem says.
-/
import Derived.WalkKit
import Derived.WalkSpells
import Derived.WalkLawsBesides
import Derived.Lib.Hide
import Derived.Lib.QuietBelow
import Derived.Deep.QuietTactic
import Derived.BigQuiet
import Derived.Laws.StructEq
import Derived.StillTail
import Derived.Lib.SplitLaws
import Derived.Lib.Join
import Derived.Laws.RangeAny
import Derived.Shelf.GgClosure.StringsIndexFunc
import Derived.Test.YtmdfjnhfhidmhaaGreatDoorRows
set_option linter.all false
namespace Go.Proofs.YtmdfjnhfhidmhaaGreatDoor
open Go.RowKit
theorem Qh {p:Prop} (h:p):Hid p:=h
theorem Qn (n:Nat):n≤n:=Nat.le_refl n
theorem Qb (n:Nat) (w:World):Below n w w:=Below.refl n w
theorem Qt {p:Prop} [Decidable p] (h:p):decide p=true:=decide_eq_true h
theorem Qf {p:Prop} [Decidable p] (h:¬p):decide p=false:=decide_eq_false h
abbrev Bytes:=List UInt8
abbrev S (l:Bytes):Value:= .string ⟨l.toArray⟩
abbrev IH:=Nat→Option (Array Value)
def Ok (I:IH) (w:World):Prop:= ∀b c,I b=some c→ ∃e f,w.heap[b]? =some (.cells c e f)
def Ext (n:Nat) (I I':IH):Prop:= ∀b,b<n→I' b=I b
def IH.add (I:IH) (b:Nat) (c:Array Value):IH:=fun k=>if k=b then some c else I k
section
variable {I I' I'':IH} {w w':World} {b n m:Nat} {c:Array Value}
theorem Ok.lt (h:Ok I w) (hb:I b=some c):b<w.heap.size:=by
 obtain ⟨e,f,hh⟩:=h b c hb
 exact (Array.getElem?_eq_some_iff.1 hh).1
theorem Ok.fresh (h:Ok I w) (hb:w.heap.size≤b):I b=none:=by
 cases hc:I b with
 |none=>rfl
 |some c=>have:=h.lt hc;omega
theorem Ok.cell (h:Ok I w) (hb:I b=some c) (j:Nat):w.cell? ⟨b,j,none⟩=c[j]? :=by
 obtain ⟨e,f,hh⟩:=h b c hb
 simp [World.cell?,hh]
theorem Ok.of_block (h:Ok I w) (k:∀b c,I b=some c→w'.heap[b]? =w.heap[b]?):Ok I w':=fun b c hb=>by
 rw [k b c hb];exact h b c hb
theorem Ok.below {B:Nat} (h:Ok I w) (hB:w.heap.size≤B) (hb:Below B w w'):Ok I w':=
 h.of_block fun b _ hc=>hb.block b (Nat.lt_of_lt_of_le (h.lt hc) hB)
theorem Ok.alloc (h:Ok I w) (o:Obj):Ok I (w.alloc o):=h.of_block fun b _ hc=>Below.heap_alloc w o b (h.lt hc)
theorem Ok.setCell (h:Ok I w) {a:Addr} (ha:I a.block=none) (u:Value):Ok I (w.setCell a u):=h.of_block fun b _ hc=>
 Below.heap_setCell w a u b (fun e=>by subst e;rw [ha] at hc;cases hc)
theorem Ok.grown (h:Ok I w) {row:Option Nat} (hg:w.grownBy w' row) (hr:∀g,row=some g→I g=none):Ok I w':=h.of_block fun b _ hc=>
 hg.block b (h.lt hc) (fun e=>by have:=hr b e.symm;rw [this] at hc;cases hc)
theorem Ok.add {e:TypeId} {f:Nat × Nat} (h:Ok I w) (hb:w.heap[b]? =some (.cells c e f)):Ok (I.add b c) w:=fun k d hk=>by
 unfold IH.add at hk
 split at hk
 ·rename_i e';subst e';cases hk;exact ⟨e,f,hb⟩
 ·exact h k d hk
theorem Ext.refl (n:Nat) (I:IH):Ext n I I:=fun _ _=>rfl
theorem Ext.trans (h:Ext n I I') (k:Ext m I' I'') (hm:n≤m):Ext n I I'':=fun b hb=>(k b (by omega)).trans (h b hb)
theorem Ext.mono (h:Ext n I I') (hm:m≤n):Ext m I I':=fun b hb=>h b (by omega)
theorem Ext.add (hb:n≤b) (I:IH) (c:Array Value):Ext n I (I.add b c):=fun k hk=>by
 unfold IH.add;rw [if_neg (by omega)]
theorem Ext.keep (h:Ext n I I') (hok:Ok I w) (hn:w.heap.size≤n):∀b c,I b=some c→I' b=some c:=fun b c hc=>by
 rw [h b (Nat.lt_of_lt_of_le (hok.lt hc) hn)];exact hc
end
structure Ty (α:Type) where
 size:Nat
 rd:IH→List Value→α→Prop
 len:∀ {I cs x},rd I cs x→cs.length=size
 one:∀ {I cs x},rd I cs x→ ∀u∈cs,u.oneCell'=true
 mono:∀ {I I':IH} {cs x},(∀b c,I b=some c→I' b=some c)→rd I cs x→rd I' cs x
def Ty.flat {α:Type} (size:Nat) (enc:α→List Value) (hl:∀x,(enc x).length=size) (h1:∀x,∀u∈enc x,u.oneCell'=true):Ty α where
 size:=size
 rd:=fun _ cs x=>cs=enc x
 len:=fun h=>by rw [h];exact hl _
 one:=fun h=>by rw [h];exact h1 _
 mono:=fun _ h=>h
def tInt (k:IntKind):Ty Int:=Ty.flat 1 (fun n=> [.int k n]) (fun _=>rfl) (fun _ u h=>by simp at h;subst h;rfl)
def tStr:Ty Bytes:=Ty.flat 1 (fun s=> [S s]) (fun _=>rfl) (fun _ u h=>by simp at h;subst h;rfl)
def Lies {α:Type} (T:Ty α) (I:IH) (arr:Array Value) (off:Nat) (l:List α):Prop:=
 ∀i (h:i<l.length),∃cs,T.rd I cs l[i]∧ ∀j u,cs[j]? =some u→arr[off+(i*T.size+j)]? =some u
def RdS {α:Type} (T:Ty α) (I:IH) (v:Value) (l:List α):Prop:=
 ∃(ao:Option Addr) (cap:Nat),v= .slice ao l.length cap∧l.length≤cap∧cap≤maxLen∧
  (0<l.length→ ∃b off arr,ao=some ⟨b,off,none⟩∧I b=some arr∧Lies T I arr off l)
section
variable {α:Type} {T:Ty α} {I I':IH} {w:World} {v:Value} {l:List α}
theorem Lies.mono {arr:Array Value} {off:Nat} (hI:∀b c,I b=some c→I' b=some c) (h:Lies T I arr off l):Lies T I' arr off l:=fun i hi=>
 let ⟨cs,h1,h2⟩:=h i hi
 ⟨cs,T.mono hI h1,h2⟩
theorem RdS.mono (hI:∀b c,I b=some c→I' b=some c) (h:RdS T I v l):RdS T I' v l:=by
 obtain ⟨ao,cap,hv,h1,h2,h3⟩:=h
 refine ⟨ao,cap,hv,h1,h2,fun hl=> ?_⟩
 obtain ⟨b,off,arr,e1,e2,e3⟩:=h3 hl
 exact ⟨b,off,arr,e1,hI _ _ e2,e3.mono hI⟩
theorem RdS.nil (T:Ty α) (I:IH):RdS T I (.slice none 0 0) []:=⟨none,0,rfl,Qn _,Nat.zero_le _,fun h=>absurd h (by simp)⟩
theorem RdS.one {v:Value} (h:RdS T I v l):v.oneCell'=true:=by
 obtain ⟨ao,cap,rfl,_⟩:=h;rfl
def tSl (T:Ty α):Ty (List α) where
 size:=1
 rd:=fun I cs l=> ∃v,cs= [v]∧RdS T I v l
 len:=fun ⟨v,h,_⟩=>by rw [h];rfl
 one:=fun ⟨v,h,k⟩ u hu=>by rw [h] at hu;simp at hu;subst hu;exact k.one
 mono:=fun hI ⟨v,h,k⟩=>⟨v,h,k.mono hI⟩
theorem RdS.at_ (h:RdS T I v l) (hw:Ok I w) {i:Nat} (hi:i<l.length):∃b off cap cs,v= .slice (some ⟨b,off,none⟩) l.length cap∧T.rd I cs l[i]∧
 ∀j u,cs[j]? =some u→w.cell? ⟨b,off+i*T.size+j,none⟩=some u:=by
 obtain ⟨ao,cap,hv,h1,h2,h3⟩:=h
 obtain ⟨b,off,arr,rfl,e2,e3⟩:=h3 (by omega)
 obtain ⟨cs,k1,k2⟩:=e3 i hi
 exact ⟨b,off,cap,cs,hv,k1,fun j u hu=>by rw [hw.cell e2,Nat.add_assoc];exact k2 j u hu⟩
theorem RdS.len_le (h:RdS T I v l):l.length≤9223372036854775807:=by
 obtain ⟨ao,cap,hv,h1,h2,h3⟩:=h
 unfold maxLen at h2;omega
end
@[go_sem] theorem mk_append_mk (x y:Bytes):(ByteArray.mk x.toArray++ByteArray.mk y.toArray)=ByteArray.mk (x++y).toArray:=ByteArray.mk_append_mk x y
@[go_sem] theorem mk_extract (x:Bytes) (a b:Nat):(ByteArray.mk x.toArray).extract a b=ByteArray.mk ((x.drop a).take (b-a)).toArray:=by
  apply ByteArray.ext
  simp [ByteArray.data_extract]
theorem Xqn {a b:Bytes} (h:a=b):Ending.returned (S a)= .returned (S b):=by rw [h]
theorem Xaj {k:IntKind} {a b:Int} (h:a=b):Ending.returned (.int k a)= .returned (.int k b):=by rw [h]
theorem Xay {a b:Bool} (h:a=b):Ending.returned (.bool a)= .returned (.bool b):=by rw [h]
@[go_sem] def eqL (d:Nat) (xs ys:Array Value):List (TypeId × Nat × Bool)→Sem Bool
  | []=>pure true
  |(t,o,b)::fs=>if b then eqL d xs ys fs else do
     let a ←part t xs o
     let b ←part t ys o
     let r ←Op.equalIn d t a b
     if (!r)=true then pure false else eqL d xs ys fs
theorem Xcx (d : Nat) (xs ys : Array Value) : ∀ fs : List Field, Op.eqFields d xs ys fs = eqL d xs ys (fs.map fun f => (f.type, f.offset, f.name == "_"))
 | []=>rfl
 |f::fs=>by
  simp only [Op.eqFields,List.map_cons,eqL,Xcx d xs ys fs]
  by_cases h : f.name = "_" <;> simp [h]
theorem Xcb {P:Program} {t:TypeId} (xs ys:Array Value) (L:List (TypeId × Nat × Bool)) (W:World) (h1:P.underlying t=some (.struct (P.fieldsOf t))) (h2:P.stoodInHeld t=false)
 (hL : (P.fieldsOf t).toList.map (fun f => (f.type, f.offset, f.name == "_")) = L) :
 (binOp .neq t (.agg xs) (.agg ys)).run P W=((eqL 9999 xs ys L).run P W).andThen fun b w'=> .ok (.bool (!b)) w':=by
 rw [run_neq_struct,show (10000:Nat)=9999+1 from rfl,run_equalIn_agg _ _ _ _ _ h1 h2,Xcx,hL]
end Go.Proofs.YtmdfjnhfhidmhaaGreatDoor
namespace Go.Proofs.YtmdfjnhfhidmhaaGreatDoor
theorem Xa2:∀a:Bytes,Op.bytesLess a a=false
 | []=>rfl
 |x::a=>by rw [Op.bytesLess,Xa2 a];simp
theorem Xdz:∀ {a b c:Bytes},Op.bytesLess a b=true→Op.bytesLess b c=true→Op.bytesLess a c=true
 |_,[],_,h,_=>by simp [Op.bytesLess] at h
 |_,_::_,[],_,h=>by simp [Op.bytesLess] at h
 | [],_::_,_::_,_,_=>rfl
 |x::a,y::b,z::c,h,k=>by
  simp only [Op.bytesLess,Bool.or_eq_true,Bool.and_eq_true,decide_eq_true_eq,beq_iff_eq] at h k ⊢
  rcases h with h|⟨rfl,h⟩<;>rcases k with k|⟨rfl,k⟩
  ·exact .inl (UInt8.lt_trans h k)
  ·exact .inl h
  ·exact .inl k
  ·exact .inr ⟨rfl,Xdz h k⟩
theorem Xc3:∀(a b:Bytes),Op.bytesLess a b=true∨a=b∨Op.bytesLess b a=true
 | [],[]=> .inr (.inl rfl)
 | [],_::_=> .inl rfl
 |_::_,[]=> .inr (.inr rfl)
 |x::a,y::b=>by
  simp only [Op.bytesLess,Bool.or_eq_true,Bool.and_eq_true,decide_eq_true_eq,beq_iff_eq,List.cons.injEq]
  by_cases h:x=y
  ·subst h
   rcases Xc3 a b with h|h|h
   ·exact .inl (.inr ⟨rfl,h⟩)
   ·exact .inr (.inl ⟨rfl,h⟩)
   ·exact .inr (.inr (.inr ⟨rfl,h⟩))
  ·rcases UInt8.lt_or_lt_of_ne h with h|h
   ·exact .inl (.inl h)
   ·exact .inr (.inr (.inl h))
theorem Xd0 {a b:Bytes} (h:Op.bytesLess a b=true):Op.bytesLess b a=false:=by
 cases k:Op.bytesLess b a
 ·rfl
 ·have:=Xdz h k;rw [Xa2] at this;exact absurd this (by simp)
theorem Xpo {a b:Bytes} (h:Op.bytesLess a b=true):a≠b:=by
 rintro rfl;rw [Xa2] at h;exact absurd h (by simp)
section
variable {α:Type} {key:α→Bytes}
def Srt (key:α→Bytes) (l:List α):Prop:=l.Pairwise fun a b=>Op.bytesLess (key a) (key b)=true
end
end Go.Proofs.YtmdfjnhfhidmhaaGreatDoor
namespace Go.Proofs.YtmdfjnhfhidmhaaGreatDoor
structure At where
 k:Bytes
 v:Bytes
deriving DecidableEq
def keyChar (c:UInt8):Bool:=decide (97≤c)&&decide (c≤122) || decide (48≤c)&&decide (c≤57) || c==46 || c==95 || c==45
def keyOk (s:Bytes):Bool:=decide (1≤s.length)&&decide (s.length≤32)&&s.all keyChar
def atErr (x:At):Int:=if keyOk x.k=false then 7 else if 64<x.v.length then 6 else 0
def chkFrom:Option At→List At→Int
 |_,[]=>0
 |p,x::l=>if atErr x≠0 then atErr x else if (p.any fun q=>q.k==x.k) then 8 else if (p.any fun q=>Op.bytesLess x.k q.k) then 14 else chkFrom (some x) l
def chk (l:List At):Int:=if 16<l.length then 6 else chkFrom none l
def getA (l:List At) (k:Bytes):Bytes × Bool:=match l.find? (fun x=>x.k==k) with|some x=>(x.v,true)|none=>([],false)
def remA (l:List At) (k:Bytes):List At:=l.filter fun x=> !(x.k==k)
def putGo (x:At):Bool→List At→List At→List At
 |d,out,[]=>if d then out else out++ [x]
 |d,out,y::l=>putGo x (d || !(Op.bytesLess y.k x.k)) ((if !d&& !(Op.bytesLess y.k x.k) then out++ [x] else out)++(if y.k==x.k then [] else [y])) l
def putA (l:List At) (x:At):List At:=putGo x false [] l
def mrgA (a b:List At):List At:=b.foldl putA a
def setA (l:List At) (x:At):List At × Int:=if chk l≠0 then ([],chk l) else if atErr x≠0 then ([],atErr x) else if 16<(putA l x).length then ([],6) else (putA l x,0)
def mergeA (a b:List At):List At × Int:=if chk a≠0 then ([],chk a) else if chk b≠0 then ([],chk b) else if 16<(mrgA a b).length then ([],6) else (mrgA a b,0)
def GreatA (l:List At):Prop:=30<l.length∨ ∃x∈l,100<x.k.length∨100<x.v.length
structure Okl (l:List At):Prop where
 len:l.length≤16
 all:∀x∈l,atErr x=0
 srt:Srt At.k l
theorem Xiq:∀ {A B:List Bytes},A.Nodup→(∀x∈A,x∈B)→A.length≤B.length
 | [],_,_,_=>Nat.zero_le _
 |x::A,B,hn,hs=>by
  obtain ⟨h1,h2⟩:=List.nodup_cons.1 hn
  have hx:=hs x (List.mem_cons_self ..)
  have h3:=Xiq (B:=B.erase x) h2 fun y hy=>(List.mem_erase_of_ne (a:=y) (b:=x) (fun e=>h1 (by rw [←e];exact hy))).2 (hs y (List.mem_cons_of_mem _ hy))
  rw [List.length_erase_of_mem hx] at h3
  have:=List.length_pos_of_mem hx
  simp only [List.length_cons]
  omega
theorem len_le {A B:List At} (hA:Srt At.k A) (h:∀x∈A,∃y∈B,y.k=x.k):A.length≤B.length:=by
 have hn:(A.map At.k).Nodup:=List.pairwise_map.2 (hA.imp fun {a b} hab=>Xpo hab)
 have hs:∀k∈A.map At.k,k∈B.map At.k:=by
  intro k hk
  obtain ⟨x,hx,rfl⟩:=List.mem_map.1 hk
  obtain ⟨y,hy,e⟩:=h x hx
  rw [←e]
  exact List.mem_map_of_mem hy
 simpa using Xiq hn hs
end Go.Proofs.YtmdfjnhfhidmhaaGreatDoor
namespace Go.Proofs.YtmdfjnhfhidmhaaGreatDoor
def elsGo:Bytes→Bytes→List Bytes
 |p,[]=> [p]
 |p,c::s=>if c==47 then p::elsGo [] s else elsGo (p++ [c]) s
def els (s:Bytes):List Bytes:=if s= [] then [] else elsGo [] s
def comp (s:Bytes):Bool:=decide (1≤s.length)&&decide (s.length≤32)&&s != [46]&&s != [46,46]&&s.all keyChar
def pathErr (s:Bytes):Int:=if 200<s.length then 6 else if 8<(els s).length then 6 else if (els s).all comp then 0 else 7
def joinP:List Bytes→Bytes
 | []=> []
 | [p]=>p
 |p::q::l=>p++47::joinP (q::l)
def under (p d:Bytes):Bool:=decide (pathErr p=0)&&decide (pathErr d=0)&&(els d).isPrefixOf (els p)
def ltP:List Bytes→List Bytes→Bool
 | [],[]=>false
 | [],_::_=>true
 |_::_,[]=>false
 |x::a,y::b=>Op.bytesLess x y || (x==y&&ltP a b)
theorem Xd5:∀a,ltP a a=false
 | []=>rfl
 |x::a=>by rw [ltP,Xa2,Xd5 a];simp
theorem Xb2:∀ {a b c},ltP a b=true→ltP b c=true→ltP a c=true
 | [],[],_,h,_=>absurd h (by simp [ltP])
 | [],_::_,[],_,h=>absurd h (by simp [ltP])
 | [],_::_,_::_,_,_=>rfl
 |_::_,[],_,h,_=>absurd h (by simp [ltP])
 |_::_,_::_,[],_,h=>absurd h (by simp [ltP])
 |x::a,y::b,z::c,h,k=>by
  rw [ltP,Bool.or_eq_true,Bool.and_eq_true] at h k ⊢
  rcases h with h|⟨h,h'⟩<;>rcases k with k|⟨k,k'⟩
  ·exact .inl (Xdz h k)
  ·have e:y=z:=by simpa using k
   rw [←e];exact .inl h
  ·have e:x=y:=by simpa using h
   rw [e];exact .inl k
  ·have e:x=y:=by simpa using h
   rw [e];exact .inr ⟨k,Xb2 h' k'⟩
theorem Xis:∀a b,ltP a b=true∨a=b∨ltP b a=true
 | [],[]=> .inr (.inl rfl)
 | [],_::_=> .inl rfl
 |_::_,[]=> .inr (.inr rfl)
 |x::a,y::b=>by
  rcases Xc3 x y with h|h|h
  ·exact .inl (by rw [ltP,h];rfl)
  ·subst h
   rcases Xis a b with k|k|k
   ·exact .inl (by rw [ltP,k];simp)
   ·exact .inr (.inl (by rw [k]))
   ·exact .inr (.inr (by rw [ltP,k];simp))
  ·exact .inr (.inr (by rw [ltP,h];rfl))
theorem Xfg {a b:List Bytes} (h:ltP a b=true):ltP b a=false:=by
 cases k:ltP b a with
 |false=>rfl
 |true=>have:=Xb2 h k;rw [Xd5] at this;exact absurd this (by simp)
theorem Xit {a b:List Bytes} (h:ltP a b=true):a≠b:=fun e=>by
 rw [e,Xd5] at h;exact absurd h (by simp)
def cmpP (a b:Bytes):Int:=if ltP (els a) (els b) then -1 else if ltP (els b) (els a) then 1 else 0
theorem Xhy:∀(s p:Bytes),elsGo p s≠ []
 | [],p=>by simp [elsGo]
 |c::s,p=>by
  rw [elsGo]
  by_cases h:(c==47)=true
  ·rw [if_pos h];simp
  ·rw [if_neg h];exact Xhy s _
theorem Xtm {s:Bytes}:els s= []↔s= []:=by
 unfold els
 by_cases h:s= []
 ·rw [if_pos h];simp [h]
 ·rw [if_neg h];simp [h,Xhy]
theorem Xby (p:Bytes) {l:List Bytes} (h:l≠ []):joinP (p::l)=p++47::joinP l:=by
 cases l with
 |nil=>exact absurd rfl h
 |cons q l=>rfl
theorem Xdb:∀(s p:Bytes),joinP (elsGo p s)=p++s
 | [],p=>by simp [elsGo,joinP]
 |c::s,p=>by
  rw [elsGo]
  by_cases h:(c==47)=true
  ·rw [if_pos h,Xby _ (Xhy s []),Xdb s []]
   have:c=47:=by simpa using h
   simp [this]
  ·rw [if_neg h,Xdb s];simp
theorem Xds (s:Bytes):joinP (els s)=s:=by
 unfold els
 by_cases h:s= []
 ·rw [if_pos h,h];rfl
 ·rw [if_neg h,Xdb];simp
theorem Xto {a b:Bytes} (h:els a=els b):a=b:=by rw [←Xds a,h,Xds]
theorem Xch:∀(s p r:Bytes),(∀c∈s,c≠47)→elsGo p (s++r)=elsGo (p++s) r
 | [],p,r,_=>by simp
 |c::s,p,r,h=>by
  have hc:¬(c==47)=true:=by simpa using h c (List.mem_cons_self ..)
  rw [List.cons_append,elsGo,if_neg hc,Xch s _ _ fun x hx=>h x (List.mem_cons_of_mem _ hx)]
  simp
theorem Xfy:∀(l:List Bytes),l≠ []→(∀p∈l,∀c∈p,c≠47)→elsGo [] (joinP l)=l
 | [],h,_=>absurd rfl h
 | [p],_,h=>by
   have:=Xch p [] [] (h p (by simp))
   rw [List.append_nil] at this
   rw [joinP,this];simp [elsGo]
 |p::q::l,_,h=>by
  rw [Xby p (by simp),Xch p [] _ (h p (by simp)),List.nil_append,elsGo,if_pos (by simp),Xfy (q::l) (by simp) fun x hx=>h x (List.mem_cons_of_mem _ hx)]
theorem Xpb {l:List Bytes} (h:∀p∈l,∀c∈p,c≠47) (hn:joinP l≠ []):els (joinP l)=l:=by
 have hl:l≠ []:=fun e=>hn (by rw [e];rfl)
 rw [els,if_neg hn,Xfy l hl h]
theorem Xjo {p:Bytes} (h:comp p=true):∀c∈p,c≠47:=by
 intro c hc e
 simp only [comp,Bool.and_eq_true,List.all_eq_true] at h
 have:=h.2 c hc
 rw [e] at this
 exact absurd this (by decide)
theorem Xtt {p:Bytes} (h:comp p=true):p≠ []:=by
 intro e
 rw [e] at h
 exact absurd h (by decide)
theorem Xbw {s:Bytes} (h:pathErr s=0):s.length≤200∧(els s).length≤8∧ ∀p∈els s,comp p=true:=by
 unfold pathErr at h
 by_cases h1:200<s.length
 ·rw [if_pos h1] at h;omega
 ·rw [if_neg h1] at h
  by_cases h2:8<(els s).length
  ·rw [if_pos h2] at h;omega
  ·rw [if_neg h2] at h
   by_cases h3:(els s).all comp=true
   ·exact ⟨by omega,by omega,by simpa using h3⟩
   ·rw [if_neg h3] at h;omega
end Go.Proofs.YtmdfjnhfhidmhaaGreatDoor
namespace Go.Proofs.YtmdfjnhfhidmhaaGreatDoor
structure Xt where
 s:Int
 o:Int
 n:Int
deriving DecidableEq
structure Ent where
 kind:Int
 path:Bytes
 attrs:List At
 target:Bytes
 size:Int
 digest:Bytes
 exts:List Xt
deriving DecidableEq
def digits (s:Bytes):Int:=s.foldl (fun n c=>10*n+((c.toNat:Int)-48)) 0
def dateOk (s:Bytes):Bool:=decide (1≤s.length)&&decide (s.length≤10)&& !(decide (1<s.length)&&s.head? ==some 48)&&s.all (fun c=>decide (48≤c)&&decide (c≤57))&&decide (digits s≤1000000000)
def targetOk (e:Ent):Bool:=if e.kind=3 then decide (1≤e.target.length)&&decide (e.target.length≤200) else if e.kind=5 then dateOk e.target else e.target.isEmpty
def xtBad (x:Xt):Bool:=decide (x.s<0) || decide (255<x.s) || decide (x.o<0) || decide (2147483647<x.o) || decide (x.n<1) || decide (65536<x.n) || (x.s==0&&x.o != 0)
def xtsErr (file:Bool):List Xt→Int
 | []=>0
 |x::l=>if file=false then 1 else if xtBad x then 2 else xtsErr file l
def xtSum (l:List Xt):Int:=(l.map Xt.n).sum
def entErr (e:Ent):Int:=
 if e.kind<1∨6<e.kind then 10
 else if pathErr e.path≠0 then pathErr e.path
 else if e.path= []∧e.kind<5 then 1
 else if chk e.attrs≠0 then chk e.attrs
 else if (e.attrs≠ []∧3<e.kind)∨targetOk e=false then 1
 else if e.size<0∨65536<e.size∨(e.kind≠1∧e.size≠0) then 2
 else if (e.kind=1∧e.digest.length≠32)∨(e.kind≠1∧e.digest≠ []) then 1
 else if xtsErr (e.kind==1) e.exts≠0 then xtsErr (e.kind==1) e.exts
 else if xtSum e.exts≠e.size then 1 else 0
def getT (t:List Ent) (p:Bytes):Option Ent:=t.find? fun x=>x.path==p
def dirErr (t:List Ent) (p:Bytes):Int:=if p= [] then 0 else match getT t p with|none=>9|some x=>if x.kind≠2 then 10 else 0
def upP (p:Bytes):Bytes:=joinP (els p).dropLast
def chkTFrom (t:List Ent):Option Ent→List Ent→Int
 |_,[]=>0
 |q,x::l=>if entErr x≠0 then entErr x else if x.kind≠1∧x.kind≠2∧x.kind≠3 then 10 else if (q.any fun y=> !(ltP (els y.path) (els x.path))) then 14 else if dirErr t (upP x.path)≠0 then dirErr t (upP x.path) else chkTFrom t (some x) l
def chkT (t:List Ent):Int:=chkTFrom t none t
def SrtT (t:List Ent):Prop:=t.Pairwise fun x y=>ltP (els x.path) (els y.path)=true
structure OkT (t:List Ent):Prop where
 ent:∀x∈t,entErr x=0
 kind:∀x∈t,x.kind=1∨x.kind=2∨x.kind=3
 srt:SrtT t
 up:∀x∈t,dirErr t (upP x.path)=0
theorem Xks (t:List Ent) (l:List Ent):∀q:Option Ent,chkTFrom t q l=0↔(∀x∈l,entErr x=0∧(x.kind=1∨x.kind=2∨x.kind=3)∧dirErr t (upP x.path)=0)∧(∀y,q=some y→ ∀x∈l,ltP (els y.path) (els x.path)=true)∧SrtT l:=by
 induction l with
 |nil=>intro q;simp [chkTFrom,SrtT]
 |cons x l ih=>
  intro q
  rw [chkTFrom]
  by_cases h0:entErr x=0
  case neg=>
   rw [if_pos h0]
   exact ⟨fun h=>absurd h h0,fun h=>absurd (h.1 x (List.mem_cons_self ..)).1 h0⟩
  rw [if_neg (by omega)]
  by_cases h1:x.kind=1∨x.kind=2∨x.kind=3
  case neg=>
   rw [if_pos (by omega)]
   exact ⟨fun h=>absurd h (by decide),fun h=>absurd (h.1 x (List.mem_cons_self ..)).2.1 h1⟩
  rw [if_neg (by omega)]
  by_cases h2:(q.any fun y=> !(ltP (els y.path) (els x.path)))=true
  ·rw [if_pos h2]
   refine ⟨fun h=>absurd h (by decide),fun h=> ?_⟩
   cases q with
   |none=>simp at h2
   |some y=>
    have:=h.2.1 y rfl x (List.mem_cons_self ..)
    simp [this] at h2
  rw [if_neg h2]
  have hq:∀y,q=some y→ltP (els y.path) (els x.path)=true:=by
   intro y hy
   subst hy
   simpa using h2
  by_cases h3:dirErr t (upP x.path)=0
  case neg=>
   rw [if_pos h3]
   exact ⟨fun h=>absurd h h3,fun h=>absurd (h.1 x (List.mem_cons_self ..)).2.2 h3⟩
  rw [if_neg (by omega),ih]
  constructor
  ·rintro ⟨a1,a2,a3⟩
   refine ⟨?_,?_,List.pairwise_cons.2 ⟨fun r hr=>a2 x rfl r hr,a3⟩⟩
   ·intro r hr
    rcases List.mem_cons.1 hr with rfl|hr
    ·exact ⟨h0,h1,h3⟩
    ·exact a1 r hr
   ·intro y hy r hr
    rcases List.mem_cons.1 hr with rfl|hr
    ·exact hq y hy
    ·exact Xb2 (hq y hy) (a2 x rfl r hr)
  ·rintro ⟨a1,_,a3⟩
   obtain ⟨b1,b2⟩:=List.pairwise_cons.1 a3
   exact ⟨fun r hr=>a1 r (List.mem_cons_of_mem _ hr),fun y hy r hr=>by cases hy;exact b1 r hr,b2⟩
theorem Xt1 (t:List Ent):chkT t=0↔OkT t:=by
 unfold chkT
 rw [Xks]
 constructor
 ·rintro ⟨a1,_,a3⟩
  exact ⟨fun x hx=>(a1 x hx).1,fun x hx=>(a1 x hx).2.1,a3,fun x hx=>(a1 x hx).2.2⟩
 ·rintro ⟨b1,b2,b3,b4⟩
  exact ⟨fun x hx=>⟨b1 x hx,b2 x hx,b4 x hx⟩,by simp,b3⟩
theorem SrtT.key {t:List Ent} (h:SrtT t) {x y:Ent} (hx:x∈t) (hy:y∈t) (e:x.path=y.path):x=y:=by
 induction t with
 |nil=>cases hx
 |cons z l ih=>
  obtain ⟨h1,h2⟩:=List.pairwise_cons.1 h
  rcases List.mem_cons.1 hx with hx|hx<;>rcases List.mem_cons.1 hy with hy|hy
  ·rw [hx,hy]
  ·exact absurd (by rw [←hx,e]) (Xit (h1 y hy))
  ·exact absurd (by rw [←hy,e]) (Xit (h1 x hx))
  ·exact ih h2 hx hy
theorem SrtT.ext:∀ {A B:List Ent},SrtT A→SrtT B→(∀x,x∈A↔x∈B)→A=B
 | [],[],_,_,_=>rfl
 | [],b::B,_,_,h=>absurd ((h b).2 (List.mem_cons_self ..)) (by simp)
 |a::A,[],_,_,h=>absurd ((h a).1 (List.mem_cons_self ..)) (by simp)
 |a::A,b::B,hA,hB,h=>by
  obtain ⟨a1,a2⟩:=List.pairwise_cons.1 hA
  obtain ⟨b1,b2⟩:=List.pairwise_cons.1 hB
  have e:a=b:=by
   rcases List.mem_cons.1 ((h a).1 (List.mem_cons_self ..)) with e|hab
   ·exact e
   ·rcases List.mem_cons.1 ((h b).2 (List.mem_cons_self ..)) with e|hba
    ·exact e.symm
    ·have k:=Xfg (a1 b hba)
     rw [b1 a hab] at k
     exact absurd k (by simp)
  subst e
  rw [SrtT.ext a2 b2 fun x=> ?_]
  have hx:=h x
  rw [List.mem_cons,List.mem_cons] at hx
  constructor
  ·intro hm
   rcases hx.1 (.inr hm) with e|hm'
   ·subst e;exact absurd rfl (Xit (a1 x hm))
   ·exact hm'
  ·intro hm
   rcases hx.2 (.inr hm) with e|hm'
   ·subst e;exact absurd rfl (Xit (b1 x hm))
   ·exact hm'
theorem Xev {t:List Ent} (h:SrtT t) {x:Ent} (hx:x∈t):getT t x.path=some x:=by
 unfold getT
 cases hf:t.find? (fun y=>y.path==x.path) with
 |none=>have:=List.find?_eq_none.1 hf x hx;simp at this
 |some y=>
  have h1:=List.find?_some hf
  rw [h.key (List.mem_of_find?_eq_some hf) hx (by simpa using h1)]
theorem Xi7 {t:List Ent} {p:Bytes} {x:Ent} (h:getT t p=some x):x∈t∧x.path=p:=⟨List.mem_of_find?_eq_some h,by have:=List.find?_some h;simpa using this⟩
theorem Xoz {t:List Ent} {p:Bytes} (h:∀x∈t,x.path≠p):getT t p=none:=List.find?_eq_none.2 fun x hx=>by simpa using h x hx
end Go.Proofs.YtmdfjnhfhidmhaaGreatDoor
namespace Go.Proofs.YtmdfjnhfhidmhaaGreatDoor
def ckH (h:Nat) (b:UInt8):Nat:=(2*h+40503*(b.toNat+1))%65536
def firstG:Bytes→Nat→Nat→Nat
 | [],i,_=>i
 |b::r,i,h=>if i+1=96∨(16≤i+1∧ckH h b<2048) then i+1 else firstG r (i+1) (ckH h b)
def firstP (s:Bytes):Nat:=firstG s 0 0
theorem Xft:∀(r:Bytes) (i h:Nat),i≤firstG r i h∧firstG r i h≤i+r.length
 | [],i,h=>⟨Qn _,by simp [firstG]⟩
 |b::r,i,h=>by
  have:=Xft r (i+1) (ckH h b)
  rw [firstG,List.length_cons]
  split<;>omega
theorem Xm3 (b:UInt8) (r:Bytes) (i h:Nat):i<firstG (b::r) i h:=by
 have:=(Xft r (i+1) (ckH h b)).1
 rw [firstG]
 split<;>omega
theorem Xc1 {s:Bytes} (h:s≠ []):0<firstP s:=by
 cases s with
 |nil=>exact absurd rfl h
 |cons b r=>exact Xm3 b r 0 0
theorem Xjc (s:Bytes):firstP s≤s.length:=by have:=(Xft s 0 0).2;unfold firstP;omega
def chunksF:Nat→Bytes→List Bytes
 |0,_=> []
 |n+1,s=>if s= [] then [] else s.take (firstP s)::chunksF n (s.drop (firstP s))
def chunksP (s:Bytes):List Bytes:=chunksF s.length s
theorem Xg7:∀(n m:Nat) (s:Bytes),s.length≤n→s.length≤m→chunksF n s=chunksF m s
 |0,m,s,h,_=>by
  have:s= []:=List.eq_nil_of_length_eq_zero (by omega)
  subst this
  cases m<;>simp [chunksF]
 |n+1,0,s,_,h=>by
  have:s= []:=List.eq_nil_of_length_eq_zero (by omega)
  subst this
  simp [chunksF]
 |n+1,m+1,s,h1,h2=>by
  rw [chunksF,chunksF]
  by_cases h0:s= []
  ·rw [if_pos h0,if_pos h0]
  ·have hp:=Xc1 h0
   rw [if_neg h0,if_neg h0,Xg7 n m _ (by rw [List.length_drop];omega) (by rw [List.length_drop];omega)]
theorem Xnc:chunksP []= []:=rfl
theorem Xf0 {s:Bytes} (h:s≠ []):chunksP s=s.take (firstP s)::chunksP (s.drop (firstP s)):=by
 have hp:=Xc1 h
 have hl:0<s.length:=List.length_pos_iff.2 h
 obtain ⟨n,hn⟩:∃n,s.length=n+1:=⟨s.length-1,by omega⟩
 unfold chunksP
 rw [hn,chunksF,if_neg h,Xg7 n (s.drop (firstP s)).length _ (by rw [List.length_drop];omega) (Qn _)]
theorem Xb7:∀(n:Nat) (s:Bytes),s.length≤n→(chunksP s).flatten=s∧(∀c∈chunksP s,c≠ [])∧(chunksP s).length≤s.length
 |0,s,h=>by
  have:s= []:=List.eq_nil_of_length_eq_zero (by omega)
  subst this
  exact ⟨rfl,fun _ h=>(by cases h),Qn _⟩
 |n+1,s,h=>by
  by_cases h0:s= []
  ·subst h0
   exact ⟨rfl,fun _ h=>(by cases h),Qn _⟩
  ·have hp:=Xc1 h0
   have hf:=Xjc s
   obtain ⟨h1,h2,h3⟩:=Xb7 n (s.drop (firstP s)) (by rw [List.length_drop];omega)
   rw [List.length_drop] at h3
   rw [Xf0 h0]
   refine ⟨by rw [List.flatten_cons,h1,List.take_append_drop],fun c hc=> ?_,by rw [List.length_cons];omega⟩
   rcases List.mem_cons.1 hc with rfl|hc
   ·intro e
    have:=congrArg List.length e
    rw [List.length_take] at this
    simp at this
    rcases this with h|h
    ·omega
    ·exact h0 h
   ·exact h2 c hc
theorem Xf1 (s:Bytes):(chunksP s).flatten=s:=(Xb7 _ s (Qn _)).1
theorem Xpl {s:Bytes}:∀c∈chunksP s,c≠ []:=(Xb7 _ s (Qn _)).2.1
theorem Xeb (s:Bytes):(chunksP s).length≤s.length:=(Xb7 _ s (Qn _)).2.2
structure Sg where
 n:Int
 d:Bytes
def zerosP:Bytes→Nat
 | []=>0
 |b::r=>if b=0 then zerosP r+1 else 0
theorem Xez:∀s:Bytes,zerosP s≤s.length
 | []=>Qn _
 |b::r=>by
  have:=Xez r
  rw [zerosP,List.length_cons]
  split<;>omega
def dataG (d:Bytes):List Sg:=if d= [] then [] else [⟨0,d⟩]
def segG:Nat→Bytes→Bytes→List Sg
 |0,acc,_=>dataG acc
 |f+1,acc,r=>
  if r= [] then dataG acc
  else if 32≤zerosP r then dataG acc++⟨(zerosP r:Nat),[]⟩::segG f [] (r.drop (zerosP r))
  else segG f (acc++r.take (max (zerosP r) 1)) (r.drop (max (zerosP r) 1))
def segR (acc r:Bytes):List Sg:=segG r.length acc r
def segsP (s:Bytes):List Sg:=segR [] s
theorem Xhg:∀(n m:Nat) (acc r:Bytes),r.length≤n→r.length≤m→segG n acc r=segG m acc r
 |0,m,acc,r,h,_=>by
  have:r= []:=List.eq_nil_of_length_eq_zero (by omega)
  subst this
  cases m<;>simp [segG]
 |n+1,0,acc,r,_,h=>by
  have:r= []:=List.eq_nil_of_length_eq_zero (by omega)
  subst this
  simp [segG]
 |n+1,m+1,acc,r,h1,h2=>by
  rw [segG,segG]
  by_cases h0:r= []
  ·rw [if_pos h0,if_pos h0]
  ·have hl:0<r.length:=List.length_pos_iff.2 h0
   rw [if_neg h0,if_neg h0]
   by_cases h3:32≤zerosP r
   ·rw [if_pos h3,if_pos h3,Xhg n m _ _ (by rw [List.length_drop];omega) (by rw [List.length_drop];omega)]
   ·rw [if_neg h3,if_neg h3,Xhg n m _ _ (by rw [List.length_drop];omega) (by rw [List.length_drop];omega)]
theorem Xsn (acc:Bytes):segR acc []=dataG acc:=rfl
theorem Xqh {acc r:Bytes} (h0:r≠ []) (h:32≤zerosP r):segR acc r=dataG acc++⟨(zerosP r:Nat),[]⟩::segR [] (r.drop (zerosP r)):=by
 have hl:0<r.length:=List.length_pos_iff.2 h0
 obtain ⟨n,hn⟩:∃n,r.length=n+1:=⟨r.length-1,by omega⟩
 unfold segR
 rw [hn,segG,if_neg h0,if_pos h,Xhg n _ _ _ (by rw [List.length_drop];omega) (Qn _)]
theorem Xqi {acc r:Bytes} (h0:r≠ []) (h:¬32≤zerosP r):segR acc r=segR (acc++r.take (max (zerosP r) 1)) (r.drop (max (zerosP r) 1)):=by
 have hl:0<r.length:=List.length_pos_iff.2 h0
 obtain ⟨n,hn⟩:∃n,r.length=n+1:=⟨r.length-1,by omega⟩
 unfold segR
 rw [hn,segG,if_neg h0,if_neg h,Xhg n _ _ _ (by rw [List.length_drop];omega) (Qn _)]
def segSz (l:List Sg):Nat:=(l.map fun g=>g.n.toNat+g.d.length).sum
theorem Xcy (g:Sg) (l:List Sg):segSz (g::l)=g.n.toNat+g.d.length+segSz l:=by simp [segSz]
theorem Xii (a b:List Sg):segSz (a++b)=segSz a+segSz b:=by simp [segSz]
theorem Xdd (d:Bytes):segSz (dataG d)=d.length∧ ∀g∈dataG d,(g.n=0∧g.d≠ [])∨(0<g.n∧g.d= []):=by
 unfold dataG
 split
 ·rename_i h;subst h;exact ⟨rfl,fun _ h=>(by cases h)⟩
 ·rename_i h
  refine ⟨by simp [segSz],fun g hg=> ?_⟩
  simp at hg
  subst hg
  exact .inl ⟨rfl,h⟩
theorem Xcz:∀(f:Nat) (acc r:Bytes),r.length≤f→segSz (segG f acc r)=acc.length+r.length∧ ∀g∈segG f acc r,(g.n=0∧g.d≠ [])∨(0<g.n∧g.d= [])
 |0,acc,r,h=>by
  have:r= []:=List.eq_nil_of_length_eq_zero (by omega)
  subst this
  exact Xdd acc
 |f+1,acc,r,h=>by
  rw [segG]
  by_cases h0:r= []
  ·subst h0;rw [if_pos rfl];exact Xdd acc
  ·have hl:0<r.length:=List.length_pos_iff.2 h0
   have hz:=Xez r
   rw [if_neg h0]
   by_cases h3:32≤zerosP r
   ·rw [if_pos h3]
    obtain ⟨h1,h2⟩:=Xcz f [] (r.drop (zerosP r)) (by rw [List.length_drop];omega)
    obtain ⟨d1,d2⟩:=Xdd acc
    rw [List.length_drop] at h1
    refine ⟨by rw [Xii,Xcy,h1,d1];simp;omega,fun g hg=> ?_⟩
    rcases List.mem_append.1 hg with hg|hg
    ·exact d2 g hg
    ·rcases List.mem_cons.1 hg with rfl|hg
     ·exact .inr ⟨by show (0:Int)<(zerosP r:Nat);omega,rfl⟩
     ·exact h2 g hg
   ·rw [if_neg h3]
    obtain ⟨h1,h2⟩:=Xcz f (acc++r.take (max (zerosP r) 1)) (r.drop (max (zerosP r) 1)) (by rw [List.length_drop];omega)
    refine ⟨by rw [h1];simp;omega,h2⟩
theorem Xdi (s:Bytes):segSz (segsP s)=s.length:=by
 have:=(Xcz s.length [] s (Qn _)).1
 simpa [segsP,segR] using this
theorem Xe5 {s:Bytes}:∀g∈segsP s,(g.n=0∧g.d≠ [])∨(0<g.n∧g.d= []):=(Xcz s.length [] s (Qn _)).2
theorem Xe4:∀ {l:List Sg},(∀g∈l,(g.n=0∧g.d≠ [])∨(0<g.n∧g.d= []))→l.length≤segSz l
 | [],_=>Qn _
 |g::l,h=>by
  have h1:=h g (List.mem_cons_self ..)
  have h2:=Xe4 (l:=l) fun x hx=>h x (List.mem_cons_of_mem _ hx)
  rw [Xcy,List.length_cons]
  rcases h1 with ⟨_,h1⟩|⟨h1,_⟩
  ·have:=List.length_pos_iff.2 h1;omega
  ·omega
theorem Xk4 (s:Bytes):(segsP s).length≤s.length:=by rw [←Xdi s];exact Xe4 Xe5
end Go.Proofs.YtmdfjnhfhidmhaaGreatDoor
namespace Go.Proofs.YtmdfjnhfhidmhaaGreatDoor
abbrev ltE (x y:Ent):Bool:=ltP (els x.path) (els y.path)
theorem Xei {x y:Ent} (h:ltE x y=true):x.path≠y.path:=fun e=>Xit h (by rw [e])
theorem Xfh (x y:Ent):ltE x y=true∨x.path=y.path∨ltE y x=true:=by
 rcases Xis (els x.path) (els y.path) with h|h|h
 ·exact .inl h
 ·exact .inr (.inl (Xto h))
 ·exact .inr (.inr h)
def putTGo (e:Ent):Bool→List Ent→List Ent→List Ent
 |d,out,[]=>if d then out else out++ [e]
 |d,out,y::l=>putTGo e (d || !(ltE y e)) ((if !d&& !(ltE y e) then out++ [e] else out)++(if y.path==e.path then [] else [y])) l
def putT (t:List Ent) (e:Ent):List Ent:=putTGo e false [] t
def applyT (t:List Ent) (e:Ent):List Ent × Int:=
 if entErr e≠0 then ([],entErr e)
 else if 3<e.kind then
  if getT t e.path=none∧e.path≠ [] then ([],9)
  else if e.kind=4 then (t.filter fun x=> !(under x.path e.path),0) else (t,0)
 else if dirErr t (upP e.path)≠0 then ([],dirErr t (upP e.path))
 else match getT t e.path with
  |some y=>if (y.kind==2) != (e.kind==2) then ([],8) else (putT t e,0)
  |none=>if 5000≤t.length then ([],6) else (putT t e,0)
theorem Xfc (e:Ent) (l:List Ent):∀out,putTGo e true out l=out++l.filter fun y=> !(y.path==e.path):=by
 induction l with
 |nil=>intro out;simp [putTGo]
 |cons y l ih=>
  intro out
  rw [putTGo]
  simp only [Bool.true_or,Bool.not_true,Bool.false_and,Bool.false_eq_true,if_false]
  rw [ih,List.filter_cons]
  cases h:(y.path==e.path)<;>simp
theorem Xgq {t:List Ent} (h:SrtT t) (e:Ent):∃A B,putT t e=A++e::B∧(∀a∈A,a∈t∧ltE a e=true)∧(∀b∈B,b∈t∧ltE e b=true)∧(∀z∈t,z.path≠e.path→z∈A∨z∈B)∧SrtT A∧SrtT B:=by
 have key:∀(l:List Ent),SrtT l→ ∀out,∃A B,putTGo e false out l=out++(A++e::B)∧(∀a∈A,a∈l∧ltE a e=true)∧(∀b∈B,b∈l∧ltE e b=true)∧(∀z∈l,z.path≠e.path→z∈A∨z∈B)∧SrtT A∧SrtT B:=by
  intro l
  induction l with
  |nil=>intro _ out;exact ⟨[],[],by simp [putTGo],by simp,by simp,by simp,List.Pairwise.nil,List.Pairwise.nil⟩
  |cons y l ih=>
   intro hs out
   obtain ⟨h1,h2⟩:=List.pairwise_cons.1 hs
   rw [putTGo]
   cases hb:ltE y e
   ·simp only [Bool.not_false,Bool.or_true,Bool.and_self,if_true]
    rw [Xfc]
    have hrest:∀z∈l,ltE e z=true:=by
     intro z hz
     rcases Xfh e y with k|k|k
     ·exact Xb2 k (h1 z hz)
     ·show ltP (els e.path) _=true
      rw [k];exact h1 z hz
     ·rw [hb] at k;exact absurd k (by simp)
    have hf:(l.filter fun z=> !(z.path==e.path))=l:=List.filter_eq_self.2 fun z hz=>by
     have:=(Xei (hrest z hz)).symm
     simpa using this
    rw [hf]
    by_cases k:y.path=e.path
    ·rw [if_pos (by simpa using k)]
     refine ⟨[],l,by simp,by simp,fun b hb=>⟨List.mem_cons_of_mem _ hb,hrest b hb⟩,fun z hz hne=> ?_,List.Pairwise.nil,h2⟩
     rcases List.mem_cons.1 hz with rfl|hz
     ·exact absurd k hne
     ·exact .inr hz
    ·have hxy:ltE e y=true:=by
      rcases Xfh e y with h|h|h
      ·exact h
      ·exact absurd h.symm k
      ·rw [h] at hb;exact absurd hb (by simp)
     rw [if_neg (by simpa using k)]
     refine ⟨[],y::l,by simp,by simp,fun b hb=>⟨hb,?_⟩,fun z hz _=> .inr hz,List.Pairwise.nil,hs⟩
     rcases List.mem_cons.1 hb with rfl|hb
     ·exact hxy
     ·exact hrest b hb
   ·have hne:(y.path==e.path)=false:=by simpa using Xei hb
    simp only [Bool.not_true,Bool.or_false,Bool.and_false,Bool.false_eq_true,if_false,hne]
    obtain ⟨A,B,q,a1,a2,a3,a4,a5⟩:=ih h2 (out++ [y])
    refine ⟨y::A,B,by rw [q];simp,fun a ha=> ?_,fun b hb=>⟨List.mem_cons_of_mem _ (a2 b hb).1,(a2 b hb).2⟩,fun z hz hzn=> ?_,List.pairwise_cons.2 ⟨fun a ha=>h1 a (a1 a ha).1,a4⟩,a5⟩
    ·rcases List.mem_cons.1 ha with rfl|ha
     ·exact ⟨List.mem_cons_self ..,hb⟩
     ·exact ⟨List.mem_cons_of_mem _ (a1 a ha).1,(a1 a ha).2⟩
    ·rcases List.mem_cons.1 hz with rfl|hz
     ·exact .inl (List.mem_cons_self ..)
     ·rcases a3 z hz hzn with h|h
      ·exact .inl (List.mem_cons_of_mem _ h)
      ·exact .inr h
 obtain ⟨A,B,q,r⟩:=key t h []
 exact ⟨A,B,q,r⟩
theorem Xdm {t:List Ent} (h:SrtT t) (e:Ent):SrtT (putT t e):=by
 obtain ⟨A,B,q,a1,a2,_,a4,a5⟩:=Xgq h e
 rw [q]
 refine List.pairwise_append.2 ⟨a4,List.pairwise_cons.2 ⟨fun b hb=>(a2 b hb).2,a5⟩,fun a ha b hb=> ?_⟩
 rcases List.mem_cons.1 hb with rfl|hb
 ·exact (a1 a ha).2
 ·exact Xb2 (a1 a ha).2 (a2 b hb).2
theorem Xbt {t:List Ent} (h:SrtT t) (e z:Ent):z∈putT t e↔z=e∨(z∈t∧z.path≠e.path):=by
 obtain ⟨A,B,q,a1,a2,a3,_,_⟩:=Xgq h e
 rw [q,List.mem_append,List.mem_cons]
 constructor
 ·rintro (hz|hz|hz)
  ·exact .inr ⟨(a1 z hz).1,Xei (a1 z hz).2⟩
  ·exact .inl hz
  ·exact .inr ⟨(a2 z hz).1,(Xei (a2 z hz).2).symm⟩
 ·rintro (hz|⟨hz,hn⟩)
  ·exact .inr (.inl hz)
  ·rcases a3 z hz hn with h|h
   ·exact .inl h
   ·exact .inr (.inr h)
theorem Xq7 {t:List Ent} (h:SrtT t) (e:Ent):getT (putT t e) e.path=some e:=Xev (Xdm h e) ((Xbt h e e).2 (.inl rfl))
theorem Xkp {t:List Ent} (h:SrtT t) (e:Ent) {p:Bytes} (hp:p≠e.path):getT (putT t e) p=getT t p:=by
 cases hg:getT t p with
 |some x=>
  obtain ⟨hx,rfl⟩:=Xi7 hg
  exact Xev (Xdm h e) ((Xbt h e x).2 (.inr ⟨hx,hp⟩))
 |none=>
  refine Xoz fun z hz k=> ?_
  rcases (Xbt h e z).1 hz with rfl|⟨hz,_⟩
  ·exact hp k.symm
  ·have:=Xev h hz
   rw [k,hg] at this
   exact absurd this (by simp)
end Go.Proofs.YtmdfjnhfhidmhaaGreatDoor
namespace Go.Proofs.YtmdfjnhfhidmhaaGreatDoor
theorem Xq3 {l:List Bytes} (h:l≠ []) (hc:∀p∈l,p≠ []):joinP l≠ []:=by
 cases l with
 |nil=>exact absurd rfl h
 |cons p l=>
  cases l with
  |nil=>exact hc p (by simp)
  |cons q l=>rw [Xby p (by simp)];simp
theorem Xtl {p:Bytes} (h:pathErr p=0):els (upP p)=(els p).dropLast:=by
 obtain ⟨_,_,hc⟩:=Xbw h
 have hd:∀q∈(els p).dropLast,comp q=true:=fun q hq=>hc q (List.dropLast_subset _ hq)
 unfold upP
 by_cases hn:(els p).dropLast= []
 ·rw [hn];rfl
 ·exact Xpb (fun q hq=>Xjo (hd q hq)) (Xq3 hn fun q hq=>Xtt (hd q hq))
theorem Xp4 {p d:Bytes} (h:pathErr p=0) (hu:under (upP p) d=true):under p d=true:=by
 simp only [under,Bool.and_eq_true,decide_eq_true_eq] at hu ⊢
 obtain ⟨⟨_,h2⟩,h3⟩:=hu
 refine ⟨⟨h,h2⟩,?_⟩
 rw [List.isPrefixOf_iff_prefix] at h3 ⊢
 rw [Xtl h] at h3
 exact h3.trans (List.dropLast_prefix _)
theorem Xbo {e:Ent} (h:entErr e=0):1≤e.kind∧e.kind≤6∧pathErr e.path=0∧(e.path= []→5≤e.kind):=by
 unfold entErr at h
 by_cases h1:e.kind<1∨6<e.kind
 ·rw [if_pos h1] at h;omega
 rw [if_neg h1] at h
 by_cases h2:pathErr e.path=0
 case neg=>rw [if_pos h2] at h;exact absurd h h2
 rw [if_neg (by omega)] at h
 by_cases h3:e.path= []∧e.kind<5
 ·rw [if_pos h3] at h;omega
 exact ⟨by omega,by omega,h2,fun hp=>Int.not_lt.1 fun hk=>h3 ⟨hp,hk⟩⟩
theorem Xji {t:List Ent} {p:Bytes}:dirErr t p=0↔p= []∨ ∃x,getT t p=some x∧x.kind=2:=by
 unfold dirErr
 by_cases h:p= []
 ·rw [if_pos h];exact ⟨fun _=> .inl h,fun _=>rfl⟩
 ·rw [if_neg h]
  cases hg:getT t p with
  |none=>
   constructor
   ·intro k;simp at k
   ·rintro (k|⟨x,k,_⟩)
    ·exact absurd k h
    ·simp at k
  |some x=>
   show (if x.kind≠2 then (10:Int) else 0)=0↔_
   by_cases hk:x.kind=2
   ·rw [if_neg (by omega)];exact ⟨fun _=> .inr ⟨x,rfl,hk⟩,fun _=>rfl⟩
   ·rw [if_pos hk]
    constructor
    ·intro k;omega
    ·rintro (k|⟨y,k,k'⟩)
     ·exact absurd k h
     ·cases k;exact absurd k' hk
theorem Xof {t:List Ent} (h:OkT t) {e:Ent} (he:entErr e=0) (hk:e.kind=1∨e.kind=2∨e.kind=3) (hu:dirErr t (upP e.path)=0) (hs:∀y,getT t e.path=some y→(y.kind=2↔e.kind=2)):OkT (putT t e):=by
 obtain ⟨_,_,hp,hpe⟩:=Xbo he
 have hne:e.path≠ []:=fun k=>by have:=hpe k;omega
 refine ⟨fun z hz=> ?_,fun z hz=> ?_,Xdm h.srt e,fun z hz=> ?_⟩
 ·rcases (Xbt h.srt e z).1 hz with rfl|⟨hz,_⟩
  ·exact he
  ·exact h.ent z hz
 ·rcases (Xbt h.srt e z).1 hz with rfl|⟨hz,_⟩
  ·exact hk
  ·exact h.kind z hz
 ·have hz':dirErr t (upP z.path)=0:=by
   rcases (Xbt h.srt e z).1 hz with rfl|⟨hz,_⟩
   ·exact hu
   ·exact h.up z hz
  rw [Xji] at hz' ⊢
  rcases hz' with k|⟨x,k,k'⟩
  ·exact .inl k
  ·by_cases q:upP z.path=e.path
   ·refine .inr ⟨e,by rw [q];exact Xq7 h.srt e,?_⟩
    rw [q] at k
    exact (hs x k).1 k'
   ·exact .inr ⟨x,by rw [Xkp h.srt e q];exact k,k'⟩
theorem Xtp {t:List Ent} (h:OkT t) (d:Bytes):OkT (t.filter fun x=> !(under x.path d)):=by
 have hm:∀z,z∈(t.filter fun x=> !(under x.path d))↔z∈t∧under z.path d=false:=fun z=>by simp [List.mem_filter]
 have hs:SrtT (t.filter fun x=> !(under x.path d)):=List.Pairwise.filter _ h.srt
 refine ⟨fun z hz=>h.ent z ((hm z).1 hz).1,fun z hz=>h.kind z ((hm z).1 hz).1,hs,fun z hz=> ?_⟩
 obtain ⟨hz1,hz2⟩:=(hm z).1 hz
 have hp:=(Xbo (h.ent z hz1)).2.2.1
 have hz':=h.up z hz1
 rw [Xji] at hz' ⊢
 rcases hz' with k|⟨x,k,k'⟩
 ·exact .inl k
 ·obtain ⟨hx,hxp⟩:=Xi7 k
  refine .inr ⟨x,?_,k'⟩
  rw [←hxp]
  refine Xev hs ((hm x).2 ⟨hx,?_⟩)
  cases q:under x.path d with
  |false=>rfl
  |true=>
   rw [hxp] at q
   rw [Xp4 hp q] at hz2
   exact absurd hz2 (by simp)
theorem Xpu {t t':List Ent} (h:OkT t) {e:Ent} (ha:applyT t e=(t',0)):OkT t':=by
 unfold applyT at ha
 by_cases h0:entErr e=0
 case neg=>rw [if_pos h0] at ha;exact absurd (Prod.mk.inj ha).2 h0
 rw [if_neg (by omega)] at ha
 have hk:=Xbo h0
 by_cases h1:3<e.kind
 ·rw [if_pos h1] at ha
  by_cases h2:getT t e.path=none∧e.path≠ []
  ·rw [if_pos h2] at ha;simp at ha
  ·rw [if_neg h2] at ha
   by_cases h3:e.kind=4
   ·rw [if_pos h3] at ha
    rw [←(Prod.mk.inj ha).1]
    exact Xtp h _
   ·rw [if_neg h3] at ha
    rw [←(Prod.mk.inj ha).1]
    exact h
 ·rw [if_neg h1] at ha
  by_cases h2:dirErr t (upP e.path)=0
  case neg=>rw [if_pos h2] at ha;exact absurd (Prod.mk.inj ha).2 h2
  rw [if_neg (by omega)] at ha
  cases hg:getT t e.path with
  |none=>
   rw [hg] at ha
   change (if 5000≤t.length then (([]:List Ent),(6:Int)) else (putT t e,0))=_ at ha
   by_cases h3:5000≤t.length
   ·rw [if_pos h3] at ha;simp at ha
   ·rw [if_neg h3] at ha
    rw [←(Prod.mk.inj ha).1]
    exact Xof h h0 (by omega) h2 fun y hy=>by rw [hg] at hy;cases hy
  |some y=>
   rw [hg] at ha
   change (if ((y.kind==2) != (e.kind==2))=true then (([]:List Ent),(8:Int)) else (putT t e,0))=_ at ha
   by_cases h3:((y.kind==2) != (e.kind==2))=true
   ·rw [if_pos h3] at ha;simp at ha
   ·rw [if_neg h3] at ha
    rw [←(Prod.mk.inj ha).1]
    refine Xof h h0 (by omega) h2 fun z hz=> ?_
    rw [hg] at hz
    cases hz
    have h4:(y.kind==2)=(e.kind==2):=by simpa using h3
    constructor
    ·intro k;rw [k] at h4;simpa using h4.symm
    ·intro k;rw [k] at h4;simpa using h4
end Go.Proofs.YtmdfjnhfhidmhaaGreatDoor
namespace Go.Proofs.YtmdfjnhfhidmhaaGreatDoor
def opT (t:List Ent) (e:Ent):List Ent:=if 3<e.kind then (if e.kind=4 then t.filter fun x=> !(under x.path e.path) else t) else putT t e
structure PreT (t:List Ent) (e:Ent):Prop where
 ent:entErr e=0
 there:3<e.kind→ ¬(getT t e.path=none∧e.path≠ [])
 up:e.kind≤3→dirErr t (upP e.path)=0
 like:e.kind≤3→ ∀y,getT t e.path=some y→(y.kind==2)=(e.kind==2)
 room:e.kind≤3→getT t e.path=none→t.length<5000
theorem applyT_iff {t a:List Ent} {e:Ent}:applyT t e=(a,0)↔PreT t e∧a=opT t e:=by
 unfold applyT opT
 by_cases h0:entErr e=0
 case neg=>
  rw [if_pos h0]
  exact ⟨fun h=>absurd (Prod.mk.inj h).2 h0,fun h=>absurd h.1.ent h0⟩
 rw [if_neg (by omega)]
 by_cases h1:3<e.kind
 ·rw [if_pos h1,if_pos h1]
  by_cases h2:getT t e.path=none∧e.path≠ []
  ·rw [if_pos h2]
   exact ⟨fun h=>absurd (Prod.mk.inj h).2 (by decide),fun h=>absurd h2 (h.1.there h1)⟩
  ·rw [if_neg h2]
   have hp:PreT t e:=⟨h0,fun _=>h2,fun k=>by omega,fun k=>by omega,fun k=>by omega⟩
   by_cases h3:e.kind=4
   ·rw [if_pos h3,if_pos h3]
    exact ⟨fun h=>⟨hp,(Prod.mk.inj h).1.symm⟩,fun h=>by rw [h.2]⟩
   ·rw [if_neg h3,if_neg h3]
    exact ⟨fun h=>⟨hp,(Prod.mk.inj h).1.symm⟩,fun h=>by rw [h.2]⟩
 ·rw [if_neg h1,if_neg h1]
  by_cases h2:dirErr t (upP e.path)=0
  case neg=>
   rw [if_pos h2]
   exact ⟨fun h=>absurd (Prod.mk.inj h).2 h2,fun h=>absurd (h.1.up (by omega)) h2⟩
  rw [if_neg (by omega)]
  cases hg:getT t e.path with
  |none=>
   show (if 5000≤t.length then (([]:List Ent),(6:Int)) else (putT t e,0))=(a,0)↔_
   by_cases h3:5000≤t.length
   ·rw [if_pos h3]
    exact ⟨fun h=>absurd (Prod.mk.inj h).2 (by decide),fun h=>absurd (h.1.room (by omega) hg) (by omega)⟩
   ·rw [if_neg h3]
    exact ⟨fun h=>⟨⟨h0,fun k=>absurd k h1,fun _=>h2,fun _ y hy=>(by rw [hg] at hy;cases hy),fun _ _=>(by omega)⟩,(Prod.mk.inj h).1.symm⟩,fun h=>by rw [h.2]⟩
  |some y=>
   show (if ((y.kind==2) != (e.kind==2))=true then (([]:List Ent),(8:Int)) else (putT t e,0))=(a,0)↔_
   by_cases h3:((y.kind==2) != (e.kind==2))=true
   ·rw [if_pos h3]
    refine ⟨fun h=>absurd (Prod.mk.inj h).2 (by decide),fun h=> ?_⟩
    have:=h.1.like (by omega) y hg
    rw [this] at h3
    simp at h3
   ·rw [if_neg h3]
    exact ⟨fun h=>⟨⟨h0,fun k=>absurd k h1,fun _=>h2,fun _ z hz=>(by rw [hg] at hz;cases hz;simpa using h3),fun _ hn=>(by rw [hg] at hn;cases hn)⟩,(Prod.mk.inj h).1.symm⟩,fun h=>by rw [h.2]⟩
def keepT (e z:Ent):Prop:=(e.kind≤3→z.path≠e.path)∧(e.kind=4→under z.path e.path=false)
theorem Xtc {t:List Ent} (h:SrtT t) (e z:Ent):z∈opT t e↔(e.kind≤3∧z=e)∨(z∈t∧keepT e z):=by
 unfold opT keepT
 by_cases h1:3<e.kind
 ·rw [if_pos h1]
  by_cases h2:e.kind=4
  ·rw [if_pos h2,List.mem_filter]
   constructor
   ·rintro ⟨a,b⟩;exact .inr ⟨a,fun k=>by omega,fun _=>by simpa using b⟩
   ·rintro (⟨k,_⟩|⟨a,_,b⟩)
    ·omega
    ·exact ⟨a,by simpa using b h2⟩
  ·rw [if_neg h2]
   constructor
   ·intro a;exact .inr ⟨a,fun k=>by omega,fun k=>absurd k h2⟩
   ·rintro (⟨k,_⟩|⟨a,_⟩)
    ·omega
    ·exact a
 ·rw [if_neg h1,Xbt h]
  constructor
  ·rintro (k|⟨a,b⟩)
   ·exact .inl ⟨by omega,k⟩
   ·exact .inr ⟨a,fun _=>b,fun k=>by omega⟩
  ·rintro (⟨_,k⟩|⟨a,b,_⟩)
   ·exact .inl k
   ·exact .inr ⟨a,b (by omega)⟩
theorem Xqs (t:List Ent) (e:Ent):(putT t e).length≤t.length+1:=by
 have:∀(l out:List Ent) (d:Bool),(putTGo e d out l).length≤out.length+l.length+1:=by
  intro l
  induction l with
  |nil=>intro out d;cases d<;>simp [putTGo]
  |cons y l ih=>
   intro out d
   rw [putTGo]
   cases hc:(!d&& !(ltE y e))
   ·refine Nat.le_trans (ih _ _) ?_
    cases h:(y.path==e.path)<;>simp<;>omega
   ·have hd:(d || !(ltE y e))=true:=by
     simp only [Bool.and_eq_true] at hc
     rw [hc.2];simp
    rw [hd,Xfc]
    have:=List.length_filter_le (fun y:Ent=> !(y.path==e.path)) l
    cases h:(y.path==e.path)<;>simp<;>omega
 simpa [putT] using this t [] false
theorem Xtd (t:List Ent) (e:Ent):(opT t e).length≤t.length+1:=by
 unfold opT
 by_cases h1:3<e.kind
 ·rw [if_pos h1]
  by_cases h2:e.kind=4
  ·rw [if_pos h2];exact Nat.le_trans (List.length_filter_le _ _) (Nat.le_succ _)
  ·rw [if_neg h2];exact Nat.le_succ _
 ·rw [if_neg h1];exact Xqs t e
end Go.Proofs.YtmdfjnhfhidmhaaGreatDoor
namespace Go.Proofs.YtmdfjnhfhidmhaaGreatDoor
def bs (p:Nat→Bool) (lo hi:Nat):Nat:=
 if h:lo<hi then (if p ((lo+hi) / 2) then bs p lo ((lo+hi) / 2) else bs p ((lo+hi) / 2+1) hi) else lo
termination_by hi-lo
decreasing_by all_goals omega
theorem Xrp (p:Nat→Bool) (lo hi:Nat) (h:lo≤hi):lo≤bs p lo hi∧bs p lo hi≤hi:=by
 induction lo,hi using bs.induct p with
 |case1 lo hi hlt hp ih=>rw [bs,dif_pos hlt,if_pos hp];have:=ih (by omega);omega
 |case2 lo hi hlt hp ih=>rw [bs,dif_pos hlt,if_neg hp];have:=ih (by omega);omega
 |case3 lo hi hlt=>rw [bs,dif_neg hlt];omega
theorem Xt3 (p:Nat→Bool) (lo hi:Nat) (h:lo≤hi):(lo<bs p lo hi→p (bs p lo hi-1)=false)∧(bs p lo hi<hi→p (bs p lo hi)=true):=by
 induction lo,hi using bs.induct p with
 |case1 lo hi hlt hp ih=>
  rw [bs,dif_pos hlt,if_pos hp]
  have h1:=ih (by omega)
  refine ⟨h1.1,fun h2=> ?_⟩
  by_cases h3:bs p lo ((lo+hi) / 2)<(lo+hi) / 2
  ·exact h1.2 h3
  ·have:=Xrp p lo ((lo+hi) / 2) (by omega)
   rw [show bs p lo ((lo+hi) / 2)=(lo+hi) / 2 by omega];exact hp
 |case2 lo hi hlt hp ih=>
  rw [bs,dif_pos hlt,if_neg hp]
  have h1:=ih (by omega)
  refine ⟨fun h2=> ?_,h1.2⟩
  by_cases h3:(lo+hi) / 2+1<bs p ((lo+hi) / 2+1) hi
  ·exact h1.1 h3
  ·have:=Xrp p ((lo+hi) / 2+1) hi (by omega)
   rw [show bs p ((lo+hi) / 2+1) hi-1=(lo+hi) / 2 by omega];simpa using hp
 |case3 lo hi hlt=>rw [bs,dif_neg hlt];exact ⟨fun h=>by omega,fun h=>by omega⟩
theorem Xqr {t:List Ent} (h:SrtT t) (e:Ent) {i:Nat} (hi:i<t.length) (hp:t[i].path=e.path):putT t e=t.set i e:=by
 have hle:∀(a:Ent),ltE a e=ltE a t[i]:=fun a=>by unfold ltE;rw [hp]
 have hle2:∀(a:Ent),ltE e a=ltE t[i] a:=fun a=>by unfold ltE;rw [hp]
 have hpw:=List.pairwise_iff_getElem.1 h
 have hsrt:SrtT (t.set i e):=by
  refine List.pairwise_iff_getElem.2 fun a b ha hb hab=> ?_
  rw [List.length_set] at ha hb
  have h0:=hpw a b ha hb hab
  rw [List.getElem_set,List.getElem_set]
  by_cases h1:i=a
  ·subst h1
   rw [if_pos rfl,if_neg (by omega)]
   show ltE e t[b]=true
   rw [hle2];exact h0
  ·rw [if_neg h1]
   by_cases h2:i=b
   ·subst h2
    rw [if_pos rfl]
    show ltE t[a] e=true
    rw [hle];exact h0
   ·rw [if_neg h2];exact h0
 refine SrtT.ext (Xdm h e) hsrt fun z=> ?_
 rw [Xbt h]
 constructor
 ·rintro (rfl|⟨hz,hne⟩)
  ·exact List.mem_set hi _
  ·obtain ⟨j,hj,rfl⟩:=List.getElem_of_mem hz
   have hij:i≠j:=fun e2=>hne (by subst e2;exact hp)
   have:(t.set i e)[j]'(by rw [List.length_set];exact hj)=t[j]:=List.getElem_set_ne hij _
   rw [←this]
   exact List.getElem_mem _
 ·intro hz
  obtain ⟨j,hj,rfl⟩:=List.getElem_of_mem hz
  rw [List.length_set] at hj
  rw [List.getElem_set]
  by_cases hij:i=j
  ·rw [if_pos hij];exact .inl rfl
  ·rw [if_neg hij]
   refine .inr ⟨List.getElem_mem _,fun he=> ?_⟩
   have hne:t[j].path≠t[i].path:=by
    rcases Nat.lt_or_gt_of_ne hij with h1|h1
    ·exact (Xei (hpw i j hi hj h1)).symm
    ·exact Xei (hpw j i hj hi h1)
   exact hne (he.trans hp.symm)
theorem Xqt {t:List Ent} (h:SrtT t) (e:Ent) {i:Nat} (hi:i≤t.length) (hl:∀k (hk:k<t.length),k<i→ltE t[k] e=true) (hg:∀k (hk:k<t.length),i≤k→ltE e t[k]=true):putT t e=t.take i++e::t.drop i:=by
 have hpw:=List.pairwise_iff_getElem.1 h
 have hsrt:SrtT (t.take i++e::t.drop i):=by
  refine List.pairwise_append.2 ⟨List.Pairwise.sublist (List.take_sublist _ _) h,List.pairwise_cons.2 ⟨fun b hb=> ?_,List.Pairwise.sublist (List.drop_sublist _ _) h⟩,fun a ha b hb=> ?_⟩
  ·obtain ⟨j,hj,rfl⟩:=List.getElem_of_mem hb
   rw [List.getElem_drop]
   exact hg _ (by simp at hj;omega) (by omega)
  ·obtain ⟨j,hj,rfl⟩:=List.getElem_of_mem ha
   have hj2:j<i∧j<t.length:=by simp at hj;omega
   rw [List.getElem_take]
   rcases List.mem_cons.1 hb with rfl|hb
   ·exact hl j hj2.2 hj2.1
   ·obtain ⟨q,hq,rfl⟩:=List.getElem_of_mem hb
    rw [List.getElem_drop]
    exact hpw j (i+q) hj2.2 (by simp at hq;omega) (by omega)
 refine SrtT.ext (Xdm h e) hsrt fun z=> ?_
 rw [Xbt h,List.mem_append,List.mem_cons]
 constructor
 ·rintro (rfl|⟨hz,hne⟩)
  ·exact .inr (.inl rfl)
  ·rw [←List.take_append_drop i t,List.mem_append] at hz
   rcases hz with hz|hz
   ·exact .inl hz
   ·exact .inr (.inr hz)
 ·rintro (hz|rfl|hz)
  ·obtain ⟨j,hj,rfl⟩:=List.getElem_of_mem hz
   have hj2:j<i∧j<t.length:=by simp at hj;omega
   rw [List.getElem_take]
   exact .inr ⟨List.getElem_mem _,Xei (hl j hj2.2 hj2.1)⟩
  ·exact .inl rfl
  ·obtain ⟨j,hj,rfl⟩:=List.getElem_of_mem hz
   rw [List.getElem_drop]
   exact .inr ⟨List.getElem_mem _,(Xei (hg (i+j) (by simp at hj;omega) (by omega))).symm⟩
def notLess (t:List Ent) (p:Bytes) (i:Nat):Bool:=match t[i]? with|some x=> !(ltP (els x.path) (els p))|none=>true
theorem Xta {t:List Ent} (h:SrtT t) (e:Ent) (hn:∀x∈t,x.path≠e.path):putT t e=t.take (bs (notLess t e.path) 0 t.length)++e::t.drop (bs (notLess t e.path) 0 t.length):=by
 have hle:=Xrp (notLess t e.path) 0 t.length (Nat.zero_le _)
 have hsp:=Xt3 (notLess t e.path) 0 t.length (Nat.zero_le _)
 generalize bs (notLess t e.path) 0 t.length=i at hle hsp
 have hpw:=List.pairwise_iff_getElem.1 h
 refine Xqt h e hle.2 (fun k hk hki=> ?_) (fun k hk hik=> ?_)
 ·have h1:=hsp.1 (by omega)
  rw [notLess,List.getElem?_eq_getElem (by omega)] at h1
  have h2:ltE (t[i-1]'(by omega)) e=true:=by simpa using h1
  by_cases hk2:k=i-1
  ·subst hk2;exact h2
  ·exact Xb2 (hpw k (i-1) hk (by omega) (by omega)) h2
 ·have h1:=hsp.2 (by omega)
  rw [notLess,List.getElem?_eq_getElem (by omega)] at h1
  have h2:ltE (t[i]'(by omega)) e=false:=by simpa using h1
  have h3:ltE e (t[i]'(by omega))=true:=by
   rcases Xfh e (t[i]'(by omega)) with h3|h3|h3
   ·exact h3
   ·exact absurd h3.symm (hn _ (List.getElem_mem _))
   ·rw [h2] at h3;exact absurd h3 (by simp)
  by_cases hk2:k=i
  ·subst hk2;exact h3
  ·exact Xb2 h3 (hpw i k (by omega) hk (by omega))
end Go.Proofs.YtmdfjnhfhidmhaaGreatDoor
namespace Go.Proofs.YtmdfjnhfhidmhaaGreatDoor
structure Ho where
 p:Bytes
 u:Int
 deriving DecidableEq
def actP (l:List Ho) (d:Int):List Ho:=l.filter fun h=>decide (d≤h.u)
def heldP (l:List Ho) (p:Bytes) (d:Int):Bool:=(actP l d).any fun h=>under p h.p
def belowP (l:List Ho) (p:Bytes) (d:Int):Bool:=(actP l d).any fun h=>under h.p p
def alwP (l:List Ho) (k:Int) (p:Bytes) (d:Int):Int:=
 if k=1∨k=2∨k=3 then (if heldP l p d then 15 else 0) else if k=4 then (if heldP l p d || belowP l p d then 15 else 0) else 0
def restH (l:List Ho) (p:Bytes):List Ho:=l.filter fun h=> !(h.p==p)
def insH (h:Ho):List Ho→List Ho
 | []=> [h]
 |x::l=>if ltP (els h.p) (els x.p) then h::x::l else x::insH h l
def untilH (p:Bytes):List Ho→Int→Int
 | [],u=>u
 |h::l,u=>untilH p l (if h.p=p then max u h.u else u)
def hasH (l:List Ho) (p:Bytes):Bool:=l.any fun h=>h.p==p
def appH (l:List Ho) (e:Ent) (d:Int):List Ho × Int:=
 if e.kind=5 then (insH ⟨e.path,untilH e.path (actP l d) (digits e.target)⟩ (restH (actP l d) e.path),0)
 else if e.kind=6 then (if hasH (actP l d) e.path then (restH (actP l d) e.path,0) else ([],9))
 else (actP l d,0)
structure HOk (l:List Ho):Prop where
 ne:l.Pairwise fun a b=>a.p≠b.p
 u0:∀h∈l,0≤h.u
 u1:∀h∈l,h.u≤1000000000
 path:∀h∈l,pathErr h.p=0
theorem Xou:HOk []:=⟨List.Pairwise.nil,fun _ h=>(by cases h),fun _ h=>(by cases h),fun _ h=>(by cases h)⟩
theorem HOk.sub {l m:List Ho} (h:HOk l) (hs:m.Sublist l):HOk m:=⟨h.ne.sublist hs,fun x hx=>h.u0 x (hs.subset hx),fun x hx=>h.u1 x (hs.subset hx),fun x hx=>h.path x (hs.subset hx)⟩
theorem HOk.act {l:List Ho} (h:HOk l) (d:Int):HOk (actP l d):=h.sub List.filter_sublist
theorem HOk.rest {l:List Ho} (h:HOk l) (p:Bytes):HOk (restH l p):=h.sub List.filter_sublist
theorem Xdu (h:Ho):∀ {l:List Ho} {x:Ho},x∈insH h l↔x=h∨x∈l
 | [],x=>by simp [insH]
 |y::l,x=>by
  rw [insH]
  split
  ·rw [List.mem_cons]
  ·rw [List.mem_cons,Xdu h,List.mem_cons]
   constructor
   ·rintro (k|k|k)
    ·exact .inr (.inl k)
    ·exact .inl k
    ·exact .inr (.inr k)
   ·rintro (k|k|k)
    ·exact .inr (.inl k)
    ·exact .inl k
    ·exact .inr (.inr k)
theorem Xli (h:Ho):∀l:List Ho,(insH h l).length=l.length+1
 | []=>rfl
 |y::l=>by
  rw [insH]
  split
  ·rfl
  ·rw [List.length_cons,Xli h l,List.length_cons]
theorem Xot {h:Ho}:∀ {l:List Ho},l.Pairwise (fun a b=>a.p≠b.p)→(∀x∈l,x.p≠h.p)→(insH h l).Pairwise fun a b=>a.p≠b.p
 | [],_,_=>List.pairwise_singleton _ _
 |y::l,hl,hn=>by
  rw [insH]
  obtain ⟨h1,h2⟩:=List.pairwise_cons.1 hl
  split
  ·exact List.pairwise_cons.2 ⟨fun x hx k=>hn x hx k.symm,hl⟩
  ·refine List.pairwise_cons.2 ⟨fun x hx=> ?_,Xot h2 fun x hx=>hn x (List.mem_cons_of_mem _ hx)⟩
   rcases (Xdu h).1 hx with rfl|hx
   ·exact hn y (List.mem_cons_self ..)
   ·exact h1 x hx
theorem Xqo {l:List Ho} {p:Bytes}:∀x∈restH l p,x.p≠p:=fun x hx k=>by
 have:=(List.mem_filter.1 hx).2
 rw [k] at this
 simp at this
theorem Xe2 (p:Bytes):∀(l:List Ho) (u:Int),(∀h∈l,0≤h.u∧h.u≤1000000000)→0≤u→u≤1000000000→0≤untilH p l u∧untilH p l u≤1000000000
 | [],u,_,h0,h1=>⟨h0,h1⟩
 |h::l,u,hl,h0,h1=>by
  have hh:=hl h (List.mem_cons_self ..)
  have hr:=fun x hx=>hl x (List.mem_cons_of_mem _ hx)
  rw [untilH]
  split
  ·exact Xe2 p l _ hr (by omega) (by omega)
  ·exact Xe2 p l _ hr h0 h1
theorem Xjl {s:Bytes} (h:dateOk s=true):0≤digits s∧digits s≤1000000000:=by
 unfold dateOk at h
 simp only [Bool.and_eq_true,decide_eq_true_eq] at h
 refine ⟨?_,h.2⟩
 have h0:=h.1.2
 unfold digits
 have key:∀(l:Bytes) (a:Int),0≤a→(l.all fun c=>decide (48≤c)&&decide (c≤57))=true→0≤l.foldl (fun (n:Int) c=>10*n+((c.toNat:Int)-48)) a:=by
  intro l
  induction l with
  |nil=>intro a ha _;exact ha
  |cons c l ih=>
   intro a ha hl
   rw [List.all_cons,Bool.and_eq_true] at hl
   rw [List.foldl_cons]
   have h48:(48:UInt8)≤c:=by
    have:=hl.1
    simp only [Bool.and_eq_true,decide_eq_true_eq] at this
    exact this.1
   have h48':48≤c.toNat:=h48
   exact ih _ (by omega) hl.2
 exact key s 0 (by omega) h0
theorem Xi3 {e:Ent} (he:entErr e=0) (hk:e.kind=5):dateOk e.target=true:=by
 unfold entErr at he
 rw [if_neg (by omega)] at he
 by_cases h1:pathErr e.path≠0
 ·rw [if_pos h1] at he;exact absurd he h1
 rw [if_neg h1] at he
 split at he
 ·omega
 by_cases h2:chk e.attrs≠0
 ·rw [if_pos h2] at he;exact absurd he h2
 rw [if_neg h2] at he
 split at he
 ·omega
 rename_i h3
 have ht:targetOk e=true:=by
  cases hh:targetOk e with
  |true=>rfl
  |false=>exact absurd (.inr hh) h3
 unfold targetOk at ht
 rw [if_neg (by omega),if_pos hk] at ht
 exact ht
theorem Xt6 {l m:List Ho} {e:Ent} {d n:Int} (h:HOk l) (he:entErr e=0) (ha:appH l e d=(m,n)):HOk m:=by
 unfold appH at ha
 by_cases h5:e.kind=5
 ·rw [if_pos h5] at ha
  obtain ⟨rfl,rfl⟩:=Prod.mk.inj ha
  have hr:=(h.act d).rest e.path
  have hd:=Xjl (Xi3 he h5)
  have hu:=Xe2 e.path (actP l d) (digits e.target) (fun x hx=>⟨(h.act d).u0 x hx,(h.act d).u1 x hx⟩) hd.1 hd.2
  refine ⟨Xot hr.ne fun x hx=>Xqo x hx,fun x hx=> ?_,fun x hx=> ?_,fun x hx=> ?_⟩
  ·rcases (Xdu _).1 hx with rfl|hx
   ·exact hu.1
   ·exact hr.u0 x hx
  ·rcases (Xdu _).1 hx with rfl|hx
   ·exact hu.2
   ·exact hr.u1 x hx
  ·rcases (Xdu _).1 hx with rfl|hx
   ·exact (Xbo he).2.2.1
   ·exact hr.path x hx
 ·rw [if_neg h5] at ha
  split at ha
  ·split at ha
   ·obtain ⟨rfl,rfl⟩:=Prod.mk.inj ha
    exact (h.act d).rest e.path
   ·obtain ⟨rfl,rfl⟩:=Prod.mk.inj ha
    exact Xou
  ·obtain ⟨rfl,rfl⟩:=Prod.mk.inj ha
   exact h.act d
theorem Xrz {l m:List Ho} {e:Ent} {d n:Int} (ha:appH l e d=(m,n)):m.length≤l.length+1:=by
 have h1:(actP l d).length≤l.length:=List.length_filter_le _ _
 have h2:∀p,(restH (actP l d) p).length≤(actP l d).length:=fun p=>List.length_filter_le _ _
 have h3:=h2 e.path
 unfold appH at ha
 split at ha
 ·obtain ⟨rfl,rfl⟩:=Prod.mk.inj ha
  rw [Xli];omega
 ·split at ha
  ·split at ha
   ·obtain ⟨rfl,rfl⟩:=Prod.mk.inj ha;omega
   ·obtain ⟨rfl,rfl⟩:=Prod.mk.inj ha;simp
  ·obtain ⟨rfl,rfl⟩:=Prod.mk.inj ha;omega
def wasH (p:Bytes):List Ho→Int→Int
 | [],u=>u
 |h::l,u=>wasH p l (if h.p=p then h.u else u)
theorem rest_len {l:List Ho} {p:Bytes}:((restH l p).length=l.length)↔hasH l p=false:=by
 unfold restH hasH
 rw [List.length_filter_eq_length_iff,List.any_eq_false]
 constructor
 ·intro h x hx
  have:=h x hx
  simpa using this
 ·intro h x hx
  have:=h x hx
  simpa using this
end Go.Proofs.YtmdfjnhfhidmhaaGreatDoor
namespace Go.Proofs.YtmdfjnhfhidmhaaGreatDoor
def listT (t:List Ent) (p:Bytes):List Ent:=t.filter fun x=>decide (pathErr x.path=0)&&decide (x.path≠ [])&&(upP x.path==p)
def lastP (p:Bytes):Bytes:=(els p).getLastD []
section
variable (H net:Bytes→Bytes) (num:Int→Bytes) (nm:Int→Bytes)
def frontP (x:Ent):Bytes:=net (nm x.kind)++(num x.attrs.length++x.attrs.flatMap fun a=>net a.k++net a.v)
def merkF:Nat→List Ent→Ent→Bytes
 |0,_,_=> []
 |n+1,t,x=>if x.kind=2 then H (frontP net num nm x++num (listT t x.path).length++(listT t x.path).flatMap fun y=>net (lastP y.path)++net (merkF n t y))
  else H (frontP net num nm x++net x.target++num x.size++net x.digest)
end
end Go.Proofs.YtmdfjnhfhidmhaaGreatDoor
namespace Go.Proofs.YtmdfjnhfhidmhaaGreatDoor
open Go.RowKit
theorem Xaa {W w':World} {a:Addr} {x:Value} (hb:Below W.heap.size W w') (h:W.cell? a=some x):w'.cell? a=some x:=(hb.cell (block_lt_of_cell h)).trans h
theorem Xad {W:World} {a:Addr} {x:Value} (o:Obj) (h:W.cell? a=some x):(W.alloc o).cell? a=some x:=(World.cell?_alloc_lt _ _ _ (block_lt_of_cell h)).trans h
theorem Xaf {W w':World} {a:Addr} {x:Value} {row:Option Nat} (hg:W.grownBy w' row) (hne:row≠some a.block) (h:W.cell? a=some x):w'.cell? a=some x:=
 (World.cell?_of_block (hg.block _ (block_lt_of_cell h) (fun e=>hne e.symm))).trans h
def LiesL {α:Type} (T:Ty α) (I:IH) (xs:List Value) (l:List α):Prop:=
 xs.length=l.length*T.size∧ ∀i (h:i<l.length),∃cs,T.rd I cs l[i]∧ ∀j u,cs[j]? =some u→xs[i*T.size+j]? =some u
def OwnS {α:Type} (T:Ty α) (E:TypeId) (I:IH) (w:World) (B:Nat) (v:Value) (l:List α):Prop:=
 ∃xs,w.ownsRow B E T.size v l.length xs∧LiesL T I xs l
section
variable {α:Type} {T:Ty α} {I I':IH} {w w':World} {v:Value} {l:List α} {xs:List Value} {E:TypeId} {B:Nat}
theorem LiesL.mono (hI:∀b c,I b=some c→I' b=some c) (h:LiesL T I xs l):LiesL T I' xs l:=
 ⟨h.1,fun i hi=>let ⟨cs,h1,h2⟩:=h.2 i hi;⟨cs,T.mono hI h1,h2⟩⟩
theorem LiesL.nil (T:Ty α) (I:IH):LiesL T I [] []:=⟨by simp,fun i h=>absurd h (by simp)⟩
theorem LiesL.one {x:α} {cs:List Value} (h:T.rd I cs x):LiesL T I cs [x]:=by
 refine ⟨by simp [T.len h],fun i hi=>⟨cs,?_,fun j u hu=> ?_⟩⟩
 ·have:i=0:=by simp at hi;omega
  subst this;exact h
 ·have:i=0:=by simp at hi;omega
  subst this;simpa using hu
theorem LiesL.append {ys:List Value} {m:List α} (h:LiesL T I xs l) (k:LiesL T I ys m):LiesL T I (xs++ys) (l++m):=by
 refine ⟨by rw [List.length_append,List.length_append,h.1,k.1,Nat.add_mul],fun i hi=> ?_⟩
 by_cases hl:i<l.length
 ·obtain ⟨cs,h1,h2⟩:=h.2 i hl
  refine ⟨cs,by rw [List.getElem_append_left hl];exact h1,fun j u hu=> ?_⟩
  have hx:=h2 j u hu
  rw [List.getElem?_append_left (List.getElem?_eq_some_iff.1 hx).1];exact hx
 ·obtain ⟨cs,h1,h2⟩:=k.2 (i-l.length) (by simp at hi;omega)
  refine ⟨cs,by rw [List.getElem_append_right (by omega)];exact h1,fun j u hu=> ?_⟩
  have hx:=h2 j u hu
  have e:i*T.size+j=xs.length+((i-l.length)*T.size+j):=by
   rw [h.1,Nat.sub_mul]
   have:=Nat.mul_le_mul_right T.size (show l.length≤i by omega)
   omega
  rw [e,List.getElem?_append_right (by omega),Nat.add_sub_cancel_left];exact hx
theorem LiesL.take (h:LiesL T I xs l) (n:Nat):LiesL T I (xs.take (n*T.size)) (l.take n):=by
 refine ⟨by
  rw [List.length_take,List.length_take,h.1]
  rcases Nat.le_total n l.length with hn|hn
  ·rw [Nat.min_eq_left hn,Nat.min_eq_left (Nat.mul_le_mul_right _ hn)]
  ·rw [Nat.min_eq_right hn,Nat.min_eq_right (Nat.mul_le_mul_right _ hn)],fun i hi=> ?_⟩
 have hi':i<n∧i<l.length:=by simp at hi;omega
 obtain ⟨cs,h1,h2⟩:=h.2 i hi'.2
 refine ⟨cs,by rw [List.getElem_take];exact h1,fun j u hu=> ?_⟩
 have hj:j<T.size:=by rw [←T.len h1];exact (List.getElem?_eq_some_iff.1 hu).1
 have:=Nat.mul_le_mul_right T.size (show i+1≤n by omega)
 rw [Nat.add_mul] at this
 rw [List.getElem?_take_of_lt (by omega)]
 exact h2 j u hu
theorem LiesL.drop (h:LiesL T I xs l) (n:Nat):LiesL T I (xs.drop (n*T.size)) (l.drop n):=by
 refine ⟨by rw [List.length_drop,List.length_drop,h.1,Nat.sub_mul],fun i hi=> ?_⟩
 have hi':n+i<l.length:=by simp at hi;omega
 obtain ⟨cs,h1,h2⟩:=h.2 (n+i) hi'
 refine ⟨cs,by rw [List.getElem_drop];exact h1,fun j u hu=> ?_⟩
 rw [List.getElem?_drop,←Nat.add_assoc,←Nat.add_mul]
 exact h2 j u hu
theorem LiesL.oneCell (h:LiesL T I xs l):∀u∈xs,u.oneCell'=true:=by
 intro u hu
 obtain ⟨p,hp,rfl⟩:=List.getElem_of_mem hu
 have hs:0<T.size:=by
  rcases Nat.eq_zero_or_pos T.size with h0|h0
  ·have:=h.1;rw [h0,Nat.mul_zero] at this;omega
  ·exact h0
 have hi:p / T.size<l.length:=by rw [Nat.div_lt_iff_lt_mul hs,←h.1];exact hp
 obtain ⟨cs,h1,h2⟩:=h.2 _ hi
 have hj:p%T.size<cs.length:=by rw [T.len h1];exact Nat.mod_lt _ hs
 have hx:=h2 (p%T.size) _ (List.getElem?_eq_getElem hj)
 rw [show p / T.size*T.size+p%T.size=p by rw [Nat.mul_comm];exact Nat.div_add_mod p T.size,List.getElem?_eq_getElem hp] at hx
 rw [Option.some.inj hx]
 exact T.one h1 _ (List.getElem_mem hj)
theorem RdS.cells (h:RdS T I v l) (hw:Ok I w) (hs:0<T.size):∃(ao:Option Addr) (cap:Nat) (xs:List Value),v= .slice ao l.length cap∧l.length≤cap∧cap≤maxLen∧LiesL T I xs l∧
 (0<l.length→ ∃b off arr,ao=some ⟨b,off,none⟩∧I b=some arr∧b<w.heap.size∧ ∀j u,xs[j]? =some u→w.cell? ⟨b,off+j,none⟩=some u):=by
 obtain ⟨ao,cap,hv,h1,h2,h3⟩:=h
 rcases Nat.eq_zero_or_pos l.length with h0|h0
 ·have:l= []:=List.eq_nil_of_length_eq_zero h0
  subst this
  exact ⟨ao,cap,[],hv,h1,h2,LiesL.nil T I,fun h=>absurd h (by simp)⟩
 ·obtain ⟨b,off,arr,e1,e2,e3⟩:=h3 h0
  have hsz:off+l.length*T.size≤arr.size:=by
   obtain ⟨cs,k1,k2⟩:=e3 (l.length-1) (by omega)
   have hx:=k2 (T.size-1) _ (List.getElem?_eq_getElem (by rw [T.len k1];omega))
   have:=(Array.getElem?_eq_some_iff.1 hx).1
   have e:(l.length-1)*T.size+T.size=l.length*T.size:=by
    rw [←Nat.succ_mul,Nat.succ_eq_add_one,show l.length-1+1=l.length by omega]
   omega
  refine ⟨ao,cap,(arr.toList.drop off).take (l.length*T.size),hv,h1,h2,⟨by simp;omega,fun i hi=> ?_⟩,fun _=>⟨b,off,arr,e1,e2,hw.lt e2,fun j u hu=> ?_⟩⟩
  ·obtain ⟨cs,k1,k2⟩:=e3 i hi
   refine ⟨cs,k1,fun j u hu=> ?_⟩
   have hj:j<T.size:=by rw [←T.len k1];exact (List.getElem?_eq_some_iff.1 hu).1
   have:=Nat.mul_le_mul_right T.size (show i+1≤l.length by omega)
   rw [Nat.add_mul] at this
   rw [List.getElem?_take_of_lt (by omega),List.getElem?_drop,Array.getElem?_toList]
   exact k2 j u hu
  ·rw [hw.cell e2]
   rw [List.getElem?_take] at hu
   split at hu
   ·rw [List.getElem?_drop,Array.getElem?_toList] at hu;exact hu
   ·cases hu
theorem OwnS.kept {row:Option Nat} (h:OwnS T E I w B v l) (hg:w.grownBy w' row) (hne:v.ownBlock=none∨v.ownBlock≠row):OwnS T E I w' B v l:=
 let ⟨xs,h1,h2⟩:=h
 ⟨xs,h1.kept hg hne,h2⟩
theorem OwnS.below (h:OwnS T E I w B v l) (hb:Below w.heap.size w w'):OwnS T E I w' B v l:=
 h.kept (row:=none) ⟨hb.os,hb.tape,hb.output,hb.size,fun k hk _=>hb.block k hk⟩ (by cases v.ownBlock<;>simp)
theorem OwnS.alloc (h:OwnS T E I w B v l) (o:Obj):OwnS T E I (w.alloc o) B v l:=
 let ⟨xs,h1,h2⟩:=h
 ⟨xs,h1.alloc o,h2⟩
theorem OwnS.mono (hI:∀b c,I b=some c→I' b=some c) (h:OwnS T E I w B v l):OwnS T E I' w B v l:=
 let ⟨xs,h1,h2⟩:=h
 ⟨xs,h1,h2.mono hI⟩
theorem OwnS.lower {B':Nat} (h:OwnS T E I w B v l) (hB:B'≤B):OwnS T E I w B' v l:=by
 obtain ⟨xs,⟨h1,h1'⟩,h2⟩:=h
 refine ⟨xs,⟨h1,?_⟩,h2⟩
 rcases h1' with h0|⟨g,cap,cur,a,b,c⟩
 ·exact .inl h0
 ·exact .inr ⟨g,cap,cur,a,by omega,c⟩
theorem OwnS.nil (T:Ty α) (E:TypeId) (I:IH) (w:World) (B:Nat):OwnS T E I w B (.slice none 0 0) []:=⟨[],World.ownsRow_nil w B E T.size,LiesL.nil T I⟩
theorem OwnS.ne_ge (h:OwnS T E I w B v l) {b:Nat} (hb:w.heap.size≤b):v.ownBlock≠some b:=by
 obtain ⟨xs,h1,_⟩:=h
 intro e
 have:=(h1.lt b e).2
 omega
theorem OwnS.ne_lt (h:OwnS T E I w B v l) {b:Nat} (hb:b<B):v.ownBlock≠some b:=by
 obtain ⟨xs,h1,_⟩:=h
 intro e
 have:=(h1.lt b e).1
 omega
theorem OwnS.own_ge (h:OwnS T E I w B v l) {b:Nat} (e:v.ownBlock=some b):B≤b:=by
 obtain ⟨xs,h1,_⟩:=h
 exact (h1.lt b e).1
theorem OwnS.freeze (h:OwnS T E I w B v l) (hw:Ok I w) (hI:∀b,B≤b→I b=none):∃I',Ext B I I'∧Ok I' w∧RdS T I' v l∧ ∀b,v.ownBlock≠some b→I' b=I b:=by
 obtain ⟨xs,⟨h1,h1'⟩,h2⟩:=h
 rcases h1' with ⟨rfl,h0⟩|⟨g,cap,cur,rfl,hb,hg,hnc,hcm,hcs,ht⟩
 ·refine ⟨I,Ext.refl _ _,hw,?_,fun _ _=>rfl⟩
  have:l= []:=List.eq_nil_of_length_eq_zero h0
  subst this
  exact RdS.nil T I
 ·have hkeep:∀b c,I b=some c→(I.add g cur) b=some c:=fun b c hc=>by
   unfold IH.add
   by_cases e:b=g
   ·subst e;rw [hI _ hb] at hc;cases hc
   ·rw [if_neg e];exact hc
  refine ⟨I.add g cur,Ext.add hb I cur,hw.add hg,⟨_,cap,rfl,hnc,hcm,fun _=>⟨g,0,cur,rfl,by simp [IH.add],fun i hi=> ?_⟩⟩,fun b hbn=> ?_⟩
  ·obtain ⟨cs,k1,k2⟩:=h2.2 i hi
   refine ⟨cs,T.mono hkeep k1,fun j u hu=> ?_⟩
   have hx:=k2 j u hu
   rw [←ht,List.getElem?_take] at hx
   split at hx
   ·rw [Nat.zero_add,←Array.getElem?_toList];exact hx
   ·cases hx
  ·have:b≠g:=fun e=>hbn (by simp [Value.ownBlock,e])
   simp [IH.add,this]
def ElemOk (P:Program) (ts te:TypeId) (T:Ty α) (bytes:Nat):Prop:=
 ∃i z,P.underlying ts=some (.slice te)∧P.info? te=some i∧i.zero=some z∧i.size=T.size∧i.bytes=bytes∧z.cells.size=T.size∧0<T.size
theorem ElemOk.of {P:Program} {ts te:TypeId} {z:Value} {size bytes:Nat} (hu:P.underlying ts=some (.slice te)) (h:(P.info? te).map (fun i=>(i.zero,i.size,i.bytes))=some (some z,size,bytes)) (hz:z.cells.size=size) (hs:0<size) (hT:T.size=size):ElemOk P ts te T bytes:=by
 obtain ⟨i,h1,h2,h3,h4⟩:=info_parts h
 exact ⟨i,z,hu,h1,h2,by rw [h3,hT],h4,by rw [hz,hT],by rw [hT];exact hs⟩
theorem Xgc {P:Program} {ts te:TypeId} {bytes:Nat} (hE:ElemOk P ts te T bytes) {w0:World} {ops:Array Oper} {rest:List Oper} {o:Oper} {a:Act} {Q:Exit→Act→World→Prop} (hgd:o.guard=none) (s x:Operand)
 (ho:o.op= .call { callee:= .builtin .append,args:= #[s,x],argTypes:= #[ts,ts] }) (B:Nat) (v:Value) (l:List α) (hs:a.eval s=v) (hown:OwnS T te I w0 B v l)
 (y:α) (cs:List Value) (tb:TypeId) (hx:a.eval x= .slice (some ⟨w0.heap.size,0,none⟩) 1 1) (hy:T.rd I cs y) (hbig:(l.length+1)*bytes≤140737488355328) (hl:l.length+1≤9223372036854775807) (hB:B≤w0.heap.size)
 (h:∀v' w',OwnS T te I w' B v' (l++ [y])→w0.grownBy w' v.ownBlock→wpList P ops Q rest (a.put o.dst v') w'):wpList P ops Q (o::rest) a (w0.alloc (.cells cs.toArray tb)):=by
 obtain ⟨i,z,h1,h2,h3,h4,h5,h6,h7⟩:=hE
 obtain ⟨xs,k1,k2⟩:=hown
 refine wpList_append_own (w0.alloc (.cells cs.toArray tb)) hgd s x ts ho B te i z T.size bytes h1 h2 h3 h4 h5 h6 h7 v l.length xs hs (k1.alloc _) ⟨w0.heap.size,0,none⟩ 1 1 cs hx (by rw [T.len hy,Nat.one_mul])
  (fun j u hu=>by rw [Addr.add_lit,Nat.zero_add,World.cell?_alloc_new];simpa using hu) (T.one hy) (by unfold maxLen;omega) hbig (by simp;omega) (fun v' w' r1 r2 _=>h v' w' ⟨xs++cs,by rw [List.length_append];exact r1,k2.append (LiesL.one hy)⟩ ?_)
 exact ⟨r2.os,r2.tape,r2.output,by have:=r2.size;simp at this;omega,fun k hk hne=>(r2.block k (by simp;omega) hne).trans (Below.heap_alloc _ _ _ hk)⟩
theorem Xgb {P:Program} {ts te:TypeId} {bytes:Nat} (hE:ElemOk P ts te T bytes) {w0:World} {ops:Array Oper} {rest:List Oper} {o:Oper} {a:Act} {Q:Exit→Act→World→Prop} (hgd:o.guard=none) (s x:Operand)
 (ho:o.op= .call { callee:= .builtin .append,args:= #[s,x],argTypes:= #[ts,ts] }) (B:Nat) (v:Value) (l:List α) (hs:a.eval s=v) (hown:OwnS T te I w0 B v l)
 (ys:List α) (cs:List Value) (tb:TypeId) (hx:a.eval x= .slice (some ⟨w0.heap.size,0,none⟩) ys.length ys.length) (hy:LiesL T I cs ys) (_hp:0<ys.length) (hbig:(l.length+ys.length)*bytes≤140737488355328) (hl:l.length+ys.length≤9223372036854775807) (hB:B≤w0.heap.size)
 (h:∀v' w',OwnS T te I w' B v' (l++ys)→w0.grownBy w' v.ownBlock→wpList P ops Q rest (a.put o.dst v') w'):wpList P ops Q (o::rest) a (w0.alloc (.cells cs.toArray tb)):=by
 obtain ⟨i,z,h1,h2,h3,h4,h5,h6,h7⟩:=hE
 obtain ⟨xs,k1,k2⟩:=hown
 refine wpList_append_own (w0.alloc (.cells cs.toArray tb)) hgd s x ts ho B te i z T.size bytes h1 h2 h3 h4 h5 h6 h7 v l.length xs hs (k1.alloc _) ⟨w0.heap.size,0,none⟩ ys.length ys.length cs hx hy.1
  (fun j u hu=>by rw [Addr.add_lit,Nat.zero_add,World.cell?_alloc_new];simpa using hu) hy.oneCell (by unfold maxLen;omega) hbig (by simp;omega) (fun v' w' r1 r2 _=>h v' w' ⟨xs++cs,by rw [List.length_append];exact r1,k2.append hy⟩ ?_)
 exact ⟨r2.os,r2.tape,r2.output,by have:=r2.size;simp at this;omega,fun k hk hne=>(r2.block k (by simp;omega) hne).trans (Below.heap_alloc _ _ _ hk)⟩
end
theorem Below.own {α:Type} {T:Ty α} {E:TypeId} {I:IH} {w w0 w':World} {v:Value} {l:List α} {B0 B:Nat} (h:Below B0 w w0) (hg:w0.grownBy w' v.ownBlock) (hown:OwnS T E I w0 B v l) (hB:B0≤B) (hB':B≤w0.heap.size):Below B0 w w':=
 h.grown hg (by omega) (fun _ hk=>Nat.le_trans hB (hown.own_ge hk))
theorem Ok.own {α:Type} {T:Ty α} {E:TypeId} {I J:IH} {w0 w':World} {v:Value} {l:List α} {B:Nat} (h:Ok J w0) (hg:w0.grownBy w' v.ownBlock) (hown:OwnS T E I w0 B v l) (hJ:∀b,B≤b→J b=none):Ok J w':=
 h.grown hg (fun g hk=>hJ g (hown.own_ge hk))
end Go.Proofs.YtmdfjnhfhidmhaaGreatDoor
namespace Go.Proofs.YtmdfjnhfhidmhaaGreatDoor
open Go.RowKit Go.Sort
section
variable {P:Program} {ops:Array Oper} {md:Region.Mode} {C:World→Prop}
def headQ (P:Program) (md:Region.Mode) (ops:Array Oper) (C:World→Prop) (n:Nat) (Z:Array Bool→Prop) (K:Act→Prop):Nat→Array Bool→Act→Prop
 |0,s,a=>Z s∧K a
 |f+1,s,a=>(∃i,i∈Region.ready md ops s)∧ ∀i∈Region.ready md ops s,i<n∧qOp P ops C i (headQ P md ops C n Z K f (s.setIfInBounds i true)) a
theorem Xov {n g:Nat} {Z:Array Bool→Prop} {K:Act→Prop} {Q:Exit→Act→World→Prop} (hZ:∀s a w,Z s→C w→K a→wpAny P md ops Q g s a w):
 ∀(f:Nat) (s:Array Bool) (a:Act) (w:World),C w→headQ P md ops C n Z K f s a→wpAny P md ops Q (g+f) s a w:=by
 intro f
 induction f with
 |zero=>exact fun s a w hw h=>hZ s a w h.1 hw h.2
 |succ f ih=>
  rintro s a w hw ⟨⟨i0,h0⟩,h⟩
  refine ⟨fun e=> ?_,fun i hi=>wpOp_of_qOp hw (fun a' w' hw' hk=>ih _ _ _ hw' hk) (h i hi).2⟩
  rw [e] at h0;exact absurd h0 (by simp)
theorem Xkg {s:Array Bool} {i:Nat} {oj:Oper} (hun:s.getD i true=false) (hall:∀e∈oj.after,Region.binds md e=true→s.getD e.on false=true):∀e∈oj.after,Region.binds md e=true→e.on≠i:=by
 intro e he hb heq
 have h:=hall e he hb
 rw [heq,getD_both hun] at h
 exact absurd h (by simp)
theorem Xkm {n i:Nat} {oi:Oper} {v:Value} {Z:Array Bool→Prop} {K:Act→Prop} (hi:ops[i]? =some oi) (hsel:Region.noSelect ops=true) (hs:Region.sinkB md ops n=true) (hc:Region.chainB md ops n=true) (hn:n<ops.size) (hin:i<n)
 (hZ:∀s,Z s→ ∀j∈Region.ready md ops s,n≤j):∀(f:Nat) (s:Array Bool) (a:Act),HeadInv md ops n s→
   (∀j oj,ops[j]? =some oj→j≠i→s.getD j true=false→(∀e∈oj.after,Region.binds md e=true→e.on≠i)→oi.apart ops oj=true)→
   i∈Region.ready md ops s→YieldsIn P ops C oi v a→headQ P md ops C n Z K f (s.setIfInBounds i true) (a.put oi.dst v)→headQ P md ops C n Z K (f+1) s a:=by
 intro f
 induction f with
 |zero=>
  intro s a inv hfree hr hy H
  have hun:=(mem_ready.1 hr).1
  refine ⟨⟨i,hr⟩,fun j hj=> ?_⟩
  by_cases hji:j=i
  ·subst hji;exact ⟨hin,hy.qOp hi H⟩
  ·have h1:=hZ _ H.1 j (ready_mono hj hji)
   exact absurd hj (tail_waits hs hc hn inv _ i rfl hin hun j h1)
 |succ f ih=>
  intro s a inv hfree hr hy H
  have hun:=(mem_ready.1 hr).1
  refine ⟨⟨i,hr⟩,fun j hj=> ?_⟩
  have hjn:j<n:=Nat.lt_of_not_le fun h=>tail_waits hs hc hn inv _ i rfl hin hun j h hj
  refine ⟨hjn,?_⟩
  by_cases hji:j=i
  ·subst hji;exact hy.qOp hi H
  obtain ⟨hjun,oj,hoj,hall⟩:=mem_ready.1 hj
  have h2:=qOp_put hoj (hfree j oj hoj hji hjun (Xkg hun hall)) (fun cs b=>Region.noSelect_spec hsel i oi cs b hi) (fun cs b=>Region.noSelect_spec hsel j oj cs b hoj) hy (H.2 j (ready_mono hj hji)).2
  refine qOp_mono (fun a' h3=>ih _ a' (inv.set hj hjn) (fun k ok hk hki hku=>hfree k ok hk hki ?_) (ready_mono hr (Ne.symm hji)) h3.1 ?_) h2
  ·by_cases e:j=k
   ·subst e;exact hjun
   ·rwa [getD_set_ne true e] at hku
  ·rw [Array.setIfInBounds_comm _ _ hji];exact h3.2
theorem Xow {n g:Nat} {K:Act→Prop} (hsel:Region.noSelect ops=true) (hs:Region.sinkB md ops n=true) (hc:Region.chainB md ops n=true) (hn:n<ops.size):
 ∀(l:List Oper) (k:Nat) (s:Array Bool) (a:Act),(∀j,j<l.length→l[j]? =ops[k+j]?)→k+l.length=n→HeadInv md ops n s→Region.lexHead md ops g l.length k s=true→
 wpQuiet P ops C K l a→headQ P md ops C n (fun s=>Region.seqB md ops g n s=true) K l.length s a:=by
 intro l
 induction l with
 |nil=>
  intro k s a _ hk _ hB h
  simp only [List.length_nil,Nat.add_zero] at hk
  subst hk
  exact ⟨hB,h⟩
 |cons o l ih=>
  intro k s a hl hk inv hB h
  have h0:ops[k]? =some o:=by simpa using (hl 0 (by simp)).symm
  simp only [List.length_cons] at hk
  simp only [List.length_cons,Region.lexHead,Bool.and_eq_true] at hB
  have hr:k∈Region.ready md ops s:=by simpa using hB.1.1
  have hq:qOp P ops C k (wpQuiet P ops C K l) a:=by unfold qOp;rw [h0];exact h
  obtain ⟨v,hy,hK⟩:=yieldsIn_of_qOp h0 hq
  refine Xkm h0 hsel hs hc hn (by omega) (fun s hz=>seqB_ready hz) l.length s a inv (Region.free_spec h0 hB.1.2) hr hy ?_
  refine ih (k+1) _ _ (fun j hj=> ?_) (by omega) (inv.set hr (by omega)) hB.2 hK
  have:=hl (j+1) (by simp;omega)
  rw [List.getElem?_cons_succ] at this
  rw [this,Nat.add_assoc,Nat.add_comm 1 j]
theorem Xc4 {id:Nat} {Q:Exit→Act→World→Prop} {a:Act} {w:World} {l:List Oper} (n:Nat) (hm:P.follows .mixedOrders=true) (hB:Region.lexTailB .any l.toArray n=true) (hC:C { w with drawn:=w.drawn+1 })
 (h:wpQuiet P l.toArray C (fun a'=> ∀w',C w'→wpList P l.toArray Q (l.drop n) a' w') (l.take n) a):(Code.region id l.toArray true).wp P Q a w:=by
 simp only [Region.lexTailB,Bool.and_eq_true,decide_eq_true_eq] at hB
 obtain ⟨⟨⟨⟨hsel,hn⟩,hs⟩,hc⟩,hlex⟩:=hB
 have hn':n<l.length:=by simpa using hn
 have htl:(l.take n).length=n:=by simp;omega
 have hdl:(l.drop n).length=l.toArray.size-n:=by simp
 have inv0:HeadInv .any l.toArray n (Array.replicate l.toArray.size false):=by
  refine ⟨by simp,fun j oj _ hl=> ?_,fun t _ ht=>getD_in (by simpa using ht) (getD_replicate_false _ _)⟩
  rw [getD_replicate_false] at hl;exact absurd hl (by simp)
 have H:=Xow (P:=P) (C:=C) (md:= .any) (g:=l.toArray.size-n) hsel hs hc hn (l.take n) 0 _ a (fun j hj=>by
  rw [htl] at hj
  simp [hj]) (by omega) inv0 (by rw [htl];exact hlex) h
 have R:=Xov (Q:=Q) (g:=l.toArray.size-n) (fun s a' w' hz hw hk=>by
  have:=wpAny_of_seq (md:= .any) (Q':=Q) (l.drop n) n s a' w' (fun j=>by simp [List.getElem?_drop]) (by rw [hdl];exact hz) (hk w' hw)
  rwa [hdl] at this) _ _ _ _ hC H
 rw [htl,show l.toArray.size-n+n=l.toArray.size by omega] at R
 exact wp_region_any hm R
theorem Xba {id:Nat} {Q:Exit→Act→World→Prop} {a:Act} {w:World} {l:List Oper} (n:Nat) (hm:P.follows .mixedOrders=true) (hB:Region.lexTailB .any l.toArray n=true)
 (h:wpQuiet P l.toArray (fun w'=> ∃p:Regrown,w'=grow (redrawn w p.d) p.os) (fun a'=> ∀w',(∃p:Regrown,w'=grow (redrawn w p.d) p.os)→wpList P l.toArray Q (l.drop n) a' w') (l.take n) a):(Code.region id l.toArray true).wp P Q a w:=
 Xc4 (C:=fun w'=> ∃p:Regrown,w'=grow (redrawn w p.d) p.os) n hm hB ⟨⟨w.drawn+1,#[]⟩,by rw [grow_empty];rfl⟩ h
end
end Go.Proofs.YtmdfjnhfhidmhaaGreatDoor
namespace Go.Proofs.YtmdfjnhfhidmhaaGreatDoor
open Go.RowKit
def RetS {α:Type} (T:Ty α) (I:IH) (w:World) (l:List α) (e:Ending) (w':World):Prop:=
 ∃v' I',e= .returned v'∧Below w.heap.size w w'∧Ext w.heap.size I I'∧Ok I' w'∧RdS T I' v' l
def RetL {α:Type} (T:Ty α) (I:IH) (w:World) (l:List α) (n:Int) (e:Ending) (w':World):Prop:=
 ∃v' I',e= .returned (.tuple #[v',.int .i64 n])∧Below w.heap.size w w'∧Ext w.heap.size I I'∧Ok I' w'∧RdS T I' v' l
def At.Wf (x:At):Prop:=x.k.length≤9223372036854775807∧x.v.length≤9223372036854775807
abbrev At.val (x:At):Value:= .agg #[S x.k,S x.v]
def tAt:Ty At:=Ty.flat 2 (fun x=> [S x.k,S x.v]) (fun _=>rfl) (fun _ u h=>by simp at h;rcases h with rfl|rfl<;>rfl)
theorem atAt {I:IH} {v:Value} {l:List At} {w:World} (h:RdS tAt I v l) (hw:Ok I w) (i:Nat) (hi:i<l.length):∃x b off cap,l[i]=x∧v= .slice (some ⟨b,off,none⟩) l.length cap∧
 w.cell? ⟨b,off+i*2,none⟩=some (S x.k)∧w.cell? ⟨b,off+i*2+1,none⟩=some (S x.v):=by
 obtain ⟨b,off,cap,cs,hv,hcs,hc⟩:=h.at_ hw hi
 have hcs':cs= [S l[i].k,S l[i].v]:=hcs
 subst hcs'
 exact ⟨_,b,off,cap,rfl,hv,hc 0 _ rfl,hc 1 _ rfl⟩
def tXt:Ty Xt:=Ty.flat 3 (fun x=> [.int .i64 x.s,.int .i64 x.o,.int .i64 x.n]) (fun _=>rfl) (fun _ u h=>by simp at h;rcases h with rfl|rfl|rfl<;>rfl)
theorem xtAt {I:IH} {v:Value} {l:List Xt} {w:World} (h:RdS tXt I v l) (hw:Ok I w) (i:Nat) (hi:i<l.length):∃x b off cap,l[i]=x∧v= .slice (some ⟨b,off,none⟩) l.length cap∧
 w.cell? ⟨b,off+i*3,none⟩=some (.int .i64 x.s)∧w.cell? ⟨b,off+i*3+1,none⟩=some (.int .i64 x.o)∧w.cell? ⟨b,off+i*3+2,none⟩=some (.int .i64 x.n):=by
 obtain ⟨b,off,cap,cs,hv,hcs,hc⟩:=h.at_ hw hi
 have hcs':cs= [.int .i64 l[i].s,.int .i64 l[i].o,.int .i64 l[i].n]:=hcs
 subst hcs'
 exact ⟨_,b,off,cap,rfl,hv,hc 0 _ rfl,hc 1 _ rfl,hc 2 _ rfl⟩
def Xt.Wf (x:Xt):Prop:=(-9223372036854775808≤x.s∧x.s≤9223372036854775807)∧(-9223372036854775808≤x.o∧x.o≤9223372036854775807)∧(-9223372036854775808≤x.n∧x.n≤9223372036854775807)
structure Ent.Wf (e:Ent):Prop where
 k0: -9223372036854775808≤e.kind
 k1:e.kind≤9223372036854775807
 path:e.path.length≤9223372036854775807
 attrs:∀x∈e.attrs,x.Wf
 target:e.target.length≤9223372036854775807
 s0: -9223372036854775808≤e.size
 s1:e.size≤9223372036854775807
 digest:e.digest.length≤9223372036854775807
 exts:∀x∈e.exts,x.Wf
abbrev entCs (e:Ent) (va vx:Value):List Value:= [.int .i64 e.kind,S e.path,va,S e.target,.int .i64 e.size,S e.digest,vx]
abbrev entV (e:Ent) (va vx:Value):Value:= .agg #[.int .i64 e.kind,S e.path,va,S e.target,.int .i64 e.size,S e.digest,vx]
def tEnt:Ty Ent where
 size:=7
 rd:=fun I cs e=> ∃va vx,cs=entCs e va vx∧RdS tAt I va e.attrs∧RdS tXt I vx e.exts
 len:=fun ⟨_,_,h,_⟩=>by rw [h];rfl
 one:=fun ⟨va,vx,h,h1,h2⟩ u hu=>by
  rw [h] at hu
  simp at hu
  rcases hu with rfl|rfl|rfl|rfl|rfl|rfl|rfl<;>first|rfl|exact h1.one|exact h2.one
 mono:=fun hI ⟨va,vx,h,h1,h2⟩=>⟨va,vx,h,h1.mono hI,h2.mono hI⟩
structure EntAt (w:World) (b o:Nat) (e:Ent) (va vx:Value):Prop where
 c0:w.cell? ⟨b,o,none⟩=some (.int .i64 e.kind)
 c1:w.cell? ⟨b,o+1,none⟩=some (S e.path)
 c2:w.cell? ⟨b,o+2,none⟩=some va
 c3:w.cell? ⟨b,o+3,none⟩=some (S e.target)
 c4:w.cell? ⟨b,o+4,none⟩=some (.int .i64 e.size)
 c5:w.cell? ⟨b,o+5,none⟩=some (S e.digest)
 c6:w.cell? ⟨b,o+6,none⟩=some vx
theorem Xd8 {I:IH} {v:Value} {l:List Ent} {w:World} (h:RdS tEnt I v l) (hw:Ok I w) (i:Nat) (hi:i<l.length):∃x va vx b off cap,l[i]=x∧v= .slice (some ⟨b,off,none⟩) l.length cap∧
 EntAt w b (off+i*7) x va vx∧RdS tAt I va x.attrs∧RdS tXt I vx x.exts:=by
 obtain ⟨b,off,cap,cs,hv,⟨va,vx,hcs,h1,h2⟩,hc⟩:=h.at_ hw hi
 subst hcs
 exact ⟨_,va,vx,b,off,cap,rfl,hv,⟨hc 0 _ rfl,hc 1 _ rfl,hc 2 _ rfl,hc 3 _ rfl,hc 4 _ rfl,hc 5 _ rfl,hc 6 _ rfl⟩,h1,h2⟩
end Go.Proofs.YtmdfjnhfhidmhaaGreatDoor
namespace Go.Proofs.YtmdfjnhfhidmhaaGreatDoor
theorem Xnw:∀(s:Bytes),Lib.split s [47]=elsGo [] s:=by
 have key:∀(n:Nat) (s:Bytes),s.length≤n→Lib.split s [47]=elsGo [] s:=by
  intro n
  induction n with
  |zero=>
   intro s h
   have:s= []:=List.eq_nil_of_length_eq_zero (by omega)
   subst this
   rfl
  |succ n ih=>
   intro s h
   rcases Lib.index_spec s [47] with ⟨h1,h2⟩|⟨i,h1,h2,h3,h4⟩
   ·have hn:∀c∈s,c≠47:=by
     intro c hc e
     obtain ⟨j,hj,rfl⟩:=List.getElem_of_mem hc
     have:=h2 j (by omega)
     unfold Lib.occAt at this
     rw [List.drop_eq_getElem_cons hj,e] at this
     simp at this
    have h5:=Xch s [] [] hn
    rw [List.append_nil,List.nil_append] at h5
    rw [h5,Lib.split,Lib.count_miss h1]
    rfl
   ·have hi:i<s.length∧s[i]? =some 47:=by
     have h6:=Lib.occAt_head rfl h3
     exact ⟨(List.getElem?_eq_some_iff.1 h6).1,h6⟩
    have hn:∀c∈s.take i,c≠47:=by
     intro c hc e
     obtain ⟨j,hj,rfl⟩:=List.getElem_of_mem hc
     have hji:j<i:=by simp at hj;omega
     have:=h4 j hji
     unfold Lib.occAt at this
     rw [List.drop_eq_getElem_cons (by omega)] at this
     rw [List.getElem_take] at e
     rw [e] at this
     simp at this
    have hs:s=s.take i++47::s.drop (i+1):=by
     conv=>lhs;rw [←List.take_append_drop i s,List.drop_eq_getElem_cons hi.1]
     have:=hi.2
     rw [List.getElem?_eq_getElem hi.1] at this
     rw [Option.some.inj this]
    have h5:=Xch (s.take i) [] (47::s.drop (i+1)) hn
    rw [←hs,List.nil_append] at h5
    rw [h5,elsGo,if_pos (by rfl),←ih (s.drop (i+1)) (by rw [List.length_drop];omega)]
    rw [Lib.split,Lib.count_hit (by simp) h1,Nat.add_comm,Lib.splitK,if_neg (by rw [h1];simp),h1]
    rfl
 exact fun s=>key s.length s (Qn _)
theorem Xq2 (l:List Bytes):Lib.join l [47]=joinP l:=by
 induction l with
 |nil=>rfl
 |cons p l ih=>
  cases l with
  |nil=>simp [Lib.join,List.intercalate,joinP]
  |cons q l=>
   rw [joinP,←ih]
   simp [Lib.join,List.intercalate]
def notAllowed (r:Nat):Bool:= !(decide (97≤r)&&decide (r≤122) || decide (48≤r)&&decide (r≤57) || decide (r=46) || decide (r=95) || decide (r=45))
theorem Xfm (c:UInt8):keyChar c= !(notAllowed c.toNat):=by
 have e:∀n:Nat,n<256→(c==UInt8.ofNat n)=decide (c.toNat=n):=fun n hn=>by
  rw [Bool.eq_iff_iff,beq_iff_eq,decide_eq_true_iff]
  constructor
  ·intro h;rw [h];simp;omega
  ·intro h
   have:c=UInt8.ofNat c.toNat:=by simp
   rw [this,h]
 unfold keyChar notAllowed
 rw [show (46:UInt8)=UInt8.ofNat 46 from rfl,show (95:UInt8)=UInt8.ofNat 95 from rfl,show (45:UInt8)=UInt8.ofNat 45 from rfl,e 46 (by omega),e 95 (by omega),e 45 (by omega)]
 simp [UInt8.le_iff_toNat_le]
theorem Xcq {r:Nat} (h:128≤r):notAllowed r=true:=by
 unfold notAllowed
 simp
 omega
theorem Xq5 (s:ByteArray):∀(f pos:Nat),s.size≤pos+f→decide (0≤Lib.idxFuncFrom notAllowed true s f pos)= !((s.data.toList.drop pos).all keyChar):=by
 intro f
 induction f with
 |zero=>
  intro pos h
  have hl:s.data.toList.length=s.size:=Array.length_toList
  rw [List.drop_of_length_le (by omega)]
  rfl
 |succ f ih=>
  intro pos h
  have hl:s.data.toList.length=s.size:=Array.length_toList
  rw [Lib.idxFuncFrom]
  by_cases hp:pos<s.size
  ·rw [if_pos hp,List.drop_eq_getElem_cons (by omega),List.all_cons]
   have hb:s.data.toList[pos]'(by omega)=s[pos]'hp:=by
    rw [Array.getElem_toList];rfl
   rw [hb]
   by_cases ha:(s[pos]'hp).toNat<128
   ·rw [decode_ascii s pos hp ha]
    have hk:=Xfm (s[pos]'hp)
    cases hn:notAllowed (s[pos]'hp).toNat
    ·rw [if_neg (by simp),hk,hn,ih (pos+1) (by omega)]
     simp
    ·rw [if_pos rfl,hk,hn]
     simp
   ·have hd:=decode_high s pos hp (by omega)
    rw [if_pos (Xcq hd.1),Xfm,Xcq (by omega)]
    simp
  ·rw [if_neg hp,List.drop_of_length_le (by omega)]
   rfl
theorem Xq6 (s:Bytes):decide (0≤Lib.idxFunc notAllowed true ⟨s.toArray⟩)= !(s.all keyChar):=by
 have:=Xq5 ⟨s.toArray⟩ (⟨s.toArray⟩:ByteArray).size 0 (by omega)
 rw [Lib.idxFunc,this]
 simp
def cmpL (a b:List Bytes):Int:=if ltP a b then -1 else if ltP b a then 1 else 0
theorem Xtv (a b:Bytes):cmpP a b=cmpL (els a) (els b):=rfl
theorem Xjs (x:Bytes) (a b:List Bytes):cmpL (x::a) (x::b)=cmpL a b:=by
 unfold cmpL
 rw [ltP,ltP,Xa2]
 simp
theorem Xjq {x y:Bytes} (h:Op.bytesLess x y=true) (a b:List Bytes):cmpL (x::a) (y::b)= -1:=by
 unfold cmpL
 rw [ltP,h]
 simp
theorem Xjr {x y:Bytes} (h:Op.bytesLess y x=true) (a b:List Bytes):cmpL (x::a) (y::b)=1:=by
 unfold cmpL
 rw [ltP,ltP,h,Xd0 h]
 have:(x==y)=false:=by simpa using (Xpo h).symm
 rw [this]
 simp
theorem Xpj {a b:List Bytes} {k:Nat} (h:a.take k=b.take k) (ha:k≤a.length) (hb:k≤b.length):cmpL a b=cmpL (a.drop k) (b.drop k):=by
 induction k generalizing a b with
 |zero=>rfl
 |succ k ih=>
  cases a with
  |nil=>simp at ha
  |cons x a=>
   cases b with
   |nil=>simp at hb
   |cons y b=>
    simp only [List.take_succ_cons,List.cons.injEq] at h
    obtain ⟨rfl,h⟩:=h
    rw [Xjs,List.drop_succ_cons,List.drop_succ_cons]
    exact ih h (by simpa using ha) (by simpa using hb)
end Go.Proofs.YtmdfjnhfhidmhaaGreatDoor
namespace Go.Proofs.YtmdfjnhfhidmhaaGreatDoor
open Go.RowKit
theorem run_at {P:Program} {t:TypeId} (h:P.underlying t=some .string) (s:Bytes) (i:Int) (j:Nat) (hi:i=(j:Int)) (hj:j<s.length) (W:World):(Instr.index t (S s) (.int .i64 i)).run P W= .ok (.int .u8 ((s.getD j 0).toNat:Nat)) W:=by
 subst hi
 rw [S,run_index_string W t _ .i64 _ h]
 have hsz:(⟨s.toArray⟩:ByteArray).size=s.length:=by simp [ByteArray.size]
 rw [dif_pos ⟨by omega,by rw [hsz];omega⟩]
 have e:(⟨s.toArray⟩:ByteArray)[((j:Nat):Int).toNat]'(by rw [hsz];simpa using hj)=s.getD j 0:=by
  simp [List.getD,List.getElem?_eq_getElem hj,ByteArray.getElem_eq_getElem_data]
 rw [e]
theorem Xnt {I:IH} {v:Value} {l:List Bytes} {w:World} (h:RdS tStr I v l) (hw:Ok I w) (i:Nat) (hi:i<l.length):∃s b off cap,l[i]=s∧v= .slice (some ⟨b,off,none⟩) l.length cap∧
 w.cell? ⟨b,off+i,none⟩=some (S s):=by
 obtain ⟨b,off,cap,cs,hv,hcs,hc⟩:=h.at_ hw hi
 have hcs':cs= [S l[i]]:=hcs
 subst hcs'
 have:=hc 0 _ rfl
 exact ⟨_,b,off,cap,rfl,hv,by simpa [tStr,Ty.flat] using this⟩
theorem Xp7:(Tryz.prog.info? 9).map (fun i=>(i.zero,i.size,i.bytes))=some (some (.string ⟨#[]⟩),1,16):=by kernel_rfl
theorem Xk1:ElemOk Tryz.prog 126 9 tStr 16:=ElemOk.of Tryz.underlying126 Xp7 rfl (by decide) rfl
theorem Xu3 (c:UInt8) (n:Nat) (hn:n<256):(((c.toNat:Nat):Int)==(n:Int))=(c==UInt8.ofNat n):=by
 rw [Bool.eq_iff_iff,beq_iff_eq,beq_iff_eq]
 constructor
 ·intro h
  have h':c.toNat=n:=by omega
  rw [←h'];simp
 ·intro h;rw [h];simp;omega
theorem Xct:∀(a b:List Bytes),(joinP a).length≤(joinP (a++b)).length
 | [],_=>Nat.zero_le _
 | [p],[]=>Qn _
 | [p],q::b=>by
   rw [List.singleton_append,show joinP [p]=p from rfl,Xby p (show q::b≠ [] by simp)]
   simp
 |p::q::a,b=>by
  have:=Xct (q::a) b
  rw [List.cons_append,Xby p (by simp),Xby p (by simp)]
  simp only [List.length_append,List.length_cons]
  omega
theorem Xhr (l:List Bytes) (k:Nat):(joinP (l.take k)).length≤(joinP l).length:=by
 conv=>rhs;rw [←List.take_append_drop k l]
 exact Xct _ _
theorem RdS.takeS {α:Type} {T:Ty α} {I:IH} {l:List α} {ao:Option Addr} {m cap:Nat} (h:RdS T I (.slice ao m cap) l) {n:Nat} (hn:n≤l.length):RdS T I (.slice ao n cap) (l.take n):=by
 obtain ⟨ao',cap',e,h1,h2,h3⟩:=h
 injection e with e1 e2 e3
 subst e1 e3
 have hl:(l.take n).length=n:=by rw [List.length_take,Nat.min_eq_left hn]
 refine ⟨_,_,by rw [hl],by omega,h2,fun h0=> ?_⟩
 obtain ⟨b,off,arr,k1,k2,k3⟩:=h3 (by omega)
 refine ⟨b,off,arr,k1,k2,fun i hi=> ?_⟩
 obtain ⟨cs,c1,c2⟩:=k3 i (by omega)
 exact ⟨cs,by rw [List.getElem_take];exact c1,c2⟩
theorem Xfx:∀(s p:Bytes) (q:Bytes),q∈elsGo p s→q.length≤p.length+s.length
 | [],p,q,h=>by
   rw [elsGo] at h
   simp at h
   subst h
   simp
 |c::s,p,q,h=>by
  rw [elsGo] at h
  split at h
  ·rcases List.mem_cons.1 h with rfl|h
   ·simp only [List.length_cons];omega
   ·have:=Xfx s [] q h
    simp only [List.length_cons,List.length_nil] at this ⊢
    omega
  ·have:=Xfx s _ q h
   simp only [List.length_append,List.length_cons,List.length_nil] at this ⊢
   omega
theorem Xtn {s q:Bytes} (h:q∈els s):q.length≤s.length:=by
 unfold els at h
 split at h
 ·exact absurd h (by simp)
 ·have:=Xfx s [] q h
  simpa using this
def splP (s:Bytes):List Bytes × Int:=if pathErr s=0 then (els s,0) else ([],pathErr s)
theorem Xd2 {s:Bytes} (h:pathErr s=0):splP s=(els s,0):=by rw [splP,if_pos h]
theorem Xj6 {s:Bytes} (h:pathErr s≠0):splP s=([],pathErr s):=by rw [splP,if_neg h]
def parP (s:Bytes):Bytes × Int:=if pathErr s≠0 then ([],pathErr s) else if s= [] then ([],1) else (upP s,0)
end Go.Proofs.YtmdfjnhfhidmhaaGreatDoor
