/-
  Walks and laws that the claim's theorem uses: texts Base Ord AtP Pth Tre Own Ent Tail Ret Ptl PaA PaB PaC PaD EnA AtA AtB AtC EnB EnC, joined; comments out. Conditions: as each theorem says.
-/
import Derived.WalkKit
import Derived.WalkSpells
import Derived.WalkLawsBesides
import Derived.Lib.Hide
import Derived.Lib.QuietBelow
import Derived.Deep.QuietTactic
import Derived.BigQuiet
import Derived.Laws.StructEq
import Derived.StillTail
import Derived.Lib.SplitLaws
import Derived.Lib.Join
import Derived.Laws.RangeAny
import Derived.Shelf.GgClosure.StringsIndexFunc
import Derived.Test.YtkipnpjagcfcpaaGreatDoorRows
set_option linter.all false
namespace Go.Proofs.YtkipnpjagcfcpaaGreatDoor
open Go.RowKit
theorem Qh {p:Prop} (h:p):Hid p:=h
theorem Qn (n:Nat):n≤n:=Nat.le_refl n
theorem Qb (n:Nat) (w:World):Below n w w:=Below.refl n w
theorem Qt {p:Prop} [Decidable p] (h:p):decide p=true:=decide_eq_true h
theorem Qf {p:Prop} [Decidable p] (h:¬p):decide p=false:=decide_eq_false h
abbrev Bytes:=List UInt8
abbrev S (l:Bytes):Value:= .string ⟨l.toArray⟩
abbrev IH:=Nat→Option (Array Value)
def Ok (I:IH) (w:World):Prop:= ∀b c,I b=some c→ ∃e f,w.heap[b]? =some (.cells c e f)
def Ext (n:Nat) (I I':IH):Prop:= ∀b,b<n→I' b=I b
def IH.add (I:IH) (b:Nat) (c:Array Value):IH:=fun k=>if k=b then some c else I k
section
variable {I I' I'':IH} {w w':World} {b n m:Nat} {c:Array Value}
theorem Ok.lt (h:Ok I w) (hb:I b=some c):b<w.heap.size:=by
 obtain ⟨e,f,hh⟩:=h b c hb
 exact (Array.getElem?_eq_some_iff.1 hh).1
theorem Ok.fresh (h:Ok I w) (hb:w.heap.size≤b):I b=none:=by
 cases hc:I b with
 |none=>rfl
 |some c=>have:=h.lt hc;omega
theorem Ok.cell (h:Ok I w) (hb:I b=some c) (j:Nat):w.cell? ⟨b,j,none⟩=c[j]? :=by
 obtain ⟨e,f,hh⟩:=h b c hb
 simp [World.cell?,hh]
theorem Ok.of_block (h:Ok I w) (k:∀b c,I b=some c→w'.heap[b]? =w.heap[b]?):Ok I w':=fun b c hb=>by
 rw [k b c hb];exact h b c hb
theorem Ok.below {B:Nat} (h:Ok I w) (hB:w.heap.size≤B) (hb:Below B w w'):Ok I w':=
 h.of_block fun b _ hc=>hb.block b (Nat.lt_of_lt_of_le (h.lt hc) hB)
theorem Ok.drew (h:Ok I w):Ok I w.drew:=h
theorem Ok.alloc (h:Ok I w) (o:Obj):Ok I (w.alloc o):=h.of_block fun b _ hc=>Below.heap_alloc w o b (h.lt hc)
theorem Ok.setCell (h:Ok I w) {a:Addr} (ha:I a.block=none) (u:Value):Ok I (w.setCell a u):=h.of_block fun b _ hc=>
 Below.heap_setCell w a u b (fun e=>by subst e;rw [ha] at hc;cases hc)
theorem Ok.grown (h:Ok I w) {row:Option Nat} (hg:w.grownBy w' row) (hr:∀g,row=some g→I g=none):Ok I w':=h.of_block fun b _ hc=>
 hg.block b (h.lt hc) (fun e=>by have:=hr b e.symm;rw [this] at hc;cases hc)
theorem Ok.add {e:TypeId} {f:Nat × Nat} (h:Ok I w) (hb:w.heap[b]? =some (.cells c e f)):Ok (I.add b c) w:=fun k d hk=>by
 unfold IH.add at hk
 split at hk
 ·rename_i e';subst e';cases hk;exact ⟨e,f,hb⟩
 ·exact h k d hk
theorem Ext.refl (n:Nat) (I:IH):Ext n I I:=fun _ _=>rfl
theorem Ext.trans (h:Ext n I I') (k:Ext m I' I'') (hm:n≤m):Ext n I I'':=fun b hb=>(k b (by omega)).trans (h b hb)
theorem Ext.mono (h:Ext n I I') (hm:m≤n):Ext m I I':=fun b hb=>h b (by omega)
theorem Ext.add (hb:n≤b) (I:IH) (c:Array Value):Ext n I (I.add b c):=fun k hk=>by
 unfold IH.add;rw [if_neg (by omega)]
theorem Ext.keep (h:Ext n I I') (hok:Ok I w) (hn:w.heap.size≤n):∀b c,I b=some c→I' b=some c:=fun b c hc=>by
 rw [h b (Nat.lt_of_lt_of_le (hok.lt hc) hn)];exact hc
end
structure Ty (α:Type) where
 size:Nat
 rd:IH→List Value→α→Prop
 len:∀ {I cs x},rd I cs x→cs.length=size
 one:∀ {I cs x},rd I cs x→ ∀u∈cs,u.oneCell'=true
 mono:∀ {I I':IH} {cs x},(∀b c,I b=some c→I' b=some c)→rd I cs x→rd I' cs x
def Ty.flat {α:Type} (size:Nat) (enc:α→List Value) (hl:∀x,(enc x).length=size) (h1:∀x,∀u∈enc x,u.oneCell'=true):Ty α where
 size:=size
 rd:=fun _ cs x=>cs=enc x
 len:=fun h=>by rw [h];exact hl _
 one:=fun h=>by rw [h];exact h1 _
 mono:=fun _ h=>h
def tInt (k:IntKind):Ty Int:=Ty.flat 1 (fun n=> [.int k n]) (fun _=>rfl) (fun _ u h=>by simp at h;subst h;rfl)
def tStr:Ty Bytes:=Ty.flat 1 (fun s=> [S s]) (fun _=>rfl) (fun _ u h=>by simp at h;subst h;rfl)
def Lies {α:Type} (T:Ty α) (I:IH) (arr:Array Value) (off:Nat) (l:List α):Prop:=
 ∀i (h:i<l.length),∃cs,T.rd I cs l[i]∧ ∀j u,cs[j]? =some u→arr[off+(i*T.size+j)]? =some u
def RdS {α:Type} (T:Ty α) (I:IH) (v:Value) (l:List α):Prop:=
 ∃(ao:Option Addr) (cap:Nat),v= .slice ao l.length cap∧l.length≤cap∧cap≤maxLen∧
  (0<l.length→ ∃b off arr,ao=some ⟨b,off,none⟩∧I b=some arr∧Lies T I arr off l)
section
variable {α:Type} {T:Ty α} {I I':IH} {w:World} {v:Value} {l:List α}
theorem Lies.mono {arr:Array Value} {off:Nat} (hI:∀b c,I b=some c→I' b=some c) (h:Lies T I arr off l):Lies T I' arr off l:=fun i hi=>
 let ⟨cs,h1,h2⟩:=h i hi
 ⟨cs,T.mono hI h1,h2⟩
theorem RdS.mono (hI:∀b c,I b=some c→I' b=some c) (h:RdS T I v l):RdS T I' v l:=by
 obtain ⟨ao,cap,hv,h1,h2,h3⟩:=h
 refine ⟨ao,cap,hv,h1,h2,fun hl=> ?_⟩
 obtain ⟨b,off,arr,e1,e2,e3⟩:=h3 hl
 exact ⟨b,off,arr,e1,hI _ _ e2,e3.mono hI⟩
theorem RdS.nil (T:Ty α) (I:IH):RdS T I (.slice none 0 0) []:=⟨none,0,rfl,Qn _,Nat.zero_le _,fun h=>absurd h (by simp)⟩
theorem RdS.one {v:Value} (h:RdS T I v l):v.oneCell'=true:=by
 obtain ⟨ao,cap,rfl,_⟩:=h;rfl
def tSl (T:Ty α):Ty (List α) where
 size:=1
 rd:=fun I cs l=> ∃v,cs= [v]∧RdS T I v l
 len:=fun ⟨v,h,_⟩=>by rw [h];rfl
 one:=fun ⟨v,h,k⟩ u hu=>by rw [h] at hu;simp at hu;subst hu;exact k.one
 mono:=fun hI ⟨v,h,k⟩=>⟨v,h,k.mono hI⟩
theorem RdS.at_ (h:RdS T I v l) (hw:Ok I w) {i:Nat} (hi:i<l.length):∃b off cap cs,v= .slice (some ⟨b,off,none⟩) l.length cap∧T.rd I cs l[i]∧
 ∀j u,cs[j]? =some u→w.cell? ⟨b,off+i*T.size+j,none⟩=some u:=by
 obtain ⟨ao,cap,hv,h1,h2,h3⟩:=h
 obtain ⟨b,off,arr,rfl,e2,e3⟩:=h3 (by omega)
 obtain ⟨cs,k1,k2⟩:=e3 i hi
 exact ⟨b,off,cap,cs,hv,k1,fun j u hu=>by rw [hw.cell e2,Nat.add_assoc];exact k2 j u hu⟩
theorem RdS.len_le (h:RdS T I v l):l.length≤9223372036854775807:=by
 obtain ⟨ao,cap,hv,h1,h2,h3⟩:=h
 unfold maxLen at h2;omega
end
@[go_sem] theorem mk_append_mk (x y:Bytes):(ByteArray.mk x.toArray++ByteArray.mk y.toArray)=ByteArray.mk (x++y).toArray:=ByteArray.mk_append_mk x y
@[go_sem] theorem mk_extract (x:Bytes) (a b:Nat):(ByteArray.mk x.toArray).extract a b=ByteArray.mk ((x.drop a).take (b-a)).toArray:=by
  apply ByteArray.ext
  simp [ByteArray.data_extract]
theorem Xri {P:Program} (src dst e:TypeId) (hs:P.underlying src=some (.slice e)) (he:P.underlying e=some (.int .u8)) (hd:P.underlying dst=some .string) (W:World) (t:TypeId) (v:Int):
 (convert src dst (.slice (some ⟨W.heap.size,0,none⟩) 1 1)).run P (W.alloc (.cells #[.int .u8 v] t))= .ok (S [UInt8.ofNat v.toNat]) (W.alloc (.cells #[.int .u8 v] t)):=by
 rw [run_convert_bytes_string _ _ _ e _ _ _ hs he hd,run_bytesToString (ns:= [v])]
 ·rfl
 ·exact run_loadCells_list (P:=P) _ ⟨W.heap.size,0,none⟩ [Value.int .u8 v] (fun j u hu=>by
   rw [Addr.add_lit,World.cell?_alloc_at _ _ _ _ rfl]
   simpa using hu)
theorem Xfy {a b:Bytes} (h:a=b):Ending.returned (S a)= .returned (S b):=by rw [h]
theorem Xag {k:IntKind} {a b:Int} (h:a=b):Ending.returned (.int k a)= .returned (.int k b):=by rw [h]
theorem Xa2 {a b:Bool} (h:a=b):Ending.returned (.bool a)= .returned (.bool b):=by rw [h]
@[go_sem] def eqL (d:Nat) (xs ys:Array Value):List (TypeId × Nat × Bool)→Sem Bool
  | []=>pure true
  |(t,o,b)::fs=>if b then eqL d xs ys fs else do
     let a ←part t xs o
     let b ←part t ys o
     let r ←Op.equalIn d t a b
     if (!r)=true then pure false else eqL d xs ys fs
theorem Xfv (d : Nat) (xs ys : Array Value) : ∀ fs : List Field, Op.eqFields d xs ys fs = eqL d xs ys (fs.map fun f => (f.type, f.offset, f.name == "_"))
 | []=>rfl
 |f::fs=>by
  simp only [Op.eqFields,List.map_cons,eqL,Xfv d xs ys fs]
  by_cases h : f.name = "_" <;> simp [h]
theorem Xoa {P:Program} {t:TypeId} (xs ys:Array Value) (L:List (TypeId × Nat × Bool)) (W:World) (h1:P.underlying t=some (.struct (P.fieldsOf t))) (h2:P.stoodInHeld t=false)
 (hL : (P.fieldsOf t).toList.map (fun f => (f.type, f.offset, f.name == "_")) = L) :
 (binOp .neq t (.agg xs) (.agg ys)).run P W=((eqL 9999 xs ys L).run P W).andThen fun b w'=> .ok (.bool (!b)) w':=by
 rw [run_neq_struct,show (10000:Nat)=9999+1 from rfl,run_equalIn_agg _ _ _ _ _ h1 h2,Xfv,hL]
end Go.Proofs.YtkipnpjagcfcpaaGreatDoor
namespace Go.Proofs.YtkipnpjagcfcpaaGreatDoor
theorem Xbr:∀a:Bytes,Op.bytesLess a a=false
 | []=>rfl
 |x::a=>by rw [Op.bytesLess,Xbr a];simp
theorem Xd4:∀ {a b c:Bytes},Op.bytesLess a b=true→Op.bytesLess b c=true→Op.bytesLess a c=true
 |_,[],_,h,_=>by simp [Op.bytesLess] at h
 |_,_::_,[],_,h=>by simp [Op.bytesLess] at h
 | [],_::_,_::_,_,_=>rfl
 |x::a,y::b,z::c,h,k=>by
  simp only [Op.bytesLess,Bool.or_eq_true,Bool.and_eq_true,decide_eq_true_eq,beq_iff_eq] at h k ⊢
  rcases h with h|⟨rfl,h⟩<;>rcases k with k|⟨rfl,k⟩
  ·exact .inl (UInt8.lt_trans h k)
  ·exact .inl h
  ·exact .inl k
  ·exact .inr ⟨rfl,Xd4 h k⟩
theorem Xdc:∀(a b:Bytes),Op.bytesLess a b=true∨a=b∨Op.bytesLess b a=true
 | [],[]=> .inr (.inl rfl)
 | [],_::_=> .inl rfl
 |_::_,[]=> .inr (.inr rfl)
 |x::a,y::b=>by
  simp only [Op.bytesLess,Bool.or_eq_true,Bool.and_eq_true,decide_eq_true_eq,beq_iff_eq,List.cons.injEq]
  by_cases h:x=y
  ·subst h
   rcases Xdc a b with h|h|h
   ·exact .inl (.inr ⟨rfl,h⟩)
   ·exact .inr (.inl ⟨rfl,h⟩)
   ·exact .inr (.inr (.inr ⟨rfl,h⟩))
  ·rcases UInt8.lt_or_lt_of_ne h with h|h
   ·exact .inl (.inl h)
   ·exact .inr (.inr (.inl h))
theorem Xcs {a b:Bytes} (h:Op.bytesLess a b=true):Op.bytesLess b a=false:=by
 cases k:Op.bytesLess b a
 ·rfl
 ·have:=Xd4 h k;rw [Xbr] at this;exact absurd this (by simp)
theorem Xju {a b:Bytes} (h:Op.bytesLess a b=true):a≠b:=by
 rintro rfl;rw [Xbr] at h;exact absurd h (by simp)
section
variable {α:Type} {key:α→Bytes}
def Srt (key:α→Bytes) (l:List α):Prop:=l.Pairwise fun a b=>Op.bytesLess (key a) (key b)=true
end
end Go.Proofs.YtkipnpjagcfcpaaGreatDoor
namespace Go.Proofs.YtkipnpjagcfcpaaGreatDoor
structure At where
 k:Bytes
 v:Bytes
deriving DecidableEq
def keyChar (c:UInt8):Bool:=decide (97≤c)&&decide (c≤122) || decide (48≤c)&&decide (c≤57) || c==46 || c==95 || c==45
def keyOk (s:Bytes):Bool:=decide (1≤s.length)&&decide (s.length≤32)&&s.all keyChar
def atErr (x:At):Int:=if keyOk x.k=false then 7 else if 64<x.v.length then 6 else 0
def chkFrom:Option At→List At→Int
 |_,[]=>0
 |p,x::l=>if atErr x≠0 then atErr x else if (p.any fun q=>q.k==x.k) then 8 else if (p.any fun q=>Op.bytesLess x.k q.k) then 14 else chkFrom (some x) l
def chk (l:List At):Int:=if 16<l.length then 6 else chkFrom none l
def getA (l:List At) (k:Bytes):Bytes × Bool:=match l.find? (fun x=>x.k==k) with|some x=>(x.v,true)|none=>([],false)
def remA (l:List At) (k:Bytes):List At:=l.filter fun x=> !(x.k==k)
def putGo (x:At):Bool→List At→List At→List At
 |d,out,[]=>if d then out else out++ [x]
 |d,out,y::l=>putGo x (d || !(Op.bytesLess y.k x.k)) ((if !d&& !(Op.bytesLess y.k x.k) then out++ [x] else out)++(if y.k==x.k then [] else [y])) l
def putA (l:List At) (x:At):List At:=putGo x false [] l
def mrgA (a b:List At):List At:=b.foldl putA a
def setA (l:List At) (x:At):List At × Int:=if chk l≠0 then ([],chk l) else if atErr x≠0 then ([],atErr x) else if 16<(putA l x).length then ([],6) else (putA l x,0)
def mergeA (a b:List At):List At × Int:=if chk a≠0 then ([],chk a) else if chk b≠0 then ([],chk b) else if 16<(mrgA a b).length then ([],6) else (mrgA a b,0)
def GreatA (l:List At):Prop:=30<l.length∨ ∃x∈l,100<x.k.length∨100<x.v.length
structure Okl (l:List At):Prop where
 len:l.length≤16
 all:∀x∈l,atErr x=0
 srt:Srt At.k l
theorem Xkl:∀ {A B:List Bytes},A.Nodup→(∀x∈A,x∈B)→A.length≤B.length
 | [],_,_,_=>Nat.zero_le _
 |x::A,B,hn,hs=>by
  obtain ⟨h1,h2⟩:=List.nodup_cons.1 hn
  have hx:=hs x (List.mem_cons_self ..)
  have h3:=Xkl (B:=B.erase x) h2 fun y hy=>(List.mem_erase_of_ne (a:=y) (b:=x) (fun e=>h1 (by rw [←e];exact hy))).2 (hs y (List.mem_cons_of_mem _ hy))
  rw [List.length_erase_of_mem hx] at h3
  have:=List.length_pos_of_mem hx
  simp only [List.length_cons]
  omega
theorem len_le {A B:List At} (hA:Srt At.k A) (h:∀x∈A,∃y∈B,y.k=x.k):A.length≤B.length:=by
 have hn:(A.map At.k).Nodup:=List.pairwise_map.2 (hA.imp fun {a b} hab=>Xju hab)
 have hs:∀k∈A.map At.k,k∈B.map At.k:=by
  intro k hk
  obtain ⟨x,hx,rfl⟩:=List.mem_map.1 hk
  obtain ⟨y,hy,e⟩:=h x hx
  rw [←e]
  exact List.mem_map_of_mem hy
 simpa using Xkl hn hs
end Go.Proofs.YtkipnpjagcfcpaaGreatDoor
namespace Go.Proofs.YtkipnpjagcfcpaaGreatDoor
def elsGo:Bytes→Bytes→List Bytes
 |p,[]=> [p]
 |p,c::s=>if c==47 then p::elsGo [] s else elsGo (p++ [c]) s
def els (s:Bytes):List Bytes:=if s= [] then [] else elsGo [] s
def comp (s:Bytes):Bool:=decide (1≤s.length)&&decide (s.length≤32)&&s != [46]&&s != [46,46]&&s.all keyChar
def pathErr (s:Bytes):Int:=if 200<s.length then 6 else if 8<(els s).length then 6 else if (els s).all comp then 0 else 7
def joinP:List Bytes→Bytes
 | []=> []
 | [p]=>p
 |p::q::l=>p++47::joinP (q::l)
def under (p d:Bytes):Bool:=decide (pathErr p=0)&&decide (pathErr d=0)&&(els d).isPrefixOf (els p)
def ltP:List Bytes→List Bytes→Bool
 | [],[]=>false
 | [],_::_=>true
 |_::_,[]=>false
 |x::a,y::b=>Op.bytesLess x y || (x==y&&ltP a b)
theorem Xfg:∀a,ltP a a=false
 | []=>rfl
 |x::a=>by rw [ltP,Xbr,Xfg a];simp
theorem Xch:∀ {a b c},ltP a b=true→ltP b c=true→ltP a c=true
 | [],[],_,h,_=>absurd h (by simp [ltP])
 | [],_::_,[],_,h=>absurd h (by simp [ltP])
 | [],_::_,_::_,_,_=>rfl
 |_::_,[],_,h,_=>absurd h (by simp [ltP])
 |_::_,_::_,[],_,h=>absurd h (by simp [ltP])
 |x::a,y::b,z::c,h,k=>by
  rw [ltP,Bool.or_eq_true,Bool.and_eq_true] at h k ⊢
  rcases h with h|⟨h,h'⟩<;>rcases k with k|⟨k,k'⟩
  ·exact .inl (Xd4 h k)
  ·have e:y=z:=by simpa using k
   rw [←e];exact .inl h
  ·have e:x=y:=by simpa using h
   rw [e];exact .inl k
  ·have e:x=y:=by simpa using h
   rw [e];exact .inr ⟨k,Xch h' k'⟩
theorem Xkn:∀a b,ltP a b=true∨a=b∨ltP b a=true
 | [],[]=> .inr (.inl rfl)
 | [],_::_=> .inl rfl
 |_::_,[]=> .inr (.inr rfl)
 |x::a,y::b=>by
  rcases Xdc x y with h|h|h
  ·exact .inl (by rw [ltP,h];rfl)
  ·subst h
   rcases Xkn a b with k|k|k
   ·exact .inl (by rw [ltP,k];simp)
   ·exact .inr (.inl (by rw [k]))
   ·exact .inr (.inr (by rw [ltP,k];simp))
  ·exact .inr (.inr (by rw [ltP,h];rfl))
theorem Xg2 {a b:List Bytes} (h:ltP a b=true):ltP b a=false:=by
 cases k:ltP b a with
 |false=>rfl
 |true=>have:=Xch h k;rw [Xfg] at this;exact absurd this (by simp)
theorem Xko {a b:List Bytes} (h:ltP a b=true):a≠b:=fun e=>by
 rw [e,Xfg] at h;exact absurd h (by simp)
def cmpP (a b:Bytes):Int:=if ltP (els a) (els b) then -1 else if ltP (els b) (els a) then 1 else 0
theorem Xjm:∀(s p:Bytes),elsGo p s≠ []
 | [],p=>by simp [elsGo]
 |c::s,p=>by
  rw [elsGo]
  by_cases h:(c==47)=true
  ·rw [if_pos h];simp
  ·rw [if_neg h];exact Xjm s _
theorem Xu8 {s:Bytes}:els s= []↔s= []:=by
 unfold els
 by_cases h:s= []
 ·rw [if_pos h];simp [h]
 ·rw [if_neg h];simp [h,Xjm]
theorem Xcc (p:Bytes) {l:List Bytes} (h:l≠ []):joinP (p::l)=p++47::joinP l:=by
 cases l with
 |nil=>exact absurd rfl h
 |cons q l=>rfl
theorem Xeg:∀(s p:Bytes),joinP (elsGo p s)=p++s
 | [],p=>by simp [elsGo,joinP]
 |c::s,p=>by
  rw [elsGo]
  by_cases h:(c==47)=true
  ·rw [if_pos h,Xcc _ (Xjm s []),Xeg s []]
   have:c=47:=by simpa using h
   simp [this]
  ·rw [if_neg h,Xeg s];simp
theorem Xg6 (s:Bytes):joinP (els s)=s:=by
 unfold els
 by_cases h:s= []
 ·rw [if_pos h,h];rfl
 ·rw [if_neg h,Xeg];simp
theorem Xu9 {a b:Bytes} (h:els a=els b):a=b:=by rw [←Xg6 a,h,Xg6]
theorem Xc1:∀(s p r:Bytes),(∀c∈s,c≠47)→elsGo p (s++r)=elsGo (p++s) r
 | [],p,r,_=>by simp
 |c::s,p,r,h=>by
  have hc:¬(c==47)=true:=by simpa using h c (List.mem_cons_self ..)
  rw [List.cons_append,elsGo,if_neg hc,Xc1 s _ _ fun x hx=>h x (List.mem_cons_of_mem _ hx)]
  simp
theorem Xhk:∀(l:List Bytes),l≠ []→(∀p∈l,∀c∈p,c≠47)→elsGo [] (joinP l)=l
 | [],h,_=>absurd rfl h
 | [p],_,h=>by
   have:=Xc1 p [] [] (h p (by simp))
   rw [List.append_nil] at this
   rw [joinP,this];simp [elsGo]
 |p::q::l,_,h=>by
  rw [Xcc p (by simp),Xc1 p [] _ (h p (by simp)),List.nil_append,elsGo,if_pos (by simp),Xhk (q::l) (by simp) fun x hx=>h x (List.mem_cons_of_mem _ hx)]
theorem Xra {l:List Bytes} (h:∀p∈l,∀c∈p,c≠47) (hn:joinP l≠ []):els (joinP l)=l:=by
 have hl:l≠ []:=fun e=>hn (by rw [e];rfl)
 rw [els,if_neg hn,Xhk l hl h]
theorem Xlm {p:Bytes} (h:comp p=true):∀c∈p,c≠47:=by
 intro c hc e
 simp only [comp,Bool.and_eq_true,List.all_eq_true] at h
 have:=h.2 c hc
 rw [e] at this
 exact absurd this (by decide)
theorem Xvf {p:Bytes} (h:comp p=true):p≠ []:=by
 intro e
 rw [e] at h
 exact absurd h (by decide)
theorem Xcb {s:Bytes} (h:pathErr s=0):s.length≤200∧(els s).length≤8∧ ∀p∈els s,comp p=true:=by
 unfold pathErr at h
 by_cases h1:200<s.length
 ·rw [if_pos h1] at h;omega
 ·rw [if_neg h1] at h
  by_cases h2:8<(els s).length
  ·rw [if_pos h2] at h;omega
  ·rw [if_neg h2] at h
   by_cases h3:(els s).all comp=true
   ·exact ⟨by omega,by omega,by simpa using h3⟩
   ·rw [if_neg h3] at h;omega
end Go.Proofs.YtkipnpjagcfcpaaGreatDoor
namespace Go.Proofs.YtkipnpjagcfcpaaGreatDoor
structure Xt where
 s:Int
 o:Int
 n:Int
deriving DecidableEq
structure Ent where
 kind:Int
 path:Bytes
 attrs:List At
 target:Bytes
 size:Int
 digest:Bytes
 exts:List Xt
deriving DecidableEq
def digits (s:Bytes):Int:=s.foldl (fun n c=>10*n+((c.toNat:Int)-48)) 0
def dateOk (s:Bytes):Bool:=decide (1≤s.length)&&decide (s.length≤10)&& !(decide (1<s.length)&&s.head? ==some 48)&&s.all (fun c=>decide (48≤c)&&decide (c≤57))&&decide (digits s≤1000000000)
def targetOk (e:Ent):Bool:=if e.kind=3 then decide (1≤e.target.length)&&decide (e.target.length≤200) else if e.kind=5 then dateOk e.target else e.target.isEmpty
def xtBad (x:Xt):Bool:=decide (x.s<0) || decide (255<x.s) || decide (x.o<0) || decide (2147483647<x.o) || decide (x.n<1) || decide (65536<x.n) || (x.s==0&&x.o != 0)
def xtsErr (file:Bool):List Xt→Int
 | []=>0
 |x::l=>if file=false then 1 else if xtBad x then 2 else xtsErr file l
def xtSum (l:List Xt):Int:=(l.map Xt.n).sum
def entErr (e:Ent):Int:=
 if e.kind<1∨6<e.kind then 10
 else if pathErr e.path≠0 then pathErr e.path
 else if e.path= []∧e.kind<5 then 1
 else if chk e.attrs≠0 then chk e.attrs
 else if (e.attrs≠ []∧3<e.kind)∨targetOk e=false then 1
 else if e.size<0∨65536<e.size∨(e.kind≠1∧e.size≠0) then 2
 else if (e.kind=1∧e.digest.length≠32)∨(e.kind≠1∧e.digest≠ []) then 1
 else if xtsErr (e.kind==1) e.exts≠0 then xtsErr (e.kind==1) e.exts
 else if xtSum e.exts≠e.size then 1 else 0
def getT (t:List Ent) (p:Bytes):Option Ent:=t.find? fun x=>x.path==p
def dirErr (t:List Ent) (p:Bytes):Int:=if p= [] then 0 else match getT t p with|none=>9|some x=>if x.kind≠2 then 10 else 0
def upP (p:Bytes):Bytes:=joinP (els p).dropLast
def chkTFrom (t:List Ent):Option Ent→List Ent→Int
 |_,[]=>0
 |q,x::l=>if entErr x≠0 then entErr x else if x.kind≠1∧x.kind≠2∧x.kind≠3 then 10 else if (q.any fun y=> !(ltP (els y.path) (els x.path))) then 14 else if dirErr t (upP x.path)≠0 then dirErr t (upP x.path) else chkTFrom t (some x) l
def chkT (t:List Ent):Int:=chkTFrom t none t
def SrtT (t:List Ent):Prop:=t.Pairwise fun x y=>ltP (els x.path) (els y.path)=true
structure OkT (t:List Ent):Prop where
 ent:∀x∈t,entErr x=0
 kind:∀x∈t,x.kind=1∨x.kind=2∨x.kind=3
 srt:SrtT t
 up:∀x∈t,dirErr t (upP x.path)=0
theorem Xmt (t:List Ent) (l:List Ent):∀q:Option Ent,chkTFrom t q l=0↔(∀x∈l,entErr x=0∧(x.kind=1∨x.kind=2∨x.kind=3)∧dirErr t (upP x.path)=0)∧(∀y,q=some y→ ∀x∈l,ltP (els y.path) (els x.path)=true)∧SrtT l:=by
 induction l with
 |nil=>intro q;simp [chkTFrom,SrtT]
 |cons x l ih=>
  intro q
  rw [chkTFrom]
  by_cases h0:entErr x=0
  case neg=>
   rw [if_pos h0]
   exact ⟨fun h=>absurd h h0,fun h=>absurd (h.1 x (List.mem_cons_self ..)).1 h0⟩
  rw [if_neg (by omega)]
  by_cases h1:x.kind=1∨x.kind=2∨x.kind=3
  case neg=>
   rw [if_pos (by omega)]
   exact ⟨fun h=>absurd h (by decide),fun h=>absurd (h.1 x (List.mem_cons_self ..)).2.1 h1⟩
  rw [if_neg (by omega)]
  by_cases h2:(q.any fun y=> !(ltP (els y.path) (els x.path)))=true
  ·rw [if_pos h2]
   refine ⟨fun h=>absurd h (by decide),fun h=> ?_⟩
   cases q with
   |none=>simp at h2
   |some y=>
    have:=h.2.1 y rfl x (List.mem_cons_self ..)
    simp [this] at h2
  rw [if_neg h2]
  have hq:∀y,q=some y→ltP (els y.path) (els x.path)=true:=by
   intro y hy
   subst hy
   simpa using h2
  by_cases h3:dirErr t (upP x.path)=0
  case neg=>
   rw [if_pos h3]
   exact ⟨fun h=>absurd h h3,fun h=>absurd (h.1 x (List.mem_cons_self ..)).2.2 h3⟩
  rw [if_neg (by omega),ih]
  constructor
  ·rintro ⟨a1,a2,a3⟩
   refine ⟨?_,?_,List.pairwise_cons.2 ⟨fun r hr=>a2 x rfl r hr,a3⟩⟩
   ·intro r hr
    rcases List.mem_cons.1 hr with rfl|hr
    ·exact ⟨h0,h1,h3⟩
    ·exact a1 r hr
   ·intro y hy r hr
    rcases List.mem_cons.1 hr with rfl|hr
    ·exact hq y hy
    ·exact Xch (hq y hy) (a2 x rfl r hr)
  ·rintro ⟨a1,_,a3⟩
   obtain ⟨b1,b2⟩:=List.pairwise_cons.1 a3
   exact ⟨fun r hr=>a1 r (List.mem_cons_of_mem _ hr),fun y hy r hr=>by cases hy;exact b1 r hr,b2⟩
theorem Xvv (t:List Ent):chkT t=0↔OkT t:=by
 unfold chkT
 rw [Xmt]
 constructor
 ·rintro ⟨a1,_,a3⟩
  exact ⟨fun x hx=>(a1 x hx).1,fun x hx=>(a1 x hx).2.1,a3,fun x hx=>(a1 x hx).2.2⟩
 ·rintro ⟨b1,b2,b3,b4⟩
  exact ⟨fun x hx=>⟨b1 x hx,b2 x hx,b4 x hx⟩,by simp,b3⟩
theorem SrtT.key {t:List Ent} (h:SrtT t) {x y:Ent} (hx:x∈t) (hy:y∈t) (e:x.path=y.path):x=y:=by
 induction t with
 |nil=>cases hx
 |cons z l ih=>
  obtain ⟨h1,h2⟩:=List.pairwise_cons.1 h
  rcases List.mem_cons.1 hx with hx|hx<;>rcases List.mem_cons.1 hy with hy|hy
  ·rw [hx,hy]
  ·exact absurd (by rw [←hx,e]) (Xko (h1 y hy))
  ·exact absurd (by rw [←hy,e]) (Xko (h1 x hx))
  ·exact ih h2 hx hy
theorem SrtT.ext:∀ {A B:List Ent},SrtT A→SrtT B→(∀x,x∈A↔x∈B)→A=B
 | [],[],_,_,_=>rfl
 | [],b::B,_,_,h=>absurd ((h b).2 (List.mem_cons_self ..)) (by simp)
 |a::A,[],_,_,h=>absurd ((h a).1 (List.mem_cons_self ..)) (by simp)
 |a::A,b::B,hA,hB,h=>by
  obtain ⟨a1,a2⟩:=List.pairwise_cons.1 hA
  obtain ⟨b1,b2⟩:=List.pairwise_cons.1 hB
  have e:a=b:=by
   rcases List.mem_cons.1 ((h a).1 (List.mem_cons_self ..)) with e|hab
   ·exact e
   ·rcases List.mem_cons.1 ((h b).2 (List.mem_cons_self ..)) with e|hba
    ·exact e.symm
    ·have k:=Xg2 (a1 b hba)
     rw [b1 a hab] at k
     exact absurd k (by simp)
  subst e
  rw [SrtT.ext a2 b2 fun x=> ?_]
  have hx:=h x
  rw [List.mem_cons,List.mem_cons] at hx
  constructor
  ·intro hm
   rcases hx.1 (.inr hm) with e|hm'
   ·subst e;exact absurd rfl (Xko (a1 x hm))
   ·exact hm'
  ·intro hm
   rcases hx.2 (.inr hm) with e|hm'
   ·subst e;exact absurd rfl (Xko (b1 x hm))
   ·exact hm'
theorem Xf5 {t:List Ent} (h:SrtT t) {x:Ent} (hx:x∈t):getT t x.path=some x:=by
 unfold getT
 cases hf:t.find? (fun y=>y.path==x.path) with
 |none=>have:=List.find?_eq_none.1 hf x hx;simp at this
 |some y=>
  have h1:=List.find?_some hf
  rw [h.key (List.mem_of_find?_eq_some hf) hx (by simpa using h1)]
theorem Xkz {t:List Ent} {p:Bytes} {x:Ent} (h:getT t p=some x):x∈t∧x.path=p:=⟨List.mem_of_find?_eq_some h,by have:=List.find?_some h;simpa using this⟩
theorem Xqw {t:List Ent} {p:Bytes} (h:∀x∈t,x.path≠p):getT t p=none:=List.find?_eq_none.2 fun x hx=>by simpa using h x hx
end Go.Proofs.YtkipnpjagcfcpaaGreatDoor
namespace Go.Proofs.YtkipnpjagcfcpaaGreatDoor
open Go.RowKit
theorem Xaa {W w':World} {a:Addr} {x:Value} (hb:Below W.heap.size W w') (h:W.cell? a=some x):w'.cell? a=some x:=(hb.cell (block_lt_of_cell h)).trans h
theorem Xab {W:World} {a:Addr} {x:Value} (o:Obj) (h:W.cell? a=some x):(W.alloc o).cell? a=some x:=(World.cell?_alloc_lt _ _ _ (block_lt_of_cell h)).trans h
theorem Xah {W w':World} {a:Addr} {x:Value} {row:Option Nat} (hg:W.grownBy w' row) (hne:row≠some a.block) (h:W.cell? a=some x):w'.cell? a=some x:=
 (World.cell?_of_block (hg.block _ (block_lt_of_cell h) (fun e=>hne e.symm))).trans h
def LiesL {α:Type} (T:Ty α) (I:IH) (xs:List Value) (l:List α):Prop:=
 xs.length=l.length*T.size∧ ∀i (h:i<l.length),∃cs,T.rd I cs l[i]∧ ∀j u,cs[j]? =some u→xs[i*T.size+j]? =some u
def OwnS {α:Type} (T:Ty α) (E:TypeId) (I:IH) (w:World) (B:Nat) (v:Value) (l:List α):Prop:=
 ∃xs,w.ownsRow B E T.size v l.length xs∧LiesL T I xs l
section
variable {α:Type} {T:Ty α} {I I':IH} {w w':World} {v:Value} {l:List α} {xs:List Value} {E:TypeId} {B:Nat}
theorem LiesL.mono (hI:∀b c,I b=some c→I' b=some c) (h:LiesL T I xs l):LiesL T I' xs l:=
 ⟨h.1,fun i hi=>let ⟨cs,h1,h2⟩:=h.2 i hi;⟨cs,T.mono hI h1,h2⟩⟩
theorem LiesL.nil (T:Ty α) (I:IH):LiesL T I [] []:=⟨by simp,fun i h=>absurd h (by simp)⟩
theorem LiesL.one {x:α} {cs:List Value} (h:T.rd I cs x):LiesL T I cs [x]:=by
 refine ⟨by simp [T.len h],fun i hi=>⟨cs,?_,fun j u hu=> ?_⟩⟩
 ·have:i=0:=by simp at hi;omega
  subst this;exact h
 ·have:i=0:=by simp at hi;omega
  subst this;simpa using hu
theorem LiesL.append {ys:List Value} {m:List α} (h:LiesL T I xs l) (k:LiesL T I ys m):LiesL T I (xs++ys) (l++m):=by
 refine ⟨by rw [List.length_append,List.length_append,h.1,k.1,Nat.add_mul],fun i hi=> ?_⟩
 by_cases hl:i<l.length
 ·obtain ⟨cs,h1,h2⟩:=h.2 i hl
  refine ⟨cs,by rw [List.getElem_append_left hl];exact h1,fun j u hu=> ?_⟩
  have hx:=h2 j u hu
  rw [List.getElem?_append_left (List.getElem?_eq_some_iff.1 hx).1];exact hx
 ·obtain ⟨cs,h1,h2⟩:=k.2 (i-l.length) (by simp at hi;omega)
  refine ⟨cs,by rw [List.getElem_append_right (by omega)];exact h1,fun j u hu=> ?_⟩
  have hx:=h2 j u hu
  have e:i*T.size+j=xs.length+((i-l.length)*T.size+j):=by
   rw [h.1,Nat.sub_mul]
   have:=Nat.mul_le_mul_right T.size (show l.length≤i by omega)
   omega
  rw [e,List.getElem?_append_right (by omega),Nat.add_sub_cancel_left];exact hx
theorem LiesL.take (h:LiesL T I xs l) (n:Nat):LiesL T I (xs.take (n*T.size)) (l.take n):=by
 refine ⟨by
  rw [List.length_take,List.length_take,h.1]
  rcases Nat.le_total n l.length with hn|hn
  ·rw [Nat.min_eq_left hn,Nat.min_eq_left (Nat.mul_le_mul_right _ hn)]
  ·rw [Nat.min_eq_right hn,Nat.min_eq_right (Nat.mul_le_mul_right _ hn)],fun i hi=> ?_⟩
 have hi':i<n∧i<l.length:=by simp at hi;omega
 obtain ⟨cs,h1,h2⟩:=h.2 i hi'.2
 refine ⟨cs,by rw [List.getElem_take];exact h1,fun j u hu=> ?_⟩
 have hj:j<T.size:=by rw [←T.len h1];exact (List.getElem?_eq_some_iff.1 hu).1
 have:=Nat.mul_le_mul_right T.size (show i+1≤n by omega)
 rw [Nat.add_mul] at this
 rw [List.getElem?_take_of_lt (by omega)]
 exact h2 j u hu
theorem LiesL.drop (h:LiesL T I xs l) (n:Nat):LiesL T I (xs.drop (n*T.size)) (l.drop n):=by
 refine ⟨by rw [List.length_drop,List.length_drop,h.1,Nat.sub_mul],fun i hi=> ?_⟩
 have hi':n+i<l.length:=by simp at hi;omega
 obtain ⟨cs,h1,h2⟩:=h.2 (n+i) hi'
 refine ⟨cs,by rw [List.getElem_drop];exact h1,fun j u hu=> ?_⟩
 rw [List.getElem?_drop,←Nat.add_assoc,←Nat.add_mul]
 exact h2 j u hu
theorem LiesL.oneCell (h:LiesL T I xs l):∀u∈xs,u.oneCell'=true:=by
 intro u hu
 obtain ⟨p,hp,rfl⟩:=List.getElem_of_mem hu
 have hs:0<T.size:=by
  rcases Nat.eq_zero_or_pos T.size with h0|h0
  ·have:=h.1;rw [h0,Nat.mul_zero] at this;omega
  ·exact h0
 have hi:p / T.size<l.length:=by rw [Nat.div_lt_iff_lt_mul hs,←h.1];exact hp
 obtain ⟨cs,h1,h2⟩:=h.2 _ hi
 have hj:p%T.size<cs.length:=by rw [T.len h1];exact Nat.mod_lt _ hs
 have hx:=h2 (p%T.size) _ (List.getElem?_eq_getElem hj)
 rw [show p / T.size*T.size+p%T.size=p by rw [Nat.mul_comm];exact Nat.div_add_mod p T.size,List.getElem?_eq_getElem hp] at hx
 rw [Option.some.inj hx]
 exact T.one h1 _ (List.getElem_mem hj)
theorem RdS.cells (h:RdS T I v l) (hw:Ok I w) (hs:0<T.size):∃(ao:Option Addr) (cap:Nat) (xs:List Value),v= .slice ao l.length cap∧l.length≤cap∧cap≤maxLen∧LiesL T I xs l∧
 (0<l.length→ ∃b off arr,ao=some ⟨b,off,none⟩∧I b=some arr∧b<w.heap.size∧ ∀j u,xs[j]? =some u→w.cell? ⟨b,off+j,none⟩=some u):=by
 obtain ⟨ao,cap,hv,h1,h2,h3⟩:=h
 rcases Nat.eq_zero_or_pos l.length with h0|h0
 ·have:l= []:=List.eq_nil_of_length_eq_zero h0
  subst this
  exact ⟨ao,cap,[],hv,h1,h2,LiesL.nil T I,fun h=>absurd h (by simp)⟩
 ·obtain ⟨b,off,arr,e1,e2,e3⟩:=h3 h0
  have hsz:off+l.length*T.size≤arr.size:=by
   obtain ⟨cs,k1,k2⟩:=e3 (l.length-1) (by omega)
   have hx:=k2 (T.size-1) _ (List.getElem?_eq_getElem (by rw [T.len k1];omega))
   have:=(Array.getElem?_eq_some_iff.1 hx).1
   have e:(l.length-1)*T.size+T.size=l.length*T.size:=by
    rw [←Nat.succ_mul,Nat.succ_eq_add_one,show l.length-1+1=l.length by omega]
   omega
  refine ⟨ao,cap,(arr.toList.drop off).take (l.length*T.size),hv,h1,h2,⟨by simp;omega,fun i hi=> ?_⟩,fun _=>⟨b,off,arr,e1,e2,hw.lt e2,fun j u hu=> ?_⟩⟩
  ·obtain ⟨cs,k1,k2⟩:=e3 i hi
   refine ⟨cs,k1,fun j u hu=> ?_⟩
   have hj:j<T.size:=by rw [←T.len k1];exact (List.getElem?_eq_some_iff.1 hu).1
   have:=Nat.mul_le_mul_right T.size (show i+1≤l.length by omega)
   rw [Nat.add_mul] at this
   rw [List.getElem?_take_of_lt (by omega),List.getElem?_drop,Array.getElem?_toList]
   exact k2 j u hu
  ·rw [hw.cell e2]
   rw [List.getElem?_take] at hu
   split at hu
   ·rw [List.getElem?_drop,Array.getElem?_toList] at hu;exact hu
   ·cases hu
theorem OwnS.kept {row:Option Nat} (h:OwnS T E I w B v l) (hg:w.grownBy w' row) (hne:v.ownBlock=none∨v.ownBlock≠row):OwnS T E I w' B v l:=
 let ⟨xs,h1,h2⟩:=h
 ⟨xs,h1.kept hg hne,h2⟩
theorem OwnS.below (h:OwnS T E I w B v l) (hb:Below w.heap.size w w'):OwnS T E I w' B v l:=
 h.kept (row:=none) ⟨hb.os,hb.tape,hb.output,hb.size,fun k hk _=>hb.block k hk⟩ (by cases v.ownBlock<;>simp)
theorem OwnS.alloc (h:OwnS T E I w B v l) (o:Obj):OwnS T E I (w.alloc o) B v l:=
 let ⟨xs,h1,h2⟩:=h
 ⟨xs,h1.alloc o,h2⟩
theorem OwnS.mono (hI:∀b c,I b=some c→I' b=some c) (h:OwnS T E I w B v l):OwnS T E I' w B v l:=
 let ⟨xs,h1,h2⟩:=h
 ⟨xs,h1,h2.mono hI⟩
theorem OwnS.lower {B':Nat} (h:OwnS T E I w B v l) (hB:B'≤B):OwnS T E I w B' v l:=by
 obtain ⟨xs,⟨h1,h1'⟩,h2⟩:=h
 refine ⟨xs,⟨h1,?_⟩,h2⟩
 rcases h1' with h0|⟨g,cap,cur,a,b,c⟩
 ·exact .inl h0
 ·exact .inr ⟨g,cap,cur,a,by omega,c⟩
theorem OwnS.nil (T:Ty α) (E:TypeId) (I:IH) (w:World) (B:Nat):OwnS T E I w B (.slice none 0 0) []:=⟨[],World.ownsRow_nil w B E T.size,LiesL.nil T I⟩
theorem OwnS.ne_ge (h:OwnS T E I w B v l) {b:Nat} (hb:w.heap.size≤b):v.ownBlock≠some b:=by
 obtain ⟨xs,h1,_⟩:=h
 intro e
 have:=(h1.lt b e).2
 omega
theorem OwnS.ne_lt (h:OwnS T E I w B v l) {b:Nat} (hb:b<B):v.ownBlock≠some b:=by
 obtain ⟨xs,h1,_⟩:=h
 intro e
 have:=(h1.lt b e).1
 omega
theorem OwnS.own_ge (h:OwnS T E I w B v l) {b:Nat} (e:v.ownBlock=some b):B≤b:=by
 obtain ⟨xs,h1,_⟩:=h
 exact (h1.lt b e).1
theorem OwnS.freeze (h:OwnS T E I w B v l) (hw:Ok I w) (hI:∀b,B≤b→I b=none):∃I',Ext B I I'∧Ok I' w∧RdS T I' v l∧ ∀b,v.ownBlock≠some b→I' b=I b:=by
 obtain ⟨xs,⟨h1,h1'⟩,h2⟩:=h
 rcases h1' with ⟨rfl,h0⟩|⟨g,cap,cur,rfl,hb,hg,hnc,hcm,hcs,ht⟩
 ·refine ⟨I,Ext.refl _ _,hw,?_,fun _ _=>rfl⟩
  have:l= []:=List.eq_nil_of_length_eq_zero h0
  subst this
  exact RdS.nil T I
 ·have hkeep:∀b c,I b=some c→(I.add g cur) b=some c:=fun b c hc=>by
   unfold IH.add
   by_cases e:b=g
   ·subst e;rw [hI _ hb] at hc;cases hc
   ·rw [if_neg e];exact hc
  refine ⟨I.add g cur,Ext.add hb I cur,hw.add hg,⟨_,cap,rfl,hnc,hcm,fun _=>⟨g,0,cur,rfl,by simp [IH.add],fun i hi=> ?_⟩⟩,fun b hbn=> ?_⟩
  ·obtain ⟨cs,k1,k2⟩:=h2.2 i hi
   refine ⟨cs,T.mono hkeep k1,fun j u hu=> ?_⟩
   have hx:=k2 j u hu
   rw [←ht,List.getElem?_take] at hx
   split at hx
   ·rw [Nat.zero_add,←Array.getElem?_toList];exact hx
   ·cases hx
  ·have:b≠g:=fun e=>hbn (by simp [Value.ownBlock,e])
   simp [IH.add,this]
def ElemOk (P:Program) (ts te:TypeId) (T:Ty α) (bytes:Nat):Prop:=
 ∃i z,P.underlying ts=some (.slice te)∧P.info? te=some i∧i.zero=some z∧i.size=T.size∧i.bytes=bytes∧z.cells.size=T.size∧0<T.size
theorem ElemOk.of {P:Program} {ts te:TypeId} {z:Value} {size bytes:Nat} (hu:P.underlying ts=some (.slice te)) (h:(P.info? te).map (fun i=>(i.zero,i.size,i.bytes))=some (some z,size,bytes)) (hz:z.cells.size=size) (hs:0<size) (hT:T.size=size):ElemOk P ts te T bytes:=by
 obtain ⟨i,h1,h2,h3,h4⟩:=info_parts h
 exact ⟨i,z,hu,h1,h2,by rw [h3,hT],h4,by rw [hz,hT],by rw [hT];exact hs⟩
theorem Xau {P:Program} {ts te:TypeId} {bytes:Nat} (hE:ElemOk P ts te T bytes) {w0:World} {ops:Array Oper} {rest:List Oper} {o:Oper} {a:Act} {Q:Exit→Act→World→Prop} (hgd:o.guard=none) (s x:Operand)
 (ho:o.op= .call { callee:= .builtin .append,args:= #[s,x],argTypes:= #[ts,ts] }) (B:Nat) (v:Value) (l:List α) (hs:a.eval s=v) (hown:OwnS T te I w0 B v l)
 (y:α) (cs:List Value) (tb:TypeId) (hx:a.eval x= .slice (some ⟨w0.heap.size,0,none⟩) 1 1) (hy:T.rd I cs y) (hbig:(l.length+1)*bytes≤140737488355328) (hl:l.length+1≤9223372036854775807) (hB:B≤w0.heap.size)
 (h:∀v' w',OwnS T te I w' B v' (l++ [y])→w0.grownBy w' v.ownBlock→wpList P ops Q rest (a.put o.dst v') w'):wpList P ops Q (o::rest) a (w0.alloc (.cells cs.toArray tb)):=by
 obtain ⟨i,z,h1,h2,h3,h4,h5,h6,h7⟩:=hE
 obtain ⟨xs,k1,k2⟩:=hown
 refine wpList_append_own (w0.alloc (.cells cs.toArray tb)) hgd s x ts ho B te i z T.size bytes h1 h2 h3 h4 h5 h6 h7 v l.length xs hs (k1.alloc _) ⟨w0.heap.size,0,none⟩ 1 1 cs hx (by rw [T.len hy,Nat.one_mul])
  (fun j u hu=>by rw [Addr.add_lit,Nat.zero_add,World.cell?_alloc_new];simpa using hu) (T.one hy) (by unfold maxLen;omega) hbig (by simp;omega) (fun v' w' r1 r2 _=>h v' w' ⟨xs++cs,by rw [List.length_append];exact r1,k2.append (LiesL.one hy)⟩ ?_)
 exact ⟨r2.os,r2.tape,r2.output,by have:=r2.size;simp at this;omega,fun k hk hne=>(r2.block k (by simp;omega) hne).trans (Below.heap_alloc _ _ _ hk)⟩
theorem Xhv {P:Program} {ts te:TypeId} {bytes:Nat} (hE:ElemOk P ts te T bytes) {w0:World} {ops:Array Oper} {rest:List Oper} {o:Oper} {a:Act} {Q:Exit→Act→World→Prop} (hgd:o.guard=none) (s x:Operand)
 (ho:o.op= .call { callee:= .builtin .append,args:= #[s,x],argTypes:= #[ts,ts] }) (B:Nat) (v:Value) (l:List α) (hs:a.eval s=v) (hown:OwnS T te I w0 B v l)
 (ys:List α) (cs:List Value) (tb:TypeId) (hx:a.eval x= .slice (some ⟨w0.heap.size,0,none⟩) ys.length ys.length) (hy:LiesL T I cs ys) (_hp:0<ys.length) (hbig:(l.length+ys.length)*bytes≤140737488355328) (hl:l.length+ys.length≤9223372036854775807) (hB:B≤w0.heap.size)
 (h:∀v' w',OwnS T te I w' B v' (l++ys)→w0.grownBy w' v.ownBlock→wpList P ops Q rest (a.put o.dst v') w'):wpList P ops Q (o::rest) a (w0.alloc (.cells cs.toArray tb)):=by
 obtain ⟨i,z,h1,h2,h3,h4,h5,h6,h7⟩:=hE
 obtain ⟨xs,k1,k2⟩:=hown
 refine wpList_append_own (w0.alloc (.cells cs.toArray tb)) hgd s x ts ho B te i z T.size bytes h1 h2 h3 h4 h5 h6 h7 v l.length xs hs (k1.alloc _) ⟨w0.heap.size,0,none⟩ ys.length ys.length cs hx hy.1
  (fun j u hu=>by rw [Addr.add_lit,Nat.zero_add,World.cell?_alloc_new];simpa using hu) hy.oneCell (by unfold maxLen;omega) hbig (by simp;omega) (fun v' w' r1 r2 _=>h v' w' ⟨xs++cs,by rw [List.length_append];exact r1,k2.append hy⟩ ?_)
 exact ⟨r2.os,r2.tape,r2.output,by have:=r2.size;simp at this;omega,fun k hk hne=>(r2.block k (by simp;omega) hne).trans (Below.heap_alloc _ _ _ hk)⟩
end
theorem Below.own {α:Type} {T:Ty α} {E:TypeId} {I:IH} {w w0 w':World} {v:Value} {l:List α} {B0 B:Nat} (h:Below B0 w w0) (hg:w0.grownBy w' v.ownBlock) (hown:OwnS T E I w0 B v l) (hB:B0≤B) (hB':B≤w0.heap.size):Below B0 w w':=
 h.grown hg (by omega) (fun _ hk=>Nat.le_trans hB (hown.own_ge hk))
theorem Ok.own {α:Type} {T:Ty α} {E:TypeId} {I J:IH} {w0 w':World} {v:Value} {l:List α} {B:Nat} (h:Ok J w0) (hg:w0.grownBy w' v.ownBlock) (hown:OwnS T E I w0 B v l) (hJ:∀b,B≤b→J b=none):Ok J w':=
 h.grown hg (fun g hk=>hJ g (hown.own_ge hk))
def At.Wf (x:At):Prop:=x.k.length≤9223372036854775807∧x.v.length≤9223372036854775807
abbrev At.val (x:At):Value:= .agg #[S x.k,S x.v]
def tAt:Ty At:=Ty.flat 2 (fun x=> [S x.k,S x.v]) (fun _=>rfl) (fun _ u h=>by simp at h;rcases h with rfl|rfl<;>rfl)
theorem atAt {I:IH} {v:Value} {l:List At} {w:World} (h:RdS tAt I v l) (hw:Ok I w) (i:Nat) (hi:i<l.length):∃x b off cap,l[i]=x∧v= .slice (some ⟨b,off,none⟩) l.length cap∧
 w.cell? ⟨b,off+i*2,none⟩=some (S x.k)∧w.cell? ⟨b,off+i*2+1,none⟩=some (S x.v):=by
 obtain ⟨b,off,cap,cs,hv,hcs,hc⟩:=h.at_ hw hi
 have hcs':cs= [S l[i].k,S l[i].v]:=hcs
 subst hcs'
 exact ⟨_,b,off,cap,rfl,hv,hc 0 _ rfl,hc 1 _ rfl⟩
def tXt:Ty Xt:=Ty.flat 3 (fun x=> [.int .i64 x.s,.int .i64 x.o,.int .i64 x.n]) (fun _=>rfl) (fun _ u h=>by simp at h;rcases h with rfl|rfl|rfl<;>rfl)
theorem xtAt {I:IH} {v:Value} {l:List Xt} {w:World} (h:RdS tXt I v l) (hw:Ok I w) (i:Nat) (hi:i<l.length):∃x b off cap,l[i]=x∧v= .slice (some ⟨b,off,none⟩) l.length cap∧
 w.cell? ⟨b,off+i*3,none⟩=some (.int .i64 x.s)∧w.cell? ⟨b,off+i*3+1,none⟩=some (.int .i64 x.o)∧w.cell? ⟨b,off+i*3+2,none⟩=some (.int .i64 x.n):=by
 obtain ⟨b,off,cap,cs,hv,hcs,hc⟩:=h.at_ hw hi
 have hcs':cs= [.int .i64 l[i].s,.int .i64 l[i].o,.int .i64 l[i].n]:=hcs
 subst hcs'
 exact ⟨_,b,off,cap,rfl,hv,hc 0 _ rfl,hc 1 _ rfl,hc 2 _ rfl⟩
def Xt.Wf (x:Xt):Prop:=(-9223372036854775808≤x.s∧x.s≤9223372036854775807)∧(-9223372036854775808≤x.o∧x.o≤9223372036854775807)∧(-9223372036854775808≤x.n∧x.n≤9223372036854775807)
structure Ent.Wf (e:Ent):Prop where
 k0: -9223372036854775808≤e.kind
 k1:e.kind≤9223372036854775807
 path:e.path.length≤9223372036854775807
 attrs:∀x∈e.attrs,x.Wf
 target:e.target.length≤9223372036854775807
 s0: -9223372036854775808≤e.size
 s1:e.size≤9223372036854775807
 digest:e.digest.length≤9223372036854775807
 exts:∀x∈e.exts,x.Wf
abbrev entCs (e:Ent) (va vx:Value):List Value:= [.int .i64 e.kind,S e.path,va,S e.target,.int .i64 e.size,S e.digest,vx]
abbrev entV (e:Ent) (va vx:Value):Value:= .agg #[.int .i64 e.kind,S e.path,va,S e.target,.int .i64 e.size,S e.digest,vx]
def tEnt:Ty Ent where
 size:=7
 rd:=fun I cs e=> ∃va vx,cs=entCs e va vx∧RdS tAt I va e.attrs∧RdS tXt I vx e.exts
 len:=fun ⟨_,_,h,_⟩=>by rw [h];rfl
 one:=fun ⟨va,vx,h,h1,h2⟩ u hu=>by
  rw [h] at hu
  simp at hu
  rcases hu with rfl|rfl|rfl|rfl|rfl|rfl|rfl<;>first|rfl|exact h1.one|exact h2.one
 mono:=fun hI ⟨va,vx,h,h1,h2⟩=>⟨va,vx,h,h1.mono hI,h2.mono hI⟩
structure EntAt (w:World) (b o:Nat) (e:Ent) (va vx:Value):Prop where
 c0:w.cell? ⟨b,o,none⟩=some (.int .i64 e.kind)
 c1:w.cell? ⟨b,o+1,none⟩=some (S e.path)
 c2:w.cell? ⟨b,o+2,none⟩=some va
 c3:w.cell? ⟨b,o+3,none⟩=some (S e.target)
 c4:w.cell? ⟨b,o+4,none⟩=some (.int .i64 e.size)
 c5:w.cell? ⟨b,o+5,none⟩=some (S e.digest)
 c6:w.cell? ⟨b,o+6,none⟩=some vx
theorem Xe3 {I:IH} {v:Value} {l:List Ent} {w:World} (h:RdS tEnt I v l) (hw:Ok I w) (i:Nat) (hi:i<l.length):∃x va vx b off cap,l[i]=x∧v= .slice (some ⟨b,off,none⟩) l.length cap∧
 EntAt w b (off+i*7) x va vx∧RdS tAt I va x.attrs∧RdS tXt I vx x.exts:=by
 obtain ⟨b,off,cap,cs,hv,⟨va,vx,hcs,h1,h2⟩,hc⟩:=h.at_ hw hi
 subst hcs
 exact ⟨_,va,vx,b,off,cap,rfl,hv,⟨hc 0 _ rfl,hc 1 _ rfl,hc 2 _ rfl,hc 3 _ rfl,hc 4 _ rfl,hc 5 _ rfl,hc 6 _ rfl⟩,h1,h2⟩
end Go.Proofs.YtkipnpjagcfcpaaGreatDoor
namespace Go.Proofs.YtkipnpjagcfcpaaGreatDoor
open Go.RowKit Go.Sort
section
variable {P:Program} {ops:Array Oper} {md:Region.Mode} {C:World→Prop}
def headQ (P:Program) (md:Region.Mode) (ops:Array Oper) (C:World→Prop) (n:Nat) (Z:Array Bool→Prop) (K:Act→Prop):Nat→Array Bool→Act→Prop
 |0,s,a=>Z s∧K a
 |f+1,s,a=>(∃i,i∈Region.ready md ops s)∧ ∀i∈Region.ready md ops s,i<n∧qOp P ops C i (headQ P md ops C n Z K f (s.setIfInBounds i true)) a
theorem Xqu {n g:Nat} {Z:Array Bool→Prop} {K:Act→Prop} {Q:Exit→Act→World→Prop} (hZ:∀s a w,Z s→C w→K a→wpAny P md ops Q g s a w):
 ∀(f:Nat) (s:Array Bool) (a:Act) (w:World),C w→headQ P md ops C n Z K f s a→wpAny P md ops Q (g+f) s a w:=by
 intro f
 induction f with
 |zero=>exact fun s a w hw h=>hZ s a w h.1 hw h.2
 |succ f ih=>
  rintro s a w hw ⟨⟨i0,h0⟩,h⟩
  refine ⟨fun e=> ?_,fun i hi=>wpOp_of_qOp hw (fun a' w' hw' hk=>ih _ _ _ hw' hk) (h i hi).2⟩
  rw [e] at h0;exact absurd h0 (by simp)
theorem Xmh {s:Array Bool} {i:Nat} {oj:Oper} (hun:s.getD i true=false) (hall:∀e∈oj.after,Region.binds md e=true→s.getD e.on false=true):∀e∈oj.after,Region.binds md e=true→e.on≠i:=by
 intro e he hb heq
 have h:=hall e he hb
 rw [heq,getD_both hun] at h
 exact absurd h (by simp)
theorem Xmn {n i:Nat} {oi:Oper} {v:Value} {Z:Array Bool→Prop} {K:Act→Prop} (hi:ops[i]? =some oi) (hsel:Region.noSelect ops=true) (hs:Region.sinkB md ops n=true) (hc:Region.chainB md ops n=true) (hn:n<ops.size) (hin:i<n)
 (hZ:∀s,Z s→ ∀j∈Region.ready md ops s,n≤j):∀(f:Nat) (s:Array Bool) (a:Act),HeadInv md ops n s→
   (∀j oj,ops[j]? =some oj→j≠i→s.getD j true=false→(∀e∈oj.after,Region.binds md e=true→e.on≠i)→oi.apart ops oj=true)→
   i∈Region.ready md ops s→YieldsIn P ops C oi v a→headQ P md ops C n Z K f (s.setIfInBounds i true) (a.put oi.dst v)→headQ P md ops C n Z K (f+1) s a:=by
 intro f
 induction f with
 |zero=>
  intro s a inv hfree hr hy H
  have hun:=(mem_ready.1 hr).1
  refine ⟨⟨i,hr⟩,fun j hj=> ?_⟩
  by_cases hji:j=i
  ·subst hji;exact ⟨hin,hy.qOp hi H⟩
  ·have h1:=hZ _ H.1 j (ready_mono hj hji)
   exact absurd hj (tail_waits hs hc hn inv _ i rfl hin hun j h1)
 |succ f ih=>
  intro s a inv hfree hr hy H
  have hun:=(mem_ready.1 hr).1
  refine ⟨⟨i,hr⟩,fun j hj=> ?_⟩
  have hjn:j<n:=Nat.lt_of_not_le fun h=>tail_waits hs hc hn inv _ i rfl hin hun j h hj
  refine ⟨hjn,?_⟩
  by_cases hji:j=i
  ·subst hji;exact hy.qOp hi H
  obtain ⟨hjun,oj,hoj,hall⟩:=mem_ready.1 hj
  have h2:=qOp_put hoj (hfree j oj hoj hji hjun (Xmh hun hall)) (fun cs b=>Region.noSelect_spec hsel i oi cs b hi) (fun cs b=>Region.noSelect_spec hsel j oj cs b hoj) hy (H.2 j (ready_mono hj hji)).2
  refine qOp_mono (fun a' h3=>ih _ a' (inv.set hj hjn) (fun k ok hk hki hku=>hfree k ok hk hki ?_) (ready_mono hr (Ne.symm hji)) h3.1 ?_) h2
  ·by_cases e:j=k
   ·subst e;exact hjun
   ·rwa [getD_set_ne true e] at hku
  ·rw [Array.setIfInBounds_comm _ _ hji];exact h3.2
theorem Xqv {n g:Nat} {K:Act→Prop} (hsel:Region.noSelect ops=true) (hs:Region.sinkB md ops n=true) (hc:Region.chainB md ops n=true) (hn:n<ops.size):
 ∀(l:List Oper) (k:Nat) (s:Array Bool) (a:Act),(∀j,j<l.length→l[j]? =ops[k+j]?)→k+l.length=n→HeadInv md ops n s→Region.lexHead md ops g l.length k s=true→
 wpQuiet P ops C K l a→headQ P md ops C n (fun s=>Region.seqB md ops g n s=true) K l.length s a:=by
 intro l
 induction l with
 |nil=>
  intro k s a _ hk _ hB h
  simp only [List.length_nil,Nat.add_zero] at hk
  subst hk
  exact ⟨hB,h⟩
 |cons o l ih=>
  intro k s a hl hk inv hB h
  have h0:ops[k]? =some o:=by simpa using (hl 0 (by simp)).symm
  simp only [List.length_cons] at hk
  simp only [List.length_cons,Region.lexHead,Bool.and_eq_true] at hB
  have hr:k∈Region.ready md ops s:=by simpa using hB.1.1
  have hq:qOp P ops C k (wpQuiet P ops C K l) a:=by unfold qOp;rw [h0];exact h
  obtain ⟨v,hy,hK⟩:=yieldsIn_of_qOp h0 hq
  refine Xmn h0 hsel hs hc hn (by omega) (fun s hz=>seqB_ready hz) l.length s a inv (Region.free_spec h0 hB.1.2) hr hy ?_
  refine ih (k+1) _ _ (fun j hj=> ?_) (by omega) (inv.set hr (by omega)) hB.2 hK
  have:=hl (j+1) (by simp;omega)
  rw [List.getElem?_cons_succ] at this
  rw [this,Nat.add_assoc,Nat.add_comm 1 j]
theorem Xd5 {id:Nat} {Q:Exit→Act→World→Prop} {a:Act} {w:World} {l:List Oper} (n:Nat) (hm:P.follows .mixedOrders=true) (hB:Region.lexTailB .any l.toArray n=true) (hC:C { w with drawn:=w.drawn+1 })
 (h:wpQuiet P l.toArray C (fun a'=> ∀w',C w'→wpList P l.toArray Q (l.drop n) a' w') (l.take n) a):(Code.region id l.toArray true).wp P Q a w:=by
 simp only [Region.lexTailB,Bool.and_eq_true,decide_eq_true_eq] at hB
 obtain ⟨⟨⟨⟨hsel,hn⟩,hs⟩,hc⟩,hlex⟩:=hB
 have hn':n<l.length:=by simpa using hn
 have htl:(l.take n).length=n:=by simp;omega
 have hdl:(l.drop n).length=l.toArray.size-n:=by simp
 have inv0:HeadInv .any l.toArray n (Array.replicate l.toArray.size false):=by
  refine ⟨by simp,fun j oj _ hl=> ?_,fun t _ ht=>getD_in (by simpa using ht) (getD_replicate_false _ _)⟩
  rw [getD_replicate_false] at hl;exact absurd hl (by simp)
 have H:=Xqv (P:=P) (C:=C) (md:= .any) (g:=l.toArray.size-n) hsel hs hc hn (l.take n) 0 _ a (fun j hj=>by
  rw [htl] at hj
  simp [hj]) (by omega) inv0 (by rw [htl];exact hlex) h
 have R:=Xqu (Q:=Q) (g:=l.toArray.size-n) (fun s a' w' hz hw hk=>by
  have:=wpAny_of_seq (md:= .any) (Q':=Q) (l.drop n) n s a' w' (fun j=>by simp [List.getElem?_drop]) (by rw [hdl];exact hz) (hk w' hw)
  rwa [hdl] at this) _ _ _ _ hC H
 rw [htl,show l.toArray.size-n+n=l.toArray.size by omega] at R
 exact wp_region_any hm R
theorem Xac {id:Nat} {Q:Exit→Act→World→Prop} {a:Act} {w:World} {l:List Oper} (n:Nat) (hm:P.follows .mixedOrders=true) (hB:Region.lexTailB .any l.toArray n=true)
 (h:wpQuiet P l.toArray (fun w'=> ∃p:Regrown,w'=grow (redrawn w p.d) p.os) (fun a'=> ∀w',(∃p:Regrown,w'=grow (redrawn w p.d) p.os)→wpList P l.toArray Q (l.drop n) a' w') (l.take n) a):(Code.region id l.toArray true).wp P Q a w:=
 Xd5 (C:=fun w'=> ∃p:Regrown,w'=grow (redrawn w p.d) p.os) n hm hB ⟨⟨w.drawn+1,#[]⟩,by rw [grow_empty];rfl⟩ h
theorem wpQuiet_load_row {Q:Act→Prop} {a:Act} {o:Oper} {rest:List Oper} (hgd:o.guard=none) (ty:TypeId) (x:Operand) (ho:o.op= .load ty x) (g:Nat) (hx:a.eval x= .pointer (some ⟨g,0,none⟩)) (t:TypeId) (cs:Array Value) (fr:Nat × Nat) (d:TypeDesc)
 (hg:∀w,C w→w.heap[g]? =some (.cells cs t fr)) (hu:P.underlying ty=some d) (hd:(match d with| .struct _| .array _ _=>true|_=>false)=true) (hi:(P.info? ty).map (·.size)=some cs.size) (h:wpQuiet P ops C Q rest (a.put o.dst (.agg cs))):wpQuiet P ops C Q (o::rest) a:=
 wpQuiet_step fun K hK=>by
  rw [if_pos (by simp [Region.wanted,hgd])]
  refine ⟨.agg cs,fun w hw=> ?_,hK _ h⟩
  unfold Oper.quietAt execOp
  simp only [ho,hx,Instr.loadAt,Instr.sureAddr,Sem.run_bind,Sem.run_pure,Result.andThen_ok,run_loadVar_row w g t ty cs fr d (hg w hw) hu hd hi]
  exact ⟨rfl,rfl⟩
theorem Xer {w:World} {b:Nat} {o:Obj} (h:w.heap[b]? =some o) (w':World) (hw:∃p:Regrown,w'=grow (redrawn w p.d) p.os):w'.heap[b]? =some o:=by
 obtain ⟨p,rfl⟩:=hw
 exact ((below_regrown w p.d p.os).block _ (Array.getElem?_eq_some_iff.1 h).1).trans h
end
end Go.Proofs.YtkipnpjagcfcpaaGreatDoor
namespace Go.Proofs.YtkipnpjagcfcpaaGreatDoor
open Go.RowKit
def RetS {α:Type} (T:Ty α) (I:IH) (w:World) (l:List α) (e:Ending) (w':World):Prop:=
 ∃v' I',e= .returned v'∧Below w.heap.size w w'∧Ext w.heap.size I I'∧Ok I' w'∧RdS T I' v' l
def RetL {α:Type} (T:Ty α) (I:IH) (w:World) (l:List α) (n:Int) (e:Ending) (w':World):Prop:=
 ∃v' I',e= .returned (.tuple #[v',.int .i64 n])∧Below w.heap.size w w'∧Ext w.heap.size I I'∧Ok I' w'∧RdS T I' v' l
end Go.Proofs.YtkipnpjagcfcpaaGreatDoor
namespace Go.Proofs.YtkipnpjagcfcpaaGreatDoor
theorem Xpn:∀(s:Bytes),Lib.split s [47]=elsGo [] s:=by
 have key:∀(n:Nat) (s:Bytes),s.length≤n→Lib.split s [47]=elsGo [] s:=by
  intro n
  induction n with
  |zero=>
   intro s h
   have:s= []:=List.eq_nil_of_length_eq_zero (by omega)
   subst this
   rfl
  |succ n ih=>
   intro s h
   rcases Lib.index_spec s [47] with ⟨h1,h2⟩|⟨i,h1,h2,h3,h4⟩
   ·have hn:∀c∈s,c≠47:=by
     intro c hc e
     obtain ⟨j,hj,rfl⟩:=List.getElem_of_mem hc
     have:=h2 j (by omega)
     unfold Lib.occAt at this
     rw [List.drop_eq_getElem_cons hj,e] at this
     simp at this
    have h5:=Xc1 s [] [] hn
    rw [List.append_nil,List.nil_append] at h5
    rw [h5,Lib.split,Lib.count_miss h1]
    rfl
   ·have hi:i<s.length∧s[i]? =some 47:=by
     have h6:=Lib.occAt_head rfl h3
     exact ⟨(List.getElem?_eq_some_iff.1 h6).1,h6⟩
    have hn:∀c∈s.take i,c≠47:=by
     intro c hc e
     obtain ⟨j,hj,rfl⟩:=List.getElem_of_mem hc
     have hji:j<i:=by simp at hj;omega
     have:=h4 j hji
     unfold Lib.occAt at this
     rw [List.drop_eq_getElem_cons (by omega)] at this
     rw [List.getElem_take] at e
     rw [e] at this
     simp at this
    have hs:s=s.take i++47::s.drop (i+1):=by
     conv=>lhs;rw [←List.take_append_drop i s,List.drop_eq_getElem_cons hi.1]
     have:=hi.2
     rw [List.getElem?_eq_getElem hi.1] at this
     rw [Option.some.inj this]
    have h5:=Xc1 (s.take i) [] (47::s.drop (i+1)) hn
    rw [←hs,List.nil_append] at h5
    rw [h5,elsGo,if_pos (by rfl),←ih (s.drop (i+1)) (by rw [List.length_drop];omega)]
    rw [Lib.split,Lib.count_hit (by simp) h1,Nat.add_comm,Lib.splitK,if_neg (by rw [h1];simp),h1]
    rfl
 exact fun s=>key s.length s (Qn _)
theorem Xs9 (l:List Bytes):Lib.join l [47]=joinP l:=by
 induction l with
 |nil=>rfl
 |cons p l ih=>
  cases l with
  |nil=>simp [Lib.join,List.intercalate,joinP]
  |cons q l=>
   rw [joinP,←ih]
   simp [Lib.join,List.intercalate]
def notAllowed (r:Nat):Bool:= !(decide (97≤r)&&decide (r≤122) || decide (48≤r)&&decide (r≤57) || decide (r=46) || decide (r=95) || decide (r=45))
theorem Xef (c:UInt8):keyChar c= !(notAllowed c.toNat):=by
 have e:∀n:Nat,n<256→(c==UInt8.ofNat n)=decide (c.toNat=n):=fun n hn=>by
  rw [Bool.eq_iff_iff,beq_iff_eq,decide_eq_true_iff]
  constructor
  ·intro h;rw [h];simp;omega
  ·intro h
   have:c=UInt8.ofNat c.toNat:=by simp
   rw [this,h]
 unfold keyChar notAllowed
 rw [show (46:UInt8)=UInt8.ofNat 46 from rfl,show (95:UInt8)=UInt8.ofNat 95 from rfl,show (45:UInt8)=UInt8.ofNat 45 from rfl,e 46 (by omega),e 95 (by omega),e 45 (by omega)]
 simp [UInt8.le_iff_toNat_le]
theorem Xdn {r:Nat} (h:128≤r):notAllowed r=true:=by
 unfold notAllowed
 simp
 omega
theorem Xtc (s:ByteArray):∀(f pos:Nat),s.size≤pos+f→decide (0≤Lib.idxFuncFrom notAllowed true s f pos)= !((s.data.toList.drop pos).all keyChar):=by
 intro f
 induction f with
 |zero=>
  intro pos h
  have hl:s.data.toList.length=s.size:=Array.length_toList
  rw [List.drop_of_length_le (by omega)]
  rfl
 |succ f ih=>
  intro pos h
  have hl:s.data.toList.length=s.size:=Array.length_toList
  rw [Lib.idxFuncFrom]
  by_cases hp:pos<s.size
  ·rw [if_pos hp,List.drop_eq_getElem_cons (by omega),List.all_cons]
   have hb:s.data.toList[pos]'(by omega)=s[pos]'hp:=by
    rw [Array.getElem_toList];rfl
   rw [hb]
   by_cases ha:(s[pos]'hp).toNat<128
   ·rw [decode_ascii s pos hp ha]
    have hk:=Xef (s[pos]'hp)
    cases hn:notAllowed (s[pos]'hp).toNat
    ·rw [if_neg (by simp),hk,hn,ih (pos+1) (by omega)]
     simp
    ·rw [if_pos rfl,hk,hn]
     simp
   ·have hd:=decode_high s pos hp (by omega)
    rw [if_pos (Xdn hd.1),Xef,Xdn (by omega)]
    simp
  ·rw [if_neg hp,List.drop_of_length_le (by omega)]
   rfl
theorem Xtd (s:Bytes):decide (0≤Lib.idxFunc notAllowed true ⟨s.toArray⟩)= !(s.all keyChar):=by
 have:=Xtc ⟨s.toArray⟩ (⟨s.toArray⟩:ByteArray).size 0 (by omega)
 rw [Lib.idxFunc,this]
 simp
def cmpL (a b:List Bytes):Int:=if ltP a b then -1 else if ltP b a then 1 else 0
theorem Xvp (a b:Bytes):cmpP a b=cmpL (els a) (els b):=rfl
theorem Xlq (x:Bytes) (a b:List Bytes):cmpL (x::a) (x::b)=cmpL a b:=by
 unfold cmpL
 rw [ltP,ltP,Xbr]
 simp
theorem Xlo {x y:Bytes} (h:Op.bytesLess x y=true) (a b:List Bytes):cmpL (x::a) (y::b)= -1:=by
 unfold cmpL
 rw [ltP,h]
 simp
theorem Xlp {x y:Bytes} (h:Op.bytesLess y x=true) (a b:List Bytes):cmpL (x::a) (y::b)=1:=by
 unfold cmpL
 rw [ltP,ltP,h,Xcs h]
 have:(x==y)=false:=by simpa using (Xju h).symm
 rw [this]
 simp
theorem Xrl {a b:List Bytes} {k:Nat} (h:a.take k=b.take k) (ha:k≤a.length) (hb:k≤b.length):cmpL a b=cmpL (a.drop k) (b.drop k):=by
 induction k generalizing a b with
 |zero=>rfl
 |succ k ih=>
  cases a with
  |nil=>simp at ha
  |cons x a=>
   cases b with
   |nil=>simp at hb
   |cons y b=>
    simp only [List.take_succ_cons,List.cons.injEq] at h
    obtain ⟨rfl,h⟩:=h
    rw [Xlq,List.drop_succ_cons,List.drop_succ_cons]
    exact ih h (by simpa using ha) (by simpa using hb)
end Go.Proofs.YtkipnpjagcfcpaaGreatDoor
namespace Go.Proofs.YtkipnpjagcfcpaaGreatDoor
open Go.RowKit
theorem run_at {P:Program} {t:TypeId} (h:P.underlying t=some .string) (s:Bytes) (i:Int) (j:Nat) (hi:i=(j:Int)) (hj:j<s.length) (W:World):(Instr.index t (S s) (.int .i64 i)).run P W= .ok (.int .u8 ((s.getD j 0).toNat:Nat)) W:=by
 subst hi
 rw [S,run_index_string W t _ .i64 _ h]
 have hsz:(⟨s.toArray⟩:ByteArray).size=s.length:=by simp [ByteArray.size]
 rw [dif_pos ⟨by omega,by rw [hsz];omega⟩]
 have e:(⟨s.toArray⟩:ByteArray)[((j:Nat):Int).toNat]'(by rw [hsz];simpa using hj)=s.getD j 0:=by
  simp [List.getD,List.getElem?_eq_getElem hj,ByteArray.getElem_eq_getElem_data]
 rw [e]
theorem Xn6 {I:IH} {v:Value} {l:List Bytes} {w:World} (h:RdS tStr I v l) (hw:Ok I w) (i:Nat) (hi:i<l.length):∃s b off cap,l[i]=s∧v= .slice (some ⟨b,off,none⟩) l.length cap∧
 w.cell? ⟨b,off+i,none⟩=some (S s):=by
 obtain ⟨b,off,cap,cs,hv,hcs,hc⟩:=h.at_ hw hi
 have hcs':cs= [S l[i]]:=hcs
 subst hcs'
 have:=hc 0 _ rfl
 exact ⟨_,b,off,cap,rfl,hv,by simpa [tStr,Ty.flat] using this⟩
theorem Xsa:(Tryz.prog.info? 9).map (fun i=>(i.zero,i.size,i.bytes))=some (some (.string ⟨#[]⟩),1,16):=by kernel_rfl
theorem Xf2:ElemOk Tryz.prog 123 9 tStr 16:=ElemOk.of Tryz.underlying123 Xsa rfl (by decide) rfl
theorem Xu5 (c:UInt8) (n:Nat) (hn:n<256):(((c.toNat:Nat):Int)==(n:Int))=(c==UInt8.ofNat n):=by
 rw [Bool.eq_iff_iff,beq_iff_eq,beq_iff_eq]
 constructor
 ·intro h
  have h':c.toNat=n:=by omega
  rw [←h'];simp
 ·intro h;rw [h];simp;omega
set_option maxRecDepth 100000 in
set_option maxHeartbeats 1000000 in
theorem Xhz (I:IH) (s:Bytes) (hs:s.length≤4294967280) (w:World) (hw:Ok I w):
 Calls Tryz.prog 180 #[S s] w (RetS tStr I w (els s)):=by
 have hfr:∀b,w.heap.size≤b→I b=none:=fun b hb=>hw.fresh hb
 have Hfr:=Qh hfr
 clear hfr
 have Hst:=Qh (show OwnS tStr 9 I (w.alloc (.cells #[] 9)) w.heap.size (.slice (some ⟨w.heap.size,0,none⟩) 0 0) [] from ⟨[],World.ownsRow_made w #[] 0 (Qn _) (Nat.zero_le _) (by simp),LiesL.nil _ _⟩)
 by_cases h0:s= []
 ·have Hs:=Qh (show els s= [] by rw [h0];rfl)
  have f1:(s== [])=true:=by rw [h0];rfl
  have f2:s.isEmpty=true:=by rw [h0];rfl
  have f3:(!s.isEmpty)=false:=by rw [h0];rfl
  clear h0
  go_enter Tryz.func180,Tryz.ntmps180
  go_wp2
  go_ret
  obtain ⟨I',hI1,hI2,hI3,_⟩:=Hst.out.freeze (hw.alloc _) Hfr.out
  rw [Hs.out]
  exact ⟨_,I',rfl,(Qb _ _).alloc (Qn _) _,hI1,hI2,hI3⟩
 ·have Hs:=Qh (show els s=elsGo [] s by rw [els,if_neg h0])
  have f1:(s== [])=false:=by simpa using h0
  have f2:s.isEmpty=false:=by cases s<;>simp_all
  have f3:(!s.isEmpty)=true:=by rw [f2];rfl
  clear h0
  go_enter Tryz.func180,Tryz.ntmps180
  go_wp2_with fail
  go_loopw [3,4,5] (fun s3 s4 s5 wr=> ∃(k:Nat) (out:List Bytes) (p:Bytes),k≤s.length∧s5= .int .i64 k∧s4=S p∧OwnS tStr 9 I wr w.heap.size s3 out∧out.length≤k∧p.length≤k∧out++elsGo p (s.drop k)=elsGo [] s∧Below w.heap.size w wr) (fun _ _ i _=>s.length-(intOf i).toNat)
  case atStart=>exact ⟨0,[],[],Nat.zero_le _,rfl,rfl,Hst.out,Qn _,Qn _,rfl,(Qb _ _).alloc (Qn _) _⟩
  case round=>
   clear Hst
   obtain ⟨k,out,p,hk,rfl,rfl,hown,hol,hpl,hr,hb⟩:=hrel
   have Hr:=Qh hr
   have Hown:=Qh hown
   have hwr:Ok I wr:=hw.below (Qn _) hb
   clear hr hown
   by_cases hlt:k<s.length
   ·have hx:=run_at Tryz.underlying9 s (k:Int) k rfl hlt
    have hd:s.drop k=s.getD k 0::s.drop (k+1):=by rw [List.drop_eq_getElem_cons hlt];simp [List.getD,hlt]
    have htk:(s.drop k).take 1= [s.getD k 0]:=by rw [hd];rfl
    have Htk:=Qh htk
    have hst:elsGo [] s=out++(if s.getD k 0==47 then p::elsGo [] (s.drop (k+1)) else elsGo (p++ [s.getD k 0]) (s.drop (k+1))):=by rw [←Hr.out,hd];rfl
    have he:=Xu5 (s.getD k 0) 47 (by decide)
    generalize hg:s.getD k 0=ch at hx hst he Htk
    have Hst:=Qh hst
    clear hd htk hst hg
    have hw1:IntKind.i64.wrap ((k:Int)+1)=(k:Int)+1:=IntWalk.i64_in _ (by omega)
    cases hc:(ch==47)
    ·rw [show (UInt8.ofNat 47)=47 from rfl,hc] at he
     have Hnx:=Qh (show out++elsGo (p++ [ch]) (s.drop (k+1))=elsGo [] s by rw [Hst.out,hc];rfl)
     clear hc
     go_wp2
     go_roundw
     case rel=>exact ⟨k+1,out,p++ [ch],by omega,by go_num,(by first|rfl|(simp [S,←Htk.out];done)|(congr;simp [←Htk.out])),Hown.out,by omega,(by simp;omega),Hnx.out,hb⟩
     case measure=>simp [intOf];omega
    ·rw [show (UInt8.ofNat 47)=47 from rfl,hc] at he
     have Hnx:=Qh (show (out++ [p])++elsGo [] (s.drop (k+1))=elsGo [] s by rw [Hst.out,hc];simp)
     clear hc
     go_wp2_with (at_builtin;refine Xau (w0:=wr) Xf2 rfl _ _ rfl _ _ _ rfl Hown.out p [S p] _ rfl rfl (by omega) (by omega) (Below.size hb) ?_)
     intro v9 w9 hown9 hg9
     have hb9:=Below.own hb hg9 Hown.out (Qn _) (Below.size hb)
     go_wp2
     go_roundw
     case rel=>exact ⟨k+1,out++ [p],[],by omega,by go_num,rfl,hown9,(by simp;omega),(by simp),Hnx.out,hb9⟩
     case measure=>simp [intOf];omega
   ·have Hend:=Qh (show out++ [p]=elsGo [] s by rw [←Hr.out,List.drop_of_length_le (by omega)];rfl)
    go_wp2_with (at_builtin;refine Xau (w0:=wr) Xf2 rfl _ _ rfl _ _ _ rfl Hown.out p [S p] _ rfl rfl (by omega) (by omega) (Below.size hb) ?_)
    intro v9 w9 hown9 hg9
    have hb9:=Below.own hb hg9 Hown.out (Qn _) (Below.size hb)
    have hok9:Ok I w9:=Ok.own hwr hg9 Hown.out Hfr.out
    have Hown9:=Qh hown9
    clear hown9 hg9
    go_wp2
    go_ret
    obtain ⟨I',hI1,hI2,hI3,_⟩:=Hown9.out.freeze hok9 Hfr.out
    rw [Hs.out,←Hend.out]
    exact ⟨_,I',rfl,hb9,hI1,hI2,hI3⟩
theorem Xkt (c:UInt8):keyChar c=(decide (97≤c.toNat)&&decide (c.toNat≤122) || decide (48≤c.toNat)&&decide (c.toNat≤57) || decide (c.toNat=46) || decide (c.toNat=95) || decide (c.toNat=45)):=by
 rw [Xef,notAllowed,Bool.not_not]
set_option maxRecDepth 100000 in
set_option maxHeartbeats 1000000 in
theorem Xgu (s:Bytes) (hs:s.length≤9223372036854775807) (w:World):
 Calls Tryz.prog 181 #[S s] w fun e w'=>e= .returned (.bool (comp s))∧Below w.heap.size w w':=by
 by_cases h1:1≤s.length
 case neg=>
  have hd1:decide (0<s.length)=false:=Qf (by omega)
  have Hok:=Qh (show comp s=false by simp [comp,h1])
  go_enter Tryz.func181,Tryz.ntmps181
  go_wp2_with fail
  go_loop [3,4] (fun s3 s4=>s3= .bool false∧s4= .int .i64 0) (fun _ _=>0)
  case atStart=>exact ⟨rfl,rfl⟩
  case round=>
   obtain ⟨rfl,rfl⟩:=hrel
   go_wp2
   go_ret
   exact ⟨Xa2 Hok.out.symm,Qb _ _⟩
 have hd1:decide (0<s.length)=true:=Qt (by omega)
 by_cases h32:s.length≤32
 case neg=>
  have hd2:decide (s.length≤32)=false:=Qf h32
  have Hok:=Qh (show comp s=false by simp [comp,h32])
  go_enter Tryz.func181,Tryz.ntmps181
  go_wp2_with fail
  go_loop [3,4] (fun s3 s4=>s3= .bool false∧s4= .int .i64 0) (fun _ _=>0)
  case atStart=>exact ⟨rfl,rfl⟩
  case round=>
   obtain ⟨rfl,rfl⟩:=hrel
   go_wp2
   go_ret
   exact ⟨Xa2 Hok.out.symm,Qb _ _⟩
 have hd2:decide (s.length≤32)=true:=Qt h32
 by_cases h46:s= [46]
 case pos=>
  subst h46
  have Hok:=Qh (show comp [46]=false by rfl)
  clear hs h1 hd1 h32 hd2
  go_enter Tryz.func181,Tryz.ntmps181
  go_wp2_with fail
  go_loop [3,4] (fun s3 s4=>s3= .bool false∧s4= .int .i64 0) (fun _ _=>0)
  case atStart=>exact ⟨rfl,rfl⟩
  case round=>
   obtain ⟨rfl,rfl⟩:=hrel
   go_wp2
   go_ret
   exact ⟨Xa2 Hok.out.symm,Qb _ _⟩
 have f46:(s != [46])=true:=by simpa using h46
 have g46:(s== [46])=false:=by simpa using h46
 by_cases h47:s= [46,46]
 case pos=>
  subst h47
  have Hok:=Qh (show comp [46,46]=false by rfl)
  clear hs h1 hd1 h32 hd2 h46 f46 g46
  go_enter Tryz.func181,Tryz.ntmps181
  go_wp2_with fail
  go_loop [3,4] (fun s3 s4=>s3= .bool false∧s4= .int .i64 0) (fun _ _=>0)
  case atStart=>exact ⟨rfl,rfl⟩
  case round=>
   obtain ⟨rfl,rfl⟩:=hrel
   go_wp2
   go_ret
   exact ⟨Xa2 Hok.out.symm,Qb _ _⟩
 have f47:(s != [46,46])=true:=by simpa using h47
 have g47:(s== [46,46])=false:=by simpa using h47
 have Hok:=Qh (show comp s=s.all keyChar by simp [comp,h1,h32,f46,f47])
 clear h46 h47
 go_enter Tryz.func181,Tryz.ntmps181
 go_wp2_with fail
 go_loop [3,4] (fun s3 s4=> ∃(k:Nat) (b:Bool),k≤s.length∧s4= .int .i64 k∧s3= .bool b∧(s.take k).all keyChar=b) (fun _ i=>s.length-(intOf i).toNat)
 case atStart=>exact ⟨0,true,Nat.zero_le _,rfl,rfl,rfl⟩
 case round=>
  obtain ⟨k,b,hk,rfl,rfl,hr⟩:=hrel
  have Hr:=Qh hr;clear hr
  cases b
  ·have Hall:=Qh (show s.all keyChar=false by
    cases h:s.all keyChar with
    |false=>rfl
    |true=>
     have:(s.take k).all keyChar=true:=List.all_eq_true.2 fun x hx=>List.all_eq_true.1 h x (List.mem_of_mem_take hx)
     rw [Hr.out] at this
     exact absurd this (by simp))
   go_wp2
   go_ret
   exact ⟨Xa2 (by rw [Hok.out,Hall.out]),Qb _ _⟩
  ·by_cases hlt:k<s.length
   ·have hx:=run_at Tryz.underlying9 s (k:Int) k rfl hlt
    have hkc:=Xkt (s.getD k 0)
    have Htk:=Qh (show s.take (k+1)=s.take k++ [s.getD k 0] by rw [List.take_succ_eq_append_getElem hlt];simp [List.getD,hlt])
    have hc256:(s.getD k 0).toNat<256:=(s.getD k 0).toNat_lt
    generalize s.getD k 0=ch at hkc Htk hx hc256
    generalize ch.toNat=c at hkc hx hc256
    rcases (show (97≤c∧c≤122)∨122<c∨(48≤c∧c≤57)∨c=46∨c=95∨c=45∨(c<48∧c≠46∧c≠45)∨(57<c∧c<97∧c≠95) by omega) with hc|hc|hc|hc|hc|hc|hc|hc
    ·have d97:decide (97≤(c:Int))=true:=by simp;omega
     have d122:decide ((c:Int)≤122)=true:=by simp;omega
     have d48:decide (48≤(c:Int))=true:=by simp;omega
     have d57:decide ((c:Int)≤57)=false:=by simp;omega
     have n46:((c:Int)==46)=false:=by simp;omega
     have n95:((c:Int)==95)=false:=by simp;omega
     have n45:((c:Int)==45)=false:=by simp;omega
     have Hkc:=Qh (show keyChar ch=true by rw [hkc];simp;omega)
     clear hkc hc
     go_wp2
     go_round
     case rel=>exact ⟨k+1,true,by omega,by go_num,rfl,by rw [Htk.out,List.all_append,Hr.out];simp [Hkc.out]⟩
     case measure=>simp [intOf];omega
    ·have d97:decide (97≤(c:Int))=true:=by simp;omega
     have d122:decide ((c:Int)≤122)=false:=by simp;omega
     have d48:decide (48≤(c:Int))=true:=by simp;omega
     have d57:decide ((c:Int)≤57)=false:=by simp;omega
     have n46:((c:Int)==46)=false:=by simp;omega
     have n95:((c:Int)==95)=false:=by simp;omega
     have n45:((c:Int)==45)=false:=by simp;omega
     have Hkc:=Qh (show keyChar ch=false by rw [hkc];simp;omega)
     clear hkc hc
     go_wp2
     go_round
     case rel=>exact ⟨k+1,false,by omega,by go_num,rfl,by rw [Htk.out,List.all_append,Hr.out];simp [Hkc.out]⟩
     case measure=>simp [intOf];omega
    ·have d97:decide (97≤(c:Int))=false:=by simp;omega
     have d122:decide ((c:Int)≤122)=true:=by simp;omega
     have d48:decide (48≤(c:Int))=true:=by simp;omega
     have d57:decide ((c:Int)≤57)=true:=by simp;omega
     have n46:((c:Int)==46)=false:=by simp;omega
     have n95:((c:Int)==95)=false:=by simp;omega
     have n45:((c:Int)==45)=false:=by simp;omega
     have Hkc:=Qh (show keyChar ch=true by rw [hkc];simp;omega)
     clear hkc hc
     go_wp2
     go_round
     case rel=>exact ⟨k+1,true,by omega,by go_num,rfl,by rw [Htk.out,List.all_append,Hr.out];simp [Hkc.out]⟩
     case measure=>simp [intOf];omega
    ·have d97:decide (97≤(c:Int))=false:=by simp;omega
     have d122:decide ((c:Int)≤122)=true:=by simp;omega
     have d48:decide (48≤(c:Int))=false:=by simp;omega
     have d57:decide ((c:Int)≤57)=true:=by simp;omega
     have n46:((c:Int)==46)=true:=by simp;omega
     have n95:((c:Int)==95)=false:=by simp;omega
     have n45:((c:Int)==45)=false:=by simp;omega
     have Hkc:=Qh (show keyChar ch=true by rw [hkc];simp;omega)
     clear hkc hc
     go_wp2
     go_round
     case rel=>exact ⟨k+1,true,by omega,by go_num,rfl,by rw [Htk.out,List.all_append,Hr.out];simp [Hkc.out]⟩
     case measure=>simp [intOf];omega
    ·have d97:decide (97≤(c:Int))=false:=by simp;omega
     have d122:decide ((c:Int)≤122)=true:=by simp;omega
     have d48:decide (48≤(c:Int))=true:=by simp;omega
     have d57:decide ((c:Int)≤57)=false:=by simp;omega
     have n46:((c:Int)==46)=false:=by simp;omega
     have n95:((c:Int)==95)=true:=by simp;omega
     have n45:((c:Int)==45)=false:=by simp;omega
     have Hkc:=Qh (show keyChar ch=true by rw [hkc];simp;omega)
     clear hkc hc
     go_wp2
     go_round
     case rel=>exact ⟨k+1,true,by omega,by go_num,rfl,by rw [Htk.out,List.all_append,Hr.out];simp [Hkc.out]⟩
     case measure=>simp [intOf];omega
    ·have d97:decide (97≤(c:Int))=false:=by simp;omega
     have d122:decide ((c:Int)≤122)=true:=by simp;omega
     have d48:decide (48≤(c:Int))=false:=by simp;omega
     have d57:decide ((c:Int)≤57)=true:=by simp;omega
     have n46:((c:Int)==46)=false:=by simp;omega
     have n95:((c:Int)==95)=false:=by simp;omega
     have n45:((c:Int)==45)=true:=by simp;omega
     have Hkc:=Qh (show keyChar ch=true by rw [hkc];simp;omega)
     clear hkc hc
     go_wp2
     go_round
     case rel=>exact ⟨k+1,true,by omega,by go_num,rfl,by rw [Htk.out,List.all_append,Hr.out];simp [Hkc.out]⟩
     case measure=>simp [intOf];omega
    ·have d97:decide (97≤(c:Int))=false:=by simp;omega
     have d122:decide ((c:Int)≤122)=true:=by simp;omega
     have d48:decide (48≤(c:Int))=false:=by simp;omega
     have d57:decide ((c:Int)≤57)=true:=by simp;omega
     have n46:((c:Int)==46)=false:=by simp;omega
     have n95:((c:Int)==95)=false:=by simp;omega
     have n45:((c:Int)==45)=false:=by simp;omega
     have Hkc:=Qh (show keyChar ch=false by rw [hkc];simp;omega)
     clear hkc hc
     go_wp2
     go_round
     case rel=>exact ⟨k+1,false,by omega,by go_num,rfl,by rw [Htk.out,List.all_append,Hr.out];simp [Hkc.out]⟩
     case measure=>simp [intOf];omega
    ·have d97:decide (97≤(c:Int))=false:=by simp;omega
     have d122:decide ((c:Int)≤122)=true:=by simp;omega
     have d48:decide (48≤(c:Int))=true:=by simp;omega
     have d57:decide ((c:Int)≤57)=false:=by simp;omega
     have n46:((c:Int)==46)=false:=by simp;omega
     have n95:((c:Int)==95)=false:=by simp;omega
     have n45:((c:Int)==45)=false:=by simp;omega
     have Hkc:=Qh (show keyChar ch=false by rw [hkc];simp;omega)
     clear hkc hc
     go_wp2
     go_round
     case rel=>exact ⟨k+1,false,by omega,by go_num,rfl,by rw [Htk.out,List.all_append,Hr.out];simp [Hkc.out]⟩
     case measure=>simp [intOf];omega
   ·have hall:s.take k=s:=List.take_of_length_le (by omega)
    rw [hall] at Hr
    clear hall
    go_wp2
    go_ret
    exact ⟨Xa2 (by rw [Hok.out,Hr.out]),Qb _ _⟩
theorem Xdq:∀(a b:List Bytes),(joinP a).length≤(joinP (a++b)).length
 | [],_=>Nat.zero_le _
 | [p],[]=>Qn _
 | [p],q::b=>by
   rw [List.singleton_append,show joinP [p]=p from rfl,Xcc p (show q::b≠ [] by simp)]
   simp
 |p::q::a,b=>by
  have:=Xdq (q::a) b
  rw [List.cons_append,Xcc p (by simp),Xcc p (by simp)]
  simp only [List.length_append,List.length_cons]
  omega
theorem Xjd (l:List Bytes) (k:Nat):(joinP (l.take k)).length≤(joinP l).length:=by
 conv=>rhs;rw [←List.take_append_drop k l]
 exact Xdq _ _
theorem RdS.takeS {α:Type} {T:Ty α} {I:IH} {l:List α} {ao:Option Addr} {m cap:Nat} (h:RdS T I (.slice ao m cap) l) {n:Nat} (hn:n≤l.length):RdS T I (.slice ao n cap) (l.take n):=by
 obtain ⟨ao',cap',e,h1,h2,h3⟩:=h
 injection e with e1 e2 e3
 subst e1 e3
 have hl:(l.take n).length=n:=by rw [List.length_take,Nat.min_eq_left hn]
 refine ⟨_,_,by rw [hl],by omega,h2,fun h0=> ?_⟩
 obtain ⟨b,off,arr,k1,k2,k3⟩:=h3 (by omega)
 refine ⟨b,off,arr,k1,k2,fun i hi=> ?_⟩
 obtain ⟨cs,c1,c2⟩:=k3 i (by omega)
 exact ⟨cs,by rw [List.getElem_take];exact c1,c2⟩
theorem Xhj:∀(s p:Bytes) (q:Bytes),q∈elsGo p s→q.length≤p.length+s.length
 | [],p,q,h=>by
   rw [elsGo] at h
   simp at h
   subst h
   simp
 |c::s,p,q,h=>by
  rw [elsGo] at h
  split at h
  ·rcases List.mem_cons.1 h with rfl|h
   ·simp only [List.length_cons];omega
   ·have:=Xhj s [] q h
    simp only [List.length_cons,List.length_nil] at this ⊢
    omega
  ·have:=Xhj s _ q h
   simp only [List.length_append,List.length_cons,List.length_nil] at this ⊢
   omega
theorem Xq9 {s q:Bytes} (h:q∈els s):q.length≤s.length:=by
 unfold els at h
 split at h
 ·exact absurd h (by simp)
 ·have:=Xhj s [] q h
  simpa using this
set_option maxRecDepth 100000 in
set_option maxHeartbeats 400000 in
theorem Xmc (I:IH) (s:Bytes) (w:World) (hw:Ok I w):
 Calls Tryz.prog 115 #[S s] w fun e w'=>e= .returned (.int .i64 (pathErr s))∧Below w.heap.size w w':=by
 by_cases h200:s.length≤200
 case neg=>
  have hd:decide (200<s.length)=true:=Qt (by omega)
  have Hp:=Qh (show pathErr s=6 by rw [pathErr,if_pos (by omega)])
  go_enter Tryz.func115,Tryz.ntmps115
  go_wp2
  go_ret
  exact ⟨Xag Hp.out.symm,Qb _ _⟩
 have hd:decide (200<s.length)=false:=Qf (by omega)
 have Hel:=Qh (fun (q:Bytes) (h:q∈els s)=>Xq9 h)
 have Hp:=Qh (show pathErr s=if 8<(els s).length then 6 else if (els s).all comp then 0 else 7 by rw [pathErr,if_neg (by omega)])
 go_enter Tryz.func115,Tryz.ntmps115
 go_wp2_with fail
 refine (Xhz I s (by omega) _ hw).mono ?_
 generalize els s=l at Hel Hp
 rintro e w1 ⟨v1,I1,rfl,hb1,hx1,hok1,hr1⟩
 obtain ⟨ao,cap,rfl,hcap,hcm,_⟩:=id hr1
 have Hr1:=Qh hr1
 clear hr1 hx1
 by_cases h8:l.length≤8
 case neg=>
  have hd8:decide (8<l.length)=true:=Qt (by omega)
  have Hp2:=Qh (show pathErr s=6 by rw [Hp.out,if_pos (by omega)])
  go_wp2
  go_ret
  exact ⟨Xag Hp2.out.symm,hb1⟩
 have hd8:decide (8<l.length)=false:=Qf (by omega)
 have Hp2:=Qh (show pathErr s=if l.all comp then 0 else 7 by rw [Hp.out,if_neg (by omega)])
 go_wp2_with fail
 go_loopw [4] (fun s4 wr=> ∃k:Nat,k≤l.length∧s4= .int .i64 k∧(l.take k).all comp=true∧Below w1.heap.size w1 wr) (fun i _=>l.length-(intOf i).toNat)
 case atStart=>exact ⟨0,Nat.zero_le _,rfl,rfl,Qb _ _⟩
 case round=>
  obtain ⟨k,hk,rfl,hr,hb⟩:=hrel
  have Hr:=Qh hr;clear hr
  have hwr:Ok I1 wr:=hok1.below (Qn _) hb
  by_cases hlt:k<l.length
  ·obtain ⟨q,b,off,cap',hlq,hvv,hc⟩:=Xn6 Hr1.out hwr k hlt
   cases hvv
   have hqm:q∈l:=by rw [←hlq];exact List.getElem_mem hlt
   have hql:q.length≤9223372036854775807:=by have:=Hel.out q hqm;omega
   have Hqm:=Qh hqm
   have Htk:=Qh (show l.take (k+1)=l.take k++ [q] by rw [List.take_succ_eq_append_getElem hlt,hlq])
   clear hlq hqm
   go_wp2_with fail
   refine (Xgu q hql _).mono ?_
   rintro e w2 ⟨rfl,hb2⟩
   have hb2':=hb.trans (hb2.mono hb.size)
   clear hb2
   cases hq:comp q
   ·have Hn:=Qh (show pathErr s=7 by
     rw [Hp2.out,if_neg]
     intro h
     rw [List.all_eq_true.1 h q Hqm.out] at hq
     exact absurd hq (by simp))
    clear hq
    go_wp2
    go_ret
    exact ⟨Xag Hn.out.symm,hb1.trans (hb2'.mono hb1.size)⟩
   ·have Hn:=Qh (show (l.take (k+1)).all comp=true by rw [Htk.out,List.all_append,Hr.out];simp [hq])
    clear hq
    go_wp2
    go_roundw
    case rel=>exact ⟨k+1,by omega,by go_num,Hn.out,hb2'⟩
    case measure=>simp [intOf];omega
  ·have Hn:=Qh (show pathErr s=0 by
    have:=Hr.out
    rw [List.take_of_length_le (by omega)] at this
    rw [Hp2.out,if_pos this])
   go_wp2
   go_ret
   exact ⟨Xag Hn.out.symm,hb1.trans (hb.mono hb1.size)⟩
def splP (s:Bytes):List Bytes × Int:=if pathErr s=0 then (els s,0) else ([],pathErr s)
theorem Xiw {s:Bytes} (h:pathErr s=0):splP s=(els s,0):=by rw [splP,if_pos h]
theorem Xpo {s:Bytes} (h:pathErr s≠0):splP s=([],pathErr s):=by rw [splP,if_neg h]
def parP (s:Bytes):Bytes × Int:=if pathErr s≠0 then ([],pathErr s) else if s= [] then ([],1) else (upP s,0)
theorem Xme (l d:List Bytes):d.isPrefixOf l=decide (l.take d.length=d):=by
 rw [Bool.eq_iff_iff,List.isPrefixOf_iff_prefix,decide_eq_true_iff,List.prefix_iff_eq_take]
 exact ⟨fun h=>h.symm,fun h=>h.symm⟩
theorem Xkj {l d:List Bytes} (h:l.length<d.length):d.isPrefixOf l=false:=by
 cases hp:d.isPrefixOf l with
 |false=>rfl
 |true=>have:=(List.isPrefixOf_iff_prefix.1 hp).length_le;omega
def nameP (k:Int):Bytes:=if k=1 then [102,105,108,101] else if k=2 then [100,105,114] else if k=3 then [108,105,110,107] else if k=4 then [114,101,109,111,118,101] else if k=5 then [104,111,108,100] else if k=6 then [114,101,108,101,97,115,101] else []
theorem nameP_nil {k:Int}:nameP k= []↔k<1∨6<k:=by
 unfold nameP
 constructor
 ·intro h
  by_cases h1:k<1∨6<k
  ·exact h1
  ·have:k=1∨k=2∨k=3∨k=4∨k=5∨k=6:=by omega
   rcases this with rfl|rfl|rfl|rfl|rfl|rfl<;>simp at h
 ·intro h
  rw [if_neg (by omega),if_neg (by omega),if_neg (by omega),if_neg (by omega),if_neg (by omega),if_neg (by omega)]
set_option maxRecDepth 100000 in
set_option maxHeartbeats 400000 in
theorem Xh8 (k:Int) (w:World):Calls Tryz.prog 114 #[.int .i64 k] w fun e w'=>e= .returned (S (nameP k))∧w'=w:=by
 by_cases h1:k=1
 case pos=>
  subst h1
  rw [show nameP 1= [102,105,108,101] from rfl]
  go_enter Tryz.func114,Tryz.ntmps114
  go_wp2
  go_ret
  exact ⟨rfl,rfl⟩
 by_cases h2:k=2
 case pos=>
  subst h2
  rw [show nameP 2= [100,105,114] from rfl]
  go_enter Tryz.func114,Tryz.ntmps114
  go_wp2
  go_ret
  exact ⟨rfl,rfl⟩
 by_cases h3:k=3
 case pos=>
  subst h3
  rw [show nameP 3= [108,105,110,107] from rfl]
  go_enter Tryz.func114,Tryz.ntmps114
  go_wp2
  go_ret
  exact ⟨rfl,rfl⟩
 by_cases h4:k=4
 case pos=>
  subst h4
  rw [show nameP 4= [114,101,109,111,118,101] from rfl]
  go_enter Tryz.func114,Tryz.ntmps114
  go_wp2
  go_ret
  exact ⟨rfl,rfl⟩
 by_cases h5:k=5
 case pos=>
  subst h5
  rw [show nameP 5= [104,111,108,100] from rfl]
  go_enter Tryz.func114,Tryz.ntmps114
  go_wp2
  go_ret
  exact ⟨rfl,rfl⟩
 by_cases h6:k=6
 case pos=>
  subst h6
  rw [show nameP 6= [114,101,108,101,97,115,101] from rfl]
  go_enter Tryz.func114,Tryz.ntmps114
  go_wp2
  go_ret
  exact ⟨rfl,rfl⟩
 have hn:nameP k= []:=nameP_nil.2 (by omega)
 have f1:(k==1)=false:=by simpa using h1
 have f2:(k==2)=false:=by simpa using h2
 have f3:(k==3)=false:=by simpa using h3
 have f4:(k==4)=false:=by simpa using h4
 have f5:(k==5)=false:=by simpa using h5
 have f6:(k==6)=false:=by simpa using h6
 rw [hn]
 clear hn h1 h2 h3 h4 h5 h6
 go_enter Tryz.func114,Tryz.ntmps114
 go_wp2
 go_ret
 exact ⟨rfl,rfl⟩
def digC (c:UInt8):Bool:=decide (48≤c)&&decide (c≤57)
theorem Xf9 (c:UInt8):digC c=(decide (48≤c.toNat)&&decide (c.toNat≤57)):=by
 unfold digC
 simp [UInt8.le_iff_toNat_le]
theorem Xhl (l:Bytes) (c:UInt8):digits (l++ [c])=10*digits l+((c.toNat:Int)-48):=by
 simp [digits,List.foldl_append]
theorem Xrd:∀(n:Nat) (l:Bytes),l.length=n→l.all digC=true→0≤digits l∧digits l<10 ^ n:=by
 intro n
 induction n with
 |zero=>
  intro l h _
  have:l= []:=List.eq_nil_of_length_eq_zero h
  subst this
  exact ⟨Int.le_refl _,by decide⟩
 |succ n ih=>
  intro l h ha
  have hne:l≠ []:=by intro e;rw [e] at h;simp at h
  have e:l=l.dropLast++ [l.getLast hne]:=(List.dropLast_concat_getLast hne).symm
  have hl:l.dropLast.length=n:=by rw [List.length_dropLast,h];omega
  rw [e,List.all_append,Bool.and_eq_true] at ha
  obtain ⟨i1,i2⟩:=ih _ hl ha.1
  have hc:=ha.2
  simp only [List.all_cons,List.all_nil,Bool.and_true] at hc
  rw [Xf9,Bool.and_eq_true,decide_eq_true_iff,decide_eq_true_iff] at hc
  rw [e,Xhl,Int.pow_succ]
  generalize digits l.dropLast=d at i1 i2
  generalize ((10:Int) ^ n)=p at i1 i2 ⊢
  omega
def dateP (s:Bytes):Int × Bool:=if s.length<1∨10<s.length∨(1<s.length∧s.head? =some 48)∨s.all digC=false then (0,false) else (digits s,decide (digits s≤1000000000))
theorem Xtn (s:Bytes):(dateP s).2=dateOk s:=by
 unfold dateP dateOk
 have hd:(fun c:UInt8=>decide (48≤c)&&decide (c≤57))=digC:=rfl
 rw [hd]
 by_cases h1:s.length<1
 ·rw [if_pos (.inl h1),Qf (by omega)];rfl
 by_cases h2:10<s.length
 ·rw [if_pos (.inr (.inl h2)),Qf (show ¬s.length≤10 by omega)];simp
 by_cases h3:1<s.length∧s.head? =some 48
 ·rw [if_pos (.inr (.inr (.inl h3)))]
  have:(decide (1<s.length)&&s.head? ==some 48)=true:=by rw [Qt h3.1,h3.2];rfl
  rw [this];simp
 have h3':(decide (1<s.length)&&s.head? ==some 48)=false:=by
  cases h:(decide (1<s.length)&&s.head? ==some 48) with
  |false=>rfl
  |true=>
   rw [Bool.and_eq_true,decide_eq_true_iff,beq_iff_eq] at h
   exact absurd h h3
 rw [h3',Qt (show 1≤s.length by omega),Qt (show s.length≤10 by omega)]
 cases h4:s.all digC
 ·rw [if_pos (.inr (.inr (.inr rfl)))];simp
 ·rw [if_neg (by simp [h1,h2,h3])];simp
set_option maxRecDepth 100000 in
set_option maxHeartbeats 1000000 in
theorem Xof (s:Bytes) (hs:s.length≤9223372036854775807) (w:World):
 Calls Tryz.prog 183 #[S s] w fun e w'=>e= .returned (.tuple #[.int .i64 (dateP s).1,.bool (dateP s).2])∧Below w.heap.size w w':=by
 by_cases h1:s.length<1
 case pos=>
  have hd1:decide (s.length<1)=true:=Qt h1
  have Hp:=Qh (show dateP s=(0,false) by rw [dateP,if_pos (.inl h1)])
  go_enter Tryz.func183,Tryz.ntmps183
  go_wp2
  go_ret2
  rw [Hp.out]
  exact ⟨rfl,Qb _ _⟩
 have hd1:decide (s.length<1)=false:=Qf h1
 by_cases h2:10<s.length
 case pos=>
  have hd2:decide (10<s.length)=true:=Qt h2
  have Hp:=Qh (show dateP s=(0,false) by rw [dateP,if_pos (.inr (.inl h2))])
  go_enter Tryz.func183,Tryz.ntmps183
  go_wp2
  go_ret2
  rw [Hp.out]
  exact ⟨rfl,Qb _ _⟩
 have hd2:decide (10<s.length)=false:=Qf h2
 have hx0:=run_at Tryz.underlying9 s 0 0 rfl (by omega)
 have he0:((((s.getD 0 0).toNat:Nat):Int)==48)=(s.getD 0 0==UInt8.ofNat 48):=Xu5 (s.getD 0 0) 48 (by decide)
 have hh:s.head? =some (s.getD 0 0):=by cases s<;>simp_all
 have hmain:(1<s.length∧s.head? =some 48)∨ ¬(1<s.length∧s.head? =some 48):=Classical.em _
 rcases hmain with h3|h3
 ·have hd3:decide (1<s.length)=true:=Qt h3.1
  have he1:(((s.getD 0 0).toNat:Int)==48)=true:=by
   rw [he0]
   have:=h3.2
   rw [hh] at this
   rw [Option.some.inj this];rfl
  have Hp:=Qh (show dateP s=(0,false) by rw [dateP,if_pos (.inr (.inr (.inl h3)))])
  generalize (s.getD 0 0).toNat=c0 at hx0 he1
  have hc0:c0=48:=by have:=beq_iff_eq.1 he1;omega
  subst hc0
  have h5:=h3.1
  clear h3 he0 hh he1
  go_enter Tryz.func183,Tryz.ntmps183
  go_wp2
  go_ret2
  rw [Hp.out]
  exact ⟨rfl,Qb _ _⟩
 ·have Hp:=Qh (show dateP s=if s.all digC=false then (0,false) else (digits s,decide (digits s≤1000000000)) by
   rw [dateP]
   by_cases h4:s.all digC=false
   ·rw [if_pos (.inr (.inr (.inr h4))),if_pos h4]
   ·rw [if_neg (by simp [h1,h2,h3];simpa using h4),if_neg h4])
  have hcase:(¬1<s.length∧decide (1<s.length)=false)∨(1<s.length∧decide (1<s.length)=true∧(((s.getD 0 0).toNat:Int)==48)=false):=by
   by_cases h5:1<s.length
   ·right
    refine ⟨h5,Qt h5,?_⟩
    rw [he0,beq_eq_false_iff_ne]
    intro e
    exact h3 ⟨h5,by rw [hh,e];rfl⟩
   ·exact .inl ⟨h5,Qf h5⟩
  generalize (s.getD 0 0).toNat=c0 at hx0 hcase
  clear h3 he0 hh
  have H10:s.length≤10:=by omega
  rcases hcase with ⟨h5,hd3⟩|⟨h5,hd3,he3⟩
  all_goals
   go_enter Tryz.func183,Tryz.ntmps183
   go_wp2_with fail
   go_loop [4,5] (fun s4 s5=> ∃k:Nat,k≤s.length∧s5= .int .i64 k∧s4= .int .i64 (digits (s.take k))∧(s.take k).all digC=true) (fun _ i=>s.length-(intOf i).toNat)
   case atStart=>exact ⟨0,Nat.zero_le _,rfl,rfl,rfl⟩
   case round=>
    obtain ⟨k,hk,rfl,rfl,hr⟩:=hrel
    have hdb:=Xrd k (s.take k) (by rw [List.length_take];omega) hr
    have Hr:=Qh hr;clear hr
    by_cases hlt:k<s.length
    ·have hx:=run_at Tryz.underlying9 s (k:Int) k rfl hlt
     have hdc:=Xf9 (s.getD k 0)
     have hpk:(10:Int) ^ k≤10000000000:=by
      have:(10:Nat) ^ k≤10 ^ 10:=Nat.pow_le_pow_right (by decide) (by omega)
      have h2:((10 ^ k:Nat):Int)≤((10 ^ 10:Nat):Int):=by exact_mod_cast this
      simpa using h2
     have htk:s.take (k+1)=s.take k++ [s.getD k 0]:=by rw [List.take_succ_eq_append_getElem hlt];simp [List.getD,hlt]
     have hds:digits (s.take (k+1))=10*digits (s.take k)+(((s.getD k 0).toNat:Int)-48):=by rw [htk,Xhl]
     have hmem:s.getD k 0∈s:=by simp [List.getD,hlt]
     have hc256:(s.getD k 0).toNat<256:=(s.getD k 0).toNat_lt
     generalize s.getD k 0=ch at hdc htk hx hc256 hds hmem
     generalize ch.toNat=c at hdc hx hc256 hds
     generalize digits (s.take k)=n at hdb hds ⊢
     generalize ((10:Int) ^ k)=p10 at hdb hpk
     have Htk:=Qh htk
     have Hds:=Qh hds
     have Hmem:=Qh hmem
     clear htk hds hmem
     by_cases hc1:48≤c
     case neg=>
      have d48:decide ((c:Int)<48)=true:=Qt (by omega)
      have Hn:=Qh (show dateP s=(0,false) by
       rw [Hp.out,if_pos]
       cases h:s.all digC with
       |false=>rfl
       |true=>
        have:=List.all_eq_true.1 h ch Hmem.out
        rw [hdc,Qf hc1] at this
        exact absurd this (by simp))
      clear hdc hc1
      go_wp2
      go_ret2
      rw [Hn.out]
      exact ⟨rfl,Qb _ _⟩
     have d48:decide ((c:Int)<48)=false:=Qf (by omega)
     by_cases hc2:c≤57
     case neg=>
      have d57:decide (57<(c:Int))=true:=Qt (by omega)
      have Hn:=Qh (show dateP s=(0,false) by
       rw [Hp.out,if_pos]
       cases h:s.all digC with
       |false=>rfl
       |true=>
        have:=List.all_eq_true.1 h ch Hmem.out
        rw [hdc,Qf hc2] at this
        exact absurd this (by simp))
      clear hdc hc2
      go_wp2
      go_ret2
      rw [Hn.out]
      exact ⟨rfl,Qb _ _⟩
     have d57:decide (57<(c:Int))=false:=Qf (by omega)
     have Hdc:=Qh (show digC ch=true by rw [hdc,Qt hc1,Qt hc2];rfl)
     clear hdc
     go_wp2
     go_round
     case rel=>exact ⟨k+1,by omega,by go_num,by rw [Hds.out];go_num,by rw [Htk.out,List.all_append,Hr.out];simp [Hdc.out]⟩
     case measure=>simp [intOf];omega
    ·have hall:s.take k=s:=List.take_of_length_le (by omega)
     rw [hall] at Hr hdb ⊢
     have Hn:=Qh (show dateP s=(digits s,decide (digits s≤1000000000)) by rw [Hp.out,if_neg (by rw [Hr.out];simp)])
     clear hall
     go_wp2
     go_ret2
     rw [Hn.out]
     exact ⟨rfl,Qb _ _⟩
def bigA (x:At):Bool:=decide (100<x.k.length) || decide (100<x.v.length)
def greatA (l:List At):Int:=if 30<l.length then 1 else if l.any bigA then 1 else 0
theorem Xmm (c:UInt8):keyChar c=(decide (97≤c.toNat)&&decide (c.toNat≤122) || decide (48≤c.toNat)&&decide (c.toNat≤57) || decide (c.toNat=46) || decide (c.toNat=95) || decide (c.toNat=45)):=by
 have e:∀n:Nat,n<256→(c==UInt8.ofNat n)=decide (c.toNat=n):=fun n hn=>by
  rw [Bool.eq_iff_iff,beq_iff_eq,decide_eq_true_iff]
  constructor
  ·intro h;rw [h];simp;omega
  ·intro h
   have:c=UInt8.ofNat c.toNat:=by simp
   rw [this,h]
 unfold keyChar
 rw [show (46:UInt8)=UInt8.ofNat 46 from rfl,show (95:UInt8)=UInt8.ofNat 95 from rfl,show (45:UInt8)=UInt8.ofNat 45 from rfl,e 46 (by omega),e 95 (by omega),e 45 (by omega)]
 simp [UInt8.le_iff_toNat_le]
set_option maxRecDepth 100000 in
set_option maxHeartbeats 1000000 in
theorem Xp5 (s:Bytes) (hs:s.length≤9223372036854775807) (w:World):
 Calls Tryz.prog 182 #[S s] w fun e w'=>e= .returned (.bool (keyOk s))∧Below w.heap.size w w':=by
 by_cases h1:1≤s.length
 ·have hd1:decide (s.length<1)=false:=Qf (by omega)
  by_cases h32:s.length≤32
  ·have hd2:decide (32<s.length)=false:=by simp;omega
   have Hok:=Qh (show keyOk s=s.all keyChar by simp [keyOk,h1,h32])
   go_enter Tryz.func182,Tryz.ntmps182
   go_wp2_with fail
   go_loop [3] (fun s3=> ∃k:Nat,k≤s.length∧s3= .int .i64 k∧(s.take k).all keyChar=true) (fun i=>s.length-(intOf i).toNat)
   case atStart=>exact ⟨0,Nat.zero_le _,rfl,rfl⟩
   case round=>
    obtain ⟨k,hk,rfl,hr⟩:=hrel
    have Hr:=Qh hr;clear hr
    by_cases hlt:k<s.length
    ·have hx:=run_at Tryz.underlying9 s (k:Int) k rfl hlt
     have hkc:=Xmm (s.getD k 0)
     have Htk:=Qh (show s.take (k+1)=s.take k++ [s.getD k 0] by rw [List.take_succ_eq_append_getElem hlt];simp [List.getD,hlt])
     have Hmem:=Qh (show s.getD k 0∈s by simp [List.getD,hlt])
     have hc256:(s.getD k 0).toNat<256:=(s.getD k 0).toNat_lt
     generalize s.getD k 0=ch at hkc Htk Hmem hx hc256
     generalize ch.toNat=c at hkc hx hc256
     rcases (show (97≤c∧c≤122)∨122<c∨(48≤c∧c≤57)∨c=46∨c=95∨c=45∨(c<48∧c≠46∧c≠45)∨(57<c∧c<97∧c≠95) by omega) with hc|hc|hc|hc|hc|hc|hc|hc
     ·have d97:decide ((c:Int)<97)=false:=by simp;omega
      have d122:decide (122<(c:Int))=false:=by simp;omega
      have d48:decide ((c:Int)<48)=false:=by simp;omega
      have d57:decide (57<(c:Int))=true:=by simp;omega
      have n46:((c:Int) != 46)=true:=by simp;omega
      have n95:((c:Int) != 95)=true:=by simp;omega
      have n45:((c:Int) != 45)=true:=by simp;omega
      have Hkc:=Qh (show keyChar ch=true by rw [hkc];simp;omega)
      clear hkc hc
      go_wp2
      go_round
      case rel=>exact ⟨k+1,by omega,by go_num,by rw [Htk.out,List.all_append,Hr.out];simp [Hkc.out]⟩
      case measure=>simp [intOf];omega
     ·have d97:decide ((c:Int)<97)=false:=by simp;omega
      have d122:decide (122<(c:Int))=true:=by simp;omega
      have d48:decide ((c:Int)<48)=false:=by simp;omega
      have d57:decide (57<(c:Int))=true:=by simp;omega
      have n46:((c:Int) != 46)=true:=by simp;omega
      have n95:((c:Int) != 95)=true:=by simp;omega
      have n45:((c:Int) != 45)=true:=by simp;omega
      have Hkc:=Qh (show keyChar ch=false by rw [hkc];simp;omega)
      have Hall:=Qh (show s.all keyChar=false by
       cases h:s.all keyChar with
       |false=>rfl
       |true=>rw [List.all_eq_true.1 h ch Hmem.out] at Hkc;exact absurd Hkc.out (by simp))
      clear hkc hc
      go_wp2
      go_ret
      exact ⟨Xa2 (by rw [Hok.out,Hall.out]),Qb _ _⟩
     ·have d97:decide ((c:Int)<97)=true:=by simp;omega
      have d122:decide (122<(c:Int))=false:=by simp;omega
      have d48:decide ((c:Int)<48)=false:=by simp;omega
      have d57:decide (57<(c:Int))=false:=by simp;omega
      have n46:((c:Int) != 46)=true:=by simp;omega
      have n95:((c:Int) != 95)=true:=by simp;omega
      have n45:((c:Int) != 45)=true:=by simp;omega
      have Hkc:=Qh (show keyChar ch=true by rw [hkc];simp;omega)
      clear hkc hc
      go_wp2
      go_round
      case rel=>exact ⟨k+1,by omega,by go_num,by rw [Htk.out,List.all_append,Hr.out];simp [Hkc.out]⟩
      case measure=>simp [intOf];omega
     ·have d97:decide ((c:Int)<97)=true:=by simp;omega
      have d122:decide (122<(c:Int))=false:=by simp;omega
      have d48:decide ((c:Int)<48)=true:=by simp;omega
      have d57:decide (57<(c:Int))=false:=by simp;omega
      have n46:((c:Int) != 46)=false:=by simp;omega
      have n95:((c:Int) != 95)=true:=by simp;omega
      have n45:((c:Int) != 45)=true:=by simp;omega
      have Hkc:=Qh (show keyChar ch=true by rw [hkc];simp;omega)
      clear hkc hc
      go_wp2
      go_round
      case rel=>exact ⟨k+1,by omega,by go_num,by rw [Htk.out,List.all_append,Hr.out];simp [Hkc.out]⟩
      case measure=>simp [intOf];omega
     ·have d97:decide ((c:Int)<97)=true:=by simp;omega
      have d122:decide (122<(c:Int))=false:=by simp;omega
      have d48:decide ((c:Int)<48)=false:=by simp;omega
      have d57:decide (57<(c:Int))=true:=by simp;omega
      have n46:((c:Int) != 46)=true:=by simp;omega
      have n95:((c:Int) != 95)=false:=by simp;omega
      have n45:((c:Int) != 45)=true:=by simp;omega
      have Hkc:=Qh (show keyChar ch=true by rw [hkc];simp;omega)
      clear hkc hc
      go_wp2
      go_round
      case rel=>exact ⟨k+1,by omega,by go_num,by rw [Htk.out,List.all_append,Hr.out];simp [Hkc.out]⟩
      case measure=>simp [intOf];omega
     ·have d97:decide ((c:Int)<97)=true:=by simp;omega
      have d122:decide (122<(c:Int))=false:=by simp;omega
      have d48:decide ((c:Int)<48)=true:=by simp;omega
      have d57:decide (57<(c:Int))=false:=by simp;omega
      have n46:((c:Int) != 46)=true:=by simp;omega
      have n95:((c:Int) != 95)=true:=by simp;omega
      have n45:((c:Int) != 45)=false:=by simp;omega
      have Hkc:=Qh (show keyChar ch=true by rw [hkc];simp;omega)
      clear hkc hc
      go_wp2
      go_round
      case rel=>exact ⟨k+1,by omega,by go_num,by rw [Htk.out,List.all_append,Hr.out];simp [Hkc.out]⟩
      case measure=>simp [intOf];omega
     ·have d97:decide ((c:Int)<97)=true:=by simp;omega
      have d122:decide (122<(c:Int))=false:=by simp;omega
      have d48:decide ((c:Int)<48)=true:=by simp;omega
      have d57:decide (57<(c:Int))=false:=by simp;omega
      have n46:((c:Int) != 46)=true:=by simp;omega
      have n95:((c:Int) != 95)=true:=by simp;omega
      have n45:((c:Int) != 45)=true:=by simp;omega
      have Hkc:=Qh (show keyChar ch=false by rw [hkc];simp;omega)
      have Hall:=Qh (show s.all keyChar=false by
       cases h:s.all keyChar with
       |false=>rfl
       |true=>rw [List.all_eq_true.1 h ch Hmem.out] at Hkc;exact absurd Hkc.out (by simp))
      clear hkc hc
      go_wp2
      go_ret
      exact ⟨Xa2 (by rw [Hok.out,Hall.out]),Qb _ _⟩
     ·have d97:decide ((c:Int)<97)=true:=by simp;omega
      have d122:decide (122<(c:Int))=false:=by simp;omega
      have d48:decide ((c:Int)<48)=false:=by simp;omega
      have d57:decide (57<(c:Int))=true:=by simp;omega
      have n46:((c:Int) != 46)=true:=by simp;omega
      have n95:((c:Int) != 95)=true:=by simp;omega
      have n45:((c:Int) != 45)=true:=by simp;omega
      have Hkc:=Qh (show keyChar ch=false by rw [hkc];simp;omega)
      have Hall:=Qh (show s.all keyChar=false by
       cases h:s.all keyChar with
       |false=>rfl
       |true=>rw [List.all_eq_true.1 h ch Hmem.out] at Hkc;exact absurd Hkc.out (by simp))
      clear hkc hc
      go_wp2
      go_ret
      exact ⟨Xa2 (by rw [Hok.out,Hall.out]),Qb _ _⟩
    ·have hall:s.take k=s:=List.take_of_length_le (by omega)
     rw [hall] at Hr
     clear hall
     go_wp2
     go_ret
     exact ⟨Xa2 (by rw [Hok.out,Hr.out]),Qb _ _⟩
  ·have hd2:decide (32<s.length)=true:=by simp;omega
   have Hok:=Qh (show keyOk s=false by simp [keyOk,h32])
   go_enter Tryz.func182,Tryz.ntmps182
   go_wp2
   go_ret
   exact ⟨Xa2 Hok.out.symm,Qb _ _⟩
 ·have hd1:decide (s.length<1)=true:=Qt (by omega)
  have Hok:=Qh (show keyOk s=false by simp [keyOk,h1])
  go_enter Tryz.func182,Tryz.ntmps182
  go_wp2
  go_ret
  exact ⟨Xa2 Hok.out.symm,Qb _ _⟩
theorem Xfw (p:Option At) (x:At) (l:List At):chkFrom p (x::l)=if atErr x≠0 then atErr x else if (p.any fun q=>q.k==x.k) then 8 else if (p.any fun q=>Op.bytesLess x.k q.k) then 14 else chkFrom (some x) l:=rfl
set_option maxRecDepth 100000 in
set_option maxHeartbeats 1000000 in
theorem Xmb (I:IH) (v:Value) (l:List At) (hv:RdS tAt I v l) (hl:∀x∈l,x.Wf) (w:World) (hw:Ok I w):
 Calls Tryz.prog 116 #[v] w fun e w'=>e= .returned (.int .i64 (chk l))∧Below w.heap.size w w':=by
 have hlen:=hv.len_le
 obtain ⟨ao,cap,rfl,hcap,hcm,_⟩:=id hv
 have Hv:=Qh hv;clear hv
 have Hl:=Qh hl;clear hl
 by_cases h16:l.length≤16
 ·have hd:decide (16<l.length)=false:=Qf (by omega)
  have Hchk:=Qh (show chk l=chkFrom none l by rw [chk,if_neg (by omega)])
  go_enter Tryz.func116,Tryz.ntmps116
  go_wp2_with fail
  go_loopw [3] (fun s3 wr=> ∃k:Nat,k≤l.length∧s3= .int .i64 k∧chkFrom (if k=0 then none else l[k-1]?) (l.drop k)=chkFrom none l∧Below w.heap.size w wr) (fun i _=>l.length-(intOf i).toNat)
  case atStart=>exact ⟨0,Nat.zero_le _,rfl,rfl,Qb _ _⟩
  case round=>
   obtain ⟨k,hk,rfl,hr,hb⟩:=hrel
   have Hr:=Qh hr;clear hr
   by_cases hlt:k<l.length
   ·have hwr:Ok I wr:=hw.below (Qn _) hb
    obtain ⟨x,b,off,cap',hlx,hvv,hc0,hc1⟩:=atAt Hv.out hwr k hlt
    cases hvv
    have hxm:x∈l:=by rw [←hlx];exact List.getElem_mem hlt
    obtain ⟨hx1,hx2⟩:=Hl.out x hxm
    have Hst:=Qh (show chk l=if atErr x≠0 then atErr x else if ((if k=0 then none else l[k-1]?).any fun q=>q.k==x.k) then 8 else if ((if k=0 then none else l[k-1]?).any fun q=>Op.bytesLess x.k q.k) then 14 else chkFrom (some x) (l.drop (k+1)) by
     rw [Hchk.out,←Hr.out,List.drop_eq_getElem_cons hlt,hlx,Xfw])
    have Hkx:=Qh (show l[k]? =some x by rw [List.getElem?_eq_getElem hlt,hlx])
    clear hlx hxm
    go_wp2_with fail
    refine (Xp5 x.k hx1 _).mono ?_
    rintro e w1 ⟨rfl,hb1⟩
    have hb1':=hb.trans (hb1.mono hb.size)
    have hc0:=Xaa hb1 hc0
    have hc1:=Xaa hb1 hc1
    have hw1:Ok I w1:=hwr.below (Qn _) hb1
    clear hb1
    cases hko:keyOk x.k
    ·have Hko:=Qh (show chk l=7 by rw [Hst.out,if_pos (by rw [atErr,if_pos hko];omega),atErr,if_pos hko])
     clear hko
     go_wp2
     go_ret
     exact ⟨Xag Hko.out.symm,hb1'⟩
    ·have Hko:=Qh hko
     clear hko
     by_cases h64:x.v.length≤64
     ·have hd2:decide (64<x.v.length)=false:=Qf (by omega)
      have He:=Qh (show atErr x=0 by rw [atErr,if_neg (by rw [Hko.out];simp),if_neg (by omega)])
      by_cases hk0:k=0
      ·have hd3:decide (0<k)=false:=Qf (by omega)
       have Hnx:=Qh (show chkFrom (if k+1=0 then none else l[k+1-1]?) (l.drop (k+1))=chkFrom none l by
        rw [←Hchk.out,Hst.out,He.out,if_neg (by omega),Nat.add_sub_cancel,Hkx.out];simp [hk0])
       clear hk0
       go_wp2_with fail
       refine wp_region_quiet_below (by kernel_rfl) (by kernel_rfl) ?_
       repeat (go_big_quiet_step ((fail)))
       refine wpQuiet_nil ?_
       intro w2 hwq
       have hb2:Below (w1).heap.size (w1) w2:=by
        obtain ⟨pq,rfl⟩:=hwq
        exact below_regrown _ _ _
       clear hwq
       go_wp2_with fail
       refine wp_region_quiet_below (by kernel_rfl) (by kernel_rfl) ?_
       repeat (go_big_quiet_step ((fail)))
       refine wpQuiet_nil ?_
       intro w3 hwq
       have hb3:Below (w2).heap.size (w2) w3:=by
        obtain ⟨pq,rfl⟩:=hwq
        exact below_regrown _ _ _
       clear hwq
       go_wp2
       go_roundw
       case rel=>exact ⟨k+1,by omega,by go_num,Hnx.out,hb1'.trans ((hb2.trans (hb3.mono hb2.size)).mono hb1'.size)⟩
       case measure=>simp [intOf];omega
      ·obtain ⟨q,b',off',cap'',hlq,hvv,hp0,hp1⟩:=atAt Hv.out hw1 (k-1) (by omega)
       cases hvv
       have Hst2:=Qh (show chk l=if (q.k==x.k) then 8 else if Op.bytesLess x.k q.k then 14 else chkFrom (some x) (l.drop (k+1)) by
        rw [Hst.out,He.out,if_neg (by omega),if_neg hk0,List.getElem?_eq_getElem (by omega),hlq];rfl)
       have hd3:decide (0<k)=true:=Qt (by omega)
       have hi:IntKind.i64.wrap ((k:Int)-1)=(k:Int)-1:=IntWalk.i64_in _ (by omega)
       have hj:0≤(k:Int)-1:=by omega
       have hm:((k:Int)-1).toNat=k-1:=by omega
       have hg0:=cell_regrown hc0
       have hq0:=cell_regrown hp0
       clear hlq
       cases he1:(x.k==q.k)
       ·have He1:=Qh (show (q.k==x.k)=false by rw [beq_eq_false_iff_ne] at he1 ⊢;exact fun h=>he1 h.symm)
        cases he2:Op.bytesLess x.k q.k
        ·have Hnx:=Qh (show chkFrom (if k+1=0 then none else l[k+1-1]?) (l.drop (k+1))=chkFrom none l by
          rw [←Hchk.out,Hst2.out,He1.out,he2,Nat.add_sub_cancel,Hkx.out];simp)
         go_wp2_with fail
         refine wp_region_quiet_below (by kernel_rfl) (by kernel_rfl) ?_
         repeat (go_big_quiet_step ((fail)))
         refine wpQuiet_nil ?_
         intro w2 hwq
         have hb2:Below (w1).heap.size (w1) w2:=by
          obtain ⟨pq,rfl⟩:=hwq
          exact below_regrown _ _ _
         clear hwq
         go_wp2_with fail
         have hg0:=cell_regrown (Xaa hb2 hc0)
         have hq0:=cell_regrown (Xaa hb2 hp0)
         refine wp_region_quiet_below (by kernel_rfl) (by kernel_rfl) ?_
         repeat (go_big_quiet_step ((fail)))
         refine wpQuiet_nil ?_
         intro w3 hwq
         have hb3:Below (w2).heap.size (w2) w3:=by
          obtain ⟨pq,rfl⟩:=hwq
          exact below_regrown _ _ _
         clear hwq
         go_wp2
         go_roundw
         case rel=>exact ⟨k+1,by omega,by go_num,Hnx.out,hb1'.trans ((hb2.trans (hb3.mono hb2.size)).mono hb1'.size)⟩
         case measure=>simp [intOf];omega
        ·have Hnx:=Qh (show chk l=14 by rw [Hst2.out,He1.out,he2];simp)
         go_wp2_with fail
         refine wp_region_quiet_below (by kernel_rfl) (by kernel_rfl) ?_
         repeat (go_big_quiet_step ((fail)))
         refine wpQuiet_nil ?_
         intro w2 hwq
         have hb2:Below (w1).heap.size (w1) w2:=by
          obtain ⟨pq,rfl⟩:=hwq
          exact below_regrown _ _ _
         clear hwq
         go_wp2_with fail
         have hg0:=cell_regrown (Xaa hb2 hc0)
         have hq0:=cell_regrown (Xaa hb2 hp0)
         refine wp_region_quiet_below (by kernel_rfl) (by kernel_rfl) ?_
         repeat (go_big_quiet_step ((fail)))
         refine wpQuiet_nil ?_
         intro w3 hwq
         have hb3:Below (w2).heap.size (w2) w3:=by
          obtain ⟨pq,rfl⟩:=hwq
          exact below_regrown _ _ _
         clear hwq
         go_wp2
         go_ret
         exact ⟨Xag Hnx.out.symm,hb1'.trans ((hb2.trans (hb3.mono hb2.size)).mono hb1'.size)⟩
       ·have Hnx:=Qh (show chk l=8 by rw [Hst2.out,if_pos (by rw [beq_iff_eq] at he1 ⊢;exact he1.symm)])
        go_wp2_with fail
        refine wp_region_quiet_below (by kernel_rfl) (by kernel_rfl) ?_
        repeat (go_big_quiet_step ((fail)))
        refine wpQuiet_nil ?_
        intro w2 hwq
        have hb2:Below (w1).heap.size (w1) w2:=by
         obtain ⟨pq,rfl⟩:=hwq
         exact below_regrown _ _ _
        clear hwq
        go_wp2
        go_ret
        exact ⟨Xag Hnx.out.symm,hb1'.trans (hb2.mono hb1'.size)⟩
     ·have hd2:decide (64<x.v.length)=true:=Qt (by omega)
      have He:=Qh (show chk l=6 by
       have:atErr x=6:=by rw [atErr,if_neg (by rw [Hko.out];simp),if_pos (by omega)]
       rw [Hst.out,this];simp)
      go_wp2
      go_ret
      exact ⟨Xag He.out.symm,hb1'⟩
   ·go_wp2
    go_ret
    refine ⟨Xag ?_,hb⟩
    rw [Hchk.out,←Hr.out,List.drop_of_length_le (by omega)];rfl
 ·have hd:decide (16<l.length)=true:=Qt (by omega)
  go_enter Tryz.func116,Tryz.ntmps116
  go_wp2
  go_ret
  exact ⟨Xag (by rw [chk,if_pos (by omega)]),Qb _ _⟩
set_option maxRecDepth 100000 in
set_option maxHeartbeats 400000 in
theorem Xkb (x:Ent) (hx:x.target.length≤9223372036854775807) (va vx:Value) (w:World):
 Calls Tryz.prog 117 #[entV x va vx] w fun e w'=>e= .returned (.bool (targetOk x))∧Below w.heap.size w w':=by
 by_cases h3:x.kind=3
 ·have f3:((x.kind:Int)==3)=true:=by simpa using h3
  by_cases h1:1≤x.target.length
  case neg=>
   have d1:decide (1≤x.target.length)=false:=Qf h1
   have Ht:=Qh (show targetOk x=false by rw [targetOk,if_pos h3,d1];rfl)
   clear h3
   go_enter Tryz.func117,Tryz.ntmps117
   go_wp2
   go_ret
   exact ⟨Xa2 Ht.out.symm,(Qb _ _).alloc (Qn _) _⟩
  have d1:decide (1≤x.target.length)=true:=Qt h1
  have Ht:=Qh (show targetOk x=decide (x.target.length≤200) by rw [targetOk,if_pos h3,d1];rfl)
  clear h3
  go_enter Tryz.func117,Tryz.ntmps117
  go_wp2
  go_ret
  exact ⟨Xa2 (by rw [Ht.out,decide_eq_decide];omega),(Qb _ _).alloc (Qn _) _⟩
 have f3:((x.kind:Int)==3)=false:=by simpa using h3
 by_cases h5:x.kind=5
 ·have f5:((x.kind:Int)==5)=true:=by simpa using h5
  have Ht:=Qh (show targetOk x=(dateP x.target).2 by rw [targetOk,if_neg h3,if_pos h5,Xtn])
  clear h3 h5
  go_enter Tryz.func117,Tryz.ntmps117
  go_wp2_with fail
  refine (Xof x.target hx _).mono ?_
  rintro e w1 ⟨rfl,hb1⟩
  go_wp2
  go_ret
  exact ⟨Xa2 Ht.out.symm,((Qb _ _).alloc (Qn _) _).trans (hb1.mono (by simp))⟩
 have f5:((x.kind:Int)==5)=false:=by simpa using h5
 have Ht:=Qh (show targetOk x=x.target.isEmpty by rw [targetOk,if_neg h3,if_neg h5])
 clear h3 h5
 go_enter Tryz.func117,Tryz.ntmps117
 go_wp2
 go_ret
 exact ⟨Xa2 (by rw [Ht.out]),(Qb _ _).alloc (Qn _) _⟩
def greatE (x:Ent):Bool:=decide (300<x.path.length) || decide (300<x.target.length) || decide (100<x.digest.length) || decide (30<x.exts.length) || decide (greatA x.attrs=1)
def grE (x:Ent):Int:=if greatE x then 1 else 0
def sumW (l:List Xt):Int:=l.foldl (fun n x=>wrap64 (n+x.n)) 0
theorem Xj1 (l:List Xt) (x:Xt):sumW (l++ [x])=wrap64 (sumW l+x.n):=by simp [sumW,List.foldl_append]
def entErrR (e:Ent):Int:=
 if e.kind<1∨6<e.kind then 10
 else if pathErr e.path≠0 then pathErr e.path
 else if e.path= []∧e.kind<5 then 1
 else if chk e.attrs≠0 then chk e.attrs
 else if (e.attrs≠ []∧3<e.kind)∨targetOk e=false then 1
 else if e.size<0∨65536<e.size∨(e.kind≠1∧e.size≠0) then 2
 else if (e.kind=1∧e.digest.length≠32)∨(e.kind≠1∧e.digest≠ []) then 1
 else if xtsErr (e.kind==1) e.exts≠0 then xtsErr (e.kind==1) e.exts
 else if sumW e.exts≠e.size then 1 else 0
theorem Xgb:∀(l:List Xt),xtsErr true l=0→ ∀x∈l,xtBad x=false
 | [],_,_,h=>absurd h (by simp)
 |y::l,h,x,hx=>by
  rw [xtsErr,if_neg (by simp)] at h
  by_cases hb:xtBad y=true
  ·rw [if_pos hb] at h;omega
  ·rw [if_neg hb] at h
   rcases List.mem_cons.1 hx with rfl|hx
   ·simpa using hb
   ·exact Xgb l h x hx
theorem Xgd {x:Xt} (h:xtBad x=false):1≤x.n∧x.n≤65536:=by
 unfold xtBad at h
 simp only [Bool.or_eq_false_iff,decide_eq_false_iff_not] at h
 omega
theorem Xfa (l:List Xt) (x:Xt):xtSum (l++ [x])=xtSum l+x.n:=by simp [xtSum]
theorem Xm0:∀(n:Nat) (l:List Xt),l.length=n→(∀x∈l,xtBad x=false)→0≤xtSum l∧xtSum l≤65536*n:=by
 intro n
 induction n with
 |zero=>
  intro l h _
  have:l= []:=List.eq_nil_of_length_eq_zero h
  subst this
  exact ⟨Int.le_refl _,by decide⟩
 |succ n ih=>
  intro l h ha
  have hne:l≠ []:=by intro e;rw [e] at h;simp at h
  have e:l=l.dropLast++ [l.getLast hne]:=(List.dropLast_concat_getLast hne).symm
  have hl:l.dropLast.length=n:=by rw [List.length_dropLast,h];omega
  obtain ⟨i1,i2⟩:=ih _ hl fun x hx=>ha x (List.dropLast_subset _ hx)
  have hc:=Xgd (ha _ (List.getLast_mem hne))
  rw [e,Xfa]
  omega
theorem Xuj {l:List Xt} (hl:l.length≤1000000) (ha:∀x∈l,xtBad x=false):sumW l=xtSum l:=by
 have key:∀k,k≤l.length→sumW (l.take k)=xtSum (l.take k):=by
  intro k
  induction k with
  |zero=>intro _;rfl
  |succ k ih=>
   intro hk
   have e:l.take (k+1)=l.take k++ [l[k]]:=List.take_succ_eq_append_getElem (by omega)
   have hb:=Xm0 k (l.take k) (by rw [List.length_take];omega) fun x hx=>ha x (List.mem_of_mem_take hx)
   have hc:=Xgd (ha l[k] (List.getElem_mem _))
   rw [e,Xj1,Xfa,ih (by omega)]
   unfold wrap64
   omega
 have:=key l.length (Qn _)
 rwa [List.take_length] at this
theorem Xd3 {e:Ent} (h:e.exts.length≤1000000):entErrR e=entErr e:=by
 unfold entErrR entErr
 by_cases h8:xtsErr (e.kind==1) e.exts=0
 ·have:sumW e.exts=xtSum e.exts:=by
   cases hk:(e.kind==1)
   ·rw [hk] at h8
    cases hx:e.exts with
    |nil=>rfl
    |cons y l=>rw [hx] at h8;simp [xtsErr] at h8
   ·rw [hk] at h8
    exact Xuj h (Xgb _ h8)
  rw [this]
 ·simp only [h8,ne_eq,not_false_eq_true,if_true]
structure EntB (w:World) (n:Nat) (e:Ent) (va vx:Value):Prop where
 c0:w.cell? ⟨n,0,none⟩=some (.int .i64 e.kind)
 c1:w.cell? ⟨n,1,none⟩=some (S e.path)
 c2:w.cell? ⟨n,2,none⟩=some va
 c3:w.cell? ⟨n,3,none⟩=some (S e.target)
 c4:w.cell? ⟨n,4,none⟩=some (.int .i64 e.size)
 c5:w.cell? ⟨n,5,none⟩=some (S e.digest)
 c6:w.cell? ⟨n,6,none⟩=some vx
theorem EntB.thru {w w':World} {n:Nat} {e:Ent} {va vx:Value} (h:EntB w n e va vx) (hb:Below w.heap.size w w'):EntB w' n e va vx:=
 ⟨Xaa hb h.c0,Xaa hb h.c1,Xaa hb h.c2,Xaa hb h.c3,Xaa hb h.c4,Xaa hb h.c5,Xaa hb h.c6⟩
theorem EntB.past {w:World} {n:Nat} {e:Ent} {va vx:Value} (h:EntB w n e va vx) (x:Obj):EntB (w.alloc x) n e va vx:=
 ⟨Xab x h.c0,Xab x h.c1,Xab x h.c2,Xab x h.c3,Xab x h.c4,Xab x h.c5,Xab x h.c6⟩
theorem entB {W w':World} {e:Ent} {va vx:Value} {t:TypeId} {n:Nat} (hn:n=W.heap.size) (hb:Below (W.alloc (.cells #[.int .i64 e.kind,S e.path,va,S e.target,.int .i64 e.size,S e.digest,vx] t)).heap.size (W.alloc (.cells #[.int .i64 e.kind,S e.path,va,S e.target,.int .i64 e.size,S e.digest,vx] t)) w'):EntB w' n e va vx:=by
 subst hn
 exact EntB.thru ⟨by simp,by simp,by simp,by simp,by simp,by simp,by simp⟩ hb
end Go.Proofs.YtkipnpjagcfcpaaGreatDoor
