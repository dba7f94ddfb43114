/-
  Walks and laws that the claim's theorem uses: texts PaD EnA DgP BmA, joined; comments out. Conditions: as each theorem says.
-/
import Derived.Test.YtmdfjnhfhidmhaaGreatDoorK00
import Derived.Lib.ItoaNum
import Derived.BigRegion
import Derived.Test.YtmdfjnhfhidmhaaGreatDoorProg
import Derived.OpenShut
import Derived.DataShut
set_option linter.all false
namespace Go.Proofs.YtmdfjnhfhidmhaaGreatDoor
open Go.RowKit
theorem Xkf (l d:List Bytes):d.isPrefixOf l=decide (l.take d.length=d):=by
 rw [Bool.eq_iff_iff,List.isPrefixOf_iff_prefix,decide_eq_true_iff,List.prefix_iff_eq_take]
 exact ⟨fun h=>h.symm,fun h=>h.symm⟩
theorem Xin {l d:List Bytes} (h:l.length<d.length):d.isPrefixOf l=false:=by
 cases hp:d.isPrefixOf l with
 |false=>rfl
 |true=>have:=(List.isPrefixOf_iff_prefix.1 hp).length_le;omega
def nameP (k:Int):Bytes:=if k=1 then [102,105,108,101] else if k=2 then [100,105,114] else if k=3 then [108,105,110,107] else if k=4 then [114,101,109,111,118,101] else if k=5 then [104,111,108,100] else if k=6 then [114,101,108,101,97,115,101] else []
def digC (c:UInt8):Bool:=decide (48≤c)&&decide (c≤57)
theorem Xlv (c:UInt8):digC c=(decide (48≤c.toNat)&&decide (c.toNat≤57)):=by
 unfold digC
 simp [UInt8.le_iff_toNat_le]
def dateP (s:Bytes):Int × Bool:=if s.length<1∨10<s.length∨(1<s.length∧s.head? =some 48)∨s.all digC=false then (0,false) else (digits s,decide (digits s≤1000000000))
end Go.Proofs.YtmdfjnhfhidmhaaGreatDoor
namespace Go.Proofs.YtmdfjnhfhidmhaaGreatDoor
theorem Xfw:∀(B p:Bytes),(∀c∈B,c≠47)→elsGo p B= [p++B]
 | [],p,_=>by rw [elsGo,List.append_nil]
 |c::B,p,h=>by
  have hc:(c==47)=false:=by simpa using h c (List.mem_cons_self ..)
  rw [elsGo,hc]
  simp only [Bool.false_eq_true,if_false]
  rw [Xfw B (p++ [c]) fun d hd=>h d (List.mem_cons_of_mem _ hd)]
  simp
def netP (s:Bytes):Bytes:=Lib.itoa s.length++ [58]++s++ [44]
def netsP:List Bytes→Bytes
 | []=> []
 |s::l=>netP s++netsP l
def numP (n:Int):Bytes:=Lib.itoa n++ [32]
theorem Xeh (l m:List Bytes):netsP (l++m)=netsP l++netsP m:=by
 induction l with
 |nil=>rfl
 |cons s l ih=>rw [List.cons_append,netsP,netsP,ih,List.append_assoc]
theorem Xgv (n w:Nat) (hn:n<10 ^ w) (hw:1≤w):Lib.nDigits n≤w:=by
 induction w generalizing n with
 |zero=>omega
 |succ w ih=>
  by_cases h:n<10
  ·rw [Lib.nDigits_small h];omega
  ·rw [Lib.nDigits_big h]
   rw [Nat.pow_succ] at hn
   rcases Nat.eq_zero_or_pos w with h0|h0
   ·subst h0;simp at hn;omega
   ·have:=ih (n / 10) (by omega) h0;omega
theorem Xdt (n:Nat) (h:n≤140737488355328):(Lib.itoa (n:Int)).length≤16:=by
 have:Lib.itoa (n:Int)=Lib.decDigits n:=by simp [Lib.itoa]
 rw [this,Lib.decDigits_length]
 exact Xgv n 16 (by omega) (by omega)
theorem Xa0 (s:Bytes) (h:s.length≤100000000):(netP s).length≤s.length+18:=by
 have:=Xdt s.length (by omega)
 simp [netP];omega
theorem Xbu (n:Nat) (h:n≤140737488355328):(numP n).length≤17:=by
 have:=Xdt n h
 simp [numP];omega
structure DgOk (x:Ent):Prop where
 kind:x.kind=1∨x.kind=2∨x.kind=3
 natt:x.attrs.length≤16
 att:∀a∈x.attrs,a.k.length≤32∧a.v.length≤64
 target:x.target.length≤200
 s0:0≤x.size
 s1:x.size≤65536
 digest:x.digest.length≤32
 path:x.path.length≤200
 deep:(els x.path).length≤8
theorem Xf2:∀ {l:List At} {p:Option At},chkFrom p l=0→ ∀a∈l,a.k.length≤32∧a.v.length≤64
 | [],_,_,a,ha=>by cases ha
 |x::l,p,h,a,ha=>by
  unfold chkFrom at h
  by_cases h1:atErr x≠0
  ·rw [if_pos h1] at h;exact absurd h h1
  rw [if_neg h1] at h
  split at h
  ·omega
  split at h
  ·omega
  rcases List.mem_cons.1 ha with rfl|ha
  ·have h2:atErr a=0:=by omega
   unfold atErr at h2
   split at h2
   ·omega
   rename_i hk
   split at h2
   ·omega
   simp [keyOk] at hk
   omega
  ·exact Xf2 h a ha
theorem Xt0 {l:List At} (h:chk l=0):l.length≤16∧ ∀a∈l,a.k.length≤32∧a.v.length≤64:=by
 unfold chk at h
 split at h
 ·omega
 ·exact ⟨by omega,Xf2 h⟩
def rootE:Ent:=⟨2,[],[],[],0,[],[]⟩
def Deep (n:Nat) (x:Ent):Prop:=10≤(els x.path).length+n
section
variable (H:Bytes→Bytes) (hH:∀s,(H s).length≤32)
abbrev merkP (n:Nat) (t:List Ent) (x:Ent):Bytes:=merkF H netP numP nameP n t x
abbrev frontN (x:Ent):Bytes:=frontP netP numP nameP x
theorem Xff (k:Int):(nameP k).length≤7:=by
 unfold nameP
 repeat' split
 all_goals simp
def attP (l:List At):Bytes:=numP l.length++l.flatMap fun a=>netP a.k++netP a.v
theorem Xh5:∀(l:List At),(∀a∈l,a.k.length≤32∧a.v.length≤64)→(l.flatMap fun a=>netP a.k++netP a.v).length≤132*l.length
 | [],_=>by simp
 |a::l,h=>by
  have h1:=h a (List.mem_cons_self ..)
  have h2:=Xh5 l fun b hb=>h b (List.mem_cons_of_mem _ hb)
  have h3:=Xa0 a.k (by omega)
  have h4:=Xa0 a.v (by omega)
  simp only [List.flatMap_cons,List.length_append,List.length_cons]
  omega
theorem Xrt {l:List At} (hn:l.length≤16) (h:∀a∈l,a.k.length≤32∧a.v.length≤64):(attP l).length≤2200:=by
 have h1:=Xh5 l h
 have h2:=Xbu l.length (by omega)
 unfold attP
 rw [List.length_append]
 omega
def dirText (n:Nat) (t:List Ent) (x:Ent) (l:List Ent):Bytes:=frontN x++numP (listT t x.path).length++l.flatMap fun y=>netP (lastP y.path)++netP (merkP H n t y)
end
end Go.Proofs.YtmdfjnhfhidmhaaGreatDoor
namespace Go.Proofs.YtmdfjnhfhidmhaaGreatDoor
open Go.RowKit
def rotr (d m x:Int):Int:=bits .or .u32 (x / d) (x*m%4294967296)
theorem Xb8 (k:IntKind) (x y:Int):bits .or k x y=bits .or k y x:=by
 simp only [bits,BitVec.or_comm]
def RotAt (k d m:Int):Prop:=(k=16∧d=65536∧m=65536)∨(k=12∧d=4096∧m=1048576)∨(k=8∧d=256∧m=16777216)∨(k=7∧d=128∧m=33554432)
set_option maxRecDepth 100000 in
theorem Xd1 (x:Int) (k d m:Int) (hk:RotAt k d m) (w:World):
 Calls Tryz.prog 245 #[.int .u32 x,.int .i64 (-k)] w fun e w'=>e= .returned (.int .u32 (rotr d m x))∧w'=w:=by
 rcases hk with ⟨rfl,rfl,rfl⟩|⟨rfl,rfl,rfl⟩|⟨rfl,rfl,rfl⟩|⟨rfl,rfl,rfl⟩
 ·have e1:IntKind.u64.wrap (-16)=18446744073709551600:=by decide
  have e2:bits .and .u64 18446744073709551600 31=16:=by decide
  go_enter Tryz.func245,Tryz.ntmps245
  go_wp2
  go_ret
  exact ⟨Xaj (Xb8 _ _ _),rfl⟩
 ·have e1:IntKind.u64.wrap (-12)=18446744073709551604:=by decide
  have e2:bits .and .u64 18446744073709551604 31=20:=by decide
  go_enter Tryz.func245,Tryz.ntmps245
  go_wp2
  go_ret
  exact ⟨Xaj (Xb8 _ _ _),rfl⟩
 ·have e1:IntKind.u64.wrap (-8)=18446744073709551608:=by decide
  have e2:bits .and .u64 18446744073709551608 31=24:=by decide
  go_enter Tryz.func245,Tryz.ntmps245
  go_wp2
  go_ret
  exact ⟨Xaj (Xb8 _ _ _),rfl⟩
 ·have e1:IntKind.u64.wrap (-7)=18446744073709551609:=by decide
  have e2:bits .and .u64 18446744073709551609 31=25:=by decide
  go_enter Tryz.func245,Tryz.ntmps245
  go_wp2
  go_ret
  exact ⟨Xaj (Xb8 _ _ _),rfl⟩
def row (l:List Int):Array Value:=(l.map fun x=>Value.int .u32 x).toArray
@[simp] theorem row_size (l:List Int):(row l).size=l.length:=by simp [row]
theorem Xbr {l:List Int} {i:Nat} (h:i<l.length):(row l)[i]? =some (.int .u32 (l.getD i 0)):=by
 simp [row,List.getD,List.getElem?_eq_getElem h]
theorem Xsq (l:List Int) (i:Nat) (v:Int):(row l).setIfInBounds i (.int .u32 v)=row (l.set i v):=by
 simp [row,List.map_set]
theorem heap_setCell {w:World} {b i:Nat} {l:List Int} {t:TypeId} {f:Nat × Nat} (v:Int) (h:w.heap[b]? =some (.cells (row l) t f)):(w.setCell ⟨b,i,none⟩ (.int .u32 v)).heap[b]? =some (.cells (row (l.set i v)) t f):=by
 unfold World.setCell
 rw [Array.getElem?_modify,if_pos rfl,h]
 simp [Xsq]
theorem Xbv (w:World) (a:Addr) (u:Value):w.grownBy (w.setCell a u) (some a.block):=
 ⟨rfl,rfl,rfl,by simp [World.setCell],fun k _ hne=>Below.heap_setCell _ _ _ _ (fun e=>hne (by rw [e]))⟩
theorem Xkn {B:Nat} {w w':World} {r:Option Nat} (h:Below B w w') (hB:w.heap.size≤B):w.grownBy w' r:=
 ⟨h.os,h.tape,h.output,h.size,fun k hk _=>h.block k (by omega)⟩
theorem Xcm {w w1 w2:World} {r:Option Nat} (h:w.grownBy w1 r) (k:w1.grownBy w2 r):w.grownBy w2 r:=
 ⟨k.os.trans h.os,k.tape.trans h.tape,k.output.trans h.output,Nat.le_trans h.size k.size,fun j hj hne=>(k.block j (Nat.lt_of_lt_of_le hj h.size) hne).trans (h.block j hj hne)⟩
theorem Xm0 {w w':World} {r:Option Nat} (h:w.grownBy w' r):w.grownBy w'.drew r:=⟨h.os,h.tape,h.output,h.size,h.block⟩
def mixW (a b c d x y:Int):Int × Int × Int × Int:=
 let a1:=(a+(b+x))%4294967296
 let d1:=rotr 65536 65536 (bits .xor .u32 d a1)
 let c1:=(c+d1)%4294967296
 let b1:=rotr 4096 1048576 (bits .xor .u32 b c1)
 let a2:=(a1+(b1+y))%4294967296
 let d2:=rotr 256 16777216 (bits .xor .u32 d1 a2)
 let c2:=(c1+d2)%4294967296
 (a2,rotr 128 33554432 (bits .xor .u32 b1 c2),c2,d2)
def mixP (l:List Int) (a b c d:Nat) (x y:Int):List Int:=
 let r:=mixW (l.getD a 0) (l.getD b 0) (l.getD c 0) (l.getD d 0) x y
 (((l.set a r.1).set b r.2.1).set c r.2.2.1).set d r.2.2.2
theorem Xkh (l:List Int) (a b c d:Nat) (x y:Int):(mixP l a b c d x y).length=l.length:=by simp [mixP]
end Go.Proofs.YtmdfjnhfhidmhaaGreatDoor
