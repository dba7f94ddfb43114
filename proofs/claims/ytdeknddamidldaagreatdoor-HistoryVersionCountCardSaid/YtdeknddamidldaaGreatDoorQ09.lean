/-
  Walks and laws that the claim's theorem uses: texts Dat AtBx ShT AtK AtL PeA ShU LiA, joined; comments out. Conditions: as each theorem says.
-/
import Derived.Lib.AtoiAll
import Derived.Shelf.Strings.SlTrimAscii
import Derived.Test.YtdeknddamidldaaGreatDoorProg
import Derived.Test.YtdeknddamidldaaGreatDoorQ08
import Derived.Lib.SmallJoins
import Derived.Lib.AppendIntMem
import Derived.Shelf.Strings.Builder1
import Derived.Shelf.Strings.Builder2
import Derived.Shelf.Strings.Repeat
import Derived.Shelf.Strings.LastIndex
import Derived.Lib.Repeat
namespace Go.Proofs.YtdeknddamidldaaGreatDoor
def digN (acc:Nat) (l:Bytes):Nat:=l.foldl (fun n c=>10*n+(c.toNat-48)) acc
theorem Xl9 (acc:Nat) (l:Bytes) (c:UInt8):digN acc (l++ [c])=10*digN acc l+(c.toNat-48):=by simp [digN,List.foldl_append]
theorem Xet {c:UInt8} (h:digC c=true):48≤c.toNat∧c.toNat≤57:=by
 rw [Xgp,Bool.and_eq_true,decide_eq_true_iff,decide_eq_true_iff] at h
 exact h
theorem Xh5:∀(l:Bytes),l.all digC=true→ ∀(a:Nat),l.foldl (fun (n:Int) c=>10*n+((c.toNat:Int)-48)) (a:Int)=(digN a l:Nat)
 | [],_,_=>rfl
 |c::l,h,a=>by
  rw [List.all_cons,Bool.and_eq_true] at h
  have hc:=Xet h.1
  have:=Xh5 l h.2 (10*a+(c.toNat-48))
  rw [List.foldl_cons,show (10*(a:Int)+((c.toNat:Int)-48))=((10*a+(c.toNat-48):Nat):Int) by omega,this]
  rfl
theorem Xfy {l:Bytes} (h:l.all digC=true):digits l=(digN 0 l:Nat):=Xh5 l h 0
theorem Xob:∀(l:Bytes) (acc:Nat),l.all digC=true→(acc+1)*10 ^ l.length≤100000000000→Lib.parseUint10 acc l= .ok (digN acc l)
 | [],_,_,_=>rfl
 |c::l,acc,h,hb=>by
  rw [List.all_cons,Bool.and_eq_true] at h
  have hc:=Xet h.1
  rw [List.length_cons,Nat.pow_succ] at hb
  have h10:1≤10 ^ l.length:=Nat.pos_of_ne_zero (by simp)
  have hacc:(acc+1)*10≤100000000000:=by
   have:(acc+1)*10*1≤(acc+1)*10*10 ^ l.length:=Nat.mul_le_mul_left _ h10
   rw [Nat.mul_comm (10 ^ l.length) 10,←Nat.mul_assoc] at hb
   omega
  have hn:(acc*10+(c.toNat-48)+1)*10 ^ l.length≤100000000000:=by
   refine Nat.le_trans (Nat.mul_le_mul_right _ (show acc*10+(c.toNat-48)+1≤(acc+1)*10 by omega)) ?_
   rw [Nat.mul_assoc,Nat.mul_comm 10 (10 ^ l.length)]
   exact hb
  rw [Lib.parseUint10,if_pos hc,if_neg (by omega),if_neg (by omega),Xob l _ h.2 hn]
  show Lib.NumEnd.ok (digN _ l)=Lib.NumEnd.ok (digN (10*acc+(c.toNat-48)) l)
  rw [Nat.mul_comm acc 10]
theorem Xoo {c:UInt8} {l:Bytes} (h:(c::l).all digC=true) (hc:c≠48):10 ^ l.length≤digN 0 (c::l):=by
 have key:∀(n:Nat) (l:Bytes),l.length=n→ ∀a,a*10 ^ n≤digN a l:=by
  intro n
  induction n with
  |zero=>intro l h a;rw [List.eq_nil_of_length_eq_zero h];simp [digN]
  |succ n ih=>
   intro l h a
   cases l with
   |nil=>simp at h
   |cons c l=>
    have:=ih l (by simpa using h) (10*a+(c.toNat-48))
    refine Nat.le_trans ?_ this
    rw [Nat.pow_succ,Nat.mul_comm (10 ^ n) 10,←Nat.mul_assoc]
    exact Nat.mul_le_mul_right _ (by omega)
 rw [List.all_cons,Bool.and_eq_true] at h
 have hb:=Xet h.1
 have hne:c.toNat≠48:=fun e=>hc (by
  have:c=UInt8.ofNat c.toNat:=by simp
  rw [this,e];rfl)
 have:=key l.length l rfl (10*0+(c.toNat-48))
 refine Nat.le_trans ?_ this
 have h1:1≤10*0+(c.toNat-48):=by omega
 simpa using Nat.mul_le_mul_right (10 ^ l.length) h1
def NoZ (s:Bytes):Prop:=s.length=1∨s.head? ≠some 48
theorem Xtz:∀(n:Nat) (s:Bytes),s.length=n→s≠ []→s.all digC=true→NoZ s→Lib.decDigits (digN 0 s)=s:=by
 intro n
 induction n with
 |zero=>intro s h h0;exact absurd (List.eq_nil_of_length_eq_zero h) h0
 |succ n ih=>
  intro s h h0 ha hz
  have e:s=s.dropLast++ [s.getLast h0]:=(List.dropLast_concat_getLast h0).symm
  have hl:s.dropLast.length=n:=by rw [List.length_dropLast,h];omega
  have ha2:=ha
  rw [e,List.all_append,Bool.and_eq_true] at ha2
  have hc:digC (s.getLast h0)=true:=by simpa using ha2.2
  have hb:=Xet hc
  have hoc:UInt8.ofNat (48+((s.getLast h0).toNat-48))=s.getLast h0:=by
   rw [show 48+((s.getLast h0).toNat-48)=(s.getLast h0).toNat by omega];simp
  by_cases hn:n=0
  ·have ht:s.dropLast= []:=List.eq_nil_of_length_eq_zero (by omega)
   rw [e,ht,List.nil_append]
   have:digN 0 [s.getLast h0]=(s.getLast h0).toNat-48:=by simp [digN]
   rw [this,Lib.decDigits,dif_pos (by omega),hoc]
  ·have ht0:s.dropLast≠ []:=by intro e2;rw [e2] at hl;simp at hl;omega
   have hh:s.head? ≠some 48:=by
    rcases hz with hz|hz
    ·omega
    ·exact hz
   have hhd:s.dropLast.head? =s.head? :=by
    cases hd:s.dropLast with
    |nil=>exact absurd hd ht0
    |cons a t=>rw [e,hd];rfl
   have i1:=ih s.dropLast hl ht0 ha2.1 (.inr (by rw [hhd];exact hh))
   have hge:1≤digN 0 s.dropLast:=by
    cases hd:s.dropLast with
    |nil=>exact absurd hd ht0
    |cons a t=>
     have ha3:(a::t).all digC=true:=by rw [←hd];exact ha2.1
     have:10 ^ t.length≤digN 0 (a::t):=Xoo ha3 (fun e3=>hh (by rw [←hhd,hd,e3];rfl))
     have h10:1≤10 ^ t.length:=Nat.pos_of_ne_zero (by simp)
     omega
   have hs:digN 0 s=10*digN 0 s.dropLast+((s.getLast h0).toNat-48):=by
    conv=>lhs;rw [e]
    exact Xl9 _ _ _
   rw [hs,Lib.decDigits,dif_neg (by omega),show (10*digN 0 s.dropLast+((s.getLast h0).toNat-48)) / 10=digN 0 s.dropLast by omega,show (10*digN 0 s.dropLast+((s.getLast h0).toNat-48))%10=(s.getLast h0).toNat-48 by omega,i1,hoc]
   exact e.symm
theorem Xsb {n:Nat} (h:n<10):digC (UInt8.ofNat (48+n))=true:=by
 rw [Xgp]
 simp
 omega
theorem Xmc:∀(u:Nat),(Lib.decDigits u).all digC=true∧Lib.decDigits u≠ []∧digN 0 (Lib.decDigits u)=u∧(10≤u→(Lib.decDigits u).head? ≠some 48)∧(1≤u→(Lib.decDigits u).head? ≠some 48):=by
 intro u
 induction u using Nat.strongRecOn with
 |_ u ih=>
  by_cases h:u<10
  ·have e:Lib.decDigits u= [UInt8.ofNat (48+u)]:=by rw [Lib.decDigits,dif_pos h]
   have hd:=Xsb h
   have ht:(UInt8.ofNat (48+u)).toNat=48+u:=by simp;omega
   rw [e]
   refine ⟨by rw [List.all_cons,hd];rfl,by simp,by simp only [digN,List.foldl_cons,List.foldl_nil,ht];omega,fun h2=>by omega,fun h2 he=> ?_⟩
   simp only [List.head?_cons,Option.some.injEq] at he
   have:=congrArg UInt8.toNat he
   rw [ht] at this
   have h48:(48:UInt8).toNat=48:=rfl
   omega
  ·have e:Lib.decDigits u=Lib.decDigits (u / 10)++ [UInt8.ofNat (48+u%10)]:=by rw [Lib.decDigits,dif_neg h]
   obtain ⟨i1,i2,i3,i4,i5⟩:=ih (u / 10) (by omega)
   have hd:=Xsb (n:=u%10) (by omega)
   have ht:(UInt8.ofNat (48+u%10)).toNat=48+u%10:=by simp;omega
   have hhd:(Lib.decDigits u).head? ≠some 48:=by
    rw [e]
    cases hc:Lib.decDigits (u / 10) with
    |nil=>exact absurd hc i2
    |cons a t=>
     have:=i5 (by omega)
     rw [hc] at this
     exact this
   refine ⟨?_,?_,?_,fun _=>hhd,fun _=>hhd⟩
   ·rw [e,List.all_append,i1,List.all_cons,hd];rfl
   ·rw [e];simp
   ·rw [e,Xl9,i3,ht];omega
theorem Xop (s:Bytes):dateOk s=true↔ ∃n:Int,Lib.atoiAll s= .ok n∧0≤n∧n≤1000000000∧Lib.itoa n=s:=by
 have hd:(fun c:UInt8=>decide (48≤c)&&decide (c≤57))=digC:=rfl
 constructor
 ·intro h
  unfold dateOk at h
  rw [hd] at h
  simp only [Bool.and_eq_true,decide_eq_true_eq] at h
  obtain ⟨⟨⟨⟨h1,h2⟩,h3⟩,h4⟩,h5⟩:=h
  have h0:s≠ []:=by intro e;rw [e] at h1;simp at h1
  have hz:NoZ s:=by
   by_cases hl:s.length=1
   ·exact .inl hl
   ·right
    intro e
    rw [e,Qt (show 1<s.length by omega)] at h3
    simp at h3
  rw [Xfy h4] at h5
  refine ⟨(digN 0 s:Nat),?_,by omega,h5,?_⟩
  ·cases hs:s with
   |nil=>exact absurd hs h0
   |cons c r=>
    have ha:(c::r).all digC=true:=by rw [←hs];exact h4
    have hc:digC c=true:=by rw [List.all_cons,Bool.and_eq_true] at ha;exact ha.1
    have hb:=Xet hc
    have hlen:(c::r).length≤10:=by rw [←hs];exact h2
    have hp:=Xob (c::r) 0 ha (by
     have:10 ^ (c::r).length≤10 ^ 10:=Nat.pow_le_pow_right (by decide) hlen
     omega)
    rw [Lib.atoiAll]
    rw [if_neg (by omega),Lib.parseMag,if_neg (by simp),hp]
    rw [hs] at h5
    simp only
    rw [if_neg (by omega),if_neg (by omega),if_neg (by omega)]
  ·rw [Lib.itoa,if_neg (by omega),Int.toNat_natCast]
   exact Xtz _ s rfl h0 h4 hz
 ·rintro ⟨n,_,h0,h1,h2⟩
  obtain ⟨u,rfl⟩:=Int.eq_ofNat_of_zero_le h0
  rw [Lib.itoa,if_neg (by omega),Int.toNat_natCast] at h2
  obtain ⟨f1,f2,f3,f4,f5⟩:=Xmc u
  rw [h2] at f1 f2 f3 f4 f5
  have hdg:digits s=u:=by rw [Xfy f1,f3]
  unfold dateOk
  rw [hd,f1,hdg,Qt h1]
  have hl1:1≤s.length:=List.length_pos_iff.2 f2
  have hz:(decide (1<s.length)&&s.head? ==some 48)=false:=by
   cases hb:(decide (1<s.length)&&s.head? ==some 48) with
   |false=>rfl
   |true=>
    rw [Bool.and_eq_true,decide_eq_true_iff,beq_iff_eq] at hb
    by_cases hu:1≤u
    ·exact absurd hb.2 (f5 hu)
    ·have:u=0:=by omega
     subst this
     have:s= [48]:=by rw [←h2,Lib.decDigits,dif_pos (by decide)];rfl
     rw [this] at hb
     simp at hb
  have hl10:s.length≤10:=by
   cases hs:s with
   |nil=>simp
   |cons c r=>
    by_cases hu:1≤u
    ·have hc:c≠48:=fun e=>f5 hu (by rw [hs,e];rfl)
     have:=Xoo (c:=c) (l:=r) (by rw [←hs];exact f1) hc
     rw [←hs,f3] at this
     have hlt:¬10≤r.length:=by
      intro h10
      have:10 ^ 10≤10 ^ r.length:=Nat.pow_le_pow_right (by decide) h10
      omega
     simp only [List.length_cons];omega
    ·have:u=0:=by omega
     subst this
     have:s= [48]:=by rw [←h2,Lib.decDigits,dif_pos (by decide)];rfl
     rw [hs] at this
     rw [this];simp
  rw [hz,Qt hl1,Qt hl10]
  rfl
end Go.Proofs.YtdeknddamidldaaGreatDoor
namespace Go.Proofs.YtdeknddamidldaaGreatDoor
open Go.RowKit
theorem Xve {W w1:World} {n:Nat} {x:At} {T:TypeId} (hn:n=W.heap.size) (hb:Below (W.alloc (.cells #[S x.k,S x.v] T)).heap.size (W.alloc (.cells #[S x.k,S x.v] T)) w1):
 w1.cell? ⟨n,0,none⟩=some (S x.k)∧w1.cell? ⟨n,1,none⟩=some (S x.v):=by
 subst hn
 refine ⟨?_,?_⟩<;>(rw [hb.cell (by simp)];simp)
end Go.Proofs.YtdeknddamidldaaGreatDoor
namespace Go.Proofs
open Go.Shelf
def Tryz.lays160_ren:Go.Shelf.Ren:=⟨fun|160=>149|232=>183|231=>182|227=>184|234=>186|233=>185|236=>188|235=>187|228=>206|271=>209|151=>208|197=>207|120=>227|152=>226|260=>225|137=>240|119=>241|224=>242|225=>243|217=>246|266=>250|n=>n,fun|9=>9|4=>4|3=>3|5=>5|117=>208|116=>207|0=>0|124=>211|21=>21|105=>223|46=>136|119=>253|139=>256|138=>255|n=>n,fun|3=>4|4=>5|n=>n⟩
theorem Tryz.lays160:Go.Proofs.Lays.n160 Tryz.prog Tryz.lays160_ren:= {
 mixed:=by kernel_rfl
 f119:=Tryz.func241.trans (congrArg some (by kernel_rfl))
 f120:=Tryz.func227.trans (congrArg some (by kernel_rfl))
 f137:=Tryz.func240.trans (congrArg some (by kernel_rfl))
 f151:=Tryz.func208.trans (congrArg some (by kernel_rfl))
 f152:=Tryz.func226.trans (congrArg some (by kernel_rfl))
 f160:=Tryz.func149.trans (congrArg some (by kernel_rfl))
 f197:=Tryz.func207.trans (congrArg some (by kernel_rfl))
 f217:=Tryz.func246.trans (congrArg some (by kernel_rfl))
 f224:=Tryz.func242.trans (congrArg some (by kernel_rfl))
 f225:=Tryz.func243.trans (congrArg some (by kernel_rfl))
 f227:=Tryz.func184.trans (congrArg some (by kernel_rfl))
 f228:=Tryz.func206.trans (congrArg some (by kernel_rfl))
 f231:=Tryz.func182.trans (congrArg some (by kernel_rfl))
 f232:=Tryz.func183.trans (congrArg some (by kernel_rfl))
 f233:=Tryz.func185.trans (congrArg some (by kernel_rfl))
 f234:=Tryz.func186.trans (congrArg some (by kernel_rfl))
 f235:=Tryz.func187.trans (congrArg some (by kernel_rfl))
 f236:=Tryz.func188.trans (congrArg some (by kernel_rfl))
 f260:=Tryz.func225.trans (congrArg some (by kernel_rfl))
 f266:=Tryz.func250.trans (congrArg some (by kernel_rfl))
 f271:=Tryz.func209.trans (congrArg some (by kernel_rfl))
 t0:=Tryz.underlying0
 a0:=Tryz.isAgg0
 z0:=Tryz.sizeOf0
 v0:=Tryz.zeroValue0
 t3:=Tryz.underlying3
 a3:=Tryz.isAgg3
 z3:=Tryz.sizeOf3
 v3:=Tryz.zeroValue3
 t4:=Tryz.underlying4
 a4:=Tryz.isAgg4
 z4:=Tryz.sizeOf4
 v4:=Tryz.zeroValue4
 t5:=Tryz.underlying5
 a5:=Tryz.isAgg5
 z5:=Tryz.sizeOf5
 v5:=Tryz.zeroValue5
 t9:=Tryz.underlying9
 a9:=Tryz.isAgg9
 z9:=Tryz.sizeOf9
 v9:=Tryz.zeroValue9
 t21:=Tryz.underlying21
 a21:=Tryz.isAgg21
 z21:=Tryz.sizeOf21
 v21:=Tryz.zeroValue21
 t46:=Tryz.underlying136
 a46:=Tryz.isAgg136
 z46:=Tryz.sizeOf136
 v46:=Tryz.zeroValue136
 t105:=Tryz.underlying223
 a105:=Tryz.isAgg223
 z105:=Tryz.sizeOf223
 v105:=Tryz.zeroValue223
 t116:=Tryz.underlying207
 a116:=Tryz.isAgg207
 z116:=Tryz.sizeOf207
 t117:=Tryz.underlying208
 a117:=Tryz.isAgg208
 z117:=Tryz.sizeOf208
 v117:=Tryz.zeroValue208
 t119:=Tryz.underlying253
 a119:=Tryz.isAgg253
 z119:=Tryz.sizeOf253
 t124:=Tryz.underlying211
 a124:=Tryz.isAgg211
 z124:=Tryz.sizeOf211
 v124:=Tryz.zeroValue211
 t138:=Tryz.underlying255
 a138:=Tryz.isAgg255
 z138:=Tryz.sizeOf255
 v138:=Tryz.zeroValue255
 t139:=Tryz.underlying256
 a139:=Tryz.isAgg256
 z139:=Tryz.sizeOf256
 v139:=Tryz.zeroValue256
 g3:=by kernel_rfl
 g4:=by kernel_rfl }
open Go.RowKit in
theorem Tryz.strings_Trim (s cutset:ByteArray) (w:World) (hs:s.size≤9223372036854775807) (hcs:cutset.size<4294967281) (hascii:∀(j:Nat) b,cutset.data.toList[j]? =some b→b.toNat<128):
 Calls Tryz.prog 149 #[.string s,.string cutset] w fun e w'=>e= .returned (.string ⟨(Lib.trimS s.data.toList cutset.data.toList).toArray⟩)∧RowKit.Below w.heap.size w w':=Any.strings_Trim_laid Tryz.lays160 (by kernel_rfl) s cutset w hs hcs hascii
end Go.Proofs
namespace Go.Proofs.YtdeknddamidldaaGreatDoor
open Go.RowKit
abbrev cutset0:Bytes:= [97,98,99,100,101,102,103,104,105,106,107,108,109,110,111,112,113,114,115,116,117,118,119,120,121,122,48,49,50,51,52,53,54,55,56,57,46,95,45]
set_option maxRecDepth 100000 in
theorem Xmd (c:UInt8):cutset0.contains c=keyChar c:=by
 have h:∀n:Fin 256,cutset0.contains (UInt8.ofNat n.1)=keyChar (UInt8.ofNat n.1):=by decide
 have:=h ⟨c.toNat,c.toNat_lt⟩
 simpa using this
theorem Xkl (s cs:Bytes):Lib.trimS s cs= []↔s.all (cs.contains ·)=true:=by
 have hd:∀l:Bytes,l.dropWhile (cs.contains ·)= []↔l.all (cs.contains ·)=true:=by
  intro l
  induction l with
  |nil=>simp
  |cons x l ih=>
   rw [List.dropWhile_cons,List.all_cons]
   cases h:cs.contains x
   ·simp
   ·simp only [if_true,Bool.true_and];exact ih
 have hdd:∀l:Bytes,(l.dropWhile (cs.contains ·)).all (cs.contains ·)=l.all (cs.contains ·):=by
  intro l
  induction l with
  |nil=>rfl
  |cons x l ih=>
   rw [List.dropWhile_cons]
   cases h:cs.contains x
   ·rfl
   ·simp only [if_true];rw [ih,List.all_cons,h,Bool.true_and]
 unfold Lib.trimS Lib.trimLeftS Lib.trimRightS
 rw [hd,List.all_reverse,hdd,List.all_reverse]
set_option maxRecDepth 100000 in
theorem Xtl (s:Bytes) (hs:s.length≤9223372036854775807) (w:World):
 Calls Tryz.prog 149 #[S s,S cutset0] w fun e w'=>e= .returned (S (Lib.trimS s cutset0))∧Below w.heap.size w w':=by
 have h:=Tryz.strings_Trim ⟨s.toArray⟩ ⟨cutset0.toArray⟩ w (by rw [ByteArray.size_mk',List.size_toArray];exact hs) (by decide) (ascii_of_all (by decide))
 exact h
def keyErr (s:Bytes):Int:=if keyOk s then 0 else 7
set_option maxRecDepth 100000 in
set_option maxHeartbeats 400000 in
theorem Xsh (s:Bytes) (hs:s.length≤9223372036854775807) (w:World):
 Calls Tryz.prog 203 #[S s] w fun e w'=>e= .returned (.int .i64 (keyErr s))∧Below w.heap.size w w':=by
 by_cases h1:s= []
 ·have hE:keyErr s=7:=by rw [h1];rfl
  have HE:=Qh hE
  have f1:(s== [])=true:=by rw [h1];rfl
  have f2:s.isEmpty=true:=by rw [h1];rfl
  have f3:(!s.isEmpty)=false:=by rw [h1];rfl
  clear hE h1
  go_enter Tryz.func203,Tryz.ntmps203
  go_wp2
  go_ret
  exact ⟨Xac HE.out.symm,Qb _ _⟩
 ·have hlen:1≤s.length:=by cases s<;>simp_all
  have f1:(s== [])=false:=by simpa using h1
  have f2:s.isEmpty=false:=by cases s<;>simp_all
  have f3:(!s.isEmpty)=true:=by rw [f2];rfl
  clear h1
  by_cases h32:s.length≤32
  ·have hd1:decide (32<s.length)=false:=Qf (by omega)
   have hk:keyOk s=s.all (cutset0.contains ·):=by
    have:(fun c=>cutset0.contains c)=keyChar:=funext Xmd
    rw [this];simp [keyOk,h32,hlen]
   have ht:=Xkl s cutset0
   have Htr:=Qh (Xtl s hs)
   generalize hT:Lib.trimS s cutset0=T at ht Htr
   by_cases hTn:T= []
   ·have HE:=Qh (show keyErr s=0 by rw [keyErr,hk,if_pos (ht.1 hTn)])
    have g1:(T== [])=true:=by rw [hTn];rfl
    have g2:T.isEmpty=true:=by rw [hTn];rfl
    have g3:(!T.isEmpty)=false:=by rw [hTn];rfl
    clear hTn ht hk hT
    go_enter Tryz.func203,Tryz.ntmps203
    go_wp2_with fail
    refine (Htr.out _).mono ?_
    rintro e w1 ⟨rfl,hb1⟩
    go_wp2
    go_ret
    exact ⟨Xac HE.out.symm,hb1⟩
   ·have HE:=Qh (show keyErr s=7 by rw [keyErr,hk,if_neg (fun h=>hTn (ht.2 h))])
    have g1:(T== [])=false:=by simpa using hTn
    have g2:T.isEmpty=false:=by cases T<;>simp_all
    have g3:(!T.isEmpty)=true:=by rw [g2];rfl
    clear hTn ht hk hT
    go_enter Tryz.func203,Tryz.ntmps203
    go_wp2_with fail
    refine (Htr.out _).mono ?_
    rintro e w1 ⟨rfl,hb1⟩
    go_wp2
    go_ret
    exact ⟨Xac HE.out.symm,hb1⟩
  ·have hd1:decide (32<s.length)=true:=Qt (by omega)
   have HE:=Qh (show keyErr s=7 by rw [keyErr,if_neg (by simp [keyOk,h32])])
   go_enter Tryz.func203,Tryz.ntmps203
   go_wp2
   go_ret
   exact ⟨Xac HE.out.symm,Qb _ _⟩
set_option maxRecDepth 100000 in
set_option maxHeartbeats 400000 in
theorem Xvd (x:At) (hx:x.Wf) (w:World):
 Calls Tryz.prog 177 #[x.val] w fun e w'=>e= .returned (.int .i64 (atErr x))∧Below w.heap.size w w':=by
 obtain ⟨hx1,hx2⟩:=hx
 cases hk:keyOk x.k
 ·have HE:=Qh (show keyErr x.k=7 by rw [keyErr,hk];rfl)
  have HA:=Qh (show atErr x=7 by rw [atErr,if_pos hk])
  clear hk
  go_enter Tryz.func177,Tryz.ntmps177
  go_wp2_with fail
  refine (Xsh x.k hx1 _).mono ?_
  rintro e w1 ⟨rfl,hb1⟩
  rw [HE.out]
  go_wp2
  go_ret
  exact ⟨Xac HA.out.symm,((Qb _ _).alloc (Qn _) _).trans (hb1.mono (by simp))⟩
 ·have HE:=Qh (show keyErr x.k=0 by rw [keyErr,hk];rfl)
  have Hk:=Qh hk
  clear hk
  by_cases h64:x.v.length≤64
  ·have hd:decide (64<x.v.length)=false:=Qf (by omega)
   have HA:=Qh (show atErr x=0 by rw [atErr,if_neg (by rw [Hk.out];simp),if_neg (by omega)])
   go_enter Tryz.func177,Tryz.ntmps177
   go_wp2_with fail
   refine (Xsh x.k hx1 _).mono ?_
   rintro e w1 ⟨rfl,hb1⟩
   rw [HE.out]
   obtain ⟨hc0,hc1⟩:=Xve rfl hb1
   go_wp2
   go_ret
   exact ⟨Xac HA.out.symm,((Qb _ _).alloc (Qn _) _).trans (hb1.mono (by simp))⟩
  ·have hd:decide (64<x.v.length)=true:=Qt (by omega)
   have HA:=Qh (show atErr x=6 by rw [atErr,if_neg (by rw [Hk.out];simp),if_pos (by omega)])
   go_enter Tryz.func177,Tryz.ntmps177
   go_wp2_with fail
   refine (Xsh x.k hx1 _).mono ?_
   rintro e w1 ⟨rfl,hb1⟩
   rw [HE.out]
   obtain ⟨hc0,hc1⟩:=Xve rfl hb1
   go_wp2
   go_ret
   exact ⟨Xac HA.out.symm,((Qb _ _).alloc (Qn _) _).trans (hb1.mono (by simp))⟩
theorem Xmf:∀(a b:Bytes),Lib.compareBytes a b=if Op.bytesLess a b then -1 else if a==b then 0 else 1
 | [],[]=>rfl
 | [],_::_=>rfl
 |_::_,[]=>rfl
 |x::a,y::b=>by
  rw [Lib.compareBytes,Xmf a b,Op.bytesLess]
  by_cases h1:x<y
  ·simp [h1]
  ·by_cases h2:y<x
   ·have:¬x=y:=fun e=>by subst e;exact UInt8.lt_irrefl _ h2
    simp [h1,h2,this]
   ·have e:x=y:=UInt8.le_antisymm (UInt8.not_lt.1 h2) (UInt8.not_lt.1 h1)
    subst e
    simp
set_option maxRecDepth 100000 in
theorem Xng (a b:Bytes) (w:World):Calls Tryz.prog 178 #[S a,S b] w fun e w'=>e= .returned (.int .i64 (Lib.compareBytes a b))∧Below w.heap.size w w':=
 (Tryz.strings_Compare ⟨a.toArray⟩ ⟨b.toArray⟩ w).mono fun _ _ ⟨h1,h2⟩=>⟨h1,by rw [h2];exact Qb _ _⟩
set_option maxRecDepth 100000 in
set_option maxHeartbeats 1000000 in
theorem Xt7 (I:IH) (v:Value) (l:List At) (hv:RdS tAt I v l) (hl:∀x∈l,x.Wf) (w:World) (hw:Ok I w):
 Calls Tryz.prog 140 #[v] w fun e w'=>e= .returned (.int .i64 (chk l))∧Below w.heap.size w w':=by
 have hlen:=hv.len_le
 obtain ⟨ao,cap,rfl,hcap,hcm,_⟩:=id hv
 have Hv:=Qh hv;clear hv
 have Hl:=Qh hl;clear hl
 by_cases h16:l.length≤16
 ·have hd:decide (16<l.length)=false:=Qf (by omega)
  have Hchk:=Qh (show chk l=chkFrom none l by rw [chk,if_neg (by omega)])
  go_enter Tryz.func140,Tryz.ntmps140
  go_wp2_with fail
  go_loopw [11] (fun s11 wr=> ∃k:Nat,k≤l.length∧s11= .int .i64 k∧chkFrom (if k=0 then none else l[k-1]?) (l.drop k)=chkFrom none l∧Below w.heap.size w wr) (fun i _=>l.length-(intOf i).toNat)
  case atStart=>exact ⟨0,Nat.zero_le _,rfl,rfl,Qb _ _⟩
  case round=>
   obtain ⟨k,hk,rfl,hr,hb⟩:=hrel
   have Hr:=Qh hr;clear hr
   by_cases hlt:k<l.length
   ·have hwr:Ok I wr:=hw.below (Qn _) hb
    obtain ⟨x,b,off,cap',hlx,hvv,hc0,hc1⟩:=atAt Hv.out hwr k hlt
    cases hvv
    have hxm:x∈l:=by rw [←hlx];exact List.getElem_mem hlt
    have Hxw:=Qh (Hl.out x hxm)
    have Hst:=Qh (show chk l=if atErr x≠0 then atErr x else if ((if k=0 then none else l[k-1]?).any fun q=>q.k==x.k) then 8 else if ((if k=0 then none else l[k-1]?).any fun q=>Op.bytesLess x.k q.k) then 14 else chkFrom (some x) (l.drop (k+1)) by
     rw [Hchk.out,←Hr.out,List.drop_eq_getElem_cons hlt,hlx,Xgd])
    have Hkx:=Qh (show l[k]? =some x by rw [List.getElem?_eq_getElem hlt,hlx])
    clear hlx hxm
    go_wp2_with fail
    refine (Xvd x Hxw.out _).mono ?_
    rintro e w1 ⟨rfl,hb1⟩
    obtain ⟨hx0,hx1⟩:=Xve rfl hb1
    have hb1':=(hb.alloc hb.size _).trans (hb1.mono (by have:=hb.size;simp;omega))
    have hw1:Ok I w1:=hw.below (Qn _) hb1'
    clear hb1 hc0 hc1
    by_cases h0:atErr x=0
    ·have H0:=Qh h0
     rw [h0]
     clear h0
     by_cases hk0:k=0
     ·have hd3:((k:Int)==0)=true:=by rw [hk0];rfl
      have Hnx:=Qh (show chkFrom (if k+1=0 then none else l[k+1-1]?) (l.drop (k+1))=chkFrom none l by
       rw [←Hchk.out,Hst.out,H0.out,if_neg (by omega),Nat.add_sub_cancel,Hkx.out];simp [hk0])
      clear hk0
      go_wp2
      go_roundw
      case rel=>exact ⟨k+1,by omega,by go_num,Hnx.out,hb1'⟩
      case measure=>simp [intOf];omega
     ·obtain ⟨q,b',off',cap'',hlq,hvv,hp0,hp1⟩:=atAt Hv.out hw1 (k-1) (by omega)
      cases hvv
      have Hst2:=Qh (show chk l=if (q.k==x.k) then 8 else if Op.bytesLess x.k q.k then 14 else chkFrom (some x) (l.drop (k+1)) by
       rw [Hst.out,H0.out,if_neg (by omega),if_neg hk0,List.getElem?_eq_getElem (by omega),hlq];rfl)
      have hd3:((k:Int)==0)=false:=by rw [beq_eq_false_iff_ne];omega
      have hi:IntKind.i64.wrap ((k:Int)-1)=(k:Int)-1:=IntWalk.i64_in _ (by omega)
      have hj:0≤(k:Int)-1:=by omega
      have hm:((k:Int)-1).toNat=k-1:=by omega
      have hg0:=cell_regrown hx0
      have hq0:=cell_regrown hp0
      have hcmp:=Xmf q.k x.k
      have Hcmp:=Qh (fun W=>Xng q.k x.k W)
      generalize Lib.compareBytes q.k x.k=r at hcmp Hcmp
      clear hlq
      rcases Xd7 q.k x.k with ht|ht|ht
      ·have hr1:r= -1:=by rw [hcmp,ht];rfl
       have Hnx:=Qh (show chkFrom (if k+1=0 then none else l[k+1-1]?) (l.drop (k+1))=chkFrom none l by
        have hbe:(q.k==x.k)=false:=by simpa using Xp3 ht
        rw [←Hchk.out,Hst2.out,Xd8 ht,hbe,Nat.add_sub_cancel,Hkx.out];simp)
       subst hr1
       clear ht hcmp
       go_wp2_with fail
       refine wp_region_quiet_below (by kernel_rfl) (by kernel_rfl) ?_
       repeat (go_big_quiet_step ((with_reducible exact Calls.regrown_of (Hcmp.out _))))
       refine wpQuiet_nil ?_
       intro w2 hwq
       have hb2:Below (w1).heap.size (w1) w2:=by
        obtain ⟨pq,rfl⟩:=hwq
        exact below_regrown _ _ _
       clear hwq
       go_wp2
       go_roundw
       case rel=>exact ⟨k+1,by omega,by go_num,Hnx.out,hb1'.trans (hb2.mono hb1'.size)⟩
       case measure=>simp [intOf];omega
      ·have hbe:(q.k==x.k)=true:=by rw [ht];exact beq_self_eq_true _
       have hbl:Op.bytesLess q.k x.k=false:=by rw [ht];exact Xbf _
       have hr1:r=0:=by rw [hcmp,hbl,hbe];rfl
       have Hnx:=Qh (show chk l=8 by rw [Hst2.out,if_pos hbe])
       subst hr1
       clear ht hcmp hbe hbl
       go_wp2_with fail
       refine wp_region_quiet_below (by kernel_rfl) (by kernel_rfl) ?_
       repeat (go_big_quiet_step ((with_reducible exact Calls.regrown_of (Hcmp.out _))))
       refine wpQuiet_nil ?_
       intro w2 hwq
       have hb2:Below (w1).heap.size (w1) w2:=by
        obtain ⟨pq,rfl⟩:=hwq
        exact below_regrown _ _ _
       clear hwq
       go_wp2
       go_ret
       exact ⟨Xac Hnx.out.symm,hb1'.trans (hb2.mono hb1'.size)⟩
      ·have hne:(q.k==x.k)=false:=by simpa using (Xp3 ht).symm
       have hr1:r=1:=by rw [hcmp,Xd8 ht,hne];rfl
       have Hnx:=Qh (show chk l=14 by rw [Hst2.out,if_neg (by rw [hne];simp),if_pos ht])
       subst hr1
       clear ht hcmp hne
       go_wp2_with fail
       refine wp_region_quiet_below (by kernel_rfl) (by kernel_rfl) ?_
       repeat (go_big_quiet_step ((with_reducible exact Calls.regrown_of (Hcmp.out _))))
       refine wpQuiet_nil ?_
       intro w2 hwq
       have hb2:Below (w1).heap.size (w1) w2:=by
        obtain ⟨pq,rfl⟩:=hwq
        exact below_regrown _ _ _
       clear hwq
       go_wp2
       go_ret
       exact ⟨Xac Hnx.out.symm,hb1'.trans (hb2.mono hb1'.size)⟩
    ·obtain ⟨q,hq⟩:∃q,atErr x=q:=⟨_,rfl⟩
     have hn0:(q != 0)=true:=by rw [←hq];simpa using h0
     have Hs:=Qh (show chk l=q by rw [Hst.out,if_pos h0,hq])
     rw [hq]
     clear hq h0
     go_wp2
     go_ret
     exact ⟨Xac Hs.out.symm,hb1'⟩
   ·go_wp2
    go_ret
    refine ⟨Xac ?_,hb⟩
    rw [Hchk.out,←Hr.out,List.drop_of_length_le (by omega)];rfl
 ·have hd:decide (16<l.length)=true:=Qt (by omega)
  go_enter Tryz.func140,Tryz.ntmps140
  go_wp2
  go_ret
  exact ⟨Xac (by rw [chk,if_pos (by omega)]),Qb _ _⟩
theorem Glob.tab {I : IH} {w : World} (h : Glob I) (hw : Ok I w) : Lib.TabIs Tryz.prog w "internal/strconv.uint64pow10" .u64 Lib.pow10Tab := by
 obtain ⟨e,f,hh⟩:=hw _ _ h.pow
 unfold Lib.TabIs World.var?
 have hg : Tryz.prog.globalNamed "internal/strconv.uint64pow10" = some 3 := by kernel_rfl
 simp [hg,hh]
theorem Glob.vsyn {I : IH} {w : World} (h : Glob I) (hw : Ok I w) : ∃ tp p, w.var? Tryz.prog "strconv.ErrSyntax" = some #[.iface tp p] := by
 obtain ⟨tp,p,h1⟩:=h.syn
 obtain ⟨e,f,hh⟩:=hw _ _ h1
 refine ⟨tp,p,?_⟩
 unfold World.var?
 have hg : Tryz.prog.globalNamed "strconv.ErrSyntax" = some 1 := by kernel_rfl
 simp [hg,hh]
theorem Glob.vrng {I : IH} {w : World} (h : Glob I) (hw : Ok I w) : ∃ tp p, w.var? Tryz.prog "strconv.ErrRange" = some #[.iface tp p] := by
 obtain ⟨tp,p,h1⟩:=h.rng
 obtain ⟨e,f,hh⟩:=hw _ _ h1
 refine ⟨tp,p,?_⟩
 unfold World.var?
 have hg : Tryz.prog.globalNamed "strconv.ErrRange" = some 2 := by kernel_rfl
 simp [hg,hh]
theorem Xjt (I:IH) (hI:Glob I) (n:Int) (w:World) (hw:Ok I w) (h0: -9223372036854775808≤n) (h1:n≤9223372036854775807):
 Calls Tryz.prog 130 #[.int .i64 n] w fun e w'=>e= .returned (S (Lib.itoa n))∧Below w.heap.size w w':=
 (Tryz.strconv_Itoa n h0 h1 w (hI.tab hw)).mono fun e w' ⟨he,k,os,hq⟩=>⟨he,by rw [hq];exact Lib.below_grow _ _ (Qn _) _ _⟩
def AtoiBad (w:World) (e:Ending) (w':World):Prop:= ∃n N,e= .returned (.tuple #[.int .i64 n,.iface 229 (.pointer (some ⟨N,0,none⟩))])∧Below w.heap.size w w'
theorem Xhq (s:Bytes) (hs:s.length≤4294967280) (n:Int) (h:Lib.atoiAll s= .ok n) (w:World):
 Calls Tryz.prog 150 #[S s] w fun e w'=>e= .returned (.tuple #[.int .i64 n,.nilIface])∧Below w.heap.size w w':=by
 have hsz:(⟨s.toArray⟩:ByteArray).size=s.length:=by simp [ByteArray.size]
 refine (Tryz.strconv_Atoi_ok ⟨s.toArray⟩ (by omega) n h w).mono fun e w' ⟨h1,h2⟩=>⟨h1,?_⟩
 rcases h2 with h2|⟨t,h2⟩
 ·rw [h2];exact Qb _ _
 ·rw [h2];exact Joins.below_bytesWorld _ _ _ _ (Qn _)
theorem Xlf (I:IH) (hI:Glob I) (s:Bytes) (hs:s.length≤4294967280) (h:∀n,Lib.atoiAll s≠ .ok n) (w:World) (hw:Ok I w):
 Calls Tryz.prog 150 #[S s] w (AtoiBad w):=by
 have hsz:(⟨s.toArray⟩:ByteArray).size=s.length:=by simp [ByteArray.size]
 by_cases hr:Lib.atoiAll s= .range
 ·obtain ⟨tp,p,hv⟩:=hI.vrng hw
  exact (Tryz.strconv_Atoi_range_var ⟨s.toArray⟩ (by omega) hr tp p w hv).mono fun e w' ⟨N,h1,_,_,h4⟩=>⟨_,N,h1,h4⟩
 ·obtain ⟨tp,p,hv⟩:=hI.vsyn hw
  exact (Tryz.strconv_Atoi_syntax_var ⟨s.toArray⟩ (by omega) h hr tp p w hv).mono fun e w' ⟨N,h1,_,_,h4⟩=>⟨0,N,h1,h4⟩
set_option maxRecDepth 100000 in
set_option maxHeartbeats 1000000 in
theorem Xr4 (I:IH) (hI:Glob I) (s:Bytes) (hs:s.length≤4294967280) (w:World) (hw:Ok I w):
 Calls Tryz.prog 179 #[S s] w fun e w'=>e= .returned (.bool (dateOk s))∧Below w.heap.size w w':=by
 have hdi:=Xop s
 by_cases hok:∃n,Lib.atoiAll s= .ok n
 case neg=>
  have Hn:=Qh (show dateOk s=false by
   cases h:dateOk s with
   |false=>rfl
   |true=>obtain ⟨n,h1,_⟩:=hdi.1 h;exact absurd ⟨n,h1⟩ hok)
  have Hat:=Qh (Xlf I hI s hs (fun n h=>hok ⟨n,h⟩) w hw)
  clear hdi hok
  go_enter Tryz.func179,Tryz.ntmps179
  go_wp2_with fail
  refine Hat.out.mono ?_
  rintro e w1 ⟨n,N,rfl,hb1⟩
  go_wp2
  go_ret
  exact ⟨Xah Hn.out.symm,hb1⟩
 obtain ⟨n,hn⟩:=hok
 have Hat:=Qh (Xhq s hs n hn w)
 have Hd:=Qh (show dateOk s=(decide (0≤n)&&decide (n≤1000000000)&&decide (Lib.itoa n=s)) by
  rw [Bool.eq_iff_iff,hdi]
  simp only [Bool.and_eq_true,decide_eq_true_eq]
  constructor
  ·rintro ⟨m,h1,h2,h3,h4⟩
   rw [hn] at h1
   injection h1 with h1
   subst h1
   exact ⟨⟨h2,h3⟩,h4⟩
  ·rintro ⟨⟨h2,h3⟩,h4⟩
   exact ⟨n,hn,h2,h3,h4⟩)
 clear hdi hn
 by_cases h0:0≤n
 case neg=>
  have Hn:=Qh (show dateOk s=false by rw [Hd.out,Qf h0];rfl)
  go_enter Tryz.func179,Tryz.ntmps179
  go_wp2_with fail
  refine Hat.out.mono ?_
  rintro e w1 ⟨rfl,hb1⟩
  go_wp2
  go_ret
  exact ⟨(by first|exact Xah Hn.out.symm|(rw [Hn.out];congr 1;simp;omega)),hb1⟩
 by_cases h1:n≤1000000000
 case neg=>
  have Hn:=Qh (show dateOk s=false by rw [Hd.out,Qf h1,Bool.and_false];rfl)
  go_enter Tryz.func179,Tryz.ntmps179
  go_wp2_with fail
  refine Hat.out.mono ?_
  rintro e w1 ⟨rfl,hb1⟩
  go_wp2
  go_ret
  exact ⟨(by first|exact Xah Hn.out.symm|(rw [Hn.out];congr 1;simp;omega)),hb1⟩
 have Hn:=Qh (show dateOk s=(Lib.itoa n==s) by
  rw [Hd.out,Qt h0,Qt h1]
  by_cases h:Lib.itoa n=s<;>simp [h])
 have Hit:=Qh (fun w hw=>Xjt I hI n w hw (by omega) (by omega))
 obtain ⟨t,ht⟩:∃t,Lib.itoa n=t:=⟨_,rfl⟩
 rw [ht] at Hit Hn
 clear ht
 go_enter Tryz.func179,Tryz.ntmps179
 go_wp2_with fail
 refine Hat.out.mono ?_
 rintro e w1 ⟨rfl,hb1⟩
 go_wp2_with fail
 refine (Hit.out _ (hw.below (Qn _) hb1)).mono ?_
 rintro e w2 ⟨rfl,hb2⟩
 go_wp2
 go_ret
 exact ⟨Xah Hn.out.symm,hb1.trans (hb2.mono hb1.size)⟩
set_option maxRecDepth 100000 in
set_option maxHeartbeats 400000 in
theorem Xr3 (I:IH) (hI:Glob I) (x:Ent) (hx:x.target.length≤4294967280) (va vx:Value) (w:World) (hw:Ok I w):
 Calls Tryz.prog 141 #[entV x va vx] w fun e w'=>e= .returned (.bool (targetOk x))∧Below w.heap.size w w':=by
 by_cases h3:x.kind=3
 ·have f3:((x.kind:Int)==3)=true:=by simpa using h3
  by_cases h1:x.target= []
  ·have Ht:=Qh (show targetOk x=false by rw [targetOk,if_pos h3,h1];rfl)
   obtain ⟨p1,p2,p3,p4⟩:=Xcy h1
   clear h3 h1
   go_enter Tryz.func141,Tryz.ntmps141
   go_wp2
   go_ret
   exact ⟨Xah Ht.out.symm,(Qb _ _).alloc (Qn _) _⟩
  have hl1:1≤x.target.length:=List.length_pos_iff.2 h1
  have Ht:=Qh (show targetOk x=decide (x.target.length≤200) by rw [targetOk,if_pos h3,Qt hl1];rfl)
  obtain ⟨p1,p2,p3,p4⟩:=Xcq h1
  clear h3 h1
  go_enter Tryz.func141,Tryz.ntmps141
  go_wp2
  go_ret
  exact ⟨Xah (by rw [Ht.out,decide_eq_decide];omega),(Qb _ _).alloc (Qn _) _⟩
 have f3:((x.kind:Int)==3)=false:=by simpa using h3
 by_cases h5:x.kind=5
 ·have f5:((x.kind:Int)==5)=true:=by simpa using h5
  have Ht:=Qh (show targetOk x=dateOk x.target by rw [targetOk,if_neg h3,if_pos h5])
  clear h3 h5
  go_enter Tryz.func141,Tryz.ntmps141
  go_wp2_with fail
  refine (Xr4 I hI x.target hx _ (hw.alloc _)).mono ?_
  rintro e w1 ⟨rfl,hb1⟩
  go_wp2
  go_ret
  exact ⟨Xah Ht.out.symm,((Qb _ _).alloc (Qn _) _).trans (hb1.mono (by simp))⟩
 have f5:((x.kind:Int)==5)=false:=by simpa using h5
 have Ht:=Qh (show targetOk x=x.target.isEmpty by rw [targetOk,if_neg h3,if_neg h5])
 clear h3 h5
 go_enter Tryz.func141,Tryz.ntmps141
 go_wp2
 go_ret
 exact ⟨Xah (by rw [Ht.out]),(Qb _ _).alloc (Qn _) _⟩
end Go.Proofs.YtdeknddamidldaaGreatDoor
namespace Go.Proofs
open Go.Shelf
def Tryz.lays169_ren:Go.Shelf.Ren:=⟨fun|169=>78|n=>n,fun|70=>116|9=>9|0=>0|72=>119|37=>117|127=>171|3=>3|5=>5|n=>n,fun|n=>n⟩
theorem Tryz.lays169:Go.Proofs.Lays.n169 Tryz.prog Tryz.lays169_ren:= {
 mixed:=by kernel_rfl
 f169:=Tryz.func78.trans (congrArg some (by kernel_rfl))
 t0:=Tryz.underlying0
 a0:=Tryz.isAgg0
 z0:=Tryz.sizeOf0
 v0:=Tryz.zeroValue0
 t3:=Tryz.underlying3
 a3:=Tryz.isAgg3
 z3:=Tryz.sizeOf3
 v3:=Tryz.zeroValue3
 t9:=Tryz.underlying9
 a9:=Tryz.isAgg9
 z9:=Tryz.sizeOf9
 v9:=Tryz.zeroValue9
 t37:=Tryz.underlying117
 a37:=Tryz.isAgg117
 z37:=Tryz.sizeOf117
 v37:=Tryz.zeroValue117
 t70:=Tryz.underlying116
 a70:=Tryz.isAgg116
 z70:=Tryz.sizeOf116
 v70:=Tryz.zeroValue116
 t72:=Tryz.underlying119
 a72:=Tryz.isAgg119
 z72:=Tryz.sizeOf119
 v72:=Tryz.zeroValue119
 t127:=Tryz.underlying171
 a127:=Tryz.isAgg171
 z127:=Tryz.sizeOf171
 v127:=Tryz.zeroValue171 }
theorem Tryz.Builder_Extra_169:Builder.Extra Tryz.prog Tryz.lays169_ren:= {
 sizeBuilder:=by kernel_rfl
 liesBuilder:=by kernel_rfl
 t5:=Tryz.underlying5
 a5:=Tryz.isAgg5
 z5:=Tryz.sizeOf5
 v5:=Tryz.zeroValue5
 infoByte:=by kernel_rfl
 cellsByte:=by kernel_rfl
 sizeByte:=by kernel_rfl
 neB5:=by decide }
open Go.RowKit in
theorem Tryz.Builder_String_any (B b:Nat) (l:List UInt8) (w:World) (h:Lib.IsBuilder 119 5 B b (Lib.byteCells l) w) (hBw:B≤w.heap.size):
 Calls Tryz.prog 78 #[.pointer (some ⟨b,0,none⟩)] w fun e w'=>e= .returned (.string ⟨l.toArray⟩)∧Below B w w':=Any.Builder_String_any Tryz.lays169 Tryz.Builder_Extra_169 B b l w h hBw
def Tryz.lays105_ren:Go.Shelf.Ren:=⟨fun|105=>82|212=>136|99=>137|165=>132|166=>73|170=>77|169=>78|263=>174|264=>175|206=>176|240=>129|241=>172|276=>168|277=>202|n=>n,fun|9=>9|3=>3|4=>4|20=>20|0=>0|46=>136|109=>182|5=>5|72=>119|76=>122|51=>129|146=>200|53=>134|148=>202|70=>116|37=>117|75=>121|127=>171|164=>196|80=>127|n=>n,fun|n=>n⟩
theorem Tryz.lays105:Go.Proofs.Lays.n105 Tryz.prog Tryz.lays105_ren:= {
 mixed:=by kernel_rfl
 f99:=Tryz.func137.trans (congrArg some (by kernel_rfl))
 f105:=Tryz.func82.trans (congrArg some (by kernel_rfl))
 f165:=Tryz.func132.trans (congrArg some (by kernel_rfl))
 f166:=Tryz.func73.trans (congrArg some (by kernel_rfl))
 f169:=Tryz.func78.trans (congrArg some (by kernel_rfl))
 f170:=Tryz.func77.trans (congrArg some (by kernel_rfl))
 f206:=Tryz.func176.trans (congrArg some (by kernel_rfl))
 f212:=Tryz.func136.trans (congrArg some (by kernel_rfl))
 f240:=Tryz.func129.trans (congrArg some (by kernel_rfl))
 f241:=Tryz.func172.trans (congrArg some (by kernel_rfl))
 f263:=Tryz.func174.trans (congrArg some (by kernel_rfl))
 f264:=Tryz.func175.trans (congrArg some (by kernel_rfl))
 f276:=Tryz.func168.trans (congrArg some (by kernel_rfl))
 f277:=Tryz.func202.trans (congrArg some (by kernel_rfl))
 t0:=Tryz.underlying0
 a0:=Tryz.isAgg0
 z0:=Tryz.sizeOf0
 v0:=Tryz.zeroValue0
 t3:=Tryz.underlying3
 a3:=Tryz.isAgg3
 z3:=Tryz.sizeOf3
 v3:=Tryz.zeroValue3
 t4:=Tryz.underlying4
 a4:=Tryz.isAgg4
 z4:=Tryz.sizeOf4
 v4:=Tryz.zeroValue4
 t5:=Tryz.underlying5
 a5:=Tryz.isAgg5
 z5:=Tryz.sizeOf5
 v5:=Tryz.zeroValue5
 t9:=Tryz.underlying9
 a9:=Tryz.isAgg9
 z9:=Tryz.sizeOf9
 v9:=Tryz.zeroValue9
 t20:=Tryz.underlying20
 a20:=Tryz.isAgg20
 z20:=Tryz.sizeOf20
 v20:=Tryz.zeroValue20
 t37:=Tryz.underlying117
 a37:=Tryz.isAgg117
 z37:=Tryz.sizeOf117
 v37:=Tryz.zeroValue117
 t46:=Tryz.underlying136
 a46:=Tryz.isAgg136
 z46:=Tryz.sizeOf136
 v46:=Tryz.zeroValue136
 t51:=Tryz.underlying129
 a51:=Tryz.isAgg129
 z51:=Tryz.sizeOf129
 v51:=Tryz.zeroValue129
 t53:=Tryz.underlying134
 a53:=Tryz.isAgg134
 z53:=Tryz.sizeOf134
 v53:=Tryz.zeroValue134
 t70:=Tryz.underlying116
 a70:=Tryz.isAgg116
 z70:=Tryz.sizeOf116
 v70:=Tryz.zeroValue116
 t72:=Tryz.underlying119
 a72:=Tryz.isAgg119
 z72:=Tryz.sizeOf119
 v72:=Tryz.zeroValue119
 t75:=Tryz.underlying121
 a75:=Tryz.isAgg121
 z75:=Tryz.sizeOf121
 v75:=Tryz.zeroValue121
 t76:=Tryz.underlying122
 a76:=Tryz.isAgg122
 z76:=Tryz.sizeOf122
 v76:=Tryz.zeroValue122
 t109:=Tryz.underlying182
 a109:=Tryz.isAgg182
 z109:=Tryz.sizeOf182
 v109:=Tryz.zeroValue182
 t127:=Tryz.underlying171
 a127:=Tryz.isAgg171
 z127:=Tryz.sizeOf171
 v127:=Tryz.zeroValue171
 t146:=Tryz.underlying200
 a146:=Tryz.isAgg200
 z146:=Tryz.sizeOf200
 v146:=Tryz.zeroValue200
 t148:=Tryz.underlying202
 a148:=Tryz.isAgg202
 z148:=Tryz.sizeOf202
 v148:=Tryz.zeroValue202
 t164:=Tryz.underlying196
 a164:=Tryz.isAgg196
 z164:=Tryz.sizeOf196
 v164:=Tryz.zeroValue196 }
theorem Tryz.Builder_Extra_105:Builder.Extra Tryz.prog Tryz.lays105_ren:= {
 sizeBuilder:=by kernel_rfl
 liesBuilder:=by kernel_rfl
 t5:=Tryz.underlying5
 a5:=Tryz.isAgg5
 z5:=Tryz.sizeOf5
 v5:=Tryz.zeroValue5
 infoByte:=by kernel_rfl
 cellsByte:=by kernel_rfl
 sizeByte:=by kernel_rfl
 neB5:=by decide }
open Go.RowKit Go.Lib in
theorem Tryz.strings_Repeat (s:ByteArray) (c:Nat) (w:World) (hc:c≤9223372036854775807) (hlen:s.size*c≤140737488355328):
 Calls Tryz.prog 82 #[.string s,.int .i64 c] w fun e w'=>e= .returned (.string ⟨(Lib.repeatL s.data.toList c).toArray⟩)∧Below w.heap.size w w':=Any.strings_Repeat Tryz.lays105 Tryz.Builder_Extra_105 s c w hc hlen
def Tryz.lays166_ren:Go.Shelf.Ren:=⟨fun|166=>73|240=>129|276=>168|n=>n,fun|0=>0|3=>3|4=>4|5=>5|9=>9|20=>20|37=>117|70=>116|72=>119|75=>121|80=>127|164=>196|n=>n,fun|n=>n⟩
theorem Tryz.lays166:Go.Proofs.Lays.n166 Tryz.prog Tryz.lays166_ren:= {
 mixed:=by kernel_rfl
 f166:=Tryz.func73.trans (congrArg some (by kernel_rfl))
 f240:=Tryz.func129.trans (congrArg some (by kernel_rfl))
 f276:=Tryz.func168.trans (congrArg some (by kernel_rfl))
 t0:=Tryz.underlying0
 a0:=Tryz.isAgg0
 z0:=Tryz.sizeOf0
 v0:=Tryz.zeroValue0
 t3:=Tryz.underlying3
 a3:=Tryz.isAgg3
 z3:=Tryz.sizeOf3
 v3:=Tryz.zeroValue3
 t4:=Tryz.underlying4
 a4:=Tryz.isAgg4
 z4:=Tryz.sizeOf4
 v4:=Tryz.zeroValue4
 t9:=Tryz.underlying9
 a9:=Tryz.isAgg9
 z9:=Tryz.sizeOf9
 v9:=Tryz.zeroValue9
 t20:=Tryz.underlying20
 a20:=Tryz.isAgg20
 z20:=Tryz.sizeOf20
 v20:=Tryz.zeroValue20
 t37:=Tryz.underlying117
 a37:=Tryz.isAgg117
 z37:=Tryz.sizeOf117
 v37:=Tryz.zeroValue117
 t70:=Tryz.underlying116
 a70:=Tryz.isAgg116
 z70:=Tryz.sizeOf116
 v70:=Tryz.zeroValue116
 t72:=Tryz.underlying119
 a72:=Tryz.isAgg119
 z72:=Tryz.sizeOf119
 v72:=Tryz.zeroValue119
 t75:=Tryz.underlying121
 a75:=Tryz.isAgg121
 z75:=Tryz.sizeOf121
 v75:=Tryz.zeroValue121
 t164:=Tryz.underlying196
 a164:=Tryz.isAgg196
 z164:=Tryz.sizeOf196
 v164:=Tryz.zeroValue196 }
theorem Tryz.Builder_Extra_166:Builder.Extra Tryz.prog Tryz.lays166_ren:= {
 sizeBuilder:=by kernel_rfl
 liesBuilder:=by kernel_rfl
 t5:=Tryz.underlying5
 a5:=Tryz.isAgg5
 z5:=Tryz.sizeOf5
 v5:=Tryz.zeroValue5
 infoByte:=by kernel_rfl
 cellsByte:=by kernel_rfl
 sizeByte:=by kernel_rfl
 neB5:=by decide }
theorem Tryz.Builder_WriteString (B b:Nat) (bs:List Value) (s:ByteArray) (w:World) (h:Lib.IsBuilder 119 5 B b bs w) (hlen:bs.length+s.size≤140737488355328) (hBw:B≤w.heap.size):
 Calls Tryz.prog 73 #[.pointer (some ⟨b,0,none⟩),.string s] w fun e w'=>e= .returned (.tuple #[.int .i64 s.size,.nilIface])∧(Lib.BuilderAt 119 5 B b (.pointer (some ⟨b,0,none⟩)) (bs++Lib.strCells s) w'∧RowKit.Below B w w'):=Any.Builder_WriteString Tryz.lays166 Tryz.Builder_Extra_166 B b bs s w h hlen hBw
end Go.Proofs
namespace Go.Proofs.YtdeknddamidldaaGreatDoor
open Go.RowKit Go.Lib
theorem repeatL_one (c:UInt8):∀n,repeatL [c] n=List.replicate n c
 |0=>rfl
 |n+1=>by rw [repeatL,repeatL_one c n,List.replicate_succ];rfl
theorem Xpo (l:Bytes) (c:Int) (w:World) (h0:0≤c) (hc:c≤9223372036854775807) (hl:l.length*c.toNat≤140737488355328):
 Calls Tryz.prog 82 #[S l,.int .i64 c] w fun e w'=>e= .returned (S (repeatL l c.toNat))∧Below w.heap.size w w':=by
 obtain ⟨c,rfl⟩:=Int.eq_ofNat_of_zero_le h0
 have h:=Tryz.strings_Repeat ⟨l.toArray⟩ c w (by omega) (by rw [ByteArray.size_mk',List.size_toArray];simpa using hl)
 simpa using h
theorem Xlk (l:List Bytes):Lib.join l []=l.flatten:=by
 unfold Lib.join List.intercalate
 induction l with
 |nil=>rfl
 |cons x l ih=>
  cases l with
  |nil=>rfl
  |cons y l=>rw [List.intersperse_cons_cons,List.flatten_cons,List.flatten_cons,ih,List.flatten_cons];rfl
theorem Xrg (b off cap:Nat) (l:List Bytes) (w:World) (hc:∀(j:Nat) x,l[j]? =some x→w.cell? ⟨b,off+j,none⟩=some (S x)) (hcap:l.length≤cap) (hb:b<w.heap.size) (hn:l.length≤1000000) (hl:l.flatten.length≤140737488355328):
 Calls Tryz.prog 79 #[.slice (some ⟨b,off,none⟩) l.length cap,S []] w fun e w'=>e= .returned (S l.flatten)∧Below w.heap.size w w':=by
 have hx:(l.map fun s=>(⟨s.toArray⟩:ByteArray)).map (·.data.toList)=l:=by
  rw [List.map_map]
  conv=>rhs;rw [←List.map_id l]
  apply List.map_congr_left
  intro b _
  simp
 have hjl:Lib.join ((l.map fun s=>(⟨s.toArray⟩:ByteArray)).map (·.data.toList)) (⟨[].toArray⟩:ByteArray).data.toList=l.flatten:=by rw [hx];exact Xlk l
 have h:=Tryz.strings_Join b off cap (l.map fun s=>⟨s.toArray⟩) ⟨[].toArray⟩ w (fun j x hx=> ?_) hb (by rw [List.length_map];omega) (by rw [List.length_map];exact hcap) (by rw [hjl];exact hl)
 ·rw [hjl,List.length_map] at h
  exact h
 ·rw [List.getElem?_map] at hx
  cases hlj:l[j]? with
  |none=>rw [hlj] at hx;simp at hx
  |some s=>
   rw [hlj] at hx
   simp at hx
   subst hx
   exact hc j s hlj
def slashAt (s:Bytes):Int:=Lib.lastIndexByte ⟨s.toArray⟩ 47
end Go.Proofs.YtdeknddamidldaaGreatDoor
