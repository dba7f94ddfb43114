/- Lemmas for the claim's theorem;conditions: as each says. -/
import Derived.Test.YtmdfjnhfhidmhaaGreatDoorQ07
import Derived.Lib.Repeat
set_option maxHeartbeats 0
set_option maxRecDepth 100000
set_option linter.all false
namespace Go.Proofs.YtmdfjnhfhidmhaaGreatDoor
open Go.RowKit Go.Lib
theorem WM(c:UInt8):∀n,repeatL [c] n=List.replicate n c
 |0=>rfl
 |n+1=>by rw[repeatL,WM c n,List.replicate_succ];rfl
theorem Xmc(l:af)(c:Int)(w:World)(h0:0≤c)(hc:c≤9223372036854775807)(hl:l.length*c.toNat≤140737488355328):
 Calls Tryz.prog 162 #[S l,.int .i64 c] w fun e w'=>e= .returned (S (repeatL l c.toNat))∧Below w.heap.size w w':=by
 obtain⟨c,rfl⟩:=Int.eq_ofNat_of_zero_le h0;have h:=Tryz.strings_Repeat ⟨l.toArray⟩ c w (by omega) (by rw[ByteArray.size_mk',List.size_toArray];simpa using hl);simpa using h
theorem Xir(l:List af):Lib.join l []=l.flatten:=by
 unfold Lib.join List.intercalate;induction l with
 |nil=>rfl
 |cons x l ih=>
  cases l with
  |nil=>rfl
  |cons y l=>rw[List.intersperse_cons_cons,List.flatten_cons,List.flatten_cons,ih,List.flatten_cons];rfl
theorem Xnz(b off cap:Nat)(l:List af)(w:World)(hc:∀(j:Nat) x,l[j]?=some x→w.cell? ⟨b,off+j,none⟩=some (S x))(dM:l.length≤cap)(hb:b<w.heap.size)(hn:l.length≤1000000)(hl:l.flatten.length≤140737488355328):
 Calls Tryz.prog 138 #[.slice (some ⟨b,off,none⟩) l.length cap,S []] w fun e w'=>e= .returned (S l.flatten)∧Below w.heap.size w w':=by
 have hx:(l.map fun s=>(⟨s.toArray⟩:ByteArray)).map (·.data.toList)=l:=by
  rw[List.map_map];conv=>rhs;rw[←List.map_id l]
  apply List.map_congr_left;intro b _;simp
 have yh:Lib.join ((l.map fun s=>(⟨s.toArray⟩:ByteArray)).map (·.data.toList)) (⟨[].toArray⟩:ByteArray).data.toList=l.flatten:=by rw[hx];exact Xir l
 have h:=Tryz.strings_Join b off cap (l.map fun s=>⟨s.toArray⟩) ⟨[].toArray⟩ w (fun j x hx=> ?_) hb (by rw[List.length_map];omega) (by rw[List.length_map];exact dM) (by rw[yh];exact hl)
 ·rw[yh,List.length_map]at h;exact h
 ·rw[List.getElem?_map]at hx;cases hlj:l[j]? with
  |none=>rw[hlj]at hx;simp at hx
  |some s=>
   rw[hlj]at hx;simp at hx;subst hx;exact hc j s hlj
def Nv(s:af):Int:=Lib.lastIndexByte ⟨s.toArray⟩ 47
theorem zk{T e:TypeId}{B b:Nat}{bs:List Value}{w w':World}(h:Lib.IsBuilder T e B b bs w)(hb:Below w.heap.size w w'):Lib.IsBuilder T e B b bs w':=by
 have key:∀p,Lib.BuilderAt T e B b p bs w→Lib.BuilderAt T e B b p bs w':=fun p h=>by
  have hlt:=h.lt;obtain⟨hB,v,hv,bM,aZ⟩:=h;refine⟨hB,v,(hb.block b hlt).trans hv,bM.kept (row:=none) ⟨hb.os,hb.tape,hb.output,hb.size,fun k hk _=>hb.block k hk⟩ ?_,aZ⟩;cases v.ownBlock<;>simp
 rcases h with h|h
 ·exact .inl (key _ h)
 ·exact .inr (key _ h)
theorem GZ(I:IH)(hI:cB I)(s:af)(hs:s.length≤140737488355200)(w:World)(hw:Ok I w):
 Calls Tryz.prog 154 #[S s] w fun e w'=>e= .returned (S (dL s))∧Below w.heap.size w w':=by
 have IY:=JJ s.length (by omega);go_enter Tryz.func154,Tryz.ntmps154
 go_wp2_with fail
 refine(Qj I hI _ _ hw (by omega) (by omega)).mono ?_;rintro e w1 ⟨rfl,aG⟩;go_wp2;go_ret;exact⟨Na (by simp[dL]),aG⟩
theorem JL(I:IH)(hI:cB I)(n:Nat)(hn:n≤140737488355200)(w:World)(hw:Ok I w):
 Calls Tryz.prog 153 #[.int .i64 n] w fun e w'=>e= .returned (S (dZ n))∧Below w.heap.size w w':=by
 have IY:=JJ n (by omega);go_enter Tryz.func153,Tryz.ntmps153
 go_wp2_with fail
 refine(Qj I hI _ _ hw (by omega) (by omega)).mono ?_;rintro e w1 ⟨rfl,aG⟩;go_wp2;go_ret;exact⟨rfl,aG⟩
def pG(w:World)(b off:Nat)(l:List af):Prop:=∀(j:Nat) x,l[j]?=some x→w.cell? ⟨b,off+j,none⟩=some (S x)
theorem WN(W:World)(l:List af)(T:TypeId):pG (W.alloc (.cells (l.map fun s=>S s).toArray T)) W.heap.size 0 l:=fun j x hx=>by
 rw[cell_of_row _ W.heap.size _ _ _ _ (heap_alloc_new W _),Nat.zero_add,List.getElem?_toArray,List.getElem?_map,hx];rfl
theorem WO(I:IH)(hI:cB I)(b off cap n:Nat)(l:List af)(CK:l.length=n)(dM:l.length≤cap)(gV:cap≤maxLen)(w:World)(hv:pG w b off l)(hs:(fo l).length≤140737488355200)(hw:Ok I w):
 Calls Tryz.prog 242 #[.slice (some ⟨b,off,none⟩) n cap] w fun e w'=>e= .returned (S (fo l))∧Below w.heap.size w w':=by
 subst CK;have hlen:l.length≤9223372036854775807:=by unfold maxLen at gV;omega
 have Hv:=Qh hv;clear hv;have jg:Lib.IsBuilder 203 5 w.heap.size w.heap.size (Lib.byteCells (fo (l.take 0))) (w.alloc (.cells #[.pointer none,.slice none 0 0] 203)):=Lib.fresh_isBuilder _ _ w;have ma:=Qh jg;clear jg;go_enter Tryz.func242,Tryz.ntmps242
 go_wp2_with fail
 go_loopw [8] (fun s8 wr=> ∃k:Nat,k≤l.length∧s8= .int .i64 k∧Lib.IsBuilder 203 5 w.heap.size w.heap.size (Lib.byteCells (fo (l.take k))) wr∧Below w.heap.size w wr∧w.heap.size<wr.heap.size) (fun i _=>l.length-(intOf i).toNat)
 case atStart=>exact⟨0,Nat.zero_le _,rfl,ma.q,(Qb _ _).alloc (Qn _) _,by simp⟩
 case round=>
  obtain⟨k,hk,rfl,oh,hb,cu⟩:=hrel;have oU:=Qh oh;clear oh;have gZ:Ok I wr:=hw.below (Qn _) hb;by_cases hlt:k<l.length
  ·obtain⟨s,O9⟩:∃s,l[k]=s:=⟨_,rfl⟩;have hc:wr.cell? ⟨b,off+k,none⟩=some (S s):=bI hb (Hv.q k s (by rw[List.getElem?_eq_getElem hlt,O9]));have tC:=Qh (show fo (l.take (k+1))=fo (l.take k)++dL s by rw[List.take_succ_eq_append_getElem hlt,WI,O9];simp[fo]);have Qs:=Qh (show fo l=fo (l.take (k+1))++fo (l.drop (k+1)) by rw[←WI,List.take_append_drop]);have eU:(fo (l.take k)).length+(dL s).length≤140737488355200:=by
    rw[Qs.q,tC.q]at hs;simp at hs;omega
   have Gr:s.length≤140737488355200:=by
    have:s.length≤(dL s).length:=by simp[dL];omega
    omega
   clear O9;go_wp2_with fail
   refine(GZ I hI s Gr _ gZ).mono ?_;rintro e w1 ⟨rfl,aG⟩;have kH:=zk oU.q aG;have bW:=aG.size;go_wp2_with fail
   refine(Tryz.Builder_WriteString w.heap.size w.heap.size _ _ _ kH (by rw[ByteArray.size_mk',List.size_toArray];simp[Lib.byteCells];omega) (by omega)).mono ?_;rintro e w2 ⟨rfl,jK,aP⟩;have fw:=jK.lt;have zl:Hid (Lib.IsBuilder 203 5 w.heap.size w.heap.size (Lib.byteCells (fo (l.take (k+1)))) w2):=Qh (.inr (by
    have:=jK;rw[Lib.strCells_toArray,Lib.byteCells,Lib.byteCells,←List.map_append,←tC.q]at this;exact this))
   clear kH jK;go_wp2;go_roundw;case rel=>exact⟨k+1,by omega,by go_num,zl.q,(hb.trans (aG.mono (Nat.le_of_lt cu))).trans aP,by omega⟩
   case measure=>simp[intOf];omega
  ·have oP:l.take k=l:=List.take_of_length_le (by omega);rw[oP]at oU;clear oP;go_wp2_with fail
   refine(Tryz.Builder_String_any w.heap.size w.heap.size _ _ oU.q (Nat.le_of_lt cu)).mono ?_;rintro e w1 ⟨rfl,aG⟩;go_wp2;go_ret;exact⟨rfl,hb.trans aG⟩
def xI:af:=[48,49,50,51,52,53,54,55,56,57]
theorem Xh5(u:Nat)(h:u<10):(xI.drop u).take (u+1-u)=decDigits u:=by
 rw[decDigits_one h];match u,h with
 |0,_=>rfl
 |1,_=>rfl
 |2,_=>rfl
 |3,_=>rfl
 |4,_=>rfl
 |5,_=>rfl
 |6,_=>rfl
 |7,_=>rfl
 |8,_=>rfl
 |9,_=>rfl
theorem Xht{n:Nat}(h:¬n<10):decDigits n=decDigits (n / 10)++decDigits (n%10):=by
 rw[decDigits_one (i:=n%10) (by omega),decDigits.eq_def n,dif_neg h]
theorem Xie(u:Nat)(hu:u<18446744073709551616):∀w:World,Calls Tryz.prog 244 #[.int .u64 u] w fun e w'=>e= .returned (S (decDigits u))∧Below w.heap.size w w':=by
 induction u using Nat.strongRecOn with
 |ind u ih=>
  intro w;have yO:(decDigits u).length≤20:=by rw[decDigits_length];exact WJ _ _ (by omega) (by omega)
  by_cases h:u<10
  ·have Ht:=Qh (Xh5 u h);clear ih yO;go_enter Tryz.func244,Tryz.ntmps244
   go_wp2;go_ret;exact⟨Na (by have h:=Ht.q;rwa[show u+1-u=1 by omega]at h),Qb _ _⟩
  ·have Hd:=Qh (Xht h);have Pb:=ih (u / 10) (by omega) (by omega);have Em:=ih (u%10) (by omega) (by omega);have Ee:(decDigits (u / 10)).length+(decDigits (u%10)).length≤20:=by rw[Hd.q,List.length_append]at yO;exact yO
   have JM:=Qh Pb;have JN:=Qh Em;rw[show((u / 10:Nat):Int)=(u:Int) / 10 by omega]at JM;rw[show((u%10:Nat):Int)=(u:Int)%10 by omega]at JN;clear ih Pb Em yO;go_enter Tryz.func244,Tryz.ntmps244
   go_wp2_with fail
   refine(JM.q _).mono ?_;rintro e w1 ⟨rfl,aG⟩;go_wp2_with fail
   refine(JN.q _).mono ?_;rintro e w2 ⟨rfl,aP⟩;go_wp2;go_ret;exact⟨Na Hd.q.symm,aG.trans (aP.mono aG.size)⟩
theorem Xnj(n:Nat)(hn:n≤9223372036854775807)(w:World):Calls Tryz.prog 203 #[.int .i64 n] w fun e w'=>e= .returned (S (itoa n))∧Below w.heap.size w w':=by
 have Hi:=Qh (show itoa (n:Int)=decDigits n by simp[itoa]);have hw:IntKind.u64.wrap (n:Int)=n:=IntWalk.u64_in _ (by omega);go_enter Tryz.func203,Tryz.ntmps203
 go_wp2_with fail
 refine(Xie n (by omega) _).mono ?_;rintro e w1 ⟨rfl,aG⟩;go_wp2;go_ret;exact⟨Na Hi.q.symm,aG⟩
theorem Xif(n:Nat)(hn:n≤140737488355200)(w:World):
 Calls Tryz.prog 157 #[.int .i64 n] w fun e w'=>e= .returned (S (dZ n))∧Below w.heap.size w w':=by
 have IY:=JJ n (by omega);go_enter Tryz.func157,Tryz.ntmps157
 go_wp2_with fail
 refine(Xnj n (by omega) _).mono ?_;rintro e w1 ⟨rfl,aG⟩;go_wp2;go_ret;exact⟨rfl,aG⟩
