/-
  Walks and laws that the claim's theorem uses: texts CtG CkF CtE RfE RfF SnI, joined; comments out. Conditions: as each theorem says.
-/
import Derived.Test.YtkipnpjagcfcpaaGreatDoorC08
import Derived.Lib.AppendStr
import Derived.Lib.AppendZeros
import Derived.Laws.BytesArg
import Derived.Tactics
set_option linter.all false
namespace Go.Proofs.YtkipnpjagcfcpaaGreatDoor
open Go.RowKit
def ints (s:Bytes):List Int:=s.map fun b=>(b.toNat:Int)
def byC (s:Bytes):List Value:=s.map fun b=> .int .u8 (b.toNat:Int)
theorem Xdy (s:Bytes):(ints s).length=s.length:=by simp [ints]
theorem Xng (s p:Bytes):ints (s++p)=ints s++ints p:=by simp [ints]
theorem Xvw (s:Bytes):Lib.strCells ⟨s.toArray⟩=byC s:=by simp [Lib.strCells,byC]
theorem Xtu (I:IH) (s:Bytes):LiesL tB I (byC s) (ints s):=by
 refine ⟨by simp [byC,ints,tB,Ty.flat],fun i hi=>⟨[.int .u8 (ints s)[i]],rfl,fun j u hu=> ?_⟩⟩
 have hj:j=0:=by have:=(List.getElem?_eq_some_iff.1 hu).1;simp at this;exact this
 subst hj
 have hi':i<s.length:=by rw [Xdy] at hi;exact hi
 simp at hu
 subst hu
 show (byC s)[i*1+0]? =_
 simp [byC,ints,hi']
theorem Xpu (s:Bytes):(⟨s.toArray⟩:ByteArray).size=s.length:=by show s.toArray.size=_;simp
theorem Xgt {I:IH} {W:World} {B:Nat} {v:Value} {s:Bytes} (p:Bytes) (h:OwnS tB 5 I W B v (ints s)) (hB:B≤W.heap.size) (hl:s.length+p.length≤1000000):
 ∃v' w',(∀ty,(Builtin.append_ #[69,9] ty #[v,S p]).run Tryz.prog W= .ok v' w')∧OwnS tB 5 I w' B v' (ints (s++p))∧W.grownBy w' v.ownBlock:=by
 obtain ⟨i,h1,h2,h3,h4⟩:=info_parts Xit
 obtain ⟨xs,k1,k2⟩:=h
 have e:(⟨p.toArray⟩:ByteArray).size=p.length:=Xpu p
 obtain ⟨v',w',hr,hown,hg,_⟩:=Lib.run_append_own_string (P:=Tryz.prog) W B 69 9 0 5 i Tryz.underlying69 Tryz.underlying9 h1 h2 h3 h4 v (ints s).length xs k1 ⟨p.toArray⟩ (by rw [e,Xdy];unfold maxLen;omega) (by rw [e,Xdy];omega) hB
 refine ⟨v',w',fun ty=>hr,⟨xs++byC p,?_,?_⟩,hg⟩
 ·rw [Xvw,e] at hown
  rw [Xng,List.length_append,Xdy p]
  exact hown
 ·rw [Xng]
  exact k2.append (Xtu I p)
theorem Xl0 (q:Nat):Builtin.zeroCells (Value.int .u8 0).cells q=((⟨(List.replicate q (0:UInt8)).toArray⟩:ByteArray).data.map fun b=>Value.int .u8 b.toNat):=by
 apply Array.ext
 ·rw [size_zeroCells]
  show q*1=_
  simp
 ·intro i h1 h2
  show ((Array.range (q*1)).map fun i=>(#[Value.int .u8 0]:Array Value)[i%1]!)[i]'h1=_
  simp [Nat.mod_one]
theorem Xlz (q:Nat) (w':World):(Builtin.firstCells 1 q (.string ⟨(List.replicate q (0:UInt8)).toArray⟩)).run Tryz.prog w'= .ok (Builtin.zeroCells (Value.int .u8 0).cells q) w':=by
 have hf:=Lib.run_firstCells_string (P:=Tryz.prog) w' 1 ⟨(List.replicate q (0:UInt8)).toArray⟩
 rw [Xpu,List.length_replicate] at hf
 rw [hf,Xl0]
 simp [Lib.strCells]
theorem Xiz {W:World} (t tn tu ty e:TypeId) (i:TypeInfo) (kn kq:IntKind) (ht:Tryz.prog.underlying t=some (.slice e)) (htn:Tryz.prog.underlying tn=some (.int kn)) (hts:Tryz.prog.underlying tu=some .string) (hi:Tryz.prog.info? e=some i)
 (hz:i.zero=some (.int .u8 0)) (hs:i.size=1) (hb:i.bytes=1) (ao:Option Addr) (n cap q:Nat) (hl:n+q≤1000000) (Z:ByteArray) (e1:Z.size=q)
 (f1:∀w',(Builtin.firstCells 1 q (.string Z)).run Tryz.prog w'= .ok (Builtin.zeroCells (Value.int .u8 0).cells q) w'):
 (Builtin.append_ #[t,tn] ty #[.slice ao n cap,.int kq q]).run Tryz.prog W=(Builtin.append_ #[t,tu] ty #[.slice ao n cap,.string Z]).run Tryz.prog W:=by
 have hw:IntKind.i64.wrap (q:Int)=q:=by rw [IntKind.wrap_i64];omega
 have n1:¬((q:Int)<0):=by omega
 have n2:¬(281474976710656<(q:Int)):=by omega
 have n3:¬(9223372036854775807<((n:Int)+(q:Int))):=by omega
 by_cases hroom:n+q≤cap
 ·by_cases hq:q=0
  ·subst hq
   have g3:IntKind.i64.wrap 0=0:=rfl
   have g4:Builtin.zeroCells (Value.int .u8 0).cells 0= #[]:=Array.eq_empty_of_size_eq_zero (by rw [size_zeroCells];simp)
   have g5:n≤cap:=hroom
   simp [Builtin.append_,run_underlying ht,run_underlying htn,run_underlying hts,sizeOf,typeInfo,zeroValue,hi,hz,hs,hb,Builtin.lenOf,e1,f1,g3,g4,g5,asInt,asIntOf,Question.forced]
  ·simp [Builtin.append_,run_underlying ht,run_underlying htn,run_underlying hts,sizeOf,typeInfo,zeroValue,hi,hz,hs,hb,Builtin.lenOf,e1,f1,hroom,asInt,asIntOf,Question.forced,hw,n1,n2,hq]
 ·have hfit:¬(281474976710656<Builtin.nextslicecap (n+q) cap):=by
   have:=growslice_fits (need:=n+q) (old:=cap) (bytes:=1) (by omega) (by omega)
   omega
  by_cases hq:q=0
  ·subst hq
   have g3:IntKind.i64.wrap 0=0:=rfl
   have g4:Builtin.zeroCells (Value.int .u8 0).cells 0= #[]:=Array.eq_empty_of_size_eq_zero (by rw [size_zeroCells];simp)
   have g5:¬n≤cap:=hroom
   have g6:¬(281474976710656<Builtin.nextslicecap n cap):=hfit
   have g7:¬(9223372036854775807<(n:Int)):=by omega
   simp [Builtin.append_,run_underlying ht,run_underlying htn,run_underlying hts,sizeOf,typeInfo,zeroValue,hi,hz,hs,hb,Builtin.lenOf,e1,f1,g3,g4,g5,g6,g7,asInt,asIntOf,Question.forced]
  ·simp [Builtin.append_,run_underlying ht,run_underlying htn,run_underlying hts,sizeOf,typeInfo,zeroValue,hi,hz,hs,hb,Builtin.lenOf,e1,f1,hroom,asInt,asIntOf,Question.forced,hw,n1,n2,hq,hfit,n3]
theorem Xi0 {I:IH} {W:World} {B:Nat} {ao:Option Addr} {n cap:Nat} {s:Bytes} (q:Nat) (h:OwnS tB 5 I W B (.slice ao n cap) (ints s)) (hB:B≤W.heap.size) (hn:n=s.length) (hl:s.length+q≤1000000):
 ∃v' w',(∀ty,(Builtin.append_ #[69,3] ty #[.slice ao n cap,.int .i64 q]).run Tryz.prog W= .ok v' w')∧OwnS tB 5 I w' B v' (ints (s++List.replicate q 0))∧W.grownBy w' (Value.slice ao n cap).ownBlock:=by
 obtain ⟨v',w',hr,h2,h3⟩:=Xgt (List.replicate q 0) h hB (by simpa using hl)
 obtain ⟨i,h1,k2,k3,k4⟩:=info_parts Xit
 exact ⟨v',w',fun ty=>by
  rw [Xiz 69 3 9 ty 5 i .i64 .i64 Tryz.underlying69 Tryz.underlying3 Tryz.underlying9 h1 k2 k3 k4 ao n cap q (by omega) ⟨(List.replicate q (0:UInt8)).toArray⟩ (by rw [Xpu];simp) (fun w'=>Xlz q w')]
  exact hr ty,h2,h3⟩
theorem Xrh {I:IH} {W:World} {B:Nat} {v:Value} {s:Bytes} (h:OwnS tB 5 I W B v (ints s)):(convert 69 9 v).run Tryz.prog W= .ok (S s) W:=by
 by_cases h0:0<s.length
 ·rw [Xjp Tryz.underlying69 Tryz.underlying5 Tryz.underlying9 W h (by rw [Xdy];exact h0)]
  have e:(ints s).map (fun x=>UInt8.ofNat x.toNat)=s:=by
   unfold ints
   rw [List.map_map]
   refine (List.map_congr_left fun b _=> ?_).trans (List.map_id s)
   simp
  rw [e]
 ·have hs:s= []:=List.eq_nil_of_length_eq_zero (by omega)
  subst hs
  obtain ⟨xs,⟨_,hc⟩,_⟩:=h
  rcases hc with ⟨rfl,_⟩|⟨g,cap,cur,rfl,_,hg,_,_,_,ht⟩
  ·exact (run_convert_bytes_nil (P:=Tryz.prog) W _ 5 Tryz.underlying69 Tryz.underlying5 0 0 _ Tryz.underlying9).trans rfl
  ·rw [run_convert_bytes_string _ _ _ 5 _ _ _ Tryz.underlying69 Tryz.underlying5 Tryz.underlying9]
   have:=run_bytesToString (P:=Tryz.prog) W ⟨g,0,none⟩ 0 cap [] (by
    have hc:=run_loadCells_list (P:=Tryz.prog) W ⟨g,0,none⟩ [] (fun j u hu=>by cases hu)
    simpa using hc)
   exact this.trans rfl
structure ApC (W:World) (la:Nat) (fin:Value→World→Prop) (x:Value) (s:Array Bool) (w:World):Prop where
 bel:s.getD la false=false→Below W.heap.size W w
 fin:s.getD la false=true→fin x w
theorem ApC.start {W:World} {la:Nat} {fin:Value→World→Prop} (n:Nat) (x:Value):ApC W la fin x (Array.replicate n false) { W with drawn:=W.drawn+1 }:=
 ⟨fun _=>(Qb _ _).drew,fun h=>(by rw [Xbj] at h;cases h)⟩
theorem ApC.step {W:World} {la:Nat} {fin:Value→World→Prop} {x:Value} {s:Array Bool} {w:World} (h:ApC W la fin x s w) {i:Nat} (hi:i≠la):ApC W la fin x (s.setIfInBounds i true) w:=
 ⟨fun q=>h.bel (by rwa [getD_set_ne false hi] at q),fun q=>h.fin (by rwa [getD_set_ne false hi] at q)⟩
theorem ApC.app {W:World} {la:Nat} {fin:Value→World→Prop} {x:Value} {s:Array Bool} {w:World} (hun:s.getD la true=false) (hf:fin x w):ApC W la fin x (s.setIfInBounds la true) w:=by
 have e:=Xba (Xdh hun)
 exact ⟨fun q=>(by rw [e] at q;cases q),fun _=>hf⟩
abbrev ggL (vo:Value) (bs os ls cs:Nat) (nn:Nat) (zs:Int) (m ou:Nat) (u:Bytes) (r q:Nat) (p:Bytes) (x:Value):List (Option Tmp × Value):=
 [(some 82,vo),(some 83,.slice (some ⟨bs,os,none⟩) ls cs),(some 84,.pointer (some ⟨nn,0,none⟩)),(some 85,.int .i64 zs),(some 86,.int .i64 (m:Int)),(some 87,.pointer (some ⟨bs,ou,none⟩)),(some 88,S u),(some 89,.pointer (some ⟨nn,1,none⟩)),(some 90,.int .i64 (r:Int)),(some 91,.pointer (some ⟨nn,1,none⟩)),(some 92,.int .i64 (r:Int)),(some 93,.pointer (some ⟨nn,2,none⟩)),(some 94,.int .i64 (q:Int)),(some 95,.int .i64 ((r:Int)+(q:Int))),(some 96,S p),(some 97,x),(some 6,x)]
theorem Xal {vo:Value} {bs os ls cs:Nat} {nn:Nat} {zs:Int} {m ou:Nat} {u:Bytes} {r q:Nat} {p:Bytes} {x:Value}:ApartF (ggL vo bs os ls cs nn zs m ou u r q p x):=by
 unfold ApartF
 simp
set_option maxRecDepth 100000 in
set_option maxHeartbeats 4000000 in
theorem Xwi (I:IH) (vs vl:Value) (st:List Bytes) (l:List Xt) (hvs:RdS tStr I vs st) (hvl:RdS tXt I vl l) (hst:∀s∈st,s.length≤9223372036854775807) (w:World) (hw:Ok I w):
 Calls Tryz.prog 98 #[vs,vl] w fun e w'=>e= .returned (.tuple #[S (getP st l).1,.int .i64 (getP st l).2])∧Below w.heap.size w w':=by
 have hls:=hvs.len_le
 have hll:=hvl.len_le
 obtain ⟨as0,cs0,rfl,_,_,_⟩:=id hvs
 obtain ⟨al,cl,rfl,_,_,_⟩:=id hvl
 have hIf:∀b,w.heap.size≤b→I b=none:=fun b hb=>hw.fresh hb
 have Hvs:=Qh hvs
 have Hvl:=Qh hvl
 have Hst:=Qh hst
 obtain ⟨N,hN⟩:∃N,getP st l=N:=⟨_,rfl⟩
 have HN:=Qh (show getG st (l.drop 0) []=N from hN)
 rw [hN]
 clear hvs hvl hst hN
 go_enter Tryz.func98,Tryz.ntmps98
 go_wp2_with fail
 go_loopw [6,12] (fun s6 s12 wr=> ∃(k:Nat) (out:Bytes),k≤l.length∧s12= .int .i64 k∧OwnS tB 5 I wr w.heap.size s6 (ints out)∧out.length≤65536∧getG st (l.drop k) out=N∧Below w.heap.size w wr) (fun _ i _=>l.length-(intOf i).toNat)
 case atStart=>exact ⟨0,[],Nat.zero_le _,rfl,OwnS.nil _ _ _ _ _,by simp,HN.out,Qb _ _⟩
 case round=>
  clear HN
  obtain ⟨k,out,hk,rfl,hown,hol,hr,hb⟩:=hrel
  have Hr:=Qh hr
  have hok:Ok I wr:=hw.below (Qn _) hb
  clear hr
  obtain ⟨ao,co,rfl⟩:=Xbz hown
  rw [Xdy] at hown ⊢
  have Hown:=Qh hown
  clear hown
  by_cases hlt:k<l.length
  ·obtain ⟨x,b,off,cap',hlx,hvv,x0,x1,x2⟩:=xtAt Hvl.out hok k hlt
   cases hvv
   have Hg:=Qh (Xq0 hlt hlx Hr.out)
   clear hlx Hr
   obtain ⟨zs,zo,zn⟩:=x
   dsimp only at x0 x1 x2
   have m65:IntKind.i64.wrap (65536-(out.length:Int))=65536-(out.length:Int):=IntWalk.i64_in _ (by omega)
   by_cases g1:zn<0
   ·have Hn:=Qh (show N=([],2) by have:=Hg.out;rw [if_pos (Xhd (x:=⟨zs,zo,zn⟩) (.inl g1))] at this;exact this.symm)
    have d1:decide (zn<0)=true:=Qt g1
    clear g1
    have y0:(wr.alloc (.cells #[.int .i64 (zs),.int .i64 (zo),.int .i64 (zn)] 110)).cell? ⟨wr.heap.size,0,none⟩=some (.int .i64 (zs)):=by simp
    have y1:(wr.alloc (.cells #[.int .i64 (zs),.int .i64 (zo),.int .i64 (zn)] 110)).cell? ⟨wr.heap.size,1,none⟩=some (.int .i64 (zo)):=by simp
    have y2:(wr.alloc (.cells #[.int .i64 (zs),.int .i64 (zo),.int .i64 (zn)] 110)).cell? ⟨wr.heap.size,2,none⟩=some (.int .i64 (zn)):=by simp
    have hb1:=hb.alloc hb.size (.cells #[.int .i64 (zs),.int .i64 (zo),.int .i64 (zn)] 110)
    go_wp2
    go_ret2
    rw [Hn.out]
    exact ⟨rfl,hb1⟩
   have d1:decide (zn<0)=false:=Qf g1
   by_cases g2:zo<0
   ·have Hn:=Qh (show N=([],2) by have:=Hg.out;rw [if_pos (Xhd (x:=⟨zs,zo,zn⟩) (.inr (.inl g2)))] at this;exact this.symm)
    have d2:decide (zo<0)=true:=Qt g2
    clear g1 g2
    have y0:(wr.alloc (.cells #[.int .i64 (zs),.int .i64 (zo),.int .i64 (zn)] 110)).cell? ⟨wr.heap.size,0,none⟩=some (.int .i64 (zs)):=by simp
    have y1:(wr.alloc (.cells #[.int .i64 (zs),.int .i64 (zo),.int .i64 (zn)] 110)).cell? ⟨wr.heap.size,1,none⟩=some (.int .i64 (zo)):=by simp
    have y2:(wr.alloc (.cells #[.int .i64 (zs),.int .i64 (zo),.int .i64 (zn)] 110)).cell? ⟨wr.heap.size,2,none⟩=some (.int .i64 (zn)):=by simp
    have hb1:=hb.alloc hb.size (.cells #[.int .i64 (zs),.int .i64 (zo),.int .i64 (zn)] 110)
    go_wp2
    go_ret2
    rw [Hn.out]
    exact ⟨rfl,hb1⟩
   have d2:decide (zo<0)=false:=Qf g2
   by_cases g3:zs<0
   ·have Hn:=Qh (show N=([],2) by have:=Hg.out;rw [if_pos (Xhd (x:=⟨zs,zo,zn⟩) (.inr (.inr (.inl g3))))] at this;exact this.symm)
    have d3:decide (zs<0)=true:=Qt g3
    clear g1 g2 g3
    have y0:(wr.alloc (.cells #[.int .i64 (zs),.int .i64 (zo),.int .i64 (zn)] 110)).cell? ⟨wr.heap.size,0,none⟩=some (.int .i64 (zs)):=by simp
    have y1:(wr.alloc (.cells #[.int .i64 (zs),.int .i64 (zo),.int .i64 (zn)] 110)).cell? ⟨wr.heap.size,1,none⟩=some (.int .i64 (zo)):=by simp
    have y2:(wr.alloc (.cells #[.int .i64 (zs),.int .i64 (zo),.int .i64 (zn)] 110)).cell? ⟨wr.heap.size,2,none⟩=some (.int .i64 (zn)):=by simp
    have hb1:=hb.alloc hb.size (.cells #[.int .i64 (zs),.int .i64 (zo),.int .i64 (zn)] 110)
    go_wp2
    go_ret2
    rw [Hn.out]
    exact ⟨rfl,hb1⟩
   have d3:decide (zs<0)=false:=Qf g3
   by_cases g4:(st.length:Int)<zs
   ·have Hn:=Qh (show N=([],2) by have:=Hg.out;rw [if_pos (Xhd (x:=⟨zs,zo,zn⟩) (.inr (.inr (.inr (.inl g4)))))] at this;exact this.symm)
    have d4:decide ((st.length:Int)<zs)=true:=Qt g4
    clear g1 g2 g3 g4
    have y0:(wr.alloc (.cells #[.int .i64 (zs),.int .i64 (zo),.int .i64 (zn)] 110)).cell? ⟨wr.heap.size,0,none⟩=some (.int .i64 (zs)):=by simp
    have y1:(wr.alloc (.cells #[.int .i64 (zs),.int .i64 (zo),.int .i64 (zn)] 110)).cell? ⟨wr.heap.size,1,none⟩=some (.int .i64 (zo)):=by simp
    have y2:(wr.alloc (.cells #[.int .i64 (zs),.int .i64 (zo),.int .i64 (zn)] 110)).cell? ⟨wr.heap.size,2,none⟩=some (.int .i64 (zn)):=by simp
    have hb1:=hb.alloc hb.size (.cells #[.int .i64 (zs),.int .i64 (zo),.int .i64 (zn)] 110)
    go_wp2
    go_ret2
    rw [Hn.out]
    exact ⟨rfl,hb1⟩
   have d4:decide ((st.length:Int)<zs)=false:=Qf g4
   have hn0:(0:Int)≤zn:=by omega
   by_cases hs0:zs=0
   ·have e1:(zs==0)=true:=by simpa using hs0
    have e2:decide (0<zs)=false:=Qf (by omega)
    by_cases ho0:zo=0
    case neg=>
     have Hn:=Qh (show N=([],2) by have:=Hg.out;rw [if_pos (Xhd (x:=⟨zs,zo,zn⟩) (.inr (.inr (.inr (.inr ⟨hs0,ho0⟩)))))] at this;exact this.symm)
     have e3:(zo != 0)=true:=by simpa using ho0
     clear g1 g2 g3 g4 hs0 ho0
     have y0:(wr.alloc (.cells #[.int .i64 (zs),.int .i64 (zo),.int .i64 (zn)] 110)).cell? ⟨wr.heap.size,0,none⟩=some (.int .i64 (zs)):=by simp
     have y1:(wr.alloc (.cells #[.int .i64 (zs),.int .i64 (zo),.int .i64 (zn)] 110)).cell? ⟨wr.heap.size,1,none⟩=some (.int .i64 (zo)):=by simp
     have y2:(wr.alloc (.cells #[.int .i64 (zs),.int .i64 (zo),.int .i64 (zn)] 110)).cell? ⟨wr.heap.size,2,none⟩=some (.int .i64 (zn)):=by simp
     have hb1:=hb.alloc hb.size (.cells #[.int .i64 (zs),.int .i64 (zo),.int .i64 (zn)] 110)
     go_wp2
     go_ret2
     rw [Hn.out]
     exact ⟨rfl,hb1⟩
    have e3:(zo != 0)=false:=by simpa using ho0
    have Hg2:=Qh (show (if 65536-(out.length:Int)<zn then (([],6):Bytes × Int) else getG st (l.drop (k+1)) (out++List.replicate zn.toNat 0))=N by
     have h:=Hg.out
     dsimp only at h
     rw [if_neg (by rw [Xf6 (x:=⟨zs,zo,zn⟩) g1 g2 g3 g4 (fun h=>h.2 ho0)];simp),if_neg (by omega),if_pos hs0] at h
     exact h)
    by_cases hlm:65536-(out.length:Int)<zn
    ·have Hn:=Qh (show N=([],6) by have:=Hg2.out;rw [if_pos hlm] at this;exact this.symm)
     have d5:decide (65536-(out.length:Int)<zn)=true:=Qt hlm
     clear g1 g2 g3 g4 hs0 ho0 hlm Hg Hg2
     have y0:(wr.alloc (.cells #[.int .i64 (zs),.int .i64 (zo),.int .i64 (zn)] 110)).cell? ⟨wr.heap.size,0,none⟩=some (.int .i64 (zs)):=by simp
     have y1:(wr.alloc (.cells #[.int .i64 (zs),.int .i64 (zo),.int .i64 (zn)] 110)).cell? ⟨wr.heap.size,1,none⟩=some (.int .i64 (zo)):=by simp
     have y2:(wr.alloc (.cells #[.int .i64 (zs),.int .i64 (zo),.int .i64 (zn)] 110)).cell? ⟨wr.heap.size,2,none⟩=some (.int .i64 (zn)):=by simp
     have hb1:=hb.alloc hb.size (.cells #[.int .i64 (zs),.int .i64 (zo),.int .i64 (zn)] 110)
     go_wp2
     go_ret2
     rw [Hn.out]
     exact ⟨rfl,hb1⟩
    ·obtain ⟨q,rfl⟩:∃q:Nat,zn=(q:Int):=⟨zn.toNat,by omega⟩
     have hql:q+out.length≤65536:=by omega
     have Hn:=Qh (show getG st (l.drop (k+1)) (out++List.replicate q 0)=N by have:=Hg2.out;rw [if_neg hlm,Int.toNat_natCast] at this;exact this)
     have d5:decide (65536-(out.length:Int)<(q:Int))=false:=Qf (by omega)
     clear g1 g2 g3 g4 hs0 ho0 hlm Hg Hg2
     have y0:(wr.alloc (.cells #[.int .i64 (zs),.int .i64 (zo),.int .i64 ((q:Int))] 110)).cell? ⟨wr.heap.size,0,none⟩=some (.int .i64 (zs)):=by simp
     have y1:(wr.alloc (.cells #[.int .i64 (zs),.int .i64 (zo),.int .i64 ((q:Int))] 110)).cell? ⟨wr.heap.size,1,none⟩=some (.int .i64 (zo)):=by simp
     have y2:(wr.alloc (.cells #[.int .i64 (zs),.int .i64 (zo),.int .i64 ((q:Int))] 110)).cell? ⟨wr.heap.size,2,none⟩=some (.int .i64 ((q:Int))):=by simp
     have hb1:=hb.alloc hb.size (.cells #[.int .i64 (zs),.int .i64 (zo),.int .i64 ((q:Int))] 110)
     have Hw1:=Qh (Hown.out.alloc (.cells #[.int .i64 zs,.int .i64 zo,.int .i64 (q:Int)] 110))
     obtain ⟨v9,w9,hr9,ho9,hg9⟩:=Xi0 q Hw1.out hb1.size rfl (by omega)
     have Ho9:=Qh ho9
     have hb9:=Below.own hb1 hg9 Hw1.out (Qn _) hb1.size
     clear ho9 hg9
     go_wp2_with (at_builtin;refine Lib.wpList_append_run _ rfl _ _ _ _ rfl _ _ rfl rfl _ _ (hr9 _) ?_)
     go_wp2
     go_roundw
     case rel=>exact ⟨k+1,_,by omega,by go_num,Ho9.out,by simp;omega,Hn.out,hb9⟩
     case measure=>simp [intOf];omega
   ·obtain ⟨m,rfl⟩:∃m:Nat,zs=(m:Int)+1:=⟨(zs-1).toNat,by omega⟩
    have hms:m<st.length:=by omega
    obtain ⟨u,bs,os,cs,hlu,hvv,u0⟩:=Xn6 Hvs.out (hok.alloc (.cells #[.int .i64 ((m:Int)+1),.int .i64 zo,.int .i64 zn] 110)) m hms
    cases hvv
    have hul:=Hst.out u (by rw [←hlu];exact List.getElem_mem hms)
    have hsu:strAtP st ⟨(m:Int)+1,zo,zn⟩=u:=by
     show st.getD (((m:Int)+1-1).toNat) []=u
     rw [show ((m:Int)+1-1).toNat=m by omega]
     simp [List.getD,hms,hlu]
    have e1:(((m:Int)+1)==0)=false:=by simpa using hs0
    have e2:decide ((0:Int)<(m:Int)+1)=true:=Qt (by omega)
    have i1:(m:Int)<st.length:=by omega
    have m1:IntKind.i64.wrap (m:Int)=(m:Int):=IntWalk.i64_in _ (by omega)
    have j1:(0:Int)≤(m:Int):=by omega
    have Hg1:=Qh (show (if 0<(m:Int)+1∧((u.length:Int)<zo∨(u.length:Int)-zo<zn) then (([],2):Bytes × Int) else if 65536-(out.length:Int)<zn then ([],6) else getG st (l.drop (k+1)) (out++(u.drop zo.toNat).take zn.toNat))=N by
     have h:=Hg.out
     dsimp only at h
     rw [if_neg (by rw [Xf6 (x:=⟨(m:Int)+1,zo,zn⟩) g1 g2 g3 g4 (fun h=>hs0 h.1)];simp),hsu] at h
     rw [←h]
     simp only [if_neg hs0])
    clear Hg hsu hlu
    by_cases hof:(u.length:Int)<zo
    ·have Hn:=Qh (show N=([],2) by have:=Hg1.out;rw [if_pos ⟨by omega,.inl hof⟩] at this;exact this.symm)
     have d6:decide ((u.length:Int)<zo)=true:=Qt hof
     clear g1 g2 g3 g4 hs0 hof Hg1
     have y0:(wr.alloc (.cells #[.int .i64 ((m:Int)+1),.int .i64 (zo),.int .i64 (zn)] 110)).cell? ⟨wr.heap.size,0,none⟩=some (.int .i64 ((m:Int)+1)):=by simp
     have y1:(wr.alloc (.cells #[.int .i64 ((m:Int)+1),.int .i64 (zo),.int .i64 (zn)] 110)).cell? ⟨wr.heap.size,1,none⟩=some (.int .i64 (zo)):=by simp
     have y2:(wr.alloc (.cells #[.int .i64 ((m:Int)+1),.int .i64 (zo),.int .i64 (zn)] 110)).cell? ⟨wr.heap.size,2,none⟩=some (.int .i64 (zn)):=by simp
     have hb1:=hb.alloc hb.size (.cells #[.int .i64 ((m:Int)+1),.int .i64 (zo),.int .i64 (zn)] 110)
     go_wp2
     go_ret2
     rw [Hn.out]
     exact ⟨rfl,hb1⟩
    have d6:decide ((u.length:Int)<zo)=false:=Qf hof
    have m8:IntKind.i64.wrap ((u.length:Int)-zo)=(u.length:Int)-zo:=IntWalk.i64_in _ (by omega)
    by_cases hin:(u.length:Int)-zo<zn
    ·have Hn:=Qh (show N=([],2) by have:=Hg1.out;rw [if_pos ⟨by omega,.inr hin⟩] at this;exact this.symm)
     have d7:decide ((u.length:Int)-zo<zn)=true:=Qt hin
     clear g1 g2 g3 g4 hs0 hof hin Hg1
     have y0:(wr.alloc (.cells #[.int .i64 ((m:Int)+1),.int .i64 (zo),.int .i64 (zn)] 110)).cell? ⟨wr.heap.size,0,none⟩=some (.int .i64 ((m:Int)+1)):=by simp
     have y1:(wr.alloc (.cells #[.int .i64 ((m:Int)+1),.int .i64 (zo),.int .i64 (zn)] 110)).cell? ⟨wr.heap.size,1,none⟩=some (.int .i64 (zo)):=by simp
     have y2:(wr.alloc (.cells #[.int .i64 ((m:Int)+1),.int .i64 (zo),.int .i64 (zn)] 110)).cell? ⟨wr.heap.size,2,none⟩=some (.int .i64 (zn)):=by simp
     have hb1:=hb.alloc hb.size (.cells #[.int .i64 ((m:Int)+1),.int .i64 (zo),.int .i64 (zn)] 110)
     go_wp2
     go_ret2
     rw [Hn.out]
     exact ⟨rfl,hb1⟩
    have d7:decide ((u.length:Int)-zo<zn)=false:=Qf hin
    have Hg2:=Qh (show (if 65536-(out.length:Int)<zn then (([],6):Bytes × Int) else getG st (l.drop (k+1)) (out++(u.drop zo.toNat).take zn.toNat))=N by
     have h:=Hg1.out
     rw [if_neg (by omega)] at h
     exact h)
    by_cases hlm:65536-(out.length:Int)<zn
    ·have Hn:=Qh (show N=([],6) by have:=Hg2.out;rw [if_pos hlm] at this;exact this.symm)
     have d5:decide (65536-(out.length:Int)<zn)=true:=Qt hlm
     clear g1 g2 g3 g4 hs0 hof hin hlm Hg1 Hg2
     have y0:(wr.alloc (.cells #[.int .i64 ((m:Int)+1),.int .i64 (zo),.int .i64 (zn)] 110)).cell? ⟨wr.heap.size,0,none⟩=some (.int .i64 ((m:Int)+1)):=by simp
     have y1:(wr.alloc (.cells #[.int .i64 ((m:Int)+1),.int .i64 (zo),.int .i64 (zn)] 110)).cell? ⟨wr.heap.size,1,none⟩=some (.int .i64 (zo)):=by simp
     have y2:(wr.alloc (.cells #[.int .i64 ((m:Int)+1),.int .i64 (zo),.int .i64 (zn)] 110)).cell? ⟨wr.heap.size,2,none⟩=some (.int .i64 (zn)):=by simp
     have hb1:=hb.alloc hb.size (.cells #[.int .i64 ((m:Int)+1),.int .i64 (zo),.int .i64 (zn)] 110)
     go_wp2
     go_ret2
     rw [Hn.out]
     exact ⟨rfl,hb1⟩
    have d5:decide (65536-(out.length:Int)<zn)=false:=Qf (by omega)
    have hzr:0≤zo∧0≤zn∧zo+zn≤(u.length:Int)∧zn+(out.length:Int)≤65536:=by omega
    obtain ⟨q,rfl⟩:∃q:Nat,zn=(q:Int):=⟨zn.toNat,by omega⟩
    obtain ⟨r,rfl⟩:∃r:Nat,zo=(r:Int):=⟨zo.toNat,by omega⟩
    have hql:q+out.length≤65536:=by omega
    have hrq:r+q≤u.length:=by omega
    have Hn:=Qh (show getG st (l.drop (k+1)) (out++(u.drop r).take q)=N by have:=Hg2.out;rw [if_neg hlm,Int.toNat_natCast,Int.toNat_natCast] at this;exact this)
    have m7:IntKind.i64.wrap ((r:Int)+(q:Int))=(r:Int)+(q:Int):=IntWalk.i64_in _ (by omega)
    have i2:(0:Int)≤r:=by omega
    have sp:((r:Int)+(q:Int)).toNat-r=q:=by omega
    have i3:(r:Int)≤(r:Int)+q:=by omega
    have i4:(r:Int)+q≤u.length:=by omega
    clear g1 g2 g3 g4 hs0 hof hin hlm Hg1 Hg2 hzr
    have y0:(wr.alloc (.cells #[.int .i64 ((m:Int)+1),.int .i64 ((r:Int)),.int .i64 ((q:Int))] 110)).cell? ⟨wr.heap.size,0,none⟩=some (.int .i64 ((m:Int)+1)):=by simp
    have y1:(wr.alloc (.cells #[.int .i64 ((m:Int)+1),.int .i64 ((r:Int)),.int .i64 ((q:Int))] 110)).cell? ⟨wr.heap.size,1,none⟩=some (.int .i64 ((r:Int))):=by simp
    have y2:(wr.alloc (.cells #[.int .i64 ((m:Int)+1),.int .i64 ((r:Int)),.int .i64 ((q:Int))] 110)).cell? ⟨wr.heap.size,2,none⟩=some (.int .i64 ((q:Int))):=by simp
    have hb1:=hb.alloc hb.size (.cells #[.int .i64 ((m:Int)+1),.int .i64 ((r:Int)),.int .i64 ((q:Int))] 110)
    have Hw1:=Qh (Hown.out.alloc (.cells #[.int .i64 ((m:Int)+1),.int .i64 (r:Int),.int .i64 (q:Int)] 110))
    go_wp2_with fail
    have hap:∀w',Below (wr.alloc (.cells #[.int .i64 ((m:Int)+1),.int .i64 (r:Int),.int .i64 (q:Int)] 110)).heap.size (wr.alloc (.cells #[.int .i64 ((m:Int)+1),.int .i64 (r:Int),.int .i64 (q:Int)] 110)) w'→
     ∃v9 w9,(∀ty,(Builtin.append_ #[69,9] ty #[.slice ao out.length co,S ((u.drop r).take q)]).run Tryz.prog w'= .ok v9 w9)∧OwnS tB 5 I w9 w.heap.size v9 (ints (out++(u.drop r).take q))∧Below w.heap.size w w9:=fun w' hbw=>by
     have hb2:=hb1.trans (hbw.mono hb1.size)
     obtain ⟨v9,w9,hr9,ho9,hg9⟩:=Xgt ((u.drop r).take q) (Hw1.out.below hbw) hb2.size (by simp;omega)
     exact ⟨v9,w9,hr9,ho9,Below.own hb2 hg9 (Hw1.out.below hbw) (Qn _) hb2.size⟩
    refine Xak (X:=Value) (ggL ((.slice ao out.length co)) bs os st.length cs0 wr.heap.size (((m:Int)+1)) m ((os+m)) u r q (((u.drop r).take q))) (ApC (wr.alloc (.cells #[.int .i64 ((m:Int)+1),.int .i64 (r:Int),.int .i64 (q:Int)] 110)) 15 (fun v9 w9=>OwnS tB 5 I w9 w.heap.size v9 (ints (out++(u.drop r).take q))∧Below w.heap.size w w9)) (by kernel_rfl) (by kernel_rfl) ?_ ?_ ?_
    ·exact ⟨undef,ApC.start _ _⟩
    ·rintro x s' a' w' i hsz hcl ha hC hi
     obtain ⟨hun,oi,hoi,hall⟩:=mem_ready.1 hi
     rcases i with _|_|_|_|_|_|_|_|_|_|_|_|_|_|_|_|_|i
     rotate_left 17
     ·simp at hoi
     all_goals
      have hoj:=hoi
      simp at hoi
      subst hoi
      simp [Region.binds] at hall
     ·have ha':=ha.trans (Xa6 (L:=ggL ((.slice ao out.length co)) bs os st.length cs0 wr.heap.size (((m:Int)+1)) m ((os+m)) u r q (((u.drop r).take q)) x) (M:=(ggL ((.slice ao out.length co)) bs os st.length cs0 wr.heap.size (((m:Int)+1)) m ((os+m)) u r q (((u.drop r).take q)) x).set 16 (none,undef)) [16] (by simp) (fun j hne=>by rw [List.getElem?_set_ne (fun e=>hne (by rw [←e];exact List.mem_singleton.2 rfl))]) (List.forall_mem_cons.2 ⟨Xks (i:=0) hcl (by kernel_rfl) hun,List.forall_mem_nil _⟩))
      have e6:a'.tmps[6]?.getD undef=(.slice ao out.length co):=Xbl ha' (by simp)
      have hl:s'.getD 15 false=false:=Xae hcl [0] (by kernel_rfl) (by rfl) hun
      refine wpOp_step hoj (fun K' hK=> ?_)
      rw [if_pos (by rfl)]
      unfold Oper.wp
      simp [go_sem,e6,Oper.upon]
      exact hK _ _ ⟨x,Xad (d:=some 82) (v:=(.slice ao out.length co)) Xal ha rfl hun,hC.step (by decide)⟩
     ·have e0:a'.tmps[0]?.getD undef= .slice (some ⟨bs,os,none⟩) st.length cs0:=Xbl ha (by simp)
      have hl:s'.getD 15 false=false:=Xae hcl [14,6,5,1] (by kernel_rfl) (by rfl) hun
      refine wpOp_step hoj (fun K' hK=> ?_)
      rw [if_pos (by rfl)]
      unfold Oper.wp
      simp [go_sem,e0,Oper.upon]
      exact hK _ _ ⟨x,Xad (d:=some 83) (v:= .slice (some ⟨bs,os,none⟩) st.length cs0) Xal ha rfl hun,hC.step (by decide)⟩
     ·have e8:a'.tmps[8]?.getD undef= .pointer (some ⟨wr.heap.size,0,none⟩):=Xbl ha (by simp)
      have hl:s'.getD 15 false=false:=Xae hcl [14,6,5,4,3,2] (by kernel_rfl) (by rfl) hun
      refine wpOp_step hoj (fun K' hK=> ?_)
      rw [if_pos (by rfl)]
      unfold Oper.wp
      simp [go_sem,e8,Oper.upon]
      exact hK _ _ ⟨x,Xad (d:=some 84) (v:= .pointer (some ⟨wr.heap.size,0,none⟩)) Xal ha rfl hun,hC.step (by decide)⟩
     ·have e84:a'.tmps[84]?.getD undef= .pointer (some ⟨wr.heap.size,0,none⟩):=Xap (i:=2) Xal ha rfl (by first|simpa using hall|simp [hall]) (by simp)
      have hl:s'.getD 15 false=false:=Xae hcl [14,6,5,4,3] (by kernel_rfl) (by rfl) hun
      have cq:=Xaa (hC.bel hl) y0
      refine wpOp_step hoj (fun K' hK=> ?_)
      rw [if_pos (by rfl)]
      unfold Oper.wp
      simp [go_sem,e84,cq,Oper.upon]
      exact hK _ _ ⟨x,Xad (d:=some 85) (v:= .int .i64 ((m:Int)+1)) Xal ha rfl hun,hC.step (by decide)⟩
     ·have e85:a'.tmps[85]?.getD undef= .int .i64 ((m:Int)+1):=Xap (i:=3) Xal ha rfl (by first|simpa using hall|simp [hall]) (by simp)
      have hl:s'.getD 15 false=false:=Xae hcl [14,6,5,4] (by kernel_rfl) (by rfl) hun
      refine wpOp_step hoj (fun K' hK=> ?_)
      rw [if_pos (by rfl)]
      unfold Oper.wp
      simp [go_sem,e85,m1,Oper.upon]
      exact hK _ _ ⟨x,Xad (d:=some 86) (v:= .int .i64 (m:Int)) Xal ha rfl hun,hC.step (by decide)⟩
     ·have e83:a'.tmps[83]?.getD undef= .slice (some ⟨bs,os,none⟩) st.length cs0:=Xap (i:=1) Xal ha rfl (by first|simpa using hall|simp [hall]) (by simp)
      have e86:a'.tmps[86]?.getD undef= .int .i64 (m:Int):=Xap (i:=4) Xal ha rfl (by first|simpa using hall|simp [hall]) (by simp)
      have hl:s'.getD 15 false=false:=Xae hcl [14,6,5] (by kernel_rfl) (by rfl) hun
      refine wpOp_step hoj (fun K' hK=> ?_)
      rw [if_pos (by rfl)]
      unfold Oper.wp
      simp [go_sem,e83,e86,i1,j1,Oper.upon]
      exact hK _ _ ⟨x,Xad (d:=some 87) (v:= .pointer (some ⟨bs,(os+m),none⟩)) Xal ha rfl hun,hC.step (by decide)⟩
     ·have e87:a'.tmps[87]?.getD undef= .pointer (some ⟨bs,(os+m),none⟩):=Xap (i:=5) Xal ha rfl (by first|simpa using hall|simp [hall]) (by simp)
      have hl:s'.getD 15 false=false:=Xae hcl [14,6] (by kernel_rfl) (by rfl) hun
      have cq:=Xaa (hC.bel hl) u0
      refine wpOp_step hoj (fun K' hK=> ?_)
      rw [if_pos (by rfl)]
      unfold Oper.wp
      simp [go_sem,e87,cq,Oper.upon]
      exact hK _ _ ⟨x,Xad (d:=some 88) (v:=S u) Xal ha rfl hun,hC.step (by decide)⟩
     ·have e8:a'.tmps[8]?.getD undef= .pointer (some ⟨wr.heap.size,0,none⟩):=Xbl ha (by simp)
      have hl:s'.getD 15 false=false:=Xae hcl [14,8,7] (by kernel_rfl) (by rfl) hun
      refine wpOp_step hoj (fun K' hK=> ?_)
      rw [if_pos (by rfl)]
      unfold Oper.wp
      simp [go_sem,e8,Oper.upon]
      exact hK _ _ ⟨x,Xad (d:=some 89) (v:= .pointer (some ⟨wr.heap.size,1,none⟩)) Xal ha rfl hun,hC.step (by decide)⟩
     ·have e89:a'.tmps[89]?.getD undef= .pointer (some ⟨wr.heap.size,1,none⟩):=Xap (i:=7) Xal ha rfl (by first|simpa using hall|simp [hall]) (by simp)
      have hl:s'.getD 15 false=false:=Xae hcl [14,8] (by kernel_rfl) (by rfl) hun
      have cq:=Xaa (hC.bel hl) y1
      refine wpOp_step hoj (fun K' hK=> ?_)
      rw [if_pos (by rfl)]
      unfold Oper.wp
      simp [go_sem,e89,cq,Oper.upon]
      exact hK _ _ ⟨x,Xad (d:=some 90) (v:= .int .i64 (r:Int)) Xal ha rfl hun,hC.step (by decide)⟩
     ·have e8:a'.tmps[8]?.getD undef= .pointer (some ⟨wr.heap.size,0,none⟩):=Xbl ha (by simp)
      have hl:s'.getD 15 false=false:=Xae hcl [14,13,10,9] (by kernel_rfl) (by rfl) hun
      refine wpOp_step hoj (fun K' hK=> ?_)
      rw [if_pos (by rfl)]
      unfold Oper.wp
      simp [go_sem,e8,Oper.upon]
      exact hK _ _ ⟨x,Xad (d:=some 91) (v:= .pointer (some ⟨wr.heap.size,1,none⟩)) Xal ha rfl hun,hC.step (by decide)⟩
     ·have e91:a'.tmps[91]?.getD undef= .pointer (some ⟨wr.heap.size,1,none⟩):=Xap (i:=9) Xal ha rfl (by first|simpa using hall|simp [hall]) (by simp)
      have hl:s'.getD 15 false=false:=Xae hcl [14,13,10] (by kernel_rfl) (by rfl) hun
      have cq:=Xaa (hC.bel hl) y1
      refine wpOp_step hoj (fun K' hK=> ?_)
      rw [if_pos (by rfl)]
      unfold Oper.wp
      simp [go_sem,e91,cq,Oper.upon]
      exact hK _ _ ⟨x,Xad (d:=some 92) (v:= .int .i64 (r:Int)) Xal ha rfl hun,hC.step (by decide)⟩
     ·have e8:a'.tmps[8]?.getD undef= .pointer (some ⟨wr.heap.size,0,none⟩):=Xbl ha (by simp)
      have hl:s'.getD 15 false=false:=Xae hcl [14,13,12,11] (by kernel_rfl) (by rfl) hun
      refine wpOp_step hoj (fun K' hK=> ?_)
      rw [if_pos (by rfl)]
      unfold Oper.wp
      simp [go_sem,e8,Oper.upon]
      exact hK _ _ ⟨x,Xad (d:=some 93) (v:= .pointer (some ⟨wr.heap.size,2,none⟩)) Xal ha rfl hun,hC.step (by decide)⟩
     ·have e93:a'.tmps[93]?.getD undef= .pointer (some ⟨wr.heap.size,2,none⟩):=Xap (i:=11) Xal ha rfl (by first|simpa using hall|simp [hall]) (by simp)
      have hl:s'.getD 15 false=false:=Xae hcl [14,13,12] (by kernel_rfl) (by rfl) hun
      have cq:=Xaa (hC.bel hl) y2
      refine wpOp_step hoj (fun K' hK=> ?_)
      rw [if_pos (by rfl)]
      unfold Oper.wp
      simp [go_sem,e93,cq,Oper.upon]
      exact hK _ _ ⟨x,Xad (d:=some 94) (v:= .int .i64 (q:Int)) Xal ha rfl hun,hC.step (by decide)⟩
     ·have e92:a'.tmps[92]?.getD undef= .int .i64 (r:Int):=Xap (i:=10) Xal ha rfl (by first|simpa using hall|simp [hall]) (by simp)
      have e94:a'.tmps[94]?.getD undef= .int .i64 (q:Int):=Xap (i:=12) Xal ha rfl (by first|simpa using hall|simp [hall]) (by simp)
      have hl:s'.getD 15 false=false:=Xae hcl [14,13] (by kernel_rfl) (by rfl) hun
      refine wpOp_step hoj (fun K' hK=> ?_)
      rw [if_pos (by rfl)]
      unfold Oper.wp
      simp [go_sem,e92,e94,m7,Oper.upon]
      exact hK _ _ ⟨x,Xad (d:=some 95) (v:= .int .i64 ((r:Int)+(q:Int))) Xal ha rfl hun,hC.step (by decide)⟩
     ·have e88:a'.tmps[88]?.getD undef=S u:=Xap (i:=6) Xal ha rfl (by first|simpa using hall|simp [hall]) (by simp)
      have e90:a'.tmps[90]?.getD undef= .int .i64 (r:Int):=Xap (i:=8) Xal ha rfl (by first|simpa using hall|simp [hall]) (by simp)
      have e95:a'.tmps[95]?.getD undef= .int .i64 ((r:Int)+(q:Int)):=Xap (i:=13) Xal ha rfl (by first|simpa using hall|simp [hall]) (by simp)
      have hl:s'.getD 15 false=false:=Xae hcl [14] (by kernel_rfl) (by rfl) hun
      refine wpOp_step hoj (fun K' hK=> ?_)
      rw [if_pos (by rfl)]
      unfold Oper.wp
      simp [go_sem,e88,e90,e95,sp,i2,i3,i4,Oper.upon]
      exact hK _ _ ⟨x,Xad (d:=some 96) (v:=S ((u.drop r).take q)) Xal ha rfl hun,hC.step (by decide)⟩
     ·have e82:a'.tmps[82]?.getD undef=(.slice ao out.length co):=Xap (i:=0) Xal ha rfl (by first|simpa using hall|simp [hall]) (by simp)
      have e96:a'.tmps[96]?.getD undef=S ((u.drop r).take q):=Xap (i:=14) Xal ha rfl (by first|simpa using hall|simp [hall]) (by simp)
      have hl:s'.getD 15 false=false:=Xan hun
      obtain ⟨v9,w9,hr9,hf9⟩:=hap w' (hC.bel hl)
      have ha:=ha.trans (Xa6 (L:=ggL ((.slice ao out.length co)) bs os st.length cs0 wr.heap.size (((m:Int)+1)) m ((os+m)) u r q (((u.drop r).take q)) x) (M:=ggL ((.slice ao out.length co)) bs os st.length cs0 wr.heap.size (((m:Int)+1)) m ((os+m)) u r q (((u.drop r).take q)) v9) [15,16] rfl (fun j hne=>by
       rcases j with _|_|_|_|_|_|_|_|_|_|_|_|_|_|_|_|_|j<;>first|rfl|(exact absurd (by decide) hne)|simp) (List.forall_mem_cons.2 ⟨Xan hun,List.forall_mem_cons.2 ⟨Xks hcl (by kernel_rfl) hun,List.forall_mem_nil _⟩⟩))
      refine wpOp_step hoj (fun K' hK=> ?_)
      rw [if_pos (by rfl)]
      refine Lib.wp_append_run _ _ _ _ _ rfl _ _ (by simp [Act.eval,e82,e96]) (by simp [Act.eval,e82,e96]) v9 w9 (hr9 _) ?_
      exact hK _ _ ⟨v9,Xad (d:=some 97) (v:=v9) Xal ha rfl hun,ApC.app hun hf9⟩
     ·have e97:a'.tmps[97]?.getD undef=x:=Xap (i:=15) Xal ha rfl (by first|simpa using hall|simp [hall]) (by simp)
      refine wpOp_step hoj (fun K' hK=> ?_)
      rw [if_pos (by rfl)]
      unfold Oper.wp
      simp [go_sem,e97,Oper.upon]
      exact hK _ _ ⟨x,Xad (d:=some 6) (v:=x) Xal ha rfl hun,hC.step (by decide)⟩
    ·rintro x s' a' w8 hup ha hC
     have hf8:=hC.fin (hup 15 (by decide))
     rw [Xbb _ _ _ _ (fun i hi=>by rw [Nat.zero_add];exact hup i (by simpa using hi))] at ha
     subst ha
     simp only [fillAll,Act.put]
     obtain ⟨ho9,hb9⟩:=hf8
     have Ho9:=Qh ho9
     clear ho9
     go_wp2
     go_roundw
     case rel=>exact ⟨k+1,_,by omega,by go_num,Ho9.out,by simp;omega,Hn.out,hb9⟩
     case measure=>simp [intOf];omega
  ·have Hn:=Qh (show N=(out,0) by have:=Hr.out;rw [List.drop_of_length_le (by omega)] at this;exact this.symm)
   have hcv:=Xrh Hown.out
   go_wp2
   go_ret2
   rw [Hn.out]
   exact ⟨rfl,hb⟩
theorem Xa3 {fn:Func} {p u q:Tmp} {ty:TypeId} (h:fn.results= #[.cell p ty,.tmp u,.tmp q]) (tmps:Array Value) (P:Program) (w:World):
 (results fn tmps).run P w=
   ((asAddr (tmps.getD p undef)).run P w).andThen fun a w₁=>((loadVar ty a).run P w₁).andThen fun v w₂=> .ok (.tuple #[v,tmps.getD u undef,tmps.getD q undef]) w₂:=by
 simp only [results,h]
 simp [Sem.run_bind,Result.andThen]
structure StoOk (L C:Nat) (s:Sto):Prop where
 i0: -9223372036854775808≤s.ses
 i1:s.ses≤9223372036854775807
 str:s.str.length≤L
 cks:s.cks.length≤C
 cx:∀c∈s.cks,XB 65536 c.x
def PutR (I:IH) (w:World) (p:Sto × List Xt × Int) (e:Ending) (w':World):Prop:=
 ∃vc' vx' I',e= .returned (.tuple #[stoV p.1 vc',vx',.int .i64 p.2.2])∧Below w.heap.size w w'∧Ext w.heap.size I I'∧Ok I' w'∧RdS tCk I' vc' p.1.cks∧RdS tXt I' vx' p.2.1
abbrev pkRow (dg:Bytes) (y:Xt):Array Value:= #[S dg,.int .i64 y.s,.int .i64 y.o,.int .i64 y.n]
abbrev pkL (n:Nat) (vk:Value) (dg:Bytes) (y:Xt) (x:A2X):List (Option Tmp × Value):=
 [(some 96,.slice (some ⟨x.e,0,none⟩) 0 0),(some 97,.pointer (some ⟨n,0,none⟩)),(some 98,vk),(some 99,x.v1),(some 100,S dg),(some 101,.agg #[.int .i64 y.s,.int .i64 y.o,.int .i64 y.n]),(some 102,.agg (pkRow dg y)),
  (some 103,.slice (some ⟨x.b,0,none⟩) 1 1),(some 104,x.v2),(some 105,.pointer (some ⟨n,0,none⟩)),(none,undef)]
def PkC (n:Nat) (J:IH) (w3:World) (l:List Ck) (dg:Bytes) (y:Xt) (x:A2X) (s:Array Bool) (w:World):Prop:=
 (s.getD 10 false=false→A2C tCk 181 J w3 l ⟨dg,y⟩ (pkRow dg y) 0 3 7 8 x s w)∧(s.getD 10 false=true→ ∃w0,OwnS tCk 181 J w0 w3.heap.size x.v2 (l++ [⟨dg,y⟩])∧Below w3.heap.size w3 w0∧w=w0.setCell ⟨n,0,none⟩ x.v2)
abbrev puL (n:Nat) (ao:Option Addr) (le cap:Nat) (ses:Int) (str:Bytes) (x:Nat × (Option Addr × Nat)):List (Option Tmp × Value):=
 [(some 18,.pointer (some ⟨n,0,none⟩)),(some 19,.slice ao le cap),(some 20,.slice x.2.1 le x.2.2),(some 21,.pointer (some ⟨n,1,none⟩)),(some 22,.int .i64 ses),(some 23,.pointer (some ⟨n,2,none⟩)),(some 24,S str),(some 25,.agg #[.slice x.2.1 le x.2.2,.int .i64 ses,S str]),(some 7,.pointer (some ⟨x.1,0,none⟩)),(none,undef)]
theorem Xaz {n:Nat} {ao:Option Addr} {le cap:Nat} {ses:Int} {str:Bytes} {x:Nat × (Option Addr × Nat)}:ApartF (puL n ao le cap ses str x):=by
 unfold ApartF
 simp
abbrev pvL (n m bo:Nat) (ak:Option Addr) (le ck:Nat) (ses:Int) (str:Bytes) (ve:Value) (x:Nat × Nat):List (Option Tmp × Value):=
 [(some 108,.agg #[.slice ak le ck,.int .i64 ses,S str]),(some 109,.func (.func 255) #[] #[.pointer (some ⟨bo,0,none⟩)]),(some 110,ve),(none,undef),(some 5,ve),(some 6,.int .i64 0)]
theorem Xbw {n m bo:Nat} {ak:Option Addr} {le ck:Nat} {ses:Int} {str:Bytes} {ve:Value} {x:Nat × Nat}:ApartF (pvL n m bo ak le ck ses str ve x):=by
 unfold ApartF
 simp
set_option maxRecDepth 100000 in
set_option maxHeartbeats 8000000 in
theorem Xuc (L C:Nat) (hL:L≤4294967296) (hC0:C≤400000000) (I:IH) (s:Sto) (vc:Value) (hv:RdS tCk I vc s.cks) (hs:StoOk L C s) (hd:∀c∈s.cks,c.d.length≤32) (c:Bytes) (hc:c.length≤4294967280) (w:World) (hw:Ok I w):
 Calls Tryz.prog 128 #[stoV s vc,S c] w (PutR I w (putP s c)):=by
 have hckn:=hs.cks
 obtain ⟨ao,cap,rfl,_,_,_⟩:=id hv
 have Hcl:=Qh (fun w hw=>Xns I _ s.cks hv w hw (by omega))
 have Hix:=Qh (fun w hw=>Xto I s _ hv (by omega) hd w hw)
 obtain ⟨W2,hW2⟩:∃W2,((w.alloc (.cells #[.slice ao s.cks.length cap,.int .i64 s.ses,S s.str] 89)).alloc (.cells #[.slice none 0 0,.int .i64 0,S []] 89))=W2:=⟨_,rfl⟩
 have hok2:Ok I W2:=by rw [←hW2];exact (hw.alloc _).alloc _
 have hsz2:W2.heap.size=w.heap.size+2:=by rw [←hW2];simp
 have Hr0:=Qh (show W2.heap[w.heap.size]? =some (.cells #[.slice ao s.cks.length cap,.int .i64 s.ses,S s.str] 89 (0,0)) by rw [←hW2];exact (Below.heap_alloc _ _ _ (by simp)).trans (heap_alloc_new w _))
 have Hr1:=Qh (show W2.heap[w.heap.size+1]? =some (.cells #[.slice none 0 0,.int .i64 0,S []] 89 (0,0)) by
  rw [←hW2]
  have h:=heap_alloc_new (w.alloc (.cells #[.slice ao s.cks.length cap,.int .i64 s.ses,S s.str] 89)) (.cells #[.slice none 0 0,.int .i64 0,S []] 89)
  simpa using h)
 have hb2:Below w.heap.size w W2:=by rw [←hW2];exact ((Qb _ _).alloc (Qn _) _).alloc (by simp) _
 have c0:W2.cell? ⟨w.heap.size,0,none⟩=some (.slice ao s.cks.length cap):=(cell_of_row _ _ 0 _ _ _ Hr0.out).trans rfl
 have c1:W2.cell? ⟨w.heap.size,1,none⟩=some (.int .i64 s.ses):=(cell_of_row _ _ 1 _ _ _ Hr0.out).trans rfl
 have c2:W2.cell? ⟨w.heap.size,2,none⟩=some (S s.str):=(cell_of_row _ _ 2 _ _ _ Hr0.out).trans rfl
 have Hs:=Qh hs
 clear hv hs hd
 go_enter Tryz.func128,Tryz.ntmps128
 go_wp2_with fail
 refine Xak (X:=Nat × (Option Addr × Nat)) (puL w.heap.size ao s.cks.length cap s.ses s.str) (RgC W2 2 8 (fun y w=>OwnS tCk 181 I w W2.heap.size (.slice y.1 s.cks.length y.2) s.cks) (fun k w=>w.heap[k]? =some (.cells #[.slice none 0 0,.int .i64 0,S []] 89 (0,0))∧W2.heap.size≤k) (fun x=>x.1) 89 9 211 212 (fun x=> #[.slice x.2.1 s.cks.length x.2.2,.int .i64 s.ses,S s.str]) (fun x=> #[.slice x.2.1 s.cks.length x.2.2,.int .i64 s.ses,S s.str]) (fun x=> #[.slice x.2.1 s.cks.length x.2.2,.int .i64 s.ses,S s.str])) (by kernel_rfl) (by kernel_rfl) ?_ ?_ ?_
 ·exact ⟨(0,default),RgC.start _ _⟩
 ·rintro x s' a' w' i hsz hcl ha hC hi
  obtain ⟨hun,oi,hoi,hall⟩:=mem_ready.1 hi
  rcases i with _|_|_|_|_|_|_|_|_|_|i
  rotate_left 10
  ·simp at hoi
  all_goals
   have hoj:=hoi
   simp at hoi
   subst hoi
   simp [Region.binds] at hall
  ·have e2:a'.tmps[2]?.getD undef= .pointer (some ⟨w.heap.size,0,none⟩):=Xbl ha (by simp)
   refine wpOp_step hoj (fun K' hK=> ?_)
   rw [if_pos (by rfl)]
   unfold Oper.wp
   simp [go_sem,e2,Oper.upon]
   exact hK _ _ ⟨x,Xad (d:=some 18) (v:= .pointer (some ⟨w.heap.size,0,none⟩)) Xaz ha rfl hun,hC.pure (by decide) (by decide) (by decide) (by decide) (by decide)⟩
  ·have e18:a'.tmps[18]?.getD undef= .pointer (some ⟨w.heap.size,0,none⟩):=Xap (i:=0) Xaz ha rfl (by first|simpa using hall|simp [hall]) (by simp)
   have hl:s'.getD 9 false=false:=Xae hcl [1] (by kernel_rfl) (by rfl) hun
   have cq:=Xaa (hC.off hl) c0
   refine wpOp_step hoj (fun K' hK=> ?_)
   rw [if_pos (by rfl)]
   unfold Oper.wp
   simp [go_sem,e18,cq,Oper.upon]
   exact hK _ _ ⟨x,Xad (d:=some 19) (v:= .slice ao s.cks.length cap) Xaz ha rfl hun,hC.pure (by decide) (by decide) (by decide) (by decide) (by decide)⟩
  ·have e19:a'.tmps[19]?.getD undef= .slice ao s.cks.length cap:=Xap (i:=1) Xaz ha rfl (by first|simpa using hall|simp [hall]) (by simp)
   have hl:s'.getD 9 false=false:=Xae hcl [2] (by kernel_rfl) (by rfl) hun
   have hokw:=hok2.below (Qn _) (hC.off hl)
   refine wpOp_step hoj (fun K' hK=> ?_)
   rw [if_pos (by rfl)]
   unfold Oper.wp
   simp [go_sem,e19,Oper.upon]
   refine (Hcl.out _ hokw).mono ?_
   rintro r4 w4 ⟨v7,rfl,ho,hb4⟩
   obtain ⟨a7,k7,rfl⟩:=Xbz ho
   have ha:=ha.trans (Xa6 (L:=puL w.heap.size ao s.cks.length cap s.ses s.str x) (M:=puL w.heap.size ao s.cks.length cap s.ses s.str (x.1,(a7,k7))) [2,7] rfl (fun j hne=>by
    rcases j with _|_|_|_|_|_|_|_|_|_|j<;>first|rfl|(exact absurd (by decide) hne)|simp) (List.forall_mem_cons.2 ⟨Xan hun,List.forall_mem_cons.2 ⟨Xae hcl [2] (by kernel_rfl) (by rfl) hun,List.forall_mem_nil _⟩⟩))
   exact hK _ _ ⟨(x.1,(a7,k7)),Xad (d:=some 20) (v:= .slice (a7,k7).1 s.cks.length (a7,k7).2) Xaz ha rfl hun,hC.call hl hb4 (ho.lower (hC.off hl).size) (fun k hk=>⟨(hb4.block _ (Array.getElem?_eq_some_iff.1 hk.1).1).trans hk.1,hk.2⟩) (by decide) (by decide)⟩
  ·have e2:a'.tmps[2]?.getD undef= .pointer (some ⟨w.heap.size,0,none⟩):=Xbl ha (by simp)
   refine wpOp_step hoj (fun K' hK=> ?_)
   rw [if_pos (by rfl)]
   unfold Oper.wp
   simp [go_sem,e2,Oper.upon]
   exact hK _ _ ⟨x,Xad (d:=some 21) (v:= .pointer (some ⟨w.heap.size,1,none⟩)) Xaz ha rfl hun,hC.pure (by decide) (by decide) (by decide) (by decide) (by decide)⟩
  ·have e21:a'.tmps[21]?.getD undef= .pointer (some ⟨w.heap.size,1,none⟩):=Xap (i:=3) Xaz ha rfl (by first|simpa using hall|simp [hall]) (by simp)
   have hl:s'.getD 9 false=false:=Xae hcl [4] (by kernel_rfl) (by rfl) hun
   have cq:=Xaa (hC.off hl) c1
   refine wpOp_step hoj (fun K' hK=> ?_)
   rw [if_pos (by rfl)]
   unfold Oper.wp
   simp [go_sem,e21,cq,Oper.upon]
   exact hK _ _ ⟨x,Xad (d:=some 22) (v:= .int .i64 s.ses) Xaz ha rfl hun,hC.pure (by decide) (by decide) (by decide) (by decide) (by decide)⟩
  ·have e2:a'.tmps[2]?.getD undef= .pointer (some ⟨w.heap.size,0,none⟩):=Xbl ha (by simp)
   refine wpOp_step hoj (fun K' hK=> ?_)
   rw [if_pos (by rfl)]
   unfold Oper.wp
   simp [go_sem,e2,Oper.upon]
   exact hK _ _ ⟨x,Xad (d:=some 23) (v:= .pointer (some ⟨w.heap.size,2,none⟩)) Xaz ha rfl hun,hC.pure (by decide) (by decide) (by decide) (by decide) (by decide)⟩
  ·have e23:a'.tmps[23]?.getD undef= .pointer (some ⟨w.heap.size,2,none⟩):=Xap (i:=5) Xaz ha rfl (by first|simpa using hall|simp [hall]) (by simp)
   have hl:s'.getD 9 false=false:=Xae hcl [6] (by kernel_rfl) (by rfl) hun
   have cq:=Xaa (hC.off hl) c2
   refine wpOp_step hoj (fun K' hK=> ?_)
   rw [if_pos (by rfl)]
   unfold Oper.wp
   simp [go_sem,e23,cq,Oper.upon]
   exact hK _ _ ⟨x,Xad (d:=some 24) (v:=S s.str) Xaz ha rfl hun,hC.pure (by decide) (by decide) (by decide) (by decide) (by decide)⟩
  ·have e20:a'.tmps[20]?.getD undef= .slice x.2.1 s.cks.length x.2.2:=Xap (i:=2) Xaz ha rfl (by first|simpa using hall|simp [hall]) (by simp)
   have e22:a'.tmps[22]?.getD undef= .int .i64 s.ses:=Xap (i:=4) Xaz ha rfl (by first|simpa using hall|simp [hall]) (by simp)
   have e24:a'.tmps[24]?.getD undef=S s.str:=Xap (i:=6) Xaz ha rfl (by first|simpa using hall|simp [hall]) (by simp)
   refine wpOp_step hoj (fun K' hK=> ?_)
   rw [if_pos (by rfl)]
   unfold Oper.wp
   simp [go_sem,e20,e22,e24,Oper.upon]
   exact hK _ _ ⟨x,Xad (d:=some 25) (v:= .agg #[.slice x.2.1 s.cks.length x.2.2,.int .i64 s.ses,S s.str]) Xaz ha rfl hun,hC.pure (by decide) (by decide) (by decide) (by decide) (by decide)⟩
  ·have hl:s'.getD 9 false=false:=Xae hcl [8] (by kernel_rfl) (by rfl) hun
   refine wpOp_step hoj (fun K' hK=> ?_)
   rw [if_pos (by rfl)]
   unfold Oper.wp
   simp [go_sem,Oper.upon]
   have ha:=ha.trans (Xa6 (L:=puL w.heap.size ao s.cks.length cap s.ses s.str x) (M:=puL w.heap.size ao s.cks.length cap s.ses s.str (w'.heap.size,x.2)) [8] rfl (fun j hne=>by
    rcases j with _|_|_|_|_|_|_|_|_|_|j<;>first|rfl|(exact absurd (by decide) hne)|simp) (List.forall_mem_cons.2 ⟨Xan hun,List.forall_mem_nil _⟩))
   exact hK _ _ ⟨(w'.heap.size,x.2),Xad (d:=some 7) (v:= .pointer (some ⟨w'.heap.size,0,none⟩)) Xaz ha rfl hun,hC.made hl ((Qb _ _).alloc (Qn _) _) ⟨heap_alloc_new _ _,(hC.off hl).size⟩ (fun y hy=>hy.alloc _) (by decide) (by decide)⟩
  ·have e25:a'.tmps[25]?.getD undef= .agg #[.slice x.2.1 s.cks.length x.2.2,.int .i64 s.ses,S s.str]:=Xap (i:=7) Xaz ha rfl (by first|simpa using hall|simp [hall]) (by simp)
   have e7:a'.tmps[7]?.getD undef= .pointer (some ⟨x.1,0,none⟩):=Xap (i:=8) Xaz ha rfl (by first|simpa using hall|simp [hall]) (by simp)
   refine wpOp_step hoj (fun K' hK=> ?_)
   rw [if_pos (by rfl)]
   have hsc:s'.getD 2 false=true:=by first|simpa using hall|simp [hall]
   have hsa:s'.getD 8 false=true:=by first|simpa using hall|simp [hall]
   have hlo:s'.getD 9 false=false:=Xan hun
   have hrow:w'.heap[x.1]? =some (.cells _ 89 (0,0)):=(hC.fa hsa hlo).1
   refine Xai 89 _ _ rfl (x.1) 0 [.slice x.2.1 s.cks.length x.2.2,.int .i64 s.ses,S s.str] (.agg #[.slice x.2.1 s.cks.length x.2.2,.int .i64 s.ses,S s.str]) (by simp [Act.eval,e25,e7]) (by simp [Act.eval,e25,e7]) (by rfl) _ _ hrow (by simp) (by kernel_rfl) (by simp [Value.oneCell']) ?_
   exact hK _ _ ⟨x,Xad (d:=none) (v:=undef) Xaz ha rfl hun,hC.put1 hun (hC.fc hsc hlo) (hC.fa hsa hlo) (Xao (by simp [hsz])) (Xao (by simp [hsz])) (by decide) hrow (by rfl)⟩
 ·rintro x s' a' w8 hup ha hC
  obtain ⟨wb,hbW,hGc,hGa,hgr,hrow⟩:=hC.on (hup 9 (by decide))
  simp only [ite_self] at hrow
  rw [Xbb _ _ _ _ (fun i hi=>by rw [Nat.zero_add];exact hup i (by simpa using hi))] at ha
  subst ha
  simp only [fillAll,Act.put]
  obtain ⟨m,ao7,k7⟩:=x
  dsimp only at hGc hGa hgr hrow ⊢
  have hne:=Xbt hGc hGa.1 (by decide)
  have ho8:=hGc.kept hgr (.inr hne)
  have hm:w.heap.size+2≤m:=by have:=hGa.2;omega
  have hok8:Ok I w8:=(hok2.below (Qn _) hbW).grown hgr (fun g e=>by cases e;exact hw.fresh (by omega))
  have hbb:Below w.heap.size w w8:=(hb2.trans (hbW.mono hb2.size)).grown hgr (by have:=hbW.size;omega) (fun k e=>by cases e;omega)
  have hz:∀b,b<w.heap.size+2→w8.heap[b]? =W2.heap[b]? :=fun b hb=>(hgr.block _ (by have:=hbW.size;omega) (fun e=>by cases e;omega)).trans (hbW.block _ (by omega))
  have Hr8:=Qh ((hz (w.heap.size+1) (by omega)).trans Hr1.out)
  have Hr9:=Qh ((hz w.heap.size (by omega)).trans Hr0.out)
  have a0:w8.cell? ⟨w.heap.size,0,none⟩=some (.slice ao s.cks.length cap):=(cell_of_row _ _ 0 _ _ _ Hr9.out).trans rfl
  have a1:w8.cell? ⟨w.heap.size,1,none⟩=some (.int .i64 s.ses):=(cell_of_row _ _ 1 _ _ _ Hr9.out).trans rfl
  have a2:w8.cell? ⟨w.heap.size,2,none⟩=some (S s.str):=(cell_of_row _ _ 2 _ _ _ Hr9.out).trans rfl
  have Hrm:=Qh hrow
  have Hi3:=Qh (show (Tryz.prog.info? 89).map (·.size)=some 3 by kernel_rfl)
  have Ho8:=Qh (ho8.lower (show w.heap.size+2≤W2.heap.size by omega))
  have Hne:=Qh hne
  by_cases hbad:s.ses<1∨255<s.ses∨65536<c.length
  ·obtain ⟨J,hxJ,hokJ,hrJ,_⟩:=ho8.freeze hok8 (fun b hb=>hw.fresh (by omega))
   have HJ:=Qh (And.intro (hxJ.mono (show w.heap.size≤W2.heap.size by omega)) (And.intro hokJ hrJ))
   have hJ1:J (w.heap.size+1)=none:=by rw [hxJ _ (by omega)];exact hw.fresh (by omega)
   have d0:w8.cell? ⟨m,0,none⟩=some (.slice ao7 s.cks.length k7):=(cell_of_row _ _ 0 _ _ _ hrow).trans rfl
   have d1:w8.cell? ⟨m,1,none⟩=some (.int .i64 s.ses):=(cell_of_row _ _ 1 _ _ _ hrow).trans rfl
   have d2:w8.cell? ⟨m,2,none⟩=some (S s.str):=(cell_of_row _ _ 2 _ _ _ hrow).trans rfl
   have g0:=frozen_of_row w8 _ 0 _ _ Hr8.out
   have g1:=frozen_of_row w8 _ 1 _ _ Hr8.out
   have g2:=frozen_of_row w8 _ 2 _ _ Hr8.out
   have k0:w8.cell? ⟨w.heap.size+1,0,none⟩=some (.slice none 0 0):=(cell_of_row _ _ 0 _ _ _ Hr8.out).trans rfl
   have k1:w8.cell? ⟨w.heap.size+1,1,none⟩=some (.int .i64 0):=(cell_of_row _ _ 1 _ _ _ Hr8.out).trans rfl
   have k2:w8.cell? ⟨w.heap.size+1,2,none⟩=some (S []):=(cell_of_row _ _ 2 _ _ _ Hr8.out).trans rfl
   have hne1:m≠w.heap.size+1:=by omega
   have hne2:w.heap.size+1≠m:=by omega
   clear hz hGc hGa hgr hrow hne ho8 hbW hC hup hxJ hokJ hrJ c0 c1 c2 Hr0 Hr1 Hcl hok8 Hix Hs Ho8 Hne
   by_cases h1:s.ses<1
   ·have e1:decide (s.ses<1)=true:=Qt h1
    have Hn:=Qh (show putP s c=(s,[],1) by rw [putP,if_pos (.inl h1)])
    clear h1 hbad
    go_wp2
    refine bodyPost_ret (v:= .tuple #[stoV s (.slice ao7 s.cks.length k7),.slice none 0 0,.int .i64 1]) ?_ rfl ?_
    ·rw [Xa3 rfl]
     simp [asAddr,run_loadVar_row _ (w.heap.size+1) 89 89 #[.slice ao7 s.cks.length k7,.int .i64 s.ses,S s.str] (0,0) _ (Xc5 Hr8.out) Tryz.underlying89 rfl Hi3.out]
    ·rw [Hn.out]
     exact ⟨_,_,J,rfl,((hbb.setCell (p:=⟨w.heap.size+1,0,none⟩) (Nat.le_succ _) _).setCell (p:=⟨w.heap.size+1,1,none⟩) (Nat.le_succ _) _).setCell (p:=⟨w.heap.size+1,2,none⟩) (Nat.le_succ _) _,HJ.out.1,((HJ.out.2.1.setCell hJ1 _).setCell hJ1 _).setCell hJ1 _,HJ.out.2.2,RdS.nil _ _⟩
   have e1:decide (s.ses<1)=false:=Qf h1
   by_cases h2:255<s.ses
   ·have e2:decide (255<s.ses)=true:=Qt h2
    have Hn:=Qh (show putP s c=(s,[],1) by rw [putP,if_pos (.inr h2)])
    clear h1 h2 hbad
    go_wp2
    refine bodyPost_ret (v:= .tuple #[stoV s (.slice ao7 s.cks.length k7),.slice none 0 0,.int .i64 1]) ?_ rfl ?_
    ·rw [Xa3 rfl]
     simp [asAddr,run_loadVar_row _ (w.heap.size+1) 89 89 #[.slice ao7 s.cks.length k7,.int .i64 s.ses,S s.str] (0,0) _ (Xc5 Hr8.out) Tryz.underlying89 rfl Hi3.out]
    ·rw [Hn.out]
     exact ⟨_,_,J,rfl,((hbb.setCell (p:=⟨w.heap.size+1,0,none⟩) (Nat.le_succ _) _).setCell (p:=⟨w.heap.size+1,1,none⟩) (Nat.le_succ _) _).setCell (p:=⟨w.heap.size+1,2,none⟩) (Nat.le_succ _) _,HJ.out.1,((HJ.out.2.1.setCell hJ1 _).setCell hJ1 _).setCell hJ1 _,HJ.out.2.2,RdS.nil _ _⟩
   have e2:decide (255<s.ses)=false:=Qf h2
   have h3:65536<c.length:=by omega
   have e3:decide ((65536:Int)<(c.length:Int))=true:=Qt (by omega)
   have Hn:=Qh (show putP s c=(s,[],6) by rw [putP,if_neg (by omega),if_pos h3])
   clear h1 h2 h3 hbad
   go_wp2
   refine bodyPost_ret (v:= .tuple #[stoV s (.slice ao7 s.cks.length k7),.slice none 0 0,.int .i64 6]) ?_ rfl ?_
   ·rw [Xa3 rfl]
    simp [asAddr,run_loadVar_row _ (w.heap.size+1) 89 89 #[.slice ao7 s.cks.length k7,.int .i64 s.ses,S s.str] (0,0) _ (Xc5 Hr8.out) Tryz.underlying89 rfl Hi3.out]
   ·rw [Hn.out]
    exact ⟨_,_,J,rfl,((hbb.setCell (p:=⟨w.heap.size+1,0,none⟩) (Nat.le_succ _) _).setCell (p:=⟨w.heap.size+1,1,none⟩) (Nat.le_succ _) _).setCell (p:=⟨w.heap.size+1,2,none⟩) (Nat.le_succ _) _,HJ.out.1,((HJ.out.2.1.setCell hJ1 _).setCell hJ1 _).setCell hJ1 _,HJ.out.2.2,RdS.nil _ _⟩
  have e1:decide (s.ses<1)=false:=Qf (by omega)
  have e2:decide (255<s.ses)=false:=Qf (by omega)
  have e3:decide ((65536:Int)<(c.length:Int))=false:=Qf (by omega)
  have h1:1≤s.ses∧s.ses≤255∧c.length≤65536:=by omega
  obtain ⟨R,hR⟩:∃R,(segsP c).foldl putG (s,[])=R:=⟨_,rfl⟩
  have Hn:=Qh (show putP s c=(R.1,R.2,0) by rw [putP,if_neg (by omega),if_neg (by omega),hR])
  have HR:=Qh (show ((segsP c).drop 0).foldl putG (s,[])=R from hR)
  have Hsp:=Qh (fun w=>Xsh I c hc w)
  have Hform:=Qh (Xgq (s:=c))
  have hsz:segSz ((segsP c).drop 0)≤65536:=by rw [List.drop_zero,Xen];exact h1.2.2
  have hsl:(segsP c).length≤65536:=Nat.le_trans (Xm5 c) h1.2.2
  have HB:=Qh (show BdP L C 0 s [] from ⟨by omega,by omega,by have:=Hs.out.str;omega,by have:=Hs.out.cks;omega,Hs.out.cx,Qn _,fun _ h=>(by cases h)⟩)
  generalize segsP c=segs at HR Hsp Hform hsz hsl
  have Hfr:=Qh (fun b (hb:w.heap.size≤b)=>hw.fresh hb)
  clear hz hGc hGa hgr hrow hne ho8 hbW hC hup c0 c1 c2 Hr0 Hr1 Hcl hR hbad
  go_wp2_with fail
  refine (Hix.out _ hok8).mono ?_
  rintro e3' wi ⟨B,D,rfl,hBl,hmap,hmx,hbi⟩
  have hmap:=Qh hmap
  have hmx:=Qh hmx
  go_wp2_with fail
  refine (Xll _).mono ?_
  rintro e4 wj ⟨rfl,rfl⟩
  have hsz8:=hbi.size
  have hsz8':=hbb.size
  have hmlt:=(Array.getElem?_eq_some_iff.1 Hrm.out).1
  have HM0:=Qh (show PgM w.heap.size m B wi.heap.size #[.slice ao s.cks.length cap,.int .i64 s.ses,S s.str] w I (wi.alloc (.cells #[.slice none 0 0] 33)) s s.cks [] (.slice ao7 s.cks.length k7) (.slice none 0 0) s.cks.length from by
   refine ⟨(Below.heap_alloc _ _ _ (by omega)).trans ((hbi.block _ hmlt).trans Hrm.out),(Below.heap_alloc _ _ _ (by have:=(Array.getElem?_eq_some_iff.1 Hr9.out).1;omega)).trans ((hbi.block _ (Array.getElem?_eq_some_iff.1 Hr9.out).1).trans Hr9.out),(Below.heap_alloc _ _ _ (by have:=(Array.getElem?_eq_some_iff.1 Hr8.out).1;omega)).trans ((hbi.block _ (Array.getElem?_eq_some_iff.1 Hr8.out).1).trans Hr8.out),⟨D,hmap.out.alloc _,hmx.out⟩,heap_alloc_new wi _,(Ho8.out.below hbi).alloc _,OwnS.nil _ _ _ _ _,(hok8.below (Qn _) hbi).alloc _,fun b hb=>Hfr.out b ?_,fun g hg=>Hfr.out g (by have:=(Xar Ho8.out hg).1;omega),fun g hg=>(by cases hg),hm,by omega,by omega,?_,Qn _,(hbb.trans (hbi.mono hsz8')).alloc (by omega) _⟩
   ·rcases hb with rfl|rfl|rfl|rfl|rfl<;>omega
   ·have:=hmap.out.lt;simp;omega)
  clear hmap hmx hBl hbi hbb Ho8 Hne Hrm Hr8 Hr9 hok8 a0 a1 a2 hmlt hsz8 hsz8' Hix
  generalize hbo:wi.heap.size=bo at HM0 ⊢
  generalize (wi.alloc (.cells #[.slice none 0 0] 33))=w5 at HM0 ⊢
  clear hbo
  go_wp2_with fail
  refine (Hsp.out _).mono ?_
  rintro e6 w6 ⟨vs,rfl,hos,hb6⟩
  obtain ⟨J0,hx0,hok0,hrs,_⟩:=hos.freeze (HM0.out.ok.below (Qn _) hb6) (fun b hb=>HM0.out.ok.fresh hb)
  have HM1:=Qh (HM0.out.ext hb6 hx0 hok0)
  have Hx0:=Qh (hx0.mono HM0.out.bel.size)
  have Hrs:=Qh hrs
  have hsl2:=hrs.len_le
  have hckn2:=Hs.out.cks
  obtain ⟨as',cs',rfl,_,_,_⟩:=id hrs
  clear HM0 Hsp hos hb6 hx0 hok0 hrs Hs
  go_wp2_with fail
  go_loopw [48] (fun s48 wr=> ∃(k mc nn:Nat) (q:Sto) (l:List Xt) (vk ve:Value) (J:IH),k≤segs.length∧s48= .int .i64 k∧(segs.drop k).foldl putG (q,l)=R∧BdP L C mc q l∧mc+segSz (segs.drop k)≤65536∧nn≤C+mc∧PgM w.heap.size m B bo #[.slice ao s.cks.length cap,.int .i64 s.ses,S s.str] w J wr q q.cks l vk ve nn∧q.ses=s.ses∧RdS tSg J (.slice as' segs.length cs') segs∧Ext w.heap.size I J) (fun i _=>segs.length-(intOf i).toNat)
  case atStart=>exact ⟨0,0,_,s,[],_,_,J0,Nat.zero_le _,rfl,HR.out,HB.out,by omega,hckn2,HM1.out,rfl,Hrs.out,Hx0.out⟩
  case round=>
   clear HM1 HR HB Hx0 Hrs
   obtain ⟨k,mc,nn,q,l,vk,ve,J,hk,rfl,hr,hbd,hms,hnn,hM,hqs,hrs,hx⟩:=hrel
   have Hr:=Qh hr
   have HBd:=Qh hbd
   have HM:=Qh hM
   have Hrs:=Qh hrs
   have Hx:=Qh hx
   have hok:Ok J wr:=hM.ok
   have hlen:=hbd.len
   have hsw:=hM.bel.size
   clear hr hbd hM hrs hx
   by_cases hlt:k<segs.length
   ·obtain ⟨g,b,off,cap',hlg,hvv,x0,x1⟩:=sgAt Hrs.out hok k hlt
    cases hvv
    have Hgf:=Qh (Hform.out g (by rw [←hlg];exact List.getElem_mem hlt))
    have hsd:segSz (segs.drop k)=g.n.toNat+g.d.length+segSz (segs.drop (k+1)):=by rw [List.drop_eq_getElem_cons hlt,hlg,Xdu]
    have Hst:=Qh (Xk3 hlt hlg Hr.out)
    rw [hsd] at hms
    have HMa:=Qh (HM.out.past (.cells #[.int .i64 g.n,S g.d] 239))
    have hoka:Ok J (wr.alloc (.cells #[.int .i64 g.n,S g.d] 239)):=hok.alloc _
    clear hsd hlg Hr HM
    by_cases hdd:g.d= []
    ·have hg0:0<g.n:=by rcases Hgf.out with ⟨_,h⟩|⟨h,_⟩;exact absurd hdd h;exact h
     obtain ⟨p1,p2,p3,p4⟩:=Xdf hdd
     have hgl:g.d.length=0:=by rw [hdd];rfl
     have hxb:XB 65536 ⟨0,0,g.n⟩:=by unfold XB;simp only;omega
     have Hn2:=Qh (show (segs.drop (k+1)).foldl putG (q,addX l ⟨0,0,g.n⟩)=R by have:=Hst.out;rwa [putG,if_pos hdd] at this)
     have HB2:=Qh (HBd.out.add hxb)
     have hxs:=fun z hz=>(HBd.out.xs z hz).mono (show (65536*mc:Int)≤1099511627776 by omega)
     have hxb2:=hxb.mono (show (65536:Int)≤1099511627776 by omega)
     clear hdd Hst
     go_wp2_with fail
     refine (Xrg J bo (w.heap.size+2) _ _ ⟨0,0,g.n⟩ _ HMa.out.ox HMa.out.rb (by have:=HMa.out.lt;omega) (by omega) hxs hxb2).mono ?_
     rintro e9 w9 ⟨u9,v9,rfl,hr9,ho9,hg9,hl9⟩
     have HM9:=Qh (HMa.out.coll hr9 ho9 hg9 hl9)
     clear hr9 ho9 hg9 hl9
     go_wp2
     go_roundw
     case rel=>exact ⟨k+1,mc+1,nn,q,_,_,_,J,by omega,by go_num,Hn2.out,HB2.out,by omega,by omega,HM9.out,hqs,Hrs.out,Hx.out⟩
     case measure=>simp [intOf];omega
    ·obtain ⟨p1,p2,p3,p4⟩:=Xde hdd
     have hcl:=Xfm g.d
     have Hcm:=Qh (fun x (hx:x∈chunksP g.d)=>show x.length≤65536 by have:=Xec hx;rw [Xho] at this;omega)
     have Hst2:=Qh (show (segs.drop (k+1)).foldl putG (((chunksP g.d).drop 0).foldl putO (q,l))=R by have:=Hst.out;rwa [putG,if_neg hdd] at this)
     have Hsp:=Qh (fun w=>Xts J g.d (by omega) w)
     obtain ⟨Q,hQ⟩:∃Q,((chunksP g.d).drop 0).foldl putO (q,l)=Q:=⟨_,rfl⟩
     have HQ:=Qh hQ
     rw [hQ] at Hst2
     have hms2:mc+(chunksP g.d).length+segSz (segs.drop (k+1))≤65536:=by omega
     generalize chunksP g.d=cs at hcl Hcm HQ Hsp hms2
     clear hdd hQ Hst hms
     go_wp2_with fail
     refine (Hsp.out _).mono ?_
     rintro e3 w3 ⟨v3,rfl,ho3,hb3⟩
     obtain ⟨J3,hx3,hok3,hrc,_⟩:=ho3.freeze (hoka.below (Qn _) hb3) (fun b hb=>hoka.fresh hb)
     have HM3:=Qh (HMa.out.ext hb3 hx3 hok3)
     have Hx3:=Qh (Hx.out.trans hx3 (by simp;omega))
     have Hrs3:=Qh (Hrs.out.mono (hx3.keep hoka (Qn _)))
     have Hrc:=Qh hrc
     have hrl:=hrc.len_le
     obtain ⟨ac,cc,rfl,_,_,_⟩:=id hrc
     have HB3:=HBd
     clear ho3 hb3 hx3 hok3 hrc HMa HBd Hx Hrs x0 x1 hlen hok hoka
     go_wp2_with fail
     go_loopw [64] (fun s64 wr=> ∃(j mc nn:Nat) (q:Sto) (l:List Xt) (vk ve:Value) (J:IH),j≤cs.length∧s64= .int .i64 j∧(cs.drop j).foldl putO (q,l)=Q∧BdP L C mc q l∧mc+(cs.length-j)+segSz (segs.drop (k+1))≤65536∧nn≤C+mc∧PgM w.heap.size m B bo #[.slice ao s.cks.length cap,.int .i64 s.ses,S s.str] w J wr q q.cks l vk ve nn∧q.ses=s.ses∧RdS tSg J (.slice (some ⟨b,off,none⟩) segs.length cs') segs∧RdS tStr J (.slice ac cs.length cc) cs∧Ext w.heap.size I J) (fun i _=>cs.length-(intOf i).toNat)
     case atStart=>exact ⟨0,mc,nn,q,l,_,_,J3,Nat.zero_le _,rfl,HQ.out,HB3.out,by omega,hnn,HM3.out,hqs,Hrs3.out,Hrc.out,Hx3.out⟩
     case round=>
      clear HM3 HQ HB3 Hx3 Hrs3 Hrc hms2 hnn hqs
      obtain ⟨j,mc,nn,q,l,vk,ve,J,hj,rfl,hr,hbd,hms,hnn,hM,hqs,hrs,hrc,hx⟩:=hrel
      have Hr:=Qh hr
      have HBd:=Qh hbd
      have HM:=Qh hM
      have Hrs:=Qh hrs
      have Hrc:=Qh hrc
      have Hx:=Qh hx
      have Hqs:=Qh hqs
      have hok:Ok J wr:=hM.ok
      obtain ⟨ak,ck,rfl⟩:=Xbz hM.ck
      have hlen:=hbd.len
      have hckl:=hbd.cks
      have hstl:=hbd.str
      clear hr hbd hM hrs hx hrc hqs
      by_cases hjt:j<cs.length
      ·obtain ⟨x,bz,offz,capz,hlz,hvv,x0⟩:=Xn6 Hrc.out hok j hjt
       cases hvv
       have hxm:x.length≤65536:=Hcm.out x (by rw [←hlz];exact List.getElem_mem hjt)
       have Hst:=Qh (Xk3 hjt hlz Hr.out)
       have HMa:=Qh (HM.out.past (.cells #[S x] 9))
       have Hsum:=Qh (Xl5 wr.heap.size x (by omega) (wr.alloc (.cells #[S x] 9)) (by simp) (by simp))
       have hdl:=Xb7 x
       obtain ⟨dg,hdg⟩:∃dg,sumP x=dg:=⟨_,rfl⟩
       have Hhit:=Qh (fun y (h:findX q.cks (sumP x)=some y)=>Xqb (l:=l) h)
       have Hnew:=Qh (fun (h:findX q.cks (sumP x)=none)=>Xqa (l:=l) h)
       rw [hdg] at Hsum Hhit Hnew hdl
       clear hlz Hr HM hdg
       go_wp2_with fail
       refine Hsum.out.mono ?_
       rintro e5 w5 ⟨rfl,hb5⟩
       have HM5:=Qh (HMa.out.below hb5)
       clear x0 hb5 HMa Hsum hok
       obtain ⟨D,hD1,hD2⟩:=HM5.out.rm
       have hlk:=Xwc hD1 hD2 (p:=dg) (by omega)
       have hxs:=fun z hz=>(HBd.out.xs z hz).mono (show (65536*mc:Int)≤1099511627776 by omega)
       have Hfd:=Qh (show findR q.cks dg=match findX q.cks dg with|some x=>(x,true)|none=>(⟨0,0,0⟩,false) from rfl)
       have Hmm:=Qh (fun y (h:findX q.cks dg=some y)=>Xhh h)
       cases hfx:findX q.cks dg with
       |some y=>
        rw [hfx] at Hfd
        rw [Hfd.out] at hlk
        have hyb:XB 65536 y:=by
         obtain ⟨z,hz,rfl⟩:=Hmm.out y hfx
         exact HBd.out.cx z hz
        have hyb2:=hyb.mono (show (65536:Int)≤1099511627776 by omega)
        have Hn2:=Qh (show (cs.drop (j+1)).foldl putO (q,addX l y)=Q by have:=Hst.out;rwa [Hhit.out y hfx] at this)
        have HB2:=Qh (HBd.out.add hyb)
        have HM6:=Qh (HM5.out.past (.cells #[.int .i64 y.s,.int .i64 y.o,.int .i64 y.n] 110))
        clear hfx Hfd Hmm Hhit Hnew Hst hD1 hD2
        go_wp2_with fail
        refine (Xrg J bo (w.heap.size+2) _ _ y _ HM6.out.ox HM6.out.rb (by have:=HM6.out.lt;omega) (by omega) hxs hyb2).mono ?_
        rintro e9 w9 ⟨u9,v9,rfl,hr9,ho9,hg9,hl9⟩
        have HM9:=Qh (HM6.out.coll hr9 ho9 hg9 hl9)
        clear hr9 ho9 hg9 hl9
        go_wp2
        go_roundw
        case rel=>exact ⟨j+1,mc+1,nn,q,_,_,_,J,by omega,by go_num,Hn2.out,HB2.out,by omega,by omega,HM9.out,Hqs.out,Hrs.out,Hrc.out,Hx.out⟩
        case measure=>simp [intOf];omega
       |none=>
        rw [hfx] at Hfd
        rw [Hfd.out] at hlk
        have Hn2:=Qh (show (cs.drop (j+1)).foldl putO (⟨q.cks++ [⟨dg,newX q x⟩],q.ses,q.str++x⟩,addX l (newX q x))=Q by have:=Hst.out;rwa [Hnew.out hfx] at this)
        have HB2:=Qh (HBd.out.grow' hL (by omega) hxm (dg:=dg))
        have hnb:=Xjb HBd.out hL (by omega) hxm
        have hnb2:=hnb.mono (show (65536:Int)≤1099511627776 by omega)
        have hMx:=Xnf hD2 hD1.isMap (c:=⟨dg,newX q x⟩) hfx
        have HMx:=Qh hMx
        have Hkey:=Qh (mkey dg (by omega))
        have HM6:=Qh (HM5.out.past (.cells #[.int .i64 q.ses,.int .i64 (q.str.length:Nat),.int .i64 (x.length:Nat)] 110))
        have HD6:=Qh (hD1.alloc (.cells #[.int .i64 q.ses,.int .i64 (q.str.length:Nat),.int .i64 (x.length:Nat)] 110))
        have r5:=cell_of_row w5 m 2 _ _ _ HM5.out.ro
        have c2:w5.cell? ⟨m,2,none⟩=some (S q.str):=r5.trans rfl
        have n1:w5.cell? ⟨w.heap.size,1,none⟩=some (.int .i64 s.ses):=(cell_of_row w5 w.heap.size 1 _ _ _ HM5.out.r0).trans rfl
        have n1q:w5.cell? ⟨w.heap.size,1,none⟩=some (.int .i64 q.ses):=by rw [Hqs.out];exact n1
        have z1:=Xab (.cells #[.int .i64 0,.int .i64 0,.int .i64 0] 110) n1q
        have z2:=Xab (.cells #[.int .i64 0,.int .i64 0,.int .i64 0] 110) c2
        have hlm:=HM5.out.lt
        have hneN:w.heap.size≠w5.heap.size:=by omega
        have hneM:m≠w5.heap.size:=by omega
        clear hfx Hfd Hmm Hhit Hnew Hst hD1 hD2 hMx r5 n1
        have Hxb6:=Qh (heap_alloc_new w5 (.cells #[.int .i64 q.ses,.int .i64 (q.str.length:Nat),.int .i64 (x.length:Nat)] 110))
        have hB5:=HM5.out.hB
        have hnw:=HM5.out.bel.size
        obtain ⟨bx,hbx⟩:∃bx,w5.heap.size=bx:=⟨_,rfl⟩
        rw [hbx] at Hxb6 hneN hneM hB5 hnw
        have hbo5:=HM5.out.lt.2.1
        rw [hbx] at hbo5
        have hJx:J bx=none:=by rw [←hbx];exact HM5.out.ok.fresh (Qn _)
        go_wp2_with (first
         |(at_mapUpdate;refine wpList_mapUpdate_own _ rfl _ _ _ 230 rfl 9 110 mlaw Tryz.underlying230 xElem B nn D rfl HD6.out (by unfold maxLen;omega) _ _ _ rfl rfl Hkey.out _ [] (Xir (newX q x)) ?_)
         |go_in)
        intro w7 ho7 hg7
        have HM7:=Qh (HM6.out.mapped hg7 ho7 HMx.out)
        have hxb7:=(hg7.block bx (by simp;omega) (fun e=>by cases e;omega)).trans Hxb6.out
        have Hxb7:=Qh hxb7
        have y0:w7.cell? ⟨bx,0,none⟩=some (.int .i64 q.ses):=(cell_of_row w7 _ 0 _ _ _ hxb7).trans rfl
        have y1:w7.cell? ⟨bx,1,none⟩=some (.int .i64 (q.str.length:Nat)):=(cell_of_row w7 _ 1 _ _ _ hxb7).trans rfl
        have y2:w7.cell? ⟨bx,2,none⟩=some (.int .i64 (x.length:Nat)):=(cell_of_row w7 _ 2 _ _ _ hxb7).trans rfl
        have m0:w7.cell? ⟨m,0,none⟩=some (.slice ak q.cks.length ck):=(cell_of_row w7 _ 0 _ _ _ HM7.out.ro).trans rfl
        have g0:=frozen_of_row w7 _ 0 _ _ HM7.out.ro
        have hvk:=HM7.out.vk_ne.1
        have hsz7:=HM7.out.lt
        clear HM6 HD6 HMx Hkey ho7 hg7 hxb7 z1 z2 c2 n1q Hxb6
        go_wp2_with (at_builtin;go_loud (refine Xbk (w0:=w7) Xvs rfl _ _ rfl (w.heap.size+2) _ q.cks rfl HM7.out.ck ⟨dg,newX q x⟩ [S dg,.int .i64 q.ses,.int .i64 (q.str.length:Nat),.int .i64 (x.length:Nat)] _ (by first|rfl|simp [Act.eval]) rfl (by omega) (by omega) (by omega) ?_))
        intro v9 w9 hown9 hg9 hl9
        obtain ⟨a9,n9,k9,rfl⟩:=Xdk hown9
        have co9:=Xah hg9 hvk m0
        have fo9:=Xcu hg9 hvk m0 g0
        have HM9:=Qh (HM7.out.added (q':=⟨q.cks++ [⟨dg,newX q x⟩],q.ses,q.str⟩) hown9 hg9 hl9 rfl rfl)
        have hxb9:=(heap_setCell_other w9 ⟨m,0,none⟩ bx (.slice a9 n9 k9) (by show bx≠m;omega)).trans ((hg9.block bx (Array.getElem?_eq_some_iff.1 Hxb7.out).1 (fun e=>Xbt HM7.out.ck Hxb7.out (by decide) e.symm)).trans Hxb7.out)
        have s2:(w9.setCell ⟨m,0,none⟩ (.slice a9 n9 k9)).cell? ⟨m,2,none⟩=some (S q.str):=(cell_of_row _ _ 2 _ _ _ HM9.out.ro).trans rfl
        have t2:=frozen_of_row _ _ 2 _ _ HM9.out.ro
        have HM10:=Qh (HM9.out.wrote (q.str++x))
        have hxb10:=(heap_setCell_other _ ⟨m,2,none⟩ bx (S (q.str++x)) (by show bx≠m;omega)).trans hxb9
        have x0:=(cell_of_row _ _ 0 _ _ _ hxb10).trans rfl
        have x1:=(cell_of_row _ _ 1 _ _ _ hxb10).trans rfl
        have x2:=(cell_of_row _ _ 2 _ _ _ hxb10).trans rfl
        have hst2:¬9223372036854775807<q.str.length+x.length:=by omega
        clear HM7 y0 y1 y2 m0 g0 hown9 hg9 hl9 hxb9 hxb10 Hxb7
        go_wp2_with fail
        refine (Xrg J bo (w.heap.size+2) _ _ (newX q x) _ HM10.out.ox HM10.out.rb (by have:=HM10.out.lt;omega) (by omega) hxs hnb2).mono ?_
        rintro e11 w11 ⟨u11,v11,rfl,hr11,ho11,hg11,hl11⟩
        have HM11:=Qh (HM10.out.coll hr11 ho11 hg11 hl11)
        clear hr11 ho11 hg11 hl11 s2 t2 x0 x1 x2 co9 fo9
        go_wp2
        go_roundw
        case rel=>exact ⟨j+1,mc+1,nn+1,_,_,_,_,J,by omega,by go_num,Hn2.out,HB2.out,by omega,by omega,HM11.out,Hqs.out,Hrs.out,Hrc.out,Hx.out⟩
        case measure=>simp [intOf];omega
      ·have hjl:j=cs.length:=by omega
       have Hn2:=Qh (show (q,l)=Q by have:=Hr.out;rwa [List.drop_of_length_le (by omega)] at this)
       have Hst3:=Qh (show (segs.drop (k+1)).foldl putG (q,l)=R by rw [Hn2.out];exact Hst2.out)
       clear Hr Hst2
       go_wp2
       go_roundw
       case rel=>exact ⟨k+1,mc,nn,q,l,_,_,J,by omega,by go_num,Hst3.out,HBd.out,by omega,by omega,HM.out,Hqs.out,Hrs.out,Hx.out⟩
       case measure=>simp [intOf];omega
   ·have hkl:k=segs.length:=by omega
    have Hn2:=Qh (show R=(q,l) by have:=Hr.out;rw [List.drop_of_length_le (by omega)] at this;exact this.symm)
    obtain ⟨ak,ck,rfl⟩:=Xbz HM.out.ck
    obtain ⟨ae,ce,rfl⟩:=Xbz HM.out.ox
    have z0:wr.cell? ⟨m,0,none⟩=some (.slice ak q.cks.length ck):=(cell_of_row wr _ 0 _ _ _ HM.out.ro).trans rfl
    have z1:wr.cell? ⟨m,1,none⟩=some (.int .i64 q.ses):=(cell_of_row wr _ 1 _ _ _ HM.out.ro).trans rfl
    have z2:wr.cell? ⟨m,2,none⟩=some (S q.str):=(cell_of_row wr _ 2 _ _ _ HM.out.ro).trans rfl
    have zb:wr.cell? ⟨bo,0,none⟩=some (.slice ae l.length ce):=(cell_of_row wr _ 0 _ _ _ HM.out.rb).trans rfl
    obtain ⟨J1,k1a,k1b,k1c,k1d,k1e⟩:=HM.out.ck.freezeA HM.out.ok HM.out.fk
    have hve:∀g,(Value.slice ae l.length ce).ownBlock=some g→J1 g=none:=fun g hg=>by
     rw [k1e g (fun e=>by rcases HM.out.kv with h|h; ·rw [h] at e;cases e
                          ·exact h (by rw [e,hg]))]
     exact HM.out.fe g hg
    obtain ⟨J2,k2a,k2b,k2c,k2d,k2e⟩:=(HM.out.ox.mono k1a).freezeA k1c hve
    have hJ2:J2 (w.heap.size+1)=none:=by
     rw [k2e _ (HM.out.ve_ne.2.2.2 _ (by omega)),k1e _ (HM.out.vk_ne.2.2.2 _ (by omega))]
     exact HM.out.fn _ (by simp)
    have HJ:=Qh (And.intro ((Hx.out.trans (k1b.mono (show w.heap.size≤w.heap.size+2 by omega)) (Qn _)).trans (k2b.mono (show w.heap.size≤w.heap.size+2 by omega)) (Qn _)) (And.intro k2c (And.intro (k1d.mono k2a) k2d)))
    clear k1a k1b k1c k1d k1e k2a k2b k2c k2d k2e hve Hr hok hlen
    go_wp2_with fail
    refine Xak (X:=Nat × Nat) (pvL w.heap.size m bo ak q.cks.length ck q.ses q.str ((.slice ae l.length ce))) (RgC wr 209 210 (fun _ _=>True) (fun _ _=>True) (fun x=>w.heap.size+1) 89 3 207 208 (fun x=> #[.slice ak q.cks.length ck,.int .i64 q.ses,S q.str]) (fun x=> #[.slice ak q.cks.length ck,.int .i64 q.ses,S q.str]) (fun x=> #[.slice ak q.cks.length ck,.int .i64 q.ses,S q.str])) (by kernel_rfl) (by kernel_rfl) ?_ ?_ ?_
    ·exact ⟨(0,default),RgC.start _ _⟩
    ·rintro x s' a' w' i hsz hcl ha hC hi
     obtain ⟨hun,oi,hoi,hall⟩:=mem_ready.1 hi
     rcases i with _|_|_|_|_|_|i
     rotate_left 6
     ·simp at hoi
     all_goals
      have hoj:=hoi
      simp at hoi
      subst hoi
      simp [Region.binds] at hall
     ·have e7:a'.tmps[7]?.getD undef= .pointer (some ⟨m,0,none⟩):=Xbl ha (by simp)
      have hl:s'.getD 3 false=false:=Xae hcl [0] (by kernel_rfl) (by rfl) hun
      have cq:=Xaa (hC.off hl) z0
      have cr:=Xaa (hC.off hl) z1
      have cs:=Xaa (hC.off hl) z2
      refine wpOp_step hoj (fun K' hK=> ?_)
      rw [if_pos (by rfl)]
      unfold Oper.wp
      simp [go_sem,e7,cq,cr,cs,Oper.upon]
      exact hK _ _ ⟨x,Xad (d:=some 108) (v:= .agg #[.slice ak q.cks.length ck,.int .i64 q.ses,S q.str]) Xbw ha rfl hun,hC.pure (by decide) (by decide) (by decide) (by decide) (by decide)⟩
     ·have e10:a'.tmps[10]?.getD undef= .func (.func 255) #[] #[.pointer (some ⟨bo,0,none⟩)]:=Xbl ha (by simp)
      refine wpOp_step hoj (fun K' hK=> ?_)
      rw [if_pos (by rfl)]
      unfold Oper.wp
      simp [go_sem,e10,Oper.upon]
      exact hK _ _ ⟨x,Xad (d:=some 109) (v:= .func (.func 255) #[] #[.pointer (some ⟨bo,0,none⟩)]) Xbw ha rfl hun,hC.pure (by decide) (by decide) (by decide) (by decide) (by decide)⟩
     ·have e109:a'.tmps[109]?.getD undef= .func (.func 255) #[] #[.pointer (some ⟨bo,0,none⟩)]:=Xap (i:=1) Xbw ha rfl (by first|simpa using hall|simp [hall]) (by simp)
      have hl:s'.getD 3 false=false:=Xae hcl [2] (by kernel_rfl) (by rfl) hun
      have ct:=Xaa (hC.off hl) zb
      refine wpOp_step hoj (fun K' hK=> ?_)
      rw [if_pos (by rfl)]
      unfold Oper.wp
      simp [go_sem,e109,Oper.upon]
      refine (Xvc bo _ w' ct).mono ?_
      rintro r4 w4 ⟨rfl,rfl⟩
      exact hK _ _ ⟨x,Xad (d:=some 110) (v:=(.slice ae l.length ce)) Xbw ha rfl hun,hC.pure (by decide) (by decide) (by decide) (by decide) (by decide)⟩
     ·have e4:a'.tmps[4]?.getD undef= .pointer (some ⟨w.heap.size+1,0,none⟩):=Xbl ha (by simp)
      have e108:a'.tmps[108]?.getD undef= .agg #[.slice ak q.cks.length ck,.int .i64 q.ses,S q.str]:=Xap (i:=0) Xbw ha rfl (by first|simpa using hall|simp [hall]) (by simp)
      refine wpOp_step hoj (fun K' hK=> ?_)
      rw [if_pos (by rfl)]
      have hlo:s'.getD 3 false=false:=Xan hun
      have hrow:w'.heap[w.heap.size+1]? =some (.cells _ 89 (0,0)):=(by exact ((hC.off hlo).block _ (Array.getElem?_eq_some_iff.1 HM.out.r1).1).trans HM.out.r1)
      refine Xai 89 _ _ rfl (w.heap.size+1) 0 [.slice ak q.cks.length ck,.int .i64 q.ses,S q.str] (.agg #[.slice ak q.cks.length ck,.int .i64 q.ses,S q.str]) (by simp [Act.eval,e4,e108]) (by simp [Act.eval,e4,e108]) (by rfl) _ _ hrow (by simp) (by kernel_rfl) (by simp [Value.oneCell']) ?_
      exact hK _ _ ⟨x,Xad (d:=none) (v:=undef) Xbw ha rfl hun,hC.put1 hun trivial trivial (Xao (by simp [hsz])) (Xao (by simp [hsz])) (by decide) hrow (by rfl)⟩
     ·have e110:a'.tmps[110]?.getD undef=(.slice ae l.length ce):=Xap (i:=2) Xbw ha rfl (by first|simpa using hall|simp [hall]) (by simp)
      refine wpOp_step hoj (fun K' hK=> ?_)
      rw [if_pos (by rfl)]
      unfold Oper.wp
      simp [go_sem,e110,Oper.upon]
      exact hK _ _ ⟨x,Xad (d:=some 5) (v:=(.slice ae l.length ce)) Xbw ha rfl hun,hC.pure (by decide) (by decide) (by decide) (by decide) (by decide)⟩
     ·refine wpOp_step hoj (fun K' hK=> ?_)
      rw [if_pos (by rfl)]
      unfold Oper.wp
      simp [go_sem,Oper.upon]
      exact hK _ _ ⟨x,Xad (d:=some 6) (v:= .int .i64 0) Xbw ha rfl hun,hC.pure (by decide) (by decide) (by decide) (by decide) (by decide)⟩
    ·rintro x s' a' w8 hup ha hC
     obtain ⟨wb,hbW,hGc,hGa,hgr,hrow⟩:=hC.on (hup 3 (by decide))
     simp only [ite_self] at hrow
     rw [Xbb _ _ _ _ (fun i hi=>by rw [Nat.zero_add];exact hup i (by simpa using hi))] at ha
     subst ha
     simp only [fillAll,Act.put]
     have hbb:Below w.heap.size w w8:=(HM.out.bel.trans (hbW.mono hsw)).grown hgr (by have:=hbW.size;omega) (fun g e=>by cases e;omega)
     have hok8:Ok J2 w8:=(HJ.out.2.1.below (Qn _) hbW).grown hgr (fun g e=>by cases e;exact hJ2)
     go_wp2
     refine bodyPost_ret (v:= .tuple #[stoV q (.slice ak q.cks.length ck),.slice ae l.length ce,.int .i64 0]) ?_ rfl ?_
     ·rw [Xa3 rfl]
      simp [asAddr,run_loadVar_row _ (w.heap.size+1) 89 89 #[.slice ak q.cks.length ck,.int .i64 q.ses,S q.str] (0,0) _ hrow Tryz.underlying89 rfl Hi3.out]
     ·rw [Hn.out,Hn2.out]
      exact ⟨_,_,J2,rfl,hbb,HJ.out.1,hok8,HJ.out.2.2.1,HJ.out.2.2.2⟩
theorem Xaf {P:Program} {ops:Array Oper} {rest:List Oper} {o:Oper} {a:Act} {w:World} {Q:Exit→Act→World→Prop} (hgd:o.guard=none) (hd:o.dst=none) (ty:TypeId) (x y:Operand) (ho:o.op= .store ty x y)
 (g off:Nat) (cs:List Value) (v:Value) (hx:a.eval x= .pointer (some ⟨g,off,none⟩)) (hy:a.eval y=v) (hv:v.cells=cs.toArray) (cur:Array Value) (tt:TypeId)
 (hg:w.heap[g]? =some (.cells cur tt (0,0))) (hfit:off+cs.length≤cur.size) (hi:(P.info? ty).map (·.size)=some cs.length) (h1:∀v∈cs,v.oneCell'=true) (R:Array Value) (hR:over cur off cs=R)
 (h:∀w',w.grownBy w' (some g)→w'.heap[g]? =some (.cells R tt (0,0))→wpList P ops Q rest a w'):wpList P ops Q (o::rest) a w:=by
 refine wpList_plain hgd fun _ hK=> ?_
 exact Xai ty x y ho g off cs v hx hy hv cur tt hg hfit hi h1 (hK _ _ (by rw [hd];exact h _ Xas (by rw [←hR];exact setRow_heap w g cur _ tt (0,0) hg)))
def evF:List (Option Tmp × Value)→Nat→Array Bool→Tmp→Value→Value
 | [],_,_,_,d=>d
 |(e,u)::l,k,s,t,d=>if e=some t then (if s.getD k false=true then u else d) else evF l (k+1) s t d
theorem Xji:∀(l:List (Option Tmp × Value)) (k:Nat) (s:Array Bool) (a:Act) (t:Tmp),ApartF l→t<a.tmps.size→(fillA l k s a).eval (.tmp t)=evF l k s t (a.eval (.tmp t))
 | [],_,_,_,_,_,_=>rfl
 |(e,u)::l,k,s,a,t,hp,ht=>by
  obtain ⟨h1,h2⟩:=List.pairwise_cons.1 hp
  rw [fillA,evF]
  by_cases he:e=some t
  ·subst he
   rw [if_pos rfl,Xcq l _ _ _ _ fun p hp=>h1 p hp t rfl]
   split
   ·simp [Act.eval,Act.put,ht]
   ·rfl
  ·rw [if_neg he]
   by_cases hs:s.getD k false=true
   ·rw [if_pos hs,Xji l _ _ _ _ h2 (by rw [Xnb];exact ht),Xgy a u he]
   ·rw [if_neg hs];exact Xji l _ _ _ _ h2 ht
theorem Xfu {L:List (Option Tmp × Value)} {s:Array Bool} {a a':Act} (hp:ApartF L) (ha:a'=fillA L 0 s a) (t:Tmp) (ht:t<a.tmps.size):a'.tmps[t]?.getD undef=evF L 0 s t (a.tmps[t]?.getD undef):=by
 have h:=Xji L 0 s a t hp ht
 rw [←ha] at h
 simpa [Act.eval] using h
theorem Xaw {L:List (Option Tmp × Value)} {s:Array Bool} {a a':Act} {i:Nat} {d:Tmp} {v:Value} (hp:ApartF L) (ha:a'=fillA L 0 s a) (hi:L[i]? =some (some d,v)) (hun:s.getD i true=false):
 ({ tmps:=a'.tmps.setIfInBounds d v,defers:=a'.defers }:Act)=fillA L 0 (s.setIfInBounds i true) a:=Xad (d:=some d) hp ha hi hun
def reachB (ops:Array Oper):Nat→Nat→Nat→Bool
 |0,k,i=>k==i
 |f+1,k,i=>k==i || (match ops[k]? with|some o=>o.after.any fun e=>Region.binds .any e&&reachB ops f e.on i|none=>false)
theorem Xna {ops:Array Oper} {s:Array Bool} (h:Clo ops s):∀(f k i:Nat),reachB ops f k i=true→s.getD k false=true→s.getD i false=true
 |0,k,i,hr,hk=>by
  have:k=i:=by simpa [reachB] using hr
  subst this;exact hk
 |f+1,k,i,hr,hk=>by
  rw [reachB,Bool.or_eq_true] at hr
  rcases hr with hr|hr
  ·have:k=i:=by simpa using hr
   subst this;exact hk
  ·cases ho:ops[k]? with
   |none=>rw [ho] at hr;cases hr
   |some o=>
    rw [ho] at hr
    simp only [Array.any_eq_true,Bool.and_eq_true] at hr
    obtain ⟨n,hn,h3,h4⟩:=hr
    exact Xna h f _ i h4 (h k o ho hk _ (Array.getElem_mem hn) h3)
theorem Xay {ops:Array Oper} {s:Array Bool} (f k:Nat) {i:Nat} (h:Clo ops s) (hp:reachB ops f k i=true) (hun:s.getD i true=false):s.getD k false=false:=by
 cases hk:s.getD k false with
 |false=>rfl
 |true=>have:=Xna h f k i hp hk;rw [Xan hun] at this;cases this
theorem Xa1 {s:Array Bool} {i g:Nat} (h:(s.setIfInBounds i true).getD g false=false):s.getD g false=false:=by
 by_cases e:i=g
 ·subst e
  cases hg:s.getD i false with
  |false=>rfl
  |true=>
   have hlt:i<s.size:=by
    rcases Nat.lt_or_ge i s.size with h'|h'
    ·exact h'
    ·rw [Xao h'] at hg;cases hg
   rw [Xba hlt] at h;cases h
 ·rwa [getD_set_ne false e] at h
theorem Xm4 {s:Array Bool} {i j:Nat} (h:(s.setIfInBounds i true).getD j false=true):i=j∨s.getD j false=true:=by
 by_cases e:i=j
 ·exact .inl e
 ·rw [getD_set_ne false e] at h;exact .inr h
structure RgE {X:Type} (W:World) (j1 g1 j2 g2 j3 g3 j4 g4:Nat) (G0 G1 G2 G3 G4 Fin:X→World→Prop) (m:X→Nat) (t:TypeId) (s1 s2 s3:Nat) (R1 R2 R3:X→Array Value) (x:X) (s:Array Bool) (w:World):Prop where
 off:s.getD s1 false=false→Below W.heap.size W w
 inv:s.getD s1 false=false→G0 x w
 f1:s.getD j1 false=true→s.getD g1 false=false→s.getD s1 false=false→G1 x w
 f2:s.getD j2 false=true→s.getD g2 false=false→s.getD s1 false=false→G2 x w
 f3:s.getD j3 false=true→s.getD g3 false=false→s.getD s1 false=false→G3 x w
 f4:s.getD j4 false=true→s.getD g4 false=false→s.getD s1 false=false→G4 x w
 on:s.getD s1 false=true→ ∃wb,Below W.heap.size W wb∧Fin x wb∧wb.grownBy w (some (m x))∧
  w.heap[m x]? =some (.cells (if s.getD s3 false=true then R3 x else if s.getD s2 false=true then R2 x else R1 x) t (0,0))
section
variable {X:Type} {W w w':World} {j1 g1 j2 g2 j3 g3 j4 g4:Nat} {G0 G1 G2 G3 G4 Fin:X→World→Prop} {m:X→Nat} {t:TypeId} {s1 s2 s3:Nat} {R1 R2 R3:X→Array Value} {x:X} {s:Array Bool} {i:Nat}
theorem RgE.start (n:Nat) (x:X) (h0:G0 x { W with drawn:=W.drawn+1 }):RgE W j1 g1 j2 g2 j3 g3 j4 g4 G0 G1 G2 G3 G4 Fin m t s1 s2 s3 R1 R2 R3 x (Array.replicate n false) { W with drawn:=W.drawn+1 }:=
 ⟨fun _=>(Qb _ _).drew,fun _=>h0,fun h=>(by rw [Xbj] at h;cases h),fun h=>(by rw [Xbj] at h;cases h),fun h=>(by rw [Xbj] at h;cases h),fun h=>(by rw [Xbj] at h;cases h),fun h=>(by rw [Xbj] at h;cases h)⟩
theorem RgE.pure (h:RgE W j1 g1 j2 g2 j3 g3 j4 g4 G0 G1 G2 G3 G4 Fin m t s1 s2 s3 R1 R2 R3 x s w) (hd:i≠j1∧i≠j2∧i≠j3∧i≠s1∧i≠s2∧i≠s3∧i≠j4):RgE W j1 g1 j2 g2 j3 g3 j4 g4 G0 G1 G2 G3 G4 Fin m t s1 s2 s3 R1 R2 R3 x (s.setIfInBounds i true) w:=by
 obtain ⟨h1,h2,h3,h4,h5,h6,h7⟩:=hd
 refine ⟨?_,?_,?_,?_,?_,?_,?_⟩
 ·rw [getD_set_ne false h4];exact h.off
 ·rw [getD_set_ne false h4];exact h.inv
 ·rw [getD_set_ne false h1,getD_set_ne false h4];exact fun a b=>h.f1 a (Xa1 b)
 ·rw [getD_set_ne false h2,getD_set_ne false h4];exact fun a b=>h.f2 a (Xa1 b)
 ·rw [getD_set_ne false h3,getD_set_ne false h4];exact fun a b=>h.f3 a (Xa1 b)
 ·rw [getD_set_ne false h7,getD_set_ne false h4];exact fun a b=>h.f4 a (Xa1 b)
 ·rw [getD_set_ne false h4,getD_set_ne false h5,getD_set_ne false h6];exact h.on
theorem RgE.step (h:RgE W j1 g1 j2 g2 j3 g3 j4 g4 G0 G1 G2 G3 G4 Fin m t s1 s2 s3 R1 R2 R3 x s w) (hl:s.getD s1 false=false) (hb:Below W.heap.size W w') (hi:i≠s1) {x':X} (k0:G0 x w→G0 x' w')
 (k1:i=j1∨(s.getD j1 false=true∧s.getD g1 false=false∧G1 x w)→i≠g1→G1 x' w') (k2:i=j2∨(s.getD j2 false=true∧s.getD g2 false=false∧G2 x w)→i≠g2→G2 x' w') (k3:i=j3∨(s.getD j3 false=true∧s.getD g3 false=false∧G3 x w)→i≠g3→G3 x' w') (k4:i=j4∨(s.getD j4 false=true∧s.getD g4 false=false∧G4 x w)→i≠g4→G4 x' w') (hlt:i<s.size):
 RgE W j1 g1 j2 g2 j3 g3 j4 g4 G0 G1 G2 G3 G4 Fin m t s1 s2 s3 R1 R2 R3 x' (s.setIfInBounds i true) w':=by
 have aux:∀ {g:Nat},(s.setIfInBounds i true).getD g false=false→i≠g:=fun b e=>by subst e;rw [Xba hlt] at b;cases b
 refine ⟨fun _=>hb,fun _=>k0 (h.inv hl),fun a b _=>k1 ?_ (aux b),fun a b _=>k2 ?_ (aux b),fun a b _=>k3 ?_ (aux b),fun a b _=>k4 ?_ (aux b),?_⟩
 ·exact (Xm4 a).imp id fun q=>⟨q,Xa1 b,h.f1 q (Xa1 b) hl⟩
 ·exact (Xm4 a).imp id fun q=>⟨q,Xa1 b,h.f2 q (Xa1 b) hl⟩
 ·exact (Xm4 a).imp id fun q=>⟨q,Xa1 b,h.f3 q (Xa1 b) hl⟩
 ·exact (Xm4 a).imp id fun q=>⟨q,Xa1 b,h.f4 q (Xa1 b) hl⟩
 ·rw [getD_set_ne false hi,hl]
  intro q
  cases q
theorem RgE.put1 (h:RgE W j1 g1 j2 g2 j3 g3 j4 g4 G0 G1 G2 G3 G4 Fin m t s1 s2 s3 R1 R2 R3 x s w) (hun:s.getD s1 true=false) (hf:Fin x w) (h2:s.getD s2 false=false) (h3:s.getD s3 false=false) (hd:s1≠s2∧s1≠s3)
 {cur:Array Value} (hg:w.heap[m x]? =some (.cells cur t (0,0))) {R:Array Value} (hR:R=R1 x):RgE W j1 g1 j2 g2 j3 g3 j4 g4 G0 G1 G2 G3 G4 Fin m t s1 s2 s3 R1 R2 R3 x (s.setIfInBounds s1 true) (w.setRow (m x) R):=by
 have e:=Xba (Xdh hun)
 have hl:s.getD s1 false=false:=Xan hun
 refine ⟨fun q=>(by rw [e] at q;cases q),fun q=>(by rw [e] at q;cases q),fun _ _ q=>(by rw [e] at q;cases q),fun _ _ q=>(by rw [e] at q;cases q),fun _ _ q=>(by rw [e] at q;cases q),fun _ _ q=>(by rw [e] at q;cases q),fun _=>⟨w,h.off hl,hf,Xas,?_⟩⟩
 rw [getD_set_ne false hd.1,getD_set_ne false hd.2,h2,h3,hR]
 exact setRow_heap w (m x) cur _ t (0,0) hg
theorem RgE.put2 (h:RgE W j1 g1 j2 g2 j3 g3 j4 g4 G0 G1 G2 G3 G4 Fin m t s1 s2 s3 R1 R2 R3 x s w) (hun:s.getD s2 true=false) (h1:s.getD s1 false=true) (h3:s.getD s3 false=false) (hd:s2≠s1∧s2≠s3) {R:Array Value} (hR:R=R2 x):
 RgE W j1 g1 j2 g2 j3 g3 j4 g4 G0 G1 G2 G3 G4 Fin m t s1 s2 s3 R1 R2 R3 x (s.setIfInBounds s2 true) (w.setRow (m x) R):=by
 have e:=Xba (Xdh hun)
 have e1:(s.setIfInBounds s2 true).getD s1 false=true:=by rw [getD_set_ne false hd.1];exact h1
 obtain ⟨wb,k1,k2,k4,k5⟩:=h.on h1
 refine ⟨fun q=>(by rw [e1] at q;cases q),fun q=>(by rw [e1] at q;cases q),fun _ _ q=>(by rw [e1] at q;cases q),fun _ _ q=>(by rw [e1] at q;cases q),fun _ _ q=>(by rw [e1] at q;cases q),fun _ _ q=>(by rw [e1] at q;cases q),fun _=>⟨wb,k1,k2,Xhb k4 (Xas),?_⟩⟩
 rw [getD_set_ne false hd.2,h3,e,hR]
 exact setRow_heap w (m x) _ _ t (0,0) k5
theorem RgE.put3 (h:RgE W j1 g1 j2 g2 j3 g3 j4 g4 G0 G1 G2 G3 G4 Fin m t s1 s2 s3 R1 R2 R3 x s w) (hun:s.getD s3 true=false) (h1:s.getD s1 false=true) (hd:s3≠s1) {R:Array Value} (hR:R=R3 x):
 RgE W j1 g1 j2 g2 j3 g3 j4 g4 G0 G1 G2 G3 G4 Fin m t s1 s2 s3 R1 R2 R3 x (s.setIfInBounds s3 true) (w.setRow (m x) R):=by
 have e:=Xba (Xdh hun)
 have e1:(s.setIfInBounds s3 true).getD s1 false=true:=by rw [getD_set_ne false hd];exact h1
 obtain ⟨wb,k1,k2,k4,k5⟩:=h.on h1
 refine ⟨fun q=>(by rw [e1] at q;cases q),fun q=>(by rw [e1] at q;cases q),fun _ _ q=>(by rw [e1] at q;cases q),fun _ _ q=>(by rw [e1] at q;cases q),fun _ _ q=>(by rw [e1] at q;cases q),fun _ _ q=>(by rw [e1] at q;cases q),fun _=>⟨wb,k1,k2,Xhb k4 (Xas),?_⟩⟩
 rw [e,hR]
 exact setRow_heap w (m x) _ _ t (0,0) k5
theorem RgE.row1 (h:RgE W j1 g1 j2 g2 j3 g3 j4 g4 G0 G1 G2 G3 G4 Fin m t s1 s2 s3 R1 R2 R3 x s w) (h1:s.getD s1 false=true) (h2:s.getD s2 false=false) (h3:s.getD s3 false=false):w.heap[m x]? =some (.cells (R1 x) t (0,0)):=by
 obtain ⟨wb,_,_,_,k5⟩:=h.on h1
 rw [h2,h3] at k5
 exact k5
theorem RgE.row2 (h:RgE W j1 g1 j2 g2 j3 g3 j4 g4 G0 G1 G2 G3 G4 Fin m t s1 s2 s3 R1 R2 R3 x s w) (h1:s.getD s1 false=true) (h2:s.getD s2 false=true) (h3:s.getD s3 false=false):w.heap[m x]? =some (.cells (R2 x) t (0,0)):=by
 obtain ⟨wb,_,_,_,k5⟩:=h.on h1
 rw [h2,h3] at k5
 exact k5
end
structure RgD (B:Nat) (W:World) (m1 m2:Nat) (t1 t2:TypeId) (Z1 R1 Z2 R2:Array Value) (s1 s2:Nat) (s:Array Bool) (w:World):Prop where
 bel:Below B W w
 keep:∀k,k<W.heap.size→k≠m1→k≠m2→w.heap[k]? =W.heap[k]?
 r1:w.heap[m1]? =some (.cells (if s.getD s1 false=true then R1 else Z1) t1 (0,0))
 r2:w.heap[m2]? =some (.cells (if s.getD s2 false=true then R2 else Z2) t2 (0,0))
section
variable {B:Nat} {W w w':World} {m1 m2:Nat} {t1 t2:TypeId} {Z1 R1 Z2 R2:Array Value} {s1 s2:Nat} {s:Array Bool} {i:Nat}
theorem RgD.start (n:Nat) (hB:B≤W.heap.size) (h1:W.heap[m1]? =some (.cells Z1 t1 (0,0))) (h2:W.heap[m2]? =some (.cells Z2 t2 (0,0))):RgD B W m1 m2 t1 t2 Z1 R1 Z2 R2 s1 s2 (Array.replicate n false) { W with drawn:=W.drawn+1 }:=
 ⟨((Qb _ _).drew).mono hB,fun _ _ _ _=>rfl,by rw [Xbj];exact h1,by rw [Xbj];exact h2⟩
theorem RgD.pure (h:RgD B W m1 m2 t1 t2 Z1 R1 Z2 R2 s1 s2 s w) (h1:i≠s1) (h2:i≠s2):RgD B W m1 m2 t1 t2 Z1 R1 Z2 R2 s1 s2 (s.setIfInBounds i true) w:=
 ⟨h.bel,h.keep,by rw [getD_set_ne false h1];exact h.r1,by rw [getD_set_ne false h2];exact h.r2⟩
theorem RgD.call (h:RgD B W m1 m2 t1 t2 Z1 R1 Z2 R2 s1 s2 s w) (hb:Below w.heap.size w w') (h1:i≠s1) (h2:i≠s2) (hB:B≤W.heap.size):RgD B W m1 m2 t1 t2 Z1 R1 Z2 R2 s1 s2 (s.setIfInBounds i true) w':=
 ⟨h.bel.trans (hb.mono (Nat.le_trans hB h.bel.size)),fun k hk a b=>(hb.block k (Nat.lt_of_lt_of_le hk h.bel.size)).trans (h.keep k hk a b),
   by rw [getD_set_ne false h1];exact (hb.block _ (Array.getElem?_eq_some_iff.1 h.r1).1).trans h.r1,by rw [getD_set_ne false h2];exact (hb.block _ (Array.getElem?_eq_some_iff.1 h.r2).1).trans h.r2⟩
theorem RgD.put1 (h:RgD B W m1 m2 t1 t2 Z1 R1 Z2 R2 s1 s2 s w) (hun:s.getD s1 true=false) (h12:s1≠s2) (hm:m1≠m2) (hB:B≤m1) {R:Array Value} (hR:R=R1):RgD B W m1 m2 t1 t2 Z1 R1 Z2 R2 s1 s2 (s.setIfInBounds s1 true) (w.setRow m1 R):=by
 have e:=Xba (Xdh hun)
 refine ⟨h.bel.grown (row:=some m1) Xas (by have:=(Array.getElem?_eq_some_iff.1 h.r1).1;omega) (fun k hk=>by cases hk;exact hB),fun k hk a b=>(setRow_other w m1 k R a).trans (h.keep k hk a b),?_,?_⟩
 ·rw [e,hR];exact setRow_heap w m1 _ _ t1 (0,0) h.r1
 ·rw [getD_set_ne false h12,setRow_other w m1 m2 R (Ne.symm hm)];exact h.r2
theorem RgD.put2 (h:RgD B W m1 m2 t1 t2 Z1 R1 Z2 R2 s1 s2 s w) (hun:s.getD s2 true=false) (h12:s2≠s1) (hm:m1≠m2) (hB:B≤m2) {R:Array Value} (hR:R=R2):RgD B W m1 m2 t1 t2 Z1 R1 Z2 R2 s1 s2 (s.setIfInBounds s2 true) (w.setRow m2 R):=by
 have e:=Xba (Xdh hun)
 refine ⟨h.bel.grown (row:=some m2) Xas (by have:=(Array.getElem?_eq_some_iff.1 h.r2).1;omega) (fun k hk=>by cases hk;exact hB),fun k hk a b=>(setRow_other w m2 k R b).trans (h.keep k hk a b),?_,?_⟩
 ·rw [getD_set_ne false h12,setRow_other w m2 m1 R hm];exact h.r1
 ·rw [e,hR];exact setRow_heap w m2 _ _ t2 (0,0) h.r2
end
def RecR (I:IH) (w:World) (p:Ent × Sto) (e:Ending) (w':World):Prop:=
 ∃va vx vk I',e= .returned (.tuple #[entV p.1 va vx,stoV p.2 vk,.int .i64 (entErr p.1)])∧Below w.heap.size w w'∧Ext w.heap.size I I'∧Ok I' w'∧RdS tAt I' va p.1.attrs∧RdS tXt I' vx p.1.exts∧RdS tCk I' vk p.2.cks
theorem Xcv {fn:Func} {p q u:Tmp} {ty tz:TypeId} (h:fn.results= #[.cell p ty,.cell q tz,.tmp u]) (tmps:Array Value) (P:Program) (w:World):
 (results fn tmps).run P w=
   ((asAddr (tmps.getD p undef)).run P w).andThen fun a w₁=>((loadVar ty a).run P w₁).andThen fun v w₂=>((asAddr (tmps.getD q undef)).run P w₂).andThen fun b w₃=>((loadVar tz b).run P w₃).andThen fun z w₄=> .ok (.tuple #[v,z,tmps.getD u undef]) w₄:=by
 simp only [results,h]
 simp [Sem.run_bind,Result.andThen]
abbrev rcL (n:Nat) (kind:Int) (path:Bytes) (ao:Option Addr) (le cap:Nat) (target:Bytes) (x:Nat × (Option Addr × Nat)):List (Option Tmp × Value):=
 [(some 8,.pointer (some ⟨n+1,0,none⟩)),(some 9,.int .i64 kind),(some 10,.pointer (some ⟨n+1,1,none⟩)),(some 11,S path),(some 12,.pointer (some ⟨n+1,2,none⟩)),(some 13,.slice ao le cap),(some 14,.slice x.2.1 le x.2.2),(some 15,.pointer (some ⟨n+1,3,none⟩)),(some 16,S target),(some 17,.agg #[.int .i64 kind,S path,.slice x.2.1 le x.2.2,S target,.int .i64 0,.string ⟨#[]⟩,.slice none 0 0]),(some 7,.pointer (some ⟨x.1,0,none⟩)),(none,undef)]
theorem Xcx {n:Nat} {kind:Int} {path:Bytes} {ao:Option Addr} {le cap:Nat} {target:Bytes} {x:Nat × (Option Addr × Nat)}:ApartF (rcL n kind path ao le cap target x):=by
 unfold ApartF
 simp
abbrev rdL (n m:Nat) (ct sm:Bytes) (x:Nat):List (Option Tmp × Value):=
 [(some 21,.pointer (some ⟨n+1,4,none⟩)),(some 22,S ct),(some 23,.int .i64 (ct.length:Int)),(some 24,.pointer (some ⟨n+1,4,none⟩)),(some 25,S ct),(some 26,.slice (some ⟨x,0,none⟩) 1 1),(some 27,S sm),(some 28,.pointer (some ⟨m,4,none⟩)),(none,undef),(some 29,.pointer (some ⟨m,5,none⟩)),(none,undef)]
theorem Xcg {n m:Nat} {ct sm:Bytes} {x:Nat}:ApartF (rdL n m ct sm x):=by
 unfold ApartF
 simp
abbrev reL (m n:Nat) (e:Ent) (va vx vk:Value) (q:Sto):List (Option Tmp × Value):=
 [(some 43,entV e va vx),(some 44,stoV q vk),(some 45,entV e va vx),(some 46,.int .i64 (entErr e)),(none,undef),(none,undef),(some 6,.int .i64 (entErr e))]
theorem Xav {m n:Nat} {e:Ent} {va vx vk:Value} {q:Sto}:ApartF (reL m n e va vx vk q):=by
 unfold ApartF
 simp
theorem Xmz (w:World) (a b c d:Array Value) (ta tb tc td:TypeId) (W:World) (hW:(((w.alloc (.cells a ta)).alloc (.cells b tb)).alloc (.cells c tc)).alloc (.cells d td)=W):
 W.heap.size=w.heap.size+4∧W.heap[w.heap.size]? =some (.cells a ta (0,0))∧W.heap[w.heap.size+1]? =some (.cells b tb (0,0))∧W.heap[w.heap.size+2]? =some (.cells c tc (0,0))∧W.heap[w.heap.size+3]? =some (.cells d td (0,0)):=by
 subst hW
 have h1:=heap_alloc_new w (.cells a ta)
 have h2:=heap_alloc_new (w.alloc (.cells a ta)) (.cells b tb)
 have h3:=heap_alloc_new ((w.alloc (.cells a ta)).alloc (.cells b tb)) (.cells c tc)
 have h4:=heap_alloc_new (((w.alloc (.cells a ta)).alloc (.cells b tb)).alloc (.cells c tc)) (.cells d td)
 have e1:(w.alloc (.cells a ta)).heap.size=w.heap.size+1:=by simp
 have e2:((w.alloc (.cells a ta)).alloc (.cells b tb)).heap.size=w.heap.size+2:=by simp
 have e3:(((w.alloc (.cells a ta)).alloc (.cells b tb)).alloc (.cells c tc)).heap.size=w.heap.size+3:=by simp
 rw [e1] at h2
 rw [e2] at h3
 rw [e3] at h4
 refine ⟨by simp,?_,?_,?_,h4⟩
 ·exact (Below.heap_alloc _ _ _ (by omega)).trans ((Below.heap_alloc _ _ _ (by omega)).trans ((Below.heap_alloc _ _ _ (by omega)).trans h1))
 ·exact (Below.heap_alloc _ _ _ (by omega)).trans ((Below.heap_alloc _ _ _ (by omega)).trans h2)
 ·exact (Below.heap_alloc _ _ _ (by omega)).trans h3
set_option maxRecDepth 100000 in
set_option maxHeartbeats 8000000 in
theorem Xpr (I:IH) (hI:Glob I) (q:Sto) (vk:Value) (hvk:RdS tCk I vk q.cks) (hq:StoW q) (hqn:q.cks.length≤400000000) (c:Chg) (va:Value) (hva:RdS tAt I va c.attrs) (hc:c.Wf) (hca:c.attrs.length≤4398046511000) (w:World) (hw:Ok I w):
 Calls Tryz.prog 135 #[stoV q vk,.agg #[.int .i64 c.kind,S c.path,va,S c.target,S c.content]] w (RecR I w (recP q c)):=by
 obtain ⟨ak,ck,rfl,_,_,_⟩:=id hvk
 obtain ⟨ao,cap,rfl,_,_,_⟩:=id hva
 have Hcl:=Qh (fun w hw=>Xn9 I _ c.attrs hva w hw (by omega))
 have HG:=Qh hI
 have Hvk:=Qh hvk
 have Hq:=Qh hq
 have Hc:=Qh hc
 have Hi3:=Qh (show (Tryz.prog.info? 89).map (·.size)=some 3 by kernel_rfl)
 have Hi7:=Qh (show (Tryz.prog.info? 35).map (·.size)=some 7 by kernel_rfl)
 have hpl:=hc.path
 have htl:=hc.target
 have hcl:=hc.content
 obtain ⟨W4,hW4⟩:∃W4,((((w.alloc (.cells #[.slice ak q.cks.length ck,.int .i64 q.ses,S q.str] 89)).alloc (.cells #[.int .i64 c.kind,S c.path,.slice ao c.attrs.length cap,S c.target,S c.content] 49)).alloc (.cells #[.int .i64 0,.string ⟨#[]⟩,.slice none 0 0,.string ⟨#[]⟩,.int .i64 0,.string ⟨#[]⟩,.slice none 0 0] 35)).alloc (.cells #[.slice none 0 0,.int .i64 0,.string ⟨#[]⟩] 89))=W4:=⟨_,rfl⟩
 have hok4:Ok I W4:=by rw [←hW4];exact (((hw.alloc _).alloc _).alloc _).alloc _
 obtain ⟨hsz4,h40,h41,h42,h43⟩:=Xmz w _ _ _ _ _ _ _ _ W4 hW4
 have hb4:Below w.heap.size w W4:=by rw [←hW4];exact ((((Qb _ _).alloc (Qn _) _).alloc (by simp) _).alloc (by simp;omega) _).alloc (by simp;omega) _
 have c0:W4.cell? ⟨w.heap.size+1,0,none⟩=some (.int .i64 c.kind):=(cell_of_row _ _ 0 _ _ _ h41).trans rfl
 have c1:W4.cell? ⟨w.heap.size+1,1,none⟩=some (S c.path):=(cell_of_row _ _ 1 _ _ _ h41).trans rfl
 have c2:W4.cell? ⟨w.heap.size+1,2,none⟩=some (.slice ao c.attrs.length cap):=(cell_of_row _ _ 2 _ _ _ h41).trans rfl
 have c3:W4.cell? ⟨w.heap.size+1,3,none⟩=some (S c.target):=(cell_of_row _ _ 3 _ _ _ h41).trans rfl
 have H40:=Qh h40
 have H41:=Qh h41
 have H42:=Qh h42
 have H43:=Qh h43
 have hIf:∀b,w.heap.size≤b→I b=none:=fun b hb=>hw.fresh hb
 have HsZ:=Qh hsz4
 clear hvk hva hq hc h40 h41 h42 h43 hsz4 hI
 go_enter Tryz.func135,Tryz.ntmps135
 go_wp2_with fail
 clear hW4
 refine Xak (X:=Nat × (Option Addr × Nat)) (rcL w.heap.size c.kind c.path ao c.attrs.length cap c.target) (RgE W4 6 233 10 234 225 235 226 236 (fun _ _=>True) (fun x w=>OwnS tAt 129 I w W4.heap.size (.slice x.2.1 c.attrs.length x.2.2) c.attrs) (fun x w=>w.heap[x.1]? =some (.cells zeroRow 35 (0,0))∧W4.heap.size≤x.1) (fun _ _=>True) (fun _ _=>True) (fun x w=>OwnS tAt 129 I w W4.heap.size (.slice x.2.1 c.attrs.length x.2.2) c.attrs∧(w.heap[x.1]? =some (.cells zeroRow 35 (0,0))∧W4.heap.size≤x.1)) (fun x=>x.1) 35 11 213 214 (fun x=> #[.int .i64 c.kind,S c.path,.slice x.2.1 c.attrs.length x.2.2,S c.target,.int .i64 0,.string ⟨#[]⟩,.slice none 0 0]) (fun x=> #[.int .i64 c.kind,S c.path,.slice x.2.1 c.attrs.length x.2.2,S c.target,.int .i64 0,.string ⟨#[]⟩,.slice none 0 0]) (fun x=> #[.int .i64 c.kind,S c.path,.slice x.2.1 c.attrs.length x.2.2,S c.target,.int .i64 0,.string ⟨#[]⟩,.slice none 0 0])) (by kernel_rfl) (by kernel_rfl) ?_ ?_ ?_
 ·exact ⟨(0,default),RgE.start _ _ trivial⟩
 ·rintro x s' a' w' i hsz hcl ha hC hi
  obtain ⟨hun,oi,hoi,hall⟩:=mem_ready.1 hi
  have ev:=Xfu Xcx ha
  have hlt:=Xdh hun
  rcases i with _|_|_|_|_|_|_|_|_|_|_|_|i
  rotate_left 12
  ·simp at hoi
  all_goals
   have hoj:=hoi
   simp at hoi
   subst hoi
   simp [Region.binds] at hall
   try have hl:=Xay 6 11 hcl (by decide +kernel) hun
   try have hbw:=hC.off hl
   try have c0:=Xaa hbw c0
   try have c1:=Xaa hbw c1
   try have c2:=Xaa hbw c2
   try have c3:=Xaa hbw c3
   refine wpOp_step hoj (fun K' hK=> ?_)
   rw [if_pos (by rfl)]
  rotate_left 6
  ·unfold Oper.wp
   simp [go_sem,ev,evF,hall,Oper.upon]
   refine (Hcl.out w' (hok4.below (Qn _) hbw)).mono ?_
   rintro r4 w4 ⟨v7,rfl,ho,hb4⟩
   obtain ⟨a7,k7,rfl⟩:=Xbz ho
   have ha:=ha.trans (Xa6 (L:=rcL w.heap.size c.kind c.path ao c.attrs.length cap c.target x) (M:=rcL w.heap.size c.kind c.path ao c.attrs.length cap c.target (x.1,(a7,k7))) [6,9] rfl (fun j hne=>by
    rcases j with _|_|_|_|_|_|_|_|_|_|_|_|j<;>first|rfl|(exact absurd (by decide) hne)|simp) (List.forall_mem_cons.2 ⟨Xan hun,List.forall_mem_cons.2 ⟨Xay 6 9 hcl (by kernel_rfl) hun,List.forall_mem_nil _⟩⟩))
   exact hK _ _ ⟨(x.1,(a7,k7)),Xaw Xcx ha rfl hun,hC.step hl (hbw.trans (hb4.mono hbw.size)) (by decide) (fun _=>trivial) (fun _ _=>ho.lower hbw.size) (fun h _=>h.elim (fun e=>absurd e (by decide)) (fun ⟨_,_,q⟩=>⟨(hb4.block _ (Array.getElem?_eq_some_iff.1 q.1).1).trans q.1,q.2⟩)) (fun _ _=>trivial) (fun _ _=>trivial) hlt⟩
  rotate_left 3
  ·unfold Oper.wp
   simp [go_sem,ev,evF,hall,Oper.upon,c0,c1,c2,c3]
   have ha:=ha.trans (Xa6 (L:=rcL w.heap.size c.kind c.path ao c.attrs.length cap c.target x) (M:=rcL w.heap.size c.kind c.path ao c.attrs.length cap c.target (w'.heap.size,x.2)) [10] rfl (fun j hne=>by
    rcases j with _|_|_|_|_|_|_|_|_|_|_|_|j<;>first|rfl|(exact absurd (by decide) hne)|simp) (List.forall_mem_cons.2 ⟨Xan hun,List.forall_mem_nil _⟩))
   exact hK _ _ ⟨(w'.heap.size,x.2),Xaw Xcx ha rfl hun,hC.step hl (hbw.trans (((Qb _ _).alloc (Qn _) _).mono hbw.size)) (by decide) (fun _=>trivial) (fun h _=>h.elim (fun e=>absurd e (by decide)) (fun ⟨_,_,q⟩=>q.alloc _)) (fun _ _=>⟨heap_alloc_new _ _,hbw.size⟩) (fun _ _=>trivial) (fun _ _=>trivial) hlt⟩
  ·have hrow:w'.heap[x.1]? =some (.cells _ 35 (0,0)):=(hC.f2 (by first|simpa using hall|simp [hall]) (Xao (by simp [hsz])) hl).1
   refine Xai 35 _ _ rfl (x.1) 0 [.int .i64 c.kind,S c.path,.slice x.2.1 c.attrs.length x.2.2,S c.target,.int .i64 0,.string ⟨#[]⟩,.slice none 0 0] (.agg #[.int .i64 c.kind,S c.path,.slice x.2.1 c.attrs.length x.2.2,S c.target,.int .i64 0,.string ⟨#[]⟩,.slice none 0 0]) (by simp [Act.eval,ev,evF,hall]) (by simp [Act.eval,ev,evF,hall]) (by rfl) _ _ hrow (by simp) (by kernel_rfl) (by simp [Value.oneCell']) ?_
   exact hK _ _ ⟨x,Xad (d:=none) (v:=undef) Xcx ha rfl hun,hC.put1 hun ⟨hC.f1 (by first|simpa using hall|simp [hall]) (Xao (by simp [hsz])) hl,hC.f2 (by first|simpa using hall|simp [hall]) (Xao (by simp [hsz])) hl⟩ (Xao (by simp [hsz])) (Xao (by simp [hsz])) (by decide) hrow (by rfl)⟩
  all_goals
   unfold Oper.wp
   first
   |(simp [go_sem,ev,evF,hall,Oper.upon,c0,c1,c2,c3];exact hK _ _ ⟨x,Xaw Xcx ha rfl hun,hC.pure (by decide)⟩)
   |(simp [go_sem,ev,evF,Oper.upon,c0,c1,c2,c3];exact hK _ _ ⟨x,Xaw Xcx ha rfl hun,hC.pure (by decide)⟩)
 ·rintro x s' a' w8 hup ha hC
  obtain ⟨wb,hbW,hFin,hgr,hrow⟩:=hC.on (hup 11 (by decide))
  simp only [ite_self] at hrow
  rw [Xbb _ _ _ _ (fun i hi=>by rw [Nat.zero_add];exact hup i (by simpa using hi))] at ha
  subst ha
  simp only [fillAll,Act.put,List.setIfInBounds_toArray,List.set_cons_succ,List.set_cons_zero]
  obtain ⟨m,ao7,k7⟩:=x
  dsimp only at hFin hgr hrow ⊢
  obtain ⟨hGc,hGa⟩:=hFin
  have hsz4:=HsZ.out
  have hne:=Xbt hGc hGa.1 (by decide)
  have ho8:=hGc.kept hgr (.inr hne)
  have hm:w.heap.size+4≤m:=by have:=hGa.2;omega
  have hok8:Ok I w8:=(hok4.below (Qn _) hbW).grown hgr (fun g e=>by cases e;exact hIf _ (by omega))
  have hb8:Below w.heap.size w w8:=(hb4.trans (hbW.mono hb4.size)).grown hgr (by have:=hbW.size;omega) (fun k e=>by cases e;omega)
  obtain ⟨J,hxJ,hokJ,hrJ,hJI⟩:=ho8.freeze hok8 (fun b hb=>hIf _ (by omega))
  have hkJ:=hxJ.keep hw (by omega)
  have hz:∀b,b<w.heap.size+4→w8.heap[b]? =W4.heap[b]? :=fun b hb=>(hgr.block _ (by have:=hbW.size;omega) (fun e=>by cases e;omega)).trans (hbW.block _ (by omega))
  have hJf:∀b,b<w.heap.size+4→w.heap.size≤b→J b=none:=fun b h1 h2=>(hxJ b (by omega)).trans (hIf b h2)
  have hJm:J m=none:=by rw [hJI m hne];exact hIf _ (by omega)
  have hxJ':=hxJ.mono (show w.heap.size≤W4.heap.size by omega)
  have HQ8:=Qh ((hz w.heap.size (by omega)).trans H40.out)
  have HC8:=Qh ((hz (w.heap.size+1) (by omega)).trans H41.out)
  have HX2:=Qh ((hz (w.heap.size+2) (by omega)).trans H42.out)
  have HX3:=Qh ((hz (w.heap.size+3) (by omega)).trans H43.out)
  have Hm8:=Qh hrow
  have hG2:Glob J:=HG.out.mono hkJ
  have Hvk2:=Qh (Hvk.out.mono hkJ)
  have k0:w8.cell? ⟨w.heap.size+1,0,none⟩=some (.int .i64 c.kind):=(cell_of_row _ _ 0 _ _ _ HC8.out).trans rfl
  clear hz hGc hGa hgr hrow hne ho8 hok8 hbW hC hup hxJ hJI hkJ c0 c1 c2 c3 H40 H41 H42 H43 Hcl hok4 hb4 hsz4
  by_cases hk:c.kind=1
  case neg=>
   have e1:(c.kind==1)=false:=by simpa using hk
   obtain ⟨e,he⟩:∃e:Ent,(⟨c.kind,c.path,c.attrs,c.target,0,[],[]⟩:Ent)=e:=⟨_,rfl⟩
   obtain ⟨q2,hq2⟩:∃q2,q2=q:=⟨_,rfl⟩
   have Hn:=Qh (show recP q c=(e,q2) by rw [recP,if_neg hk,he,hq2])
   subst hq2
   have hrx:RdS tXt J (.slice none e.exts.length 0) e.exts:=by rw [←he];exact RdS.nil _ _
   have hra:RdS tAt J (.slice ao7 e.attrs.length k7) e.attrs:=by rw [←he];exact hrJ
   have hwf:e.Wf:=by have:=Xp7 Hq.out Hc.out;rw [Hn.out] at this;exact this
   have Hchk:=Qh (fun w hw=>Xe4 J hG2 e _ _ hra hrx hwf (by rw [←he];exact hpl) (by rw [←he];exact htl) w hw)
   have HJ:=Qh (And.intro hxJ' (And.intro hra (And.intro hrx Hvk2.out)))
   have HJX:=Qh hokJ
   have HXm:=Qh (show w8.heap[m]? =some (.cells #[.int .i64 e.kind,S e.path,.slice ao7 e.attrs.length k7,S e.target,.int .i64 e.size,S e.digest,.slice none e.exts.length 0] 35 (0,0)) by rw [←he];exact Hm8.out)
   have HXq:=HQ8
   have hbX:=hb8
   have hJ2:=hJf (w.heap.size+2) (by omega) (by omega)
   have hJ3:=hJf (w.heap.size+3) (by omega) (by omega)
   clear hrx
   clear hk he hra hwf Hm8 HC8 HQ8 hb8 hokJ hrJ hJf
   go_wp2_with fail
   clear k0 e1
   have hBX:w.heap.size≤w8.heap.size:=hbX.size
   have hms:m≠w.heap.size+2:=by omega
   have hms3:m≠w.heap.size+3:=by omega
   refine Xak (X:=Nat) (fun _=>reL m w.heap.size e (.slice ao7 e.attrs.length k7) (.slice none e.exts.length 0) (.slice ak q2.cks.length ck) q2) (fun _=>RgD w.heap.size w8 (w.heap.size+2) (w.heap.size+3) 35 89 zeroRow (entRow e (.slice ao7 e.attrs.length k7) (.slice none e.exts.length 0)) #[.slice none 0 0,.int .i64 0,.string ⟨#[]⟩] #[.slice ak q2.cks.length ck,.int .i64 q2.ses,S q2.str] 4 5) (by kernel_rfl) (by kernel_rfl) ?_ ?_ ?_
   ·exact ⟨0,RgD.start _ hBX HX2.out HX3.out⟩
   ·rintro x s' a' w' i hsz hcl ha hC hi
    obtain ⟨hun,oi,hoi,hall⟩:=mem_ready.1 hi
    have Hm':=(hC.keep m (Array.getElem?_eq_some_iff.1 HXm.out).1 hms hms3).trans HXm.out
    have Hq':=(hC.keep w.heap.size (Array.getElem?_eq_some_iff.1 HXq.out).1 (by omega) (by omega)).trans HXq.out
    have hokw:Ok J w':=HJX.out.of_block fun b c hb=>hC.keep b (HJX.out.lt hb) (fun h=>by rw [h,hJ2] at hb;cases hb) (fun h=>by rw [h,hJ3] at hb;cases hb)
    rcases i with _|_|_|_|_|_|_|i
    rotate_left 7
    ·simp at hoi
    all_goals
     have hoj:=hoi
     simp at hoi
     subst hoi
     simp [Region.binds] at hall
    ·have e7:a'.tmps[7]?.getD undef= .pointer (some ⟨m,0,none⟩):=Xbl ha (by simp)
     have d0:w'.cell? ⟨m,0,none⟩=_:=(cell_of_row _ _ 0 _ _ _ Hm').trans rfl
     have d1:w'.cell? ⟨m,1,none⟩=_:=(cell_of_row _ _ 1 _ _ _ Hm').trans rfl
     have d2:w'.cell? ⟨m,2,none⟩=_:=(cell_of_row _ _ 2 _ _ _ Hm').trans rfl
     have d3:w'.cell? ⟨m,3,none⟩=_:=(cell_of_row _ _ 3 _ _ _ Hm').trans rfl
     have d4:w'.cell? ⟨m,4,none⟩=_:=(cell_of_row _ _ 4 _ _ _ Hm').trans rfl
     have d5:w'.cell? ⟨m,5,none⟩=_:=(cell_of_row _ _ 5 _ _ _ Hm').trans rfl
     have d6:w'.cell? ⟨m,6,none⟩=_:=(cell_of_row _ _ 6 _ _ _ Hm').trans rfl
     refine wpOp_step hoj (fun K' hK=> ?_)
     rw [if_pos (by rfl)]
     unfold Oper.wp
     simp [go_sem,e7,d0,d1,d2,d3,d4,d5,d6,Oper.upon]
     exact hK _ _ ⟨x,Xad (d:=some 43) (v:=entV e (.slice ao7 e.attrs.length k7) (.slice none e.exts.length 0)) Xav ha rfl hun,hC.pure (by decide) (by decide)⟩
    ·have e2:a'.tmps[2]?.getD undef= .pointer (some ⟨w.heap.size,0,none⟩):=Xbl ha (by simp)
     have d0:w'.cell? ⟨w.heap.size,0,none⟩=_:=(cell_of_row _ _ 0 _ _ _ Hq').trans rfl
     have d1:w'.cell? ⟨w.heap.size,1,none⟩=_:=(cell_of_row _ _ 1 _ _ _ Hq').trans rfl
     have d2:w'.cell? ⟨w.heap.size,2,none⟩=_:=(cell_of_row _ _ 2 _ _ _ Hq').trans rfl
     refine wpOp_step hoj (fun K' hK=> ?_)
     rw [if_pos (by rfl)]
     unfold Oper.wp
     simp [go_sem,e2,d0,d1,d2,Oper.upon]
     exact hK _ _ ⟨x,Xad (d:=some 44) (v:=stoV q2 (.slice ak q2.cks.length ck)) Xav ha rfl hun,hC.pure (by decide) (by decide)⟩
    ·have e7:a'.tmps[7]?.getD undef= .pointer (some ⟨m,0,none⟩):=Xbl ha (by simp)
     have d0:w'.cell? ⟨m,0,none⟩=_:=(cell_of_row _ _ 0 _ _ _ Hm').trans rfl
     have d1:w'.cell? ⟨m,1,none⟩=_:=(cell_of_row _ _ 1 _ _ _ Hm').trans rfl
     have d2:w'.cell? ⟨m,2,none⟩=_:=(cell_of_row _ _ 2 _ _ _ Hm').trans rfl
     have d3:w'.cell? ⟨m,3,none⟩=_:=(cell_of_row _ _ 3 _ _ _ Hm').trans rfl
     have d4:w'.cell? ⟨m,4,none⟩=_:=(cell_of_row _ _ 4 _ _ _ Hm').trans rfl
     have d5:w'.cell? ⟨m,5,none⟩=_:=(cell_of_row _ _ 5 _ _ _ Hm').trans rfl
     have d6:w'.cell? ⟨m,6,none⟩=_:=(cell_of_row _ _ 6 _ _ _ Hm').trans rfl
     refine wpOp_step hoj (fun K' hK=> ?_)
     rw [if_pos (by rfl)]
     unfold Oper.wp
     simp [go_sem,e7,d0,d1,d2,d3,d4,d5,d6,Oper.upon]
     exact hK _ _ ⟨x,Xad (d:=some 45) (v:=entV e (.slice ao7 e.attrs.length k7) (.slice none e.exts.length 0)) Xav ha rfl hun,hC.pure (by decide) (by decide)⟩
    ·have e45:a'.tmps[45]?.getD undef=entV e (.slice ao7 e.attrs.length k7) (.slice none e.exts.length 0):=Xap (i:=2) Xav ha rfl (by first|simpa using hall|simp [hall]) (by simp)
     refine wpOp_step hoj (fun K' hK=> ?_)
     rw [if_pos (by rfl)]
     unfold Oper.wp
     simp [go_sem,e45,Oper.upon]
     refine (Hchk.out w' hokw).mono ?_
     rintro r4 w4 ⟨rfl,hb4⟩
     exact hK _ _ ⟨x,Xad (d:=some 46) (v:= .int .i64 (entErr e)) Xav ha rfl hun,hC.call hb4 (by decide) (by decide) hBX⟩
    ·have e4:a'.tmps[4]?.getD undef= .pointer (some ⟨w.heap.size+2,0,none⟩):=Xbl ha (by simp)
     have e43:a'.tmps[43]?.getD undef=entV e (.slice ao7 e.attrs.length k7) (.slice none e.exts.length 0):=Xap (i:=0) Xav ha rfl (by first|simpa using hall|simp [hall]) (by simp)
     have hr1:=hC.r1
     rw [Xan hun] at hr1
     refine wpOp_step hoj (fun K' hK=> ?_)
     rw [if_pos (by rfl)]
     refine Xai 35 _ _ rfl (w.heap.size+2) 0 [.int .i64 e.kind,S e.path,.slice ao7 e.attrs.length k7,S e.target,.int .i64 e.size,S e.digest,.slice none e.exts.length 0] (entV e (.slice ao7 e.attrs.length k7) (.slice none e.exts.length 0)) (by simp [Act.eval,e4]) (by simp [Act.eval,e43]) (by rfl) zeroRow _ hr1 (by simp) (by kernel_rfl) (by simp [Value.oneCell']) ?_
     exact hK _ _ ⟨x,Xad (d:=none) (v:=undef) Xav ha rfl hun,hC.put1 hun (by decide) (by omega) (by omega) (by rfl)⟩
    ·have e5:a'.tmps[5]?.getD undef= .pointer (some ⟨w.heap.size+3,0,none⟩):=Xbl ha (by simp)
     have e44:a'.tmps[44]?.getD undef=stoV q2 (.slice ak q2.cks.length ck):=Xap (i:=1) Xav ha rfl (by first|simpa using hall|simp [hall]) (by simp)
     have hr2:=hC.r2
     rw [Xan hun] at hr2
     refine wpOp_step hoj (fun K' hK=> ?_)
     rw [if_pos (by rfl)]
     refine Xai 89 _ _ rfl (w.heap.size+3) 0 [.slice ak q2.cks.length ck,.int .i64 q2.ses,S q2.str] (stoV q2 (.slice ak q2.cks.length ck)) (by simp [Act.eval,e5]) (by simp [Act.eval,e44]) (by rfl) #[.slice none 0 0,.int .i64 0,.string ⟨#[]⟩] _ hr2 (by simp) (by kernel_rfl) (by simp [Value.oneCell']) ?_
     exact hK _ _ ⟨x,Xad (d:=none) (v:=undef) Xav ha rfl hun,hC.put2 hun (by decide) (by omega) (by omega) (by rfl)⟩
    ·have e46:a'.tmps[46]?.getD undef= .int .i64 (entErr e):=Xap (i:=3) Xav ha rfl (by first|simpa using hall|simp [hall]) (by simp)
     refine wpOp_step hoj (fun K' hK=> ?_)
     rw [if_pos (by rfl)]
     unfold Oper.wp
     simp [go_sem,e46,Oper.upon]
     exact hK _ _ ⟨x,Xad (d:=some 6) (v:= .int .i64 (entErr e)) Xav ha rfl hun,hC.pure (by decide) (by decide)⟩
   ·rintro x s' a' w11 hup ha hC
    have hr1:=hC.r1
    have hr2:=hC.r2
    rw [hup 4 (by decide),if_pos rfl] at hr1
    rw [hup 5 (by decide),if_pos rfl] at hr2
    have Hr1:=Qh hr1
    have Hr2:=Qh hr2
    have hok11:Ok J w11:=HJX.out.of_block fun b c hb=>hC.keep b (HJX.out.lt hb) (fun h=>by rw [h,hJ2] at hb;cases hb) (fun h=>by rw [h,hJ3] at hb;cases hb)
    have hb11:=hbX.trans hC.bel
    rw [Xbb _ _ _ _ (fun i hi=>by rw [Nat.zero_add];exact hup i (by simpa using hi))] at ha
    subst ha
    simp only [fillAll,Act.put]
    clear hC hup hr1 hr2 HX2 HX3 HXm HXq
    go_wp2
    refine bodyPost_ret (v:= .tuple #[entV e (.slice ao7 e.attrs.length k7) (.slice none e.exts.length 0),stoV q2 (.slice ak q2.cks.length ck),.int .i64 (entErr e)]) ?_ rfl ?_
    ·rw [Xcv rfl]
     simp [asAddr,run_loadVar_row w11 (w.heap.size+2) 35 35 _ (0,0) _ Hr1.out Tryz.underlying35 rfl Hi7.out,run_loadVar_row w11 (w.heap.size+3) 89 89 _ (0,0) _ Hr2.out Tryz.underlying89 rfl Hi3.out]
    ·rw [Hn.out]
     exact ⟨_,_,_,J,rfl,hb11,HJ.out.1,hok11,HJ.out.2.1,HJ.out.2.2.1,HJ.out.2.2.2⟩
  case pos=>
   have e1:(c.kind==1)=true:=by simpa using hk
   obtain ⟨sm,hsm⟩:∃sm,sumP c.content=sm:=⟨_,rfl⟩
   have Hsm:=Qh (fun (b:Nat) (W:World) (hc:W.cell? ⟨b,0,none⟩=some (S c.content)) (hb:b<W.heap.size)=>(by
    have:=Xjt b 0 1 [c.content] c.content (by simp) (by omega) W (fun j x hj=>by
     rcases j with _|j
     ·simp at hj;subst hj;exact hc
     ·simp at hj) (by simp) hb (by simp)
    rwa [hsm] at this:Calls Tryz.prog 84 #[.slice (some ⟨b,0,none⟩) 1 1] W fun e w'=>e= .returned (S sm)∧Below W.heap.size W w'))
   have c4:w8.cell? ⟨w.heap.size+1,4,none⟩=some (S c.content):=(cell_of_row _ _ 4 _ _ _ HC8.out).trans rfl
   obtain ⟨q2,xs,pn,hpp⟩:∃q2 xs pn,putP q c.content=(q2,xs,pn):=⟨_,_,_,rfl⟩
   have hpn:pn=0:=by have:=(Xqd Hq.out hcl).2;rw [hpp] at this;exact this
   subst hpn
   have Hput:=Qh (fun w hw=>(by
    have hqq:=Hq.out
    have:=Xuc 4294901760 400000000 (by decide) (by decide) J q _ Hvk2.out ⟨by have:=hqq.s0;omega,by have:=hqq.s1;omega,hqq.str,hqn,fun k hk=>(hqq.cx k hk).x⟩ (fun k hk=>(hqq.cx k hk).d) c.content (by omega) w hw
    rwa [hpp] at this:Calls Tryz.prog 128 #[stoV q (.slice ak q.cks.length ck),S c.content] w (PutR J w (q2,xs,0))))
   have Hn0:=Qh (show recP q c=(⟨c.kind,c.path,c.attrs,c.target,(c.content.length:Nat),sm,xs⟩,q2) by rw [recP,if_pos hk,hpp,hsm])
   have Hwf:=Qh (show (⟨c.kind,c.path,c.attrs,c.target,(c.content.length:Nat),sm,xs⟩:Ent).Wf by have:=Xp7 Hq.out Hc.out;rw [Hn0.out] at this;exact this)
   have hmlt:m<w8.heap.size:=(Array.getElem?_eq_some_iff.1 Hm8.out).1
   have dle:decide ((c.content.length:Int)≤65536)=true:=Qt (by omega)
   clear hpp hsm hk
   go_wp2_with fail
   refine Xak (X:=Nat) (rdL w.heap.size m c.content sm) (RgE w8 5 232 223 233 224 234 225 235 (fun _ _=>True) (fun x w=>w.cell? ⟨x,0,none⟩=some (S c.content)) (fun _ _=>True) (fun _ _=>True) (fun _ _=>True) (fun _ _=>True) (fun x=>m) 35 8 10 212 (fun x=> #[.int .i64 c.kind,S c.path,.slice ao7 c.attrs.length k7,S c.target,.int .i64 (c.content.length:Int),.string ⟨#[]⟩,.slice none 0 0]) (fun x=> #[.int .i64 c.kind,S c.path,.slice ao7 c.attrs.length k7,S c.target,.int .i64 (c.content.length:Int),S sm,.slice none 0 0]) (fun x=> #[.int .i64 c.kind,S c.path,.slice ao7 c.attrs.length k7,S c.target,.int .i64 (c.content.length:Int),S sm,.slice none 0 0])) (by kernel_rfl) (by kernel_rfl) ?_ ?_ ?_
   ·exact ⟨0,RgE.start _ _ trivial⟩
   ·rintro x s' a' w' i hsz hcl ha hC hi
    obtain ⟨hun,oi,hoi,hall⟩:=mem_ready.1 hi
    have ev:=Xfu Xcg ha
    have hlt:=Xdh hun
    rcases i with _|_|_|_|_|_|_|_|_|_|_|i
    rotate_left 11
    ·simp at hoi
    all_goals
     have hoj:=hoi
     simp at hoi
     subst hoi
     simp [Region.binds] at hall
     try have hl:=Xay 6 8 hcl (by decide +kernel) hun
     try have hbw:=hC.off hl
     try have c4:=Xaa hbw c4
     refine wpOp_step hoj (fun K' hK=> ?_)
     rw [if_pos (by rfl)]
    rotate_left 5
    ·unfold Oper.wp
     simp [go_sem,ev,evF,hall,Oper.upon,c4]
     have ha:=ha.trans (Xa6 (L:=rdL w.heap.size m c.content sm x) (M:=rdL w.heap.size m c.content sm w'.heap.size) [5] rfl (fun j hne=>by
      rcases j with _|_|_|_|_|_|_|_|_|_|_|j<;>first|rfl|(exact absurd (by decide) hne)|simp) (List.forall_mem_cons.2 ⟨Xan hun,List.forall_mem_nil _⟩))
     exact hK _ _ ⟨w'.heap.size,Xaw Xcg ha rfl hun,hC.step hl (hbw.trans (((Qb _ _).alloc (Qn _) _).mono hbw.size)) (by decide) (fun _=>trivial) (fun _ _=>by simp) (fun _ _=>trivial) (fun _ _=>trivial) (fun _ _=>trivial) hlt⟩
    ·have hcx:=hC.f1 (by first|simpa using hall|simp [hall]) (Xao (by simp [hsz])) hl
     unfold Oper.wp
     simp [go_sem,ev,evF,hall,Oper.upon]
     refine (Hsm.out x w' hcx (block_lt_of_cell hcx)).mono ?_
     rintro r4 w4 ⟨rfl,hb4⟩
     exact hK _ _ ⟨x,Xaw Xcg ha rfl hun,hC.step hl (hbw.trans (hb4.mono hbw.size)) (by decide) (fun _=>trivial) (fun h _=>h.elim (fun e=>absurd e (by decide)) (fun ⟨_,_,q⟩=>Xaa hb4 q)) (fun _ _=>trivial) (fun _ _=>trivial) (fun _ _=>trivial) hlt⟩
    rotate_left 1
    ·have hrow:w'.heap[m]? =some (.cells _ 35 (0,0)):=(hbw.block _ (Array.getElem?_eq_some_iff.1 Hm8.out).1).trans Hm8.out
     refine Xai 3 _ _ rfl (m) 4 [.int .i64 (c.content.length:Int)] (.int .i64 (c.content.length:Int)) (by simp [Act.eval,ev,evF,hall]) (by simp [Act.eval,ev,evF,hall]) (by rfl) _ _ hrow (by simp) (by kernel_rfl) (by simp [Value.oneCell']) ?_
     exact hK _ _ ⟨x,Xad (d:=none) (v:=undef) Xcg ha rfl hun,hC.put1 hun trivial (Xay 6 10 hcl (by kernel_rfl) hun) (Xao (by simp [hsz])) (by decide) hrow (by rfl)⟩
    rotate_left 1
    ·have hrow:=hC.row1 (s1:=8) (by first|simpa using hall|simp [hall]) (Xan hun) (Xao (by simp [hsz]))
     refine Xai 9 _ _ rfl (m) 5 [S sm] (S sm) (by simp [Act.eval,ev,evF,hall]) (by simp [Act.eval,ev,evF,hall]) (by rfl) _ _ hrow (by simp) (by kernel_rfl) (by simp [Value.oneCell']) ?_
     exact hK _ _ ⟨x,Xad (d:=none) (v:=undef) Xcg ha rfl hun,hC.put2 hun (by first|simpa using hall|simp [hall]) (Xao (by simp [hsz])) (by decide) (by rfl)⟩
    all_goals
     unfold Oper.wp
     first
     |(simp [go_sem,ev,evF,hall,Oper.upon,c4];exact hK _ _ ⟨x,Xaw Xcg ha rfl hun,hC.pure (by decide)⟩)
     |(simp [go_sem,ev,evF,Oper.upon,c4];exact hK _ _ ⟨x,Xaw Xcg ha rfl hun,hC.pure (by decide)⟩)
   ·rintro x s' a' w10 hup ha hC
    obtain ⟨wb,hbW,hFin,hgr,hrow⟩:=hC.on (hup 8 (by decide))
    rw [if_pos (hup 10 (by decide))] at hrow
    simp only [ite_self] at hrow
    rw [Xbb _ _ _ _ (fun i hi=>by rw [Nat.zero_add];exact hup i (by simpa using hi))] at ha
    subst ha
    simp only [fillAll,Act.put,List.setIfInBounds_toArray,List.set_cons_succ,List.set_cons_zero]
    have hms8:=(Array.getElem?_eq_some_iff.1 hrow).1
    have hs8:=hbW.size
    have hok10:Ok J w10:=(hokJ.below (Qn _) hbW).grown hgr (fun g e=>by cases e;exact hJm)
    have hb10:Below w.heap.size w w10:=(hb8.trans (hbW.mono hb8.size)).grown hgr (by have:=hb8.size;omega) (fun k e=>by cases e;omega)
    have hz:∀b,b<w.heap.size+4→w10.heap[b]? =w8.heap[b]? :=fun b hb=>(hgr.block _ (by omega) (fun e=>by cases e;omega)).trans (hbW.block _ (by omega))
    have HQ9:=Qh ((hz w.heap.size (by omega)).trans HQ8.out)
    have HC9:=Qh ((hz (w.heap.size+1) (by omega)).trans HC8.out)
    have HX29:=Qh ((hz (w.heap.size+2) (by omega)).trans HX2.out)
    have HX39:=Qh ((hz (w.heap.size+3) (by omega)).trans HX3.out)
    have Hm9:=Qh hrow
    have k4:w10.cell? ⟨w.heap.size+1,4,none⟩=some (S c.content):=(cell_of_row _ _ 4 _ _ _ HC9.out).trans rfl
    have q0:w10.cell? ⟨w.heap.size,0,none⟩=some (.slice ak q.cks.length ck):=(cell_of_row _ _ 0 _ _ _ HQ9.out).trans rfl
    have q1:w10.cell? ⟨w.heap.size,1,none⟩=some (.int .i64 q.ses):=(cell_of_row _ _ 1 _ _ _ HQ9.out).trans rfl
    have q2':w10.cell? ⟨w.heap.size,2,none⟩=some (S q.str):=(cell_of_row _ _ 2 _ _ _ HQ9.out).trans rfl
    clear hz hgr hrow hbW hC hup HX2 HX3 Hm8 HC8 HQ8 c4 Hsm k0
    have hms10:m<w10.heap.size:=(Array.getElem?_eq_some_iff.1 Hm9.out).1
    go_wp2_with fail
    refine (Hput.out _ hok10).mono ?_
    rintro e12 w12 ⟨vk3,vx3,J,rfl,hb12,hx12,hok12,hrk,hrx0⟩
    obtain ⟨ak3,ck3,rfl,_,_,_⟩:=id hrk
    obtain ⟨ax3,cx3,rfl,_,_,_⟩:=id hrx0
    have hs12:=hb12.size
    have hn12:=(hb12.block _ (by omega)).trans HQ9.out
    have hm12:=(hb12.block _ hms10).trans Hm9.out
    clear q0 q1 q2' k4 e1 dle
    go_wp2_with (first
     |(refine Xaf rfl rfl 89 _ _ rfl w.heap.size 0 [.slice ak3 q2.cks.length ck3,.int .i64 q2.ses,S q2.str] (stoV q2 (.slice ak3 q2.cks.length ck3)) (by simp [Act.eval]) (by simp [Act.eval]) (by rfl) _ 89 hn12 (by simp) (by kernel_rfl) (by simp [Value.oneCell']) #[.slice ak3 q2.cks.length ck3,.int .i64 q2.ses,S q2.str] (by rfl) ?_
       intro w13 hg13 hr13)
     |(refine Xaf rfl rfl 33 _ _ rfl m 6 [.slice ax3 xs.length cx3] (.slice ax3 xs.length cx3) (by simp [Act.eval]) (by simp [Act.eval]) (by rfl) _ 35 ((hg13.block _ (by omega) (fun e=>by cases e;omega)).trans hm12) (by simp) (by kernel_rfl) (by simp [Value.oneCell']) #[.int .i64 c.kind,S c.path,.slice ao7 c.attrs.length k7,S c.target,.int .i64 (c.content.length:Int),S sm,.slice ax3 xs.length cx3] (by rfl) ?_
       intro w14 hg14 hr14))
    have hs13:=hg13.size
    have hs14:=hg14.size
    have hkp:=hx12.keep hok10 (Qn _)
    have hJ2:J (w.heap.size+2)=none:=(hx12 _ (by omega)).trans (hJf _ (by omega) (by omega))
    have hJ3:J (w.heap.size+3)=none:=(hx12 _ (by omega)).trans (hJf _ (by omega) (by omega))
    have hJn:J w.heap.size=none:=(hx12 _ (by omega)).trans (hJf _ (by omega) (by omega))
    have hJm':J m=none:=(hx12 _ hms10).trans hJm
    have hz:∀b,b<w.heap.size+4→b≠w.heap.size→w14.heap[b]? =w10.heap[b]? :=fun b hb hn=>((hg14.block _ (by omega) (fun e=>by cases e;omega)).trans (hg13.block _ (by omega) (fun e=>by cases e;omega))).trans (hb12.block _ (by omega))
    have HX2:=Qh ((hz (w.heap.size+2) (by omega) (by omega)).trans HX29.out)
    have HX3:=Qh ((hz (w.heap.size+3) (by omega) (by omega)).trans HX39.out)
    have HXq:=Qh ((hg14.block w.heap.size (by omega) (fun e=>by cases e;omega)).trans hr13)
    have HJX:=Qh ((hok12.grown hg13 (fun g e=>by cases e;exact hJn)).grown hg14 (fun g e=>by cases e;exact hJm'))
    have hbX:Below w.heap.size w w14:=((hb10.trans (hb12.mono hb10.size)).grown hg13 (by omega) (fun k e=>by cases e;omega)).grown hg14 (by omega) (fun k e=>by cases e;omega)
    obtain ⟨e,he⟩:∃e:Ent,(⟨c.kind,c.path,c.attrs,c.target,(c.content.length:Nat),sm,xs⟩:Ent)=e:=⟨_,rfl⟩
    have Hn:=Qh (show recP q c=(e,q2) by rw [Hn0.out,he])
    have hra:RdS tAt J (.slice ao7 e.attrs.length k7) e.attrs:=by rw [←he];exact hrJ.mono hkp
    have hrx:RdS tXt J (.slice ax3 e.exts.length cx3) e.exts:=by rw [←he];exact hrx0
    have hwf:e.Wf:=by rw [←he];exact Hwf.out
    have Hchk:=Qh (fun w hw=>Xe4 J (hG2.mono hkp) e _ _ hra hrx hwf (by rw [←he];exact hpl) (by rw [←he];exact htl) w hw)
    have HJ:=Qh (And.intro (hxJ'.trans (hx12.mono (show w.heap.size≤_ by omega)) (Qn _)) (And.intro hra (And.intro hrx hrk)))
    have HXm:=Qh (show w14.heap[m]? =some (.cells #[.int .i64 e.kind,S e.path,.slice ao7 e.attrs.length k7,S e.target,.int .i64 e.size,S e.digest,.slice ax3 e.exts.length cx3] 35 (0,0)) by rw [←he];exact hr14)
    clear he hra hwf hrx hrx0 Hwf Hn0 hr13 hr14 hg13 hg14 hz hkp hb12 hx12 hok12 hn12 hm12 hok10 hb10 HX29 HX39 HQ9 HC9 Hm9 Hput hrJ hrk hxJ' hJf hG2 hokJ hb8 hJn hJm' hJm
    have hBX:w.heap.size≤w14.heap.size:=hbX.size
    have hms:m≠w.heap.size+2:=by omega
    have hms3:m≠w.heap.size+3:=by omega
    refine Xak (X:=Nat) (fun _=>reL m w.heap.size e (.slice ao7 e.attrs.length k7) (.slice ax3 e.exts.length cx3) (.slice ak3 q2.cks.length ck3) q2) (fun _=>RgD w.heap.size w14 (w.heap.size+2) (w.heap.size+3) 35 89 zeroRow (entRow e (.slice ao7 e.attrs.length k7) (.slice ax3 e.exts.length cx3)) #[.slice none 0 0,.int .i64 0,.string ⟨#[]⟩] #[.slice ak3 q2.cks.length ck3,.int .i64 q2.ses,S q2.str] 4 5) (by kernel_rfl) (by kernel_rfl) ?_ ?_ ?_
    ·exact ⟨0,RgD.start _ hBX HX2.out HX3.out⟩
    ·rintro x s' a' w' i hsz hcl ha hC hi
     obtain ⟨hun,oi,hoi,hall⟩:=mem_ready.1 hi
     have Hm':=(hC.keep m (Array.getElem?_eq_some_iff.1 HXm.out).1 hms hms3).trans HXm.out
     have Hq':=(hC.keep w.heap.size (Array.getElem?_eq_some_iff.1 HXq.out).1 (by omega) (by omega)).trans HXq.out
     have hokw:Ok J w':=HJX.out.of_block fun b c hb=>hC.keep b (HJX.out.lt hb) (fun h=>by rw [h,hJ2] at hb;cases hb) (fun h=>by rw [h,hJ3] at hb;cases hb)
     rcases i with _|_|_|_|_|_|_|i
     rotate_left 7
     ·simp at hoi
     all_goals
      have hoj:=hoi
      simp at hoi
      subst hoi
      simp [Region.binds] at hall
     ·have e7:a'.tmps[7]?.getD undef= .pointer (some ⟨m,0,none⟩):=Xbl ha (by simp)
      have d0:w'.cell? ⟨m,0,none⟩=_:=(cell_of_row _ _ 0 _ _ _ Hm').trans rfl
      have d1:w'.cell? ⟨m,1,none⟩=_:=(cell_of_row _ _ 1 _ _ _ Hm').trans rfl
      have d2:w'.cell? ⟨m,2,none⟩=_:=(cell_of_row _ _ 2 _ _ _ Hm').trans rfl
      have d3:w'.cell? ⟨m,3,none⟩=_:=(cell_of_row _ _ 3 _ _ _ Hm').trans rfl
      have d4:w'.cell? ⟨m,4,none⟩=_:=(cell_of_row _ _ 4 _ _ _ Hm').trans rfl
      have d5:w'.cell? ⟨m,5,none⟩=_:=(cell_of_row _ _ 5 _ _ _ Hm').trans rfl
      have d6:w'.cell? ⟨m,6,none⟩=_:=(cell_of_row _ _ 6 _ _ _ Hm').trans rfl
      refine wpOp_step hoj (fun K' hK=> ?_)
      rw [if_pos (by rfl)]
      unfold Oper.wp
      simp [go_sem,e7,d0,d1,d2,d3,d4,d5,d6,Oper.upon]
      exact hK _ _ ⟨x,Xad (d:=some 43) (v:=entV e (.slice ao7 e.attrs.length k7) (.slice ax3 e.exts.length cx3)) Xav ha rfl hun,hC.pure (by decide) (by decide)⟩
     ·have e2:a'.tmps[2]?.getD undef= .pointer (some ⟨w.heap.size,0,none⟩):=Xbl ha (by simp)
      have d0:w'.cell? ⟨w.heap.size,0,none⟩=_:=(cell_of_row _ _ 0 _ _ _ Hq').trans rfl
      have d1:w'.cell? ⟨w.heap.size,1,none⟩=_:=(cell_of_row _ _ 1 _ _ _ Hq').trans rfl
      have d2:w'.cell? ⟨w.heap.size,2,none⟩=_:=(cell_of_row _ _ 2 _ _ _ Hq').trans rfl
      refine wpOp_step hoj (fun K' hK=> ?_)
      rw [if_pos (by rfl)]
      unfold Oper.wp
      simp [go_sem,e2,d0,d1,d2,Oper.upon]
      exact hK _ _ ⟨x,Xad (d:=some 44) (v:=stoV q2 (.slice ak3 q2.cks.length ck3)) Xav ha rfl hun,hC.pure (by decide) (by decide)⟩
     ·have e7:a'.tmps[7]?.getD undef= .pointer (some ⟨m,0,none⟩):=Xbl ha (by simp)
      have d0:w'.cell? ⟨m,0,none⟩=_:=(cell_of_row _ _ 0 _ _ _ Hm').trans rfl
      have d1:w'.cell? ⟨m,1,none⟩=_:=(cell_of_row _ _ 1 _ _ _ Hm').trans rfl
      have d2:w'.cell? ⟨m,2,none⟩=_:=(cell_of_row _ _ 2 _ _ _ Hm').trans rfl
      have d3:w'.cell? ⟨m,3,none⟩=_:=(cell_of_row _ _ 3 _ _ _ Hm').trans rfl
      have d4:w'.cell? ⟨m,4,none⟩=_:=(cell_of_row _ _ 4 _ _ _ Hm').trans rfl
      have d5:w'.cell? ⟨m,5,none⟩=_:=(cell_of_row _ _ 5 _ _ _ Hm').trans rfl
      have d6:w'.cell? ⟨m,6,none⟩=_:=(cell_of_row _ _ 6 _ _ _ Hm').trans rfl
      refine wpOp_step hoj (fun K' hK=> ?_)
      rw [if_pos (by rfl)]
      unfold Oper.wp
      simp [go_sem,e7,d0,d1,d2,d3,d4,d5,d6,Oper.upon]
      exact hK _ _ ⟨x,Xad (d:=some 45) (v:=entV e (.slice ao7 e.attrs.length k7) (.slice ax3 e.exts.length cx3)) Xav ha rfl hun,hC.pure (by decide) (by decide)⟩
     ·have e45:a'.tmps[45]?.getD undef=entV e (.slice ao7 e.attrs.length k7) (.slice ax3 e.exts.length cx3):=Xap (i:=2) Xav ha rfl (by first|simpa using hall|simp [hall]) (by simp)
      refine wpOp_step hoj (fun K' hK=> ?_)
      rw [if_pos (by rfl)]
      unfold Oper.wp
      simp [go_sem,e45,Oper.upon]
      refine (Hchk.out w' hokw).mono ?_
      rintro r4 w4 ⟨rfl,hb4⟩
      exact hK _ _ ⟨x,Xad (d:=some 46) (v:= .int .i64 (entErr e)) Xav ha rfl hun,hC.call hb4 (by decide) (by decide) hBX⟩
     ·have e4:a'.tmps[4]?.getD undef= .pointer (some ⟨w.heap.size+2,0,none⟩):=Xbl ha (by simp)
      have e43:a'.tmps[43]?.getD undef=entV e (.slice ao7 e.attrs.length k7) (.slice ax3 e.exts.length cx3):=Xap (i:=0) Xav ha rfl (by first|simpa using hall|simp [hall]) (by simp)
      have hr1:=hC.r1
      rw [Xan hun] at hr1
      refine wpOp_step hoj (fun K' hK=> ?_)
      rw [if_pos (by rfl)]
      refine Xai 35 _ _ rfl (w.heap.size+2) 0 [.int .i64 e.kind,S e.path,.slice ao7 e.attrs.length k7,S e.target,.int .i64 e.size,S e.digest,.slice ax3 e.exts.length cx3] (entV e (.slice ao7 e.attrs.length k7) (.slice ax3 e.exts.length cx3)) (by simp [Act.eval,e4]) (by simp [Act.eval,e43]) (by rfl) zeroRow _ hr1 (by simp) (by kernel_rfl) (by simp [Value.oneCell']) ?_
      exact hK _ _ ⟨x,Xad (d:=none) (v:=undef) Xav ha rfl hun,hC.put1 hun (by decide) (by omega) (by omega) (by rfl)⟩
     ·have e5:a'.tmps[5]?.getD undef= .pointer (some ⟨w.heap.size+3,0,none⟩):=Xbl ha (by simp)
      have e44:a'.tmps[44]?.getD undef=stoV q2 (.slice ak3 q2.cks.length ck3):=Xap (i:=1) Xav ha rfl (by first|simpa using hall|simp [hall]) (by simp)
      have hr2:=hC.r2
      rw [Xan hun] at hr2
      refine wpOp_step hoj (fun K' hK=> ?_)
      rw [if_pos (by rfl)]
      refine Xai 89 _ _ rfl (w.heap.size+3) 0 [.slice ak3 q2.cks.length ck3,.int .i64 q2.ses,S q2.str] (stoV q2 (.slice ak3 q2.cks.length ck3)) (by simp [Act.eval,e5]) (by simp [Act.eval,e44]) (by rfl) #[.slice none 0 0,.int .i64 0,.string ⟨#[]⟩] _ hr2 (by simp) (by kernel_rfl) (by simp [Value.oneCell']) ?_
      exact hK _ _ ⟨x,Xad (d:=none) (v:=undef) Xav ha rfl hun,hC.put2 hun (by decide) (by omega) (by omega) (by rfl)⟩
     ·have e46:a'.tmps[46]?.getD undef= .int .i64 (entErr e):=Xap (i:=3) Xav ha rfl (by first|simpa using hall|simp [hall]) (by simp)
      refine wpOp_step hoj (fun K' hK=> ?_)
      rw [if_pos (by rfl)]
      unfold Oper.wp
      simp [go_sem,e46,Oper.upon]
      exact hK _ _ ⟨x,Xad (d:=some 6) (v:= .int .i64 (entErr e)) Xav ha rfl hun,hC.pure (by decide) (by decide)⟩
    ·rintro x s' a' w11 hup ha hC
     have hr1:=hC.r1
     have hr2:=hC.r2
     rw [hup 4 (by decide),if_pos rfl] at hr1
     rw [hup 5 (by decide),if_pos rfl] at hr2
     have Hr1:=Qh hr1
     have Hr2:=Qh hr2
     have hok11:Ok J w11:=HJX.out.of_block fun b c hb=>hC.keep b (HJX.out.lt hb) (fun h=>by rw [h,hJ2] at hb;cases hb) (fun h=>by rw [h,hJ3] at hb;cases hb)
     have hb11:=hbX.trans hC.bel
     rw [Xbb _ _ _ _ (fun i hi=>by rw [Nat.zero_add];exact hup i (by simpa using hi))] at ha
     subst ha
     simp only [fillAll,Act.put]
     clear hC hup hr1 hr2 HX2 HX3 HXm HXq
     go_wp2
     refine bodyPost_ret (v:= .tuple #[entV e (.slice ao7 e.attrs.length k7) (.slice ax3 e.exts.length cx3),stoV q2 (.slice ak3 q2.cks.length ck3),.int .i64 (entErr e)]) ?_ rfl ?_
     ·rw [Xcv rfl]
      simp [asAddr,run_loadVar_row w11 (w.heap.size+2) 35 35 _ (0,0) _ Hr1.out Tryz.underlying35 rfl Hi7.out,run_loadVar_row w11 (w.heap.size+3) 89 89 _ (0,0) _ Hr2.out Tryz.underlying89 rfl Hi3.out]
     ·rw [Hn.out]
      exact ⟨_,_,_,J,rfl,hb11,HJ.out.1,hok11,HJ.out.2.1,HJ.out.2.2.1,HJ.out.2.2.2⟩
end Go.Proofs.YtkipnpjagcfcpaaGreatDoor
