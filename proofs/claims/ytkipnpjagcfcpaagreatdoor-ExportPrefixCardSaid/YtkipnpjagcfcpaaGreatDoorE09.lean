/- Lemmas for the claim's theorem;conditions: as each says. -/
import Derived.Test.YtkipnpjagcfcpaaGreatDoorE08
import Derived.Lib.AppendStr
import Derived.Lib.AppendZeros
import Derived.Laws.BytesArg
set_option maxHeartbeats 0
set_option maxRecDepth 100000
set_option linter.all false
namespace Go.Proofs.YtkipnpjagcfcpaaGreatDoor
open Go.RowKit
variable{W:World}{I:IH}{n m B:Nat}{s:ae}{la:Nat}{fin:Value→World→Prop}{x:Value}{ct:ae}{v:Value}{w:World}{L:List bR}{st:List ae}{e:aG}{sz:Int}{dg ed:ae}{bb:Bool}
def ints(s:ae):List Int:=s.map fun b=>(b.toNat:Int)
def LA(s:ae):List Value:=s.map fun b=> .int .u8 (b.toNat:Int)
theorem Oj(s:ae):(ints s).length=s.length:=by simp[ints]
theorem Xpv(s p:ae):ints (s++p)=ints s++ints p:=by simp[ints]
theorem Xyl(s:ae):Lib.strCells ⟨s.toArray⟩=LA s:=by simp[Lib.strCells,LA]
theorem Xwi(I:IH)(s:ae):bS tB I (LA s) (ints s):=by
 refine⟨by simp[LA,ints,tB,Ty.flat],fun i hi=>⟨[.int .u8 (ints s)[i]],rfl,fun j u hu=> ?_⟩⟩;have hj:j=0:=by have:=(List.getElem?_eq_some_iff.1 hu).1;simp at this;exact this
 subst hj;have Sj:i<s.length:=by rw[Oj]at hi;exact hi
 simp at hu;subst hu;show(LA s)[i*1+0]?=_;simp[LA,ints,Sj]
theorem YU(s:ae):(⟨s.toArray⟩:ByteArray).size=s.length:=by show s.toArray.size=_;simp
theorem Xh9(p:ae)(h:aP tB 5 I W B v (ints s))(hB:B≤W.heap.size)(hl:s.length+p.length≤1000000):
 ∃v' w',(∀ty,(Builtin.append_ #[69,9] ty #[v,S p]).run Tryz.prog W= .ok v' w')∧aP tB 5 I w' B v' (ints (s++p))∧W.grownBy w' v.ownBlock:=by
 obtain⟨i,h1,h2,h3,h4⟩:=info_parts Pw;obtain⟨xs,k1,k2⟩:=h;have e:(⟨p.toArray⟩:ByteArray).size=p.length:=YU p;obtain⟨v',w',hr,bE,hg,_⟩:=Lib.run_append_own_string (P:=Tryz.prog) W B 69 9 0 5 i Tryz.underlying69 Tryz.underlying9 h1 h2 h3 h4 v (ints s).length xs k1 ⟨p.toArray⟩ (by rw[e,Oj];unfold maxLen;omega) (by rw[e,Oj];omega) hB;refine⟨v',w',fun ty=>hr,⟨xs++LA p,?_,?_⟩,hg⟩
 ·rw[Xyl,e]at bE;rw[Xpv,List.length_append,Oj p];exact bE
 ·rw[Xpv];exact k2.append (Xwi I p)
theorem Xnn(q:Nat):Builtin.zeroCells (Value.int .u8 0).cells q=((⟨(List.replicate q (0:UInt8)).toArray⟩:ByteArray).data.map fun b=>Value.int .u8 b.toNat):=by
 apply Array.ext
 ·rw[size_zeroCells];show q*1=_;simp
 ·intro i h1 h2;show((Array.range (q*1)).map fun i=>(#[Value.int .u8 0]:Array Value)[i%1]!)[i]'h1=_;simp[Nat.mod_one]
theorem Xnm(q:Nat)(w':World):(Builtin.firstCells 1 q (.string ⟨(List.replicate q (0:UInt8)).toArray⟩)).run Tryz.prog w'= .ok (Builtin.zeroCells (Value.int .u8 0).cells q) w':=by
 have hf:=Lib.run_firstCells_string (P:=Tryz.prog) w' 1 ⟨(List.replicate q (0:UInt8)).toArray⟩;rw[YU,List.length_replicate]at hf;rw[hf,Xnn];simp[Lib.strCells]
theorem Xkp(t tn tu ty e:TypeId)(i:TypeInfo)(kn kq:IntKind)(ht:Tryz.prog.underlying t=some (.slice e))(OP:Tryz.prog.underlying tn=some (.int kn))(Vr:Tryz.prog.underlying tu=some .string)(hi:Tryz.prog.info? e=some i)
 (hz:i.zero=some (.int .u8 0)) (hs:i.size=1) (hb:i.bytes=1) (ao:Option Addr) (n cap q:Nat) (hl:n+q≤1000000) (Z:ByteArray) (e1:Z.size=q)
 (f1:∀w',(Builtin.firstCells 1 q (.string Z)).run Tryz.prog w'= .ok (Builtin.zeroCells (Value.int .u8 0).cells q) w'):
 (Builtin.append_ #[t,tn] ty #[.slice ao n cap,.int kq q]).run Tryz.prog W=(Builtin.append_ #[t,tu] ty #[.slice ao n cap,.string Z]).run Tryz.prog W:=by
 have hw:IntKind.i64.wrap (q:Int)=q:=by rw[IntKind.wrap_i64];omega
 have n1:¬((q:Int)<0):=by omega
 have n2:¬(281474976710656<(q:Int)):=by omega
 have n3:¬(9223372036854775807<((n:Int)+(q:Int))):=by omega
 by_cases pI:n+q≤cap
 ·by_cases hq:q=0
  ·subst hq;have g3:IntKind.i64.wrap 0=0:=rfl;have g4:Builtin.zeroCells (Value.int .u8 0).cells 0=#[]:=Array.eq_empty_of_size_eq_zero (by rw[size_zeroCells];simp);have g5:n≤cap:=pI;simp[Builtin.append_,run_underlying ht,run_underlying OP,run_underlying Vr,sizeOf,typeInfo,zeroValue,hi,hz,hs,hb,Builtin.lenOf,e1,f1,g3,g4,g5,asInt,asIntOf,Question.forced]
  ·simp[Builtin.append_,run_underlying ht,run_underlying OP,run_underlying Vr,sizeOf,typeInfo,zeroValue,hi,hz,hs,hb,Builtin.lenOf,e1,f1,pI,asInt,asIntOf,Question.forced,hw,n1,n2,hq]
 ·have nJ:¬(281474976710656<Builtin.nextslicecap (n+q) cap):=by
   have:=growslice_fits (need:=n+q) (old:=cap) (bytes:=1) (by omega) (by omega);omega
  by_cases hq:q=0
  ·subst hq;have g3:IntKind.i64.wrap 0=0:=rfl;have g4:Builtin.zeroCells (Value.int .u8 0).cells 0=#[]:=Array.eq_empty_of_size_eq_zero (by rw[size_zeroCells];simp);have g5:¬n≤cap:=pI;have g6:¬(281474976710656<Builtin.nextslicecap n cap):=nJ;have g7:¬(9223372036854775807<(n:Int)):=by omega
   simp[Builtin.append_,run_underlying ht,run_underlying OP,run_underlying Vr,sizeOf,typeInfo,zeroValue,hi,hz,hs,hb,Builtin.lenOf,e1,f1,g3,g4,g5,g6,g7,asInt,asIntOf,Question.forced]
  ·simp[Builtin.append_,run_underlying ht,run_underlying OP,run_underlying Vr,sizeOf,typeInfo,zeroValue,hi,hz,hs,hb,Builtin.lenOf,e1,f1,pI,asInt,asIntOf,Question.forced,hw,n1,n2,hq,nJ,n3]
theorem Xkq{ao:Option Addr}{cap:Nat}(q:Nat)(h:aP tB 5 I W B (.slice ao n cap) (ints s))(hB:B≤W.heap.size)(hn:n=s.length)(hl:s.length+q≤1000000):
 ∃v' w',(∀ty,(Builtin.append_ #[69,3] ty #[.slice ao n cap,.int .i64 q]).run Tryz.prog W= .ok v' w')∧aP tB 5 I w' B v' (ints (s++List.replicate q 0))∧W.grownBy w' (Value.slice ao n cap).ownBlock:=by
 obtain⟨v',w',hr,h2,h3⟩:=Xh9 (List.replicate q 0) h hB (by simpa using hl);obtain⟨i,h1,k2,k3,k4⟩:=info_parts Pw;exact⟨v',w',fun ty=>by
  rw[Xkp 69 3 9 ty 5 i .i64 .i64 Tryz.underlying69 Tryz.underlying3 Tryz.underlying9 h1 k2 k3 k4 ao n cap q (by omega) ⟨(List.replicate q (0:UInt8)).toArray⟩ (by rw[YU];simp) (fun w'=>Xnm q w')];exact hr ty,h2,h3⟩
theorem Xuc(h:aP tB 5 I W B v (ints s)):(convert 69 9 v).run Tryz.prog W= .ok (S s) W:=by
 by_cases h0:0<s.length
 ·rw[WA Tryz.underlying69 Tryz.underlying5 Tryz.underlying9 W h (by rw[Oj];exact h0)];have e:(ints s).map (fun x=>UInt8.ofNat x.toNat)=s:=by
   unfold ints;rw[List.map_map];refine(List.map_congr_left fun b _=> ?_).trans (List.map_id s);simp
  rw[e]
 ·have hs:s=[]:=List.eq_nil_of_length_eq_zero (by omega);subst hs;obtain⟨xs,⟨_,hc⟩,_⟩:=h;rcases hc with⟨rfl,_⟩|⟨g,cap,cur,rfl,_,hg,_,_,_,ht⟩
  ·exact(run_convert_bytes_nil (P:=Tryz.prog) W _ 5 Tryz.underlying69 Tryz.underlying5 0 0 _ Tryz.underlying9).trans rfl
  ·rw[run_convert_bytes_string _ _ _ 5 _ _ _ Tryz.underlying69 Tryz.underlying5 Tryz.underlying9];have:=run_bytesToString (P:=Tryz.prog) W ⟨g,0,none⟩ 0 cap [] (by
    have hc:=run_loadCells_list (P:=Tryz.prog) W ⟨g,0,none⟩ [] (fun j u hu=>by cases hu);simpa using hc)
   exact this.trans rfl
structure Gi (W:World) (la:Nat) (fin:Value→World→Prop) (x:Value) (s:Array Bool) (w:World):Prop where
 dE:s.getD la false=false→Below W.heap.size W w
 fin:s.getD la false=true→fin x w
theorem Gi.start(n:Nat)(x:Value):Gi W la fin x (Array.replicate n false) {W with drawn:=W.drawn+1}:=
 ⟨fun _=>(Qb _ _).drew,fun h=>(by rw[xR]at h;cases h)⟩
theorem Gi.step{s:Array Bool}(h:Gi W la fin x s w){i:Nat}(hi:i≠la):Gi W la fin x (s.setIfInBounds i true) w:=
 ⟨fun q=>h.dE (by rwa[getD_set_ne false hi]at q),fun q=>h.fin (by rwa[getD_set_ne false hi]at q)⟩
theorem Gi.app{s:Array Bool}(aV:s.getD la true=false)(hf:fin x w):Gi W la fin x (s.setIfInBounds la true) w:=by
 have e:=KF (yI aV);exact⟨fun q=>(by rw[e]at q;cases q),fun _=>hf⟩
abbrev Ol(vo:Value)(bs os ls cs:Nat)(nn:Nat)(zs:Int)(m ou:Nat)(u:ae)(r q:Nat)(p:ae)(x:Value):List (Option Tmp×Value):=
 [(some 82,vo),(some 83,.slice (some ⟨bs,os,none⟩) ls cs),(some 84,.pointer (some ⟨nn,0,none⟩)),(some 85,.int .i64 zs),(some 86,.int .i64 (m:Int)),(some 87,.pointer (some ⟨bs,ou,none⟩)),(some 88,S u),(some 89,.pointer (some ⟨nn,1,none⟩)),(some 90,.int .i64 (r:Int)),(some 91,.pointer (some ⟨nn,1,none⟩)),(some 92,.int .i64 (r:Int)),(some 93,.pointer (some ⟨nn,2,none⟩)),(some 94,.int .i64 (q:Int)),(some 95,.int .i64 ((r:Int)+(q:Int))),(some 96,S p),(some 97,x),(some 6,x)]
theorem o8{vo:Value}{bs os ls cs:Nat}{nn:Nat}{zs:Int}{ou:Nat}{u:ae}{r q:Nat}{p:ae}:bL (Ol vo bs os ls cs nn zs m ou u r q p x):=by
 unfold bL;simp
theorem Xy8(I:IH)(vs vl:Value)(st:List ae)(l:List Xt)(lS:bf jE I vs st)(I9:bf mr I vl l)(gB:∀s∈st,s.length≤9223372036854775807)(w:World)(hw:Ok I w):
 Calls Tryz.prog 98 #[vs,vl] w fun e w'=>e= .returned (.tuple #[S (l7 st l).1,.int .i64 (l7 st l).2])∧Below w.heap.size w w':=by
 have SA:=lS.bW;have SK:=I9.bW;obtain⟨as0,cs0,rfl,_,_,_⟩:=id lS;obtain⟨al,cl,rfl,_,_,_⟩:=id I9;have hIf:∀b,w.heap.size≤b→I b=none:=fun b hb=>hw.fresh hb;have Ce:=Qh lS;have YT:=Qh I9;have bB:=Qh gB;obtain⟨N,hN⟩:∃N,l7 st l=N:=⟨_,rfl⟩;have HN:=Qh (show jV st (l.drop 0) []=N from hN);rw[hN];clear lS I9 gB hN;go_enter Tryz.func98,Tryz.ntmps98
 go_wp2_with fail
 go_loopw [6,12] (fun s6 s12 wr=> ∃(k:Nat) (out:ae),k≤l.length∧s12= .int .i64 k∧aP tB 5 I wr w.heap.size s6 (ints out)∧out.length≤65536∧jV st (l.drop k) out=N∧Below w.heap.size w wr) (fun _ i _=>l.length-(intOf i).toNat)
 case atStart=>exact⟨0,[],Nat.zero_le _,rfl,aP.nil _ _ _ _ _,by simp,HN.O,Qb _ _⟩
 case round=>
  clear HN;obtain⟨k,out,hk,rfl,bE,Dr,hr,hb⟩:=hrel;have Hr:=Qh hr;have gG:Ok I wr:=hw.below (Qn _) hb;clear hr;obtain⟨ao,co,rfl⟩:=FU bE;rw[Oj]at bE ⊢;have bQ:=Qh bE;clear bE;by_cases hlt:k<l.length
  ·obtain⟨x,b,off,cap',bH,dn,x0,x1,x2⟩:=uZ YT.O gG k hlt;cases dn;have Hg:=Qh (Xmq hlt bH Hr.O);clear bH Hr;obtain⟨zs,zo,zn⟩:=x;dsimp only at x0 x1 x2;have m65:IntKind.i64.wrap (65536-(out.length:Int))=65536-(out.length:Int):=IntWalk.i64_in _ (by omega);by_cases g1:zn<0
   ·have Hn:=Qh (show N=([],2) by have:=Hg.O;rw[if_pos (Gh (x:=⟨zs,zo,zn⟩) (.inl g1))]at this;exact this.symm);have d1:decide (zn<0)=true:=Qt g1;clear g1;have y0:(wr.alloc (.cells #[.int .i64 (zs),.int .i64 (zo),.int .i64 (zn)] 110)).cell? ⟨wr.heap.size,0,none⟩=some (.int .i64 (zs)):=by simp
    have y1:(wr.alloc (.cells #[.int .i64 (zs),.int .i64 (zo),.int .i64 (zn)] 110)).cell? ⟨wr.heap.size,1,none⟩=some (.int .i64 (zo)):=by simp
    have y2:(wr.alloc (.cells #[.int .i64 (zs),.int .i64 (zo),.int .i64 (zn)] 110)).cell? ⟨wr.heap.size,2,none⟩=some (.int .i64 (zn)):=by simp
    have au:=hb.alloc hb.size (.cells #[.int .i64 (zs),.int .i64 (zo),.int .i64 (zn)] 110);go_wp2;go_ret2;rw[Hn.O];exact⟨rfl,au⟩
   have d1:decide (zn<0)=false:=Qf g1;by_cases g2:zo<0
   ·have Hn:=Qh (show N=([],2) by have:=Hg.O;rw[if_pos (Gh (x:=⟨zs,zo,zn⟩) (.inr (.inl g2)))]at this;exact this.symm);have d2:decide (zo<0)=true:=Qt g2;clear g1 g2;have y0:(wr.alloc (.cells #[.int .i64 (zs),.int .i64 (zo),.int .i64 (zn)] 110)).cell? ⟨wr.heap.size,0,none⟩=some (.int .i64 (zs)):=by simp
    have y1:(wr.alloc (.cells #[.int .i64 (zs),.int .i64 (zo),.int .i64 (zn)] 110)).cell? ⟨wr.heap.size,1,none⟩=some (.int .i64 (zo)):=by simp
    have y2:(wr.alloc (.cells #[.int .i64 (zs),.int .i64 (zo),.int .i64 (zn)] 110)).cell? ⟨wr.heap.size,2,none⟩=some (.int .i64 (zn)):=by simp
    have au:=hb.alloc hb.size (.cells #[.int .i64 (zs),.int .i64 (zo),.int .i64 (zn)] 110);go_wp2;go_ret2;rw[Hn.O];exact⟨rfl,au⟩
   have d2:decide (zo<0)=false:=Qf g2;by_cases g3:zs<0
   ·have Hn:=Qh (show N=([],2) by have:=Hg.O;rw[if_pos (Gh (x:=⟨zs,zo,zn⟩) (.inr (.inr (.inl g3))))]at this;exact this.symm);have d3:decide (zs<0)=true:=Qt g3;clear g1 g2 g3;have y0:(wr.alloc (.cells #[.int .i64 (zs),.int .i64 (zo),.int .i64 (zn)] 110)).cell? ⟨wr.heap.size,0,none⟩=some (.int .i64 (zs)):=by simp
    have y1:(wr.alloc (.cells #[.int .i64 (zs),.int .i64 (zo),.int .i64 (zn)] 110)).cell? ⟨wr.heap.size,1,none⟩=some (.int .i64 (zo)):=by simp
    have y2:(wr.alloc (.cells #[.int .i64 (zs),.int .i64 (zo),.int .i64 (zn)] 110)).cell? ⟨wr.heap.size,2,none⟩=some (.int .i64 (zn)):=by simp
    have au:=hb.alloc hb.size (.cells #[.int .i64 (zs),.int .i64 (zo),.int .i64 (zn)] 110);go_wp2;go_ret2;rw[Hn.O];exact⟨rfl,au⟩
   have d3:decide (zs<0)=false:=Qf g3;by_cases g4:(st.length:Int)<zs
   ·have Hn:=Qh (show N=([],2) by have:=Hg.O;rw[if_pos (Gh (x:=⟨zs,zo,zn⟩) (.inr (.inr (.inr (.inl g4)))))]at this;exact this.symm);have d4:decide ((st.length:Int)<zs)=true:=Qt g4;clear g1 g2 g3 g4;have y0:(wr.alloc (.cells #[.int .i64 (zs),.int .i64 (zo),.int .i64 (zn)] 110)).cell? ⟨wr.heap.size,0,none⟩=some (.int .i64 (zs)):=by simp
    have y1:(wr.alloc (.cells #[.int .i64 (zs),.int .i64 (zo),.int .i64 (zn)] 110)).cell? ⟨wr.heap.size,1,none⟩=some (.int .i64 (zo)):=by simp
    have y2:(wr.alloc (.cells #[.int .i64 (zs),.int .i64 (zo),.int .i64 (zn)] 110)).cell? ⟨wr.heap.size,2,none⟩=some (.int .i64 (zn)):=by simp
    have au:=hb.alloc hb.size (.cells #[.int .i64 (zs),.int .i64 (zo),.int .i64 (zn)] 110);go_wp2;go_ret2;rw[Hn.O];exact⟨rfl,au⟩
   have d4:decide ((st.length:Int)<zs)=false:=Qf g4;have AL:(0:Int)≤zn:=by omega
   by_cases mq:zs=0
   ·have e1:(zs==0)=true:=by simpa using mq
    have e2:decide (0<zs)=false:=Qf (by omega);by_cases AX:zo=0;case neg=>
     have Hn:=Qh (show N=([],2) by have:=Hg.O;rw[if_pos (Gh (x:=⟨zs,zo,zn⟩) (.inr (.inr (.inr (.inr ⟨mq,AX⟩)))))]at this;exact this.symm);have e3:(zo !=0)=true:=by simpa using AX
     clear g1 g2 g3 g4 mq AX;have y0:(wr.alloc (.cells #[.int .i64 (zs),.int .i64 (zo),.int .i64 (zn)] 110)).cell? ⟨wr.heap.size,0,none⟩=some (.int .i64 (zs)):=by simp
     have y1:(wr.alloc (.cells #[.int .i64 (zs),.int .i64 (zo),.int .i64 (zn)] 110)).cell? ⟨wr.heap.size,1,none⟩=some (.int .i64 (zo)):=by simp
     have y2:(wr.alloc (.cells #[.int .i64 (zs),.int .i64 (zo),.int .i64 (zn)] 110)).cell? ⟨wr.heap.size,2,none⟩=some (.int .i64 (zn)):=by simp
     have au:=hb.alloc hb.size (.cells #[.int .i64 (zs),.int .i64 (zo),.int .i64 (zn)] 110);go_wp2;go_ret2;rw[Hn.O];exact⟨rfl,au⟩
    have e3:(zo !=0)=false:=by simpa using AX
    have uD:=Qh (show(if 65536-(out.length:Int)<zn then(([],6):ae×Int)else jV st (l.drop (k+1)) (out++List.replicate zn.toNat 0))=N by
     have h:=Hg.O;dsimp only at h;rw[if_neg (by rw[UJ (x:=⟨zs,zo,zn⟩) g1 g2 g3 g4 (fun h=>h.2 AX)];simp),if_neg (by omega),if_pos mq]at h;exact h)
    by_cases mO:65536-(out.length:Int)<zn
    ·have Hn:=Qh (show N=([],6) by have:=uD.O;rw[if_pos mO]at this;exact this.symm);have d5:decide (65536-(out.length:Int)<zn)=true:=Qt mO;clear g1 g2 g3 g4 mq AX mO Hg uD;have y0:(wr.alloc (.cells #[.int .i64 (zs),.int .i64 (zo),.int .i64 (zn)] 110)).cell? ⟨wr.heap.size,0,none⟩=some (.int .i64 (zs)):=by simp
     have y1:(wr.alloc (.cells #[.int .i64 (zs),.int .i64 (zo),.int .i64 (zn)] 110)).cell? ⟨wr.heap.size,1,none⟩=some (.int .i64 (zo)):=by simp
     have y2:(wr.alloc (.cells #[.int .i64 (zs),.int .i64 (zo),.int .i64 (zn)] 110)).cell? ⟨wr.heap.size,2,none⟩=some (.int .i64 (zn)):=by simp
     have au:=hb.alloc hb.size (.cells #[.int .i64 (zs),.int .i64 (zo),.int .i64 (zn)] 110);go_wp2;go_ret2;rw[Hn.O];exact⟨rfl,au⟩
    ·obtain⟨q,rfl⟩:∃q:Nat,zn=(q:Int):=⟨zn.toNat,by omega⟩;have C9:q+out.length≤65536:=by omega
     have Hn:=Qh (show jV st (l.drop (k+1)) (out++List.replicate q 0)=N by have:=uD.O;rw[if_neg mO,Int.toNat_natCast]at this;exact this);have d5:decide (65536-(out.length:Int)<(q:Int))=false:=Qf (by omega);clear g1 g2 g3 g4 mq AX mO Hg uD;have y0:(wr.alloc (.cells #[.int .i64 (zs),.int .i64 (zo),.int .i64 ((q:Int))] 110)).cell? ⟨wr.heap.size,0,none⟩=some (.int .i64 (zs)):=by simp
     have y1:(wr.alloc (.cells #[.int .i64 (zs),.int .i64 (zo),.int .i64 ((q:Int))] 110)).cell? ⟨wr.heap.size,1,none⟩=some (.int .i64 (zo)):=by simp
     have y2:(wr.alloc (.cells #[.int .i64 (zs),.int .i64 (zo),.int .i64 ((q:Int))] 110)).cell? ⟨wr.heap.size,2,none⟩=some (.int .i64 ((q:Int))):=by simp
     have au:=hb.alloc hb.size (.cells #[.int .i64 (zs),.int .i64 (zo),.int .i64 ((q:Int))] 110);have Q0:=Qh (bQ.O.alloc (.cells #[.int .i64 zs,.int .i64 zo,.int .i64 (q:Int)] 110));obtain⟨v9,w9,Dk,uE,eQ⟩:=Xkq q Q0.O au.size rfl (by omega);have YV:=Qh uE;have ig:=Below.own au eQ Q0.O (Qn _) au.size;clear uE eQ;go_wp2_with (at_builtin;refine Lib.wpList_append_run _ rfl _ _ _ _ rfl _ _ rfl rfl _ _ (Dk _) ?_)
     go_wp2;go_roundw;case rel=>exact⟨k+1,_,by omega,by go_num,YV.O,by simp;omega,Hn.O,ig⟩
     case measure=>simp[intOf];omega
   ·obtain⟨m,rfl⟩:∃m:Nat,zs=(m:Int)+1:=⟨(zs-1).toNat,by omega⟩;have MW:m<st.length:=by omega
    obtain⟨u,bs,os,cs,xD,dn,u0⟩:=DI Ce.O (gG.alloc (.cells #[.int .i64 ((m:Int)+1),.int .i64 zo,.int .i64 zn] 110)) m MW;cases dn;have GX:=bB.O u (by rw[←xD];exact List.getElem_mem MW);have SS:lK st ⟨(m:Int)+1,zo,zn⟩=u:=by
     show st.getD (((m:Int)+1-1).toNat) []=u;rw[show((m:Int)+1-1).toNat=m by omega];simp[List.getD,MW,xD]
    have e1:(((m:Int)+1)==0)=false:=by simpa using mq
    have e2:decide ((0:Int)<(m:Int)+1)=true:=Qt (by omega);have i1:(m:Int)<st.length:=by omega
    have m1:IntKind.i64.wrap (m:Int)=(m:Int):=IntWalk.i64_in _ (by omega);have j1:(0:Int)≤(m:Int):=by omega
    have uj:=Qh (show(if 0<(m:Int)+1∧((u.length:Int)<zo∨(u.length:Int)-zo<zn)then(([],2):ae×Int)else if 65536-(out.length:Int)<zn then([],6)else jV st (l.drop (k+1)) (out++(u.drop zo.toNat).take zn.toNat))=N by
     have h:=Hg.O;dsimp only at h;rw[if_neg (by rw[UJ (x:=⟨(m:Int)+1,zo,zn⟩) g1 g2 g3 g4 (fun h=>mq h.1)];simp),SS]at h;rw[←h];simp only[if_neg mq])
    clear Hg SS xD;by_cases vP:(u.length:Int)<zo
    ·have Hn:=Qh (show N=([],2) by have:=uj.O;rw[if_pos ⟨by omega,.inl vP⟩]at this;exact this.symm);have d6:decide ((u.length:Int)<zo)=true:=Qt vP;clear g1 g2 g3 g4 mq vP uj;have y0:(wr.alloc (.cells #[.int .i64 ((m:Int)+1),.int .i64 (zo),.int .i64 (zn)] 110)).cell? ⟨wr.heap.size,0,none⟩=some (.int .i64 ((m:Int)+1)):=by simp
     have y1:(wr.alloc (.cells #[.int .i64 ((m:Int)+1),.int .i64 (zo),.int .i64 (zn)] 110)).cell? ⟨wr.heap.size,1,none⟩=some (.int .i64 (zo)):=by simp
     have y2:(wr.alloc (.cells #[.int .i64 ((m:Int)+1),.int .i64 (zo),.int .i64 (zn)] 110)).cell? ⟨wr.heap.size,2,none⟩=some (.int .i64 (zn)):=by simp
     have au:=hb.alloc hb.size (.cells #[.int .i64 ((m:Int)+1),.int .i64 (zo),.int .i64 (zn)] 110);go_wp2;go_ret2;rw[Hn.O];exact⟨rfl,au⟩
    have d6:decide ((u.length:Int)<zo)=false:=Qf vP;have m8:IntKind.i64.wrap ((u.length:Int)-zo)=(u.length:Int)-zo:=IntWalk.i64_in _ (by omega);by_cases kD:(u.length:Int)-zo<zn
    ·have Hn:=Qh (show N=([],2) by have:=uj.O;rw[if_pos ⟨by omega,.inr kD⟩]at this;exact this.symm);have d7:decide ((u.length:Int)-zo<zn)=true:=Qt kD;clear g1 g2 g3 g4 mq vP kD uj;have y0:(wr.alloc (.cells #[.int .i64 ((m:Int)+1),.int .i64 (zo),.int .i64 (zn)] 110)).cell? ⟨wr.heap.size,0,none⟩=some (.int .i64 ((m:Int)+1)):=by simp
     have y1:(wr.alloc (.cells #[.int .i64 ((m:Int)+1),.int .i64 (zo),.int .i64 (zn)] 110)).cell? ⟨wr.heap.size,1,none⟩=some (.int .i64 (zo)):=by simp
     have y2:(wr.alloc (.cells #[.int .i64 ((m:Int)+1),.int .i64 (zo),.int .i64 (zn)] 110)).cell? ⟨wr.heap.size,2,none⟩=some (.int .i64 (zn)):=by simp
     have au:=hb.alloc hb.size (.cells #[.int .i64 ((m:Int)+1),.int .i64 (zo),.int .i64 (zn)] 110);go_wp2;go_ret2;rw[Hn.O];exact⟨rfl,au⟩
    have d7:decide ((u.length:Int)-zo<zn)=false:=Qf kD;have uD:=Qh (show(if 65536-(out.length:Int)<zn then(([],6):ae×Int)else jV st (l.drop (k+1)) (out++(u.drop zo.toNat).take zn.toNat))=N by
     have h:=uj.O;rw[if_neg (by omega)]at h;exact h)
    by_cases mO:65536-(out.length:Int)<zn
    ·have Hn:=Qh (show N=([],6) by have:=uD.O;rw[if_pos mO]at this;exact this.symm);have d5:decide (65536-(out.length:Int)<zn)=true:=Qt mO;clear g1 g2 g3 g4 mq vP kD mO uj uD;have y0:(wr.alloc (.cells #[.int .i64 ((m:Int)+1),.int .i64 (zo),.int .i64 (zn)] 110)).cell? ⟨wr.heap.size,0,none⟩=some (.int .i64 ((m:Int)+1)):=by simp
     have y1:(wr.alloc (.cells #[.int .i64 ((m:Int)+1),.int .i64 (zo),.int .i64 (zn)] 110)).cell? ⟨wr.heap.size,1,none⟩=some (.int .i64 (zo)):=by simp
     have y2:(wr.alloc (.cells #[.int .i64 ((m:Int)+1),.int .i64 (zo),.int .i64 (zn)] 110)).cell? ⟨wr.heap.size,2,none⟩=some (.int .i64 (zn)):=by simp
     have au:=hb.alloc hb.size (.cells #[.int .i64 ((m:Int)+1),.int .i64 (zo),.int .i64 (zn)] 110);go_wp2;go_ret2;rw[Hn.O];exact⟨rfl,au⟩
    have d5:decide (65536-(out.length:Int)<zn)=false:=Qf (by omega);have Oi:0≤zo∧0≤zn∧zo+zn≤(u.length:Int)∧zn+(out.length:Int)≤65536:=by omega
    obtain⟨q,rfl⟩:∃q:Nat,zn=(q:Int):=⟨zn.toNat,by omega⟩;obtain⟨r,rfl⟩:∃r:Nat,zo=(r:Int):=⟨zo.toNat,by omega⟩;have C9:q+out.length≤65536:=by omega
    have SV:r+q≤u.length:=by omega
    have Hn:=Qh (show jV st (l.drop (k+1)) (out++(u.drop r).take q)=N by have:=uD.O;rw[if_neg mO,Int.toNat_natCast,Int.toNat_natCast]at this;exact this);have m7:IntKind.i64.wrap ((r:Int)+(q:Int))=(r:Int)+(q:Int):=IntWalk.i64_in _ (by omega);have i2:(0:Int)≤r:=by omega
    have sp:((r:Int)+(q:Int)).toNat-r=q:=by omega
    have i3:(r:Int)≤(r:Int)+q:=by omega
    have i4:(r:Int)+q≤u.length:=by omega
    clear g1 g2 g3 g4 mq vP kD mO uj uD Oi;have y0:(wr.alloc (.cells #[.int .i64 ((m:Int)+1),.int .i64 ((r:Int)),.int .i64 ((q:Int))] 110)).cell? ⟨wr.heap.size,0,none⟩=some (.int .i64 ((m:Int)+1)):=by simp
    have y1:(wr.alloc (.cells #[.int .i64 ((m:Int)+1),.int .i64 ((r:Int)),.int .i64 ((q:Int))] 110)).cell? ⟨wr.heap.size,1,none⟩=some (.int .i64 ((r:Int))):=by simp
    have y2:(wr.alloc (.cells #[.int .i64 ((m:Int)+1),.int .i64 ((r:Int)),.int .i64 ((q:Int))] 110)).cell? ⟨wr.heap.size,2,none⟩=some (.int .i64 ((q:Int))):=by simp
    have au:=hb.alloc hb.size (.cells #[.int .i64 ((m:Int)+1),.int .i64 ((r:Int)),.int .i64 ((q:Int))] 110);have Q0:=Qh (bQ.O.alloc (.cells #[.int .i64 ((m:Int)+1),.int .i64 (r:Int),.int .i64 (q:Int)] 110));go_wp2_with fail
    have zK:∀w',Below (wr.alloc (.cells #[.int .i64 ((m:Int)+1),.int .i64 (r:Int),.int .i64 (q:Int)] 110)).heap.size (wr.alloc (.cells #[.int .i64 ((m:Int)+1),.int .i64 (r:Int),.int .i64 (q:Int)] 110)) w'→
     ∃v9 w9,(∀ty,(Builtin.append_ #[69,9] ty #[.slice ao out.length co,S ((u.drop r).take q)]).run Tryz.prog w'= .ok v9 w9)∧aP tB 5 I w9 w.heap.size v9 (ints (out++(u.drop r).take q))∧Below w.heap.size w w9:=fun w' dH=>by
     have aF:=au.trans (dH.mono au.size);obtain⟨v9,w9,Dk,uE,eQ⟩:=Xh9 ((u.drop r).take q) (Q0.O.below dH) aF.size (by simp;omega);exact⟨v9,w9,Dk,uE,Below.own aF eQ (Q0.O.below dH) (Qn _) aF.size⟩
    refine uW (X:=Value) (Ol ((.slice ao out.length co)) bs os st.length cs0 wr.heap.size (((m:Int)+1)) m ((os+m)) u r q (((u.drop r).take q))) (Gi (wr.alloc (.cells #[.int .i64 ((m:Int)+1),.int .i64 (r:Int),.int .i64 (q:Int)] 110)) 15 (fun v9 w9=>aP tB 5 I w9 w.heap.size v9 (ints (out++(u.drop r).take q))∧Below w.heap.size w w9)) (by kernel_rfl) (by kernel_rfl) ?_ ?_ ?_
    ·exact⟨undef,Gi.start _ _⟩
    ·rintro x s' a' w' i eU gI ha hC hi;obtain⟨aV,oi,eX,aB⟩:=mem_ready.1 hi;rcases i with _|_|_|_|_|_|_|_|_|_|_|_|_|_|_|_|_|i
     rotate_left 17
     ·simp at eX
     all_goals
      have fZ:=eX;simp at eX;subst eX;simp[Region.binds]at aB
     ·have ha':=ha.trans (NM (L:=Ol ((.slice ao out.length co)) bs os st.length cs0 wr.heap.size (((m:Int)+1)) m ((os+m)) u r q (((u.drop r).take q)) x) (M:=(Ol ((.slice ao out.length co)) bs os st.length cs0 wr.heap.size (((m:Int)+1)) m ((os+m)) u r q (((u.drop r).take q)) x).set 16 (none,undef)) [16] (by simp) (fun j bZ=>by rw[List.getElem?_set_ne (fun e=>bZ (by rw[←e];exact List.mem_singleton.2 rfl))]) (List.forall_mem_cons.2 ⟨Xmg (i:=0) gI (by kernel_rfl) aV,List.forall_mem_nil _⟩));have e6:a'.tmps[6]?.getD undef=(.slice ao out.length co):=qU ha' (by simp);have hl:s'.getD 15 false=false:=ru gI [0] (by kernel_rfl) (by rfl) aV;refine wpOp_step fZ (fun K' hK=> ?_);rw[if_pos (by rfl)];unfold Oper.wp;simp[go_sem,e6,Oper.upon];exact hK _ _ ⟨x,j6 (d:=some 82) (v:=(.slice ao out.length co)) o8 ha rfl aV,hC.step (by decide)⟩
     ·have e0:a'.tmps[0]?.getD undef= .slice (some ⟨bs,os,none⟩) st.length cs0:=qU ha (by simp);have hl:s'.getD 15 false=false:=ru gI [14,6,5,1] (by kernel_rfl) (by rfl) aV;refine wpOp_step fZ (fun K' hK=> ?_);rw[if_pos (by rfl)];unfold Oper.wp;simp[go_sem,e0,Oper.upon];exact hK _ _ ⟨x,j6 (d:=some 83) (v:= .slice (some ⟨bs,os,none⟩) st.length cs0) o8 ha rfl aV,hC.step (by decide)⟩
     ·have e8:a'.tmps[8]?.getD undef= .pointer (some ⟨wr.heap.size,0,none⟩):=qU ha (by simp);have hl:s'.getD 15 false=false:=ru gI [14,6,5,4,3,2] (by kernel_rfl) (by rfl) aV;refine wpOp_step fZ (fun K' hK=> ?_);rw[if_pos (by rfl)];unfold Oper.wp;simp[go_sem,e8,Oper.upon];exact hK _ _ ⟨x,j6 (d:=some 84) (v:= .pointer (some ⟨wr.heap.size,0,none⟩)) o8 ha rfl aV,hC.step (by decide)⟩
     ·have e84:a'.tmps[84]?.getD undef= .pointer (some ⟨wr.heap.size,0,none⟩):=oq (i:=2) o8 ha rfl (by first|simpa using aB|simp[aB]) (by simp);have hl:s'.getD 15 false=false:=ru gI [14,6,5,4,3] (by kernel_rfl) (by rfl) aV;have cq:=dh (hC.dE hl) y0;refine wpOp_step fZ (fun K' hK=> ?_);rw[if_pos (by rfl)];unfold Oper.wp;simp[go_sem,e84,cq,Oper.upon];exact hK _ _ ⟨x,j6 (d:=some 85) (v:= .int .i64 ((m:Int)+1)) o8 ha rfl aV,hC.step (by decide)⟩
     ·have e85:a'.tmps[85]?.getD undef= .int .i64 ((m:Int)+1):=oq (i:=3) o8 ha rfl (by first|simpa using aB|simp[aB]) (by simp);have hl:s'.getD 15 false=false:=ru gI [14,6,5,4] (by kernel_rfl) (by rfl) aV;refine wpOp_step fZ (fun K' hK=> ?_);rw[if_pos (by rfl)];unfold Oper.wp;simp[go_sem,e85,m1,Oper.upon];exact hK _ _ ⟨x,j6 (d:=some 86) (v:= .int .i64 (m:Int)) o8 ha rfl aV,hC.step (by decide)⟩
     ·have e83:a'.tmps[83]?.getD undef= .slice (some ⟨bs,os,none⟩) st.length cs0:=oq (i:=1) o8 ha rfl (by first|simpa using aB|simp[aB]) (by simp);have e86:a'.tmps[86]?.getD undef= .int .i64 (m:Int):=oq (i:=4) o8 ha rfl (by first|simpa using aB|simp[aB]) (by simp);have hl:s'.getD 15 false=false:=ru gI [14,6,5] (by kernel_rfl) (by rfl) aV;refine wpOp_step fZ (fun K' hK=> ?_);rw[if_pos (by rfl)];unfold Oper.wp;simp[go_sem,e83,e86,i1,j1,Oper.upon];exact hK _ _ ⟨x,j6 (d:=some 87) (v:= .pointer (some ⟨bs,(os+m),none⟩)) o8 ha rfl aV,hC.step (by decide)⟩
     ·have e87:a'.tmps[87]?.getD undef= .pointer (some ⟨bs,(os+m),none⟩):=oq (i:=5) o8 ha rfl (by first|simpa using aB|simp[aB]) (by simp);have hl:s'.getD 15 false=false:=ru gI [14,6] (by kernel_rfl) (by rfl) aV;have cq:=dh (hC.dE hl) u0;refine wpOp_step fZ (fun K' hK=> ?_);rw[if_pos (by rfl)];unfold Oper.wp;simp[go_sem,e87,cq,Oper.upon];exact hK _ _ ⟨x,j6 (d:=some 88) (v:=S u) o8 ha rfl aV,hC.step (by decide)⟩
     ·have e8:a'.tmps[8]?.getD undef= .pointer (some ⟨wr.heap.size,0,none⟩):=qU ha (by simp);have hl:s'.getD 15 false=false:=ru gI [14,8,7] (by kernel_rfl) (by rfl) aV;refine wpOp_step fZ (fun K' hK=> ?_);rw[if_pos (by rfl)];unfold Oper.wp;simp[go_sem,e8,Oper.upon];exact hK _ _ ⟨x,j6 (d:=some 89) (v:= .pointer (some ⟨wr.heap.size,1,none⟩)) o8 ha rfl aV,hC.step (by decide)⟩
     ·have e89:a'.tmps[89]?.getD undef= .pointer (some ⟨wr.heap.size,1,none⟩):=oq (i:=7) o8 ha rfl (by first|simpa using aB|simp[aB]) (by simp);have hl:s'.getD 15 false=false:=ru gI [14,8] (by kernel_rfl) (by rfl) aV;have cq:=dh (hC.dE hl) y1;refine wpOp_step fZ (fun K' hK=> ?_);rw[if_pos (by rfl)];unfold Oper.wp;simp[go_sem,e89,cq,Oper.upon];exact hK _ _ ⟨x,j6 (d:=some 90) (v:= .int .i64 (r:Int)) o8 ha rfl aV,hC.step (by decide)⟩
     ·have e8:a'.tmps[8]?.getD undef= .pointer (some ⟨wr.heap.size,0,none⟩):=qU ha (by simp);have hl:s'.getD 15 false=false:=ru gI [14,13,10,9] (by kernel_rfl) (by rfl) aV;refine wpOp_step fZ (fun K' hK=> ?_);rw[if_pos (by rfl)];unfold Oper.wp;simp[go_sem,e8,Oper.upon];exact hK _ _ ⟨x,j6 (d:=some 91) (v:= .pointer (some ⟨wr.heap.size,1,none⟩)) o8 ha rfl aV,hC.step (by decide)⟩
     ·have e91:a'.tmps[91]?.getD undef= .pointer (some ⟨wr.heap.size,1,none⟩):=oq (i:=9) o8 ha rfl (by first|simpa using aB|simp[aB]) (by simp);have hl:s'.getD 15 false=false:=ru gI [14,13,10] (by kernel_rfl) (by rfl) aV;have cq:=dh (hC.dE hl) y1;refine wpOp_step fZ (fun K' hK=> ?_);rw[if_pos (by rfl)];unfold Oper.wp;simp[go_sem,e91,cq,Oper.upon];exact hK _ _ ⟨x,j6 (d:=some 92) (v:= .int .i64 (r:Int)) o8 ha rfl aV,hC.step (by decide)⟩
     ·have e8:a'.tmps[8]?.getD undef= .pointer (some ⟨wr.heap.size,0,none⟩):=qU ha (by simp);have hl:s'.getD 15 false=false:=ru gI [14,13,12,11] (by kernel_rfl) (by rfl) aV;refine wpOp_step fZ (fun K' hK=> ?_);rw[if_pos (by rfl)];unfold Oper.wp;simp[go_sem,e8,Oper.upon];exact hK _ _ ⟨x,j6 (d:=some 93) (v:= .pointer (some ⟨wr.heap.size,2,none⟩)) o8 ha rfl aV,hC.step (by decide)⟩
     ·have e93:a'.tmps[93]?.getD undef= .pointer (some ⟨wr.heap.size,2,none⟩):=oq (i:=11) o8 ha rfl (by first|simpa using aB|simp[aB]) (by simp);have hl:s'.getD 15 false=false:=ru gI [14,13,12] (by kernel_rfl) (by rfl) aV;have cq:=dh (hC.dE hl) y2;refine wpOp_step fZ (fun K' hK=> ?_);rw[if_pos (by rfl)];unfold Oper.wp;simp[go_sem,e93,cq,Oper.upon];exact hK _ _ ⟨x,j6 (d:=some 94) (v:= .int .i64 (q:Int)) o8 ha rfl aV,hC.step (by decide)⟩
     ·have e92:a'.tmps[92]?.getD undef= .int .i64 (r:Int):=oq (i:=10) o8 ha rfl (by first|simpa using aB|simp[aB]) (by simp);have e94:a'.tmps[94]?.getD undef= .int .i64 (q:Int):=oq (i:=12) o8 ha rfl (by first|simpa using aB|simp[aB]) (by simp);have hl:s'.getD 15 false=false:=ru gI [14,13] (by kernel_rfl) (by rfl) aV;refine wpOp_step fZ (fun K' hK=> ?_);rw[if_pos (by rfl)];unfold Oper.wp;simp[go_sem,e92,e94,m7,Oper.upon];exact hK _ _ ⟨x,j6 (d:=some 95) (v:= .int .i64 ((r:Int)+(q:Int))) o8 ha rfl aV,hC.step (by decide)⟩
     ·have e88:a'.tmps[88]?.getD undef=S u:=oq (i:=6) o8 ha rfl (by first|simpa using aB|simp[aB]) (by simp);have e90:a'.tmps[90]?.getD undef= .int .i64 (r:Int):=oq (i:=8) o8 ha rfl (by first|simpa using aB|simp[aB]) (by simp);have e95:a'.tmps[95]?.getD undef= .int .i64 ((r:Int)+(q:Int)):=oq (i:=13) o8 ha rfl (by first|simpa using aB|simp[aB]) (by simp);have hl:s'.getD 15 false=false:=ru gI [14] (by kernel_rfl) (by rfl) aV;refine wpOp_step fZ (fun K' hK=> ?_);rw[if_pos (by rfl)];unfold Oper.wp;simp[go_sem,e88,e90,e95,sp,i2,i3,i4,Oper.upon];exact hK _ _ ⟨x,j6 (d:=some 96) (v:=S ((u.drop r).take q)) o8 ha rfl aV,hC.step (by decide)⟩
     ·have e82:a'.tmps[82]?.getD undef=(.slice ao out.length co):=oq (i:=0) o8 ha rfl (by first|simpa using aB|simp[aB]) (by simp);have e96:a'.tmps[96]?.getD undef=S ((u.drop r).take q):=oq (i:=14) o8 ha rfl (by first|simpa using aB|simp[aB]) (by simp);have hl:s'.getD 15 false=false:=Cb aV;obtain⟨v9,w9,Dk,hf9⟩:=zK w' (hC.dE hl);have ha:=ha.trans (NM (L:=Ol ((.slice ao out.length co)) bs os st.length cs0 wr.heap.size (((m:Int)+1)) m ((os+m)) u r q (((u.drop r).take q)) x) (M:=Ol ((.slice ao out.length co)) bs os st.length cs0 wr.heap.size (((m:Int)+1)) m ((os+m)) u r q (((u.drop r).take q)) v9) [15,16] rfl (fun j bZ=>by
       rcases j with _|_|_|_|_|_|_|_|_|_|_|_|_|_|_|_|_|j<;>first|rfl|(exact absurd (by decide) bZ)|simp) (List.forall_mem_cons.2 ⟨Cb aV,List.forall_mem_cons.2 ⟨Xmg gI (by kernel_rfl) aV,List.forall_mem_nil _⟩⟩))
      refine wpOp_step fZ (fun K' hK=> ?_);rw[if_pos (by rfl)];refine Lib.wp_append_run _ _ _ _ _ rfl _ _ (by simp[Act.eval,e82,e96]) (by simp[Act.eval,e82,e96]) v9 w9 (Dk _) ?_;exact hK _ _ ⟨v9,j6 (d:=some 97) (v:=v9) o8 ha rfl aV,Gi.app aV hf9⟩
     ·have e97:a'.tmps[97]?.getD undef=x:=oq (i:=15) o8 ha rfl (by first|simpa using aB|simp[aB]) (by simp);refine wpOp_step fZ (fun K' hK=> ?_);rw[if_pos (by rfl)];unfold Oper.wp;simp[go_sem,e97,Oper.upon];exact hK _ _ ⟨x,j6 (d:=some 6) (v:=x) o8 ha rfl aV,hC.step (by decide)⟩
    ·rintro x s' a' w8 gH ha hC;have hf8:=hC.fin (gH 15 (by decide));rw[vB _ _ _ _ (fun i hi=>by rw[Nat.zero_add];exact gH i (by simpa using hi))]at ha;subst ha;simp only[dZ,Act.put];obtain⟨uE,ig⟩:=hf8;have YV:=Qh uE;clear uE;go_wp2;go_roundw;case rel=>exact⟨k+1,_,by omega,by go_num,YV.O,by simp;omega,Hn.O,ig⟩
     case measure=>simp[intOf];omega
  ·have Hn:=Qh (show N=(out,0) by have:=Hr.O;rw[List.drop_of_length_le (by omega)]at this;exact this.symm);have OI:=Xuc bQ.O;go_wp2;go_ret2;rw[Hn.O];exact⟨rfl,hb⟩
theorem Xvj(k:Int)(w:World):Calls Tryz.prog 114 #[.int .i64 k] w fun e w'=>e= .returned (S (bO k))∧Below w.heap.size w w':=
 (Xjs k w).mono fun _ _ h=>⟨h.1,by rw[h.2];exact Qb _ _⟩
theorem Xjr(I:IH)(e:aG)(va vx:Value)(eP:bf lT I va e.ag)(eT:bf mr I vx e.ak)(hc:kT e)(w:World)(hw:Ok I w):
 Calls Tryz.prog 66 #[fB e va vx] w fun r w'=>r= .returned (S (dD e))∧Below w.heap.size w w':=by
 obtain⟨aa,ca,rfl,_,_,_⟩:=id eP;obtain⟨ax,cx,rfl,_,_,_⟩:=id eT;have Hv:=Qh eP;have Fy:=hc.DN;have Qc:=hc.af;have Qd:=hc.target;have q9:=Qh hc.Pf;have Hl:=Qh (Xqi Fy q9.O);have oO:=Hl.O 0;have zH:=Tw e.ai;have x8:=pY (bO e.ai) (by omega);have Dx:=pY e.af (by omega);have I7:=pY e.target (by omega);have H0:=Qh (fun w=>Xvj e.ai w);have H1:=Qh (fun w=>Ed (bO e.ai) (by omega) w);have H2:=Qh (fun w=>Ed e.af (by omega) w);have H3:=Qh (fun w=>NK e.ag.length (by omega) w);have H4:=Qh (fun w=>Ed e.target (by omega) w);have hz:aY e.ag.length=nX e.ag 0:=by rw[nX,List.take_zero,List.flatMap_nil,List.append_nil]
 have Hh:=Qh (show aS (bO e.ai)++aS e.af++Go.Proofs.YtkipnpjagcfcpaaGreatDoor.u7 e.ag++aS e.target=dD e from rfl);rw[hz]at H3;clear eP eT hc hz;generalize aS (bO e.ai)=p1 at x8 H1 Hh;generalize bO e.ai=nm at zH x8 H0 H1;generalize aS e.af=p2 at Dx H2 Hh;generalize aS e.target=p4 at I7 H4 Hh;have qg:=Qh (cB (W:=w) (e:=e) (va:= .slice aa e.ag.length ca) (vx:= .slice ax e.ak.length cx) (t:=35) rfl (Qb _ _));obtain⟨c0,c1,c2,c3,c4,c5,c6⟩:=qg.O;have e0:=cell_regrown c0;have e1:=cell_regrown c1;have e2:=cell_regrown c2;have zt:=(Qb w.heap.size w).alloc (Qn _) (.cells #[.int .i64 e.ai,S e.af,.slice aa e.ag.length ca,S e.target,.int .i64 e.size,S e.aj,.slice ax e.ak.length cx] 35);clear c0 c1 c2 c3 c4 c5 c6;go_enter Tryz.func66,Tryz.ntmps66
 go_wp2_with fail
 refine wp_region_quiet_below (by kernel_rfl) (by kernel_rfl) ?_;repeat(go_big_quiet_step ((with_reducible first|exact Calls.regrown_of (H0.O _)|exact Calls.regrown_of (H1.O _)|exact Calls.regrown_of (H2.O _)|exact Calls.regrown_of (H3.O _))))
 refine wpQuiet_nil ?_;intro w1 bg;have au:Below ((w.alloc (.cells #[.int .i64 e.ai,S e.af,.slice aa e.ag.length ca,S e.target,.int .i64 e.size,S e.aj,.slice ax e.ak.length cx] 35))).heap.size ((w.alloc (.cells #[.int .i64 e.ai,S e.af,.slice aa e.ag.length ca,S e.target,.int .i64 e.size,S e.aj,.slice ax e.ak.length cx] 35))) w1:=by
  obtain⟨pq,rfl⟩:=bg;exact below_regrown _ _ _
 clear bg;have iq:=Qh (qg.O.aA au);have av:=zt.trans (au.mono zt.size);clear e0 e1 e2 au zt qg H0 H1 H2 H3;go_wp2_with fail
 go_loopw [3,4] (fun s3 s4 wr=> ∃k:Nat,k≤e.ag.length∧s4= .int .i64 k∧s3=S (p1++p2++nX e.ag k)∧bn wr w.heap.size e (.slice aa e.ag.length ca) (.slice ax e.ak.length cx)∧Below w.heap.size w wr) (fun _ i _=>e.ag.length-(intOf i).toNat)
 case atStart=>exact⟨0,Nat.zero_le _,rfl,by simp,iq.O,av⟩
 case round=>
  clear av iq;obtain⟨k,hk,rfl,rfl,mG,hb⟩:=hrel;have l5:=Qh mG;have dA:Ok I wr:=hw.below (Qn _) hb;have nM:=Hl.O k;obtain⟨c0,c1,c2,c3,c4,c5,c6⟩:=l5.O;clear mG;by_cases hlt:k<e.ag.length
  ·obtain⟨x,b,off,cap',bH,dn,a0,a1⟩:=zL Hv.O dA k hlt;cases dn;have BK:=q9.O x (by rw[←bH];exact List.getElem_mem hlt);have bB:=Qh (Xng hlt bH);have mo:=pY x.k (by omega);have wI:=pY x.v (by omega);have Cu:=Qh (fun w=>Ed x.k (by omega) w);have Hs2:=Qh (fun w=>Ed x.v (by omega) w);clear bH;generalize aS x.k=p at bB mo Cu;generalize aS x.v=q at bB wI Hs2;generalize nX e.ag k=u at bB nM ⊢;have x0:=cell_regrown a0;have x1:=cell_regrown a1;have e2:=cell_regrown c2;go_wp2_with fail
   refine wp_region_quiet_below (by kernel_rfl) (by kernel_rfl) ?_;repeat(go_big_quiet_step ((with_reducible first|exact Calls.regrown_of (Cu.O _)|exact Calls.regrown_of (Hs2.O _))))
   refine wpQuiet_nil ?_;intro w2 bg;have aF:Below (wr).heap.size (wr) w2:=by
    obtain⟨pq,rfl⟩:=bg;exact below_regrown _ _ _
   clear bg;have oh:=Qh (l5.O.aA aF);clear x0 x1 e2 c0 c1 c2 c3 c4 c5 c6;go_wp2;go_roundw;case rel=>exact⟨k+1,by omega,by go_num,(by rw[bB.O];simp),oh.O,hb.trans (aF.mono hb.size)⟩
   case measure=>simp[intOf];omega
  ·have Hn:=Qh (Xqj e.ag (k:=k) (by omega));rw[Hn.O]at nM ⊢;generalize Go.Proofs.YtkipnpjagcfcpaaGreatDoor.u7 e.ag=u at nM Hh ⊢;go_wp2_with fail
   refine(H4.O _).mono ?_;rintro r w2 ⟨rfl,aF⟩;go_wp2;go_ret;exact⟨Kg (by rw[←Hh.O];simp),hb.trans (aF.mono hb.size)⟩
theorem Xr7(I:IH)(e:aG)(va vx:Value)(eP:bf lT I va e.ag)(eT:bf mr I vx e.ak)(jh:e.Wf)(hx:e.ak.length≤1000)(he:az e≠0)(w:World)(hw:Ok I w):
 Calls Tryz.prog 147 #[fB e va vx] w fun r w'=>r= .returned (.tuple #[S [],.int .i64 (az e)])∧Below w.heap.size w w':=by
 have kg:=Qh (fun w hw=>NC I e va vx eP eT jh w hw);obtain⟨aa,ca,rfl,_,_,_⟩:=id eP;obtain⟨ax,cx,rfl,_,_,_⟩:=id eT;rw[NA (by omega)]at kg;obtain⟨q,hq⟩:∃q,az e=q:=⟨_,rfl⟩;rw[hq]at kg he ⊢;have AL:(q !=0)=true:=by simpa using he
 clear hq he;go_enter Tryz.func147,Tryz.ntmps147
 go_wp2_with fail
 refine(kg.O _ (hw.alloc _)).mono ?_;rintro e1 w1 ⟨rfl,au⟩;have av:=((Qb w.heap.size w).alloc (Qn _) (.cells #[.int .i64 e.ai,S e.af,.slice aa e.ag.length ca,S e.target,.int .i64 e.size,S e.aj,.slice ax e.ak.length cx] 35)).trans (au.mono (by simp));go_wp2;go_ret2;exact⟨rfl,av⟩
theorem Xlt(I:IH)(e:aG)(va vx:Value)(eP:bf lT I va e.ag)(eT:bf mr I vx e.ak)(jh:e.Wf)(hc:kT e)(he:az e=0)(hx:e.ak.length≤1000)(w:World)(hw:Ok I w):
 Calls Tryz.prog 147 #[fB e va vx] w fun r w'=>r= .returned (.tuple #[S (yD e),.int .i64 0])∧Below w.heap.size w w':=by
 have kg:=Qh (fun w hw=>NC I e va vx eP eT jh w hw);have H0:=Qh (fun w hw=>Xjr I e va vx eP eT hc w hw);obtain⟨aa,ca,rfl,_,_,_⟩:=id eP;obtain⟨ax,cx,rfl,_,_,_⟩:=id eT;rw[NA (by omega),he]at kg;have Hv:=Qh eT;have mq:=hc.s0;have pG:=hc.s1;have apV:=hc.aj;have Vq:=Qh hc.NS;have Hl:=Qh (Xqa hc hx);have Cx:=KS hc;have Hz:=Qh (show aS (dD e)++aY e.size++aS e.aj++aY e.ak.length=rA e 0 from(Xts e).symm);have x8:=pY (dD e) (by omega);have Dx:=Dh mq (by omega);have SH:=pY e.aj (by omega);have I7:=qP e.ak.length (by omega);have H1:=Qh (fun w=>Ed (dD e) (by omega) w);have H2:=Qh (fun w=>NT e.size mq (by omega) w);have H3:=Qh (fun w=>Ed e.aj (by omega) w);have H4:=Qh (fun w=>NK e.ak.length (by omega) w);clear eP eT hc he;generalize aS (dD e)=p1 at Hz x8 H1;generalize aY e.size=p2 at Hz Dx H2;generalize aS e.aj=p3 at Hz SH H3;generalize aY (e.ak.length:Int)=p4 at Hz I7 H4;generalize dD e=hd at H0 H1 Cx x8;go_enter Tryz.func147,Tryz.ntmps147
 go_wp2_with fail
 refine(kg.O _ (hw.alloc _)).mono ?_;rintro e1 w1 ⟨rfl,au⟩;have iq:=Qh (cB (e:=e) rfl au);have aD:Ok I w1:=(hw.alloc _).below (Qn _) au;have av:=((Qb w.heap.size w).alloc (Qn _) (.cells #[.int .i64 e.ai,S e.af,.slice aa e.ag.length ca,S e.target,.int .i64 e.size,S e.aj,.slice ax e.ak.length cx] 35)).trans (au.mono (by simp));obtain⟨c0,c1,c2,c3,c4,c5,c6⟩:=iq.O;have e0:=cell_regrown c0;have e1:=cell_regrown c1;have e2:=cell_regrown c2;have e3:=cell_regrown c3;have e4:=cell_regrown c4;have e5:=cell_regrown c5;have e6:=cell_regrown c6;clear au kg c0 c1 c2 c3 c4 c5 c6;go_wp2_with fail
 refine wp_region_quiet_below (by kernel_rfl) (by kernel_rfl) ?_;repeat(go_big_quiet_step ((with_reducible first|exact Calls.regrown_of (H0.O _ (aD.below (Qn _) (below_regrown _ _ _)))|exact Calls.regrown_of (H1.O _)|exact Calls.regrown_of (H2.O _)|exact Calls.regrown_of (H3.O _)|exact Calls.regrown_of (H4.O _))))
 refine wpQuiet_nil ?_;intro w2 bg;have aF:Below (w1).heap.size (w1) w2:=by
  obtain⟨pq,rfl⟩:=bg;exact below_regrown _ _ _
 clear bg;have oh:=Qh (iq.O.aA aF);have aL:=av.trans (aF.mono av.size);clear e0 e1 e2 e3 e4 e5 e6 aF iq aD av H0 H1 H2 H3 H4;go_wp2_with fail
 go_loopw [5,6] (fun s5 s6 wr=> ∃k:Nat,k≤e.ak.length∧s6= .int .i64 k∧s5=S (rA e k)∧bn wr w.heap.size e (.slice aa e.ag.length ca) (.slice ax e.ak.length cx)∧Below w.heap.size w wr) (fun _ i _=>e.ak.length-(intOf i).toNat)
 case atStart=>exact⟨0,Nat.zero_le _,rfl,by rw[←Hz.O];simp,oh.O,aL⟩
 case round=>
  clear oh aL Hz x8 Dx SH I7 Cx;obtain⟨k,hk,rfl,rfl,mG,hb⟩:=hrel;have l5:=Qh mG;have dA:Ok I wr:=hw.below (Qn _) hb;have nM:=Hl.O k;obtain⟨c0,c1,c2,c3,c4,c5,c6⟩:=l5.O;clear mG;by_cases hlt:k<e.ak.length
  ·obtain⟨x,b,off,cap',bH,dn,a0,a1,a2⟩:=uZ Hv.O dA k hlt;cases dn;obtain⟨y0,y1,y2,y3,y4,y5⟩:=Vq.O x (by rw[←bH];exact List.getElem_mem hlt);have bB:=Qh (Xtt hlt bH);have Ml:=Dh (n:=x.s) (by omega) (by omega);have OO:=Dh (n:=x.o) (by omega) (by omega);have BQ:=Dh (n:=x.n) (by omega) (by omega);have H1:=Qh (fun w=>NT x.s (by omega) (by omega) w);have H2:=Qh (fun w=>NT x.o (by omega) (by omega) w);have H3:=Qh (fun w=>NT x.n (by omega) (by omega) w);have g0:=cell_regrown (show(wr.alloc (.cells #[.int .i64 x.s,.int .i64 x.o,.int .i64 x.n] 110)).cell? ⟨wr.heap.size,0,none⟩=some (.int .i64 x.s) by simp);have g1:=cell_regrown (show(wr.alloc (.cells #[.int .i64 x.s,.int .i64 x.o,.int .i64 x.n] 110)).cell? ⟨wr.heap.size,1,none⟩=some (.int .i64 x.o) by simp);have g2:=cell_regrown (show(wr.alloc (.cells #[.int .i64 x.s,.int .i64 x.o,.int .i64 x.n] 110)).cell? ⟨wr.heap.size,2,none⟩=some (.int .i64 x.n) by simp);have HBa:=Qh (bn.past l5.O (.cells #[.int .i64 x.s,.int .i64 x.o,.int .i64 x.n] 110));have zt:=hb.alloc hb.size (.cells #[.int .i64 x.s,.int .i64 x.o,.int .i64 x.n] 110);clear bH;generalize aY x.s=q1 at bB Ml H1;generalize aY x.o=q2 at bB OO H2;generalize aY x.n=q3 at bB BQ H3;generalize rA e k=u at bB nM ⊢;go_wp2_with fail
   refine wp_region_quiet_below (by kernel_rfl) (by kernel_rfl) ?_;repeat(go_big_quiet_step ((with_reducible first|exact Calls.regrown_of (H1.O _)|exact Calls.regrown_of (H2.O _)|exact Calls.regrown_of (H3.O _))))
   refine wpQuiet_nil ?_;intro w2 bg;have aF:Below ((wr.alloc (.cells #[.int .i64 x.s,.int .i64 x.o,.int .i64 x.n] 110))).heap.size ((wr.alloc (.cells #[.int .i64 x.s,.int .i64 x.o,.int .i64 x.n] 110))) w2:=by
    obtain⟨pq,rfl⟩:=bg;exact below_regrown _ _ _
   clear bg;have oh:=Qh (HBa.O.aA aF);clear g0 g1 g2 a0 a1 a2 c0 c1 c2 c3 c4 c5 c6;go_wp2;go_roundw;case rel=>exact⟨k+1,by omega,by go_num,(by rw[bB.O];simp),oh.O,zt.trans (aF.mono zt.size)⟩
   case measure=>simp[intOf];omega
  ·have Hn:=Qh (Xqb e (k:=k) (by omega));rw[Hn.O];go_wp2;go_ret2;exact⟨rfl,hb⟩
theorem Xn2(I:IH)(s:bR)(ve:Value)(uX:bf bG I ve s.ay)(hg:jA s)(w:World)(hw:Ok I w):
 Calls Tryz.prog 143 #[uC s ve] w fun r w'=>r= .returned (.int .i64 (dN s))∧Below w.heap.size w w':=by
 obtain⟨ao,co,rfl,_,_,_⟩:=id uX;have Hv:=Qh uX;have Hg:=Qh hg;have LB:=hg.mi;have gB:=hg.aH;have vQ:=hg.aW;have JW:=hg.sl;have z1:decide (14680064<s.aH.length)=false:=Qf (by omega);have z2:decide (400<s.ay.length)=false:=Qf (by omega);have jX:iK s≠0→dN s=iK s:=fun h=>by rw[dN,if_pos h]
 have qN:iK s=0→dN s=if fA s.ay≠0 then fA s.ay else if 2000<s.sl.length then 6 else 0:=fun h=>by
  rw[dN,if_neg (by omega),if_neg (by omega)]
 clear uX hg;by_cases h1:s.num<1
 ·have d1:decide (s.num<1)=true:=Qt h1;have Hn:=Qh (show dN s=2 by rw[jX]<;>rw[iK,if_pos (.inl h1)];decide);clear h1 jX qN;go_enter Tryz.func143,Tryz.ntmps143
  go_wp2;go_ret;exact⟨bP Hn.O.symm,(Qb w.heap.size w).alloc (Qn _) _⟩
 have d1:decide (s.num<1)=false:=Qf h1;by_cases h2:255<s.num
 ·have d2:decide (255<s.num)=true:=Qt h2;have Hn:=Qh (show dN s=2 by rw[jX]<;>rw[iK,if_pos (.inr (.inl h2))];decide);clear h1 h2 jX qN;go_enter Tryz.func143,Tryz.ntmps143
  go_wp2;go_ret;exact⟨bP Hn.O.symm,(Qb w.heap.size w).alloc (Qn _) _⟩
 have d2:decide (255<s.num)=false:=Qf h2;by_cases h3:s.aN<0
 ·have d3:decide (s.aN<0)=true:=Qt h3;have Hn:=Qh (show dN s=2 by rw[jX]<;>rw[iK,if_pos (.inr (.inr (.inl h3)))];decide);clear h1 h2 h3 jX qN;go_enter Tryz.func143,Tryz.ntmps143
  go_wp2;go_ret;exact⟨bP Hn.O.symm,(Qb w.heap.size w).alloc (Qn _) _⟩
 have d3:decide (s.aN<0)=false:=Qf h3;by_cases h4:1000000000<s.aN
 ·have d4:decide (1000000000<s.aN)=true:=Qt h4;have Hn:=Qh (show dN s=2 by rw[jX]<;>rw[iK,if_pos (.inr (.inr (.inr h4)))];decide);clear h1 h2 h3 h4 jX qN;go_enter Tryz.func143,Tryz.ntmps143
  go_wp2;go_ret;exact⟨bP Hn.O.symm,(Qb w.heap.size w).alloc (Qn _) _⟩
 have d4:decide (1000000000<s.aN)=false:=Qf h4;have hf:iK s=if s.aW≠[]∧s.aW.length≠32 then 1 else 0:=by
  rw[iK,if_neg];rintro(h|h|h|h)<;>contradiction
 clear h1 h2 h3 h4;by_cases h5:s.aW=[]
 ·have Gj:=Qh (qN (by rw[hf,if_neg fun q=>q.1 h5]));have oO:s.aW.length=0:=by rw[h5];rfl
  have d5:((s.aW.length:Int) !=0)=false:=by rw[oO];rfl
  have d5':((s.aW.length:Int)==0)=true:=by rw[oO];rfl
  clear h5 hf jX qN oO;go_enter Tryz.func143,Tryz.ntmps143
  go_wp2_with fail
  have qg:=Qh (xz (W:=w) (s:=s) (ve:= .slice ao s.ay.length co) (t:=62) rfl (Qb _ _));have lW:=(Qb w.heap.size w).alloc (Qn _) (.cells #[.int .i64 s.num,.int .i64 s.aN,S s.aW,.slice ao s.ay.length co,S s.aH,S s.sl] 62);go_loopw [3] (fun s3 wr=> ∃k:Nat,k≤s.ay.length∧s3= .int .i64 k∧fA (s.ay.drop k)=fA s.ay∧nC wr w.heap.size s (.slice ao s.ay.length co)∧Below w.heap.size w wr) (fun i _=>s.ay.length-(intOf i).toNat)
  case atStart=>exact⟨0,Nat.zero_le _,rfl,rfl,qg.O,lW⟩
  case round=>
   clear qg lW;obtain⟨k,hk,rfl,FB,mG,hb⟩:=hrel;have l5:=Qh mG;have vK:=Qh FB;have dA:Ok I wr:=hw.below (Qn _) hb;clear mG FB;obtain⟨c0,c1,c2,c3,c4,c5⟩:=l5.O;by_cases hlt:k<s.ay.length
   ·obtain⟨x,HZ,H8,b,off,cap',bH,dn,⟨x0,x1,x2,x3,x4,x5,x6⟩,h1,h2⟩:=qi Hv.O dA k hlt;cases dn;obtain⟨xa,xc,rfl,_,_,_⟩:=id h1;obtain⟨xx,xd,rfl,_,_,_⟩:=id h2;have gX:x∈s.ay:=by rw[←bH];exact List.getElem_mem hlt
    have uV:=Hg.O.wf x gX;have yf:=Hg.O.ak x gX;have EK:=Qh (Xg7 hlt bH);have qf:=Qh (fun w hw=>NC I x _ _ h1 h2 uV w hw);rw[NA (by omega)]at qf;clear bH h1 h2 gX uV;go_wp2_with fail
    refine(qf.O _ dA).mono ?_;rintro e1 w4 ⟨rfl,aM⟩;have fQ:=Qh (l5.O.aA aM);have aO:=hb.trans (aM.mono hb.size);clear aM l5 c0 c1 c2 c3 c4 c5 x0 x1 x2 x3 x4 x5 x6 qf;by_cases hx0:az x=0
    ·have LC:=Qh (show fA (s.ay.drop (k+1))=fA s.ay by rw[←vK.O,EK.O,if_neg (by omega)]);rw[hx0];clear hx0;go_wp2;go_roundw;case rel=>exact⟨k+1,by omega,by go_num,LC.O,fQ.O,aO⟩
     case measure=>simp[intOf];omega
    ·have Hn:=Qh (show dN s=az x by
      have h:=vK.O;rw[EK.O,if_pos hx0]at h;rw[Gj.O,if_pos (by rw[←h];exact hx0),←h])
     obtain⟨q,hq⟩:∃q,az x=q:=⟨_,rfl⟩;rw[hq]at hx0 Hn ⊢;have AL:(q !=0)=true:=by simpa using hx0
     clear hx0 hq;go_wp2;go_ret;exact⟨bP Hn.O.symm,aO⟩
   ·have EL:=Qh (show dN s=if 2000<s.sl.length then 6 else 0 by
     have h:=vK.O;rw[List.drop_of_length_le (by omega)]at h;rw[Gj.O,if_neg];rw[←h];simp[fA])
    by_cases h2:2000<s.sl.length
    ·have dI:decide ((2000:Int)<(s.sl.length:Int))=true:=Qt (by omega);have yT:=Qh (show dN s=6 by rw[EL.O,if_pos h2]);go_wp2;go_ret;exact⟨bP yT.O.symm,hb⟩
    ·have dI:decide ((2000:Int)<(s.sl.length:Int))=false:=Qf (by omega);have yT:=Qh (show dN s=0 by rw[EL.O,if_neg h2]);go_wp2;go_ret;exact⟨bP yT.O.symm,hb⟩
 have d5:((s.aW.length:Int) !=0)=true:=by
  have:=List.length_pos_iff.2 h5;simpa using(show(s.aW.length:Int)≠0 by omega)
 have d5':((s.aW.length:Int)==0)=false:=by
  have:=List.length_pos_iff.2 h5;simpa using(show(s.aW.length:Int)≠0 by omega)
 by_cases h6:s.aW.length=32
 ·have d6:((s.aW.length:Int) !=32)=false:=by rw[h6];rfl
  have d7:((s.aW.length:Int)==32)=true:=by rw[h6];rfl
  have Gj:=Qh (qN (by rw[hf,if_neg fun q=>q.2 h6]));clear h5 hf h6 jX qN;go_enter Tryz.func143,Tryz.ntmps143
  go_wp2_with fail
  have qg:=Qh (xz (W:=w) (s:=s) (ve:= .slice ao s.ay.length co) (t:=62) rfl (Qb _ _));have lW:=(Qb w.heap.size w).alloc (Qn _) (.cells #[.int .i64 s.num,.int .i64 s.aN,S s.aW,.slice ao s.ay.length co,S s.aH,S s.sl] 62);go_loopw [3] (fun s3 wr=> ∃k:Nat,k≤s.ay.length∧s3= .int .i64 k∧fA (s.ay.drop k)=fA s.ay∧nC wr w.heap.size s (.slice ao s.ay.length co)∧Below w.heap.size w wr) (fun i _=>s.ay.length-(intOf i).toNat)
  case atStart=>exact⟨0,Nat.zero_le _,rfl,rfl,qg.O,lW⟩
  case round=>
   clear qg lW;obtain⟨k,hk,rfl,FB,mG,hb⟩:=hrel;have l5:=Qh mG;have vK:=Qh FB;have dA:Ok I wr:=hw.below (Qn _) hb;clear mG FB;obtain⟨c0,c1,c2,c3,c4,c5⟩:=l5.O;by_cases hlt:k<s.ay.length
   ·obtain⟨x,HZ,H8,b,off,cap',bH,dn,⟨x0,x1,x2,x3,x4,x5,x6⟩,h1,h2⟩:=qi Hv.O dA k hlt;cases dn;obtain⟨xa,xc,rfl,_,_,_⟩:=id h1;obtain⟨xx,xd,rfl,_,_,_⟩:=id h2;have gX:x∈s.ay:=by rw[←bH];exact List.getElem_mem hlt
    have uV:=Hg.O.wf x gX;have yf:=Hg.O.ak x gX;have EK:=Qh (Xg7 hlt bH);have qf:=Qh (fun w hw=>NC I x _ _ h1 h2 uV w hw);rw[NA (by omega)]at qf;clear bH h1 h2 gX uV;go_wp2_with fail
    refine(qf.O _ dA).mono ?_;rintro e1 w4 ⟨rfl,aM⟩;have fQ:=Qh (l5.O.aA aM);have aO:=hb.trans (aM.mono hb.size);clear aM l5 c0 c1 c2 c3 c4 c5 x0 x1 x2 x3 x4 x5 x6 qf;by_cases hx0:az x=0
    ·have LC:=Qh (show fA (s.ay.drop (k+1))=fA s.ay by rw[←vK.O,EK.O,if_neg (by omega)]);rw[hx0];clear hx0;go_wp2;go_roundw;case rel=>exact⟨k+1,by omega,by go_num,LC.O,fQ.O,aO⟩
     case measure=>simp[intOf];omega
    ·have Hn:=Qh (show dN s=az x by
      have h:=vK.O;rw[EK.O,if_pos hx0]at h;rw[Gj.O,if_pos (by rw[←h];exact hx0),←h])
     obtain⟨q,hq⟩:∃q,az x=q:=⟨_,rfl⟩;rw[hq]at hx0 Hn ⊢;have AL:(q !=0)=true:=by simpa using hx0
     clear hx0 hq;go_wp2;go_ret;exact⟨bP Hn.O.symm,aO⟩
   ·have EL:=Qh (show dN s=if 2000<s.sl.length then 6 else 0 by
     have h:=vK.O;rw[List.drop_of_length_le (by omega)]at h;rw[Gj.O,if_neg];rw[←h];simp[fA])
    by_cases h2:2000<s.sl.length
    ·have dI:decide ((2000:Int)<(s.sl.length:Int))=true:=Qt (by omega);have yT:=Qh (show dN s=6 by rw[EL.O,if_pos h2]);go_wp2;go_ret;exact⟨bP yT.O.symm,hb⟩
    ·have dI:decide ((2000:Int)<(s.sl.length:Int))=false:=Qf (by omega);have yT:=Qh (show dN s=0 by rw[EL.O,if_neg h2]);go_wp2;go_ret;exact⟨bP yT.O.symm,hb⟩
 ·have d6:((s.aW.length:Int) !=32)=true:=by simpa using(show(s.aW.length:Int)≠32 by omega)
  have d7:((s.aW.length:Int)==32)=false:=by simpa using(show(s.aW.length:Int)≠32 by omega)
  have Hn:=Qh (show dN s=1 by rw[jX]<;>rw[hf,if_pos ⟨h5,h6⟩];decide);clear h5 hf h6 jX qN;go_enter Tryz.func143,Tryz.ntmps143
  go_wp2;go_ret;exact⟨bP Hn.O.symm,(Qb w.heap.size w).alloc (Qn _) _⟩
theorem Xn5(I:IH)(v:Value)(l:List At)(hv:bf lT I v l)(hl:∀x∈l,x.Wf)(w:World)(hw:Ok I w):
 Calls Tryz.prog 90 #[v] w fun e w'=>e= .returned (.int .i64 (mF l))∧Below w.heap.size w w':=by
 have hlen:=hv.bW;obtain⟨ao,cap,rfl,dO,iR,_⟩:=id hv;have Hv:=Qh hv;clear hv;have Hl:=Qh hl;clear hl;by_cases Om:l.length≤30
 ·have hd:decide (30<l.length)=false:=by simp;omega
  go_enter Tryz.func90,Tryz.ntmps90
  go_wp2_with fail
  go_loopw [3] (fun s3 wr=> ∃k:Nat,k≤l.length∧s3= .int .i64 k∧(l.take k).any DY=false∧Below w.heap.size w wr) (fun i _=>l.length-(intOf i).toNat)
  case atStart=>exact⟨0,Nat.zero_le _,rfl,rfl,Qb _ _⟩
  case round=>
   obtain⟨k,hk,rfl,hr,hb⟩:=hrel;have Hr:=Qh hr;clear hr;by_cases hlt:k<l.length
   ·have dA:Ok I wr:=hw.below (Qn _) hb;obtain⟨x,b,off,cap',bH,dn,nk,qW⟩:=zL Hv.O dA k hlt;cases dn;have qY:x∈l:=by rw[←bH];exact List.getElem_mem hlt
    obtain⟨gK,fM⟩:=Hl.O x qY;have Q4:=Qh qY;have nR:=Qh (show l.take (k+1)=l.take k++[x] by rw[List.take_succ_eq_append_getElem hlt,bH]);clear bH qY;by_cases h1:x.k.length≤100
    ·have ll:decide (100<x.k.length)=false:=by simp;omega
     by_cases h2:x.v.length≤100
     ·have pg:decide (100<x.v.length)=false:=by simp;omega
      go_wp2;go_roundw;case rel=>exact⟨k+1,by omega,by go_num,(by rw[nR.O,List.any_append,Hr.O];simp[DY];omega),hb⟩
      case measure=>simp[intOf];omega
     ·have pg:decide (100<x.v.length)=true:=by simp;omega
      go_wp2;go_ret;exact⟨bP (by rw[mF,if_neg (by omega),if_pos (List.any_eq_true.2 ⟨x,Q4.O,by simp[DY];omega⟩)]),hb⟩
    ·have ll:decide (100<x.k.length)=true:=by simp;omega
     go_wp2;go_ret;exact⟨bP (by rw[mF,if_neg (by omega),if_pos (List.any_eq_true.2 ⟨x,Q4.O,by simp[DY];omega⟩)]),hb⟩
   ·go_wp2;go_ret;refine⟨bP ?_,hb⟩;have:=Hr.O;rw[List.take_of_length_le (by omega)]at this;rw[mF,if_neg (by omega),if_neg (by rw[this];simp)]
 ·have hd:decide (30<l.length)=true:=by simp;omega
  go_enter Tryz.func90,Tryz.ntmps90
  go_wp2;go_ret;exact⟨bP (by rw[mF,if_pos (by omega)]),Qb _ _⟩
theorem YW(I:IH)(x:aG)(va vx:Value)(eP:bf lT I va x.ag)(eT:bf mr I vx x.ak)(jh:x.Wf)(w:World)(hw:Ok I w):
 Calls Tryz.prog 46 #[fB x va vx] w fun e w'=>e= .returned (.int .i64 (grE x))∧Below w.heap.size w w':=by
 obtain⟨ao,cap,rfl,dO,iR,_⟩:=id eT;have bH:=eT.bW;clear eT;by_cases h1:300<x.af.length;case pos=>
  have Hg:=Qh (show grE x=1 by simp[grE,fV,h1]);go_enter Tryz.func46,Tryz.ntmps46
  go_wp2;go_ret;exact⟨bP Hg.O.symm,(Qb _ _).alloc (Qn _) _⟩
 by_cases h2:300<x.target.length;case pos=>
  have Hg:=Qh (show grE x=1 by simp[grE,fV,h2]);go_enter Tryz.func46,Tryz.ntmps46
  go_wp2;go_ret;exact⟨bP Hg.O.symm,(Qb _ _).alloc (Qn _) _⟩
 by_cases h3:100<x.aj.length;case pos=>
  have Hg:=Qh (show grE x=1 by simp[grE,fV,h3]);go_enter Tryz.func46,Tryz.ntmps46
  go_wp2;go_ret;exact⟨bP Hg.O.symm,(Qb _ _).alloc (Qn _) _⟩
 by_cases h4:30<x.ak.length;case pos=>
  have Hg:=Qh (show grE x=1 by simp[grE,fV,h4]);go_enter Tryz.func46,Tryz.ntmps46
  go_wp2;go_ret;exact⟨bP Hg.O.symm,(Qb _ _).alloc (Qn _) _⟩
 have Hg:=Qh (show grE x=if mF x.ag=1 then 1 else 0 by simp[grE,fV,h1,h2,h3,h4]);have vL:=Qh (fun w hw=>Xn5 I va x.ag eP jh.ag w hw);clear eP;rcases Xmo x.ag with hg|hg
 ·rw[hg]at Hg vL;clear hg;go_enter Tryz.func46,Tryz.ntmps46
  go_wp2_with fail
  refine(vL.O _ (hw.alloc _)).mono ?_;rintro e w1 ⟨rfl,au⟩;go_wp2;go_ret;exact⟨bP Hg.O.symm,((Qb _ _).alloc (Qn _) _).trans (au.mono (by simp))⟩
 ·rw[hg]at Hg vL;clear hg;go_enter Tryz.func46,Tryz.ntmps46
  go_wp2_with fail
  refine(vL.O _ (hw.alloc _)).mono ?_;rintro e w1 ⟨rfl,au⟩;go_wp2;go_ret;exact⟨bP Hg.O.symm,((Qb _ _).alloc (Qn _) _).trans (au.mono (by simp))⟩
def jv(s:bR):Int:=if sM s then 1 else 0
def lM(l:List bR):Int:=if vI l then 1 else 0
theorem Xn1(I:IH)(s:bR)(ve:Value)(uX:bf bG I ve s.ay)(jh:∀e∈s.ay,e.Wf)(w:World)(hw:Ok I w):
 Calls Tryz.prog 45 #[uC s ve] w fun r w'=>r= .returned (.int .i64 (jv s))∧Below w.heap.size w w':=by
 have hlen:=uX.bW;obtain⟨ao,co,rfl,_,_,_⟩:=id uX;have Hv:=Qh uX;have Q5:=Qh jh;clear uX jh;by_cases h1:100<s.aW.length
 ·have d1:decide ((100:Int)<(s.aW.length:Int))=true:=Qt (by omega);have Hn:=Qh (show jv s=1 by rw[jv,sM,Qt h1];simp);clear h1;go_enter Tryz.func45,Tryz.ntmps45
  go_wp2;go_ret;exact⟨bP Hn.O.symm,(Qb w.heap.size w).alloc (Qn _) _⟩
 have d1:decide ((100:Int)<(s.aW.length:Int))=false:=Qf (by omega);by_cases h2:1000<s.aH.length
 ·have d2:decide ((1000:Int)<(s.aH.length:Int))=true:=Qt (by omega);have Hn:=Qh (show jv s=1 by rw[jv,sM,Qt h2];simp);clear h1 h2;go_enter Tryz.func45,Tryz.ntmps45
  go_wp2;go_ret;exact⟨bP Hn.O.symm,(Qb w.heap.size w).alloc (Qn _) _⟩
 have d2:decide ((1000:Int)<(s.aH.length:Int))=false:=Qf (by omega);by_cases h3:2100<s.sl.length
 ·have d3:decide ((2100:Int)<(s.sl.length:Int))=true:=Qt (by omega);have Hn:=Qh (show jv s=1 by rw[jv,sM,Qt h3];simp);clear h1 h2 h3;go_enter Tryz.func45,Tryz.ntmps45
  go_wp2;go_ret;exact⟨bP Hn.O.symm,(Qb w.heap.size w).alloc (Qn _) _⟩
 have d3:decide ((2100:Int)<(s.sl.length:Int))=false:=Qf (by omega);have uT:sM s=((decide (12<s.ay.length)&&decide (s.ay.length≠401)) || s.ay.any fV):=by
  rw[sM,Qf h1,Qf h2,Qf h3];rfl
 clear h1 h2 h3;by_cases h4:12<s.ay.length
 ·have d4:decide ((12:Int)<(s.ay.length:Int))=true:=Qt (by omega);by_cases h5:s.ay.length=401
  ·have d5:((s.ay.length:Int) !=401)=false:=by rw[h5];rfl
   have d6:((s.ay.length:Int)==401)=true:=by rw[h5];rfl
   have vL:=Qh (show sM s=s.ay.any fV by rw[uT,show decide (s.ay.length≠401)=false from Qf (by omega),Bool.and_false,Bool.false_or]);clear uT h5 h4;go_enter Tryz.func45,Tryz.ntmps45
   go_wp2_with fail
   have qg:=Qh (xz (W:=w) (s:=s) (ve:= .slice ao s.ay.length co) (t:=62) rfl (Qb _ _));have lW:=(Qb w.heap.size w).alloc (Qn _) (.cells #[.int .i64 s.num,.int .i64 s.aN,S s.aW,.slice ao s.ay.length co,S s.aH,S s.sl] 62);go_loopw [3] (fun s3 wr=> ∃k:Nat,k≤s.ay.length∧s3= .int .i64 k∧(s.ay.take k).any fV=false∧nC wr w.heap.size s (.slice ao s.ay.length co)∧Below w.heap.size w wr) (fun i _=>s.ay.length-(intOf i).toNat)
   case atStart=>exact⟨0,Nat.zero_le _,rfl,rfl,qg.O,lW⟩
   case round=>
    clear qg lW;obtain⟨k,hk,rfl,FB,mG,hb⟩:=hrel;have l5:=Qh mG;have vK:=Qh FB;have dA:Ok I wr:=hw.below (Qn _) hb;clear mG FB;obtain⟨c0,c1,c2,c3,c4,c5⟩:=l5.O;by_cases hlt:k<s.ay.length
    ·obtain⟨x,HZ,H8,b,off,cap',bH,dn,⟨x0,x1,x2,x3,x4,x5,x6⟩,h1,h2⟩:=qi Hv.O dA k hlt;cases dn;obtain⟨xa,xc,rfl,_,_,_⟩:=id h1;obtain⟨xx,xd,rfl,_,_,_⟩:=id h2;have gX:x∈s.ay:=by rw[←bH];exact List.getElem_mem hlt
     have uV:=Q5.O x gX;have zm:=Qh (any_take_succ (p:=fV) hlt bH vK.O);have nZ:=Qh (YE (p:=fV) hlt bH);have qf:=Qh (fun w hw=>YW I x _ _ h1 h2 uV w hw);clear bH h1 h2 gX uV vK;go_wp2_with fail
     refine(qf.O _ dA).mono ?_;rintro e1 w4 ⟨rfl,aM⟩;have fQ:=Qh (l5.O.aA aM);have aO:=hb.trans (aM.mono hb.size);clear aM l5 c0 c1 c2 c3 c4 c5 x0 x1 x2 x3 x4 x5 x6 qf;cases hx0:fV x
     ·rw[show grE x=0 by rw[grE,hx0];rfl];have jF:=Qh (zm.O hx0);clear hx0 zm nZ;go_wp2;go_roundw;case rel=>exact⟨k+1,by omega,by go_num,jF.O,fQ.O,aO⟩
      case measure=>simp[intOf];omega
     ·rw[show grE x=1 by rw[grE,hx0];rfl];have Hn:=Qh (show jv s=1 by rw[jv,vL.O,nZ.O hx0];rfl);clear hx0 zm nZ;go_wp2;go_ret;exact⟨bP Hn.O.symm,aO⟩
    ·have Hn:=Qh (show jv s=0 by
      have h:=vK.O;rw[List.take_of_length_le (by omega)]at h;rw[jv,vL.O,h];rfl)
     go_wp2;go_ret;exact⟨bP Hn.O.symm,hb⟩
  ·have d5:((s.ay.length:Int) !=401)=true:=by simpa using(show(s.ay.length:Int)≠401 by omega)
   have d6:((s.ay.length:Int)==401)=false:=by simpa using(show(s.ay.length:Int)≠401 by omega)
   have Hn:=Qh (show jv s=1 by rw[jv,uT,Qt h4,Qt h5];simp);clear uT h5 h4;go_enter Tryz.func45,Tryz.ntmps45
   go_wp2;go_ret;exact⟨bP Hn.O.symm,(Qb w.heap.size w).alloc (Qn _) _⟩
 ·have d4:decide ((12:Int)<(s.ay.length:Int))=false:=Qf (by omega);have vL:=Qh (show sM s=s.ay.any fV by rw[uT,Qf h4];rfl);clear uT h4;go_enter Tryz.func45,Tryz.ntmps45
  go_wp2_with fail
  have qg:=Qh (xz (W:=w) (s:=s) (ve:= .slice ao s.ay.length co) (t:=62) rfl (Qb _ _));have lW:=(Qb w.heap.size w).alloc (Qn _) (.cells #[.int .i64 s.num,.int .i64 s.aN,S s.aW,.slice ao s.ay.length co,S s.aH,S s.sl] 62);go_loopw [3] (fun s3 wr=> ∃k:Nat,k≤s.ay.length∧s3= .int .i64 k∧(s.ay.take k).any fV=false∧nC wr w.heap.size s (.slice ao s.ay.length co)∧Below w.heap.size w wr) (fun i _=>s.ay.length-(intOf i).toNat)
  case atStart=>exact⟨0,Nat.zero_le _,rfl,rfl,qg.O,lW⟩
  case round=>
   clear qg lW;obtain⟨k,hk,rfl,FB,mG,hb⟩:=hrel;have l5:=Qh mG;have vK:=Qh FB;have dA:Ok I wr:=hw.below (Qn _) hb;clear mG FB;obtain⟨c0,c1,c2,c3,c4,c5⟩:=l5.O;by_cases hlt:k<s.ay.length
   ·obtain⟨x,HZ,H8,b,off,cap',bH,dn,⟨x0,x1,x2,x3,x4,x5,x6⟩,h1,h2⟩:=qi Hv.O dA k hlt;cases dn;obtain⟨xa,xc,rfl,_,_,_⟩:=id h1;obtain⟨xx,xd,rfl,_,_,_⟩:=id h2;have gX:x∈s.ay:=by rw[←bH];exact List.getElem_mem hlt
    have uV:=Q5.O x gX;have zm:=Qh (any_take_succ (p:=fV) hlt bH vK.O);have nZ:=Qh (YE (p:=fV) hlt bH);have qf:=Qh (fun w hw=>YW I x _ _ h1 h2 uV w hw);clear bH h1 h2 gX uV vK;go_wp2_with fail
    refine(qf.O _ dA).mono ?_;rintro e1 w4 ⟨rfl,aM⟩;have fQ:=Qh (l5.O.aA aM);have aO:=hb.trans (aM.mono hb.size);clear aM l5 c0 c1 c2 c3 c4 c5 x0 x1 x2 x3 x4 x5 x6 qf;cases hx0:fV x
    ·rw[show grE x=0 by rw[grE,hx0];rfl];have jF:=Qh (zm.O hx0);clear hx0 zm nZ;go_wp2;go_roundw;case rel=>exact⟨k+1,by omega,by go_num,jF.O,fQ.O,aO⟩
     case measure=>simp[intOf];omega
    ·rw[show grE x=1 by rw[grE,hx0];rfl];have Hn:=Qh (show jv s=1 by rw[jv,vL.O,nZ.O hx0];rfl);clear hx0 zm nZ;go_wp2;go_ret;exact⟨bP Hn.O.symm,aO⟩
   ·have Hn:=Qh (show jv s=0 by
     have h:=vK.O;rw[List.take_of_length_le (by omega)]at h;rw[jv,vL.O,h];rfl)
    go_wp2;go_ret;exact⟨bP Hn.O.symm,hb⟩
theorem Xnz(I:IH)(v:Value)(l:List bR)(hv:bf lL I v l)(jh:∀x∈l,x.Wf)(w:World)(hw:Ok I w):
 Calls Tryz.prog 18 #[v] w fun r w'=>r= .returned (.int .i64 (lM l))∧Below w.heap.size w w':=by
 have hlen:=hv.bW;obtain⟨ao,cap,rfl,_,_,_⟩:=id hv;have Hv:=Qh hv;have Q5:=Qh jh;clear hv jh;by_cases h8:8<l.length
 ·have d1:decide ((8:Int)<(l.length:Int))=true:=Qt (by omega);have Hn:=Qh (show lM l=1 by rw[lM,vI,Qt h8];simp);clear h8;go_enter Tryz.func18,Tryz.ntmps18
  go_wp2;go_ret;exact⟨bP Hn.O.symm,Qb _ _⟩
 have d1:decide ((8:Int)<(l.length:Int))=false:=Qf (by omega);have vL:=Qh (show vI l=(l.any oD || decide (20000<xY l)) by rw[vI,Qf h8];rfl);go_enter Tryz.func18,Tryz.ntmps18
 go_wp2_with fail
 go_loopw [3,13] (fun s3 s13 wr=> ∃k:Nat,k≤l.length∧s13= .int .i64 k∧s3= .int .i64 (xY (l.take k))∧(l.take k).any oD=false∧Below w.heap.size w wr) (fun _ i _=>l.length-(intOf i).toNat)
 case atStart=>exact⟨0,Nat.zero_le _,rfl,rfl,rfl,Qb _ _⟩
 case round=>
  obtain⟨k,hk,rfl,rfl,hr,hb⟩:=hrel;have Hr:=Qh hr;clear hr;have dA:Ok I wr:=hw.below (Qn _) hb;have tH:xY (l.take k)≤1300*k:=by
   have h1:=Xzd (l:=l.take k) fun x hx=>by
    have:=(Xp2 (Q5.O x (List.mem_of_mem_take hx)) (by have:=List.any_eq_false.1 Hr.O x hx;simpa using this));exact⟨this.aH,this.mi⟩
   rw[List.length_take]at h1;exact Nat.le_trans h1 (Nat.mul_le_mul_left _ (by omega))
  by_cases hlt:k<l.length
  ·obtain⟨x,ve,b,off,cap',bH,dn,⟨c0,c1,c2,c3,c4,c5⟩,h1⟩:=Dl Hv.O dA k hlt;cases dn;have uV:=Q5.O x (by rw[←bH];exact List.getElem_mem hlt);have zm:=Qh (any_take_succ (p:=oD) hlt bH Hr.O);have nZ:=Qh (YE (p:=oD) hlt bH);have Hwt:=Qh (Xur hlt bH);have nL:=h1.bW;obtain⟨oe,ce,rfl,_,_,_⟩:=id h1;have H40:=Qh (fun w hw=>Xn1 I x _ h1 uV.ay w hw);have LD:=Qh h1;have Pt:=Qh uV;clear bH h1 uV Hr;have zt:=hb.alloc hb.size (.cells #[.int .i64 x.num,.int .i64 x.aN,S x.aW,.slice oe x.ay.length ce,S x.aH,S x.sl] 62);by_cases Om:30<x.ay.length
   ·have d30:decide ((30:Int)<(x.ay.length:Int))=true:=Qt (by omega);have Hn:=Qh (show lM l=1 by rw[lM,vL.O,nZ.O (by rw[oD,Qt Om];rfl)];rfl);clear Om zm nZ;go_wp2;go_ret;exact⟨bP Hn.O.symm,zt⟩
   have d30:decide ((30:Int)<(x.ay.length:Int))=false:=Qf (by omega);go_wp2_with fail
   refine(H40.O _ (dA.alloc _)).mono ?_;rintro e1 w4 ⟨rfl,aM⟩;have fQ:=Qh (xz (s:=x) rfl aM);have aO:=zt.trans (aM.mono zt.size);have bC:Ok I w4:=(dA.alloc _).below (Qn _) aM;clear aM H40 c0 c1 c2 c3 c4 c5 dA;obtain⟨c0,c1,c2,c3,c4,c5⟩:=fQ.O;cases hx0:sM x;case true=>
    rw[show jv x=1 by rw[jv,hx0];rfl];have Hn:=Qh (show lM l=1 by rw[lM,vL.O,nZ.O (by rw[oD,hx0,Bool.or_true])];rfl);clear hx0 zm nZ;go_wp2;go_ret;exact⟨bP Hn.O.symm,aO⟩
   rw[show jv x=0 by rw[jv,hx0];rfl];have mq:oD x=false:=by rw[oD,hx0,Qf Om];rfl
   have yT:=Qh (zm.O mq);have HG:=Qh (YC hx0);have gB:=(YC hx0).2.1;have OS:xY (l.take (k+1))=xY (l.take k)+(x.aH.length+10*x.ay.length):=Hwt.O;have Hwx:=Qh OS;generalize xY (l.take k)=n0 at tH OS Hwx ⊢;clear hx0 mq zm nZ OS;go_wp2_with fail
   go_loopw [39] (fun YX wq=> ∃j:Nat,j≤x.ay.length∧YX= .int .i64 j∧Below w4.heap.size w4 wq) (fun i _=>x.ay.length-(intOf i).toNat)
   case atStart=>exact⟨0,Nat.zero_le _,rfl,Qb _ _⟩
   case round=>
    obtain⟨j,hj,rfl,AY⟩:=hrel;have gG:Ok I wr:=bC.below (Qn _) AY;by_cases tq:j<x.ay.length
    ·obtain⟨y,YY,YZ,b9,Iy,LF,iH,dn,⟨x0,x1,x2,x3,x4,x5,x6⟩,h1,h2⟩:=qi LD.O gG j tq;cases dn;obtain⟨xa,xc,rfl,_,_,_⟩:=id h1;obtain⟨xx,xd,rfl,_,_,_⟩:=id h2;have gX:y∈x.ay:=by rw[←iH];exact List.getElem_mem tq
     have qf:=Qh (fun w hw=>YW I y _ _ h1 h2 (Pt.O.ay y gX) w hw);rw[show grE y=0 by rw[grE,HG.O.2.2.2.2 y gX];rfl]at qf;clear iH h1 h2 gX;go_wp2_with fail
     refine(qf.O _ (gG.alloc _)).mono ?_;rintro e1 w6 ⟨rfl,gp⟩;have jM:=(AY.alloc AY.size (.cells #[.int .i64 y.ai,S y.af,.slice xa y.ag.length xc,S y.target,.int .i64 y.size,S y.aj,.slice xx y.ak.length xd] 35)).trans (gp.mono (by have:=AY.size;simp;omega));clear gp x0 x1 x2 x3 x4 x5 x6 qf;go_wp2;go_roundw;case rel=>exact⟨j+1,by omega,by go_num,jM⟩
     case measure=>simp[intOf];omega
    ·go_wp2;go_roundw;case rel=>exact⟨k+1,by omega,by go_num,by rw[Hwx.O];go_num,yT.O,aO.trans (AY.mono aO.size)⟩
     case measure=>simp[intOf];omega
  ·have aB:l.take k=l:=List.take_of_length_le (by omega);rw[aB]at Hr tH ⊢;have Q6:=Qh (show vI l=decide (20000<xY l) by rw[vL.O,Hr.O];rfl);clear aB Hr vL;by_cases h2:20000<xY l
   ·have dI:decide ((20000:Int)<((xY l:Nat):Int))=true:=Qt (by omega);have Hn:=Qh (show lM l=1 by rw[lM,Q6.O,Qt h2];rfl);clear h2;go_wp2;go_ret;exact⟨bP Hn.O.symm,hb⟩
   ·have dI:decide ((20000:Int)<((xY l:Nat):Int))=false:=Qf (by omega);have Hn:=Qh (show lM l=0 by rw[lM,Q6.O,Qf h2];rfl);clear h2;go_wp2;go_ret;exact⟨bP Hn.O.symm,hb⟩
theorem Xyx{α:Type}{T:Ty α}{E:TypeId}(W:World):aP T E I (W.alloc (.cells #[] E)) W.heap.size (.slice (some ⟨W.heap.size,0,none⟩) 0 0) []:=
 ⟨[],World.ownsRow_made W #[] 0 (Qn _) (Nat.zero_le _) (e:=E) (size:=T.size) (by simp),bS.nil _ _⟩
theorem Xjn{k:Nat}(hk:k<L.length){x:bR}(hx:L[k]=x):aK (L.take (k+1))=aK (L.take k)++[x.aH]:=by
 unfold aK;rw[List.take_succ_eq_append_getElem hk,hx,List.map_append];rfl
theorem Y0(L:List bR):(aK L).length=L.length:=by simp[aK]
def sN(g:ae×Int)(e:aG):ae×Int:=if g.2≠0 then([],g.2)else if(g.1.length:Int)≠e.size∨dM g.1≠e.aj then([],5)else(g.1,0)
theorem Xna(h:e.ai=1):jr st e=sN (l7 st e.ak) e:=by
 unfold jr sN;rw[if_neg (by omega)]
theorem Y1(h:e.ai≠1):jr st e=([],10):=by
 unfold jr;rw[if_pos h]
abbrev UK(ct:ae)(n m:Nat)(sz:Int)(dg ed:ae)(bb:Bool)(x:Nat):List (Option Tmp×Value):=
 [(some 38,S ct),(some 39,.int .i64 (n:Int)),(some 40,.pointer (some ⟨m,4,none⟩)),(some 41,.int .i64 sz),(some 42,.bool false),(some 43,.bool false),(some 44,S ct),(some 45,.slice (some ⟨x,0,none⟩) 1 1),(some 46,S dg),(some 47,.pointer (some ⟨m,5,none⟩)),(some 48,S ed),(some 49,.bool bb),(some 50,.bool bb),(some 37,.bool bb)]
theorem Q7{x:Nat}:bL (UK ct n m sz dg ed bb x):=by
 unfold bL;simp
abbrev UL(so:Option Addr)(l sc m:Nat)(ax:Option Addr)(xl cx n:Nat)(ct:ae)(er:Int)(x:Option Addr×Nat):List (Option Tmp×Value):=
 [(some 12,.slice so l sc),(some 13,.slice x.1 n x.2),(some 14,.pointer (some ⟨m,6,none⟩)),(some 15,.slice ax xl cx),(some 16,.tuple #[S ct,.int .i64 er]),(some 11,.tuple #[S ct,.int .i64 er]),(some 17,S ct),(some 18,.int .i64 er),(some 6,S ct),(some 7,.int .i64 er)]
theorem Q8{so:Option Addr}{l sc:Nat}{ax:Option Addr}{xl cx:Nat}{er:Int}{x:Option Addr×Nat}:bL (UL so l sc m ax xl cx n ct er x):=by
 unfold bL;simp
abbrev UM(ct:ae)(n m:Nat)(sz:Int)(dg ed:ae)(bb:Bool)(x:Nat):List (Option Tmp×Value):=
 [(some 22,S ct),(some 23,.int .i64 (n:Int)),(some 24,.pointer (some ⟨m,4,none⟩)),(some 25,.int .i64 sz),(some 26,.bool false),(some 27,.bool false),(some 28,S ct),(some 29,.slice (some ⟨x,0,none⟩) 1 1),(some 30,S dg),(some 31,.pointer (some ⟨m,5,none⟩)),(some 32,S ed),(some 33,.bool bb),(some 34,.bool bb)]
theorem Q9{x:Nat}:bL (UM ct n m sz dg ed bb x):=by
 unfold bL;simp
theorem Xn8(I:IH)(v:Value)(L:List bR)(hv:bf lL I v L)(hn:L.length≤1000)(w:World)(hw:Ok I w):
 Calls Tryz.prog 58 #[v] w fun e w'=> ∃v',e= .returned v'∧aP jE 9 I w' w.heap.size v' (aK L)∧Below w.heap.size w w':=by
 have Hv:=Qh hv;obtain⟨so,sc,rfl,_,_,_⟩:=id hv;clear hv;have lX:=Qh (fun b (h:w.heap.size≤b)=>hw.fresh h);have Ra:=Qh (Xyx (T:=jE) (E:=9) (I:=I) w);have jG:Ok I (w.alloc (.cells #[] 9)):=hw.alloc _;have lW:Below w.heap.size w (w.alloc (.cells #[] 9)):=(Qb _ _).alloc (Qn _) _;go_enter Tryz.func58,Tryz.ntmps58
 go_wp2_with fail
 go_loopw [3,4] (fun s3 s4 wr=> ∃k:Nat,k≤L.length∧s4= .int .i64 k∧aP jE 9 I wr w.heap.size s3 (aK (L.take k))∧Ok I wr∧Below w.heap.size w wr) (fun _ i _=>L.length-(intOf i).toNat)
 case atStart=>exact⟨0,Nat.zero_le _,rfl,Ra.O,jG,lW⟩
 case round=>
  clear jG lW Ra;obtain⟨k,hk,rfl,hO,gG,hb⟩:=hrel;have HO:=Qh hO;have HK:=Qh gG;clear hO gG;by_cases hlt:k<L.length
  ·obtain⟨x,ve,b,off,cap',bH,dn,⟨c0,c1,c2,c3,c4,c5⟩,h1⟩:=Dl Hv.O HK.O k hlt;cases dn;have LG:=Qh (show(aK (L.take k)).length=k by rw[Y0,List.length_take];omega);have bB:=Qh (Xjn hlt bH);have ani:=hb.size;clear bH h1
   go_wp2_with (at_builtin
                refine oK (w0:=wr) Tm rfl _ _ rfl w.heap.size _ _ rfl HO.O x.aH [S x.aH] _ (by first|rfl|simp[Act.eval]) rfl (by rw[LG.O];omega) (by rw[LG.O];omega) (by omega) ?_;intro v5 w5 Rc hg5)
   go_roundw;case rel=>exact⟨k+1,by omega,by go_num,by rw[bB.O];exact Rc,HK.O.own hg5 HO.O (fun b hb=>lX.O b hb),Below.own hb hg5 HO.O (Qn _) (by omega)⟩
   case measure=>simp[intOf];omega
  ·have nK:k=L.length:=by omega
   subst nK;rw[List.take_length]at HO;go_wp2;go_ret;exact⟨_,rfl,HO.O,hb⟩
theorem Xo9(hg:∀x∈L,jA x):∀s∈aK L,s.length≤9223372036854775807:=by
 intro s hs;obtain⟨x,hx,rfl⟩:=List.mem_map.1 hs;have:=(hg x hx).aH;omega
theorem Xrb(I:IH)(v:Value)(L:List bR)(hv:bf lL I v L)(hg:∀x∈L,jA x)(hn:L.length≤1000)(e:aG)(va vx:Value)(eP:bf lT I va e.ag)(eT:bf mr I vx e.ak)(w:World)(hw:Ok I w):
 Calls Tryz.prog 50 #[v,fB e va vx] w fun r w'=>r= .returned (.tuple #[S (jr (aK L) e).1,.int .i64 (jr (aK L) e).2])∧Below w.heap.size w w':=by
 have Hv:=Qh hv;have tT:=Qh eT;obtain⟨so,sc,rfl,_,_,_⟩:=id hv;obtain⟨aa,ca,rfl,_,_,_⟩:=id eP;obtain⟨ax,cx,rfl,_,_,_⟩:=id eT;have zU:=Qh (Xo9 hg);have lW:Below w.heap.size w (w.alloc (.cells #[.int .i64 e.ai,S e.af,.slice aa e.ag.length ca,S e.target,.int .i64 e.size,S e.aj,.slice ax e.ak.length cx] 35)):=(Qb _ _).alloc (Qn _) _;have jG:Ok I (w.alloc (.cells #[.int .i64 e.ai,S e.af,.slice aa e.ag.length ca,S e.target,.int .i64 e.size,S e.aj,.slice ax e.ak.length cx] 35)):=hw.alloc _;have qg:=Qh (cB (W:=w) (e:=e) (va:= .slice aa e.ag.length ca) (vx:= .slice ax e.ak.length cx) (t:=35) rfl (Qb _ _));have lX:=Qh (fun b (h:w.heap.size≤b)=>hw.fresh h);have Ra:=Qh (aP.nil jE 9 I (w.alloc (.cells #[.int .i64 e.ai,S e.af,.slice aa e.ag.length ca,S e.target,.int .i64 e.size,S e.aj,.slice ax e.ak.length cx] 35)) (w.heap.size+1));clear hv hg eP eT;by_cases hk:e.ai=1
 ·rw[Xna hk];obtain⟨N,hN⟩:∃N,sN (l7 (aK L) e.ak) e=N:=⟨_,rfl⟩;rw[hN];have HN:=Qh hN;have k0:(e.ai !=1)=false:=by rw[hk];rfl
  clear hk hN;obtain⟨c0,c1,c2,c3,c4,c5,c6⟩:=qg.O;go_enter Tryz.func50,Tryz.ntmps50
  go_wp2_with fail
  go_loopw [6,8,16] (fun s6 _ s16 wr=> ∃k:Nat,k≤L.length∧s16= .int .i64 k∧aP jE 9 I wr (w.heap.size+1) s6 (aK (L.take k))∧Ok I wr∧Below w.heap.size w wr∧w.heap.size+1≤wr.heap.size∧bn wr w.heap.size e (.slice aa e.ag.length ca) (.slice ax e.ak.length cx)) (fun _ _ i _=>L.length-(intOf i).toNat)
  case atStart=>exact⟨0,Nat.zero_le _,rfl,Ra.O,jG,lW,by simp,qg.O⟩
  case round=>
   clear jG lW Ra qg c0 c1 c2 c3 c4 c5 c6;obtain⟨k,hk,rfl,hO,gG,hb,eU,hE⟩:=hrel;have HO:=Qh hO;have HK:=Qh gG;have HE:=Qh hE;clear hO gG hE;by_cases hlt:k<L.length
   ·obtain⟨x,ve,b,off,cap',bH,dn,⟨c0,c1,c2,c3,c4,c5⟩,h1⟩:=Dl Hv.O HK.O k hlt;cases dn;obtain⟨oe,ce,rfl,_,_,_⟩:=id h1;have LG:=Qh (show(aK (L.take k)).length=k by rw[Y0,List.length_take];omega);have bB:=Qh (Xjn hlt bH);have zt:=hb.alloc hb.size (.cells #[.int .i64 x.num,.int .i64 x.aN,S x.aW,.slice oe x.ay.length ce,S x.aH,S x.sl] 62);have UN:=Qh (HO.O.alloc (.cells #[.int .i64 x.num,.int .i64 x.aN,S x.aW,.slice oe x.ay.length ce,S x.aH,S x.sl] 62));have HEa:=Qh (HE.O.past (.cells #[.int .i64 x.num,.int .i64 x.aN,S x.aW,.slice oe x.ay.length ce,S x.aH,S x.sl] 62));have Y2:=HK.O.alloc (.cells #[.int .i64 x.num,.int .i64 x.aN,S x.aW,.slice oe x.ay.length ce,S x.aH,S x.sl] 62);have Re:w.heap.size+1≤(wr.alloc (.cells #[.int .i64 x.num,.int .i64 x.aN,S x.aW,.slice oe x.ay.length ce,S x.aH,S x.sl] 62)).heap.size:=by simp;omega
    clear bH h1
    go_wp2_with (at_builtin
                 refine oK (w0:=wr.alloc (.cells #[.int .i64 x.num,.int .i64 x.aN,S x.aW,.slice oe x.ay.length ce,S x.aH,S x.sl] 62)) Tm rfl _ _ rfl (w.heap.size+1) _ _ rfl UN.O x.aH [S x.aH] _ (by first|rfl|simp[Act.eval]) rfl (by rw[LG.O];omega) (by rw[LG.O];omega) Re ?_;intro v5 w5 Rc hg5)
    go_roundw;case rel=>exact⟨k+1,by omega,by go_num,by rw[bB.O];exact Rc,Y2.own hg5 UN.O (fun b hb=>lX.O b (by omega)),Below.own zt hg5 UN.O (by omega) (by omega),Nat.le_trans Re hg5.size,HEa.O.own hg5 (UN.O.dx (by omega))⟩
    case measure=>simp[intOf];omega
   ·have nK:k=L.length:=by omega
    subst nK;rw[List.take_length]at HO;obtain⟨J,hx,vH,JJ,_⟩:=HO.O.freeze HK.O (fun b hb=>lX.O b (by omega));obtain⟨ao,cp,rfl,_,_,_⟩:=id JJ;have fJ:∀b c,I b=some c→J b=some c:=fun b c hc=>by
     rw[hx b (by
      rcases Nat.lt_or_ge b w.heap.size with q|q
      ·omega
      ·rw[lX.O b q]at hc;cases hc)]
     exact hc
    have Cy:=Qh (fun w hw=>Xy8 J _ _ _ _ JJ (tT.O.mono fJ) zU.O w hw);have HJ:=Qh vH;clear hx vH JJ fJ;obtain⟨c0,c1,c2,c3,c4,c5,c6⟩:=HE.O;go_wp2_with fail
    refine(Cy.O _ HJ.O).mono ?_;have gI:=YG (aK L) e.ak;generalize l7 (aK L) e.ak=g at gI HN ⊢;obtain⟨ct,er⟩:=g;dsimp only at gI ⊢;rintro r w1 ⟨rfl,au⟩;have HE1:=Qh (HE.O.aA au);have av:=hb.trans (au.mono hb.size);clear HO HE HJ hb c0 c1 c2 c3 c4 c5 c6;obtain⟨c0,c1,c2,c3,c4,c5,c6⟩:=HE1.O;by_cases he:er=0
    ·subst he;by_cases hl:(ct.length:Int)=e.size
     ·have j1:((ct.length:Int) !=e.size)=false:=by simpa using hl
      have tX:=Qh (fun b w hc xK=>Xrs b ct (by omega) w hc xK);obtain⟨bb,hd⟩:∃bb,(!(dM ct==e.aj))=bb:=⟨_,rfl⟩;have Rf:=Qh hd;have Hl:=Qh hl;clear hl;go_wp2_with fail
      refine uW (X:=Nat) (UK ct ct.length w.heap.size e.size (dM ct) e.aj bb) (Bq w1 7 226 227 228 (fun x w=>w.cell? ⟨x,0,none⟩=some (S ct)∧x<w.heap.size) (fun _ _=>True) (fun _ _=>True) (fun _ _=>True)) (by kernel_rfl) (by kernel_rfl) ?_ ?_ ?_
      ·exact⟨0,Bq.start _ _⟩
      ·rintro x s' a' w' i eU gI ha hC hi;obtain⟨aV,oi,eX,aB⟩:=mem_ready.1 hi;have ev:=zC Q7 ha;rcases i with _|_|_|_|_|_|_|_|_|_|_|_|_|_|i
       rotate_left 14
       ·simp at eX
       all_goals
        have fZ:=eX;simp at eX;subst eX;simp[Region.binds]at aB;have dH:=hC.off;have c4:=dh dH c4;have c5:=dh dH c5;refine wpOp_step fZ (fun K' hK=> ?_);first|rw[if_pos (by rfl)]|rw[if_pos (by unfold Region.wanted;dsimp only;rw[xw (j:=5) (t:=43) (b:=false) (by rfl) (by simp[ev,fG,aB])];rfl)]
       rotate_left 7
       ·unfold Oper.wp;simp[go_sem,ev,fG,aB,Oper.upon,c4,c5,j1,hd];have ha:=ha.trans (NM (L:=UK ct ct.length w.heap.size e.size (dM ct) e.aj bb x) (M:=UK ct ct.length w.heap.size e.size (dM ct) e.aj bb w'.heap.size) [7] rfl (fun j bZ=>by
         rcases j with _|_|_|_|_|_|_|_|_|_|_|_|_|_|j<;>first|rfl|(exact absurd (by decide) bZ)|simp) (List.forall_mem_cons.2 ⟨Cb aV,List.forall_mem_nil _⟩))
        exact hK _ _ ⟨w'.heap.size,iF Q7 ha rfl aV,hC.step (dH.trans (((Qb _ _).alloc (Qn _) _).mono dH.size)) (fun _=>⟨by rw[World.cell?_alloc_new];rfl,by simp⟩) (fun _=>trivial) (fun _=>trivial) (fun _=>trivial)⟩
       ·have yO:=hC.f1 (by first|simpa using aB|simp[aB]);unfold Oper.wp;simp[go_sem,ev,fG,aB,Oper.upon];refine(tX.O x w' yO.1 yO.2).mono ?_;rintro r4 w4 ⟨rfl,aM⟩;exact hK _ _ ⟨x,iF Q7 ha rfl aV,hC.step (dH.trans (aM.mono dH.size)) (fun q=>q.elim (fun e=>absurd e (by decide)) (fun⟨_,q⟩=>⟨dh aM q.1,Nat.lt_of_lt_of_le q.2 aM.size⟩)) (fun _=>trivial) (fun _=>trivial) (fun _=>trivial)⟩
       all_goals
        unfold Oper.wp;first
        |(simp[go_sem,ev,fG,aB,Oper.upon,c4,c5,j1,hd];exact hK _ _ ⟨x,iF Q7 ha rfl aV,hC.pure (by decide)⟩)
        |(simp[go_sem,ev,fG,Oper.upon,c4,c5,j1,hd];exact hK _ _ ⟨x,iF Q7 ha rfl aV,hC.pure (by decide)⟩)
      ·rintro x s' a' w2 gH ha hC;rw[vB _ _ _ _ (fun i hi=>by rw[Nat.zero_add];exact gH i (by simpa using hi))]at ha;subst ha;simp only[dZ,Act.put,List.setIfInBounds_toArray,List.set_cons_succ,List.set_cons_zero];have J9:=Qh (av.trans (hC.off.mono av.size));clear hd av;cases bb with
       |true=>
        have bZ:dM ct≠e.aj:=by simpa using Rf.O
        have Hn:=Qh (show N=([],5) by rw[←HN.O];unfold sN;rw[if_neg (by simp),if_pos (.inr bZ)]);clear bZ;go_wp2;go_ret2;rw[Hn.O];exact⟨rfl,J9.O⟩
       |false=>
        have bZ:dM ct=e.aj:=by simpa using Rf.O
        have Hn:=Qh (show N=(ct,0) by rw[←HN.O];unfold sN;rw[if_neg (by simp),if_neg (by intro q;rcases q with q|q;exact q Hl.O;exact q bZ)]);clear bZ;go_wp2;go_ret2;rw[Hn.O];exact⟨rfl,J9.O⟩
     ·have j1:((ct.length:Int) !=e.size)=true:=by simpa using hl
      have Hn:=Qh (show N=([],5) by rw[←HN.O];unfold sN;rw[if_neg (by simp),if_pos (.inl hl)]);clear hl;have g4:=cell_regrown c4;go_wp2_with fail
      refine wp_region_quiet_below (by kernel_rfl) (by kernel_rfl) ?_;repeat(first|go_big_quiet_step (fail)|refine BigFrame.wpQuiet_skip (by rfl) ?_)
      refine wpQuiet_nil ?_;intro w2 bg;have aF:Below w1.heap.size w1 w2:=by
       obtain⟨pq,rfl⟩:=bg;exact below_regrown _ _ _
      clear bg;go_wp2;go_ret2;rw[Hn.O];exact⟨rfl,av.trans (aF.mono av.size)⟩
    ·have j1:(er !=0)=true:=by simpa using he
     have Hn:=Qh (show N=([],er) by rw[←HN.O];unfold sN;rw[if_pos he]);clear he;go_wp2;go_ret2;rw[Hn.O];exact⟨rfl,av⟩
 ·rw[Y1 hk];have k0:(e.ai !=1)=true:=by simpa using hk
  clear hk;obtain⟨c0,c1,c2,c3,c4,c5,c6⟩:=qg.O;go_enter Tryz.func50,Tryz.ntmps50
  go_wp2;go_ret2;exact⟨rfl,lW⟩
theorem Xn9(I:IH)(v:Value)(L:List bR)(hv:bf lL I v L)(hg:∀x∈L,jA x)(hn:L.length≤1000)(e:aG)(va vx:Value)(eP:bf lT I va e.ag)(eT:bf mr I vx e.ak)(w:World)(hw:Ok I w):
 Calls Tryz.prog 22 #[v,fB e va vx] w fun r w'=>r= .returned (.tuple #[S (jr (aK L) e).1,.int .i64 (jr (aK L) e).2])∧Below w.heap.size w w':=by
 have bB:=Qh (fun w hw=>Xn8 I v L hv hn w hw);have tT:=Qh eT;obtain⟨so,sc,rfl,_,_,_⟩:=id hv;obtain⟨aa,ca,rfl,_,_,_⟩:=id eP;obtain⟨ax,cx,rfl,_,_,_⟩:=id eT;have zU:=Qh (Xo9 hg);have lW:Below w.heap.size w (w.alloc (.cells #[.int .i64 e.ai,S e.af,.slice aa e.ag.length ca,S e.target,.int .i64 e.size,S e.aj,.slice ax e.ak.length cx] 35)):=(Qb _ _).alloc (Qn _) _;have jG:Ok I (w.alloc (.cells #[.int .i64 e.ai,S e.af,.slice aa e.ag.length ca,S e.target,.int .i64 e.size,S e.aj,.slice ax e.ak.length cx] 35)):=hw.alloc _;obtain⟨c0,c1,c2,c3,c4,c5,c6⟩:=cB (W:=w) (e:=e) (va:= .slice aa e.ag.length ca) (vx:= .slice ax e.ak.length cx) (t:=35) rfl (Qb _ _);have C4:=Qh c4;have C5:=Qh c5;clear hv hg eP eT;by_cases hk:e.ai=1
 ·rw[Xna hk];obtain⟨N,hN⟩:∃N,sN (l7 (aK L) e.ak) e=N:=⟨_,rfl⟩;rw[hN];have HN:=Qh hN;have k0:(e.ai !=1)=false:=by rw[hk];rfl
  clear hk hN;have Rh:=Qh (Y0 L);have Cy:=Qh (fun J vs (hJ:∀b c,I b=some c→J b=some c) (lS:bf jE J vs (aK L)) w hw=>Xr8 J vs _ (aK L) e.ak lS (tT.O.mono hJ) zU.O w hw);obtain⟨W1,AV⟩:∃W1,w.alloc (.cells #[.int .i64 e.ai,S e.af,.slice aa e.ag.length ca,S e.target,.int .i64 e.size,S e.aj,.slice ax e.ak.length cx] 35)=W1:=⟨_,rfl⟩;have OL:=Qh AV;rw[AV]at lW jG c0 c1 c2 c3 c4 c5 c6 C4 C5;have Ri:=Qh (fun b (h:W1.heap.size≤b)=>jG.fresh h);have HK:=Qh jG;clear AV;have gI:=YG (aK L) e.ak;generalize l7 (aK L) e.ak=g at gI Cy HN;obtain⟨ct,er⟩:=g;dsimp only at gI Cy ⊢;go_enter Tryz.func22,Tryz.ntmps22
  go_wp2_with fail
  rw[OL.O];clear OL;refine uW (X:=Option Addr×Nat) (UL so L.length sc w.heap.size ax e.ak.length cx ((aK L).length) ct er) (Bq W1 1 222 223 224 (fun x w=>aP jE 9 I w W1.heap.size (.slice x.1 (aK L).length x.2) (aK L)) (fun _ _=>True) (fun _ _=>True) (fun _ _=>True)) (by kernel_rfl) (by kernel_rfl) ?_ ?_ ?_
  ·exact⟨default,Bq.start _ _⟩
  ·rintro x s' a' w' i eU gI ha hC hi;obtain⟨aV,oi,eX,aB⟩:=mem_ready.1 hi;have ev:=zC Q8 ha;rcases i with _|_|_|_|_|_|_|_|_|_|i
   rotate_left 10
   ·simp at eX
   all_goals
    have fZ:=eX;simp at eX;subst eX;simp[Region.binds]at aB;have dH:=hC.off;have c6:=dh dH c6;refine wpOp_step fZ (fun K' hK=> ?_);first|rw[if_pos (by rfl)]
   rotate_left 1
   ·unfold Oper.wp;simp[go_sem,ev,fG,aB,Oper.upon];refine(bB.O w' (HK.O.below (Qn _) dH)).mono ?_;rintro r4 w4 ⟨v7,rfl,ho,aM⟩;obtain⟨a7,k7,rfl⟩:=FU ho;have ha:=ha.trans (NM (L:=UL so L.length sc w.heap.size ax e.ak.length cx ((aK L).length) ct er x) (M:=UL so L.length sc w.heap.size ax e.ak.length cx ((aK L).length) ct er (a7,k7)) [1] rfl (fun j bZ=>by
     rcases j with _|_|_|_|_|_|_|_|_|_|j<;>first|rfl|(exact absurd (by decide) bZ)|simp) (List.forall_mem_cons.2 ⟨Cb aV,List.forall_mem_nil _⟩))
    exact hK _ _ ⟨(a7,k7),iF Q8 ha rfl aV,hC.step (dH.trans (aM.mono dH.size)) (fun _=>ho.lower dH.size) (fun _=>trivial) (fun _=>trivial) (fun _=>trivial)⟩
   rotate_left 2
   ·have hOw:=hC.f1 (by first|simpa using aB|simp[aB]);obtain⟨J7,hx7,o6,Ip,_⟩:=hOw.freeze (HK.O.below (Qn _) dH) (fun b hb=>Ri.O b hb);unfold Oper.wp;simp[go_sem,ev,fG,aB,Oper.upon];refine(Cy.O J7 _ (hx7.keep HK.O (Qn _)) Ip w' o6).mono ?_;rintro r4 w4 ⟨rfl,aM⟩;exact hK _ _ ⟨x,iF Q8 ha rfl aV,hC.step (dH.trans (aM.mono dH.size)) (fun q=>q.elim (fun e=>absurd e (by decide)) (fun⟨_,q⟩=>q.below aM)) (fun _=>trivial) (fun _=>trivial) (fun _=>trivial)⟩
   all_goals
    unfold Oper.wp;first
    |(simp[go_sem,ev,fG,aB,Oper.upon,c6];exact hK _ _ ⟨x,iF Q8 ha rfl aV,hC.pure (by decide)⟩)
    |(simp[go_sem,ev,fG,Oper.upon,c6];exact hK _ _ ⟨x,iF Q8 ha rfl aV,hC.pure (by decide)⟩)
  ·rintro x s' a' wR gH ha hC;rw[vB _ _ _ _ (fun i hi=>by rw[Nat.zero_add];exact gH i (by simpa using hi))]at ha;subst ha;simp only[dZ,Act.put,List.setIfInBounds_toArray,List.set_cons_succ,List.set_cons_zero];have av:=lW.trans (hC.off.mono lW.size);replace c4:=dh hC.off C4.O;replace c5:=dh hC.off C5.O;clear hC gH c0 c1 c2 c3 c6 C4 C5 Cy bB HK Ri;by_cases he:er=0
   ·subst he;by_cases hl:(ct.length:Int)=e.size
    ·have j1:((ct.length:Int) !=e.size)=false:=by simpa using hl
     have tX:=Qh (fun b w hc=>Xqw b 0 1 ct (by omega) w hc);obtain⟨bb,hd⟩:∃bb,(!(dM ct==e.aj))=bb:=⟨_,rfl⟩;have Rf:=Qh hd;have Hl:=Qh hl;clear hl;go_wp2_with fail
     refine uW (X:=Nat) (UM ct ct.length w.heap.size e.size (dM ct) e.aj bb) (Bq wR 7 225 226 227 (fun x w=>w.cell? ⟨x,0,none⟩=some (S ct)∧x<w.heap.size) (fun _ _=>True) (fun _ _=>True) (fun _ _=>True)) (by kernel_rfl) (by kernel_rfl) ?_ ?_ ?_
     ·exact⟨0,Bq.start _ _⟩
     ·rintro x s' a' w' i eU gI ha hC hi;obtain⟨aV,oi,eX,aB⟩:=mem_ready.1 hi;have ev:=zC Q9 ha;rcases i with _|_|_|_|_|_|_|_|_|_|_|_|_|i
      rotate_left 13
      ·simp at eX
      all_goals
       have fZ:=eX;simp at eX;subst eX;simp[Region.binds]at aB;have dH:=hC.off;have c4:=dh dH c4;have c5:=dh dH c5;refine wpOp_step fZ (fun K' hK=> ?_);first|rw[if_pos (by rfl)]|rw[if_pos (by unfold Region.wanted;dsimp only;rw[xw (j:=5) (t:=27) (b:=false) (by rfl) (by simp[ev,fG,aB])];rfl)]
      rotate_left 7
      ·unfold Oper.wp;simp[go_sem,ev,fG,aB,Oper.upon,c4,c5,j1,hd];have ha:=ha.trans (NM (L:=UM ct ct.length w.heap.size e.size (dM ct) e.aj bb x) (M:=UM ct ct.length w.heap.size e.size (dM ct) e.aj bb w'.heap.size) [7] rfl (fun j bZ=>by
        rcases j with _|_|_|_|_|_|_|_|_|_|_|_|_|j<;>first|rfl|(exact absurd (by decide) bZ)|simp) (List.forall_mem_cons.2 ⟨Cb aV,List.forall_mem_nil _⟩))
       exact hK _ _ ⟨w'.heap.size,iF Q9 ha rfl aV,hC.step (dH.trans (((Qb _ _).alloc (Qn _) _).mono dH.size)) (fun _=>⟨by rw[World.cell?_alloc_new];rfl,by simp⟩) (fun _=>trivial) (fun _=>trivial) (fun _=>trivial)⟩
      ·have yO:=hC.f1 (by first|simpa using aB|simp[aB]);unfold Oper.wp;simp[go_sem,ev,fG,aB,Oper.upon];refine(tX.O x w' yO.1).mono ?_;rintro r4 w4 ⟨rfl,aM⟩;exact hK _ _ ⟨x,iF Q9 ha rfl aV,hC.step (dH.trans (aM.mono dH.size)) (fun q=>q.elim (fun e=>absurd e (by decide)) (fun⟨_,q⟩=>⟨dh aM q.1,Nat.lt_of_lt_of_le q.2 aM.size⟩)) (fun _=>trivial) (fun _=>trivial) (fun _=>trivial)⟩
      all_goals
       unfold Oper.wp;first
       |(simp[go_sem,ev,fG,aB,Oper.upon,c4,c5,j1,hd];exact hK _ _ ⟨x,iF Q9 ha rfl aV,hC.pure (by decide)⟩)
       |(simp[go_sem,ev,fG,Oper.upon,c4,c5,j1,hd];exact hK _ _ ⟨x,iF Q9 ha rfl aV,hC.pure (by decide)⟩)
     ·rintro x s' a' w2 gH ha hC;rw[vB _ _ _ _ (fun i hi=>by rw[Nat.zero_add];exact gH i (by simpa using hi))]at ha;subst ha;simp only[dZ,Act.put,List.setIfInBounds_toArray,List.set_cons_succ,List.set_cons_zero];have J9:=Qh (av.trans (hC.off.mono av.size));clear hd av;cases bb with
      |true=>
       have bZ:dM ct≠e.aj:=by simpa using Rf.O
       have Hn:=Qh (show N=([],5) by rw[←HN.O];unfold sN;rw[if_neg (by simp),if_pos (.inr bZ)]);clear bZ;go_wp2;go_ret2;rw[Hn.O];exact⟨rfl,J9.O⟩
      |false=>
       have bZ:dM ct=e.aj:=by simpa using Rf.O
       have Hn:=Qh (show N=(ct,0) by rw[←HN.O];unfold sN;rw[if_neg (by simp),if_neg (by intro q;rcases q with q|q;exact q Hl.O;exact q bZ)]);clear bZ;go_wp2;go_ret2;rw[Hn.O];exact⟨rfl,J9.O⟩
    ·have j1:((ct.length:Int) !=e.size)=true:=by simpa using hl
     have Hn:=Qh (show N=([],5) by rw[←HN.O];unfold sN;rw[if_neg (by simp),if_pos (.inl hl)]);clear hl;have g4:=cell_regrown c4;go_wp2_with fail
     refine wp_region_quiet_below (by kernel_rfl) (by kernel_rfl) ?_;repeat(first|go_big_quiet_step (fail)|refine BigFrame.wpQuiet_skip (by rfl) ?_)
     refine wpQuiet_nil ?_;intro w2 bg;have aF:Below wR.heap.size wR w2:=by
      obtain⟨pq,rfl⟩:=bg;exact below_regrown _ _ _
     clear bg;go_wp2;go_ret2;rw[Hn.O];exact⟨rfl,av.trans (aF.mono av.size)⟩
   ·have j1:(er !=0)=true:=by simpa using he
    have Hn:=Qh (show N=([],er) by rw[←HN.O];unfold sN;rw[if_pos he]);clear he;go_wp2;go_ret2;rw[Hn.O];exact⟨rfl,av⟩
 ·rw[Y1 hk];have k0:(e.ai !=1)=true:=by simpa using hk
  clear hk;go_enter Tryz.func22,Tryz.ntmps22
  go_wp2;go_ret2;exact⟨rfl,lW⟩
