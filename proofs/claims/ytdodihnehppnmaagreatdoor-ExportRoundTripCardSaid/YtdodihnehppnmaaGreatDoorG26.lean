/- Lemmas for the claim's theorem;conditions: as each says. -/
import Derived.Test.YtdodihnehppnmaaGreatDoorG25
import Derived.Lib.AppendStr
import Derived.Lib.AppendZeros
import Derived.Laws.BytesArg
set_option maxHeartbeats 0
set_option maxRecDepth 100000
set_option linter.all false
namespace Go.Proofs.YtdodihnehppnmaaGreatDoor
open Go.RowKit
variable{W:World}{I:IH}{B:Nat}{s:ae}{la:Nat}{fin:Value→World→Prop}{x v:Value}{w:World}
def ints(s:ae):List Int:=s.map fun b=>(b.toNat:Int)
def Lf(s:ae):List Value:=s.map fun b=> .int .u8 (b.toNat:Int)
theorem NN(s:ae):(ints s).length=s.length:=by simp[ints]
theorem Xp4(s p:ae):ints (s++p)=ints s++ints p:=by simp[ints]
theorem Xz0(s:ae):Lib.strCells ⟨s.toArray⟩=Lf s:=by simp[Lib.strCells,Lf]
theorem Xxr(I:IH)(s:ae):bR tB I (Lf s) (ints s):=by
 refine⟨by simp[Lf,ints,tB,Ty.flat],fun i hi=>⟨[.int .u8 (ints s)[i]],rfl,fun j u hu=> ?_⟩⟩;have hj:j=0:=by have:=(List.getElem?_eq_some_iff.1 hu).1;simp at this;exact this
 subst hj;have Rw:i<s.length:=by rw[NN]at hi;exact hi
 simp at hu;subst hu;show(Lf s)[i*1+0]?=_;simp[Lf,ints,Rw]
theorem YD(s:ae):(⟨s.toArray⟩:ByteArray).size=s.length:=by show s.toArray.size=_;simp
theorem Xh4(p:ae)(h:aM tB 5 I W B v (ints s))(hB:B≤W.heap.size)(hl:s.length+p.length≤1000000):
 ∃v' w',(∀ty,(Builtin.append_ #[75,9] ty #[v,S p]).run Tryz.prog W= .ok v' w')∧aM tB 5 I w' B v' (ints (s++p))∧W.grownBy w' v.ownBlock:=by
 obtain⟨i,h1,h2,h3,h4⟩:=info_parts Tf;obtain⟨xs,k1,k2⟩:=h;have e:(⟨p.toArray⟩:ByteArray).size=p.length:=YD p;obtain⟨v',w',hr,bJ,hg,_⟩:=Lib.run_append_own_string (P:=Tryz.prog) W B 75 9 0 5 i Tryz.underlying75 Tryz.underlying9 h1 h2 h3 h4 v (ints s).length xs k1 ⟨p.toArray⟩ (by rw[e,NN];unfold maxLen;omega) (by rw[e,NN];omega) hB;refine⟨v',w',fun ty=>hr,⟨xs++Lf p,?_,?_⟩,hg⟩
 ·rw[Xz0,e]at bJ;rw[Xp4,List.length_append,NN p];exact bJ
 ·rw[Xp4];exact k2.append (Xxr I p)
theorem Xny(q:Nat):Builtin.zeroCells (Value.int .u8 0).cells q=((⟨(List.replicate q (0:UInt8)).toArray⟩:ByteArray).data.map fun b=>Value.int .u8 b.toNat):=by
 apply Array.ext
 ·rw[size_zeroCells];show q*1=_;simp
 ·intro i h1 h2;show((Array.range (q*1)).map fun i=>(#[Value.int .u8 0]:Array Value)[i%1]!)[i]'h1=_;simp[Nat.mod_one]
theorem Xnx(q:Nat)(w':World):(Builtin.firstCells 1 q (.string ⟨(List.replicate q (0:UInt8)).toArray⟩)).run Tryz.prog w'= .ok (Builtin.zeroCells (Value.int .u8 0).cells q) w':=by
 have hf:=Lib.run_firstCells_string (P:=Tryz.prog) w' 1 ⟨(List.replicate q (0:UInt8)).toArray⟩;rw[YD,List.length_replicate]at hf;rw[hf,Xny];simp[Lib.strCells]
theorem Xkt(t tn tu ty e:TypeId)(i:TypeInfo)(kn kq:IntKind)(ht:Tryz.prog.underlying t=some (.slice e))(Oo:Tryz.prog.underlying tn=some (.int kn))(UZ:Tryz.prog.underlying tu=some .string)(hi:Tryz.prog.info? e=some i)
 (hz:i.zero=some (.int .u8 0)) (hs:i.size=1) (hb:i.bytes=1) (ao:Option Addr) (n cap q:Nat) (hl:n+q≤1000000) (Z:ByteArray) (e1:Z.size=q)
 (f1:∀w',(Builtin.firstCells 1 q (.string Z)).run Tryz.prog w'= .ok (Builtin.zeroCells (Value.int .u8 0).cells q) w'):
 (Builtin.append_ #[t,tn] ty #[.slice ao n cap,.int kq q]).run Tryz.prog W=(Builtin.append_ #[t,tu] ty #[.slice ao n cap,.string Z]).run Tryz.prog W:=by
 have hw:IntKind.i64.wrap (q:Int)=q:=by rw[IntKind.wrap_i64];omega
 have n1:¬((q:Int)<0):=by omega
 have n2:¬(281474976710656<(q:Int)):=by omega
 have n3:¬(9223372036854775807<((n:Int)+(q:Int))):=by omega
 by_cases pu:n+q≤cap
 ·by_cases hq:q=0
  ·subst hq;have g3:IntKind.i64.wrap 0=0:=rfl;have g4:Builtin.zeroCells (Value.int .u8 0).cells 0=#[]:=Array.eq_empty_of_size_eq_zero (by rw[size_zeroCells];simp);have g5:n≤cap:=pu;simp[Builtin.append_,run_underlying ht,run_underlying Oo,run_underlying UZ,sizeOf,typeInfo,zeroValue,hi,hz,hs,hb,Builtin.lenOf,e1,f1,g3,g4,g5,asInt,asIntOf,Question.forced]
  ·simp[Builtin.append_,run_underlying ht,run_underlying Oo,run_underlying UZ,sizeOf,typeInfo,zeroValue,hi,hz,hs,hb,Builtin.lenOf,e1,f1,pu,asInt,asIntOf,Question.forced,hw,n1,n2,hq]
 ·have nk:¬(281474976710656<Builtin.nextslicecap (n+q) cap):=by
   have:=growslice_fits (need:=n+q) (old:=cap) (bytes:=1) (by omega) (by omega);omega
  by_cases hq:q=0
  ·subst hq;have g3:IntKind.i64.wrap 0=0:=rfl;have g4:Builtin.zeroCells (Value.int .u8 0).cells 0=#[]:=Array.eq_empty_of_size_eq_zero (by rw[size_zeroCells];simp);have g5:¬n≤cap:=pu;have g6:¬(281474976710656<Builtin.nextslicecap n cap):=nk;have g7:¬(9223372036854775807<(n:Int)):=by omega
   simp[Builtin.append_,run_underlying ht,run_underlying Oo,run_underlying UZ,sizeOf,typeInfo,zeroValue,hi,hz,hs,hb,Builtin.lenOf,e1,f1,g3,g4,g5,g6,g7,asInt,asIntOf,Question.forced]
  ·simp[Builtin.append_,run_underlying ht,run_underlying Oo,run_underlying UZ,sizeOf,typeInfo,zeroValue,hi,hz,hs,hb,Builtin.lenOf,e1,f1,pu,asInt,asIntOf,Question.forced,hw,n1,n2,hq,nk,n3]
theorem Xku{ao:Option Addr}{n cap:Nat}(q:Nat)(h:aM tB 5 I W B (.slice ao n cap) (ints s))(hB:B≤W.heap.size)(hn:n=s.length)(hl:s.length+q≤1000000):
 ∃v' w',(∀ty,(Builtin.append_ #[75,3] ty #[.slice ao n cap,.int .i64 q]).run Tryz.prog W= .ok v' w')∧aM tB 5 I w' B v' (ints (s++List.replicate q 0))∧W.grownBy w' (Value.slice ao n cap).ownBlock:=by
 obtain⟨v',w',hr,h2,h3⟩:=Xh4 (List.replicate q 0) h hB (by simpa using hl);obtain⟨i,h1,k2,k3,k4⟩:=info_parts Tf;exact⟨v',w',fun ty=>by
  rw[Xkt 75 3 9 ty 5 i .i64 .i64 Tryz.underlying75 Tryz.underlying3 Tryz.underlying9 h1 k2 k3 k4 ao n cap q (by omega) ⟨(List.replicate q (0:UInt8)).toArray⟩ (by rw[YD];simp) (fun w'=>Xnx q w')];exact hr ty,h2,h3⟩
theorem Xu8(h:aM tB 5 I W B v (ints s)):(convert 75 9 v).run Tryz.prog W= .ok (S s) W:=by
 by_cases h0:0<s.length
 ·rw[V9 Tryz.underlying75 Tryz.underlying5 Tryz.underlying9 W h (by rw[NN];exact h0)];have e:(ints s).map (fun x=>UInt8.ofNat x.toNat)=s:=by
   unfold ints;rw[List.map_map];refine(List.map_congr_left fun b _=> ?_).trans (List.map_id s);simp
  rw[e]
 ·have hs:s=[]:=List.eq_nil_of_length_eq_zero (by omega);subst hs;obtain⟨xs,⟨_,hc⟩,_⟩:=h;rcases hc with⟨rfl,_⟩|⟨g,cap,cur,rfl,_,hg,_,_,_,ht⟩
  ·exact(run_convert_bytes_nil (P:=Tryz.prog) W _ 5 Tryz.underlying75 Tryz.underlying5 0 0 _ Tryz.underlying9).trans rfl
  ·rw[run_convert_bytes_string _ _ _ 5 _ _ _ Tryz.underlying75 Tryz.underlying5 Tryz.underlying9];have:=run_bytesToString (P:=Tryz.prog) W ⟨g,0,none⟩ 0 cap [] (by
    have hc:=run_loadCells_list (P:=Tryz.prog) W ⟨g,0,none⟩ [] (fun j u hu=>by cases hu);simpa using hc)
   exact this.trans rfl
structure FJ (W:World) (la:Nat) (fin:Value→World→Prop) (x:Value) (s:Array Bool) (w:World):Prop where
 fA:s.getD la false=false→Below W.heap.size W w
 fin:s.getD la false=true→fin x w
theorem FJ.start(n:Nat)(x:Value):FJ W la fin x (Array.replicate n false) {W with drawn:=W.drawn+1}:=
 ⟨fun _=>(Qb _ _).drew,fun h=>(by rw[AR]at h;cases h)⟩
theorem FJ.step{s:Array Bool}(h:FJ W la fin x s w){i:Nat}(hi:i≠la):FJ W la fin x (s.setIfInBounds i true) w:=
 ⟨fun q=>h.fA (by rwa[getD_set_ne false hi]at q),fun q=>h.fin (by rwa[getD_set_ne false hi]at q)⟩
theorem FJ.app{s:Array Bool}(bO:s.getD la true=false)(hf:fin x w):FJ W la fin x (s.setIfInBounds la true) w:=by
 have e:=IQ (CP bO);exact⟨fun q=>(by rw[e]at q;cases q),fun _=>hf⟩
abbrev NP(vo:Value)(bs os ls cs:Nat)(nn:Nat)(zs:Int)(m ou:Nat)(u:ae)(r q:Nat)(p:ae)(x:Value):List (Option Tmp×Value):=
 [(some 82,vo),(some 83,.slice (some ⟨bs,os,none⟩) ls cs),(some 84,.pointer (some ⟨nn,0,none⟩)),(some 85,.int .i64 zs),(some 86,.int .i64 (m:Int)),(some 87,.pointer (some ⟨bs,ou,none⟩)),(some 88,S u),(some 89,.pointer (some ⟨nn,1,none⟩)),(some 90,.int .i64 (r:Int)),(some 91,.pointer (some ⟨nn,1,none⟩)),(some 92,.int .i64 (r:Int)),(some 93,.pointer (some ⟨nn,2,none⟩)),(some 94,.int .i64 (q:Int)),(some 95,.int .i64 ((r:Int)+(q:Int))),(some 96,S p),(some 97,x),(some 6,x)]
theorem oM{vo:Value}{bs os ls cs:Nat}{nn:Nat}{zs:Int}{m ou:Nat}{u:ae}{r q:Nat}{p:ae}:dL (NP vo bs os ls cs nn zs m ou u r q p x):=by
 unfold dL;simp
theorem X0r(I:IH)(vs vl:Value)(st:List ae)(l:List Xt)(Db:bf gq I vs st)(U0:bf mE I vl l)(fO:∀s∈st,s.length≤9223372036854775807)(w:World)(hw:Ok I w):
 Calls Tryz.prog 35 #[vs,vl] w fun e w'=>e= .returned (.tuple #[S (qF st l).1,.int .i64 (qF st l).2])∧Below w.heap.size w w':=by
 have UQ:=Db.dh;have Cz:=U0.dh;obtain⟨as0,cs0,rfl,_,_,_⟩:=id Db;obtain⟨al,cl,rfl,_,_,_⟩:=id U0;have hIf:∀b,w.heap.size≤b→I b=none:=fun b hb=>hw.fresh hb;have DF:=Qh Db;have Hvl:=Qh U0;have bB:=Qh fO;obtain⟨N,hN⟩:∃N,qF st l=N:=⟨_,rfl⟩;have HN:=Qh (show qE st (l.drop 0) []=N from hN);rw[hN];clear Db U0 fO hN;go_enter Tryz.func35,Tryz.ntmps35
 go_wp2_with fail
 go_loopw [6,12] (fun s6 s12 wr=> ∃(k:Nat) (out:ae),k≤l.length∧s12= .int .i64 k∧aM tB 5 I wr w.heap.size s6 (ints out)∧out.length≤65536∧qE st (l.drop k) out=N∧Below w.heap.size w wr) (fun _ i _=>l.length-(intOf i).toNat)
 case atStart=>exact⟨0,[],Nat.zero_le _,rfl,aM.nil _ _ _ _ _,by simp,HN.O,Qb _ _⟩
 case round=>
  clear HN;obtain⟨k,out,hk,rfl,bJ,EG,hr,hb⟩:=hrel;have Hr:=Qh hr;have gK:Ok I wr:=hw.below (Qn _) hb;clear hr;obtain⟨ao,co,rfl⟩:=Xyp bJ;rw[NN]at bJ ⊢;have bD:=Qh bJ;clear bJ;by_cases hlt:k<l.length
  ·obtain⟨x,b,off,cap',bN,di,x0,x1,x2⟩:=wo Hvl.O gK k hlt;cases di;have Hg:=Qh (Xt4 hlt bN Hr.O);clear bN Hr;obtain⟨zs,zo,zn⟩:=x;dsimp only at x0 x1 x2;have m65:IntKind.i64.wrap (65536-(out.length:Int))=65536-(out.length:Int):=IntWalk.i64_in _ (by omega);by_cases g1:zn<0
   ·have Hn:=Qh (show N=([],2) by have:=Hg.O;rw[if_pos (QG (x:=⟨zs,zo,zn⟩) (.inl g1))]at this;exact this.symm);have d1:decide (zn<0)=true:=Qt g1;clear g1;have y0:(wr.alloc (.cells #[.int .i64 (zs),.int .i64 (zo),.int .i64 (zn)] 134)).cell? ⟨wr.heap.size,0,none⟩=some (.int .i64 (zs)):=by simp
    have y1:(wr.alloc (.cells #[.int .i64 (zs),.int .i64 (zo),.int .i64 (zn)] 134)).cell? ⟨wr.heap.size,1,none⟩=some (.int .i64 (zo)):=by simp
    have y2:(wr.alloc (.cells #[.int .i64 (zs),.int .i64 (zo),.int .i64 (zn)] 134)).cell? ⟨wr.heap.size,2,none⟩=some (.int .i64 (zn)):=by simp
    have au:=hb.alloc hb.size (.cells #[.int .i64 (zs),.int .i64 (zo),.int .i64 (zn)] 134);go_wp2;go_ret2;rw[Hn.O];exact⟨rfl,au⟩
   have d1:decide (zn<0)=false:=Qf g1;by_cases g2:zo<0
   ·have Hn:=Qh (show N=([],2) by have:=Hg.O;rw[if_pos (QG (x:=⟨zs,zo,zn⟩) (.inr (.inl g2)))]at this;exact this.symm);have d2:decide (zo<0)=true:=Qt g2;clear g1 g2;have y0:(wr.alloc (.cells #[.int .i64 (zs),.int .i64 (zo),.int .i64 (zn)] 134)).cell? ⟨wr.heap.size,0,none⟩=some (.int .i64 (zs)):=by simp
    have y1:(wr.alloc (.cells #[.int .i64 (zs),.int .i64 (zo),.int .i64 (zn)] 134)).cell? ⟨wr.heap.size,1,none⟩=some (.int .i64 (zo)):=by simp
    have y2:(wr.alloc (.cells #[.int .i64 (zs),.int .i64 (zo),.int .i64 (zn)] 134)).cell? ⟨wr.heap.size,2,none⟩=some (.int .i64 (zn)):=by simp
    have au:=hb.alloc hb.size (.cells #[.int .i64 (zs),.int .i64 (zo),.int .i64 (zn)] 134);go_wp2;go_ret2;rw[Hn.O];exact⟨rfl,au⟩
   have d2:decide (zo<0)=false:=Qf g2;by_cases g3:zs<0
   ·have Hn:=Qh (show N=([],2) by have:=Hg.O;rw[if_pos (QG (x:=⟨zs,zo,zn⟩) (.inr (.inr (.inl g3))))]at this;exact this.symm);have d3:decide (zs<0)=true:=Qt g3;clear g1 g2 g3;have y0:(wr.alloc (.cells #[.int .i64 (zs),.int .i64 (zo),.int .i64 (zn)] 134)).cell? ⟨wr.heap.size,0,none⟩=some (.int .i64 (zs)):=by simp
    have y1:(wr.alloc (.cells #[.int .i64 (zs),.int .i64 (zo),.int .i64 (zn)] 134)).cell? ⟨wr.heap.size,1,none⟩=some (.int .i64 (zo)):=by simp
    have y2:(wr.alloc (.cells #[.int .i64 (zs),.int .i64 (zo),.int .i64 (zn)] 134)).cell? ⟨wr.heap.size,2,none⟩=some (.int .i64 (zn)):=by simp
    have au:=hb.alloc hb.size (.cells #[.int .i64 (zs),.int .i64 (zo),.int .i64 (zn)] 134);go_wp2;go_ret2;rw[Hn.O];exact⟨rfl,au⟩
   have d3:decide (zs<0)=false:=Qf g3;by_cases g4:(st.length:Int)<zs
   ·have Hn:=Qh (show N=([],2) by have:=Hg.O;rw[if_pos (QG (x:=⟨zs,zo,zn⟩) (.inr (.inr (.inr (.inl g4)))))]at this;exact this.symm);have d4:decide ((st.length:Int)<zs)=true:=Qt g4;clear g1 g2 g3 g4;have y0:(wr.alloc (.cells #[.int .i64 (zs),.int .i64 (zo),.int .i64 (zn)] 134)).cell? ⟨wr.heap.size,0,none⟩=some (.int .i64 (zs)):=by simp
    have y1:(wr.alloc (.cells #[.int .i64 (zs),.int .i64 (zo),.int .i64 (zn)] 134)).cell? ⟨wr.heap.size,1,none⟩=some (.int .i64 (zo)):=by simp
    have y2:(wr.alloc (.cells #[.int .i64 (zs),.int .i64 (zo),.int .i64 (zn)] 134)).cell? ⟨wr.heap.size,2,none⟩=some (.int .i64 (zn)):=by simp
    have au:=hb.alloc hb.size (.cells #[.int .i64 (zs),.int .i64 (zo),.int .i64 (zn)] 134);go_wp2;go_ret2;rw[Hn.O];exact⟨rfl,au⟩
   have d4:decide ((st.length:Int)<zs)=false:=Qf g4;have Ao:(0:Int)≤zn:=by omega
   by_cases p8:zs=0
   ·have e1:(zs==0)=true:=by simpa using p8
    have e2:decide (0<zs)=false:=Qf (by omega);by_cases Mv:zo=0;case neg=>
     have Hn:=Qh (show N=([],2) by have:=Hg.O;rw[if_pos (QG (x:=⟨zs,zo,zn⟩) (.inr (.inr (.inr (.inr ⟨p8,Mv⟩)))))]at this;exact this.symm);have e3:(zo !=0)=true:=by simpa using Mv
     clear g1 g2 g3 g4 p8 Mv;have y0:(wr.alloc (.cells #[.int .i64 (zs),.int .i64 (zo),.int .i64 (zn)] 134)).cell? ⟨wr.heap.size,0,none⟩=some (.int .i64 (zs)):=by simp
     have y1:(wr.alloc (.cells #[.int .i64 (zs),.int .i64 (zo),.int .i64 (zn)] 134)).cell? ⟨wr.heap.size,1,none⟩=some (.int .i64 (zo)):=by simp
     have y2:(wr.alloc (.cells #[.int .i64 (zs),.int .i64 (zo),.int .i64 (zn)] 134)).cell? ⟨wr.heap.size,2,none⟩=some (.int .i64 (zn)):=by simp
     have au:=hb.alloc hb.size (.cells #[.int .i64 (zs),.int .i64 (zo),.int .i64 (zn)] 134);go_wp2;go_ret2;rw[Hn.O];exact⟨rfl,au⟩
    have e3:(zo !=0)=false:=by simpa using Mv
    have BX:=Qh (show(if 65536-(out.length:Int)<zn then(([],6):ae×Int)else qE st (l.drop (k+1)) (out++List.replicate zn.toNat 0))=N by
     have h:=Hg.O;dsimp only at h;rw[if_neg (by rw[Xqd (x:=⟨zs,zo,zn⟩) g1 g2 g3 g4 (fun h=>h.2 Mv)];simp),if_neg (by omega),if_pos p8]at h;exact h)
    by_cases pU:65536-(out.length:Int)<zn
    ·have Hn:=Qh (show N=([],6) by have:=BX.O;rw[if_pos pU]at this;exact this.symm);have d5:decide (65536-(out.length:Int)<zn)=true:=Qt pU;clear g1 g2 g3 g4 p8 Mv pU Hg BX;have y0:(wr.alloc (.cells #[.int .i64 (zs),.int .i64 (zo),.int .i64 (zn)] 134)).cell? ⟨wr.heap.size,0,none⟩=some (.int .i64 (zs)):=by simp
     have y1:(wr.alloc (.cells #[.int .i64 (zs),.int .i64 (zo),.int .i64 (zn)] 134)).cell? ⟨wr.heap.size,1,none⟩=some (.int .i64 (zo)):=by simp
     have y2:(wr.alloc (.cells #[.int .i64 (zs),.int .i64 (zo),.int .i64 (zn)] 134)).cell? ⟨wr.heap.size,2,none⟩=some (.int .i64 (zn)):=by simp
     have au:=hb.alloc hb.size (.cells #[.int .i64 (zs),.int .i64 (zo),.int .i64 (zn)] 134);go_wp2;go_ret2;rw[Hn.O];exact⟨rfl,au⟩
    ·obtain⟨q,rfl⟩:∃q:Nat,zn=(q:Int):=⟨zn.toNat,by omega⟩;have Vi:q+out.length≤65536:=by omega
     have Hn:=Qh (show qE st (l.drop (k+1)) (out++List.replicate q 0)=N by have:=BX.O;rw[if_neg pU,Int.toNat_natCast]at this;exact this);have d5:decide (65536-(out.length:Int)<(q:Int))=false:=Qf (by omega);clear g1 g2 g3 g4 p8 Mv pU Hg BX;have y0:(wr.alloc (.cells #[.int .i64 (zs),.int .i64 (zo),.int .i64 ((q:Int))] 134)).cell? ⟨wr.heap.size,0,none⟩=some (.int .i64 (zs)):=by simp
     have y1:(wr.alloc (.cells #[.int .i64 (zs),.int .i64 (zo),.int .i64 ((q:Int))] 134)).cell? ⟨wr.heap.size,1,none⟩=some (.int .i64 (zo)):=by simp
     have y2:(wr.alloc (.cells #[.int .i64 (zs),.int .i64 (zo),.int .i64 ((q:Int))] 134)).cell? ⟨wr.heap.size,2,none⟩=some (.int .i64 ((q:Int))):=by simp
     have au:=hb.alloc hb.size (.cells #[.int .i64 (zs),.int .i64 (zo),.int .i64 ((q:Int))] 134);have QH:=Qh (bD.O.alloc (.cells #[.int .i64 zs,.int .i64 zo,.int .i64 (q:Int)] 134));obtain⟨v9,w9,DX,Ec,fw⟩:=Xku q QH.O au.size rfl (by omega);have YE:=Qh Ec;have iq:=Below.own au fw QH.O (Qn _) au.size;clear Ec fw;go_wp2_with (at_builtin;refine Lib.wpList_append_run _ rfl _ _ _ _ rfl _ _ rfl rfl _ _ (DX _) ?_)
     go_wp2;go_roundw;case rel=>exact⟨k+1,_,by omega,by go_num,YE.O,by simp;omega,Hn.O,iq⟩
     case measure=>simp[intOf];omega
   ·obtain⟨m,rfl⟩:∃m:Nat,zs=(m:Int)+1:=⟨(zs-1).toNat,by omega⟩;have hms:m<st.length:=by omega
    obtain⟨u,bs,os,cs,zY,di,u0⟩:=Fb DF.O (gK.alloc (.cells #[.int .i64 ((m:Int)+1),.int .i64 zo,.int .i64 zn] 134)) m hms;cases di;have IP:=bB.O u (by rw[←zY];exact List.getElem_mem hms);have hsu:pK st ⟨(m:Int)+1,zo,zn⟩=u:=by
     show st.getD (((m:Int)+1-1).toNat) []=u;rw[show((m:Int)+1-1).toNat=m by omega];simp[List.getD,hms,zY]
    have e1:(((m:Int)+1)==0)=false:=by simpa using p8
    have e2:decide ((0:Int)<(m:Int)+1)=true:=Qt (by omega);have i1:(m:Int)<st.length:=by omega
    have m1:IntKind.i64.wrap (m:Int)=(m:Int):=IntWalk.i64_in _ (by omega);have j1:(0:Int)≤(m:Int):=by omega
    have zJ:=Qh (show(if 0<(m:Int)+1∧((u.length:Int)<zo∨(u.length:Int)-zo<zn)then(([],2):ae×Int)else if 65536-(out.length:Int)<zn then([],6)else qE st (l.drop (k+1)) (out++(u.drop zo.toNat).take zn.toNat))=N by
     have h:=Hg.O;dsimp only at h;rw[if_neg (by rw[Xqd (x:=⟨(m:Int)+1,zo,zn⟩) g1 g2 g3 g4 (fun h=>p8 h.1)];simp),hsu]at h;rw[←h];simp only[if_neg p8])
    clear Hg hsu zY;by_cases CB:(u.length:Int)<zo
    ·have Hn:=Qh (show N=([],2) by have:=zJ.O;rw[if_pos ⟨by omega,.inl CB⟩]at this;exact this.symm);have d6:decide ((u.length:Int)<zo)=true:=Qt CB;clear g1 g2 g3 g4 p8 CB zJ;have y0:(wr.alloc (.cells #[.int .i64 ((m:Int)+1),.int .i64 (zo),.int .i64 (zn)] 134)).cell? ⟨wr.heap.size,0,none⟩=some (.int .i64 ((m:Int)+1)):=by simp
     have y1:(wr.alloc (.cells #[.int .i64 ((m:Int)+1),.int .i64 (zo),.int .i64 (zn)] 134)).cell? ⟨wr.heap.size,1,none⟩=some (.int .i64 (zo)):=by simp
     have y2:(wr.alloc (.cells #[.int .i64 ((m:Int)+1),.int .i64 (zo),.int .i64 (zn)] 134)).cell? ⟨wr.heap.size,2,none⟩=some (.int .i64 (zn)):=by simp
     have au:=hb.alloc hb.size (.cells #[.int .i64 ((m:Int)+1),.int .i64 (zo),.int .i64 (zn)] 134);go_wp2;go_ret2;rw[Hn.O];exact⟨rfl,au⟩
    have d6:decide ((u.length:Int)<zo)=false:=Qf CB;have m8:IntKind.i64.wrap ((u.length:Int)-zo)=(u.length:Int)-zo:=IntWalk.i64_in _ (by omega);by_cases lW:(u.length:Int)-zo<zn
    ·have Hn:=Qh (show N=([],2) by have:=zJ.O;rw[if_pos ⟨by omega,.inr lW⟩]at this;exact this.symm);have d7:decide ((u.length:Int)-zo<zn)=true:=Qt lW;clear g1 g2 g3 g4 p8 CB lW zJ;have y0:(wr.alloc (.cells #[.int .i64 ((m:Int)+1),.int .i64 (zo),.int .i64 (zn)] 134)).cell? ⟨wr.heap.size,0,none⟩=some (.int .i64 ((m:Int)+1)):=by simp
     have y1:(wr.alloc (.cells #[.int .i64 ((m:Int)+1),.int .i64 (zo),.int .i64 (zn)] 134)).cell? ⟨wr.heap.size,1,none⟩=some (.int .i64 (zo)):=by simp
     have y2:(wr.alloc (.cells #[.int .i64 ((m:Int)+1),.int .i64 (zo),.int .i64 (zn)] 134)).cell? ⟨wr.heap.size,2,none⟩=some (.int .i64 (zn)):=by simp
     have au:=hb.alloc hb.size (.cells #[.int .i64 ((m:Int)+1),.int .i64 (zo),.int .i64 (zn)] 134);go_wp2;go_ret2;rw[Hn.O];exact⟨rfl,au⟩
    have d7:decide ((u.length:Int)-zo<zn)=false:=Qf lW;have BX:=Qh (show(if 65536-(out.length:Int)<zn then(([],6):ae×Int)else qE st (l.drop (k+1)) (out++(u.drop zo.toNat).take zn.toNat))=N by
     have h:=zJ.O;rw[if_neg (by omega)]at h;exact h)
    by_cases pU:65536-(out.length:Int)<zn
    ·have Hn:=Qh (show N=([],6) by have:=BX.O;rw[if_pos pU]at this;exact this.symm);have d5:decide (65536-(out.length:Int)<zn)=true:=Qt pU;clear g1 g2 g3 g4 p8 CB lW pU zJ BX;have y0:(wr.alloc (.cells #[.int .i64 ((m:Int)+1),.int .i64 (zo),.int .i64 (zn)] 134)).cell? ⟨wr.heap.size,0,none⟩=some (.int .i64 ((m:Int)+1)):=by simp
     have y1:(wr.alloc (.cells #[.int .i64 ((m:Int)+1),.int .i64 (zo),.int .i64 (zn)] 134)).cell? ⟨wr.heap.size,1,none⟩=some (.int .i64 (zo)):=by simp
     have y2:(wr.alloc (.cells #[.int .i64 ((m:Int)+1),.int .i64 (zo),.int .i64 (zn)] 134)).cell? ⟨wr.heap.size,2,none⟩=some (.int .i64 (zn)):=by simp
     have au:=hb.alloc hb.size (.cells #[.int .i64 ((m:Int)+1),.int .i64 (zo),.int .i64 (zn)] 134);go_wp2;go_ret2;rw[Hn.O];exact⟨rfl,au⟩
    have d5:decide (65536-(out.length:Int)<zn)=false:=Qf (by omega);have hzr:0≤zo∧0≤zn∧zo+zn≤(u.length:Int)∧zn+(out.length:Int)≤65536:=by omega
    obtain⟨q,rfl⟩:∃q:Nat,zn=(q:Int):=⟨zn.toNat,by omega⟩;obtain⟨r,rfl⟩:∃r:Nat,zo=(r:Int):=⟨zo.toNat,by omega⟩;have Vi:q+out.length≤65536:=by omega
    have hrq:r+q≤u.length:=by omega
    have Hn:=Qh (show qE st (l.drop (k+1)) (out++(u.drop r).take q)=N by have:=BX.O;rw[if_neg pU,Int.toNat_natCast,Int.toNat_natCast]at this;exact this);have m7:IntKind.i64.wrap ((r:Int)+(q:Int))=(r:Int)+(q:Int):=IntWalk.i64_in _ (by omega);have i2:(0:Int)≤r:=by omega
    have sp:((r:Int)+(q:Int)).toNat-r=q:=by omega
    have i3:(r:Int)≤(r:Int)+q:=by omega
    have i4:(r:Int)+q≤u.length:=by omega
    clear g1 g2 g3 g4 p8 CB lW pU zJ BX hzr;have y0:(wr.alloc (.cells #[.int .i64 ((m:Int)+1),.int .i64 ((r:Int)),.int .i64 ((q:Int))] 134)).cell? ⟨wr.heap.size,0,none⟩=some (.int .i64 ((m:Int)+1)):=by simp
    have y1:(wr.alloc (.cells #[.int .i64 ((m:Int)+1),.int .i64 ((r:Int)),.int .i64 ((q:Int))] 134)).cell? ⟨wr.heap.size,1,none⟩=some (.int .i64 ((r:Int))):=by simp
    have y2:(wr.alloc (.cells #[.int .i64 ((m:Int)+1),.int .i64 ((r:Int)),.int .i64 ((q:Int))] 134)).cell? ⟨wr.heap.size,2,none⟩=some (.int .i64 ((q:Int))):=by simp
    have au:=hb.alloc hb.size (.cells #[.int .i64 ((m:Int)+1),.int .i64 ((r:Int)),.int .i64 ((q:Int))] 134);have QH:=Qh (bD.O.alloc (.cells #[.int .i64 ((m:Int)+1),.int .i64 (r:Int),.int .i64 (q:Int)] 134));go_wp2_with fail
    have zt:∀w',Below (wr.alloc (.cells #[.int .i64 ((m:Int)+1),.int .i64 (r:Int),.int .i64 (q:Int)] 134)).heap.size (wr.alloc (.cells #[.int .i64 ((m:Int)+1),.int .i64 (r:Int),.int .i64 (q:Int)] 134)) w'→
     ∃v9 w9,(∀ty,(Builtin.append_ #[75,9] ty #[.slice ao out.length co,S ((u.drop r).take q)]).run Tryz.prog w'= .ok v9 w9)∧aM tB 5 I w9 w.heap.size v9 (ints (out++(u.drop r).take q))∧Below w.heap.size w w9:=fun w' jY=>by
     have aD:=au.trans (jY.mono au.size);obtain⟨v9,w9,DX,Ec,fw⟩:=Xh4 ((u.drop r).take q) (QH.O.below jY) aD.size (by simp;omega);exact⟨v9,w9,DX,Ec,Below.own aD fw (QH.O.below jY) (Qn _) aD.size⟩
    refine BD (X:=Value) (NP ((.slice ao out.length co)) bs os st.length cs0 wr.heap.size (((m:Int)+1)) m ((os+m)) u r q (((u.drop r).take q))) (FJ (wr.alloc (.cells #[.int .i64 ((m:Int)+1),.int .i64 (r:Int),.int .i64 (q:Int)] 134)) 15 (fun v9 w9=>aM tB 5 I w9 w.heap.size v9 (ints (out++(u.drop r).take q))∧Below w.heap.size w w9)) (by kernel_rfl) (by kernel_rfl) ?_ ?_ ?_
    ·exact⟨undef,FJ.start _ _⟩
    ·rintro x s' a' w' i eU iK ha hC hi;obtain⟨bO,oi,jb,aG⟩:=mem_ready.1 hi;rcases i with _|_|_|_|_|_|_|_|_|_|_|_|_|_|_|_|_|i
     rotate_left 17
     ·simp at jb
     all_goals
      have iD:=jb;simp at jb;subst jb;simp[Region.binds]at aG
     ·have ha':=ha.trans (Tw (L:=NP ((.slice ao out.length co)) bs os st.length cs0 wr.heap.size (((m:Int)+1)) m ((os+m)) u r q (((u.drop r).take q)) x) (M:=(NP ((.slice ao out.length co)) bs os st.length cs0 wr.heap.size (((m:Int)+1)) m ((os+m)) u r q (((u.drop r).take q)) x).set 16 (none,undef)) [16] (by simp) (fun j cK=>by rw[List.getElem?_set_ne (fun e=>cK (by rw[←e];exact List.mem_singleton.2 rfl))]) (List.forall_mem_cons.2 ⟨Xmu (i:=0) iK (by kernel_rfl) bO,List.forall_mem_nil _⟩));have e6:a'.tmps[6]?.getD undef=(.slice ao out.length co):=qR ha' (by simp);have hl:s'.getD 15 false=false:=ry iK [0] (by kernel_rfl) (by rfl) bO;refine wpOp_step iD (fun K' hK=> ?_);rw[if_pos (by rfl)];unfold Oper.wp;simp[go_sem,e6,Oper.upon];exact hK _ _ ⟨x,jK (d:=some 82) (v:=(.slice ao out.length co)) oM ha rfl bO,hC.step (by decide)⟩
     ·have e0:a'.tmps[0]?.getD undef= .slice (some ⟨bs,os,none⟩) st.length cs0:=qR ha (by simp);have hl:s'.getD 15 false=false:=ry iK [14,6,5,1] (by kernel_rfl) (by rfl) bO;refine wpOp_step iD (fun K' hK=> ?_);rw[if_pos (by rfl)];unfold Oper.wp;simp[go_sem,e0,Oper.upon];exact hK _ _ ⟨x,jK (d:=some 83) (v:= .slice (some ⟨bs,os,none⟩) st.length cs0) oM ha rfl bO,hC.step (by decide)⟩
     ·have e8:a'.tmps[8]?.getD undef= .pointer (some ⟨wr.heap.size,0,none⟩):=qR ha (by simp);have hl:s'.getD 15 false=false:=ry iK [14,6,5,4,3,2] (by kernel_rfl) (by rfl) bO;refine wpOp_step iD (fun K' hK=> ?_);rw[if_pos (by rfl)];unfold Oper.wp;simp[go_sem,e8,Oper.upon];exact hK _ _ ⟨x,jK (d:=some 84) (v:= .pointer (some ⟨wr.heap.size,0,none⟩)) oM ha rfl bO,hC.step (by decide)⟩
     ·have e84:a'.tmps[84]?.getD undef= .pointer (some ⟨wr.heap.size,0,none⟩):=nO (i:=2) oM ha rfl (by first|simpa using aG|simp[aG]) (by simp);have hl:s'.getD 15 false=false:=ry iK [14,6,5,4,3] (by kernel_rfl) (by rfl) bO;have cq:=dQ (hC.fA hl) y0;refine wpOp_step iD (fun K' hK=> ?_);rw[if_pos (by rfl)];unfold Oper.wp;simp[go_sem,e84,cq,Oper.upon];exact hK _ _ ⟨x,jK (d:=some 85) (v:= .int .i64 ((m:Int)+1)) oM ha rfl bO,hC.step (by decide)⟩
     ·have e85:a'.tmps[85]?.getD undef= .int .i64 ((m:Int)+1):=nO (i:=3) oM ha rfl (by first|simpa using aG|simp[aG]) (by simp);have hl:s'.getD 15 false=false:=ry iK [14,6,5,4] (by kernel_rfl) (by rfl) bO;refine wpOp_step iD (fun K' hK=> ?_);rw[if_pos (by rfl)];unfold Oper.wp;simp[go_sem,e85,m1,Oper.upon];exact hK _ _ ⟨x,jK (d:=some 86) (v:= .int .i64 (m:Int)) oM ha rfl bO,hC.step (by decide)⟩
     ·have e83:a'.tmps[83]?.getD undef= .slice (some ⟨bs,os,none⟩) st.length cs0:=nO (i:=1) oM ha rfl (by first|simpa using aG|simp[aG]) (by simp);have e86:a'.tmps[86]?.getD undef= .int .i64 (m:Int):=nO (i:=4) oM ha rfl (by first|simpa using aG|simp[aG]) (by simp);have hl:s'.getD 15 false=false:=ry iK [14,6,5] (by kernel_rfl) (by rfl) bO;refine wpOp_step iD (fun K' hK=> ?_);rw[if_pos (by rfl)];unfold Oper.wp;simp[go_sem,e83,e86,i1,j1,Oper.upon];exact hK _ _ ⟨x,jK (d:=some 87) (v:= .pointer (some ⟨bs,(os+m),none⟩)) oM ha rfl bO,hC.step (by decide)⟩
     ·have e87:a'.tmps[87]?.getD undef= .pointer (some ⟨bs,(os+m),none⟩):=nO (i:=5) oM ha rfl (by first|simpa using aG|simp[aG]) (by simp);have hl:s'.getD 15 false=false:=ry iK [14,6] (by kernel_rfl) (by rfl) bO;have cq:=dQ (hC.fA hl) u0;refine wpOp_step iD (fun K' hK=> ?_);rw[if_pos (by rfl)];unfold Oper.wp;simp[go_sem,e87,cq,Oper.upon];exact hK _ _ ⟨x,jK (d:=some 88) (v:=S u) oM ha rfl bO,hC.step (by decide)⟩
     ·have e8:a'.tmps[8]?.getD undef= .pointer (some ⟨wr.heap.size,0,none⟩):=qR ha (by simp);have hl:s'.getD 15 false=false:=ry iK [14,8,7] (by kernel_rfl) (by rfl) bO;refine wpOp_step iD (fun K' hK=> ?_);rw[if_pos (by rfl)];unfold Oper.wp;simp[go_sem,e8,Oper.upon];exact hK _ _ ⟨x,jK (d:=some 89) (v:= .pointer (some ⟨wr.heap.size,1,none⟩)) oM ha rfl bO,hC.step (by decide)⟩
     ·have e89:a'.tmps[89]?.getD undef= .pointer (some ⟨wr.heap.size,1,none⟩):=nO (i:=7) oM ha rfl (by first|simpa using aG|simp[aG]) (by simp);have hl:s'.getD 15 false=false:=ry iK [14,8] (by kernel_rfl) (by rfl) bO;have cq:=dQ (hC.fA hl) y1;refine wpOp_step iD (fun K' hK=> ?_);rw[if_pos (by rfl)];unfold Oper.wp;simp[go_sem,e89,cq,Oper.upon];exact hK _ _ ⟨x,jK (d:=some 90) (v:= .int .i64 (r:Int)) oM ha rfl bO,hC.step (by decide)⟩
     ·have e8:a'.tmps[8]?.getD undef= .pointer (some ⟨wr.heap.size,0,none⟩):=qR ha (by simp);have hl:s'.getD 15 false=false:=ry iK [14,13,10,9] (by kernel_rfl) (by rfl) bO;refine wpOp_step iD (fun K' hK=> ?_);rw[if_pos (by rfl)];unfold Oper.wp;simp[go_sem,e8,Oper.upon];exact hK _ _ ⟨x,jK (d:=some 91) (v:= .pointer (some ⟨wr.heap.size,1,none⟩)) oM ha rfl bO,hC.step (by decide)⟩
     ·have e91:a'.tmps[91]?.getD undef= .pointer (some ⟨wr.heap.size,1,none⟩):=nO (i:=9) oM ha rfl (by first|simpa using aG|simp[aG]) (by simp);have hl:s'.getD 15 false=false:=ry iK [14,13,10] (by kernel_rfl) (by rfl) bO;have cq:=dQ (hC.fA hl) y1;refine wpOp_step iD (fun K' hK=> ?_);rw[if_pos (by rfl)];unfold Oper.wp;simp[go_sem,e91,cq,Oper.upon];exact hK _ _ ⟨x,jK (d:=some 92) (v:= .int .i64 (r:Int)) oM ha rfl bO,hC.step (by decide)⟩
     ·have e8:a'.tmps[8]?.getD undef= .pointer (some ⟨wr.heap.size,0,none⟩):=qR ha (by simp);have hl:s'.getD 15 false=false:=ry iK [14,13,12,11] (by kernel_rfl) (by rfl) bO;refine wpOp_step iD (fun K' hK=> ?_);rw[if_pos (by rfl)];unfold Oper.wp;simp[go_sem,e8,Oper.upon];exact hK _ _ ⟨x,jK (d:=some 93) (v:= .pointer (some ⟨wr.heap.size,2,none⟩)) oM ha rfl bO,hC.step (by decide)⟩
     ·have e93:a'.tmps[93]?.getD undef= .pointer (some ⟨wr.heap.size,2,none⟩):=nO (i:=11) oM ha rfl (by first|simpa using aG|simp[aG]) (by simp);have hl:s'.getD 15 false=false:=ry iK [14,13,12] (by kernel_rfl) (by rfl) bO;have cq:=dQ (hC.fA hl) y2;refine wpOp_step iD (fun K' hK=> ?_);rw[if_pos (by rfl)];unfold Oper.wp;simp[go_sem,e93,cq,Oper.upon];exact hK _ _ ⟨x,jK (d:=some 94) (v:= .int .i64 (q:Int)) oM ha rfl bO,hC.step (by decide)⟩
     ·have e92:a'.tmps[92]?.getD undef= .int .i64 (r:Int):=nO (i:=10) oM ha rfl (by first|simpa using aG|simp[aG]) (by simp);have e94:a'.tmps[94]?.getD undef= .int .i64 (q:Int):=nO (i:=12) oM ha rfl (by first|simpa using aG|simp[aG]) (by simp);have hl:s'.getD 15 false=false:=ry iK [14,13] (by kernel_rfl) (by rfl) bO;refine wpOp_step iD (fun K' hK=> ?_);rw[if_pos (by rfl)];unfold Oper.wp;simp[go_sem,e92,e94,m7,Oper.upon];exact hK _ _ ⟨x,jK (d:=some 95) (v:= .int .i64 ((r:Int)+(q:Int))) oM ha rfl bO,hC.step (by decide)⟩
     ·have e88:a'.tmps[88]?.getD undef=S u:=nO (i:=6) oM ha rfl (by first|simpa using aG|simp[aG]) (by simp);have e90:a'.tmps[90]?.getD undef= .int .i64 (r:Int):=nO (i:=8) oM ha rfl (by first|simpa using aG|simp[aG]) (by simp);have e95:a'.tmps[95]?.getD undef= .int .i64 ((r:Int)+(q:Int)):=nO (i:=13) oM ha rfl (by first|simpa using aG|simp[aG]) (by simp);have hl:s'.getD 15 false=false:=ry iK [14] (by kernel_rfl) (by rfl) bO;refine wpOp_step iD (fun K' hK=> ?_);rw[if_pos (by rfl)];unfold Oper.wp;simp[go_sem,e88,e90,e95,sp,i2,i3,i4,Oper.upon];exact hK _ _ ⟨x,jK (d:=some 96) (v:=S ((u.drop r).take q)) oM ha rfl bO,hC.step (by decide)⟩
     ·have e82:a'.tmps[82]?.getD undef=(.slice ao out.length co):=nO (i:=0) oM ha rfl (by first|simpa using aG|simp[aG]) (by simp);have e96:a'.tmps[96]?.getD undef=S ((u.drop r).take q):=nO (i:=14) oM ha rfl (by first|simpa using aG|simp[aG]) (by simp);have hl:s'.getD 15 false=false:=CO bO;obtain⟨v9,w9,DX,hf9⟩:=zt w' (hC.fA hl);have ha:=ha.trans (Tw (L:=NP ((.slice ao out.length co)) bs os st.length cs0 wr.heap.size (((m:Int)+1)) m ((os+m)) u r q (((u.drop r).take q)) x) (M:=NP ((.slice ao out.length co)) bs os st.length cs0 wr.heap.size (((m:Int)+1)) m ((os+m)) u r q (((u.drop r).take q)) v9) [15,16] rfl (fun j cK=>by
       rcases j with _|_|_|_|_|_|_|_|_|_|_|_|_|_|_|_|_|j<;>first|rfl|(exact absurd (by decide) cK)|simp) (List.forall_mem_cons.2 ⟨CO bO,List.forall_mem_cons.2 ⟨Xmu iK (by kernel_rfl) bO,List.forall_mem_nil _⟩⟩))
      refine wpOp_step iD (fun K' hK=> ?_);rw[if_pos (by rfl)];refine Lib.wp_append_run _ _ _ _ _ rfl _ _ (by simp[Act.eval,e82,e96]) (by simp[Act.eval,e82,e96]) v9 w9 (DX _) ?_;exact hK _ _ ⟨v9,jK (d:=some 97) (v:=v9) oM ha rfl bO,FJ.app bO hf9⟩
     ·have e97:a'.tmps[97]?.getD undef=x:=nO (i:=15) oM ha rfl (by first|simpa using aG|simp[aG]) (by simp);refine wpOp_step iD (fun K' hK=> ?_);rw[if_pos (by rfl)];unfold Oper.wp;simp[go_sem,e97,Oper.upon];exact hK _ _ ⟨x,jK (d:=some 6) (v:=x) oM ha rfl bO,hC.step (by decide)⟩
    ·rintro x s' a' w8 jQ ha hC;have hf8:=hC.fin (jQ 15 (by decide));rw[CL _ _ _ _ (fun i hi=>by rw[Nat.zero_add];exact jQ i (by simpa using hi))]at ha;subst ha;simp only[iw,Act.put];obtain⟨Ec,iq⟩:=hf8;have YE:=Qh Ec;clear Ec;go_wp2;go_roundw;case rel=>exact⟨k+1,_,by omega,by go_num,YE.O,by simp;omega,Hn.O,iq⟩
     case measure=>simp[intOf];omega
  ·have Hn:=Qh (show N=(out,0) by have:=Hr.O;rw[List.drop_of_length_le (by omega)]at this;exact this.symm);have UN:=Xu8 bD.O;go_wp2;go_ret2;rw[Hn.O];exact⟨rfl,hb⟩
