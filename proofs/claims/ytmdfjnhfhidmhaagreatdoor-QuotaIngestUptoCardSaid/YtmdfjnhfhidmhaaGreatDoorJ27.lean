/- Lemmas for the claim's theorem;conditions: as each says. -/
import Derived.Test.YtmdfjnhfhidmhaaGreatDoorJ26
import Derived.Test.YtmdfjnhfhidmhaaGreatDoorJ19
import Derived.Lib.AppendStr
import Derived.Lib.AppendZeros
import Derived.Laws.BytesArg
set_option maxHeartbeats 0
set_option maxRecDepth 100000
set_option linter.all false
namespace Go.Proofs.YtmdfjnhfhidmhaaGreatDoor
open Go.RowKit
variable{W:World}{I:IH}{B:Nat}{s:af}{la:Nat}{fin:Value→World→Prop}{x v:Value}{w:World}
def ints(s:af):List Int:=s.map fun b=>(b.toNat:Int)
def MQ(s:af):List Value:=s.map fun b=> .int .u8 (b.toNat:Int)
theorem Pk(s:af):(ints s).length=s.length:=by simp[ints]
theorem Xn9(s p:af):ints (s++p)=ints s++ints p:=by simp[ints]
theorem Xwv(s:af):Lib.strCells ⟨s.toArray⟩=MQ s:=by simp[Lib.strCells,MQ]
theorem Xux(I:IH)(s:af):bA tB I (MQ s) (ints s):=by
 refine⟨by simp[MQ,ints,tB,Ty.flat],fun i hi=>⟨[.int .u8 (ints s)[i]],rfl,fun j u hu=> ?_⟩⟩;have hj:j=0:=by have:=(List.getElem?_eq_some_iff.1 hu).1;simp at this;exact this
 subst hj;have TB:i<s.length:=by rw[Pk]at hi;exact hi
 simp at hu;subst hu;show(MQ s)[i*1+0]?=_;simp[MQ,ints,TB]
theorem ZO(s:af):(⟨s.toArray⟩:ByteArray).size=s.length:=by show s.toArray.size=_;simp
theorem Xg6(p:af)(h:aK tB 5 I W B v (ints s))(hB:B≤W.heap.size)(hl:s.length+p.length≤1000000):
 ∃v' w',(∀ty,(Builtin.append_ #[93,9] ty #[v,S p]).run Tryz.prog W= .ok v' w')∧aK tB 5 I w' B v' (ints (s++p))∧W.grownBy w' v.ownBlock:=by
 obtain⟨i,h1,h2,h3,h4⟩:=info_parts UY;obtain⟨xs,k1,k2⟩:=h;have e:(⟨p.toArray⟩:ByteArray).size=p.length:=ZO p;obtain⟨v',w',hr,bg,hg,_⟩:=Lib.run_append_own_string (P:=Tryz.prog) W B 93 9 0 5 i Tryz.underlying93 Tryz.underlying9 h1 h2 h3 h4 v (ints s).length xs k1 ⟨p.toArray⟩ (by rw[e,Pk];unfold maxLen;omega) (by rw[e,Pk];omega) hB;refine⟨v',w',fun ty=>hr,⟨xs++MQ p,?_,?_⟩,hg⟩
 ·rw[Xwv,e]at bg;rw[Xn9,List.length_append,Pk p];exact bg
 ·rw[Xn9];exact k2.append (Xux I p)
theorem Xmf(q:Nat):Builtin.zeroCells (Value.int .u8 0).cells q=((⟨(List.replicate q (0:UInt8)).toArray⟩:ByteArray).data.map fun b=>Value.int .u8 b.toNat):=by
 apply Array.ext
 ·rw[size_zeroCells];show q*1=_;simp
 ·intro i h1 h2;show((Array.range (q*1)).map fun i=>(#[Value.int .u8 0]:Array Value)[i%1]!)[i]'h1=_;simp[Nat.mod_one]
theorem Xme(q:Nat)(w':World):(Builtin.firstCells 1 q (.string ⟨(List.replicate q (0:UInt8)).toArray⟩)).run Tryz.prog w'= .ok (Builtin.zeroCells (Value.int .u8 0).cells q) w':=by
 have hf:=Lib.run_firstCells_string (P:=Tryz.prog) w' 1 ⟨(List.replicate q (0:UInt8)).toArray⟩;rw[ZO,List.length_replicate]at hf;rw[hf,Xmf];simp[Lib.strCells]
theorem Xjn(t tn tu ty e:TypeId)(i:TypeInfo)(kn kq:IntKind)(ht:Tryz.prog.underlying t=some (.slice e))(PP:Tryz.prog.underlying tn=some (.int kn))(Wx:Tryz.prog.underlying tu=some .string)(hi:Tryz.prog.info? e=some i)
 (hz:i.zero=some (.int .u8 0)) (hs:i.size=1) (hb:i.bytes=1) (ao:Option Addr) (n cap q:Nat) (hl:n+q≤1000000) (Z:ByteArray) (e1:Z.size=q)
 (f1:∀w',(Builtin.firstCells 1 q (.string Z)).run Tryz.prog w'= .ok (Builtin.zeroCells (Value.int .u8 0).cells q) w'):
 (Builtin.append_ #[t,tn] ty #[.slice ao n cap,.int kq q]).run Tryz.prog W=(Builtin.append_ #[t,tu] ty #[.slice ao n cap,.string Z]).run Tryz.prog W:=by
 have hw:IntKind.i64.wrap (q:Int)=q:=by rw[IntKind.wrap_i64];omega
 have n1:¬((q:Int)<0):=by omega
 have n2:¬(281474976710656<(q:Int)):=by omega
 have n3:¬(9223372036854775807<((n:Int)+(q:Int))):=by omega
 by_cases ql:n+q≤cap
 ·by_cases hq:q=0
  ·subst hq;have g3:IntKind.i64.wrap 0=0:=rfl;have g4:Builtin.zeroCells (Value.int .u8 0).cells 0=#[]:=Array.eq_empty_of_size_eq_zero (by rw[size_zeroCells];simp);have g5:n≤cap:=ql;simp[Builtin.append_,run_underlying ht,run_underlying PP,run_underlying Wx,sizeOf,typeInfo,zeroValue,hi,hz,hs,hb,Builtin.lenOf,e1,f1,g3,g4,g5,asInt,asIntOf,Question.forced]
  ·simp[Builtin.append_,run_underlying ht,run_underlying PP,run_underlying Wx,sizeOf,typeInfo,zeroValue,hi,hz,hs,hb,Builtin.lenOf,e1,f1,ql,asInt,asIntOf,Question.forced,hw,n1,n2,hq]
 ·have nN:¬(281474976710656<Builtin.nextslicecap (n+q) cap):=by
   have:=growslice_fits (need:=n+q) (old:=cap) (bytes:=1) (by omega) (by omega);omega
  by_cases hq:q=0
  ·subst hq;have g3:IntKind.i64.wrap 0=0:=rfl;have g4:Builtin.zeroCells (Value.int .u8 0).cells 0=#[]:=Array.eq_empty_of_size_eq_zero (by rw[size_zeroCells];simp);have g5:¬n≤cap:=ql;have g6:¬(281474976710656<Builtin.nextslicecap n cap):=nN;have g7:¬(9223372036854775807<(n:Int)):=by omega
   simp[Builtin.append_,run_underlying ht,run_underlying PP,run_underlying Wx,sizeOf,typeInfo,zeroValue,hi,hz,hs,hb,Builtin.lenOf,e1,f1,g3,g4,g5,g6,g7,asInt,asIntOf,Question.forced]
  ·simp[Builtin.append_,run_underlying ht,run_underlying PP,run_underlying Wx,sizeOf,typeInfo,zeroValue,hi,hz,hs,hb,Builtin.lenOf,e1,f1,ql,asInt,asIntOf,Question.forced,hw,n1,n2,hq,nN,n3]
theorem Xjo{ao:Option Addr}{n cap:Nat}(q:Nat)(h:aK tB 5 I W B (.slice ao n cap) (ints s))(hB:B≤W.heap.size)(hn:n=s.length)(hl:s.length+q≤1000000):
 ∃v' w',(∀ty,(Builtin.append_ #[93,3] ty #[.slice ao n cap,.int .i64 q]).run Tryz.prog W= .ok v' w')∧aK tB 5 I w' B v' (ints (s++List.replicate q 0))∧W.grownBy w' (Value.slice ao n cap).ownBlock:=by
 obtain⟨v',w',hr,h2,h3⟩:=Xg6 (List.replicate q 0) h hB (by simpa using hl);obtain⟨i,h1,k2,k3,k4⟩:=info_parts UY;exact⟨v',w',fun ty=>by
  rw[Xjn 93 3 9 ty 5 i .i64 .i64 Tryz.underlying93 Tryz.underlying3 Tryz.underlying9 h1 k2 k3 k4 ao n cap q (by omega) ⟨(List.replicate q (0:UInt8)).toArray⟩ (by rw[ZO];simp) (fun w'=>Xme q w')];exact hr ty,h2,h3⟩
theorem Xss(h:aK tB 5 I W B v (ints s)):(convert 93 9 v).run Tryz.prog W= .ok (S s) W:=by
 by_cases h0:0<s.length
 ·rw[XV Tryz.underlying93 Tryz.underlying5 Tryz.underlying9 W h (by rw[Pk];exact h0)];have e:(ints s).map (fun x=>UInt8.ofNat x.toNat)=s:=by
   unfold ints;rw[List.map_map];refine(List.map_congr_left fun b _=> ?_).trans (List.map_id s);simp
  rw[e]
 ·have hs:s=[]:=List.eq_nil_of_length_eq_zero (by omega);subst hs;obtain⟨xs,⟨_,hc⟩,_⟩:=h;rcases hc with⟨rfl,_⟩|⟨g,cap,cur,rfl,_,hg,_,_,_,ht⟩
  ·exact(run_convert_bytes_nil (P:=Tryz.prog) W _ 5 Tryz.underlying93 Tryz.underlying5 0 0 _ Tryz.underlying9).trans rfl
  ·rw[run_convert_bytes_string _ _ _ 5 _ _ _ Tryz.underlying93 Tryz.underlying5 Tryz.underlying9];have:=run_bytesToString (P:=Tryz.prog) W ⟨g,0,none⟩ 0 cap [] (by
    have hc:=run_loadCells_list (P:=Tryz.prog) W ⟨g,0,none⟩ [] (fun j u hu=>by cases hu);simpa using hc)
   exact this.trans rfl
structure Gy (W:World) (la:Nat) (fin:Value→World→Prop) (x:Value) (s:Array Bool) (w:World):Prop where
 eY:s.getD la false=false→Below W.heap.size W w
 fin:s.getD la false=true→fin x w
theorem Gy.start(n:Nat)(x:Value):Gy W la fin x (Array.replicate n false) {W with drawn:=W.drawn+1}:=
 ⟨fun _=>(Qb _ _).drew,fun h=>(by rw[zf]at h;cases h)⟩
theorem Gy.step{s:Array Bool}(h:Gy W la fin x s w){i:Nat}(hi:i≠la):Gy W la fin x (s.setIfInBounds i true) w:=
 ⟨fun q=>h.eY (by rwa[getD_set_ne false hi]at q),fun q=>h.fin (by rwa[getD_set_ne false hi]at q)⟩
theorem Gy.app{s:Array Bool}(aN:s.getD la true=false)(hf:fin x w):Gy W la fin x (s.setIfInBounds la true) w:=by
 have e:=zY (u6 aN);exact⟨fun q=>(by rw[e]at q;cases q),fun _=>hf⟩
abbrev Pm(vo:Value)(bs os ls cs:Nat)(nn:Nat)(zs:Int)(m ou:Nat)(u:af)(r q:Nat)(p:af)(x:Value):List (Option Tmp×Value):=
 [(some 82,vo),(some 83,.slice (some ⟨bs,os,none⟩) ls cs),(some 84,.pointer (some ⟨nn,0,none⟩)),(some 85,.int .i64 zs),(some 86,.int .i64 (m:Int)),(some 87,.pointer (some ⟨bs,ou,none⟩)),(some 88,S u),(some 89,.pointer (some ⟨nn,1,none⟩)),(some 90,.int .i64 (r:Int)),(some 91,.pointer (some ⟨nn,1,none⟩)),(some 92,.int .i64 (r:Int)),(some 93,.pointer (some ⟨nn,2,none⟩)),(some 94,.int .i64 (q:Int)),(some 95,.int .i64 ((r:Int)+(q:Int))),(some 96,S p),(some 97,x),(some 6,x)]
theorem pV{vo:Value}{bs os ls cs:Nat}{nn:Nat}{zs:Int}{m ou:Nat}{u:af}{r q:Nat}{p:af}:cO (Pm vo bs os ls cs nn zs m ou u r q p x):=by
 unfold cO;simp
theorem Xxn(I:IH)(vs vl:Value)(st:List af)(l:List Xt)(pY:aZ iE I vs st)(Wy:aZ lY I vl l)(jk:∀s∈st,s.length≤9223372036854775807)(w:World)(hw:Ok I w):
 Calls Tryz.prog 102 #[vs,vl] w fun e w'=>e= .returned (.tuple #[S (wu st l).1,.int .i64 (wu st l).2])∧Below w.heap.size w w':=by
 have Ws:=pY.bF;have Br:=Wy.bF;obtain⟨as0,cs0,rfl,_,_,_⟩:=id pY;obtain⟨al,cl,rfl,_,_,_⟩:=id Wy;have FH:∀b,w.heap.size≤b→I b=none:=fun b hb=>hw.fresh hb;have Cf:=Qh pY;have Hvl:=Qh Wy;have bu:=Qh jk;obtain⟨N,hN⟩:∃N,wu st l=N:=⟨_,rfl⟩;have HN:=Qh (show mP st (l.drop 0) []=N from hN);rw[hN];clear pY Wy jk hN;go_enter Tryz.func102,Tryz.ntmps102
 go_wp2_with fail
 go_loopw [6,12] (fun s6 s12 wr=> ∃(k:Nat) (out:af),k≤l.length∧s12= .int .i64 k∧aK tB 5 I wr w.heap.size s6 (ints out)∧out.length≤65536∧mP st (l.drop k) out=N∧Below w.heap.size w wr) (fun _ i _=>l.length-(intOf i).toNat)
 case atStart=>exact⟨0,[],Nat.zero_le _,rfl,aK.nil _ _ _ _ _,by simp,HN.O,Qb _ _⟩
 case round=>
  clear HN;obtain⟨k,out,hk,rfl,bg,F3,hr,hb⟩:=hrel;have Hr:=Qh hr;have iQ:Ok I wr:=hw.below (Qn _) hb;clear hr;obtain⟨ao,co,rfl⟩:=Dk bg;rw[Pk]at bg ⊢;have bL:=Qh bg;clear bg;by_cases hlt:k<l.length
  ·obtain⟨x,b,off,cap',dA,cZ,x0,x1,x2⟩:=xA Hvl.O iQ k hlt;cases cZ;have Hg:=Qh (Xr5 hlt dA Hr.O);clear dA Hr;obtain⟨zs,zo,zn⟩:=x;dsimp only at x0 x1 x2;have m65:IntKind.i64.wrap (65536-(out.length:Int))=65536-(out.length:Int):=IntWalk.i64_in _ (by omega);by_cases g1:zn<0
   ·have Hn:=Qh (show N=([],2) by have:=Hg.O;rw[if_pos (RY (x:=⟨zs,zo,zn⟩) (.inl g1))]at this;exact this.symm);have d1:decide (zn<0)=true:=Qt g1;clear g1;have y0:(wr.alloc (.cells #[.int .i64 (zs),.int .i64 (zo),.int .i64 (zn)] 109)).cell? ⟨wr.heap.size,0,none⟩=some (.int .i64 (zs)):=by simp
    have y1:(wr.alloc (.cells #[.int .i64 (zs),.int .i64 (zo),.int .i64 (zn)] 109)).cell? ⟨wr.heap.size,1,none⟩=some (.int .i64 (zo)):=by simp
    have y2:(wr.alloc (.cells #[.int .i64 (zs),.int .i64 (zo),.int .i64 (zn)] 109)).cell? ⟨wr.heap.size,2,none⟩=some (.int .i64 (zn)):=by simp
    have aD:=hb.alloc hb.size (.cells #[.int .i64 (zs),.int .i64 (zo),.int .i64 (zn)] 109);go_wp2;go_ret2;rw[Hn.O];exact⟨rfl,aD⟩
   have d1:decide (zn<0)=false:=Qf g1;by_cases g2:zo<0
   ·have Hn:=Qh (show N=([],2) by have:=Hg.O;rw[if_pos (RY (x:=⟨zs,zo,zn⟩) (.inr (.inl g2)))]at this;exact this.symm);have d2:decide (zo<0)=true:=Qt g2;clear g1 g2;have y0:(wr.alloc (.cells #[.int .i64 (zs),.int .i64 (zo),.int .i64 (zn)] 109)).cell? ⟨wr.heap.size,0,none⟩=some (.int .i64 (zs)):=by simp
    have y1:(wr.alloc (.cells #[.int .i64 (zs),.int .i64 (zo),.int .i64 (zn)] 109)).cell? ⟨wr.heap.size,1,none⟩=some (.int .i64 (zo)):=by simp
    have y2:(wr.alloc (.cells #[.int .i64 (zs),.int .i64 (zo),.int .i64 (zn)] 109)).cell? ⟨wr.heap.size,2,none⟩=some (.int .i64 (zn)):=by simp
    have aD:=hb.alloc hb.size (.cells #[.int .i64 (zs),.int .i64 (zo),.int .i64 (zn)] 109);go_wp2;go_ret2;rw[Hn.O];exact⟨rfl,aD⟩
   have d2:decide (zo<0)=false:=Qf g2;by_cases g3:zs<0
   ·have Hn:=Qh (show N=([],2) by have:=Hg.O;rw[if_pos (RY (x:=⟨zs,zo,zn⟩) (.inr (.inr (.inl g3))))]at this;exact this.symm);have d3:decide (zs<0)=true:=Qt g3;clear g1 g2 g3;have y0:(wr.alloc (.cells #[.int .i64 (zs),.int .i64 (zo),.int .i64 (zn)] 109)).cell? ⟨wr.heap.size,0,none⟩=some (.int .i64 (zs)):=by simp
    have y1:(wr.alloc (.cells #[.int .i64 (zs),.int .i64 (zo),.int .i64 (zn)] 109)).cell? ⟨wr.heap.size,1,none⟩=some (.int .i64 (zo)):=by simp
    have y2:(wr.alloc (.cells #[.int .i64 (zs),.int .i64 (zo),.int .i64 (zn)] 109)).cell? ⟨wr.heap.size,2,none⟩=some (.int .i64 (zn)):=by simp
    have aD:=hb.alloc hb.size (.cells #[.int .i64 (zs),.int .i64 (zo),.int .i64 (zn)] 109);go_wp2;go_ret2;rw[Hn.O];exact⟨rfl,aD⟩
   have d3:decide (zs<0)=false:=Qf g3;by_cases g4:(st.length:Int)<zs
   ·have Hn:=Qh (show N=([],2) by have:=Hg.O;rw[if_pos (RY (x:=⟨zs,zo,zn⟩) (.inr (.inr (.inr (.inl g4)))))]at this;exact this.symm);have d4:decide ((st.length:Int)<zs)=true:=Qt g4;clear g1 g2 g3 g4;have y0:(wr.alloc (.cells #[.int .i64 (zs),.int .i64 (zo),.int .i64 (zn)] 109)).cell? ⟨wr.heap.size,0,none⟩=some (.int .i64 (zs)):=by simp
    have y1:(wr.alloc (.cells #[.int .i64 (zs),.int .i64 (zo),.int .i64 (zn)] 109)).cell? ⟨wr.heap.size,1,none⟩=some (.int .i64 (zo)):=by simp
    have y2:(wr.alloc (.cells #[.int .i64 (zs),.int .i64 (zo),.int .i64 (zn)] 109)).cell? ⟨wr.heap.size,2,none⟩=some (.int .i64 (zn)):=by simp
    have aD:=hb.alloc hb.size (.cells #[.int .i64 (zs),.int .i64 (zo),.int .i64 (zn)] 109);go_wp2;go_ret2;rw[Hn.O];exact⟨rfl,aD⟩
   have d4:decide ((st.length:Int)<zs)=false:=Qf g4;have Er:(0:Int)≤zn:=by omega
   by_cases lC:zs=0
   ·have e1:(zs==0)=true:=by simpa using lC
    have e2:decide (0<zs)=false:=Qf (by omega);by_cases OI:zo=0;case neg=>
     have Hn:=Qh (show N=([],2) by have:=Hg.O;rw[if_pos (RY (x:=⟨zs,zo,zn⟩) (.inr (.inr (.inr (.inr ⟨lC,OI⟩)))))]at this;exact this.symm);have e3:(zo !=0)=true:=by simpa using OI
     clear g1 g2 g3 g4 lC OI;have y0:(wr.alloc (.cells #[.int .i64 (zs),.int .i64 (zo),.int .i64 (zn)] 109)).cell? ⟨wr.heap.size,0,none⟩=some (.int .i64 (zs)):=by simp
     have y1:(wr.alloc (.cells #[.int .i64 (zs),.int .i64 (zo),.int .i64 (zn)] 109)).cell? ⟨wr.heap.size,1,none⟩=some (.int .i64 (zo)):=by simp
     have y2:(wr.alloc (.cells #[.int .i64 (zs),.int .i64 (zo),.int .i64 (zn)] 109)).cell? ⟨wr.heap.size,2,none⟩=some (.int .i64 (zn)):=by simp
     have aD:=hb.alloc hb.size (.cells #[.int .i64 (zs),.int .i64 (zo),.int .i64 (zn)] 109);go_wp2;go_ret2;rw[Hn.O];exact⟨rfl,aD⟩
    have e3:(zo !=0)=false:=by simpa using OI
    have Dq:=Qh (show(if 65536-(out.length:Int)<zn then(([],6):af×Int)else mP st (l.drop (k+1)) (out++List.replicate zn.toNat 0))=N by
     have h:=Hg.O;dsimp only at h;rw[if_neg (by rw[VC (x:=⟨zs,zo,zn⟩) g1 g2 g3 g4 (fun h=>h.2 OI)];simp),if_neg (by omega),if_pos lC]at h;exact h)
    by_cases nA:65536-(out.length:Int)<zn
    ·have Hn:=Qh (show N=([],6) by have:=Dq.O;rw[if_pos nA]at this;exact this.symm);have d5:decide (65536-(out.length:Int)<zn)=true:=Qt nA;clear g1 g2 g3 g4 lC OI nA Hg Dq;have y0:(wr.alloc (.cells #[.int .i64 (zs),.int .i64 (zo),.int .i64 (zn)] 109)).cell? ⟨wr.heap.size,0,none⟩=some (.int .i64 (zs)):=by simp
     have y1:(wr.alloc (.cells #[.int .i64 (zs),.int .i64 (zo),.int .i64 (zn)] 109)).cell? ⟨wr.heap.size,1,none⟩=some (.int .i64 (zo)):=by simp
     have y2:(wr.alloc (.cells #[.int .i64 (zs),.int .i64 (zo),.int .i64 (zn)] 109)).cell? ⟨wr.heap.size,2,none⟩=some (.int .i64 (zn)):=by simp
     have aD:=hb.alloc hb.size (.cells #[.int .i64 (zs),.int .i64 (zo),.int .i64 (zn)] 109);go_wp2;go_ret2;rw[Hn.O];exact⟨rfl,aD⟩
    ·obtain⟨q,rfl⟩:∃q:Nat,zn=(q:Int):=⟨zn.toNat,by omega⟩;have Xd:q+out.length≤65536:=by omega
     have Hn:=Qh (show mP st (l.drop (k+1)) (out++List.replicate q 0)=N by have:=Dq.O;rw[if_neg nA,Int.toNat_natCast]at this;exact this);have d5:decide (65536-(out.length:Int)<(q:Int))=false:=Qf (by omega);clear g1 g2 g3 g4 lC OI nA Hg Dq;have y0:(wr.alloc (.cells #[.int .i64 (zs),.int .i64 (zo),.int .i64 ((q:Int))] 109)).cell? ⟨wr.heap.size,0,none⟩=some (.int .i64 (zs)):=by simp
     have y1:(wr.alloc (.cells #[.int .i64 (zs),.int .i64 (zo),.int .i64 ((q:Int))] 109)).cell? ⟨wr.heap.size,1,none⟩=some (.int .i64 (zo)):=by simp
     have y2:(wr.alloc (.cells #[.int .i64 (zs),.int .i64 (zo),.int .i64 ((q:Int))] 109)).cell? ⟨wr.heap.size,2,none⟩=some (.int .i64 ((q:Int))):=by simp
     have aD:=hb.alloc hb.size (.cells #[.int .i64 (zs),.int .i64 (zo),.int .i64 ((q:Int))] 109);have RZ:=Qh (bL.O.alloc (.cells #[.int .i64 zs,.int .i64 zo,.int .i64 (q:Int)] 109));obtain⟨v9,w9,jX,j5,bP⟩:=Xjo q RZ.O aD.size rfl (by omega);have ZP:=Qh j5;have gP:=Below.own aD bP RZ.O (Qn _) aD.size;clear j5 bP;go_wp2_with (at_builtin;refine Lib.wpList_append_run _ rfl _ _ _ _ rfl _ _ rfl rfl _ _ (jX _) ?_)
     go_wp2;go_roundw;case rel=>exact⟨k+1,_,by omega,by go_num,ZP.O,by simp;omega,Hn.O,gP⟩
     case measure=>simp[intOf];omega
   ·obtain⟨m,rfl⟩:∃m:Nat,zs=(m:Int)+1:=⟨(zs-1).toNat,by omega⟩;have BJ:m<st.length:=by omega
    obtain⟨u,bs,os,cs,ZQ,cZ,u0⟩:=DY Cf.O (iQ.alloc (.cells #[.int .i64 ((m:Int)+1),.int .i64 zo,.int .i64 zn] 109)) m BJ;cases cZ;have hul:=bu.O u (by rw[←ZQ];exact List.getElem_mem BJ);have hsu:kR st ⟨(m:Int)+1,zo,zn⟩=u:=by
     show st.getD (((m:Int)+1-1).toNat) []=u;rw[show((m:Int)+1-1).toNat=m by omega];simp[List.getD,BJ,ZQ]
    have e1:(((m:Int)+1)==0)=false:=by simpa using lC
    have e2:decide ((0:Int)<(m:Int)+1)=true:=Qt (by omega);have i1:(m:Int)<st.length:=by omega
    have m1:IntKind.i64.wrap (m:Int)=(m:Int):=IntWalk.i64_in _ (by omega);have j1:(0:Int)≤(m:Int):=by omega
    have Ay:=Qh (show(if 0<(m:Int)+1∧((u.length:Int)<zo∨(u.length:Int)-zo<zn)then(([],2):af×Int)else if 65536-(out.length:Int)<zn then([],6)else mP st (l.drop (k+1)) (out++(u.drop zo.toNat).take zn.toNat))=N by
     have h:=Hg.O;dsimp only at h;rw[if_neg (by rw[VC (x:=⟨(m:Int)+1,zo,zn⟩) g1 g2 g3 g4 (fun h=>lC h.1)];simp),hsu]at h;rw[←h];simp only[if_neg lC])
    clear Hg hsu ZQ;by_cases OJ:(u.length:Int)<zo
    ·have Hn:=Qh (show N=([],2) by have:=Ay.O;rw[if_pos ⟨by omega,.inl OJ⟩]at this;exact this.symm);have d6:decide ((u.length:Int)<zo)=true:=Qt OJ;clear g1 g2 g3 g4 lC OJ Ay;have y0:(wr.alloc (.cells #[.int .i64 ((m:Int)+1),.int .i64 (zo),.int .i64 (zn)] 109)).cell? ⟨wr.heap.size,0,none⟩=some (.int .i64 ((m:Int)+1)):=by simp
     have y1:(wr.alloc (.cells #[.int .i64 ((m:Int)+1),.int .i64 (zo),.int .i64 (zn)] 109)).cell? ⟨wr.heap.size,1,none⟩=some (.int .i64 (zo)):=by simp
     have y2:(wr.alloc (.cells #[.int .i64 ((m:Int)+1),.int .i64 (zo),.int .i64 (zn)] 109)).cell? ⟨wr.heap.size,2,none⟩=some (.int .i64 (zn)):=by simp
     have aD:=hb.alloc hb.size (.cells #[.int .i64 ((m:Int)+1),.int .i64 (zo),.int .i64 (zn)] 109);go_wp2;go_ret2;rw[Hn.O];exact⟨rfl,aD⟩
    have d6:decide ((u.length:Int)<zo)=false:=Qf OJ;have m8:IntKind.i64.wrap ((u.length:Int)-zo)=(u.length:Int)-zo:=IntWalk.i64_in _ (by omega);by_cases uE:(u.length:Int)-zo<zn
    ·have Hn:=Qh (show N=([],2) by have:=Ay.O;rw[if_pos ⟨by omega,.inr uE⟩]at this;exact this.symm);have d7:decide ((u.length:Int)-zo<zn)=true:=Qt uE;clear g1 g2 g3 g4 lC OJ uE Ay;have y0:(wr.alloc (.cells #[.int .i64 ((m:Int)+1),.int .i64 (zo),.int .i64 (zn)] 109)).cell? ⟨wr.heap.size,0,none⟩=some (.int .i64 ((m:Int)+1)):=by simp
     have y1:(wr.alloc (.cells #[.int .i64 ((m:Int)+1),.int .i64 (zo),.int .i64 (zn)] 109)).cell? ⟨wr.heap.size,1,none⟩=some (.int .i64 (zo)):=by simp
     have y2:(wr.alloc (.cells #[.int .i64 ((m:Int)+1),.int .i64 (zo),.int .i64 (zn)] 109)).cell? ⟨wr.heap.size,2,none⟩=some (.int .i64 (zn)):=by simp
     have aD:=hb.alloc hb.size (.cells #[.int .i64 ((m:Int)+1),.int .i64 (zo),.int .i64 (zn)] 109);go_wp2;go_ret2;rw[Hn.O];exact⟨rfl,aD⟩
    have d7:decide ((u.length:Int)-zo<zn)=false:=Qf uE;have Dq:=Qh (show(if 65536-(out.length:Int)<zn then(([],6):af×Int)else mP st (l.drop (k+1)) (out++(u.drop zo.toNat).take zn.toNat))=N by
     have h:=Ay.O;rw[if_neg (by omega)]at h;exact h)
    by_cases nA:65536-(out.length:Int)<zn
    ·have Hn:=Qh (show N=([],6) by have:=Dq.O;rw[if_pos nA]at this;exact this.symm);have d5:decide (65536-(out.length:Int)<zn)=true:=Qt nA;clear g1 g2 g3 g4 lC OJ uE nA Ay Dq;have y0:(wr.alloc (.cells #[.int .i64 ((m:Int)+1),.int .i64 (zo),.int .i64 (zn)] 109)).cell? ⟨wr.heap.size,0,none⟩=some (.int .i64 ((m:Int)+1)):=by simp
     have y1:(wr.alloc (.cells #[.int .i64 ((m:Int)+1),.int .i64 (zo),.int .i64 (zn)] 109)).cell? ⟨wr.heap.size,1,none⟩=some (.int .i64 (zo)):=by simp
     have y2:(wr.alloc (.cells #[.int .i64 ((m:Int)+1),.int .i64 (zo),.int .i64 (zn)] 109)).cell? ⟨wr.heap.size,2,none⟩=some (.int .i64 (zn)):=by simp
     have aD:=hb.alloc hb.size (.cells #[.int .i64 ((m:Int)+1),.int .i64 (zo),.int .i64 (zn)] 109);go_wp2;go_ret2;rw[Hn.O];exact⟨rfl,aD⟩
    have d5:decide (65536-(out.length:Int)<zn)=false:=Qf (by omega);have hzr:0≤zo∧0≤zn∧zo+zn≤(u.length:Int)∧zn+(out.length:Int)≤65536:=by omega
    obtain⟨q,rfl⟩:∃q:Nat,zn=(q:Int):=⟨zn.toNat,by omega⟩;obtain⟨r,rfl⟩:∃r:Nat,zo=(r:Int):=⟨zo.toNat,by omega⟩;have Xd:q+out.length≤65536:=by omega
    have hrq:r+q≤u.length:=by omega
    have Hn:=Qh (show mP st (l.drop (k+1)) (out++(u.drop r).take q)=N by have:=Dq.O;rw[if_neg nA,Int.toNat_natCast,Int.toNat_natCast]at this;exact this);have m7:IntKind.i64.wrap ((r:Int)+(q:Int))=(r:Int)+(q:Int):=IntWalk.i64_in _ (by omega);have i2:(0:Int)≤r:=by omega
    have sp:((r:Int)+(q:Int)).toNat-r=q:=by omega
    have i3:(r:Int)≤(r:Int)+q:=by omega
    have i4:(r:Int)+q≤u.length:=by omega
    clear g1 g2 g3 g4 lC OJ uE nA Ay Dq hzr;have y0:(wr.alloc (.cells #[.int .i64 ((m:Int)+1),.int .i64 ((r:Int)),.int .i64 ((q:Int))] 109)).cell? ⟨wr.heap.size,0,none⟩=some (.int .i64 ((m:Int)+1)):=by simp
    have y1:(wr.alloc (.cells #[.int .i64 ((m:Int)+1),.int .i64 ((r:Int)),.int .i64 ((q:Int))] 109)).cell? ⟨wr.heap.size,1,none⟩=some (.int .i64 ((r:Int))):=by simp
    have y2:(wr.alloc (.cells #[.int .i64 ((m:Int)+1),.int .i64 ((r:Int)),.int .i64 ((q:Int))] 109)).cell? ⟨wr.heap.size,2,none⟩=some (.int .i64 ((q:Int))):=by simp
    have aD:=hb.alloc hb.size (.cells #[.int .i64 ((m:Int)+1),.int .i64 ((r:Int)),.int .i64 ((q:Int))] 109);have RZ:=Qh (bL.O.alloc (.cells #[.int .i64 ((m:Int)+1),.int .i64 (r:Int),.int .i64 (q:Int)] 109));go_wp2_with fail
    have Le:∀w',Below (wr.alloc (.cells #[.int .i64 ((m:Int)+1),.int .i64 (r:Int),.int .i64 (q:Int)] 109)).heap.size (wr.alloc (.cells #[.int .i64 ((m:Int)+1),.int .i64 (r:Int),.int .i64 (q:Int)] 109)) w'→
     ∃v9 w9,(∀ty,(Builtin.append_ #[93,9] ty #[.slice ao out.length co,S ((u.drop r).take q)]).run Tryz.prog w'= .ok v9 w9)∧aK tB 5 I w9 w.heap.size v9 (ints (out++(u.drop r).take q))∧Below w.heap.size w w9:=fun w' cu=>by
     have aL:=aD.trans (cu.mono aD.size);obtain⟨v9,w9,jX,j5,bP⟩:=Xg6 ((u.drop r).take q) (RZ.O.below cu) aL.size (by simp;omega);exact⟨v9,w9,jX,j5,Below.own aL bP (RZ.O.below cu) (Qn _) aL.size⟩
    refine yz (X:=Value) (Pm ((.slice ao out.length co)) bs os st.length cs0 wr.heap.size (((m:Int)+1)) m ((os+m)) u r q (((u.drop r).take q))) (Gy (wr.alloc (.cells #[.int .i64 ((m:Int)+1),.int .i64 (r:Int),.int .i64 (q:Int)] 109)) 15 (fun v9 w9=>aK tB 5 I w9 w.heap.size v9 (ints (out++(u.drop r).take q))∧Below w.heap.size w w9)) (by kernel_rfl) (by kernel_rfl) ?_ ?_ ?_
    ·exact⟨undef,Gy.start _ _⟩
    ·rintro x s' a' w' i dM dC ha hC hi;obtain⟨aN,oi,fP,aC⟩:=mem_ready.1 hi;rcases i with _|_|_|_|_|_|_|_|_|_|_|_|_|_|_|_|_|i
     rotate_left 17
     ·simp at fP
     all_goals
      have dV:=fP;simp at fP;subst fP;simp[Region.binds]at aC
     ·have ha':=ha.trans (uq (L:=Pm ((.slice ao out.length co)) bs os st.length cs0 wr.heap.size (((m:Int)+1)) m ((os+m)) u r q (((u.drop r).take q)) x) (M:=(Pm ((.slice ao out.length co)) bs os st.length cs0 wr.heap.size (((m:Int)+1)) m ((os+m)) u r q (((u.drop r).take q)) x).set 16 (none,undef)) [16] (by simp) (fun j bn=>by rw[List.getElem?_set_ne (fun e=>bn (by rw[←e];exact List.mem_singleton.2 rfl))]) (List.forall_mem_cons.2 ⟨Xlg (i:=0) dC (by kernel_rfl) aN,List.forall_mem_nil _⟩));have e6:a'.tmps[6]?.getD undef=(.slice ao out.length co):=oD ha' (by simp);have hl:s'.getD 15 false=false:=iH dC [0] (by kernel_rfl) (by rfl) aN;refine wpOp_step dV (fun K' hK=> ?_);rw[if_pos (by rfl)];unfold Oper.wp;simp[go_sem,e6,Oper.upon];exact hK _ _ ⟨x,eO (d:=some 82) (v:=(.slice ao out.length co)) pV ha rfl aN,hC.step (by decide)⟩
     ·have e0:a'.tmps[0]?.getD undef= .slice (some ⟨bs,os,none⟩) st.length cs0:=oD ha (by simp);have hl:s'.getD 15 false=false:=iH dC [14,6,5,1] (by kernel_rfl) (by rfl) aN;refine wpOp_step dV (fun K' hK=> ?_);rw[if_pos (by rfl)];unfold Oper.wp;simp[go_sem,e0,Oper.upon];exact hK _ _ ⟨x,eO (d:=some 83) (v:= .slice (some ⟨bs,os,none⟩) st.length cs0) pV ha rfl aN,hC.step (by decide)⟩
     ·have e8:a'.tmps[8]?.getD undef= .pointer (some ⟨wr.heap.size,0,none⟩):=oD ha (by simp);have hl:s'.getD 15 false=false:=iH dC [14,6,5,4,3,2] (by kernel_rfl) (by rfl) aN;refine wpOp_step dV (fun K' hK=> ?_);rw[if_pos (by rfl)];unfold Oper.wp;simp[go_sem,e8,Oper.upon];exact hK _ _ ⟨x,eO (d:=some 84) (v:= .pointer (some ⟨wr.heap.size,0,none⟩)) pV ha rfl aN,hC.step (by decide)⟩
     ·have e84:a'.tmps[84]?.getD undef= .pointer (some ⟨wr.heap.size,0,none⟩):=gT (i:=2) pV ha rfl (by first|simpa using aC|simp[aC]) (by simp);have hl:s'.getD 15 false=false:=iH dC [14,6,5,4,3] (by kernel_rfl) (by rfl) aN;have cq:=bK (hC.eY hl) y0;refine wpOp_step dV (fun K' hK=> ?_);rw[if_pos (by rfl)];unfold Oper.wp;simp[go_sem,e84,cq,Oper.upon];exact hK _ _ ⟨x,eO (d:=some 85) (v:= .int .i64 ((m:Int)+1)) pV ha rfl aN,hC.step (by decide)⟩
     ·have e85:a'.tmps[85]?.getD undef= .int .i64 ((m:Int)+1):=gT (i:=3) pV ha rfl (by first|simpa using aC|simp[aC]) (by simp);have hl:s'.getD 15 false=false:=iH dC [14,6,5,4] (by kernel_rfl) (by rfl) aN;refine wpOp_step dV (fun K' hK=> ?_);rw[if_pos (by rfl)];unfold Oper.wp;simp[go_sem,e85,m1,Oper.upon];exact hK _ _ ⟨x,eO (d:=some 86) (v:= .int .i64 (m:Int)) pV ha rfl aN,hC.step (by decide)⟩
     ·have e83:a'.tmps[83]?.getD undef= .slice (some ⟨bs,os,none⟩) st.length cs0:=gT (i:=1) pV ha rfl (by first|simpa using aC|simp[aC]) (by simp);have e86:a'.tmps[86]?.getD undef= .int .i64 (m:Int):=gT (i:=4) pV ha rfl (by first|simpa using aC|simp[aC]) (by simp);have hl:s'.getD 15 false=false:=iH dC [14,6,5] (by kernel_rfl) (by rfl) aN;refine wpOp_step dV (fun K' hK=> ?_);rw[if_pos (by rfl)];unfold Oper.wp;simp[go_sem,e83,e86,i1,j1,Oper.upon];exact hK _ _ ⟨x,eO (d:=some 87) (v:= .pointer (some ⟨bs,(os+m),none⟩)) pV ha rfl aN,hC.step (by decide)⟩
     ·have e87:a'.tmps[87]?.getD undef= .pointer (some ⟨bs,(os+m),none⟩):=gT (i:=5) pV ha rfl (by first|simpa using aC|simp[aC]) (by simp);have hl:s'.getD 15 false=false:=iH dC [14,6] (by kernel_rfl) (by rfl) aN;have cq:=bK (hC.eY hl) u0;refine wpOp_step dV (fun K' hK=> ?_);rw[if_pos (by rfl)];unfold Oper.wp;simp[go_sem,e87,cq,Oper.upon];exact hK _ _ ⟨x,eO (d:=some 88) (v:=S u) pV ha rfl aN,hC.step (by decide)⟩
     ·have e8:a'.tmps[8]?.getD undef= .pointer (some ⟨wr.heap.size,0,none⟩):=oD ha (by simp);have hl:s'.getD 15 false=false:=iH dC [14,8,7] (by kernel_rfl) (by rfl) aN;refine wpOp_step dV (fun K' hK=> ?_);rw[if_pos (by rfl)];unfold Oper.wp;simp[go_sem,e8,Oper.upon];exact hK _ _ ⟨x,eO (d:=some 89) (v:= .pointer (some ⟨wr.heap.size,1,none⟩)) pV ha rfl aN,hC.step (by decide)⟩
     ·have e89:a'.tmps[89]?.getD undef= .pointer (some ⟨wr.heap.size,1,none⟩):=gT (i:=7) pV ha rfl (by first|simpa using aC|simp[aC]) (by simp);have hl:s'.getD 15 false=false:=iH dC [14,8] (by kernel_rfl) (by rfl) aN;have cq:=bK (hC.eY hl) y1;refine wpOp_step dV (fun K' hK=> ?_);rw[if_pos (by rfl)];unfold Oper.wp;simp[go_sem,e89,cq,Oper.upon];exact hK _ _ ⟨x,eO (d:=some 90) (v:= .int .i64 (r:Int)) pV ha rfl aN,hC.step (by decide)⟩
     ·have e8:a'.tmps[8]?.getD undef= .pointer (some ⟨wr.heap.size,0,none⟩):=oD ha (by simp);have hl:s'.getD 15 false=false:=iH dC [14,13,10,9] (by kernel_rfl) (by rfl) aN;refine wpOp_step dV (fun K' hK=> ?_);rw[if_pos (by rfl)];unfold Oper.wp;simp[go_sem,e8,Oper.upon];exact hK _ _ ⟨x,eO (d:=some 91) (v:= .pointer (some ⟨wr.heap.size,1,none⟩)) pV ha rfl aN,hC.step (by decide)⟩
     ·have e91:a'.tmps[91]?.getD undef= .pointer (some ⟨wr.heap.size,1,none⟩):=gT (i:=9) pV ha rfl (by first|simpa using aC|simp[aC]) (by simp);have hl:s'.getD 15 false=false:=iH dC [14,13,10] (by kernel_rfl) (by rfl) aN;have cq:=bK (hC.eY hl) y1;refine wpOp_step dV (fun K' hK=> ?_);rw[if_pos (by rfl)];unfold Oper.wp;simp[go_sem,e91,cq,Oper.upon];exact hK _ _ ⟨x,eO (d:=some 92) (v:= .int .i64 (r:Int)) pV ha rfl aN,hC.step (by decide)⟩
     ·have e8:a'.tmps[8]?.getD undef= .pointer (some ⟨wr.heap.size,0,none⟩):=oD ha (by simp);have hl:s'.getD 15 false=false:=iH dC [14,13,12,11] (by kernel_rfl) (by rfl) aN;refine wpOp_step dV (fun K' hK=> ?_);rw[if_pos (by rfl)];unfold Oper.wp;simp[go_sem,e8,Oper.upon];exact hK _ _ ⟨x,eO (d:=some 93) (v:= .pointer (some ⟨wr.heap.size,2,none⟩)) pV ha rfl aN,hC.step (by decide)⟩
     ·have e93:a'.tmps[93]?.getD undef= .pointer (some ⟨wr.heap.size,2,none⟩):=gT (i:=11) pV ha rfl (by first|simpa using aC|simp[aC]) (by simp);have hl:s'.getD 15 false=false:=iH dC [14,13,12] (by kernel_rfl) (by rfl) aN;have cq:=bK (hC.eY hl) y2;refine wpOp_step dV (fun K' hK=> ?_);rw[if_pos (by rfl)];unfold Oper.wp;simp[go_sem,e93,cq,Oper.upon];exact hK _ _ ⟨x,eO (d:=some 94) (v:= .int .i64 (q:Int)) pV ha rfl aN,hC.step (by decide)⟩
     ·have e92:a'.tmps[92]?.getD undef= .int .i64 (r:Int):=gT (i:=10) pV ha rfl (by first|simpa using aC|simp[aC]) (by simp);have e94:a'.tmps[94]?.getD undef= .int .i64 (q:Int):=gT (i:=12) pV ha rfl (by first|simpa using aC|simp[aC]) (by simp);have hl:s'.getD 15 false=false:=iH dC [14,13] (by kernel_rfl) (by rfl) aN;refine wpOp_step dV (fun K' hK=> ?_);rw[if_pos (by rfl)];unfold Oper.wp;simp[go_sem,e92,e94,m7,Oper.upon];exact hK _ _ ⟨x,eO (d:=some 95) (v:= .int .i64 ((r:Int)+(q:Int))) pV ha rfl aN,hC.step (by decide)⟩
     ·have e88:a'.tmps[88]?.getD undef=S u:=gT (i:=6) pV ha rfl (by first|simpa using aC|simp[aC]) (by simp);have e90:a'.tmps[90]?.getD undef= .int .i64 (r:Int):=gT (i:=8) pV ha rfl (by first|simpa using aC|simp[aC]) (by simp);have e95:a'.tmps[95]?.getD undef= .int .i64 ((r:Int)+(q:Int)):=gT (i:=13) pV ha rfl (by first|simpa using aC|simp[aC]) (by simp);have hl:s'.getD 15 false=false:=iH dC [14] (by kernel_rfl) (by rfl) aN;refine wpOp_step dV (fun K' hK=> ?_);rw[if_pos (by rfl)];unfold Oper.wp;simp[go_sem,e88,e90,e95,sp,i2,i3,i4,Oper.upon];exact hK _ _ ⟨x,eO (d:=some 96) (v:=S ((u.drop r).take q)) pV ha rfl aN,hC.step (by decide)⟩
     ·have e82:a'.tmps[82]?.getD undef=(.slice ao out.length co):=gT (i:=0) pV ha rfl (by first|simpa using aC|simp[aC]) (by simp);have VB:a'.tmps[96]?.getD undef=S ((u.drop r).take q):=gT (i:=14) pV ha rfl (by first|simpa using aC|simp[aC]) (by simp);have hl:s'.getD 15 false=false:=jZ aN;obtain⟨v9,w9,jX,hf9⟩:=Le w' (hC.eY hl);have ha:=ha.trans (uq (L:=Pm ((.slice ao out.length co)) bs os st.length cs0 wr.heap.size (((m:Int)+1)) m ((os+m)) u r q (((u.drop r).take q)) x) (M:=Pm ((.slice ao out.length co)) bs os st.length cs0 wr.heap.size (((m:Int)+1)) m ((os+m)) u r q (((u.drop r).take q)) v9) [15,16] rfl (fun j bn=>by
       rcases j with _|_|_|_|_|_|_|_|_|_|_|_|_|_|_|_|_|j<;>first|rfl|(exact absurd (by decide) bn)|simp) (List.forall_mem_cons.2 ⟨jZ aN,List.forall_mem_cons.2 ⟨Xlg dC (by kernel_rfl) aN,List.forall_mem_nil _⟩⟩))
      refine wpOp_step dV (fun K' hK=> ?_);rw[if_pos (by rfl)];refine Lib.wp_append_run _ _ _ _ _ rfl _ _ (by simp[Act.eval,e82,VB]) (by simp[Act.eval,e82,VB]) v9 w9 (jX _) ?_;exact hK _ _ ⟨v9,eO (d:=some 97) (v:=v9) pV ha rfl aN,Gy.app aN hf9⟩
     ·have ZG:a'.tmps[97]?.getD undef=x:=gT (i:=15) pV ha rfl (by first|simpa using aC|simp[aC]) (by simp);refine wpOp_step dV (fun K' hK=> ?_);rw[if_pos (by rfl)];unfold Oper.wp;simp[go_sem,ZG,Oper.upon];exact hK _ _ ⟨x,eO (d:=some 6) (v:=x) pV ha rfl aN,hC.step (by decide)⟩
    ·rintro x s' a' w8 gz ha hC;have hf8:=hC.fin (gz 15 (by decide));rw[xL _ _ _ _ (fun i hi=>by rw[Nat.zero_add];exact gz i (by simpa using hi))]at ha;subst ha;simp only[eH,Act.put];obtain⟨j5,gP⟩:=hf8;have ZP:=Qh j5;clear j5;go_wp2;go_roundw;case rel=>exact⟨k+1,_,by omega,by go_num,ZP.O,by simp;omega,Hn.O,gP⟩
     case measure=>simp[intOf];omega
  ·have Hn:=Qh (show N=(out,0) by have:=Hr.O;rw[List.drop_of_length_le (by omega)]at this;exact this.symm);have Wm:=Xss bL.O;go_wp2;go_ret2;rw[Hn.O];exact⟨rfl,hb⟩
