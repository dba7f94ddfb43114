/- Lemmas for the claim's theorem;conditions: as each says. -/
import Derived.Test.YtegieeommgiknaaGreatDoorU11
import Derived.BigRegion
import Derived.Test.YtegieeommgiknaaGreatDoorProg
import Derived.OpenShut
import Derived.DataShut
import Derived.Laws.ResultCell
import Derived.Deep.WholeRow
import Derived.Laws.CopyOwn
import Derived.StillTailTactics
set_option maxHeartbeats 0
set_option maxRecDepth 100000
set_option linter.all false
namespace Go.Proofs.YtegieeommgiknaaGreatDoor
open Go.RowKit
variable{w:World}{k:Nat}{t:TypeId}{r:Option Nat}{l:List At}{i:Nat}{w':World}{P:Program}{e:TypeId}{n:Nat}{cs:Array Value}{d:TypeDesc}{v':List Int}
def qD(l:List At)(k:Nat):af:=gm l.length++(l.take k).flatMap fun a=>fA a.k++fA a.v
theorem Xm5(hk:k<l.length){x:At}(hx:l[k]=x):qD l (k+1)=qD l k++(fA x.k++fA x.v):=by
 rw[qD,qD,List.take_succ_eq_append_getElem hk,hx,List.flatMap_append,←List.append_assoc];simp
theorem Xpr(l:List At)(h:l.length≤k):qD l k=zP l:=by rw[qD,zP,List.take_of_length_le h]
theorem Xpq(hn:l.length≤16)(h:∀a∈l,a.k.length≤32∧a.v.length≤64)(k:Nat):(qD l k).length≤2300:=by
 have h1:=Xk4 (l.take k) fun a ha=>h a (List.mem_of_mem_take ha);have h2:=Gf l.length (by omega);have h3:(l.take k).length≤l.length:=by simp;omega
 unfold qD;rw[List.length_append];omega
def oI(d m x:Int):Int:=bits .or .u32 (x / d) (x*m%4294967296)
theorem Yr(k:IntKind)(x y:Int):bits .or k x y=bits .or k y x:=by
 simp only[bits,BitVec.or_comm]
def xJ(k d m:Int):Prop:=(k=16∧d=65536∧m=65536)∨(k=12∧d=4096∧m=1048576)∨(k=8∧d=256∧m=16777216)∨(k=7∧d=128∧m=33554432)
theorem Yt(x:Int)(k d m:Int)(hk:xJ k d m)(w:World):
 Calls Tryz.prog 196 #[.int .u32 x,.int .i64 (-k)] w fun e w'=>e= .returned (.int .u32 (oI d m x))∧w'=w:=by
 rcases hk with⟨rfl,rfl,rfl⟩|⟨rfl,rfl,rfl⟩|⟨rfl,rfl,rfl⟩|⟨rfl,rfl,rfl⟩
 ·have e1:IntKind.u64.wrap (-16)=18446744073709551600:=by decide
  have e2:bits .and .u64 18446744073709551600 31=16:=by decide
  go_enter Tryz.func196,Tryz.ntmps196
  go_wp2;go_ret;exact⟨dZ (Yr _ _ _),rfl⟩
 ·have e1:IntKind.u64.wrap (-12)=18446744073709551604:=by decide
  have e2:bits .and .u64 18446744073709551604 31=20:=by decide
  go_enter Tryz.func196,Tryz.ntmps196
  go_wp2;go_ret;exact⟨dZ (Yr _ _ _),rfl⟩
 ·have e1:IntKind.u64.wrap (-8)=18446744073709551608:=by decide
  have e2:bits .and .u64 18446744073709551608 31=24:=by decide
  go_enter Tryz.func196,Tryz.ntmps196
  go_wp2;go_ret;exact⟨dZ (Yr _ _ _),rfl⟩
 ·have e1:IntKind.u64.wrap (-7)=18446744073709551609:=by decide
  have e2:bits .and .u64 18446744073709551609 31=25:=by decide
  go_enter Tryz.func196,Tryz.ntmps196
  go_wp2;go_ret;exact⟨dZ (Yr _ _ _),rfl⟩
theorem Xlt(x:Int)(k d m:Int)(hk:xJ k d m)(w:World):
 Calls Tryz.prog 218 #[.int .u32 x,.int .u64 k] w fun e w'=>e= .returned (.int .u32 (oI d m x))∧w'=w:=by
 rcases hk with⟨rfl,rfl,rfl⟩|⟨rfl,rfl,rfl⟩|⟨rfl,rfl,rfl⟩|⟨rfl,rfl,rfl⟩
 all_goals
  go_enter Tryz.func218,Tryz.ntmps218
  go_wp2;go_ret;exact⟨dZ rfl,rfl⟩
def row(l:List Int):Array Value:=(l.map fun x=>Value.int .u32 x).toArray
@[simp] theorem bZ (l:List Int):(row l).size=l.length:=by simp[row]
theorem sF{l:List Int}(h:i<l.length):(row l)[i]?=some (.int .u32 (l.getD i 0)):=by
 simp[row,List.getD,List.getElem?_eq_getElem h]
theorem Xwq(l:List Int)(i:Nat)(v:Int):(row l).setIfInBounds i (.int .u32 v)=row (l.set i v):=by
 simp[row,List.map_set]
theorem heap_setCell{b:Nat}{l:List Int}{f:Nat×Nat}(v:Int)(h:w.heap[b]?=some (.cells (row l) t f)):(w.setCell ⟨b,i,none⟩ (.int .u32 v)).heap[b]?=some (.cells (row (l.set i v)) t f):=by
 unfold World.setCell;rw[Array.getElem?_modify,if_pos rfl,h];simp[Xwq]
theorem Yu(w:World)(a:Addr)(u:Value):w.grownBy (w.setCell a u) (some a.block):=
 ⟨rfl,rfl,rfl,by simp[World.setCell],fun k _ bq=>Below.heap_setCell _ _ _ _ (fun e=>bq (by rw[e]))⟩
theorem Xn9{B:Nat}(h:Below B w w')(hB:w.heap.size≤B):w.grownBy w' r:=
 ⟨h.os,h.tape,h.output,h.size,fun k hk _=>h.block k (by omega)⟩
theorem Yv{w1 w2:World}(h:w.grownBy w1 r)(k:w1.grownBy w2 r):w.grownBy w2 r:=
 ⟨k.os.trans h.os,k.tape.trans h.tape,k.output.trans h.output,Nat.le_trans h.size k.size,fun j hj bq=>(k.block j (Nat.lt_of_lt_of_le hj h.size) bq).trans (h.block j hj bq)⟩
theorem Xqv(h:w.grownBy w' r):w.grownBy w'.drew r:=⟨h.os,h.tape,h.output,h.size,h.block⟩
def wO(a b c d x y:Int):Int×Int×Int×Int:=
 let a1:=(a+(b+x))%4294967296
 let d1:=oI 65536 65536 (bits .xor .u32 d a1)
 let c1:=(c+d1)%4294967296
 let b1:=oI 4096 1048576 (bits .xor .u32 b c1)
 let a2:=(a1+(b1+y))%4294967296
 let d2:=oI 256 16777216 (bits .xor .u32 d1 a2)
 let c2:=(c1+d2)%4294967296
 (a2,oI 128 33554432 (bits .xor .u32 b1 c2),c2,d2)
def qE(l:List Int)(a b c d:Nat)(x y:Int):List Int:=
 let r:=wO (l.getD a 0) (l.getD b 0) (l.getD c 0) (l.getD d 0) x y
 (((l.set a r.1).set b r.2.1).set c r.2.2.1).set d r.2.2.2
theorem Xfc(l:List Int)(a b c d:Nat)(x y:Int):(qE l a b c d x y).length=l.length:=by simp[qE]
theorem Xto(b:Nat)(l:List Int)(t:TypeId)(qa qb qc qd:Nat)(x y:Int)(w:World)(hV:w.heap[b]?=some (.cells (row l) t (0,0)))(hz:l.length=16)
 (h1:qa<16) (h2:qb<16) (h3:qc<16) (h4:qd<16) (hab:qa≠qb) (hac:qa≠qc) (Md:qa≠qd) (hbc:qb≠qc) (qx:qb≠qd) (hcd:qc≠qd):
 Calls Tryz.prog 157 #[.pointer (some ⟨b,0,none⟩),.agg #[.int .i64 qa,.int .i64 qb,.int .i64 qc,.int .i64 qd],.int .u32 x,.int .u32 y] w fun e w'=>e= .returned (.tuple #[])∧w.grownBy w' (some b)∧w'.heap[b]?=some (.cells (row (qE l qa qb qc qd x y)) t (0,0)):=by
 have ha:=sF (l:=l) (i:=qa) (by omega);have hb:=sF (l:=l) (i:=qb) (by omega);have hc:=sF (l:=l) (i:=qc) (by omega);have hd:=sF (l:=l) (i:=qd) (by omega);obtain⟨va,Pp⟩:∃va,l.getD qa 0=va:=⟨_,rfl⟩;obtain⟨vb,Pq⟩:∃vb,l.getD qb 0=vb:=⟨_,rfl⟩;obtain⟨vc,Ps⟩:∃vc,l.getD qc 0=vc:=⟨_,rfl⟩;obtain⟨vd,Pt⟩:∃vd,l.getD qd 0=vd:=⟨_,rfl⟩;have Hm:=Qh (show qE l qa qb qc qd x y=(((l.set qa (wO va vb vc vd x y).1).set qb (wO va vb vc vd x y).2.1).set qc (wO va vb vc vd x y).2.2.1).set qd (wO va vb vc vd x y).2.2.2 by rw[qE,Pp,Pq,Ps,Pt]);rw[Pp]at ha;rw[Pq]at hb;rw[Ps]at hc;rw[Pt]at hd;clear Pp Pq Ps Pt;generalize hVl:row l=V at hV ha hb hc hd;have HVl:=Qh hVl;clear hVl hz;have ca:=cell_of_row w b qa _ _ _ hV;have cb:=cell_of_row w b qb _ _ _ hV;have cc:=cell_of_row w b qc _ _ _ hV;have cd:=cell_of_row w b qd _ _ _ hV;rw[ha]at ca;rw[hb]at cb;rw[hc]at cc;rw[hd]at cd;have ca':=cell_regrown (kM (.cells #[.int .i64 qa,.int .i64 qb,.int .i64 qc,.int .i64 qd] 194) ca);have cb':=cell_regrown (kM (.cells #[.int .i64 qa,.int .i64 qb,.int .i64 qc,.int .i64 qd] 194) cb);have cc':=cell_regrown (kM (.cells #[.int .i64 qa,.int .i64 qb,.int .i64 qc,.int .i64 qd] 194) cc);have cd':=cell_regrown (kM (.cells #[.int .i64 qa,.int .i64 qb,.int .i64 qc,.int .i64 qd] 194) cd);have acj:=cell_regrown (show(w.alloc (.cells #[.int .i64 qa,.int .i64 qb,.int .i64 qc,.int .i64 qd] 194)).cell? ⟨w.heap.size,0,none⟩=some (.int .i64 qa) by simp);have ack:=cell_regrown (show(w.alloc (.cells #[.int .i64 qa,.int .i64 qb,.int .i64 qc,.int .i64 qd] 194)).cell? ⟨w.heap.size,1,none⟩=some (.int .i64 qb) by simp);have acm:=cell_regrown (show(w.alloc (.cells #[.int .i64 qa,.int .i64 qb,.int .i64 qc,.int .i64 qd] 194)).cell? ⟨w.heap.size,2,none⟩=some (.int .i64 qc) by simp);have acn:=cell_regrown (show(w.alloc (.cells #[.int .i64 qa,.int .i64 qb,.int .i64 qc,.int .i64 qd] 194)).cell? ⟨w.heap.size,3,none⟩=some (.int .i64 qd) by simp);go_enter Tryz.func157,Tryz.ntmps157
 go_wp2_with fail
 refine wp_region_quiet_below (by kernel_rfl) (by kernel_rfl) ?_;repeat(go_big_quiet_step ((fail)))
 refine wpQuiet_nil ?_;intro w2 bJ;have aL:Below (w.alloc (.cells #[.int .i64 qa,.int .i64 qb,.int .i64 qc,.int .i64 qd] 194)).heap.size (w.alloc (.cells #[.int .i64 qa,.int .i64 qb,.int .i64 qc,.int .i64 qd] 194)) w2:=by
  obtain⟨pq,rfl⟩:=bJ;exact below_regrown _ _ _
 clear bJ;obtain⟨i0,i1,i2,i3⟩:w2.cell? ⟨w.heap.size,0,none⟩=some (.int .i64 qa)∧w2.cell? ⟨w.heap.size,1,none⟩=some (.int .i64 qb)∧w2.cell? ⟨w.heap.size,2,none⟩=some (.int .i64 qc)∧w2.cell? ⟨w.heap.size,3,none⟩=some (.int .i64 qd):=
  ⟨by rw[aL.cell (by simp)];simp,by rw[aL.cell (by simp)];simp,by rw[aL.cell (by simp)];simp,by rw[aL.cell (by simp)];simp⟩
 clear ca' cb' cc' cd' acj ack acm acn;have aT:b<w.heap.size:=by simpa using block_lt_of_cell ca
 have N8:b≠w.heap.size:=by omega
 have F3:w2.heap[b]?=some (.cells V t (0,0)):=(aL.block b (by have:=block_lt_of_cell ca;simp;simp at this;omega)).trans ((Below.heap_alloc w _ b (by have:=block_lt_of_cell ca;simpa using this)).trans hV);have Hg:=Qh (show w.grownBy w2 (some b)from Xn9 (((Qb _ w).alloc (Qn _) _).trans (aL.mono (by simp))) (Qn _));clear aL;go_wp2_with fail
 refine(Yt _ 16 65536 65536 (.inl ⟨rfl,rfl,rfl⟩) _).mono ?_;rintro e w' ⟨rfl,rfl⟩;generalize AL:oI 65536 65536 (bits .xor .u32 vd ((va+(vb+x))%4294967296))=D1;have HD1:=Qh AL;clear AL;go_wp2_with fail
 refine(Yt _ 12 4096 1048576 (.inr (.inl ⟨rfl,rfl,rfl⟩)) _).mono ?_;rintro e w' ⟨rfl,rfl⟩;generalize qI:oI 4096 1048576 (bits .xor .u32 vb ((vc+D1)%4294967296))=B1;have kJ:=Qh qI;clear qI;go_wp2_with fail
 refine(Yt _ 8 256 16777216 (.inr (.inr (.inl ⟨rfl,rfl,rfl⟩))) _).mono ?_;rintro e w' ⟨rfl,rfl⟩;generalize hA2:(va+(vb+x)+(B1+y))%4294967296=A2;have HA2:=Qh hA2;clear hA2;generalize JH:oI 256 16777216 (bits .xor .u32 D1 A2)=D2;have HD2:=Qh JH;clear JH;go_wp2_with fail
 refine(Yt _ 7 128 33554432 (.inr (.inr (.inr ⟨rfl,rfl,rfl⟩))) _).mono ?_;rintro e w' ⟨rfl,rfl⟩;generalize Tc:(vc+D1+D2)%4294967296=C2;have HC2:=Qh Tc;clear Tc;generalize gV:oI 128 33554432 (bits .xor .u32 B1 C2)=B2;have nX:=Qh gV;clear gV;go_wp2_with fail
 clear ca cb cc cd;have ca:=cell_of_row _ b qa _ _ _ F3;have cb:=cell_of_row _ b qb _ _ _ F3;have cc:=cell_of_row _ b qc _ _ _ F3;have cd:=cell_of_row _ b qd _ _ _ F3;rw[ha]at ca;rw[hb]at cb;rw[hc]at cc;rw[hd]at cd;have fa:=frozen_of_row _ b qa _ _ F3;have fb:=frozen_of_row _ b qb _ _ F3;have fc:=frozen_of_row _ b qc _ _ F3;have fd:=frozen_of_row _ b qd _ _ F3;have HV2:=Qh F3;have HV:=Qh hV;clear F3 hV ha hb hc hd;rw[HA2.O,HC2.O];go_big_region
 go_end0
 have hm:wO va vb vc vd x y=(A2,B2,C2,D2):=by
  have e1:(va+(vb+x)+(B1+y))%4294967296=((va+(vb+x))%4294967296+(B1+y))%4294967296:=by omega
  have e2:(vc+D1+D2)%4294967296=((vc+D1)%4294967296+D2)%4294967296:=by omega
  unfold wO;simp only[HD1.O,kJ.O,←e1,HA2.O,HD2.O,←e2,HC2.O,nX.O]
 rw[Hm.O,hm];have F3:=HV2.O;rw[←HVl.O]at F3;refine⟨rfl,Yv Hg.O ?_,heap_setCell _ (heap_setCell _ (heap_setCell _ (heap_setCell _ F3)))⟩;exact Xqv (Yv (Yv (Yv (Yu _ ⟨b,qa,none⟩ _) (Yu _ ⟨b,qb,none⟩ _)) (Yu _ ⟨b,qc,none⟩ _)) (Yu _ ⟨b,qd,none⟩ _))
def xK:List Int:=[81985529216486895,16881918945140062035,13312731748010193300,8733003861693448440,10400822202260547645,3200383143768358425,14204332651957162635,15816291393287259690,8064173457993569445,11710614767857974480]
def IQ:List (Nat×Nat×Nat×Nat):=[(0,4,8,12),(1,5,9,13),(2,6,10,14),(3,7,11,15),(0,5,10,15),(1,6,11,12),(2,7,8,13),(3,4,9,14)]
def IR:List (List Nat):=[[0,1,2,3,4,5,6,7,8,9,10,11,12,13,14,15],[14,10,4,8,9,15,13,6,1,12,0,2,11,7,5,3],[11,8,12,0,5,2,15,13,10,14,3,6,7,1,9,4],[7,9,3,1,13,12,11,14,2,6,5,10,4,0,15,8],[9,0,5,7,2,4,10,15,14,1,11,12,6,8,3,13],[2,12,6,10,0,11,8,3,4,13,7,5,15,14,1,9],[12,5,1,15,14,13,4,10,0,7,6,3,9,2,8,11],[13,11,7,14,12,1,3,9,5,0,15,4,8,6,2,10],[6,15,14,9,11,3,0,8,12,2,13,7,1,4,10,5],[10,2,8,4,7,6,1,5,15,11,9,14,3,12,13,0]]
def jE(k:Nat):Nat×Nat×Nat×Nat:=IQ.getD k (0,0,0,0)
def jV(r i:Nat):Nat:=(IR.getD r []).getD i 0
def zR(r:Nat):Int:=xK.getD r 0
def sQ(m:List Int)(r k:Nat)(v:List Int):List Int:=qE v (jE k).1 (jE k).2.1 (jE k).2.2.1 (jE k).2.2.2 (m.getD (jV r (2*k)) 0) (m.getD (jV r (2*k+1)) 0)
def gy(m:List Int)(r:Nat):Nat→List Int→List Int
 |0,v=>v
 |k+1,v=>sQ m r k (gy m r k v)
def gz(m:List Int):Nat→List Int→List Int
 |0,v=>v
 |r+1,v=>gy m r 8 (gz m r v)
theorem Xli(m:List Int)(r k:Nat)(v:List Int):(sQ m r k v).length=v.length:=Xfc ..
theorem R4(m:List Int)(r:Nat):∀(k:Nat) (v:List Int),(gy m r k v).length=v.length
 |0,_=>rfl
 |k+1,v=>by rw[gy,Xli,R4 m r k v]
theorem Le(m:List Int):∀(r:Nat) (v:List Int),(gz m r v).length=v.length
 |0,_=>rfl
 |r+1,v=>by rw[gz,R4,Le m r v]
theorem Yw(k:Nat)(hk:k<8):(jE k).1<16∧(jE k).2.1<16∧(jE k).2.2.1<16∧(jE k).2.2.2<16∧(jE k).1≠(jE k).2.1∧(jE k).1≠(jE k).2.2.1∧(jE k).1≠(jE k).2.2.2∧(jE k).2.1≠(jE k).2.2.1∧(jE k).2.1≠(jE k).2.2.2∧(jE k).2.2.1≠(jE k).2.2.2:=by
 revert k;decide
theorem Nz(r i:Nat)(hr:r<10)(hi:i<16):jV r i<16:=by
 revert i;revert r;decide
theorem Xl4(r k:Nat)(hr:r<10)(hk:k<8):bits .and .u64 (zR r / 2^(60-8*k)) 15=(jV r (2*k):Nat)∧bits .and .u64 (zR r / 2^(56-8*k)) 15=(jV r (2*k+1):Nat):=by
 revert k;revert r;decide
def uM:Array Value:=(xK.map fun x=>Value.int .u64 x).toArray
def EK(q:Nat×Nat×Nat×Nat):Value:= .agg #[.int .i64 q.1,.int .i64 q.2.1,.int .i64 q.2.2.1,.int .i64 q.2.2.2]
def rV:Array Value:=#[.int .i64 0,.int .i64 4,.int .i64 8,.int .i64 12,.int .i64 1,.int .i64 5,.int .i64 9,.int .i64 13,.int .i64 2,.int .i64 6,.int .i64 10,.int .i64 14,.int .i64 3,.int .i64 7,.int .i64 11,.int .i64 15,.int .i64 0,.int .i64 5,.int .i64 10,.int .i64 15,.int .i64 1,.int .i64 6,.int .i64 11,.int .i64 12,.int .i64 2,.int .i64 7,.int .i64 8,.int .i64 13,.int .i64 3,.int .i64 4,.int .i64 9,.int .i64 14]
def BK:Array Value:=#[.int .i64 0,.int .i64 0,.int .i64 0,.int .i64 0,.int .i64 0,.int .i64 0,.int .i64 0,.int .i64 0,.int .i64 0,.int .i64 0,.int .i64 0,.int .i64 0,.int .i64 0,.int .i64 0,.int .i64 0,.int .i64 0,.int .i64 0,.int .i64 0,.int .i64 0,.int .i64 0,.int .i64 0,.int .i64 0,.int .i64 0,.int .i64 0,.int .i64 0,.int .i64 0,.int .i64 0,.int .i64 0,.int .i64 0,.int .i64 0,.int .i64 0,.int .i64 0]
theorem Xjj(k:Nat)(hk:k<8):Value.agg (rV.extract (k*4) (k*4+4))=EK (jE k):=by
 match k,hk with
 |0,_=>rfl
 |1,_=>rfl
 |2,_=>rfl
 |3,_=>rfl
 |4,_=>rfl
 |5,_=>rfl
 |6,_=>rfl
 |7,_=>rfl
theorem Xjm(r:Nat)(hr:r<10):uM[r]?=some (.int .u64 (zR r)):=by
 have h:r<xK.length:=hr;simp[uM,zR,List.getD,List.getElem?_eq_getElem h]
theorem Xdv{v:Value}(h:P.underlying t=some (.array n e))(he:P.underlying e=some d)(hd:(match d with| .struct _| .array _ _=>true|_=>false)=false)(hz:(P.info? e).map (·.size)=some 1)
 (i:Nat) (hi:i<n) (hv:cs[i]?=some v) (W:World):(Instr.index t (.agg cs) (.int .i64 (i:Int))).run P W= .ok v W:=by
 cases hq:P.info? e with
 |none=>simp[hq]at hz
 |some x=>
  have hs:x.size=1:=by simpa[hq]using hz
  have Q6:(isAgg e).run P W= .ok false W:=by
   unfold isAgg;rw[Sem.run_bind,run_underlying he W];cases d<;>simp_all
  simp[Instr.index,run_underlying h,asIntOf,hi,go_sem,sizeOf,typeInfo,hq,hs,Q6,hv]
theorem Xfp{m:Nat}(h:P.underlying t=some (.array n e))(he:P.underlying e=some d)(hd:(match d with| .struct _| .array _ _=>true|_=>false)=true)(hz:(P.info? e).map (·.size)=some m)
 (i:Nat) (hi:i<n) (W:World):(Instr.index t (.agg cs) (.int .i64 (i:Int))).run P W= .ok (.agg (cs.extract (i*m) (i*m+m))) W:=by
 cases hq:P.info? e with
 |none=>simp[hq]at hz
 |some x=>
  have hs:x.size=m:=by simpa[hq]using hz
  have Q6:(isAgg e).run P W= .ok true W:=by
   unfold isAgg;rw[Sem.run_bind,run_underlying he W];cases d<;>simp_all
  simp[Instr.index,run_underlying h,asIntOf,hi,go_sem,sizeOf,typeInfo,hq,hs,Q6]
theorem Xd5(w:World):Calls Tryz.prog 155 #[] w fun e w'=>e= .returned (.agg uM)∧Below w.heap.size w w':=by
 go_enter Tryz.func155,Tryz.ntmps155
 go_wp2;refine bodyPost_ret (results_cell_row rfl _ _ w.heap.size _ uM (0,0) _ rfl (heap_alloc_new w (.cells uM 192)) Tryz.underlying192 rfl (by kernel_rfl)) rfl ⟨rfl,?_⟩;exact(Qb _ _).alloc (Qn _) _
theorem Xm4(w:World):Calls Tryz.prog 156 #[] w fun e w'=>e= .returned (.agg rV)∧Below w.heap.size w w':=by
 have hz:=heap_alloc_new w (.cells BK 195);go_enter Tryz.func156,Tryz.ntmps156
 go_wp2_with (refine wpList_store_row rfl 195 _ _ rfl w.heap.size rV rfl rfl 195 BK hz (by kernel_rfl) rfl (by kernel_rfl) ?_)
 refine bodyPost_ret (results_cell_row rfl _ _ w.heap.size _ rV (0,0) _ rfl (setRow_heap _ _ _ _ _ _ hz) Tryz.underlying195 rfl (by kernel_rfl)) rfl ⟨rfl,?_⟩;exact below_setRow ((Qb _ _).alloc (Qn _) _) (Qn _) _
theorem Pv{α:Type}:∀{l:List α},l.length=8→ ∃a b c d e f g h,l=[a,b,c,d,e,f,g,h]
 | [a,b,c,d,e,f,g,h],_=>⟨a,b,c,d,e,f,g,h,rfl⟩
def nK(s:af)(i:Nat):Int:=((s[i]?.getD 0).toNat:Int)%4294967296
def vF(s:af)(k:Nat):Int:=bits .or .u32 (bits .or .u32 (bits .or .u32 (nK s (4*k)) (nK s (4*k+1)*256%4294967296)) (nK s (4*k+2)*65536%4294967296)) (nK s (4*k+3)*16777216%4294967296)
def oz(s:af)(k:Nat):List Int:=(List.range 16).map fun j=>if j<k then vF s j else 0
def words(s:af):List Int:=(List.range 16).map (vF s)
theorem Xi9(s:af)(k:Nat):(oz s k).length=16:=by simp[oz]
theorem Xk9(s:af)(k:Nat)(_hk:k<16):(oz s k).set k (vF s k)=oz s (k+1):=by
 apply List.ext_getElem
 ·simp[oz]
 ·intro j h1 h2;simp only[oz,List.getElem_set,List.getElem_map,List.getElem_range];by_cases h:k=j
  ·subst h;simp
  ·rw[if_neg h];by_cases hj:j<k
   ·rw[if_pos hj,if_pos (by omega)]
   ·rw[if_neg hj,if_neg (by omega)]
theorem Xne(s:af):oz s 16=words s:=by
 apply List.map_congr_left;intro j hj;rw[if_pos (List.mem_range.1 hj)]
structure Cm (w:World) (hs m v:List Int) (wr:World):Prop where
 below:Below w.heap.size w wr
 size:w.heap.size+1+1+1<wr.heap.size
 b0:wr.heap[w.heap.size]?=some (.cells (row hs) 162 (0,0))
 b1:wr.heap[w.heap.size+1]?=some (.cells (row (List.replicate 8 0)) 162 (0,0))
 b2:wr.heap[w.heap.size+1+1]?=some (.cells (row m) 190 (0,0))
 b3:wr.heap[w.heap.size+1+1+1]?=some (.cells (row v) 190 (0,0))
section
variable {w wr w':World} {hs m v:List Int}
theorem R5{X:World}(hk:X.heap.size=k)(o:Obj):(X.alloc o).heap[k]?=some o:=by subst hk;exact heap_alloc_new _ _
theorem Cm.start(w:World)(hs:List Int):Cm w hs (List.replicate 16 0) (List.replicate 16 0) ((((w.alloc (.cells (row hs) 162)).alloc (.cells (row (List.replicate 8 0)) 162)).alloc (.cells (row (List.replicate 16 0)) 190)).alloc (.cells (row (List.replicate 16 0)) 190)):=by
 refine⟨((((Qb _ _).alloc (Qn _) _).alloc (by simp) _).alloc (by simp;omega) _).alloc (by simp;omega) _,by simp,?_,?_,?_,?_⟩
 ·exact(Below.heap_alloc _ _ _ (by simp;omega)).trans ((Below.heap_alloc _ _ _ (by simp;omega)).trans ((Below.heap_alloc _ _ _ (by simp)).trans (heap_alloc_new _ _)))
 ·exact(Below.heap_alloc _ _ _ (by simp)).trans ((Below.heap_alloc _ _ _ (by simp)).trans (R5 (by simp) _))
 ·exact(Below.heap_alloc _ _ _ (by simp)).trans (R5 (by simp) _)
 ·exact R5 (by simp) _
theorem Cm.pass(h:Cm w hs m v wr)(hb:Below wr.heap.size wr w'):Cm w hs m v w':=by
 have:=h.size;exact⟨h.below.trans (hb.mono h.below.size),by have:=hb.size;omega,(hb.block _ (by omega)).trans h.b0,(hb.block _ (by omega)).trans h.b1,(hb.block _ (by omega)).trans h.b2,(hb.block _ (by omega)).trans h.b3⟩
theorem Cm.drew(h:Cm w hs m v wr):Cm w hs m v wr.drew:=h.pass (Qb _ _).drew
theorem Cm.alloc(h:Cm w hs m v wr)(o:Obj):Cm w hs m v (wr.alloc o):=h.pass ((Qb _ _).alloc (Qn _) o)
theorem Cm.set0(h:Cm w hs m v wr)(i:Nat)(x:Int):Cm w (hs.set i x) m v (wr.setCell ⟨w.heap.size,i,none⟩ (.int .u32 x)):=by
 have o:∀k,k≠w.heap.size→(wr.setCell ⟨w.heap.size,i,none⟩ (.int .u32 x)).heap[k]?=wr.heap[k]? :=fun k hk=>Below.heap_setCell _ _ _ _ hk;exact⟨h.below.setCell (Qn _) _,by simpa[World.setCell]using h.size,heap_setCell _ h.b0,(o _ (by omega)).trans h.b1,(o _ (by omega)).trans h.b2,(o _ (by omega)).trans h.b3⟩
theorem Cm.set2(h:Cm w hs m v wr)(i:Nat)(x:Int):Cm w hs (m.set i x) v (wr.setCell ⟨w.heap.size+1+1,i,none⟩ (.int .u32 x)):=by
 have o:∀k,k≠w.heap.size+1+1→(wr.setCell ⟨w.heap.size+1+1,i,none⟩ (.int .u32 x)).heap[k]?=wr.heap[k]? :=fun k hk=>Below.heap_setCell _ _ _ _ hk;exact⟨h.below.setCell (by show w.heap.size≤w.heap.size+1+1;omega) _,by simpa[World.setCell]using h.size,(o _ (by omega)).trans h.b0,(o _ (by omega)).trans h.b1,heap_setCell _ h.b2,(o _ (by omega)).trans h.b3⟩
theorem Cm.IU(h:Cm w hs m v wr)(i:Nat)(x:Int):Cm w hs m (v.set i x) (wr.setCell ⟨w.heap.size+1+1+1,i,none⟩ (.int .u32 x)):=by
 have o:∀k,k≠w.heap.size+1+1+1→(wr.setCell ⟨w.heap.size+1+1+1,i,none⟩ (.int .u32 x)).heap[k]?=wr.heap[k]? :=fun k hk=>Below.heap_setCell _ _ _ _ hk;exact⟨h.below.setCell (by show w.heap.size≤w.heap.size+1+1+1;omega) _,by simpa[World.setCell]using h.size,(o _ (by omega)).trans h.b0,(o _ (by omega)).trans h.b1,(o _ (by omega)).trans h.b2,heap_setCell _ h.b3⟩
theorem Cm.IV(h:Cm w hs m v wr)(hg:wr.grownBy w' (some (w.heap.size+1+1+1)))(hv:w'.heap[w.heap.size+1+1+1]?=some (.cells (row v') 190 (0,0))):Cm w hs m v' w':=by
 have:=h.size;have o:∀k,k<w.heap.size+1+1+1→w'.heap[k]?=wr.heap[k]? :=fun k hk=>hg.block k (by omega) (fun e=>by injection e;omega);exact⟨h.below.grown hg (by omega) (fun k hk=>by injection hk;omega),by have:=hg.size;omega,(o _ (by omega)).trans h.b0,(o _ (by omega)).trans h.b1,(o _ (by omega)).trans h.b2,hv⟩
theorem Cm.sw(h:Cm w hs m v wr):Cm w hs m v' (wr.setRow (w.heap.size+1+1+1) (row v')):=by
 have o:∀k,k≠w.heap.size+1+1+1→(wr.setRow (w.heap.size+1+1+1) (row v')).heap[k]?=wr.heap[k]? :=fun k hk=>setRow_other _ _ _ _ hk;exact⟨below_setRow h.below (by omega) _,by simpa using h.size,(o _ (by omega)).trans h.b0,(o _ (by omega)).trans h.b1,(o _ (by omega)).trans h.b2,setRow_heap _ _ _ _ _ _ h.b3⟩
end
def gL:List Int:=[1779033703,3144134277,1013904242,2773480762,1359893119,2600822924,528734635,1541459225]
theorem Xi1(w:World):Calls Tryz.prog 111 #[] w fun e w'=>e= .returned (.agg (row gL))∧Below w.heap.size w w':=by
 go_enter Tryz.func111,Tryz.ntmps111
 go_wp2;refine bodyPost_ret (results_cell_row rfl _ _ w.heap.size _ (row gL) (0,0) _ rfl (heap_alloc_new w (.cells (row gL) 162)) Tryz.underlying162 rfl (by kernel_rfl)) rfl ⟨rfl,?_⟩;exact(Qb _ _).alloc (Qn _) _
def uN(hs:List Int)(count:Int)(last:Bool):List Int:=
 let v:=((hs++gL).set 12 (bits .xor .u32 1359893119 (count%4294967296))).set 13 (bits .xor .u32 2600822924 (count / 4294967296%4294967296))
 if last then v.set 14 (bits .xor .u32 IntKind.u32.max 528734635)else v
def kG(hs v:List Int)(k:Nat):List Int:=(List.range 8).map fun j=>if j<k then bits .xor .u32 (hs.getD j 0) (bits .xor .u32 (v.getD j 0) (v.getD (j+8) 0))else hs.getD j 0
theorem Lf(hs v:List Int)(k:Nat):(kG hs v k).length=8:=by simp[kG]
theorem Yx(hs v:List Int)(k:Nat)(hk:k<8):(kG hs v k).getD k 0=hs.getD k 0:=by
 simp[kG,List.getD,hk]
theorem Yy(hs v:List Int)(k:Nat):(kG hs v k).set k (bits .xor .u32 (hs.getD k 0) (bits .xor .u32 (v.getD k 0) (v.getD (k+8) 0)))=kG hs v (k+1):=by
 apply List.ext_getElem
 ·simp[kG]
 ·intro j h1 h2;simp only[kG,List.getElem_set,List.getElem_map,List.getElem_range];by_cases h:k=j
  ·subst h;simp
  ·rw[if_neg h];by_cases hj:j<k
   ·rw[if_pos hj,if_pos (by omega)]
   ·rw[if_neg hj,if_neg (by omega)]
def fq(hs:List Int)(s:af)(count:Int)(last:Bool):List Int:=kG hs (gz (words s) 10 (uN hs count last)) 8
theorem Oz(hs:List Int)(s:af)(count:Int)(last:Bool):(fq hs s count last).length=8:=Lf ..
theorem Yz(hs:List Int)(h:hs.length=8)(count:Int)(last:Bool):(uN hs count last).length=16:=by
 unfold uN;cases last<;>simp[h,gL]
theorem Xg6(hs:List Int)(hh:hs.length=8)(s:af)(Kv:s.length=64)(count:Int)(last:Bool)(w:World):
 Calls Tryz.prog 112 #[.agg (row hs),S s,.int .u64 count,.bool last] w fun e w'=>e= .returned (.tuple #[.agg (row (fq hs s count last)),.int .i64 0])∧Below w.heap.size w w':=by
 obtain⟨h0,h1,h2,h3,h4,h5,h6,h7,rfl⟩:=Pv hh;rw[show row [h0,h1,h2,h3,h4,h5,h6,h7]=#[.int .u32 h0,.int .u32 h1,.int .u32 h2,.int .u32 h3,.int .u32 h4,.int .u32 h5,.int .u32 h6,.int .u32 h7]from rfl];have bS:(s.length:Int)=64:=by omega
 clear hh;have bI:=Qh (Cm.start w [h0,h1,h2,h3,h4,h5,h6,h7]);go_enter Tryz.func112,Tryz.ntmps112
 go_wp2_with fail
 go_loopw [25] (fun s25 wr=> ∃(k:Nat),k≤16∧s25= .int .i64 k∧Cm w [h0,h1,h2,h3,h4,h5,h6,h7] (oz s k) (List.replicate 16 0) wr) (fun i _=>16-(intOf i).toNat)
 case atStart=>exact⟨0,Nat.zero_le _,rfl,bI.O⟩
 case round=>
  clear bI;obtain⟨k,hk,rfl,hm⟩:=hrel;by_cases hlt:k<16
  ·have nU:=cell_of_row wr _ k _ _ _ hm.b2;rw[sF (by rw[Xi9];omega)]at nU;have jN:=frozen_of_row wr _ k _ _ hm.b2;have Hm:=Qh hm;clear hm;have ni:=iG Tryz.underlying9 s (4*(k:Int)) (4*k) (by omega) (by omega);have iY:=iG Tryz.underlying9 s (4*(k:Int)+1) (4*k+1) (by omega) (by omega);have mK:=iG Tryz.underlying9 s (4*(k:Int)+2) (4*k+2) (by omega) (by omega);have wB:=iG Tryz.underlying9 s (4*(k:Int)+3) (4*k+3) (by omega) (by omega);go_wp2_with fail
   go_big_region
   go_wp2;go_roundw;case rel=>exact⟨k+1,by omega,by go_num,by rw[←Xk9 s k hlt];exact(Hm.O.set2 k (vF s k)).drew⟩
   case measure=>simp[intOf];omega
  ·have mJ:k=16:=by omega
   subst mJ;rw[Xne]at hm;go_wp2_with fail
   refine(Xi1 _).mono ?_;rintro e w1 ⟨rfl,aG⟩;have Az:=hm.pass aG;rw[show row gL=#[.int .u32 1779033703,.int .u32 3144134277,.int .u32 1013904242,.int .u32 2773480762,.int .u32 1359893119,.int .u32 2600822924,.int .u32 528734635,.int .u32 1541459225]from rfl];have Nw:=Qh (Az.alloc (.cells (row gL) 162));have Fa:=Az.size;have UK:=Qh (heap_alloc_new w1 (.cells (row gL) 162));clear Az hm aG;go_wp2_with fail
   have e0:(w1.alloc (.cells #[.int .u32 1779033703,.int .u32 3144134277,.int .u32 1013904242,.int .u32 2773480762,.int .u32 1359893119,.int .u32 2600822924,.int .u32 528734635,.int .u32 1541459225] 162))=w1.alloc (.cells (row gL) 162):=rfl;rw[e0];obtain⟨X,hX⟩:∃X,w1.alloc (.cells (row gL) 162)=X:=⟨_,rfl⟩;rw[hX];have Lg:Hid (Cm w [h0,h1,h2,h3,h4,h5,h6,h7] (words s) (List.replicate 16 0) X):=Qh (by rw[←hX];exact Nw.O);have HiX:Hid (X.heap[w1.heap.size]?=some (.cells (row gL) 162 (0,0))):=Qh (by rw[←hX];exact UK.O);have hnX:w1.heap.size<X.heap.size:=by rw[←hX];simp
   clear hX e0 Nw UK;have Q7:∀ty,(Builtin.copy_ #[191,191] ty #[.slice (some ⟨w.heap.size+1+1+1,0,none⟩) 8 16,.slice (some ⟨w.heap.size,0,none⟩) 8 8]).run Tryz.prog X.drew= .ok (.int .i64 8) (X.drew.setRow (w.heap.size+1+1+1) (row ([h0,h1,h2,h3,h4,h5,h6,h7]++List.replicate 8 0))):=by
    intro ty;have jf:∀j v,([.int .u32 h0,.int .u32 h1,.int .u32 h2,.int .u32 h3,.int .u32 h4,.int .u32 h5,.int .u32 h6,.int .u32 h7]:List Value)[j]?=some v→X.drew.cell? ((⟨w.heap.size,0,none⟩:Addr).add j)=some v:=by
     intro j v hj;rw[Addr.add_lit,cell_of_row _ _ _ _ _ _ Lg.O.drew.b0,Nat.zero_add];simpa[row]using hj
    exact JW X.drew 191 191 ty 25 1 (w.heap.size+1+1+1) 0 8 16 ⟨w.heap.size,0,none⟩ 8 8 (row (List.replicate 16 0)) _ _ Tryz.underlying191 (by kernel_rfl) Lg.O.drew.b3 rfl jf (by simp) (by simp[Value.oneCell'])
   go_region_law (refine step_copy_runI rfl _ _ 191 191 rfl _ _ (by simp[Act.eval,Act.put]) (by simp[Act.eval,Act.put]) (Q7 _) ?_)
   go_wp2_with fail
   rw[show [h0,h1,h2,h3,h4,h5,h6,h7,0,0,0,0,0,0,0,0]=[h0,h1,h2,h3,h4,h5,h6,h7]++List.replicate 8 0 from rfl];obtain⟨Y,hY⟩:∃Y,X.drew.setRow (w.heap.size+1+1+1) (row ([h0,h1,h2,h3,h4,h5,h6,h7]++List.replicate 8 0))=Y:=⟨_,rfl⟩;rw[hY];have HmY:Hid (Cm w [h0,h1,h2,h3,h4,h5,h6,h7] (words s) ([h0,h1,h2,h3,h4,h5,h6,h7]++List.replicate 8 0) Y):=Qh (by rw[←hY];exact Lg.O.drew.sw);have HiY:Hid (Y.heap[w1.heap.size]?=some (.cells (row gL) 162 (0,0))):=Qh (by rw[←hY,setRow_other _ _ _ _ (by omega)];exact HiX.O);clear hY Q7 Lg HiX hnX;have Q7:∀ty,(Builtin.copy_ #[191,191] ty #[.slice (some ⟨w.heap.size+1+1+1,8,none⟩) 8 8,.slice (some ⟨w1.heap.size,0,none⟩) 8 8]).run Tryz.prog Y.drew= .ok (.int .i64 8) (Y.drew.setRow (w.heap.size+1+1+1) (row ([h0,h1,h2,h3,h4,h5,h6,h7]++gL))):=by
    intro ty;have jf:∀j v,((row gL).toList)[j]?=some v→Y.drew.cell? ((⟨w1.heap.size,0,none⟩:Addr).add j)=some v:=by
     intro j v hj;rw[Addr.add_lit,cell_of_row Y.drew w1.heap.size _ (row gL) _ _ HiY.O,Nat.zero_add];simpa using hj
    exact JW Y.drew 191 191 ty 25 1 (w.heap.size+1+1+1) 8 8 8 ⟨w1.heap.size,0,none⟩ 8 8 (row ([h0,h1,h2,h3,h4,h5,h6,h7]++List.replicate 8 0)) _ _ Tryz.underlying191 (by kernel_rfl) HmY.O.drew.b3 rfl jf (by simp[gL]) (by simp[row,Value.oneCell'])
   go_region_law (refine step_copy_runI rfl _ _ 191 191 rfl _ _ (by simp[Act.eval,Act.put]) (by simp[Act.eval,Act.put]) (Q7 _) ?_)
   go_upto_region 12 with fail
   rw[show(h0::h1::h2::h3::h4::h5::h6::h7::gL)=[h0,h1,h2,h3,h4,h5,h6,h7]++gL from rfl];obtain⟨Z,hZ⟩:∃Z,Y.drew.setRow (w.heap.size+1+1+1) (row ([h0,h1,h2,h3,h4,h5,h6,h7]++gL))=Z:=⟨_,rfl⟩;rw[hZ];have NA:Cm w [h0,h1,h2,h3,h4,h5,h6,h7] (words s) ([h0,h1,h2,h3,h4,h5,h6,h7]++gL) Z:=by rw[←hZ];exact HmY.O.drew.sw
   clear hZ Q7 HmY HiY;have c12:Z.cell? ⟨w.heap.size+1+1+1,12,none⟩=some (.int .u32 1359893119):=(cell_of_row Z _ 12 _ _ _ NA.b3).trans rfl;have c13:Z.cell? ⟨w.heap.size+1+1+1,13,none⟩=some (.int .u32 2600822924):=(cell_of_row Z _ 13 _ _ _ NA.b3).trans rfl;have c14:Z.cell? ⟨w.heap.size+1+1+1,14,none⟩=some (.int .u32 528734635):=(cell_of_row Z _ 14 _ _ _ NA.b3).trans rfl;have f12:=frozen_of_row Z _ 12 _ _ NA.b3;have f13:=frozen_of_row Z _ 13 _ _ NA.b3;have f14:=frozen_of_row Z _ 14 _ _ NA.b3;have YA:=Qh NA;clear NA;cases last with
   |true=>
    go_wp2_with fail
    refine(Xd5 _).mono ?_;rintro e w3 ⟨rfl,dO⟩;have BL:Cm w [h0,h1,h2,h3,h4,h5,h6,h7] (words s) (uN [h0,h1,h2,h3,h4,h5,h6,h7] count true) w3:=Cm.pass (((YA.O.IU 12 _).IU 13 _).IU 14 _) dO;have Pw:=Qh BL;obtain⟨v0,Aj⟩:∃v0,uN [h0,h1,h2,h3,h4,h5,h6,h7] count true=v0:=⟨_,rfl⟩;have FJ:=Qh Aj;rw[Aj]at BL;clear Aj Pw;have F4:v0.length=16:=by rw[←FJ.O];exact Yz _ rfl _ _
    clear c12 c13 c14 f12 f13 f14 YA dO;go_wp2_with fail
    go_loopw [86] (fun s86 wr=> ∃r:Nat,r≤10∧s86= .int .i64 r∧Cm w [h0,h1,h2,h3,h4,h5,h6,h7] (words s) (gz (words s) r v0) wr) (fun i _=>10-(intOf i).toNat)
    case atStart=>exact⟨0,Nat.zero_le _,rfl,BL⟩
    case round=>
     clear BL;obtain⟨r,hr,rfl,vP⟩:=hrel;by_cases nL:r<10
     ·have hpx:=Xdv (P:=Tryz.prog) Tryz.underlying192 Tryz.underlying166 rfl (by kernel_rfl) r nL (Xjm r nL);obtain⟨vr,Dp⟩:∃vr,gz (words s) r v0=vr:=⟨_,rfl⟩;have IW:=Qh Dp;rw[Dp]at vP;clear Dp;have Q8:vr.length=16:=by rw[←IW.O,Le,F4]
      go_wp2_with fail
      refine(Xm4 _).mono ?_;rintro e w4 ⟨rfl,aS⟩;have Lh:=vP.pass aS;clear vP aS;go_wp2_with fail
      go_loopw [90] (fun s90 wr=> ∃k:Nat,k≤8∧s90= .int .i64 k∧Cm w [h0,h1,h2,h3,h4,h5,h6,h7] (words s) (gy (words s) r k vr) wr) (fun i _=>8-(intOf i).toNat)
      case atStart=>exact⟨0,Nat.zero_le _,rfl,Lh⟩
      case round=>
       clear Lh;obtain⟨k,hk,rfl,kr⟩:=hrel;by_cases j5:k<8
       ·have hqx:∀W,(Instr.index 195 (.agg rV) (.int .i64 (k:Int))).run Tryz.prog W= .ok (.agg #[.int .i64 (jE k).1,.int .i64 (jE k).2.1,.int .i64 (jE k).2.2.1,.int .i64 (jE k).2.2.2]) W:=fun W=>by
         rw[Xfp (P:=Tryz.prog) (m:=4) Tryz.underlying195 Tryz.underlying194 rfl (by kernel_rfl) k j5,Xjj k j5];rfl
        have tO:=Qh kr;clear kr;go_wp2_with fail
        obtain⟨qa,qb,qc,qd,hq⟩:∃qa qb qc qd,jE k=(qa,qb,qc,qd):=⟨_,_,_,_,rfl⟩;have sK:=Yw k j5;have bI:=Qh (show sQ (words s) r k (gy (words s) r k vr)=qE (gy (words s) r k vr) qa qb qc qd ((words s).getD (jV r (2*k)) 0) ((words s).getD (jV r (2*k+1)) 0) by rw[sQ,hq]);rw[hq]at sK ⊢;have Hqo:=Qh sK;clear hq sK hpx hqx;obtain⟨JI,IX⟩:=Xl4 r k nL j5;have uX:=Nz r (2*k) nL (by omega);have pV:=Nz r (2*k+1) nL (by omega);generalize jV r (2*k)=sx at JI uX bI;generalize jV r (2*k+1)=sy at IX pV bI;refine wp_region_quiet_below (by kernel_rfl) (by kernel_rfl) ?_;repeat(go_big_quiet_step ((fail)))
        refine wpQuiet_nil ?_;intro w5 bJ;have df:Below (wr.alloc (.cells #[.int .i64 qa,.int .i64 qb,.int .i64 qc,.int .i64 qd] 194)).heap.size (wr.alloc (.cells #[.int .i64 qa,.int .i64 qb,.int .i64 qc,.int .i64 qd] 194)) w5:=by
         obtain⟨pq,rfl⟩:=bJ;exact below_regrown _ _ _
        clear bJ;have Dq:=(tO.O.alloc _).pass df;have k0:w5.cell? ⟨wr.heap.size,0,none⟩=some (.int .i64 qa):=by rw[df.cell (by simp)];simp
        have k1:w5.cell? ⟨wr.heap.size,1,none⟩=some (.int .i64 qb):=by rw[df.cell (by simp)];simp
        have k2:w5.cell? ⟨wr.heap.size,2,none⟩=some (.int .i64 qc):=by rw[df.cell (by simp)];simp
        have k3:w5.cell? ⟨wr.heap.size,3,none⟩=some (.int .i64 qd):=by rw[df.cell (by simp)];simp
        have m0:w5.cell? ⟨w.heap.size+1+1,sx,none⟩=some (.int .u32 ((words s).getD sx 0)):=(cell_of_row w5 _ sx _ _ _ Dq.b2).trans (sF (by simpa[words]using uX));have m1:w5.cell? ⟨w.heap.size+1+1,sy,none⟩=some (.int .u32 ((words s).getD sy 0)):=(cell_of_row w5 _ sy _ _ _ Dq.b2).trans (sF (by simpa[words]using pV));generalize(words s).getD sx 0=mx at m0 bI;generalize(words s).getD sy 0=my at m1 bI;have FK:=Qh Dq;clear Dq df JI IX tO;go_wp2_with fail
        have k0d:({heap:=w5.heap,tape:=w5.tape,drawn:=w5.drawn+1,os:=w5.os,output:=w5.output}:World).cell? ⟨wr.heap.size,0,none⟩=some (.int .i64 qa):=k0;have YB:({heap:=w5.heap,tape:=w5.tape,drawn:=w5.drawn+1,os:=w5.os,output:=w5.output}:World).cell? ⟨wr.heap.size,1,none⟩=some (.int .i64 qb):=k1;have YC:({heap:=w5.heap,tape:=w5.tape,drawn:=w5.drawn+1,os:=w5.os,output:=w5.output}:World).cell? ⟨wr.heap.size,2,none⟩=some (.int .i64 qc):=k2;have k3d:({heap:=w5.heap,tape:=w5.tape,drawn:=w5.drawn+1,os:=w5.os,output:=w5.output}:World).cell? ⟨wr.heap.size,3,none⟩=some (.int .i64 qd):=k3;have m0d:({heap:=w5.heap,tape:=w5.tape,drawn:=w5.drawn+1,os:=w5.os,output:=w5.output}:World).cell? ⟨w.heap.size+1+1,sx,none⟩=some (.int .u32 mx):=m0;have m1d:({heap:=w5.heap,tape:=w5.tape,drawn:=w5.drawn+1,os:=w5.os,output:=w5.output}:World).cell? ⟨w.heap.size+1+1,sy,none⟩=some (.int .u32 my):=m1;have WU:(sx:Int)<16:=by omega
        have Ml:(sy:Int)<16:=by omega
        have hi3:(0:Int)≤sx:=by omega
        have Q9:(0:Int)≤sy:=by omega
        go_still_tail 7,(by kernel_rfl)
        change wpList _ _ _ _ _ w5.drew;have Dr:Hid (Cm w [h0,h1,h2,h3,h4,h5,h6,h7] (words s) (gy (words s) r k vr) w5.drew):=Qh FK.O.drew;generalize w5.drew=w6 at Dr;go_wp2_with fail
        have rF:=Hqo.O;refine(Xto (w.heap.size+1+1+1) (gy (words s) r k vr) 190 qa qb qc qd mx my w6 Dr.O.b3 (by rw[R4,Q8]) rF.1 rF.2.1 rF.2.2.1 rF.2.2.2.1 rF.2.2.2.2.1 rF.2.2.2.2.2.1 rF.2.2.2.2.2.2.1 rF.2.2.2.2.2.2.2.1 rF.2.2.2.2.2.2.2.2.1 rF.2.2.2.2.2.2.2.2.2).mono ?_;rintro e w7 ⟨rfl,iy,hv7⟩;have hm7:=Dr.O.IV iy hv7;go_wp2;go_roundw;case rel=>exact⟨k+1,by omega,by go_num,by rw[gy,bI.O];exact hm7⟩
        case measure=>simp[intOf];omega
       ·have mJ:k=8:=by omega
        subst mJ;go_wp2_with fail
        go_roundw;case rel=>exact⟨r+1,by omega,by go_num,by rw[gz,IW.O];exact kr⟩
        case measure=>simp[intOf];omega
     ·have Fb:r=10:=by omega
      obtain⟨v,hv⟩:∃v,gz (words s) r v0=v:=⟨_,rfl⟩;have Hv:=Qh hv;have Ra:v.length=16:=by rw[←hv,Le,F4]
      rw[hv]at vP;clear hv;go_wp2_with fail
      go_loopw [116] (fun Px wr=> ∃k:Nat,k≤8∧Px= .int .i64 k∧Cm w (kG [h0,h1,h2,h3,h4,h5,h6,h7] v k) (words s) v wr) (fun i _=>8-(intOf i).toNat)
      case atStart=>exact⟨0,Nat.zero_le _,rfl,vP⟩
      case round=>
       clear vP;obtain⟨k,hk,rfl,kr⟩:=hrel;by_cases j5:k<8
       ·have pI:=Lf [h0,h1,h2,h3,h4,h5,h6,h7] v k;have a0:=(cell_of_row wr _ k _ _ _ kr.b0).trans (sF (by rw[pI];exact j5));have a1:=(cell_of_row wr _ k _ _ _ kr.b3).trans (sF (l:=v) (by omega));have a2:=(cell_of_row wr _ (k+8) _ _ _ kr.b3).trans (sF (l:=v) (by omega));have a3:=frozen_of_row wr _ k _ _ kr.b0;rw[Yx _ _ _ j5]at a0;have vQ:=Yy [h0,h1,h2,h3,h4,h5,h6,h7] v k;generalize List.getD [h0,h1,h2,h3,h4,h5,h6,h7] k 0=x0 at a0 vQ;generalize v.getD k 0=x1 at a1 vQ;generalize v.getD (k+8) 0=x2 at a2 vQ;have JY:=Qh vQ;have tO:=Qh kr;clear kr pI vQ;go_wp2_with fail
        go_big_region
        go_wp2;go_roundw;case rel=>exact⟨k+1,by omega,by go_num,by rw[←JY.O];exact(tO.O.set0 k _).drew⟩
        case measure=>simp[intOf];omega
       ·have pI:=Lf [h0,h1,h2,h3,h4,h5,h6,h7] v k;have jM:kG [h0,h1,h2,h3,h4,h5,h6,h7] v k=fq [h0,h1,h2,h3,h4,h5,h6,h7] s count true:=by
         rw[fq,FJ.O,←Fb,Hv.O,show k=8 by omega]
        generalize kG [h0,h1,h2,h3,h4,h5,h6,h7] v k=F at kr pI jM;have rA:=Qh jM;have yI:(Tryz.prog.info? 162).map (·.size)=some (row F).size:=by rw[bZ,pI];kernel_rfl
        have Gg:(row (List.replicate 8 0)).size=(row F).size:=by rw[bZ,bZ,pI];rfl
        have xL:(row F).all (·.oneCell')=true:=by simp[row,Value.oneCell']
        have b0:=kr.b0;have b1:=kr.b1;have tO:=Qh kr;clear kr jM
        go_wp2_with (first
         |(refine wpList_load_row rfl 162 _ rfl w.heap.size rfl 162 (row F) (0,0) _ b0 Tryz.underlying162 rfl yI ?_)
         |(refine wpList_store_row rfl 162 _ _ rfl (w.heap.size+1) (row F) rfl rfl 162 (row (List.replicate 8 0)) b1 yI Gg xL ?_))
        try simp only[Exit.inBlock,Exit.then]
        refine bodyPost_ret (v:= .tuple #[.agg (row F),.int .i64 0]) ?_ rfl ⟨?_,?_⟩
        ·rw[results_cell_tmp rfl];simp[asAddr,run_loadVar_row _ (w.heap.size+1) 162 162 (row F) (0,0) _ (setRow_heap _ _ _ _ _ _ b1) Tryz.underlying162 rfl yI]
        ·rw[rA.O]
        ·exact below_setRow tO.O.below (by omega) _
   |false=>
    go_wp2_with fail
    refine(Xd5 _).mono ?_;rintro e w3 ⟨rfl,dO⟩;have BL:Cm w [h0,h1,h2,h3,h4,h5,h6,h7] (words s) (uN [h0,h1,h2,h3,h4,h5,h6,h7] count false) w3:=Cm.pass ((YA.O.IU 12 _).IU 13 _) dO;have Pw:=Qh BL;obtain⟨v0,Aj⟩:∃v0,uN [h0,h1,h2,h3,h4,h5,h6,h7] count false=v0:=⟨_,rfl⟩;have FJ:=Qh Aj;rw[Aj]at BL;clear Aj Pw;have F4:v0.length=16:=by rw[←FJ.O];exact Yz _ rfl _ _
    clear c12 c13 c14 f12 f13 f14 YA dO;go_wp2_with fail
    go_loopw [86] (fun s86 wr=> ∃r:Nat,r≤10∧s86= .int .i64 r∧Cm w [h0,h1,h2,h3,h4,h5,h6,h7] (words s) (gz (words s) r v0) wr) (fun i _=>10-(intOf i).toNat)
    case atStart=>exact⟨0,Nat.zero_le _,rfl,BL⟩
    case round=>
     clear BL;obtain⟨r,hr,rfl,vP⟩:=hrel;by_cases nL:r<10
     ·have hpx:=Xdv (P:=Tryz.prog) Tryz.underlying192 Tryz.underlying166 rfl (by kernel_rfl) r nL (Xjm r nL);obtain⟨vr,Dp⟩:∃vr,gz (words s) r v0=vr:=⟨_,rfl⟩;have IW:=Qh Dp;rw[Dp]at vP;clear Dp;have Q8:vr.length=16:=by rw[←IW.O,Le,F4]
      go_wp2_with fail
      refine(Xm4 _).mono ?_;rintro e w4 ⟨rfl,aS⟩;have Lh:=vP.pass aS;clear vP aS;go_wp2_with fail
      go_loopw [90] (fun s90 wr=> ∃k:Nat,k≤8∧s90= .int .i64 k∧Cm w [h0,h1,h2,h3,h4,h5,h6,h7] (words s) (gy (words s) r k vr) wr) (fun i _=>8-(intOf i).toNat)
      case atStart=>exact⟨0,Nat.zero_le _,rfl,Lh⟩
      case round=>
       clear Lh;obtain⟨k,hk,rfl,kr⟩:=hrel;by_cases j5:k<8
       ·have hqx:∀W,(Instr.index 195 (.agg rV) (.int .i64 (k:Int))).run Tryz.prog W= .ok (.agg #[.int .i64 (jE k).1,.int .i64 (jE k).2.1,.int .i64 (jE k).2.2.1,.int .i64 (jE k).2.2.2]) W:=fun W=>by
         rw[Xfp (P:=Tryz.prog) (m:=4) Tryz.underlying195 Tryz.underlying194 rfl (by kernel_rfl) k j5,Xjj k j5];rfl
        have tO:=Qh kr;clear kr;go_wp2_with fail
        obtain⟨qa,qb,qc,qd,hq⟩:∃qa qb qc qd,jE k=(qa,qb,qc,qd):=⟨_,_,_,_,rfl⟩;have sK:=Yw k j5;have bI:=Qh (show sQ (words s) r k (gy (words s) r k vr)=qE (gy (words s) r k vr) qa qb qc qd ((words s).getD (jV r (2*k)) 0) ((words s).getD (jV r (2*k+1)) 0) by rw[sQ,hq]);rw[hq]at sK ⊢;have Hqo:=Qh sK;clear hq sK hpx hqx;obtain⟨JI,IX⟩:=Xl4 r k nL j5;have uX:=Nz r (2*k) nL (by omega);have pV:=Nz r (2*k+1) nL (by omega);generalize jV r (2*k)=sx at JI uX bI;generalize jV r (2*k+1)=sy at IX pV bI;refine wp_region_quiet_below (by kernel_rfl) (by kernel_rfl) ?_;repeat(go_big_quiet_step ((fail)))
        refine wpQuiet_nil ?_;intro w5 bJ;have df:Below (wr.alloc (.cells #[.int .i64 qa,.int .i64 qb,.int .i64 qc,.int .i64 qd] 194)).heap.size (wr.alloc (.cells #[.int .i64 qa,.int .i64 qb,.int .i64 qc,.int .i64 qd] 194)) w5:=by
         obtain⟨pq,rfl⟩:=bJ;exact below_regrown _ _ _
        clear bJ;have Dq:=(tO.O.alloc _).pass df;have k0:w5.cell? ⟨wr.heap.size,0,none⟩=some (.int .i64 qa):=by rw[df.cell (by simp)];simp
        have k1:w5.cell? ⟨wr.heap.size,1,none⟩=some (.int .i64 qb):=by rw[df.cell (by simp)];simp
        have k2:w5.cell? ⟨wr.heap.size,2,none⟩=some (.int .i64 qc):=by rw[df.cell (by simp)];simp
        have k3:w5.cell? ⟨wr.heap.size,3,none⟩=some (.int .i64 qd):=by rw[df.cell (by simp)];simp
        have m0:w5.cell? ⟨w.heap.size+1+1,sx,none⟩=some (.int .u32 ((words s).getD sx 0)):=(cell_of_row w5 _ sx _ _ _ Dq.b2).trans (sF (by simpa[words]using uX));have m1:w5.cell? ⟨w.heap.size+1+1,sy,none⟩=some (.int .u32 ((words s).getD sy 0)):=(cell_of_row w5 _ sy _ _ _ Dq.b2).trans (sF (by simpa[words]using pV));generalize(words s).getD sx 0=mx at m0 bI;generalize(words s).getD sy 0=my at m1 bI;have FK:=Qh Dq;clear Dq df JI IX tO;go_wp2_with fail
        have k0d:({heap:=w5.heap,tape:=w5.tape,drawn:=w5.drawn+1,os:=w5.os,output:=w5.output}:World).cell? ⟨wr.heap.size,0,none⟩=some (.int .i64 qa):=k0;have YB:({heap:=w5.heap,tape:=w5.tape,drawn:=w5.drawn+1,os:=w5.os,output:=w5.output}:World).cell? ⟨wr.heap.size,1,none⟩=some (.int .i64 qb):=k1;have YC:({heap:=w5.heap,tape:=w5.tape,drawn:=w5.drawn+1,os:=w5.os,output:=w5.output}:World).cell? ⟨wr.heap.size,2,none⟩=some (.int .i64 qc):=k2;have k3d:({heap:=w5.heap,tape:=w5.tape,drawn:=w5.drawn+1,os:=w5.os,output:=w5.output}:World).cell? ⟨wr.heap.size,3,none⟩=some (.int .i64 qd):=k3;have m0d:({heap:=w5.heap,tape:=w5.tape,drawn:=w5.drawn+1,os:=w5.os,output:=w5.output}:World).cell? ⟨w.heap.size+1+1,sx,none⟩=some (.int .u32 mx):=m0;have m1d:({heap:=w5.heap,tape:=w5.tape,drawn:=w5.drawn+1,os:=w5.os,output:=w5.output}:World).cell? ⟨w.heap.size+1+1,sy,none⟩=some (.int .u32 my):=m1;have WU:(sx:Int)<16:=by omega
        have Ml:(sy:Int)<16:=by omega
        have hi3:(0:Int)≤sx:=by omega
        have Q9:(0:Int)≤sy:=by omega
        go_still_tail 7,(by kernel_rfl)
        change wpList _ _ _ _ _ w5.drew;have Dr:Hid (Cm w [h0,h1,h2,h3,h4,h5,h6,h7] (words s) (gy (words s) r k vr) w5.drew):=Qh FK.O.drew;generalize w5.drew=w6 at Dr;go_wp2_with fail
        have rF:=Hqo.O;refine(Xto (w.heap.size+1+1+1) (gy (words s) r k vr) 190 qa qb qc qd mx my w6 Dr.O.b3 (by rw[R4,Q8]) rF.1 rF.2.1 rF.2.2.1 rF.2.2.2.1 rF.2.2.2.2.1 rF.2.2.2.2.2.1 rF.2.2.2.2.2.2.1 rF.2.2.2.2.2.2.2.1 rF.2.2.2.2.2.2.2.2.1 rF.2.2.2.2.2.2.2.2.2).mono ?_;rintro e w7 ⟨rfl,iy,hv7⟩;have hm7:=Dr.O.IV iy hv7;go_wp2;go_roundw;case rel=>exact⟨k+1,by omega,by go_num,by rw[gy,bI.O];exact hm7⟩
        case measure=>simp[intOf];omega
       ·have mJ:k=8:=by omega
        subst mJ;go_wp2_with fail
        go_roundw;case rel=>exact⟨r+1,by omega,by go_num,by rw[gz,IW.O];exact kr⟩
        case measure=>simp[intOf];omega
     ·have Fb:r=10:=by omega
      obtain⟨v,hv⟩:∃v,gz (words s) r v0=v:=⟨_,rfl⟩;have Hv:=Qh hv;have Ra:v.length=16:=by rw[←hv,Le,F4]
      rw[hv]at vP;clear hv;go_wp2_with fail
      go_loopw [116] (fun Px wr=> ∃k:Nat,k≤8∧Px= .int .i64 k∧Cm w (kG [h0,h1,h2,h3,h4,h5,h6,h7] v k) (words s) v wr) (fun i _=>8-(intOf i).toNat)
      case atStart=>exact⟨0,Nat.zero_le _,rfl,vP⟩
      case round=>
       clear vP;obtain⟨k,hk,rfl,kr⟩:=hrel;by_cases j5:k<8
       ·have pI:=Lf [h0,h1,h2,h3,h4,h5,h6,h7] v k;have a0:=(cell_of_row wr _ k _ _ _ kr.b0).trans (sF (by rw[pI];exact j5));have a1:=(cell_of_row wr _ k _ _ _ kr.b3).trans (sF (l:=v) (by omega));have a2:=(cell_of_row wr _ (k+8) _ _ _ kr.b3).trans (sF (l:=v) (by omega));have a3:=frozen_of_row wr _ k _ _ kr.b0;rw[Yx _ _ _ j5]at a0;have vQ:=Yy [h0,h1,h2,h3,h4,h5,h6,h7] v k;generalize List.getD [h0,h1,h2,h3,h4,h5,h6,h7] k 0=x0 at a0 vQ;generalize v.getD k 0=x1 at a1 vQ;generalize v.getD (k+8) 0=x2 at a2 vQ;have JY:=Qh vQ;have tO:=Qh kr;clear kr pI vQ;go_wp2_with fail
        go_big_region
        go_wp2;go_roundw;case rel=>exact⟨k+1,by omega,by go_num,by rw[←JY.O];exact(tO.O.set0 k _).drew⟩
        case measure=>simp[intOf];omega
       ·have pI:=Lf [h0,h1,h2,h3,h4,h5,h6,h7] v k;have jM:kG [h0,h1,h2,h3,h4,h5,h6,h7] v k=fq [h0,h1,h2,h3,h4,h5,h6,h7] s count false:=by
         rw[fq,FJ.O,←Fb,Hv.O,show k=8 by omega]
        generalize kG [h0,h1,h2,h3,h4,h5,h6,h7] v k=F at kr pI jM;have rA:=Qh jM;have yI:(Tryz.prog.info? 162).map (·.size)=some (row F).size:=by rw[bZ,pI];kernel_rfl
        have Gg:(row (List.replicate 8 0)).size=(row F).size:=by rw[bZ,bZ,pI];rfl
        have xL:(row F).all (·.oneCell')=true:=by simp[row,Value.oneCell']
        have b0:=kr.b0;have b1:=kr.b1;have tO:=Qh kr;clear kr jM
        go_wp2_with (first
         |(refine wpList_load_row rfl 162 _ rfl w.heap.size rfl 162 (row F) (0,0) _ b0 Tryz.underlying162 rfl yI ?_)
         |(refine wpList_store_row rfl 162 _ _ rfl (w.heap.size+1) (row F) rfl rfl 162 (row (List.replicate 8 0)) b1 yI Gg xL ?_))
        try simp only[Exit.inBlock,Exit.then]
        refine bodyPost_ret (v:= .tuple #[.agg (row F),.int .i64 0]) ?_ rfl ⟨?_,?_⟩
        ·rw[results_cell_tmp rfl];simp[asAddr,run_loadVar_row _ (w.heap.size+1) 162 162 (row F) (0,0) _ (setRow_heap _ _ _ _ _ _ b1) Tryz.underlying162 rfl yI]
        ·rw[rA.O]
        ·exact below_setRow tO.O.below (by omega) _
