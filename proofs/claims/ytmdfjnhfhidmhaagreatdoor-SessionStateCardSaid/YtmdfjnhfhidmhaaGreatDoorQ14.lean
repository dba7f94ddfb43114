/- Lemmas for the claim's theorem;conditions: as each says. -/
import Derived.Test.YtmdfjnhfhidmhaaGreatDoorQ08
import Derived.Test.YtmdfjnhfhidmhaaGreatDoorQ13
import Derived.BigRegion
import Derived.Test.YtmdfjnhfhidmhaaGreatDoorProg
import Derived.OpenShut
import Derived.DataShut
import Derived.Laws.ResultCell
import Derived.Deep.WholeRow
import Derived.Laws.CopyOwn
set_option maxHeartbeats 0
set_option maxRecDepth 100000
set_option linter.all false
namespace Go.Proofs.YtmdfjnhfhidmhaaGreatDoor
open Go.RowKit
variable{w:World}{t:TypeId}{r:Option Nat}{l:List At}{k i:Nat}{w':World}{P:Program}{e:TypeId}{n:Nat}{cs:Array Value}{d:TypeDesc}
def nk(l:List At)(k:Nat):af:=dZ l.length++(l.take k).flatMap fun a=>dL a.k++dL a.v
theorem Xow(hk:k<l.length){x:At}(hx:l[k]=x):nk l (k+1)=nk l k++(dL x.k++dL x.v):=by
 rw[nk,nk,List.take_succ_eq_append_getElem hk,hx,List.flatMap_append,←List.append_assoc];simp
theorem Xqu(l:List At)(h:l.length≤k):nk l k=vG l:=by rw[nk,vG,List.take_of_length_le h]
theorem Xqt(hn:l.length≤16)(h:∀a∈l,a.k.length≤32∧a.v.length≤64)(k:Nat):(nk l k).length≤2300:=by
 have h1:=Qr (l.take k) fun a ha=>h a (List.mem_of_mem_take ha);have h2:=BG l.length (by omega);have h3:(l.take k).length≤l.length:=by simp;omega
 unfold nk;rw[List.length_append];omega
def rZ(d m x:Int):Int:=bits .or .u32 (x / d) (x*m%4294967296)
theorem NB(k:IntKind)(x y:Int):bits .or k x y=bits .or k y x:=by
 simp only[bits,BitVec.or_comm]
def JY(k d m:Int):Prop:=(k=16∧d=65536∧m=65536)∨(k=12∧d=4096∧m=1048576)∨(k=8∧d=256∧m=16777216)∨(k=7∧d=128∧m=33554432)
theorem NC(x:Int)(k d m:Int)(hk:JY k d m)(w:World):
 Calls Tryz.prog 245 #[.int .u32 x,.int .i64 (-k)] w fun e w'=>e= .returned (.int .u32 (rZ d m x))∧w'=w:=by
 rcases hk with⟨rfl,rfl,rfl⟩|⟨rfl,rfl,rfl⟩|⟨rfl,rfl,rfl⟩|⟨rfl,rfl,rfl⟩
 ·have e1:IntKind.u64.wrap (-16)=18446744073709551600:=by decide
  have e2:bits .and .u64 18446744073709551600 31=16:=by decide
  go_enter Tryz.func245,Tryz.ntmps245
  go_wp2;go_ret;exact⟨dK (NB _ _ _),rfl⟩
 ·have e1:IntKind.u64.wrap (-12)=18446744073709551604:=by decide
  have e2:bits .and .u64 18446744073709551604 31=20:=by decide
  go_enter Tryz.func245,Tryz.ntmps245
  go_wp2;go_ret;exact⟨dK (NB _ _ _),rfl⟩
 ·have e1:IntKind.u64.wrap (-8)=18446744073709551608:=by decide
  have e2:bits .and .u64 18446744073709551608 31=24:=by decide
  go_enter Tryz.func245,Tryz.ntmps245
  go_wp2;go_ret;exact⟨dK (NB _ _ _),rfl⟩
 ·have e1:IntKind.u64.wrap (-7)=18446744073709551609:=by decide
  have e2:bits .and .u64 18446744073709551609 31=25:=by decide
  go_enter Tryz.func245,Tryz.ntmps245
  go_wp2;go_ret;exact⟨dK (NB _ _ _),rfl⟩
def row(l:List Int):Array Value:=(l.map fun x=>Value.int .u32 x).toArray
@[simp] theorem fZ (l:List Int):(row l).size=l.length:=by simp[row]
theorem uY{l:List Int}(h:i<l.length):(row l)[i]?=some (.int .u32 (l.getD i 0)):=by
 simp[row,List.getD,List.getElem?_eq_getElem h]
theorem Xrz(l:List Int)(i:Nat)(v:Int):(row l).setIfInBounds i (.int .u32 v)=row (l.set i v):=by
 simp[row,List.map_set]
theorem heap_setCell{b:Nat}{l:List Int}{f:Nat×Nat}(v:Int)(h:w.heap[b]?=some (.cells (row l) t f)):(w.setCell ⟨b,i,none⟩ (.int .u32 v)).heap[b]?=some (.cells (row (l.set i v)) t f):=by
 unfold World.setCell;rw[Array.getElem?_modify,if_pos rfl,h];simp[Xrz]
theorem ND(w:World)(a:Addr)(u:Value):w.grownBy (w.setCell a u) (some a.block):=
 ⟨rfl,rfl,rfl,by simp[World.setCell],fun k _ aZ=>Below.heap_setCell _ _ _ _ (fun e=>aZ (by rw[e]))⟩
theorem Xkc{B:Nat}(h:Below B w w')(hB:w.heap.size≤B):w.grownBy w' r:=
 ⟨h.os,h.tape,h.output,h.size,fun k hk _=>h.block k (by omega)⟩
theorem NE{w1 w2:World}(h:w.grownBy w1 r)(k:w1.grownBy w2 r):w.grownBy w2 r:=
 ⟨k.os.trans h.os,k.tape.trans h.tape,k.output.trans h.output,Nat.le_trans h.size k.size,fun j hj aZ=>(k.block j (Nat.lt_of_lt_of_le hj h.size) aZ).trans (h.block j hj aZ)⟩
theorem Xme(h:w.grownBy w' r):w.grownBy w'.drew r:=⟨h.os,h.tape,h.output,h.size,h.block⟩
def vH(a b c d x y:Int):Int×Int×Int×Int:=
 let a1:=(a+(b+x))%4294967296
 let d1:=rZ 65536 65536 (bits .xor .u32 d a1)
 let c1:=(c+d1)%4294967296
 let b1:=rZ 4096 1048576 (bits .xor .u32 b c1)
 let a2:=(a1+(b1+y))%4294967296
 let d2:=rZ 256 16777216 (bits .xor .u32 d1 a2)
 let c2:=(c1+d2)%4294967296
 (a2,rZ 128 33554432 (bits .xor .u32 b1 c2),c2,d2)
def uA(l:List Int)(a b c d:Nat)(x y:Int):List Int:=
 let r:=vH (l.getD a 0) (l.getD b 0) (l.getD c 0) (l.getD d 0) x y
 (((l.set a r.1).set b r.2.1).set c r.2.2.1).set d r.2.2.2
theorem Xj4(l:List Int)(a b c d:Nat)(x y:Int):(uA l a b c d x y).length=l.length:=by simp[uA]
theorem Xu(b:Nat)(l:List Int)(t:TypeId)(qa qb qc qd:Nat)(x y:Int)(w:World)(hV:w.heap[b]?=some (.cells (row l) t (0,0)))(hz:l.length=16)
 (h1:qa<16) (h2:qb<16) (h3:qc<16) (h4:qd<16) (hab:qa≠qb) (hac:qa≠qc) (U1:qa≠qd) (hbc:qb≠qc) (oh:qb≠qd) (hcd:qc≠qd):
 Calls Tryz.prog 207 #[.pointer (some ⟨b,0,none⟩),.agg #[.int .i64 qa,.int .i64 qb,.int .i64 qc,.int .i64 qd],.int .u32 x,.int .u32 y] w fun e w'=>e= .returned (.tuple #[])∧w.grownBy w' (some b)∧w'.heap[b]?=some (.cells (row (uA l qa qb qc qd x y)) t (0,0)):=by
 have ha:=uY (l:=l) (i:=qa) (by omega);have hb:=uY (l:=l) (i:=qb) (by omega);have hc:=uY (l:=l) (i:=qc) (by omega);have hd:=uY (l:=l) (i:=qd) (by omega);obtain⟨va,QM⟩:∃va,l.getD qa 0=va:=⟨_,rfl⟩;obtain⟨vb,QN⟩:∃vb,l.getD qb 0=vb:=⟨_,rfl⟩;obtain⟨vc,QO⟩:∃vc,l.getD qc 0=vc:=⟨_,rfl⟩;obtain⟨vd,QP⟩:∃vd,l.getD qd 0=vd:=⟨_,rfl⟩;have Hm:=Qh (show uA l qa qb qc qd x y=(((l.set qa (vH va vb vc vd x y).1).set qb (vH va vb vc vd x y).2.1).set qc (vH va vb vc vd x y).2.2.1).set qd (vH va vb vc vd x y).2.2.2 by rw[uA,QM,QN,QO,QP]);rw[QM]at ha;rw[QN]at hb;rw[QO]at hc;rw[QP]at hd;clear QM QN QO QP;generalize Xv:row l=V at hV ha hb hc hd;have HVl:=Qh Xv;clear Xv hz;have ca:=cell_of_row w b qa _ _ _ hV;have cb:=cell_of_row w b qb _ _ _ hV;have cc:=cell_of_row w b qc _ _ _ hV;have cd:=cell_of_row w b qd _ _ _ hV;rw[ha]at ca;rw[hb]at cb;rw[hc]at cc;rw[hd]at cd;have ca':=cell_regrown (jH (.cells #[.int .i64 qa,.int .i64 qb,.int .i64 qc,.int .i64 qd] 239) ca);have cb':=cell_regrown (jH (.cells #[.int .i64 qa,.int .i64 qb,.int .i64 qc,.int .i64 qd] 239) cb);have cc':=cell_regrown (jH (.cells #[.int .i64 qa,.int .i64 qb,.int .i64 qc,.int .i64 qd] 239) cc);have cd':=cell_regrown (jH (.cells #[.int .i64 qa,.int .i64 qb,.int .i64 qc,.int .i64 qd] 239) cd);have QQ:=cell_regrown (show(w.alloc (.cells #[.int .i64 qa,.int .i64 qb,.int .i64 qc,.int .i64 qd] 239)).cell? ⟨w.heap.size,0,none⟩=some (.int .i64 qa) by simp);have QR:=cell_regrown (show(w.alloc (.cells #[.int .i64 qa,.int .i64 qb,.int .i64 qc,.int .i64 qd] 239)).cell? ⟨w.heap.size,1,none⟩=some (.int .i64 qb) by simp);have QS:=cell_regrown (show(w.alloc (.cells #[.int .i64 qa,.int .i64 qb,.int .i64 qc,.int .i64 qd] 239)).cell? ⟨w.heap.size,2,none⟩=some (.int .i64 qc) by simp);have QT:=cell_regrown (show(w.alloc (.cells #[.int .i64 qa,.int .i64 qb,.int .i64 qc,.int .i64 qd] 239)).cell? ⟨w.heap.size,3,none⟩=some (.int .i64 qd) by simp);go_enter Tryz.func207,Tryz.ntmps207
 go_wp2_with fail
 refine wp_region_quiet_below (by kernel_rfl) (by kernel_rfl) ?_;repeat(go_big_quiet_step ((fail)))
 refine wpQuiet_nil ?_;intro w2 dD;have aP:Below (w.alloc (.cells #[.int .i64 qa,.int .i64 qb,.int .i64 qc,.int .i64 qd] 239)).heap.size (w.alloc (.cells #[.int .i64 qa,.int .i64 qb,.int .i64 qc,.int .i64 qd] 239)) w2:=by
  obtain⟨pq,rfl⟩:=dD;exact below_regrown _ _ _
 clear dD;obtain⟨i0,i1,i2,i3⟩:w2.cell? ⟨w.heap.size,0,none⟩=some (.int .i64 qa)∧w2.cell? ⟨w.heap.size,1,none⟩=some (.int .i64 qb)∧w2.cell? ⟨w.heap.size,2,none⟩=some (.int .i64 qc)∧w2.cell? ⟨w.heap.size,3,none⟩=some (.int .i64 qd):=
  ⟨by rw[aP.cell (by simp)];simp,by rw[aP.cell (by simp)];simp,by rw[aP.cell (by simp)];simp,by rw[aP.cell (by simp)];simp⟩
 clear ca' cb' cc' cd' QQ QR QS QT;have bQ:b<w.heap.size:=by simpa using block_lt_of_cell ca
 have O1:b≠w.heap.size:=by omega
 have yn:w2.heap[b]?=some (.cells V t (0,0)):=(aP.block b (by have:=block_lt_of_cell ca;simp;simp at this;omega)).trans ((Below.heap_alloc w _ b (by have:=block_lt_of_cell ca;simpa using this)).trans hV);have Hg:=Qh (show w.grownBy w2 (some b)from Xkc (((Qb _ w).alloc (Qn _) _).trans (aP.mono (by simp))) (Qn _));clear aP;go_wp2_with fail
 refine(NC _ 16 65536 65536 (.inl ⟨rfl,rfl,rfl⟩) _).mono ?_;rintro e w' ⟨rfl,rfl⟩;generalize Bj:rZ 65536 65536 (bits .xor .u32 vd ((va+(vb+x))%4294967296))=D1;have HD1:=Qh Bj;clear Bj;go_wp2_with fail
 refine(NC _ 12 4096 1048576 (.inr (.inl ⟨rfl,rfl,rfl⟩)) _).mono ?_;rintro e w' ⟨rfl,rfl⟩;generalize xA:rZ 4096 1048576 (bits .xor .u32 vb ((vc+D1)%4294967296))=B1;have lX:=Qh xA;clear xA;go_wp2_with fail
 refine(NC _ 8 256 16777216 (.inr (.inr (.inl ⟨rfl,rfl,rfl⟩))) _).mono ?_;rintro e w' ⟨rfl,rfl⟩;generalize hA2:(va+(vb+x)+(B1+y))%4294967296=A2;have HA2:=Qh hA2;clear hA2;generalize Gu:rZ 256 16777216 (bits .xor .u32 D1 A2)=D2;have HD2:=Qh Gu;clear Gu;go_wp2_with fail
 refine(NC _ 7 128 33554432 (.inr (.inr (.inr ⟨rfl,rfl,rfl⟩))) _).mono ?_;rintro e w' ⟨rfl,rfl⟩;generalize hC2:(vc+D1+D2)%4294967296=C2;have Xw:=Qh hC2;clear hC2;generalize mG:rZ 128 33554432 (bits .xor .u32 B1 C2)=B2;have qw:=Qh mG;clear mG;go_wp2_with fail
 clear ca cb cc cd;have ca:=cell_of_row _ b qa _ _ _ yn;have cb:=cell_of_row _ b qb _ _ _ yn;have cc:=cell_of_row _ b qc _ _ _ yn;have cd:=cell_of_row _ b qd _ _ _ yn;rw[ha]at ca;rw[hb]at cb;rw[hc]at cc;rw[hd]at cd;have fa:=frozen_of_row _ b qa _ _ yn;have fb:=frozen_of_row _ b qb _ _ yn;have fc:=frozen_of_row _ b qc _ _ yn;have fd:=frozen_of_row _ b qd _ _ yn;have HV2:=Qh yn;have HV:=Qh hV;clear yn hV ha hb hc hd;rw[HA2.q,Xw.q];go_big_region
 go_end0
 have hm:vH va vb vc vd x y=(A2,B2,C2,D2):=by
  have e1:(va+(vb+x)+(B1+y))%4294967296=((va+(vb+x))%4294967296+(B1+y))%4294967296:=by omega
  have e2:(vc+D1+D2)%4294967296=((vc+D1)%4294967296+D2)%4294967296:=by omega
  unfold vH;simp only[HD1.q,lX.q,←e1,HA2.q,HD2.q,←e2,Xw.q,qw.q]
 rw[Hm.q,hm];have yn:=HV2.q;rw[←HVl.q]at yn;refine⟨rfl,NE Hg.q ?_,heap_setCell _ (heap_setCell _ (heap_setCell _ (heap_setCell _ yn)))⟩;exact Xme (NE (NE (NE (ND _ ⟨b,qa,none⟩ _) (ND _ ⟨b,qb,none⟩ _)) (ND _ ⟨b,qc,none⟩ _)) (ND _ ⟨b,qd,none⟩ _))
def pJ:List Int:=[81985529216486895,16881918945140062035,13312731748010193300,8733003861693448440,10400822202260547645,3200383143768358425,14204332651957162635,15816291393287259690,8064173457993569445,11710614767857974480]
def zy:List (Nat×Nat×Nat×Nat):=[(0,4,8,12),(1,5,9,13),(2,6,10,14),(3,7,11,15),(0,5,10,15),(1,6,11,12),(2,7,8,13),(3,4,9,14)]
def zz:List (List Nat):=[[0,1,2,3,4,5,6,7,8,9,10,11,12,13,14,15],[14,10,4,8,9,15,13,6,1,12,0,2,11,7,5,3],[11,8,12,0,5,2,15,13,10,14,3,6,7,1,9,4],[7,9,3,1,13,12,11,14,2,6,5,10,4,0,15,8],[9,0,5,7,2,4,10,15,14,1,11,12,6,8,3,13],[2,12,6,10,0,11,8,3,4,13,7,5,15,14,1,9],[12,5,1,15,14,13,4,10,0,7,6,3,9,2,8,11],[13,11,7,14,12,1,3,9,5,0,15,4,8,6,2,10],[6,15,14,9,11,3,0,8,12,2,13,7,1,4,10,5],[10,2,8,4,7,6,1,5,15,11,9,14,3,12,13,0]]
def gF(k:Nat):Nat×Nat×Nat×Nat:=zy.getD k (0,0,0,0)
def jL(r i:Nat):Nat:=(zz.getD r []).getD i 0
def r9(r:Nat):Int:=pJ.getD r 0
def rF(m:List Int)(r k:Nat)(v:List Int):List Int:=uA v (gF k).1 (gF k).2.1 (gF k).2.2.1 (gF k).2.2.2 (m.getD (jL r (2*k)) 0) (m.getD (jL r (2*k+1)) 0)
def fM(m:List Int)(r:Nat):Nat→List Int→List Int
 |0,v=>v
 |k+1,v=>rF m r k (fM m r k v)
def gu(m:List Int):Nat→List Int→List Int
 |0,v=>v
 |r+1,v=>fM m r 8 (gu m r v)
theorem Xh7(m:List Int)(r k:Nat)(v:List Int):(rF m r k v).length=v.length:=Xj4 ..
theorem NF(m:List Int)(r:Nat):∀(k:Nat) (v:List Int),(fM m r k v).length=v.length
 |0,_=>rfl
 |k+1,v=>by rw[fM,Xh7,NF m r k v]
theorem JZ(m:List Int):∀(r:Nat) (v:List Int),(gu m r v).length=v.length
 |0,_=>rfl
 |r+1,v=>by rw[gu,NF,JZ m r v]
theorem Xx(k:Nat)(hk:k<8):(gF k).1<16∧(gF k).2.1<16∧(gF k).2.2.1<16∧(gF k).2.2.2<16∧(gF k).1≠(gF k).2.1∧(gF k).1≠(gF k).2.2.1∧(gF k).1≠(gF k).2.2.2∧(gF k).2.1≠(gF k).2.2.1∧(gF k).2.1≠(gF k).2.2.2∧(gF k).2.2.1≠(gF k).2.2.2:=by
 revert k;decide
theorem NG(r i:Nat)(hr:r<10)(hi:i<16):jL r i<16:=by
 revert i;revert r;decide
theorem Xy(r k:Nat)(hr:r<10)(hk:k<8):bits .and .u64 (r9 r / 2^(60-8*k)) 15=(jL r (2*k):Nat)∧bits .and .u64 (r9 r / 2^(56-8*k)) 15=(jL r (2*k+1):Nat):=by
 revert k;revert r;decide
def nu:Array Value:=(pJ.map fun x=>Value.int .u64 x).toArray
def J8(q:Nat×Nat×Nat×Nat):Value:= .agg #[.int .i64 q.1,.int .i64 q.2.1,.int .i64 q.2.2.1,.int .i64 q.2.2.2]
def lh:Array Value:=#[.int .i64 0,.int .i64 4,.int .i64 8,.int .i64 12,.int .i64 1,.int .i64 5,.int .i64 9,.int .i64 13,.int .i64 2,.int .i64 6,.int .i64 10,.int .i64 14,.int .i64 3,.int .i64 7,.int .i64 11,.int .i64 15,.int .i64 0,.int .i64 5,.int .i64 10,.int .i64 15,.int .i64 1,.int .i64 6,.int .i64 11,.int .i64 12,.int .i64 2,.int .i64 7,.int .i64 8,.int .i64 13,.int .i64 3,.int .i64 4,.int .i64 9,.int .i64 14]
def uB:Array Value:=#[.int .i64 0,.int .i64 0,.int .i64 0,.int .i64 0,.int .i64 0,.int .i64 0,.int .i64 0,.int .i64 0,.int .i64 0,.int .i64 0,.int .i64 0,.int .i64 0,.int .i64 0,.int .i64 0,.int .i64 0,.int .i64 0,.int .i64 0,.int .i64 0,.int .i64 0,.int .i64 0,.int .i64 0,.int .i64 0,.int .i64 0,.int .i64 0,.int .i64 0,.int .i64 0,.int .i64 0,.int .i64 0,.int .i64 0,.int .i64 0,.int .i64 0,.int .i64 0]
theorem Xz(k:Nat)(hk:k<8):Value.agg (lh.extract (k*4) (k*4+4))=J8 (gF k):=by
 match k,hk with
 |0,_=>rfl
 |1,_=>rfl
 |2,_=>rfl
 |3,_=>rfl
 |4,_=>rfl
 |5,_=>rfl
 |6,_=>rfl
 |7,_=>rfl
theorem XA(r:Nat)(hr:r<10):nu[r]?=some (.int .u64 (r9 r)):=by
 have h:r<pJ.length:=hr;simp[nu,r9,List.getD,List.getElem?_eq_getElem h]
theorem QU{v:Value}(h:P.underlying t=some (.array n e))(he:P.underlying e=some d)(hd:(match d with| .struct _| .array _ _=>true|_=>false)=false)(hz:(P.info? e).map (·.size)=some 1)
 (i:Nat) (hi:i<n) (hv:cs[i]?=some v) (W:World):(Instr.index t (.agg cs) (.int .i64 (i:Int))).run P W= .ok v W:=by
 cases hq:P.info? e with
 |none=>simp[hq]at hz
 |some x=>
  have hs:x.size=1:=by simpa[hq]using hz
  have Gv:(isAgg e).run P W= .ok false W:=by
   unfold isAgg;rw[Sem.run_bind,run_underlying he W];cases d<;>simp_all
  simp[Instr.index,run_underlying h,asIntOf,hi,go_sem,sizeOf,typeInfo,hq,hs,Gv,hv]
theorem XC{m:Nat}(h:P.underlying t=some (.array n e))(he:P.underlying e=some d)(hd:(match d with| .struct _| .array _ _=>true|_=>false)=true)(hz:(P.info? e).map (·.size)=some m)
 (i:Nat) (hi:i<n) (W:World):(Instr.index t (.agg cs) (.int .i64 (i:Int))).run P W= .ok (.agg (cs.extract (i*m) (i*m+m))) W:=by
 cases hq:P.info? e with
 |none=>simp[hq]at hz
 |some x=>
  have hs:x.size=m:=by simpa[hq]using hz
  have Gv:(isAgg e).run P W= .ok true W:=by
   unfold isAgg;rw[Sem.run_bind,run_underlying he W];cases d<;>simp_all
  simp[Instr.index,run_underlying h,asIntOf,hi,go_sem,sizeOf,typeInfo,hq,hs,Gv]
theorem XD(w:World):Calls Tryz.prog 205 #[] w fun e w'=>e= .returned (.agg nu)∧Below w.heap.size w w':=by
 go_enter Tryz.func205,Tryz.ntmps205
 go_wp2;refine bodyPost_ret (results_cell_row rfl _ _ w.heap.size _ nu (0,0) _ rfl (heap_alloc_new w (.cells nu 237)) Tryz.underlying237 rfl (by kernel_rfl)) rfl ⟨rfl,?_⟩;exact(Qb _ _).alloc (Qn _) _
theorem XE(w:World):Calls Tryz.prog 206 #[] w fun e w'=>e= .returned (.agg lh)∧Below w.heap.size w w':=by
 have hz:=heap_alloc_new w (.cells uB 240);go_enter Tryz.func206,Tryz.ntmps206
 go_wp2_with (refine wpList_store_row rfl 240 _ _ rfl w.heap.size lh rfl rfl 240 uB hz (by kernel_rfl) rfl (by kernel_rfl) ?_)
 refine bodyPost_ret (results_cell_row rfl _ _ w.heap.size _ lh (0,0) _ rfl (setRow_heap _ _ _ _ _ _ hz) Tryz.underlying240 rfl (by kernel_rfl)) rfl ⟨rfl,?_⟩;exact below_setRow ((Qb _ _).alloc (Qn _) _) (Qn _) _
