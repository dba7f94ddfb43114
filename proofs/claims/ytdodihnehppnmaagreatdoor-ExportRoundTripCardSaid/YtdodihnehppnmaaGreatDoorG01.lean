/- Lemmas for the claim's theorem;conditions: as each says. -/
import Derived.Test.YtdodihnehppnmaaGreatDoorG00
import Derived.Laws.ResultCell
import Derived.Deep.WholeRow
import Derived.Laws.CopyOwn
import Derived.Shelf.Spec.SlicesInsert
import Derived.Lib.AppendZerosOnto
set_option maxHeartbeats 0
set_option maxRecDepth 100000
set_option linter.all false
namespace Go.Proofs.YtdodihnehppnmaaGreatDoor
open Go.RowKit
variable{P:Program}{t e:TypeId}{n:Nat}{cs:Array Value}{d:TypeDesc}
theorem Xve(b:Nat)(l:List Int)(t:TypeId)(qa qb qc qd:Nat)(x y:Int)(w:World)(hV:w.heap[b]?=some (.cells (row l) t (0,0)))(hz:l.length=16)
 (h1:qa<16) (h2:qb<16) (h3:qc<16) (h4:qd<16) (hab:qa≠qb) (hac:qa≠qc) (had:qa≠qd) (hbc:qb≠qc) (tJ:qb≠qd) (hcd:qc≠qd):
 Calls Tryz.prog 126 #[.pointer (some ⟨b,0,none⟩),.agg #[.int .i64 qa,.int .i64 qb,.int .i64 qc,.int .i64 qd],.int .u32 x,.int .u32 y] w fun e w'=>e= .returned (.tuple #[])∧w.grownBy w' (some b)∧w'.heap[b]?=some (.cells (row (nH l qa qb qc qd x y)) t (0,0)):=by
 have ha:=oI (l:=l) (i:=qa) (by omega);have hb:=oI (l:=l) (i:=qb) (by omega);have hc:=oI (l:=l) (i:=qc) (by omega);have hd:=oI (l:=l) (i:=qd) (by omega);obtain⟨va,JY⟩:∃va,l.getD qa 0=va:=⟨_,rfl⟩;obtain⟨vb,JZ⟩:∃vb,l.getD qb 0=vb:=⟨_,rfl⟩;obtain⟨vc,J6⟩:∃vc,l.getD qc 0=vc:=⟨_,rfl⟩;obtain⟨vd,Ka⟩:∃vd,l.getD qd 0=vd:=⟨_,rfl⟩;have Hm:=Qh (show nH l qa qb qc qd x y=(((l.set qa (sG va vb vc vd x y).1).set qb (sG va vb vc vd x y).2.1).set qc (sG va vb vc vd x y).2.2.1).set qd (sG va vb vc vd x y).2.2.2 by rw[nH,JY,JZ,J6,Ka]);rw[JY]at ha;rw[JZ]at hb;rw[J6]at hc;rw[Ka]at hd;clear JY JZ J6 Ka;generalize hVl:row l=V at hV ha hb hc hd;have HVl:=Qh hVl;clear hVl hz;have ca:=cell_of_row w b qa _ _ _ hV;have cb:=cell_of_row w b qb _ _ _ hV;have cc:=cell_of_row w b qc _ _ _ hV;have cd:=cell_of_row w b qd _ _ _ hV;rw[ha]at ca;rw[hb]at cb;rw[hc]at cc;rw[hd]at cd;have ca':=cell_regrown (gD (.cells #[.int .i64 qa,.int .i64 qb,.int .i64 qc,.int .i64 qd] 164) ca);have cb':=cell_regrown (gD (.cells #[.int .i64 qa,.int .i64 qb,.int .i64 qc,.int .i64 qd] 164) cb);have cc':=cell_regrown (gD (.cells #[.int .i64 qa,.int .i64 qb,.int .i64 qc,.int .i64 qd] 164) cc);have cd':=cell_regrown (gD (.cells #[.int .i64 qa,.int .i64 qb,.int .i64 qc,.int .i64 qd] 164) cd);have Vz:=cell_regrown (show(w.alloc (.cells #[.int .i64 qa,.int .i64 qb,.int .i64 qc,.int .i64 qd] 164)).cell? ⟨w.heap.size,0,none⟩=some (.int .i64 qa) by simp);have VB:=cell_regrown (show(w.alloc (.cells #[.int .i64 qa,.int .i64 qb,.int .i64 qc,.int .i64 qd] 164)).cell? ⟨w.heap.size,1,none⟩=some (.int .i64 qb) by simp);have VD:=cell_regrown (show(w.alloc (.cells #[.int .i64 qa,.int .i64 qb,.int .i64 qc,.int .i64 qd] 164)).cell? ⟨w.heap.size,2,none⟩=some (.int .i64 qc) by simp);have VE:=cell_regrown (show(w.alloc (.cells #[.int .i64 qa,.int .i64 qb,.int .i64 qc,.int .i64 qd] 164)).cell? ⟨w.heap.size,3,none⟩=some (.int .i64 qd) by simp);go_enter Tryz.func126,Tryz.ntmps126
 go_wp2_with fail
 refine wp_region_quiet_below (by kernel_rfl) (by kernel_rfl) ?_;repeat(go_big_quiet_step ((fail)))
 refine wpQuiet_nil ?_;intro w2 bg;have aD:Below (w.alloc (.cells #[.int .i64 qa,.int .i64 qb,.int .i64 qc,.int .i64 qd] 164)).heap.size (w.alloc (.cells #[.int .i64 qa,.int .i64 qb,.int .i64 qc,.int .i64 qd] 164)) w2:=by
  obtain⟨pq,rfl⟩:=bg;exact below_regrown _ _ _
 clear bg;obtain⟨i0,i1,i2,i3⟩:w2.cell? ⟨w.heap.size,0,none⟩=some (.int .i64 qa)∧w2.cell? ⟨w.heap.size,1,none⟩=some (.int .i64 qb)∧w2.cell? ⟨w.heap.size,2,none⟩=some (.int .i64 qc)∧w2.cell? ⟨w.heap.size,3,none⟩=some (.int .i64 qd):=
  ⟨by rw[aD.cell (by simp)];simp,by rw[aD.cell (by simp)];simp,by rw[aD.cell (by simp)];simp,by rw[aD.cell (by simp)];simp⟩
 clear ca' cb' cc' cd' Vz VB VD VE;have jY:b<w.heap.size:=by simpa using block_lt_of_cell ca
 have UH:b≠w.heap.size:=by omega
 have Cu:w2.heap[b]?=some (.cells V t (0,0)):=(aD.block b (by have:=block_lt_of_cell ca;simp;simp at this;omega)).trans ((Below.heap_alloc w _ b (by have:=block_lt_of_cell ca;simpa using this)).trans hV);have Hg:=Qh (show w.grownBy w2 (some b)from Xox (((Qb _ w).alloc (Qn _) _).trans (aD.mono (by simp))) (Qn _));clear aD;go_wp2_with fail
 refine(SG _ 16 65536 65536 (.inl ⟨rfl,rfl,rfl⟩) _).mono ?_;rintro e w' ⟨rfl,rfl⟩;generalize FO:l5 65536 65536 (bits .xor .u32 vd ((va+(vb+x))%4294967296))=D1;have RF:=Qh FO;clear FO;go_wp2_with fail
 refine(SG _ 12 4096 1048576 (.inr (.inl ⟨rfl,rfl,rfl⟩)) _).mono ?_;rintro e w' ⟨rfl,rfl⟩;generalize RG:l5 4096 1048576 (bits .xor .u32 vb ((vc+D1)%4294967296))=B1;have gT:=Qh RG;clear RG;go_wp2_with fail
 refine(SG _ 8 256 16777216 (.inr (.inr (.inl ⟨rfl,rfl,rfl⟩))) _).mono ?_;rintro e w' ⟨rfl,rfl⟩;generalize hA2:(va+(vb+x)+(B1+y))%4294967296=A2;have HA2:=Qh hA2;clear hA2;generalize Oc:l5 256 16777216 (bits .xor .u32 D1 A2)=D2;have RH:=Qh Oc;clear Oc;go_wp2_with fail
 refine(SG _ 7 128 33554432 (.inr (.inr (.inr ⟨rfl,rfl,rfl⟩))) _).mono ?_;rintro e w' ⟨rfl,rfl⟩;generalize Od:(vc+D1+D2)%4294967296=C2;have HC2:=Qh Od;clear Od;generalize H9:l5 128 33554432 (bits .xor .u32 B1 C2)=B2;have nL:=Qh H9;clear H9;go_wp2_with fail
 clear ca cb cc cd;have ca:=cell_of_row _ b qa _ _ _ Cu;have cb:=cell_of_row _ b qb _ _ _ Cu;have cc:=cell_of_row _ b qc _ _ _ Cu;have cd:=cell_of_row _ b qd _ _ _ Cu;rw[ha]at ca;rw[hb]at cb;rw[hc]at cc;rw[hd]at cd;have fa:=frozen_of_row _ b qa _ _ Cu;have fb:=frozen_of_row _ b qb _ _ Cu;have fc:=frozen_of_row _ b qc _ _ Cu;have fd:=frozen_of_row _ b qd _ _ Cu;have HV2:=Qh Cu;have HV:=Qh hV;clear Cu hV ha hb hc hd;rw[HA2.O,HC2.O];go_big_region
 go_end0
 have hm:sG va vb vc vd x y=(A2,B2,C2,D2):=by
  have e1:(va+(vb+x)+(B1+y))%4294967296=((va+(vb+x))%4294967296+(B1+y))%4294967296:=by omega
  have e2:(vc+D1+D2)%4294967296=((vc+D1)%4294967296+D2)%4294967296:=by omega
  unfold sG;simp only[RF.O,gT.O,←e1,HA2.O,RH.O,←e2,HC2.O,nL.O]
 rw[Hm.O,hm];have Cu:=HV2.O;rw[←HVl.O]at Cu;refine⟨rfl,SI Hg.O ?_,heap_setCell _ (heap_setCell _ (heap_setCell _ (heap_setCell _ Cu)))⟩;exact Xrp (SI (SI (SI (SH _ ⟨b,qa,none⟩ _) (SH _ ⟨b,qb,none⟩ _)) (SH _ ⟨b,qc,none⟩ _)) (SH _ ⟨b,qd,none⟩ _))
def tV:List Int:=[81985529216486895,16881918945140062035,13312731748010193300,8733003861693448440,10400822202260547645,3200383143768358425,14204332651957162635,15816291393287259690,8064173457993569445,11710614767857974480]
def Dj:List (Nat×Nat×Nat×Nat):=[(0,4,8,12),(1,5,9,13),(2,6,10,14),(3,7,11,15),(0,5,10,15),(1,6,11,12),(2,7,8,13),(3,4,9,14)]
def Dk:List (List Nat):=[[0,1,2,3,4,5,6,7,8,9,10,11,12,13,14,15],[14,10,4,8,9,15,13,6,1,12,0,2,11,7,5,3],[11,8,12,0,5,2,15,13,10,14,3,6,7,1,9,4],[7,9,3,1,13,12,11,14,2,6,5,10,4,0,15,8],[9,0,5,7,2,4,10,15,14,1,11,12,6,8,3,13],[2,12,6,10,0,11,8,3,4,13,7,5,15,14,1,9],[12,5,1,15,14,13,4,10,0,7,6,3,9,2,8,11],[13,11,7,14,12,1,3,9,5,0,15,4,8,6,2,10],[6,15,14,9,11,3,0,8,12,2,13,7,1,4,10,5],[10,2,8,4,7,6,1,5,15,11,9,14,3,12,13,0]]
def iC(k:Nat):Nat×Nat×Nat×Nat:=Dj.getD k (0,0,0,0)
def iN(r i:Nat):Nat:=(Dk.getD r []).getD i 0
def wz(r:Nat):Int:=tV.getD r 0
def oZ(m:List Int)(r k:Nat)(v:List Int):List Int:=nH v (iC k).1 (iC k).2.1 (iC k).2.2.1 (iC k).2.2.2 (m.getD (iN r (2*k)) 0) (m.getD (iN r (2*k+1)) 0)
def dZ(m:List Int)(r:Nat):Nat→List Int→List Int
 |0,v=>v
 |k+1,v=>oZ m r k (dZ m r k v)
def eu(m:List Int):Nat→List Int→List Int
 |0,v=>v
 |r+1,v=>dZ m r 8 (eu m r v)
theorem Xlx(m:List Int)(r k:Nat)(v:List Int):(oZ m r k v).length=v.length:=Vy ..
theorem Na(m:List Int)(r:Nat):∀(k:Nat) (v:List Int),(dZ m r k v).length=v.length
 |0,_=>rfl
 |k+1,v=>by rw[dZ,Xlx,Na m r k v]
theorem F3(m:List Int):∀(r:Nat) (v:List Int),(eu m r v).length=v.length
 |0,_=>rfl
 |r+1,v=>by rw[eu,Na,F3 m r v]
theorem SK(k:Nat)(hk:k<8):(iC k).1<16∧(iC k).2.1<16∧(iC k).2.2.1<16∧(iC k).2.2.2<16∧(iC k).1≠(iC k).2.1∧(iC k).1≠(iC k).2.2.1∧(iC k).1≠(iC k).2.2.2∧(iC k).2.1≠(iC k).2.2.1∧(iC k).2.1≠(iC k).2.2.2∧(iC k).2.2.1≠(iC k).2.2.2:=by
 revert k;decide
theorem Iz(r i:Nat)(hr:r<10)(hi:i<16):iN r i<16:=by
 revert i;revert r;decide
theorem Xmn(r k:Nat)(hr:r<10)(hk:k<8):bits .and .u64 (wz r / 2^(60-8*k)) 15=(iN r (2*k):Nat)∧bits .and .u64 (wz r / 2^(56-8*k)) 15=(iN r (2*k+1):Nat):=by
 revert k;revert r;decide
def qf:Array Value:=(tV.map fun x=>Value.int .u64 x).toArray
def AJ(q:Nat×Nat×Nat×Nat):Value:= .agg #[.int .i64 q.1,.int .i64 q.2.1,.int .i64 q.2.2.1,.int .i64 q.2.2.2]
def oC:Array Value:=#[.int .i64 0,.int .i64 4,.int .i64 8,.int .i64 12,.int .i64 1,.int .i64 5,.int .i64 9,.int .i64 13,.int .i64 2,.int .i64 6,.int .i64 10,.int .i64 14,.int .i64 3,.int .i64 7,.int .i64 11,.int .i64 15,.int .i64 0,.int .i64 5,.int .i64 10,.int .i64 15,.int .i64 1,.int .i64 6,.int .i64 11,.int .i64 12,.int .i64 2,.int .i64 7,.int .i64 8,.int .i64 13,.int .i64 3,.int .i64 4,.int .i64 9,.int .i64 14]
def xX:Array Value:=#[.int .i64 0,.int .i64 0,.int .i64 0,.int .i64 0,.int .i64 0,.int .i64 0,.int .i64 0,.int .i64 0,.int .i64 0,.int .i64 0,.int .i64 0,.int .i64 0,.int .i64 0,.int .i64 0,.int .i64 0,.int .i64 0,.int .i64 0,.int .i64 0,.int .i64 0,.int .i64 0,.int .i64 0,.int .i64 0,.int .i64 0,.int .i64 0,.int .i64 0,.int .i64 0,.int .i64 0,.int .i64 0,.int .i64 0,.int .i64 0,.int .i64 0,.int .i64 0]
theorem Xj0(k:Nat)(hk:k<8):Value.agg (oC.extract (k*4) (k*4+4))=AJ (iC k):=by
 match k,hk with
 |0,_=>rfl
 |1,_=>rfl
 |2,_=>rfl
 |3,_=>rfl
 |4,_=>rfl
 |5,_=>rfl
 |6,_=>rfl
 |7,_=>rfl
theorem Xj3(r:Nat)(hr:r<10):qf[r]?=some (.int .u64 (wz r)):=by
 have h:r<tV.length:=hr;simp[qf,wz,List.getD,List.getElem?_eq_getElem h]
theorem VF{v:Value}(h:P.underlying t=some (.array n e))(he:P.underlying e=some d)(hd:(match d with| .struct _| .array _ _=>true|_=>false)=false)(hz:(P.info? e).map (·.size)=some 1)
 (i:Nat) (hi:i<n) (hv:cs[i]?=some v) (W:World):(Instr.index t (.agg cs) (.int .i64 (i:Int))).run P W= .ok v W:=by
 cases hq:P.info? e with
 |none=>simp[hq]at hz
 |some x=>
  have hs:x.size=1:=by simpa[hq]using hz
  have LW:(isAgg e).run P W= .ok false W:=by
   unfold isAgg;rw[Sem.run_bind,run_underlying he W];cases d<;>simp_all
  simp[Instr.index,run_underlying h,asIntOf,hi,go_sem,sizeOf,typeInfo,hq,hs,LW,hv]
theorem Xfo{m:Nat}(h:P.underlying t=some (.array n e))(he:P.underlying e=some d)(hd:(match d with| .struct _| .array _ _=>true|_=>false)=true)(hz:(P.info? e).map (·.size)=some m)
 (i:Nat) (hi:i<n) (W:World):(Instr.index t (.agg cs) (.int .i64 (i:Int))).run P W= .ok (.agg (cs.extract (i*m) (i*m+m))) W:=by
 cases hq:P.info? e with
 |none=>simp[hq]at hz
 |some x=>
  have hs:x.size=m:=by simpa[hq]using hz
  have LW:(isAgg e).run P W= .ok true W:=by
   unfold isAgg;rw[Sem.run_bind,run_underlying he W];cases d<;>simp_all
  simp[Instr.index,run_underlying h,asIntOf,hi,go_sem,sizeOf,typeInfo,hq,hs,LW]
theorem Xd8(w:World):Calls Tryz.prog 124 #[] w fun e w'=>e= .returned (.agg qf)∧Below w.heap.size w w':=by
 go_enter Tryz.func124,Tryz.ntmps124
 go_wp2;refine bodyPost_ret (results_cell_row rfl _ _ w.heap.size _ qf (0,0) _ rfl (heap_alloc_new w (.cells qf 162)) Tryz.underlying162 rfl (by kernel_rfl)) rfl ⟨rfl,?_⟩;exact(Qb _ _).alloc (Qn _) _
theorem Xns(w:World):Calls Tryz.prog 125 #[] w fun e w'=>e= .returned (.agg oC)∧Below w.heap.size w w':=by
 have hz:=heap_alloc_new w (.cells xX 165);go_enter Tryz.func125,Tryz.ntmps125
 go_wp2_with (refine wpList_store_row rfl 165 _ _ rfl w.heap.size oC rfl rfl 165 xX hz (by kernel_rfl) rfl (by kernel_rfl) ?_)
 refine bodyPost_ret (results_cell_row rfl _ _ w.heap.size _ oC (0,0) _ rfl (setRow_heap _ _ _ _ _ _ hz) Tryz.underlying165 rfl (by kernel_rfl)) rfl ⟨rfl,?_⟩;exact below_setRow ((Qb _ _).alloc (Qn _) _) (Qn _) _
theorem Fg(w:World)(dT sT ty elem:TypeId)(size g o dLen dCap:Nat)(a:Addr)(sLen sCap:Nat)(cur:Array Value)(t:TypeId)(cs:List Value)
 (hu:P.underlying dT=some (.slice elem)) (hs:(P.info? elem).map (·.size)=some size)
 (hg:w.heap[g]?=some (.cells cur t (0,0))) (hn:cs.length=Nat.min sLen dLen*size)
 (ZV:∀j v,cs[j]?=some v→w.cell? (a.add j)=some v) (nk:o+cs.length≤cur.size) (h1:∀v∈cs,v.oneCell'=true):
 (Builtin.copy_ #[dT,sT] ty #[.slice (some ⟨g,o,none⟩) dLen dCap,.slice (some a) sLen sCap]).run P w=
   .ok (goInt (Nat.min sLen dLen)) (w.setRow g (cur.toList.take o++cs++cur.toList.drop (o+cs.length)).toArray):=by
 have fO:=run_storeCells_at P g o t cs 0 cur w hg (by simpa using nk) h1;cases hq:P.info? elem with
 |none=>simp[hq]at hs
 |some i=>
  have hi:i.size=size:=by simpa[hq]using hs
  have hf:=run_firstCells_some (P:=P) w i.size (Nat.min sLen dLen) a sLen sCap cs (by rw[hi];exact hn) ZV;simp only[Nat.min_def]at hf ⊢;simp[Builtin.copy_,run_underlying hu,Builtin.lenOf,sizeOf,typeInfo,hq,Nat.min_def,hf,fO]
def over(cur:Array Value)(o:Nat)(cs:List Value):Array Value:=(cur.toList.take o++cs++cur.toList.drop (o+cs.length)).toArray
theorem CG(cur:Array Value)(o:Nat)(cs:List Value)(h:o+cs.length≤cur.size):(over cur o cs).size=cur.size:=by
 simp[over];omega
theorem VG(cur:Array Value)(o:Nat)(cs:List Value)(h:o≤cur.size):(over cur o cs).toList.take (o+cs.length)=cur.toList.take o++cs:=by
 simp only[over];rw[List.take_append_of_le_length (by simp;omega)];rw[List.take_of_length_le (by simp;omega)]
theorem insert_row(cur:Array Value)(xs news:List Value)(p k:Nat)(hp:p≤xs.length)(hx:cur.toList.take xs.length=xs)(hk:news.length=k)(eU:xs.length+k≤cur.size):
 (over (over cur (p+k) (xs.drop p)) p news).toList.take (xs.length+k)=xs.take p++news++xs.drop p:=by
 have iK:cur.toList.length=cur.size:=by simp
 have h1:(over cur (p+k) (xs.drop p)).toList=cur.toList.take (p+k)++xs.drop p++cur.toList.drop (p+k+(xs.drop p).length):=rfl;have h2:∀c:Array Value,(over c p news).toList=c.toList.take p++news++c.toList.drop (p+k):=fun c=>by simp[over,hk]
 rw[h2,h1];have e1:(cur.toList.take (p+k)++xs.drop p++cur.toList.drop (p+k+(xs.drop p).length)).take p=xs.take p:=by
  rw[List.append_assoc,List.take_append_of_le_length (by simp;omega),List.take_take,Nat.min_eq_left (by omega)];conv=>rhs;rw[←hx]
  rw[List.take_take,Nat.min_eq_left hp]
 have e2:(cur.toList.take (p+k)++xs.drop p++cur.toList.drop (p+k+(xs.drop p).length)).drop (p+k)=xs.drop p++cur.toList.drop (p+k+(xs.drop p).length):=by
  rw[List.append_assoc,List.drop_append_of_le_length (by simp;omega)];rw[List.drop_eq_nil_of_le (by simp;omega),List.nil_append]
 rw[e1,e2,←List.append_assoc,List.take_append_of_le_length (by simp;omega),List.take_of_length_le (by simp;omega)]
theorem Xim(cur:Array Value)(xs news:List Value)(p k:Nat)(hp:p≤xs.length)(hx:cur.toList.take p=xs.take p)(hk:news.length=k)(eU:xs.length+k≤cur.size):
 (over (over cur p news) (p+k) (xs.drop p)).toList.take (xs.length+k)=xs.take p++news++xs.drop p:=by
 have h1:=VG cur p news (by omega);rw[hk,hx]at h1;have h2:=VG (over cur p news) (p+k) (xs.drop p) (by rw[CG _ _ _ (by omega)];omega);rw[h1,List.length_drop,show p+k+(xs.length-p)=xs.length+k by omega]at h2;exact h2
theorem Bp{w:World}{g:Nat}{cur:Array Value}:w.grownBy (w.setRow g cur) (some g):=
 ⟨rfl,rfl,rfl,by simp,fun k _ hk=>setRow_other w g k _ (fun e=>hk (by rw[e]))⟩
theorem Nb{a b c:World}{row:Option Nat}(h:a.grownBy b row)(k:b.grownBy c row):a.grownBy c row:=
 ⟨k.os.trans h.os,k.tape.trans h.tape,k.output.trans h.output,Nat.le_trans h.size k.size,fun j hj cK=>(k.block j (Nat.lt_of_lt_of_le hj h.size) cK).trans (h.block j hj cK)⟩
