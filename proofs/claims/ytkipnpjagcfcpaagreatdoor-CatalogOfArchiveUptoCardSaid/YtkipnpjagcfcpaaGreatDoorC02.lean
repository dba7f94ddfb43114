/-
  Walks and laws that the claim's theorem uses: texts BmB BmP RowK BmC PbB PbC PbD Dat AtBx ShT AtK AtL PeA ShU LiA BmS HiP Trj HiQ HiR, joined; comments out. Conditions: as each theorem says.
-/
import Derived.Test.YtkipnpjagcfcpaaGreatDoorC01
import Derived.Laws.ResultCell
import Derived.Deep.WholeRow
import Derived.Laws.CopyOwn
import Derived.Shelf.Spec.SlicesInsert
import Derived.Lib.AppendZerosOnto
import Derived.StillTailTactics
import Derived.Lib.AtoiAll
import Derived.Shelf.Strings.SlTrimAscii
import Derived.Test.YtkipnpjagcfcpaaGreatDoorProg
import Derived.Lib.SmallJoins
import Derived.Lib.AppendIntMem
import Derived.Shelf.Strings.Builder1
import Derived.Shelf.Strings.Builder2
import Derived.Shelf.Strings.Repeat
import Derived.Shelf.Strings.LastIndex
import Derived.Lib.Repeat
import Derived.Laws.MakeOwn
set_option linter.all false
namespace Go.Proofs.YtkipnpjagcfcpaaGreatDoor
open Go.RowKit
set_option maxRecDepth 100000 in
set_option maxHeartbeats 1000000 in
theorem Xru (b:Nat) (l:List Int) (t:TypeId) (qa qb qc qd:Nat) (x y:Int) (w:World) (hV:w.heap[b]? =some (.cells (row l) t (0,0))) (hz:l.length=16)
 (h1:qa<16) (h2:qb<16) (h3:qc<16) (h4:qd<16) (hab:qa≠qb) (hac:qa≠qc) (had:qa≠qd) (hbc:qb≠qc) (hbd:qb≠qd) (hcd:qc≠qd):
 Calls Tryz.prog 210 #[.pointer (some ⟨b,0,none⟩),.agg #[.int .i64 qa,.int .i64 qb,.int .i64 qc,.int .i64 qd],.int .u32 x,.int .u32 y] w fun e w'=>e= .returned (.tuple #[])∧w.grownBy w' (some b)∧w'.heap[b]? =some (.cells (row (mixP l qa qb qc qd x y)) t (0,0)):=by
 have ha:=Xa7 (l:=l) (i:=qa) (by omega)
 have hb:=Xa7 (l:=l) (i:=qb) (by omega)
 have hc:=Xa7 (l:=l) (i:=qc) (by omega)
 have hd:=Xa7 (l:=l) (i:=qd) (by omega)
 obtain ⟨va,eva⟩:∃va,l.getD qa 0=va:=⟨_,rfl⟩
 obtain ⟨vb,evb⟩:∃vb,l.getD qb 0=vb:=⟨_,rfl⟩
 obtain ⟨vc,evc⟩:∃vc,l.getD qc 0=vc:=⟨_,rfl⟩
 obtain ⟨vd,evd⟩:∃vd,l.getD qd 0=vd:=⟨_,rfl⟩
 have Hm:=Qh (show mixP l qa qb qc qd x y=(((l.set qa (mixW va vb vc vd x y).1).set qb (mixW va vb vc vd x y).2.1).set qc (mixW va vb vc vd x y).2.2.1).set qd (mixW va vb vc vd x y).2.2.2 by rw [mixP,eva,evb,evc,evd])
 rw [eva] at ha
 rw [evb] at hb
 rw [evc] at hc
 rw [evd] at hd
 clear eva evb evc evd
 generalize hVl:row l=V at hV ha hb hc hd
 have HVl:=Qh hVl;clear hVl hz
 have ca:=cell_of_row w b qa _ _ _ hV
 have cb:=cell_of_row w b qb _ _ _ hV
 have cc:=cell_of_row w b qc _ _ _ hV
 have cd:=cell_of_row w b qd _ _ _ hV
 rw [ha] at ca
 rw [hb] at cb
 rw [hc] at cc
 rw [hd] at cd
 have ca':=cell_regrown (Xab (.cells #[.int .i64 qa,.int .i64 qb,.int .i64 qc,.int .i64 qd] 253) ca)
 have cb':=cell_regrown (Xab (.cells #[.int .i64 qa,.int .i64 qb,.int .i64 qc,.int .i64 qd] 253) cb)
 have cc':=cell_regrown (Xab (.cells #[.int .i64 qa,.int .i64 qb,.int .i64 qc,.int .i64 qd] 253) cc)
 have cd':=cell_regrown (Xab (.cells #[.int .i64 qa,.int .i64 qb,.int .i64 qc,.int .i64 qd] 253) cd)
 have box0:=cell_regrown (show (w.alloc (.cells #[.int .i64 qa,.int .i64 qb,.int .i64 qc,.int .i64 qd] 253)).cell? ⟨w.heap.size,0,none⟩=some (.int .i64 qa) by simp)
 have box1:=cell_regrown (show (w.alloc (.cells #[.int .i64 qa,.int .i64 qb,.int .i64 qc,.int .i64 qd] 253)).cell? ⟨w.heap.size,1,none⟩=some (.int .i64 qb) by simp)
 have box2:=cell_regrown (show (w.alloc (.cells #[.int .i64 qa,.int .i64 qb,.int .i64 qc,.int .i64 qd] 253)).cell? ⟨w.heap.size,2,none⟩=some (.int .i64 qc) by simp)
 have box3:=cell_regrown (show (w.alloc (.cells #[.int .i64 qa,.int .i64 qb,.int .i64 qc,.int .i64 qd] 253)).cell? ⟨w.heap.size,3,none⟩=some (.int .i64 qd) by simp)
 go_enter Tryz.func210,Tryz.ntmps210
 go_wp2_with fail
 refine wp_region_quiet_below (by kernel_rfl) (by kernel_rfl) ?_
 repeat (go_big_quiet_step ((fail)))
 refine wpQuiet_nil ?_
 intro w2 hwq
 have hb2:Below (w.alloc (.cells #[.int .i64 qa,.int .i64 qb,.int .i64 qc,.int .i64 qd] 253)).heap.size (w.alloc (.cells #[.int .i64 qa,.int .i64 qb,.int .i64 qc,.int .i64 qd] 253)) w2:=by
  obtain ⟨pq,rfl⟩:=hwq
  exact below_regrown _ _ _
 clear hwq
 obtain ⟨i0,i1,i2,i3⟩:w2.cell? ⟨w.heap.size,0,none⟩=some (.int .i64 qa)∧w2.cell? ⟨w.heap.size,1,none⟩=some (.int .i64 qb)∧w2.cell? ⟨w.heap.size,2,none⟩=some (.int .i64 qc)∧w2.cell? ⟨w.heap.size,3,none⟩=some (.int .i64 qd):=
  ⟨by rw [hb2.cell (by simp)];simp,by rw [hb2.cell (by simp)];simp,by rw [hb2.cell (by simp)];simp,by rw [hb2.cell (by simp)];simp⟩
 clear ca' cb' cc' cd' box0 box1 box2 box3
 have hbw:b<w.heap.size:=by simpa using block_lt_of_cell ca
 have hbn:b≠w.heap.size:=by omega
 have hV2:w2.heap[b]? =some (.cells V t (0,0)):=(hb2.block b (by have:=block_lt_of_cell ca;simp;simp at this;omega)).trans ((Below.heap_alloc w _ b (by have:=block_lt_of_cell ca;simpa using this)).trans hV)
 have Hg:=Qh (show w.grownBy w2 (some b) from Xmo (((Qb _ w).alloc (Qn _) _).trans (hb2.mono (by simp))) (Qn _))
 clear hb2
 go_wp2_with fail
 refine (Xe8 _ 16 65536 65536 (.inl ⟨rfl,rfl,rfl⟩) _).mono ?_
 rintro e w' ⟨rfl,rfl⟩
 generalize hD1:rotr 65536 65536 (bits .xor .u32 vd ((va+(vb+x))%4294967296))=D1
 have HD1:=Qh hD1;clear hD1
 go_wp2_with fail
 refine (Xe8 _ 12 4096 1048576 (.inr (.inl ⟨rfl,rfl,rfl⟩)) _).mono ?_
 rintro e w' ⟨rfl,rfl⟩
 generalize hB1:rotr 4096 1048576 (bits .xor .u32 vb ((vc+D1)%4294967296))=B1
 have HB1:=Qh hB1;clear hB1
 go_wp2_with fail
 refine (Xe8 _ 8 256 16777216 (.inr (.inr (.inl ⟨rfl,rfl,rfl⟩))) _).mono ?_
 rintro e w' ⟨rfl,rfl⟩
 generalize hA2:(va+(vb+x)+(B1+y))%4294967296=A2
 have HA2:=Qh hA2;clear hA2
 generalize hD2:rotr 256 16777216 (bits .xor .u32 D1 A2)=D2
 have HD2:=Qh hD2;clear hD2
 go_wp2_with fail
 refine (Xe8 _ 7 128 33554432 (.inr (.inr (.inr ⟨rfl,rfl,rfl⟩))) _).mono ?_
 rintro e w' ⟨rfl,rfl⟩
 generalize hC2:(vc+D1+D2)%4294967296=C2
 have HC2:=Qh hC2;clear hC2
 generalize hB2:rotr 128 33554432 (bits .xor .u32 B1 C2)=B2
 have HB2:=Qh hB2;clear hB2
 go_wp2_with fail
 clear ca cb cc cd
 have ca:=cell_of_row _ b qa _ _ _ hV2
 have cb:=cell_of_row _ b qb _ _ _ hV2
 have cc:=cell_of_row _ b qc _ _ _ hV2
 have cd:=cell_of_row _ b qd _ _ _ hV2
 rw [ha] at ca
 rw [hb] at cb
 rw [hc] at cc
 rw [hd] at cd
 have fa:=frozen_of_row _ b qa _ _ hV2
 have fb:=frozen_of_row _ b qb _ _ hV2
 have fc:=frozen_of_row _ b qc _ _ hV2
 have fd:=frozen_of_row _ b qd _ _ hV2
 have HV2:=Qh hV2
 have HV:=Qh hV
 clear hV2 hV ha hb hc hd
 rw [HA2.out,HC2.out]
 go_big_region
 go_end0
 have hm:mixW va vb vc vd x y=(A2,B2,C2,D2):=by
  have e1:(va+(vb+x)+(B1+y))%4294967296=((va+(vb+x))%4294967296+(B1+y))%4294967296:=by omega
  have e2:(vc+D1+D2)%4294967296=((vc+D1)%4294967296+D2)%4294967296:=by omega
  unfold mixW
  simp only [HD1.out,HB1.out,←e1,HA2.out,HD2.out,←e2,HC2.out,HB2.out]
 rw [Hm.out,hm]
 have hV2:=HV2.out
 rw [←HVl.out] at hV2
 refine ⟨rfl,Xda Hg.out ?_,heap_setCell _ (heap_setCell _ (heap_setCell _ (heap_setCell _ hV2)))⟩
 exact Xoq (Xda (Xda (Xda (Xb9 _ ⟨b,qa,none⟩ _) (Xb9 _ ⟨b,qb,none⟩ _)) (Xb9 _ ⟨b,qc,none⟩ _)) (Xb9 _ ⟨b,qd,none⟩ _))
def blkPerms:List Int:= [81985529216486895,16881918945140062035,13312731748010193300,8733003861693448440,10400822202260547645,3200383143768358425,14204332651957162635,15816291393287259690,8064173457993569445,11710614767857974480]
def blkQuads:List (Nat × Nat × Nat × Nat):= [(0,4,8,12),(1,5,9,13),(2,6,10,14),(3,7,11,15),(0,5,10,15),(1,6,11,12),(2,7,8,13),(3,4,9,14)]
def blkSigma:List (List Nat):= [[0,1,2,3,4,5,6,7,8,9,10,11,12,13,14,15],[14,10,4,8,9,15,13,6,1,12,0,2,11,7,5,3],[11,8,12,0,5,2,15,13,10,14,3,6,7,1,9,4],[7,9,3,1,13,12,11,14,2,6,5,10,4,0,15,8],[9,0,5,7,2,4,10,15,14,1,11,12,6,8,3,13],[2,12,6,10,0,11,8,3,4,13,7,5,15,14,1,9],[12,5,1,15,14,13,4,10,0,7,6,3,9,2,8,11],[13,11,7,14,12,1,3,9,5,0,15,4,8,6,2,10],[6,15,14,9,11,3,0,8,12,2,13,7,1,4,10,5],[10,2,8,4,7,6,1,5,15,11,9,14,3,12,13,0]]
def quad (k:Nat):Nat × Nat × Nat × Nat:=blkQuads.getD k (0,0,0,0)
def sigma (r i:Nat):Nat:=(blkSigma.getD r []).getD i 0
def permAt (r:Nat):Int:=blkPerms.getD r 0
def stepP (m:List Int) (r k:Nat) (v:List Int):List Int:=mixP v (quad k).1 (quad k).2.1 (quad k).2.2.1 (quad k).2.2.2 (m.getD (sigma r (2*k)) 0) (m.getD (sigma r (2*k+1)) 0)
def stepsP (m:List Int) (r:Nat):Nat→List Int→List Int
 |0,v=>v
 |k+1,v=>stepP m r k (stepsP m r k v)
def roundsP (m:List Int):Nat→List Int→List Int
 |0,v=>v
 |r+1,v=>stepsP m r 8 (roundsP m r v)
theorem Xj2 (m:List Int) (r k:Nat) (v:List Int):(stepP m r k v).length=v.length:=Xee ..
theorem Xbn (m:List Int) (r:Nat):∀(k:Nat) (v:List Int),(stepsP m r k v).length=v.length
 |0,_=>rfl
 |k+1,v=>by rw [stepsP,Xj2,Xbn m r k v]
theorem Xa4 (m:List Int):∀(r:Nat) (v:List Int),(roundsP m r v).length=v.length
 |0,_=>rfl
 |r+1,v=>by rw [roundsP,Xbn,Xa4 m r v]
theorem Xi8 (k:Nat) (hk:k<8):(quad k).1<16∧(quad k).2.1<16∧(quad k).2.2.1<16∧(quad k).2.2.2<16∧(quad k).1≠(quad k).2.1∧(quad k).1≠(quad k).2.2.1∧(quad k).1≠(quad k).2.2.2∧(quad k).2.1≠(quad k).2.2.1∧(quad k).2.1≠(quad k).2.2.2∧(quad k).2.2.1≠(quad k).2.2.2:=by
 revert k;decide
theorem Xcm (r i:Nat) (hr:r<10) (hi:i<16):sigma r i<16:=by
 revert i;revert r;decide
theorem Xkm (r k:Nat) (hr:r<10) (hk:k<8):bits .and .u64 (permAt r / 2 ^ (60-8*k)) 15=(sigma r (2*k):Nat)∧bits .and .u64 (permAt r / 2 ^ (56-8*k)) 15=(sigma r (2*k+1):Nat):=by
 revert k;revert r;decide
def permRow:Array Value:=(blkPerms.map fun x=>Value.int .u64 x).toArray
def quadV (q:Nat × Nat × Nat × Nat):Value:= .agg #[.int .i64 q.1,.int .i64 q.2.1,.int .i64 q.2.2.1,.int .i64 q.2.2.2]
def quadRow:Array Value:= #[.int .i64 0,.int .i64 4,.int .i64 8,.int .i64 12,.int .i64 1,.int .i64 5,.int .i64 9,.int .i64 13,.int .i64 2,.int .i64 6,.int .i64 10,.int .i64 14,.int .i64 3,.int .i64 7,.int .i64 11,.int .i64 15,.int .i64 0,.int .i64 5,.int .i64 10,.int .i64 15,.int .i64 1,.int .i64 6,.int .i64 11,.int .i64 12,.int .i64 2,.int .i64 7,.int .i64 8,.int .i64 13,.int .i64 3,.int .i64 4,.int .i64 9,.int .i64 14]
def quadZero:Array Value:= #[.int .i64 0,.int .i64 0,.int .i64 0,.int .i64 0,.int .i64 0,.int .i64 0,.int .i64 0,.int .i64 0,.int .i64 0,.int .i64 0,.int .i64 0,.int .i64 0,.int .i64 0,.int .i64 0,.int .i64 0,.int .i64 0,.int .i64 0,.int .i64 0,.int .i64 0,.int .i64 0,.int .i64 0,.int .i64 0,.int .i64 0,.int .i64 0,.int .i64 0,.int .i64 0,.int .i64 0,.int .i64 0,.int .i64 0,.int .i64 0,.int .i64 0,.int .i64 0]
theorem Xib (k:Nat) (hk:k<8):Value.agg (quadRow.extract (k*4) (k*4+4))=quadV (quad k):=by
 match k,hk with
 |0,_=>rfl
 |1,_=>rfl
 |2,_=>rfl
 |3,_=>rfl
 |4,_=>rfl
 |5,_=>rfl
 |6,_=>rfl
 |7,_=>rfl
theorem Xie (r:Nat) (hr:r<10):permRow[r]? =some (.int .u64 (permAt r)):=by
 have h:r<blkPerms.length:=hr
 simp [permRow,permAt,List.getD,List.getElem?_eq_getElem h]
theorem Xc4 {P:Program} {t e:TypeId} {n:Nat} {cs:Array Value} {v:Value} {d:TypeDesc} (h:P.underlying t=some (.array n e)) (he:P.underlying e=some d) (hd:(match d with| .struct _| .array _ _=>true|_=>false)=false) (hz:(P.info? e).map (·.size)=some 1)
 (i:Nat) (hi:i<n) (hv:cs[i]? =some v) (W:World):(Instr.index t (.agg cs) (.int .i64 (i:Int))).run P W= .ok v W:=by
 cases hq:P.info? e with
 |none=>simp [hq] at hz
 |some x=>
  have hs:x.size=1:=by simpa [hq] using hz
  have hagg:(isAgg e).run P W= .ok false W:=by
   unfold isAgg
   rw [Sem.run_bind,run_underlying he W]
   cases d<;>simp_all
  simp [Instr.index,run_underlying h,asIntOf,hi,go_sem,sizeOf,typeInfo,hq,hs,hagg,hv]
theorem Xeo {P:Program} {t e:TypeId} {n m:Nat} {cs:Array Value} {d:TypeDesc} (h:P.underlying t=some (.array n e)) (he:P.underlying e=some d) (hd:(match d with| .struct _| .array _ _=>true|_=>false)=true) (hz:(P.info? e).map (·.size)=some m)
 (i:Nat) (hi:i<n) (W:World):(Instr.index t (.agg cs) (.int .i64 (i:Int))).run P W= .ok (.agg (cs.extract (i*m) (i*m+m))) W:=by
 cases hq:P.info? e with
 |none=>simp [hq] at hz
 |some x=>
  have hs:x.size=m:=by simpa [hq] using hz
  have hagg:(isAgg e).run P W= .ok true W:=by
   unfold isAgg
   rw [Sem.run_bind,run_underlying he W]
   cases d<;>simp_all
  simp [Instr.index,run_underlying h,asIntOf,hi,go_sem,sizeOf,typeInfo,hq,hs,hagg]
set_option maxRecDepth 100000 in
theorem Xdg (w:World):Calls Tryz.prog 208 #[] w fun e w'=>e= .returned (.agg permRow)∧Below w.heap.size w w':=by
 go_enter Tryz.func208,Tryz.ntmps208
 go_wp2
 refine bodyPost_ret (results_cell_row rfl _ _ w.heap.size _ permRow (0,0) _ rfl (heap_alloc_new w (.cells permRow 251)) Tryz.underlying251 rfl (by kernel_rfl)) rfl ⟨rfl,?_⟩
 exact (Qb _ _).alloc (Qn _) _
set_option maxRecDepth 100000 in
theorem Xls (w:World):Calls Tryz.prog 209 #[] w fun e w'=>e= .returned (.agg quadRow)∧Below w.heap.size w w':=by
 have hz:=heap_alloc_new w (.cells quadZero 254)
 go_enter Tryz.func209,Tryz.ntmps209
 go_wp2_with (refine wpList_store_row rfl 254 _ _ rfl w.heap.size quadRow rfl rfl 254 quadZero hz (by kernel_rfl) rfl (by kernel_rfl) ?_)
 refine bodyPost_ret (results_cell_row rfl _ _ w.heap.size _ quadRow (0,0) _ rfl (setRow_heap _ _ _ _ _ _ hz) Tryz.underlying254 rfl (by kernel_rfl)) rfl ⟨rfl,?_⟩
 exact below_setRow ((Qb _ _).alloc (Qn _) _) (Qn _) _
theorem Xa5 {P:Program} (w:World) (dT sT ty elem:TypeId) (size g o dLen dCap:Nat) (a:Addr) (sLen sCap:Nat) (cur:Array Value) (t:TypeId) (cs:List Value)
 (hu:P.underlying dT=some (.slice elem)) (hs:(P.info? elem).map (·.size)=some size)
 (hg:w.heap[g]? =some (.cells cur t (0,0))) (hn:cs.length=Nat.min sLen dLen*size)
 (hsrc:∀j v,cs[j]? =some v→w.cell? (a.add j)=some v) (hfit:o+cs.length≤cur.size) (h1:∀v∈cs,v.oneCell'=true):
 (Builtin.copy_ #[dT,sT] ty #[.slice (some ⟨g,o,none⟩) dLen dCap,.slice (some a) sLen sCap]).run P w=
   .ok (goInt (Nat.min sLen dLen)) (w.setRow g (cur.toList.take o++cs++cur.toList.drop (o+cs.length)).toArray):=by
 have hst:=run_storeCells_at P g o t cs 0 cur w hg (by simpa using hfit) h1
 cases hq:P.info? elem with
 |none=>simp [hq] at hs
 |some i=>
  have hi:i.size=size:=by simpa [hq] using hs
  have hf:=run_firstCells_some (P:=P) w i.size (Nat.min sLen dLen) a sLen sCap cs (by rw [hi];exact hn) hsrc
  simp only [Nat.min_def] at hf ⊢
  simp [Builtin.copy_,run_underlying hu,Builtin.lenOf,sizeOf,typeInfo,hq,Nat.min_def,hf,hst]
def over (cur:Array Value) (o:Nat) (cs:List Value):Array Value:=(cur.toList.take o++cs++cur.toList.drop (o+cs.length)).toArray
theorem Xa8 (cur:Array Value) (o:Nat) (cs:List Value) (h:o+cs.length≤cur.size):(over cur o cs).size=cur.size:=by
 simp [over];omega
theorem Xg0 (cur:Array Value) (o:Nat) (cs:List Value) (h:o≤cur.size):(over cur o cs).toList.take (o+cs.length)=cur.toList.take o++cs:=by
 simp only [over]
 rw [List.take_append_of_le_length (by simp;omega)]
 rw [List.take_of_length_le (by simp;omega)]
theorem insert_row (cur:Array Value) (xs news:List Value) (p k:Nat) (hp:p≤xs.length) (hx:cur.toList.take xs.length=xs) (hk:news.length=k) (hsz:xs.length+k≤cur.size):
 (over (over cur (p+k) (xs.drop p)) p news).toList.take (xs.length+k)=xs.take p++news++xs.drop p:=by
 have hcl:cur.toList.length=cur.size:=by simp
 have h1:(over cur (p+k) (xs.drop p)).toList=cur.toList.take (p+k)++xs.drop p++cur.toList.drop (p+k+(xs.drop p).length):=rfl
 have h2:∀c:Array Value,(over c p news).toList=c.toList.take p++news++c.toList.drop (p+k):=fun c=>by simp [over,hk]
 rw [h2,h1]
 have e1:(cur.toList.take (p+k)++xs.drop p++cur.toList.drop (p+k+(xs.drop p).length)).take p=xs.take p:=by
  rw [List.append_assoc,List.take_append_of_le_length (by simp;omega),List.take_take,Nat.min_eq_left (by omega)]
  conv=>rhs;rw [←hx]
  rw [List.take_take,Nat.min_eq_left hp]
 have e2:(cur.toList.take (p+k)++xs.drop p++cur.toList.drop (p+k+(xs.drop p).length)).drop (p+k)=xs.drop p++cur.toList.drop (p+k+(xs.drop p).length):=by
  rw [List.append_assoc,List.drop_append_of_le_length (by simp;omega)]
  rw [List.drop_eq_nil_of_le (by simp;omega),List.nil_append]
 rw [e1,e2,←List.append_assoc,List.take_append_of_le_length (by simp;omega),List.take_of_length_le (by simp;omega)]
theorem Xeh (cur:Array Value) (xs news:List Value) (p k:Nat) (hp:p≤xs.length) (hx:cur.toList.take p=xs.take p) (hk:news.length=k) (hsz:xs.length+k≤cur.size):
 (over (over cur p news) (p+k) (xs.drop p)).toList.take (xs.length+k)=xs.take p++news++xs.drop p:=by
 have h1:=Xg0 cur p news (by omega)
 rw [hk,hx] at h1
 have h2:=Xg0 (over cur p news) (p+k) (xs.drop p) (by rw [Xa8 _ _ _ (by omega)];omega)
 rw [h1,List.length_drop,show p+k+(xs.length-p)=xs.length+k by omega] at h2
 exact h2
theorem Xas {w:World} {g:Nat} {cur:Array Value}:w.grownBy (w.setRow g cur) (some g):=
 ⟨rfl,rfl,rfl,by simp,fun k _ hk=>setRow_other w g k _ (fun e=>hk (by rw [e]))⟩
theorem Xbi {a b c:World} {row:Option Nat} (h:a.grownBy b row) (k:b.grownBy c row):a.grownBy c row:=
 ⟨k.os.trans h.os,k.tape.trans h.tape,k.output.trans h.output,Nat.le_trans h.size k.size,fun j hj hne=>(k.block j (Nat.lt_of_lt_of_le hj h.size) hne).trans (h.block j hj hne)⟩
theorem Xmi {α:Type}:∀ {l:List α},l.length=8→ ∃a b c d e f g h,l= [a,b,c,d,e,f,g,h]
 | [a,b,c,d,e,f,g,h],_=>⟨a,b,c,d,e,f,g,h,rfl⟩
def byteI (s:Bytes) (i:Nat):Int:=((s[i]?.getD 0).toNat:Int)%4294967296
def wordAt (s:Bytes) (k:Nat):Int:=bits .or .u32 (bits .or .u32 (bits .or .u32 (byteI s (4*k)) (byteI s (4*k+1)*256%4294967296)) (byteI s (4*k+2)*65536%4294967296)) (byteI s (4*k+3)*16777216%4294967296)
def wordsTo (s:Bytes) (k:Nat):List Int:=(List.range 16).map fun j=>if j<k then wordAt s j else 0
def words (s:Bytes):List Int:=(List.range 16).map (wordAt s)
theorem Xhx (s:Bytes) (k:Nat):(wordsTo s k).length=16:=by simp [wordsTo]
theorem Xjx (s:Bytes) (k:Nat) (_hk:k<16):(wordsTo s k).set k (wordAt s k)=wordsTo s (k+1):=by
 apply List.ext_getElem
 ·simp [wordsTo]
 ·intro j h1 h2
  simp only [wordsTo,List.getElem_set,List.getElem_map,List.getElem_range]
  by_cases h:k=j
  ·subst h;simp
  ·rw [if_neg h]
   by_cases hj:j<k
   ·rw [if_pos hj,if_pos (by omega)]
   ·rw [if_neg hj,if_neg (by omega)]
theorem Xl2 (s:Bytes):wordsTo s 16=words s:=by
 apply List.map_congr_left
 intro j hj
 rw [if_pos (List.mem_range.1 hj)]
structure Cm (w:World) (hs m v:List Int) (wr:World):Prop where
 below:Below w.heap.size w wr
 size:w.heap.size+1+1+1<wr.heap.size
 b0:wr.heap[w.heap.size]? =some (.cells (row hs) 192 (0,0))
 b1:wr.heap[w.heap.size+1]? =some (.cells (row (List.replicate 8 0)) 192 (0,0))
 b2:wr.heap[w.heap.size+1+1]? =some (.cells (row m) 249 (0,0))
 b3:wr.heap[w.heap.size+1+1+1]? =some (.cells (row v) 249 (0,0))
section
variable {w wr w':World} {hs m v:List Int}
theorem Xfj {X:World} {k:Nat} (hk:X.heap.size=k) (o:Obj):(X.alloc o).heap[k]? =some o:=by subst hk;exact heap_alloc_new _ _
theorem Cm.start (w:World) (hs:List Int):Cm w hs (List.replicate 16 0) (List.replicate 16 0) ((((w.alloc (.cells (row hs) 192)).alloc (.cells (row (List.replicate 8 0)) 192)).alloc (.cells (row (List.replicate 16 0)) 249)).alloc (.cells (row (List.replicate 16 0)) 249)):=by
 refine ⟨((((Qb _ _).alloc (Qn _) _).alloc (by simp) _).alloc (by simp;omega) _).alloc (by simp;omega) _,by simp,?_,?_,?_,?_⟩
 ·exact (Below.heap_alloc _ _ _ (by simp;omega)).trans ((Below.heap_alloc _ _ _ (by simp;omega)).trans ((Below.heap_alloc _ _ _ (by simp)).trans (heap_alloc_new _ _)))
 ·exact (Below.heap_alloc _ _ _ (by simp)).trans ((Below.heap_alloc _ _ _ (by simp)).trans (Xfj (by simp) _))
 ·exact (Below.heap_alloc _ _ _ (by simp)).trans (Xfj (by simp) _)
 ·exact Xfj (by simp) _
theorem Cm.pass (h:Cm w hs m v wr) (hb:Below wr.heap.size wr w'):Cm w hs m v w':=by
 have:=h.size
 exact ⟨h.below.trans (hb.mono h.below.size),by have:=hb.size;omega,(hb.block _ (by omega)).trans h.b0,(hb.block _ (by omega)).trans h.b1,(hb.block _ (by omega)).trans h.b2,(hb.block _ (by omega)).trans h.b3⟩
theorem Cm.drew (h:Cm w hs m v wr):Cm w hs m v wr.drew:=h.pass (Qb _ _).drew
theorem Cm.alloc (h:Cm w hs m v wr) (o:Obj):Cm w hs m v (wr.alloc o):=h.pass ((Qb _ _).alloc (Qn _) o)
theorem Cm.set0 (h:Cm w hs m v wr) (i:Nat) (x:Int):Cm w (hs.set i x) m v (wr.setCell ⟨w.heap.size,i,none⟩ (.int .u32 x)):=by
 have o:∀k,k≠w.heap.size→(wr.setCell ⟨w.heap.size,i,none⟩ (.int .u32 x)).heap[k]? =wr.heap[k]? :=fun k hk=>Below.heap_setCell _ _ _ _ hk
 exact ⟨h.below.setCell (Qn _) _,by simpa [World.setCell] using h.size,heap_setCell _ h.b0,(o _ (by omega)).trans h.b1,(o _ (by omega)).trans h.b2,(o _ (by omega)).trans h.b3⟩
theorem Cm.set2 (h:Cm w hs m v wr) (i:Nat) (x:Int):Cm w hs (m.set i x) v (wr.setCell ⟨w.heap.size+1+1,i,none⟩ (.int .u32 x)):=by
 have o:∀k,k≠w.heap.size+1+1→(wr.setCell ⟨w.heap.size+1+1,i,none⟩ (.int .u32 x)).heap[k]? =wr.heap[k]? :=fun k hk=>Below.heap_setCell _ _ _ _ hk
 exact ⟨h.below.setCell (by show w.heap.size≤w.heap.size+1+1;omega) _,by simpa [World.setCell] using h.size,(o _ (by omega)).trans h.b0,(o _ (by omega)).trans h.b1,heap_setCell _ h.b2,(o _ (by omega)).trans h.b3⟩
theorem Cm.set3 (h:Cm w hs m v wr) (i:Nat) (x:Int):Cm w hs m (v.set i x) (wr.setCell ⟨w.heap.size+1+1+1,i,none⟩ (.int .u32 x)):=by
 have o:∀k,k≠w.heap.size+1+1+1→(wr.setCell ⟨w.heap.size+1+1+1,i,none⟩ (.int .u32 x)).heap[k]? =wr.heap[k]? :=fun k hk=>Below.heap_setCell _ _ _ _ hk
 exact ⟨h.below.setCell (by show w.heap.size≤w.heap.size+1+1+1;omega) _,by simpa [World.setCell] using h.size,(o _ (by omega)).trans h.b0,(o _ (by omega)).trans h.b1,(o _ (by omega)).trans h.b2,heap_setCell _ h.b3⟩
theorem Cm.grown3 {v':List Int} (h:Cm w hs m v wr) (hg:wr.grownBy w' (some (w.heap.size+1+1+1))) (hv:w'.heap[w.heap.size+1+1+1]? =some (.cells (row v') 249 (0,0))):Cm w hs m v' w':=by
 have:=h.size
 have o:∀k,k<w.heap.size+1+1+1→w'.heap[k]? =wr.heap[k]? :=fun k hk=>hg.block k (by omega) (fun e=>by injection e;omega)
 exact ⟨h.below.grown hg (by omega) (fun k hk=>by injection hk;omega),by have:=hg.size;omega,(o _ (by omega)).trans h.b0,(o _ (by omega)).trans h.b1,(o _ (by omega)).trans h.b2,hv⟩
theorem Cm.row3 {v':List Int} (h:Cm w hs m v wr):Cm w hs m v' (wr.setRow (w.heap.size+1+1+1) (row v')):=by
 have o:∀k,k≠w.heap.size+1+1+1→(wr.setRow (w.heap.size+1+1+1) (row v')).heap[k]? =wr.heap[k]? :=fun k hk=>setRow_other _ _ _ _ hk
 exact ⟨below_setRow h.below (by omega) _,by simpa using h.size,(o _ (by omega)).trans h.b0,(o _ (by omega)).trans h.b1,(o _ (by omega)).trans h.b2,setRow_heap _ _ _ _ _ _ h.b3⟩
end
def blkIV:List Int:= [1779033703,3144134277,1013904242,2773480762,1359893119,2600822924,528734635,1541459225]
set_option maxRecDepth 100000 in
theorem Xhr (w:World):Calls Tryz.prog 141 #[] w fun e w'=>e= .returned (.agg (row blkIV))∧Below w.heap.size w w':=by
 go_enter Tryz.func141,Tryz.ntmps141
 go_wp2
 refine bodyPost_ret (results_cell_row rfl _ _ w.heap.size _ (row blkIV) (0,0) _ rfl (heap_alloc_new w (.cells (row blkIV) 192)) Tryz.underlying192 rfl (by kernel_rfl)) rfl ⟨rfl,?_⟩
 exact (Qb _ _).alloc (Qn _) _
def vInit (hs:List Int) (count:Int) (last:Bool):List Int:=
 let v:=((hs++blkIV).set 12 (bits .xor .u32 1359893119 (count%4294967296))).set 13 (bits .xor .u32 2600822924 (count / 4294967296%4294967296))
 if last then v.set 14 (bits .xor .u32 IntKind.u32.max 528734635) else v
def finTo (hs v:List Int) (k:Nat):List Int:=(List.range 8).map fun j=>if j<k then bits .xor .u32 (hs.getD j 0) (bits .xor .u32 (v.getD j 0) (v.getD (j+8) 0)) else hs.getD j 0
theorem Xbf (hs v:List Int) (k:Nat):(finTo hs v k).length=8:=by simp [finTo]
theorem Xf7 (hs v:List Int) (k:Nat) (hk:k<8):(finTo hs v k).getD k 0=hs.getD k 0:=by
 simp [finTo,List.getD,hk]
theorem Xd0 (hs v:List Int) (k:Nat):(finTo hs v k).set k (bits .xor .u32 (hs.getD k 0) (bits .xor .u32 (v.getD k 0) (v.getD (k+8) 0)))=finTo hs v (k+1):=by
 apply List.ext_getElem
 ·simp [finTo]
 ·intro j h1 h2
  simp only [finTo,List.getElem_set,List.getElem_map,List.getElem_range]
  by_cases h:k=j
  ·subst h;simp
  ·rw [if_neg h]
   by_cases hj:j<k
   ·rw [if_pos hj,if_pos (by omega)]
   ·rw [if_neg hj,if_neg (by omega)]
def compressP (hs:List Int) (s:Bytes) (count:Int) (last:Bool):List Int:=finTo hs (roundsP (words s) 10 (vInit hs count last)) 8
theorem Xbd (hs:List Int) (s:Bytes) (count:Int) (last:Bool):(compressP hs s count last).length=8:=Xbf ..
theorem Xcl (hs:List Int) (h:hs.length=8) (count:Int) (last:Bool):(vInit hs count last).length=16:=by
 unfold vInit
 cases last<;>simp [h,blkIV]
set_option maxRecDepth 100000 in
set_option maxHeartbeats 6000000 in
theorem Xfx (hs:List Int) (hh:hs.length=8) (s:Bytes) (hsl:s.length=64) (count:Int) (last:Bool) (w:World):
 Calls Tryz.prog 142 #[.agg (row hs),S s,.int .u64 count,.bool last] w fun e w'=>e= .returned (.tuple #[.agg (row (compressP hs s count last)),.int .i64 0])∧Below w.heap.size w w':=by
 obtain ⟨h0,h1,h2,h3,h4,h5,h6,h7,rfl⟩:=Xmi hh
 rw [show row [h0,h1,h2,h3,h4,h5,h6,h7]= #[.int .u32 h0,.int .u32 h1,.int .u32 h2,.int .u32 h3,.int .u32 h4,.int .u32 h5,.int .u32 h6,.int .u32 h7] from rfl]
 have hsz:(s.length:Int)=64:=by omega
 clear hh
 have Hst:=Qh (Cm.start w [h0,h1,h2,h3,h4,h5,h6,h7])
 go_enter Tryz.func142,Tryz.ntmps142
 go_wp2_with fail
 go_loopw [25] (fun s25 wr=> ∃(k:Nat),k≤16∧s25= .int .i64 k∧Cm w [h0,h1,h2,h3,h4,h5,h6,h7] (wordsTo s k) (List.replicate 16 0) wr) (fun i _=>16-(intOf i).toNat)
 case atStart=>exact ⟨0,Nat.zero_le _,rfl,Hst.out⟩
 case round=>
  clear Hst
  obtain ⟨k,hk,rfl,hm⟩:=hrel
  by_cases hlt:k<16
  ·have hcell:=cell_of_row wr _ k _ _ _ hm.b2
   rw [Xa7 (by rw [Xhx];omega)] at hcell
   have hfr:=frozen_of_row wr _ k _ _ hm.b2
   have Hm:=Qh hm;clear hm
   have hx0:=run_at Tryz.underlying9 s (4*(k:Int)) (4*k) (by omega) (by omega)
   have hx1:=run_at Tryz.underlying9 s (4*(k:Int)+1) (4*k+1) (by omega) (by omega)
   have hx2:=run_at Tryz.underlying9 s (4*(k:Int)+2) (4*k+2) (by omega) (by omega)
   have hx3:=run_at Tryz.underlying9 s (4*(k:Int)+3) (4*k+3) (by omega) (by omega)
   go_wp2_with fail
   go_big_region
   go_wp2
   go_roundw
   case rel=>exact ⟨k+1,by omega,by go_num,by rw [←Xjx s k hlt];exact (Hm.out.set2 k (wordAt s k)).drew⟩
   case measure=>simp [intOf];omega
  ·have hke:k=16:=by omega
   subst hke
   rw [Xl2] at hm
   go_wp2_with fail
   refine (Xhr _).mono ?_
   rintro e w1 ⟨rfl,hb1⟩
   have hm1:=hm.pass hb1
   rw [show row blkIV= #[.int .u32 1779033703,.int .u32 3144134277,.int .u32 1013904242,.int .u32 2773480762,.int .u32 1359893119,.int .u32 2600822924,.int .u32 528734635,.int .u32 1541459225] from rfl]
   have Hm1:=Qh (hm1.alloc (.cells (row blkIV) 192))
   have hn1:=hm1.size
   have Hi1:=Qh (heap_alloc_new w1 (.cells (row blkIV) 192))
   clear hm1 hm hb1
   go_wp2_with fail
   have e0:(w1.alloc (.cells #[.int .u32 1779033703,.int .u32 3144134277,.int .u32 1013904242,.int .u32 2773480762,.int .u32 1359893119,.int .u32 2600822924,.int .u32 528734635,.int .u32 1541459225] 192))=w1.alloc (.cells (row blkIV) 192):=rfl
   rw [e0]
   obtain ⟨X,hX⟩:∃X,w1.alloc (.cells (row blkIV) 192)=X:=⟨_,rfl⟩
   rw [hX]
   have HmX:Hid (Cm w [h0,h1,h2,h3,h4,h5,h6,h7] (words s) (List.replicate 16 0) X):=Qh (by rw [←hX];exact Hm1.out)
   have HiX:Hid (X.heap[w1.heap.size]? =some (.cells (row blkIV) 192 (0,0))):=Qh (by rw [←hX];exact Hi1.out)
   have hnX:w1.heap.size<X.heap.size:=by rw [←hX];simp
   clear hX e0 Hm1 Hi1
   have hcp:∀ty,(Builtin.copy_ #[250,250] ty #[.slice (some ⟨w.heap.size+1+1+1,0,none⟩) 8 16,.slice (some ⟨w.heap.size,0,none⟩) 8 8]).run Tryz.prog X.drew= .ok (.int .i64 8) (X.drew.setRow (w.heap.size+1+1+1) (row ([h0,h1,h2,h3,h4,h5,h6,h7]++List.replicate 8 0))):=by
    intro ty
    have hcs:∀j v,([.int .u32 h0,.int .u32 h1,.int .u32 h2,.int .u32 h3,.int .u32 h4,.int .u32 h5,.int .u32 h6,.int .u32 h7]:List Value)[j]? =some v→X.drew.cell? ((⟨w.heap.size,0,none⟩:Addr).add j)=some v:=by
     intro j v hj
     rw [Addr.add_lit,cell_of_row _ _ _ _ _ _ HmX.out.drew.b0,Nat.zero_add]
     simpa [row] using hj
    exact Xa5 X.drew 250 250 ty 41 1 (w.heap.size+1+1+1) 0 8 16 ⟨w.heap.size,0,none⟩ 8 8 (row (List.replicate 16 0)) _ _ Tryz.underlying250 (by kernel_rfl) HmX.out.drew.b3 rfl hcs (by simp) (by simp [Value.oneCell'])
   go_region_law (refine step_copy_runI rfl _ _ 250 250 rfl _ _ (by simp [Act.eval,Act.put]) (by simp [Act.eval,Act.put]) (hcp _) ?_)
   go_wp2_with fail
   rw [show [h0,h1,h2,h3,h4,h5,h6,h7,0,0,0,0,0,0,0,0]= [h0,h1,h2,h3,h4,h5,h6,h7]++List.replicate 8 0 from rfl]
   obtain ⟨Y,hY⟩:∃Y,X.drew.setRow (w.heap.size+1+1+1) (row ([h0,h1,h2,h3,h4,h5,h6,h7]++List.replicate 8 0))=Y:=⟨_,rfl⟩
   rw [hY]
   have HmY:Hid (Cm w [h0,h1,h2,h3,h4,h5,h6,h7] (words s) ([h0,h1,h2,h3,h4,h5,h6,h7]++List.replicate 8 0) Y):=Qh (by rw [←hY];exact HmX.out.drew.row3)
   have HiY:Hid (Y.heap[w1.heap.size]? =some (.cells (row blkIV) 192 (0,0))):=Qh (by rw [←hY,setRow_other _ _ _ _ (by omega)];exact HiX.out)
   clear hY hcp HmX HiX hnX
   have hcp:∀ty,(Builtin.copy_ #[250,250] ty #[.slice (some ⟨w.heap.size+1+1+1,8,none⟩) 8 8,.slice (some ⟨w1.heap.size,0,none⟩) 8 8]).run Tryz.prog Y.drew= .ok (.int .i64 8) (Y.drew.setRow (w.heap.size+1+1+1) (row ([h0,h1,h2,h3,h4,h5,h6,h7]++blkIV))):=by
    intro ty
    have hcs:∀j v,((row blkIV).toList)[j]? =some v→Y.drew.cell? ((⟨w1.heap.size,0,none⟩:Addr).add j)=some v:=by
     intro j v hj
     rw [Addr.add_lit,cell_of_row Y.drew w1.heap.size _ (row blkIV) _ _ HiY.out,Nat.zero_add]
     simpa using hj
    exact Xa5 Y.drew 250 250 ty 41 1 (w.heap.size+1+1+1) 8 8 8 ⟨w1.heap.size,0,none⟩ 8 8 (row ([h0,h1,h2,h3,h4,h5,h6,h7]++List.replicate 8 0)) _ _ Tryz.underlying250 (by kernel_rfl) HmY.out.drew.b3 rfl hcs (by simp [blkIV]) (by simp [row,Value.oneCell'])
   go_region_law (refine step_copy_runI rfl _ _ 250 250 rfl _ _ (by simp [Act.eval,Act.put]) (by simp [Act.eval,Act.put]) (hcp _) ?_)
   go_upto_region 12 with fail
   rw [show (h0::h1::h2::h3::h4::h5::h6::h7::blkIV)= [h0,h1,h2,h3,h4,h5,h6,h7]++blkIV from rfl]
   obtain ⟨Z,hZ⟩:∃Z,Y.drew.setRow (w.heap.size+1+1+1) (row ([h0,h1,h2,h3,h4,h5,h6,h7]++blkIV))=Z:=⟨_,rfl⟩
   rw [hZ]
   have hmZ:Cm w [h0,h1,h2,h3,h4,h5,h6,h7] (words s) ([h0,h1,h2,h3,h4,h5,h6,h7]++blkIV) Z:=by rw [←hZ];exact HmY.out.drew.row3
   clear hZ hcp HmY HiY
   have c12:Z.cell? ⟨w.heap.size+1+1+1,12,none⟩=some (.int .u32 1359893119):=(cell_of_row Z _ 12 _ _ _ hmZ.b3).trans rfl
   have c13:Z.cell? ⟨w.heap.size+1+1+1,13,none⟩=some (.int .u32 2600822924):=(cell_of_row Z _ 13 _ _ _ hmZ.b3).trans rfl
   have c14:Z.cell? ⟨w.heap.size+1+1+1,14,none⟩=some (.int .u32 528734635):=(cell_of_row Z _ 14 _ _ _ hmZ.b3).trans rfl
   have f12:=frozen_of_row Z _ 12 _ _ hmZ.b3
   have f13:=frozen_of_row Z _ 13 _ _ hmZ.b3
   have f14:=frozen_of_row Z _ 14 _ _ hmZ.b3
   have HmZ:=Qh hmZ;clear hmZ
   cases last with
   |true=>
    go_wp2_with fail
    refine (Xdg _).mono ?_
    rintro e w3 ⟨rfl,hb3⟩
    have hm3:Cm w [h0,h1,h2,h3,h4,h5,h6,h7] (words s) (vInit [h0,h1,h2,h3,h4,h5,h6,h7] count true) w3:=Cm.pass (((HmZ.out.set3 12 _).set3 13 _).set3 14 _) hb3
    have Hm3:=Qh hm3
    obtain ⟨v0,hv0⟩:∃v0,vInit [h0,h1,h2,h3,h4,h5,h6,h7] count true=v0:=⟨_,rfl⟩
    have Hv0:=Qh hv0
    rw [hv0] at hm3
    clear hv0 Hm3
    have hlv:v0.length=16:=by rw [←Hv0.out];exact Xcl _ rfl _ _
    clear c12 c13 c14 f12 f13 f14 HmZ hb3
    go_wp2_with fail
    go_loopw [86] (fun s86 wr=> ∃r:Nat,r≤10∧s86= .int .i64 r∧Cm w [h0,h1,h2,h3,h4,h5,h6,h7] (words s) (roundsP (words s) r v0) wr) (fun i _=>10-(intOf i).toNat)
    case atStart=>exact ⟨0,Nat.zero_le _,rfl,hm3⟩
    case round=>
     clear hm3
     obtain ⟨r,hr,rfl,hmr⟩:=hrel
     by_cases hltr:r<10
     ·have hpx:=Xc4 (P:=Tryz.prog) Tryz.underlying251 Tryz.underlying23 rfl (by kernel_rfl) r hltr (Xie r hltr)
      obtain ⟨vr,hvr⟩:∃vr,roundsP (words s) r v0=vr:=⟨_,rfl⟩
      have Hvr:=Qh hvr
      rw [hvr] at hmr
      clear hvr
      have hlr:vr.length=16:=by rw [←Hvr.out,Xa4,hlv]
      go_wp2_with fail
      refine (Xls _).mono ?_
      rintro e w4 ⟨rfl,hb4⟩
      have hm4:=hmr.pass hb4
      clear hmr hb4
      go_wp2_with fail
      go_loopw [90] (fun s90 wr=> ∃k:Nat,k≤8∧s90= .int .i64 k∧Cm w [h0,h1,h2,h3,h4,h5,h6,h7] (words s) (stepsP (words s) r k vr) wr) (fun i _=>8-(intOf i).toNat)
      case atStart=>exact ⟨0,Nat.zero_le _,rfl,hm4⟩
      case round=>
       clear hm4
       obtain ⟨k,hk,rfl,hmk⟩:=hrel
       by_cases hltk:k<8
       ·have hqx:∀W,(Instr.index 254 (.agg quadRow) (.int .i64 (k:Int))).run Tryz.prog W= .ok (.agg #[.int .i64 (quad k).1,.int .i64 (quad k).2.1,.int .i64 (quad k).2.2.1,.int .i64 (quad k).2.2.2]) W:=fun W=>by
         rw [Xeo (P:=Tryz.prog) (m:=4) Tryz.underlying254 Tryz.underlying253 rfl (by kernel_rfl) k hltk,Xib k hltk];rfl
        have Hmk:=Qh hmk;clear hmk
        go_wp2_with fail
        obtain ⟨qa,qb,qc,qd,hq⟩:∃qa qb qc qd,quad k=(qa,qb,qc,qd):=⟨_,_,_,_,rfl⟩
        have hqo:=Xi8 k hltk
        have Hst:=Qh (show stepP (words s) r k (stepsP (words s) r k vr)=mixP (stepsP (words s) r k vr) qa qb qc qd ((words s).getD (sigma r (2*k)) 0) ((words s).getD (sigma r (2*k+1)) 0) by rw [stepP,hq])
        rw [hq] at hqo ⊢
        have Hqo:=Qh hqo
        clear hq hqo hpx hqx
        obtain ⟨hn1',hn2'⟩:=Xkm r k hltr hltk
        have hs1:=Xcm r (2*k) hltr (by omega)
        have hs2:=Xcm r (2*k+1) hltr (by omega)
        generalize sigma r (2*k)=sx at hn1' hs1 Hst
        generalize sigma r (2*k+1)=sy at hn2' hs2 Hst
        refine wp_region_quiet_below (by kernel_rfl) (by kernel_rfl) ?_
        repeat (go_big_quiet_step ((fail)))
        refine wpQuiet_nil ?_
        intro w5 hwq
        have hb5:Below (wr.alloc (.cells #[.int .i64 qa,.int .i64 qb,.int .i64 qc,.int .i64 qd] 253)).heap.size (wr.alloc (.cells #[.int .i64 qa,.int .i64 qb,.int .i64 qc,.int .i64 qd] 253)) w5:=by
         obtain ⟨pq,rfl⟩:=hwq
         exact below_regrown _ _ _
        clear hwq
        have hm5:=(Hmk.out.alloc _).pass hb5
        have k0:w5.cell? ⟨wr.heap.size,0,none⟩=some (.int .i64 qa):=by rw [hb5.cell (by simp)];simp
        have k1:w5.cell? ⟨wr.heap.size,1,none⟩=some (.int .i64 qb):=by rw [hb5.cell (by simp)];simp
        have k2:w5.cell? ⟨wr.heap.size,2,none⟩=some (.int .i64 qc):=by rw [hb5.cell (by simp)];simp
        have k3:w5.cell? ⟨wr.heap.size,3,none⟩=some (.int .i64 qd):=by rw [hb5.cell (by simp)];simp
        have m0:w5.cell? ⟨w.heap.size+1+1,sx,none⟩=some (.int .u32 ((words s).getD sx 0)):=(cell_of_row w5 _ sx _ _ _ hm5.b2).trans (Xa7 (by simpa [words] using hs1))
        have m1:w5.cell? ⟨w.heap.size+1+1,sy,none⟩=some (.int .u32 ((words s).getD sy 0)):=(cell_of_row w5 _ sy _ _ _ hm5.b2).trans (Xa7 (by simpa [words] using hs2))
        generalize (words s).getD sx 0=mx at m0 Hst
        generalize (words s).getD sy 0=my at m1 Hst
        have Hm5:=Qh hm5
        clear hm5 hb5 hn1' hn2' Hmk
        go_wp2_with fail
        have k0d:({ heap:=w5.heap,tape:=w5.tape,drawn:=w5.drawn+1,os:=w5.os,output:=w5.output }:World).cell? ⟨wr.heap.size,0,none⟩=some (.int .i64 qa):=k0
        have k1d:({ heap:=w5.heap,tape:=w5.tape,drawn:=w5.drawn+1,os:=w5.os,output:=w5.output }:World).cell? ⟨wr.heap.size,1,none⟩=some (.int .i64 qb):=k1
        have k2d:({ heap:=w5.heap,tape:=w5.tape,drawn:=w5.drawn+1,os:=w5.os,output:=w5.output }:World).cell? ⟨wr.heap.size,2,none⟩=some (.int .i64 qc):=k2
        have k3d:({ heap:=w5.heap,tape:=w5.tape,drawn:=w5.drawn+1,os:=w5.os,output:=w5.output }:World).cell? ⟨wr.heap.size,3,none⟩=some (.int .i64 qd):=k3
        have m0d:({ heap:=w5.heap,tape:=w5.tape,drawn:=w5.drawn+1,os:=w5.os,output:=w5.output }:World).cell? ⟨w.heap.size+1+1,sx,none⟩=some (.int .u32 mx):=m0
        have m1d:({ heap:=w5.heap,tape:=w5.tape,drawn:=w5.drawn+1,os:=w5.os,output:=w5.output }:World).cell? ⟨w.heap.size+1+1,sy,none⟩=some (.int .u32 my):=m1
        have hi1:(sx:Int)<16:=by omega
        have hi2:(sy:Int)<16:=by omega
        have hi3:(0:Int)≤sx:=by omega
        have hi4:(0:Int)≤sy:=by omega
        go_still_tail 7,(by kernel_rfl)
        change wpList _ _ _ _ _ w5.drew
        have Hm6:Hid (Cm w [h0,h1,h2,h3,h4,h5,h6,h7] (words s) (stepsP (words s) r k vr) w5.drew):=Qh Hm5.out.drew
        generalize w5.drew=w6 at Hm6
        go_wp2_with fail
        have hq1:=Hqo.out
        refine (Xru (w.heap.size+1+1+1) (stepsP (words s) r k vr) 249 qa qb qc qd mx my w6 Hm6.out.b3 (by rw [Xbn,hlr]) hq1.1 hq1.2.1 hq1.2.2.1 hq1.2.2.2.1 hq1.2.2.2.2.1 hq1.2.2.2.2.2.1 hq1.2.2.2.2.2.2.1 hq1.2.2.2.2.2.2.2.1 hq1.2.2.2.2.2.2.2.2.1 hq1.2.2.2.2.2.2.2.2.2).mono ?_
        rintro e w7 ⟨rfl,hg7,hv7⟩
        have hm7:=Hm6.out.grown3 hg7 hv7
        go_wp2
        go_roundw
        case rel=>exact ⟨k+1,by omega,by go_num,by rw [stepsP,Hst.out];exact hm7⟩
        case measure=>simp [intOf];omega
       ·have hke:k=8:=by omega
        subst hke
        go_wp2_with fail
        go_roundw
        case rel=>exact ⟨r+1,by omega,by go_num,by rw [roundsP,Hvr.out];exact hmk⟩
        case measure=>simp [intOf];omega
     ·have hre:r=10:=by omega
      obtain ⟨v,hv⟩:∃v,roundsP (words s) r v0=v:=⟨_,rfl⟩
      have Hv:=Qh hv
      have hlv2:v.length=16:=by rw [←hv,Xa4,hlv]
      rw [hv] at hmr
      clear hv
      go_wp2_with fail
      go_loopw [116] (fun s116 wr=> ∃k:Nat,k≤8∧s116= .int .i64 k∧Cm w (finTo [h0,h1,h2,h3,h4,h5,h6,h7] v k) (words s) v wr) (fun i _=>8-(intOf i).toNat)
      case atStart=>exact ⟨0,Nat.zero_le _,rfl,hmr⟩
      case round=>
       clear hmr
       obtain ⟨k,hk,rfl,hmk⟩:=hrel
       by_cases hltk:k<8
       ·have hfl:=Xbf [h0,h1,h2,h3,h4,h5,h6,h7] v k
        have a0:=(cell_of_row wr _ k _ _ _ hmk.b0).trans (Xa7 (by rw [hfl];exact hltk))
        have a1:=(cell_of_row wr _ k _ _ _ hmk.b3).trans (Xa7 (l:=v) (by omega))
        have a2:=(cell_of_row wr _ (k+8) _ _ _ hmk.b3).trans (Xa7 (l:=v) (by omega))
        have a3:=frozen_of_row wr _ k _ _ hmk.b0
        rw [Xf7 _ _ _ hltk] at a0
        have hsc:=Xd0 [h0,h1,h2,h3,h4,h5,h6,h7] v k
        generalize List.getD [h0,h1,h2,h3,h4,h5,h6,h7] k 0=x0 at a0 hsc
        generalize v.getD k 0=x1 at a1 hsc
        generalize v.getD (k+8) 0=x2 at a2 hsc
        have Hsc:=Qh hsc
        have Hmk:=Qh hmk;clear hmk hfl hsc
        go_wp2_with fail
        go_big_region
        go_wp2
        go_roundw
        case rel=>exact ⟨k+1,by omega,by go_num,by rw [←Hsc.out];exact (Hmk.out.set0 k _).drew⟩
        case measure=>simp [intOf];omega
       ·have hfl:=Xbf [h0,h1,h2,h3,h4,h5,h6,h7] v k
        have hfin:finTo [h0,h1,h2,h3,h4,h5,h6,h7] v k=compressP [h0,h1,h2,h3,h4,h5,h6,h7] s count true:=by
         rw [compressP,Hv0.out,←hre,Hv.out,show k=8 by omega]
        generalize finTo [h0,h1,h2,h3,h4,h5,h6,h7] v k=F at hmk hfl hfin
        have Hfin:=Qh hfin
        have hi8:(Tryz.prog.info? 192).map (·.size)=some (row F).size:=by rw [row_size,hfl];kernel_rfl
        have hz8:(row (List.replicate 8 0)).size=(row F).size:=by rw [row_size,row_size,hfl];rfl
        have ho8:(row F).all (·.oneCell')=true:=by simp [row,Value.oneCell']
        have b0:=hmk.b0
        have b1:=hmk.b1
        have Hmk:=Qh hmk
        clear hmk hfin
        go_wp2_with (first
         |(refine wpList_load_row rfl 192 _ rfl w.heap.size rfl 192 (row F) (0,0) _ b0 Tryz.underlying192 rfl hi8 ?_)
         |(refine wpList_store_row rfl 192 _ _ rfl (w.heap.size+1) (row F) rfl rfl 192 (row (List.replicate 8 0)) b1 hi8 hz8 ho8 ?_))
        try simp only [Exit.inBlock,Exit.then]
        refine bodyPost_ret (v:= .tuple #[.agg (row F),.int .i64 0]) ?_ rfl ⟨?_,?_⟩
        ·rw [results_cell_tmp rfl]
         simp [asAddr,run_loadVar_row _ (w.heap.size+1) 192 192 (row F) (0,0) _ (setRow_heap _ _ _ _ _ _ b1) Tryz.underlying192 rfl hi8]
        ·rw [Hfin.out]
        ·exact below_setRow Hmk.out.below (by omega) _
   |false=>
    go_wp2_with fail
    refine (Xdg _).mono ?_
    rintro e w3 ⟨rfl,hb3⟩
    have hm3:Cm w [h0,h1,h2,h3,h4,h5,h6,h7] (words s) (vInit [h0,h1,h2,h3,h4,h5,h6,h7] count false) w3:=Cm.pass ((HmZ.out.set3 12 _).set3 13 _) hb3
    have Hm3:=Qh hm3
    obtain ⟨v0,hv0⟩:∃v0,vInit [h0,h1,h2,h3,h4,h5,h6,h7] count false=v0:=⟨_,rfl⟩
    have Hv0:=Qh hv0
    rw [hv0] at hm3
    clear hv0 Hm3
    have hlv:v0.length=16:=by rw [←Hv0.out];exact Xcl _ rfl _ _
    clear c12 c13 c14 f12 f13 f14 HmZ hb3
    go_wp2_with fail
    go_loopw [86] (fun s86 wr=> ∃r:Nat,r≤10∧s86= .int .i64 r∧Cm w [h0,h1,h2,h3,h4,h5,h6,h7] (words s) (roundsP (words s) r v0) wr) (fun i _=>10-(intOf i).toNat)
    case atStart=>exact ⟨0,Nat.zero_le _,rfl,hm3⟩
    case round=>
     clear hm3
     obtain ⟨r,hr,rfl,hmr⟩:=hrel
     by_cases hltr:r<10
     ·have hpx:=Xc4 (P:=Tryz.prog) Tryz.underlying251 Tryz.underlying23 rfl (by kernel_rfl) r hltr (Xie r hltr)
      obtain ⟨vr,hvr⟩:∃vr,roundsP (words s) r v0=vr:=⟨_,rfl⟩
      have Hvr:=Qh hvr
      rw [hvr] at hmr
      clear hvr
      have hlr:vr.length=16:=by rw [←Hvr.out,Xa4,hlv]
      go_wp2_with fail
      refine (Xls _).mono ?_
      rintro e w4 ⟨rfl,hb4⟩
      have hm4:=hmr.pass hb4
      clear hmr hb4
      go_wp2_with fail
      go_loopw [90] (fun s90 wr=> ∃k:Nat,k≤8∧s90= .int .i64 k∧Cm w [h0,h1,h2,h3,h4,h5,h6,h7] (words s) (stepsP (words s) r k vr) wr) (fun i _=>8-(intOf i).toNat)
      case atStart=>exact ⟨0,Nat.zero_le _,rfl,hm4⟩
      case round=>
       clear hm4
       obtain ⟨k,hk,rfl,hmk⟩:=hrel
       by_cases hltk:k<8
       ·have hqx:∀W,(Instr.index 254 (.agg quadRow) (.int .i64 (k:Int))).run Tryz.prog W= .ok (.agg #[.int .i64 (quad k).1,.int .i64 (quad k).2.1,.int .i64 (quad k).2.2.1,.int .i64 (quad k).2.2.2]) W:=fun W=>by
         rw [Xeo (P:=Tryz.prog) (m:=4) Tryz.underlying254 Tryz.underlying253 rfl (by kernel_rfl) k hltk,Xib k hltk];rfl
        have Hmk:=Qh hmk;clear hmk
        go_wp2_with fail
        obtain ⟨qa,qb,qc,qd,hq⟩:∃qa qb qc qd,quad k=(qa,qb,qc,qd):=⟨_,_,_,_,rfl⟩
        have hqo:=Xi8 k hltk
        have Hst:=Qh (show stepP (words s) r k (stepsP (words s) r k vr)=mixP (stepsP (words s) r k vr) qa qb qc qd ((words s).getD (sigma r (2*k)) 0) ((words s).getD (sigma r (2*k+1)) 0) by rw [stepP,hq])
        rw [hq] at hqo ⊢
        have Hqo:=Qh hqo
        clear hq hqo hpx hqx
        obtain ⟨hn1',hn2'⟩:=Xkm r k hltr hltk
        have hs1:=Xcm r (2*k) hltr (by omega)
        have hs2:=Xcm r (2*k+1) hltr (by omega)
        generalize sigma r (2*k)=sx at hn1' hs1 Hst
        generalize sigma r (2*k+1)=sy at hn2' hs2 Hst
        refine wp_region_quiet_below (by kernel_rfl) (by kernel_rfl) ?_
        repeat (go_big_quiet_step ((fail)))
        refine wpQuiet_nil ?_
        intro w5 hwq
        have hb5:Below (wr.alloc (.cells #[.int .i64 qa,.int .i64 qb,.int .i64 qc,.int .i64 qd] 253)).heap.size (wr.alloc (.cells #[.int .i64 qa,.int .i64 qb,.int .i64 qc,.int .i64 qd] 253)) w5:=by
         obtain ⟨pq,rfl⟩:=hwq
         exact below_regrown _ _ _
        clear hwq
        have hm5:=(Hmk.out.alloc _).pass hb5
        have k0:w5.cell? ⟨wr.heap.size,0,none⟩=some (.int .i64 qa):=by rw [hb5.cell (by simp)];simp
        have k1:w5.cell? ⟨wr.heap.size,1,none⟩=some (.int .i64 qb):=by rw [hb5.cell (by simp)];simp
        have k2:w5.cell? ⟨wr.heap.size,2,none⟩=some (.int .i64 qc):=by rw [hb5.cell (by simp)];simp
        have k3:w5.cell? ⟨wr.heap.size,3,none⟩=some (.int .i64 qd):=by rw [hb5.cell (by simp)];simp
        have m0:w5.cell? ⟨w.heap.size+1+1,sx,none⟩=some (.int .u32 ((words s).getD sx 0)):=(cell_of_row w5 _ sx _ _ _ hm5.b2).trans (Xa7 (by simpa [words] using hs1))
        have m1:w5.cell? ⟨w.heap.size+1+1,sy,none⟩=some (.int .u32 ((words s).getD sy 0)):=(cell_of_row w5 _ sy _ _ _ hm5.b2).trans (Xa7 (by simpa [words] using hs2))
        generalize (words s).getD sx 0=mx at m0 Hst
        generalize (words s).getD sy 0=my at m1 Hst
        have Hm5:=Qh hm5
        clear hm5 hb5 hn1' hn2' Hmk
        go_wp2_with fail
        have k0d:({ heap:=w5.heap,tape:=w5.tape,drawn:=w5.drawn+1,os:=w5.os,output:=w5.output }:World).cell? ⟨wr.heap.size,0,none⟩=some (.int .i64 qa):=k0
        have k1d:({ heap:=w5.heap,tape:=w5.tape,drawn:=w5.drawn+1,os:=w5.os,output:=w5.output }:World).cell? ⟨wr.heap.size,1,none⟩=some (.int .i64 qb):=k1
        have k2d:({ heap:=w5.heap,tape:=w5.tape,drawn:=w5.drawn+1,os:=w5.os,output:=w5.output }:World).cell? ⟨wr.heap.size,2,none⟩=some (.int .i64 qc):=k2
        have k3d:({ heap:=w5.heap,tape:=w5.tape,drawn:=w5.drawn+1,os:=w5.os,output:=w5.output }:World).cell? ⟨wr.heap.size,3,none⟩=some (.int .i64 qd):=k3
        have m0d:({ heap:=w5.heap,tape:=w5.tape,drawn:=w5.drawn+1,os:=w5.os,output:=w5.output }:World).cell? ⟨w.heap.size+1+1,sx,none⟩=some (.int .u32 mx):=m0
        have m1d:({ heap:=w5.heap,tape:=w5.tape,drawn:=w5.drawn+1,os:=w5.os,output:=w5.output }:World).cell? ⟨w.heap.size+1+1,sy,none⟩=some (.int .u32 my):=m1
        have hi1:(sx:Int)<16:=by omega
        have hi2:(sy:Int)<16:=by omega
        have hi3:(0:Int)≤sx:=by omega
        have hi4:(0:Int)≤sy:=by omega
        go_still_tail 7,(by kernel_rfl)
        change wpList _ _ _ _ _ w5.drew
        have Hm6:Hid (Cm w [h0,h1,h2,h3,h4,h5,h6,h7] (words s) (stepsP (words s) r k vr) w5.drew):=Qh Hm5.out.drew
        generalize w5.drew=w6 at Hm6
        go_wp2_with fail
        have hq1:=Hqo.out
        refine (Xru (w.heap.size+1+1+1) (stepsP (words s) r k vr) 249 qa qb qc qd mx my w6 Hm6.out.b3 (by rw [Xbn,hlr]) hq1.1 hq1.2.1 hq1.2.2.1 hq1.2.2.2.1 hq1.2.2.2.2.1 hq1.2.2.2.2.2.1 hq1.2.2.2.2.2.2.1 hq1.2.2.2.2.2.2.2.1 hq1.2.2.2.2.2.2.2.2.1 hq1.2.2.2.2.2.2.2.2.2).mono ?_
        rintro e w7 ⟨rfl,hg7,hv7⟩
        have hm7:=Hm6.out.grown3 hg7 hv7
        go_wp2
        go_roundw
        case rel=>exact ⟨k+1,by omega,by go_num,by rw [stepsP,Hst.out];exact hm7⟩
        case measure=>simp [intOf];omega
       ·have hke:k=8:=by omega
        subst hke
        go_wp2_with fail
        go_roundw
        case rel=>exact ⟨r+1,by omega,by go_num,by rw [roundsP,Hvr.out];exact hmk⟩
        case measure=>simp [intOf];omega
     ·have hre:r=10:=by omega
      obtain ⟨v,hv⟩:∃v,roundsP (words s) r v0=v:=⟨_,rfl⟩
      have Hv:=Qh hv
      have hlv2:v.length=16:=by rw [←hv,Xa4,hlv]
      rw [hv] at hmr
      clear hv
      go_wp2_with fail
      go_loopw [116] (fun s116 wr=> ∃k:Nat,k≤8∧s116= .int .i64 k∧Cm w (finTo [h0,h1,h2,h3,h4,h5,h6,h7] v k) (words s) v wr) (fun i _=>8-(intOf i).toNat)
      case atStart=>exact ⟨0,Nat.zero_le _,rfl,hmr⟩
      case round=>
       clear hmr
       obtain ⟨k,hk,rfl,hmk⟩:=hrel
       by_cases hltk:k<8
       ·have hfl:=Xbf [h0,h1,h2,h3,h4,h5,h6,h7] v k
        have a0:=(cell_of_row wr _ k _ _ _ hmk.b0).trans (Xa7 (by rw [hfl];exact hltk))
        have a1:=(cell_of_row wr _ k _ _ _ hmk.b3).trans (Xa7 (l:=v) (by omega))
        have a2:=(cell_of_row wr _ (k+8) _ _ _ hmk.b3).trans (Xa7 (l:=v) (by omega))
        have a3:=frozen_of_row wr _ k _ _ hmk.b0
        rw [Xf7 _ _ _ hltk] at a0
        have hsc:=Xd0 [h0,h1,h2,h3,h4,h5,h6,h7] v k
        generalize List.getD [h0,h1,h2,h3,h4,h5,h6,h7] k 0=x0 at a0 hsc
        generalize v.getD k 0=x1 at a1 hsc
        generalize v.getD (k+8) 0=x2 at a2 hsc
        have Hsc:=Qh hsc
        have Hmk:=Qh hmk;clear hmk hfl hsc
        go_wp2_with fail
        go_big_region
        go_wp2
        go_roundw
        case rel=>exact ⟨k+1,by omega,by go_num,by rw [←Hsc.out];exact (Hmk.out.set0 k _).drew⟩
        case measure=>simp [intOf];omega
       ·have hfl:=Xbf [h0,h1,h2,h3,h4,h5,h6,h7] v k
        have hfin:finTo [h0,h1,h2,h3,h4,h5,h6,h7] v k=compressP [h0,h1,h2,h3,h4,h5,h6,h7] s count false:=by
         rw [compressP,Hv0.out,←hre,Hv.out,show k=8 by omega]
        generalize finTo [h0,h1,h2,h3,h4,h5,h6,h7] v k=F at hmk hfl hfin
        have Hfin:=Qh hfin
        have hi8:(Tryz.prog.info? 192).map (·.size)=some (row F).size:=by rw [row_size,hfl];kernel_rfl
        have hz8:(row (List.replicate 8 0)).size=(row F).size:=by rw [row_size,row_size,hfl];rfl
        have ho8:(row F).all (·.oneCell')=true:=by simp [row,Value.oneCell']
        have b0:=hmk.b0
        have b1:=hmk.b1
        have Hmk:=Qh hmk
        clear hmk hfin
        go_wp2_with (first
         |(refine wpList_load_row rfl 192 _ rfl w.heap.size rfl 192 (row F) (0,0) _ b0 Tryz.underlying192 rfl hi8 ?_)
         |(refine wpList_store_row rfl 192 _ _ rfl (w.heap.size+1) (row F) rfl rfl 192 (row (List.replicate 8 0)) b1 hi8 hz8 ho8 ?_))
        try simp only [Exit.inBlock,Exit.then]
        refine bodyPost_ret (v:= .tuple #[.agg (row F),.int .i64 0]) ?_ rfl ⟨?_,?_⟩
        ·rw [results_cell_tmp rfl]
         simp [asAddr,run_loadVar_row _ (w.heap.size+1) 192 192 (row F) (0,0) _ (setRow_heap _ _ _ _ _ _ b1) Tryz.underlying192 rfl hi8]
        ·rw [Hfin.out]
        ·exact below_setRow Hmk.out.below (by omega) _
section
variable {α:Type}
def idxL (l:List α) (p:α→Bool):Int:=match l.findIdx? p with|some i=>i|none=> -1
theorem Xg8 {l:List α} {p:α→Bool} (h:l.any p=false):idxL l p= -1:=by
 have:l.findIdx? p=none:=by
  rw [List.findIdx?_eq_none_iff]
  intro x hx
  cases hp:p x with
  |false=>rfl
  |true=>rw [List.any_eq_true.2 ⟨x,hx,hp⟩] at h;exact absurd h (by simp)
 rw [idxL,this]
theorem Xg7 {l:List α} {p:α→Bool} {i:Nat} (hi:i<l.length) (hp:p l[i]=true) (hn:(l.take i).any p=false):idxL l p=i:=by
 have:l.findIdx? p=some i:=by
  rw [List.findIdx?_eq_some_iff_getElem]
  refine ⟨hi,hp,fun j hj=> ?_⟩
  cases hq:p l[j] with
  |false=>simp
  |true=>
   have hjl:j<(l.take i).length:=by simp;omega
   rw [List.any_eq_true.2 ⟨(l.take i)[j],List.getElem_mem hjl,by rw [List.getElem_take];exact hq⟩] at hn
   exact absurd hn (by simp)
 rw [idxL,this]
theorem Xcd (l:List α) (p:α→Bool):(∃i:Nat,∃h:i<l.length,idxL l p=i∧p l[i]=true∧(l.take i).any p=false)∨(idxL l p= -1∧l.any p=false):=by
 unfold idxL
 cases h:l.findIdx? p with
 |none=>
  right
  refine ⟨rfl,?_⟩
  rw [List.findIdx?_eq_none_iff] at h
  cases ha:l.any p with
  |false=>rfl
  |true=>
   obtain ⟨x,hx,hp⟩:=List.any_eq_true.1 ha
   rw [h x hx] at hp;exact absurd hp (by simp)
 |some i=>
  left
  rw [List.findIdx?_eq_some_iff_getElem] at h
  obtain ⟨hi,h1,h2⟩:=h
  refine ⟨i,hi,rfl,h1,?_⟩
  cases ha:(l.take i).any p with
  |false=>rfl
  |true=>
   obtain ⟨x,hx,hp⟩:=List.any_eq_true.1 ha
   obtain ⟨j,hj,rfl⟩:=List.getElem_of_mem hx
   rw [List.getElem_take] at hp
   have hji:j<i:=by simp at hj;omega
   have:=h2 j hji
   simp [hp] at this
end
def allowedR (r:Nat):Bool:= !(notAllowed r)
set_option maxRecDepth 100000 in
set_option maxHeartbeats 400000 in
theorem Xol (c:Nat) (w:World):Calls Tryz.prog 247 #[.int .i32 (c:Int)] w fun e w'=>e= .returned (.bool (allowedR c))∧w'=w:=by
 rcases (show (97≤c∧c≤122)∨122<c∨(48≤c∧c≤57)∨c=46∨c=95∨c=45∨(c<48∧c≠46∧c≠45)∨(57<c∧c<97∧c≠95) by omega) with hc|hc|hc|hc|hc|hc|hc|hc
 ·have d97:decide (97≤(c:Int))=true:=by simp;omega
  have d122:decide ((c:Int)≤122)=true:=by simp;omega
  have d48:decide (48≤(c:Int))=true:=by simp;omega
  have d57:decide ((c:Int)≤57)=false:=by simp;omega
  have n46:((c:Int)==46)=false:=by simp;omega
  have n95:((c:Int)==95)=false:=by simp;omega
  have n45:((c:Int)==45)=false:=by simp;omega
  have Hv:=Qh (show allowedR c=true by unfold allowedR notAllowed;simp;omega)
  clear hc
  go_enter Tryz.func247,Tryz.ntmps247
  go_wp2
  go_ret
  exact ⟨Xa2 Hv.out.symm,rfl⟩
 ·have d97:decide (97≤(c:Int))=true:=by simp;omega
  have d122:decide ((c:Int)≤122)=false:=by simp;omega
  have d48:decide (48≤(c:Int))=true:=by simp;omega
  have d57:decide ((c:Int)≤57)=false:=by simp;omega
  have n46:((c:Int)==46)=false:=by simp;omega
  have n95:((c:Int)==95)=false:=by simp;omega
  have n45:((c:Int)==45)=false:=by simp;omega
  have Hv:=Qh (show allowedR c=false by unfold allowedR notAllowed;simp;omega)
  clear hc
  go_enter Tryz.func247,Tryz.ntmps247
  go_wp2
  go_ret
  exact ⟨Xa2 Hv.out.symm,rfl⟩
 ·have d97:decide (97≤(c:Int))=false:=by simp;omega
  have d122:decide ((c:Int)≤122)=true:=by simp;omega
  have d48:decide (48≤(c:Int))=true:=by simp;omega
  have d57:decide ((c:Int)≤57)=true:=by simp;omega
  have n46:((c:Int)==46)=false:=by simp;omega
  have n95:((c:Int)==95)=false:=by simp;omega
  have n45:((c:Int)==45)=false:=by simp;omega
  have Hv:=Qh (show allowedR c=true by unfold allowedR notAllowed;simp;omega)
  clear hc
  go_enter Tryz.func247,Tryz.ntmps247
  go_wp2
  go_ret
  exact ⟨Xa2 Hv.out.symm,rfl⟩
 ·have d97:decide (97≤(c:Int))=false:=by simp;omega
  have d122:decide ((c:Int)≤122)=true:=by simp;omega
  have d48:decide (48≤(c:Int))=false:=by simp;omega
  have d57:decide ((c:Int)≤57)=true:=by simp;omega
  have n46:((c:Int)==46)=true:=by simp;omega
  have n95:((c:Int)==95)=false:=by simp;omega
  have n45:((c:Int)==45)=false:=by simp;omega
  have Hv:=Qh (show allowedR c=true by unfold allowedR notAllowed;simp;omega)
  clear hc
  go_enter Tryz.func247,Tryz.ntmps247
  go_wp2
  go_ret
  exact ⟨Xa2 Hv.out.symm,rfl⟩
 ·have d97:decide (97≤(c:Int))=false:=by simp;omega
  have d122:decide ((c:Int)≤122)=true:=by simp;omega
  have d48:decide (48≤(c:Int))=true:=by simp;omega
  have d57:decide ((c:Int)≤57)=false:=by simp;omega
  have n46:((c:Int)==46)=false:=by simp;omega
  have n95:((c:Int)==95)=true:=by simp;omega
  have n45:((c:Int)==45)=false:=by simp;omega
  have Hv:=Qh (show allowedR c=true by unfold allowedR notAllowed;simp;omega)
  clear hc
  go_enter Tryz.func247,Tryz.ntmps247
  go_wp2
  go_ret
  exact ⟨Xa2 Hv.out.symm,rfl⟩
 ·have d97:decide (97≤(c:Int))=false:=by simp;omega
  have d122:decide ((c:Int)≤122)=true:=by simp;omega
  have d48:decide (48≤(c:Int))=false:=by simp;omega
  have d57:decide ((c:Int)≤57)=true:=by simp;omega
  have n46:((c:Int)==46)=false:=by simp;omega
  have n95:((c:Int)==95)=false:=by simp;omega
  have n45:((c:Int)==45)=true:=by simp;omega
  have Hv:=Qh (show allowedR c=true by unfold allowedR notAllowed;simp;omega)
  clear hc
  go_enter Tryz.func247,Tryz.ntmps247
  go_wp2
  go_ret
  exact ⟨Xa2 Hv.out.symm,rfl⟩
 ·have d97:decide (97≤(c:Int))=false:=by simp;omega
  have d122:decide ((c:Int)≤122)=true:=by simp;omega
  have d48:decide (48≤(c:Int))=false:=by simp;omega
  have d57:decide ((c:Int)≤57)=true:=by simp;omega
  have n46:((c:Int)==46)=false:=by simp;omega
  have n95:((c:Int)==95)=false:=by simp;omega
  have n45:((c:Int)==45)=false:=by simp;omega
  have Hv:=Qh (show allowedR c=false by unfold allowedR notAllowed;simp;omega)
  clear hc
  go_enter Tryz.func247,Tryz.ntmps247
  go_wp2
  go_ret
  exact ⟨Xa2 Hv.out.symm,rfl⟩
 ·have d97:decide (97≤(c:Int))=false:=by simp;omega
  have d122:decide ((c:Int)≤122)=true:=by simp;omega
  have d48:decide (48≤(c:Int))=true:=by simp;omega
  have d57:decide ((c:Int)≤57)=false:=by simp;omega
  have n46:((c:Int)==46)=false:=by simp;omega
  have n95:((c:Int)==95)=false:=by simp;omega
  have n45:((c:Int)==45)=false:=by simp;omega
  have Hv:=Qh (show allowedR c=false by unfold allowedR notAllowed;simp;omega)
  clear hc
  go_enter Tryz.func247,Tryz.ntmps247
  go_wp2
  go_ret
  exact ⟨Xa2 Hv.out.symm,rfl⟩
set_option maxRecDepth 100000 in
theorem Xi9 (c:Nat) (w:World):Calls Tryz.prog 246 #[.int .i32 (c:Int)] w fun e w'=>e= .returned (.bool (notAllowed c))∧w'=w:=by
 go_enter Tryz.func246,Tryz.ntmps246
 go_wp2_with fail
 refine (Xol c _).mono ?_
 rintro e w1 ⟨rfl,rfl⟩
 go_wp2
 go_ret
 exact ⟨Xa2 (by rw [allowedR,Bool.not_not]),rfl⟩
set_option maxRecDepth 100000 in
set_option maxHeartbeats 400000 in
theorem Xkk (s:Bytes) (hs:s.length≤9223372036854775807) (w:World):
 Calls Tryz.prog 176 #[S s] w fun e w'=>e= .returned (.bool (comp s))∧Below w.heap.size w w':=by
 by_cases h1:1≤s.length
 case neg=>
  have hd1:decide (1≤s.length)=false:=Qf h1
  have Hok:=Qh (show comp s=false by simp [comp,h1])
  go_enter Tryz.func176,Tryz.ntmps176
  go_wp2
  go_ret
  exact ⟨Xa2 Hok.out.symm,Qb _ _⟩
 have hd1:decide (1≤s.length)=true:=Qt h1
 by_cases h32:s.length≤32
 case neg=>
  have hd2:decide (s.length≤32)=false:=Qf h32
  have Hok:=Qh (show comp s=false by simp [comp,h32])
  go_enter Tryz.func176,Tryz.ntmps176
  go_wp2
  go_ret
  exact ⟨Xa2 Hok.out.symm,Qb _ _⟩
 have hd2:decide (s.length≤32)=true:=Qt h32
 by_cases h46:s= [46]
 case pos=>
  subst h46
  have Hok:=Qh (show comp [46]=false by rfl)
  clear hs h1 hd1 h32 hd2
  go_enter Tryz.func176,Tryz.ntmps176
  go_wp2
  go_ret
  exact ⟨Xa2 Hok.out.symm,Qb _ _⟩
 have f46:(s != [46])=true:=by simpa using h46
 have g46:(s== [46])=false:=by simpa using h46
 by_cases h47:s= [46,46]
 case pos=>
  subst h47
  have Hok:=Qh (show comp [46,46]=false by rfl)
  clear hs h1 hd1 h32 hd2 h46 f46 g46
  go_enter Tryz.func176,Tryz.ntmps176
  go_wp2
  go_ret
  exact ⟨Xa2 Hok.out.symm,Qb _ _⟩
 have f47:(s != [46,46])=true:=by simpa using h47
 have g47:(s== [46,46])=false:=by simpa using h47
 have Hok:=Qh (show comp s= !(decide (0≤Lib.idxFunc notAllowed true ⟨s.toArray⟩)) by rw [Xtd,Bool.not_not];simp [comp,h1,h32,f46,f47])
 have Hcf:=Qh (Xf0 246 notAllowed s w (fun _ _=>by kernel_rfl) (fun x W=>Xi9 x W))
 generalize decide (0≤Lib.idxFunc notAllowed true ⟨s.toArray⟩)=bb at Hok Hcf
 clear h46 h47
 go_enter Tryz.func176,Tryz.ntmps176
 go_wp2_with fail
 refine Hcf.out.mono ?_
 rintro e w1 ⟨rfl,hb1⟩
 go_wp2
 go_ret
 exact ⟨Xa2 Hok.out.symm,hb1⟩
set_option maxRecDepth 100000 in
set_option maxHeartbeats 400000 in
theorem Xc9 (I:IH) (hI:Glob I) (s:Bytes) (hs:s.length≤4294967280) (w:World) (hw:Ok I w):
 Calls Tryz.prog 169 #[S s] w (RetS tStr I w (els s)):=by
 by_cases h0:s= []
 ·obtain ⟨p1,p2,p3,p4⟩:=Xdf h0
  have Hs:=Qh (show els s= [] by rw [h0];rfl)
  clear h0
  go_enter Tryz.func169,Tryz.ntmps169
  go_wp2
  go_ret
  rw [Hs.out]
  exact ⟨_,I,rfl,Qb _ _,Ext.refl _ _,hw,RdS.nil _ _⟩
 ·obtain ⟨p1,p2,p3,p4⟩:=Xde h0
  have Hs:=Qh (show els s=elsGo [] s by rw [els,if_neg h0])
  have Hl:=Qh (Xqn I hI s hs w hw)
  generalize elsGo [] s=l at Hs Hl
  clear h0
  go_enter Tryz.func169,Tryz.ntmps169
  go_wp2_with fail
  refine Hl.out.mono ?_
  rintro e w1 ⟨v1,I1,rfl,hb1,hx1,hok1,hr1⟩
  obtain ⟨ao,cap,rfl,hcap,hcm,_⟩:=id hr1
  go_wp2
  go_ret
  rw [Hs.out]
  exact ⟨_,I1,rfl,hb1,hx1,hok1,hr1⟩
set_option maxRecDepth 100000 in
theorem Xqg (s:Bytes) (hs:s.length≤9223372036854775807) (w:World):
 Calls Tryz.prog 175 #[S s] w fun e w'=>e= .returned (.bool (!(comp s)))∧Below w.heap.size w w':=by
 go_enter Tryz.func175,Tryz.ntmps175
 go_wp2_with fail
 refine (Xkk s hs _).mono ?_
 rintro e w1 ⟨rfl,hb1⟩
 go_wp2
 go_ret
 exact ⟨rfl,hb1⟩
set_option maxRecDepth 100000 in
set_option maxHeartbeats 400000 in
theorem Xh1 (I:IH) (v:Value) (l:List Bytes) (hv:RdS tStr I v l) (g:Nat) (p:Bytes→Bool) (w:World) (hw:Ok I w) (eg:∀args w,(callFunc g args).run Tryz.prog w= .ok (.enter g args) w) (hp:∀x∈l,∀W:World,Calls Tryz.prog g #[S x] W fun e w'=>e= .returned (.bool (p x))∧Below W.heap.size W w'):
 Calls Tryz.prog 244 #[v,.func (.func g) #[] #[]] w fun e w'=>e= .returned (.int .i64 (idxL l p))∧Below w.heap.size w w':=by
 have hlen:=hv.len_le
 obtain ⟨ao,cap,rfl,hcap,hcm,_⟩:=id hv
 have Hv:=Qh hv;clear hv
 have Hp:=Qh hp;clear hp
 go_enter Tryz.func244,Tryz.ntmps244
 go_wp2_with fail
 go_loopw [8] (fun s8 wr=> ∃k:Nat,k≤l.length∧s8= .int .i64 k∧(l.take k).any p=false∧Below w.heap.size w wr) (fun i _=>l.length-(intOf i).toNat)
 case atStart=>exact ⟨0,Nat.zero_le _,rfl,rfl,Qb _ _⟩
 case round=>
  obtain ⟨k,hk,rfl,hr,hb⟩:=hrel
  have Hr:=Qh hr;clear hr
  by_cases hlt:k<l.length
  ·have hwr:Ok I wr:=hw.below (Qn _) hb
   obtain ⟨x,b,off,cap',hlx,hvv,hc0⟩:=Xn6 Hv.out hwr k hlt
   cases hvv
   have Hlx:=Qh hlx
   have Hcall:=Qh (Hp.out x (by rw [←hlx];exact List.getElem_mem hlt))
   clear hlx
   go_wp2_with fail
   refine (Hcall.out _).mono ?_
   rintro e w1 ⟨rfl,hb1⟩
   have hb1':=hb.trans (hb1.mono hb.size)
   clear hb1 Hcall
   cases hpx:p x
   ·have Hn:=Qh (show (l.take (k+1)).any p=false by rw [List.take_succ_eq_append_getElem hlt,List.any_append,Hr.out,Hlx.out];simp [hpx])
    clear hpx
    go_wp2
    go_roundw
    case rel=>exact ⟨k+1,by omega,by go_num,Hn.out,hb1'⟩
    case measure=>simp [intOf];omega
   ·have Hn:=Qh (Xg7 (p:=p) hlt (by rw [Hlx.out];exact hpx) Hr.out)
    clear hpx
    go_wp2
    go_ret
    exact ⟨Xag Hn.out.symm,hb1'⟩
  ·have Hn:=Qh (show idxL l p= -1 from Xg8 (by have:=Hr.out;rwa [List.take_of_length_le (by omega)] at this))
   go_wp2
   go_ret
   exact ⟨Xag Hn.out.symm,hb⟩
set_option maxRecDepth 100000 in
theorem Xfi (I:IH) (v:Value) (l:List Bytes) (hv:RdS tStr I v l) (g:Nat) (p:Bytes→Bool) (w:World) (hw:Ok I w) (eg:∀args w,(callFunc g args).run Tryz.prog w= .ok (.enter g args) w) (hp:∀x∈l,∀W:World,Calls Tryz.prog g #[S x] W fun e w'=>e= .returned (.bool (p x))∧Below W.heap.size W w'):
 Calls Tryz.prog 174 #[v,.func (.func g) #[] #[]] w fun e w'=>e= .returned (.bool (l.any p))∧Below w.heap.size w w':=by
 have Hi:=Qh (Xh1 I v l hv g p w hw eg hp)
 obtain ⟨ao,cap,rfl,hcap,hcm,_⟩:=id hv
 clear hv hp eg
 rcases Xcd l p with ⟨i,hi,e1,e2,_⟩|⟨e1,e2⟩
 ·have Ha:=Qh (show l.any p=true from List.any_eq_true.2 ⟨l[i],List.getElem_mem hi,e2⟩)
  have hd:decide ((0:Int)≤(i:Int))=true:=Qt (by omega)
  rw [e1] at Hi
  clear e1 e2
  go_enter Tryz.func174,Tryz.ntmps174
  go_wp2_with fail
  refine Hi.out.mono ?_
  rintro e w1 ⟨rfl,hb1⟩
  go_wp2
  go_ret
  exact ⟨Xa2 Ha.out.symm,hb1⟩
 ·have Ha:=Qh e2
  rw [e1] at Hi
  clear e1 e2
  go_enter Tryz.func174,Tryz.ntmps174
  go_wp2_with fail
  refine Hi.out.mono ?_
  rintro e w1 ⟨rfl,hb1⟩
  go_wp2
  go_ret
  exact ⟨Xa2 Ha.out.symm,hb1⟩
theorem Xv2 (l:List Bytes):l.any (fun s=> !(comp s))= !(l.all comp):=by
 induction l with
 |nil=>rfl
 |cons x l ih=>rw [List.any_cons,List.all_cons,ih,Bool.not_and]
set_option maxRecDepth 100000 in
set_option maxHeartbeats 400000 in
theorem Xnc (I:IH) (hI:Glob I) (s:Bytes) (hs:s.length≤4294967280) (w:World) (hw:Ok I w):
 Calls Tryz.prog 109 #[S s] w fun e w'=>e= .returned (.int .i64 (pathErr s))∧Below w.heap.size w w':=by
 have Hel:=Qh (Xc9 I hI s hs w hw)
 have Hll:=Qh (fun (q:Bytes) (h:q∈els s)=>Xq9 h)
 by_cases h200:s.length≤200
 case neg=>
  have hd:decide (200<s.length)=true:=Qt (by omega)
  have Hp:=Qh (show pathErr s=6 by rw [pathErr,if_pos (by omega)])
  go_enter Tryz.func109,Tryz.ntmps109
  go_wp2_with fail
  refine Hel.out.mono ?_
  rintro e w1 ⟨v1,I1,rfl,hb1,hx1,hok1,hr1⟩
  obtain ⟨ao,cap,rfl,hcap,hcm,_⟩:=id hr1
  clear hr1
  go_wp2
  go_ret
  exact ⟨Xag Hp.out.symm,hb1⟩
 have hd:decide (200<s.length)=false:=Qf (by omega)
 have Hp:=Qh (show pathErr s=if 8<(els s).length then 6 else if (els s).all comp then 0 else 7 by rw [pathErr,if_neg (by omega)])
 generalize els s=l at Hel Hp Hll
 by_cases h8:8<l.length
 case pos=>
  have Hp2:=Qh (show pathErr s=6 by rw [Hp.out,if_pos h8])
  go_enter Tryz.func109,Tryz.ntmps109
  go_wp2_with fail
  refine Hel.out.mono ?_
  rintro e w1 ⟨v1,I1,rfl,hb1,hx1,hok1,hr1⟩
  obtain ⟨ao,cap,rfl,hcap,hcm,_⟩:=id hr1
  clear hr1
  go_wp2
  go_ret
  exact ⟨Xag Hp2.out.symm,hb1⟩
 have Hp2:=Qh (show pathErr s=if l.all comp then 0 else 7 by rw [Hp.out,if_neg h8])
 go_enter Tryz.func109,Tryz.ntmps109
 go_wp2_with fail
 refine Hel.out.mono ?_
 rintro e w1 ⟨v1,I1,rfl,hb1,hx1,hok1,hr1⟩
 have Hcf:=Qh (Xfi I1 v1 l hr1 175 (fun s=> !(comp s)) w1 hok1 (fun _ _=>by kernel_rfl) (fun x hx W=>Xqg x (by have:=Hll.out x hx;omega) W))
 rw [Xv2] at Hcf
 obtain ⟨ao,cap,rfl,hcap,hcm,_⟩:=id hr1
 clear hr1
 go_wp2_with fail
 refine Hcf.out.mono ?_
 rintro e w2 ⟨rfl,hb2⟩
 cases ha:l.all comp
 ·have Hn:=Qh (show pathErr s=7 by rw [Hp2.out,ha];rfl)
  clear ha
  go_wp2
  go_ret
  exact ⟨Xag Hn.out.symm,hb1.trans (hb2.mono hb1.size)⟩
 ·have Hn:=Qh (show pathErr s=0 by rw [Hp2.out,ha];rfl)
  clear ha
  go_wp2
  go_ret
  exact ⟨Xag Hn.out.symm,hb1.trans (hb2.mono hb1.size)⟩
set_option maxRecDepth 100000 in
set_option maxHeartbeats 400000 in
theorem Xf4 (I:IH) (hI:Glob I) (s:Bytes) (hs:s.length≤4294967280) (w:World) (hw:Ok I w):
 Calls Tryz.prog 171 #[S s] w (RetL tStr I w (splP s).1 (splP s).2):=by
 have Hc:=Qh (Xnc I hI s hs w hw)
 by_cases h0:pathErr s=0
 ·rw [h0] at Hc
  have Hspl:=Qh (Xiw h0)
  clear h0
  go_enter Tryz.func171,Tryz.ntmps171
  go_wp2_with fail
  refine Hc.out.mono ?_
  rintro e w1 ⟨rfl,hb1⟩
  have hok1:Ok I w1:=hw.below (Qn _) hb1
  go_wp2_with fail
  refine (Xc9 I hI s hs _ hok1).mono ?_
  rintro e w2 ⟨v2,I2,rfl,hb2,hx2,hok2,hr2⟩
  obtain ⟨ao,cap,rfl,hcap,hcm,_⟩:=id hr2
  go_wp2
  go_ret2
  rw [Hspl.out]
  exact ⟨_,I2,rfl,hb1.trans (hb2.mono hb1.size),hx2.mono hb1.size,hok2,hr2⟩
 ·have Hspl:=Qh (Xpo h0)
  obtain ⟨q,hq⟩:∃q,pathErr s=q:=⟨_,rfl⟩
  have hn:(q != 0)=true:=by rw [←hq];simpa using h0
  rw [hq] at Hspl Hc
  clear hq h0
  go_enter Tryz.func171,Tryz.ntmps171
  go_wp2_with fail
  refine Hc.out.mono ?_
  rintro e w1 ⟨rfl,hb1⟩
  have hok1:Ok I w1:=hw.below (Qn _) hb1
  go_wp2
  go_ret2
  rw [Hspl.out]
  exact ⟨_,I,rfl,hb1,Ext.refl _ _,hok1,RdS.nil _ _⟩
set_option maxRecDepth 100000 in
set_option maxHeartbeats 400000 in
theorem Xqf (I:IH) (hI:Glob I) (s:Bytes) (hs:s.length≤4294967280) (w:World) (hw:Ok I w):
 Calls Tryz.prog 105 #[S s] w fun e w'=>e= .returned (.tuple #[S (parP s).1,.int .i64 (parP s).2])∧Below w.heap.size w w':=by
 by_cases h0:pathErr s=0
 ·have Hsp:=Qh (by have:=Xf4 I hI s hs w hw;rw [Xiw h0] at this;exact this)
  have hs2:=(Xcb h0).1
  have hs8:=(Xcb h0).2.1
  have Hpp:=Qh (show parP s=if s= [] then ([],1) else (upP s,0) by rw [parP,if_neg (by omega)])
  have hjl:(joinP (els s)).length≤200:=by rw [Xg6];exact hs2
  have hel:=Xu8 (s:=s)
  have hup:upP s=joinP ((els s).take ((els s).length-1)):=by rw [upP,List.dropLast_eq_take]
  have Hjt:=Qh (Xjd (els s) ((els s).length-1))
  generalize els s=l at Hsp hjl hel hup Hjt hs8
  have Hel:=Qh hel
  have Hup:=Qh hup
  clear h0 hel hup
  go_enter Tryz.func105,Tryz.ntmps105
  go_wp2_with fail
  refine Hsp.out.mono ?_
  rintro e w1 ⟨v1,I1,rfl,hb1,hx1,hok1,hr1⟩
  obtain ⟨ao,cap,rfl,hcap,hcm,_⟩:=id hr1
  have Hr1:=Qh hr1
  clear hr1 hx1
  have hml:maxLen=9223372036854775807:=rfl
  by_cases hl0:l.length=0
  ·have Hn:=Qh (show parP s=([],1) by rw [Hpp.out,if_pos (Hel.out.1 (List.eq_nil_of_length_eq_zero hl0))])
   have hz:((l.length:Int)==0)=true:=by rw [hl0];rfl
   clear hl0 hml
   go_wp2
   go_ret2
   rw [Hn.out]
   exact ⟨rfl,hb1⟩
  ·have Hn:=Qh (show parP s=(joinP (l.take (l.length-1)),0) by
    rw [Hpp.out,if_neg (fun e=>hl0 (by rw [Hel.out.2 e];rfl)),Hup.out])
   have hz:((l.length:Int)==0)=false:=by rw [beq_eq_false_iff_ne];omega
   have hlp:1≤l.length:=by omega
   have hi:IntKind.i64.wrap ((l.length:Int)-1)=(l.length:Int)-1:=IntWalk.i64_in _ (by omega)
   have hj:(0:Int)≤(l.length:Int)-1:=by omega
   have hj2:(l.length:Int)-1≤(cap:Int):=by omega
   have hm:((l.length:Int)-1).toNat=l.length-1:=by omega
   have Hr2:=Qh (Hr1.out.takeS (n:=l.length-1) (by omega))
   have Hj2:=Qh (Xs8 I1 _ _ Hr2.out (by have:=Hjt.out;omega) (by rw [List.length_take];omega) w1 hok1)
   clear hl0 hml
   go_wp2_with fail
   refine Hj2.out.mono ?_
   rintro e w2 ⟨rfl,hb2⟩
   go_wp2
   go_ret2
   rw [Hn.out]
   exact ⟨rfl,hb1.trans (hb2.mono hb1.size)⟩
 ·have Hsp:=Qh (by have:=Xf4 I hI s hs w hw;rw [Xpo h0] at this;exact this)
  obtain ⟨q,hq⟩:∃q,pathErr s=q:=⟨_,rfl⟩
  have hn:(q != 0)=true:=by rw [←hq];simpa using h0
  have Hpp:=Qh (show parP s=([],q) by rw [parP,if_pos h0,hq])
  rw [hq] at Hsp
  clear hq h0
  go_enter Tryz.func105,Tryz.ntmps105
  go_wp2_with fail
  refine Hsp.out.mono ?_
  rintro e w1 ⟨v1,I1,rfl,hb1,hx1,hok1,hr1⟩
  obtain ⟨ao,cap,rfl,hcap,hcm,_⟩:=id hr1
  go_wp2
  go_ret2
  rw [Hpp.out]
  exact ⟨rfl,hb1⟩
set_option maxRecDepth 100000 in
set_option maxHeartbeats 1000000 in
theorem Xja (I:IH) (hI:Glob I) (p d:Bytes) (hp:p.length≤4294967280) (hd:d.length≤4294967280) (w:World) (hw:Ok I w):
 Calls Tryz.prog 196 #[S p,S d] w fun e w'=>e= .returned (.bool (under p d))∧Below w.heap.size w w':=by
 have Hsp:=Qh (Xf4 I hI p hp w hw)
 have Hu:=Qh (show under p d=(decide (pathErr p=0)&&decide (pathErr d=0)&&(els d).isPrefixOf (els p)) from rfl)
 have hq1:(splP p).2=pathErr p:=by rw [splP];split<;>simp_all
 have hq2:(splP d).2=pathErr d:=by rw [splP];split<;>simp_all
 have Hl1:=Qh (fun h:pathErr p=0=>show (splP p).1=els p by rw [Xiw h])
 have Hl2:=Qh (fun h:pathErr d=0=>show (splP d).1=els d by rw [Xiw h])
 have Hsd:=Qh (fun I hI w hw=>Xf4 I hI d hd w hw)
 rw [hq1] at Hsp
 rw [hq2] at Hsd
 generalize (splP p).1=l at Hsp Hl1
 generalize (splP d).1=m at Hsd Hl2
 clear hq1 hq2
 go_enter Tryz.func196,Tryz.ntmps196
 go_wp2_with fail
 refine Hsp.out.mono ?_
 rintro e w1 ⟨v1,I1,rfl,hb1,hx1,hok1,hr1⟩
 have hI1:=hI.mono (hx1.keep hw (Qn _))
 have Hr1:=Qh hr1
 clear hr1
 obtain ⟨ao0,cap0,rfl,_,_,_⟩:=id Hr1.out
 go_wp2_with fail
 refine (Hsd.out I1 hI1 _ hok1).mono ?_
 rintro e w2 ⟨v2,I2,rfl,hb2,hx2,hok2,hr2⟩
 have hr1:=Hr1.out.mono (hx2.keep hok1 (Qn _))
 have hb2':=hb1.trans (hb2.mono hb1.size)
 obtain ⟨ao,cap,e1,hcap,hcm,_⟩:=id hr1
 cases e1
 obtain ⟨ao2,cap2,rfl,hcap2,hcm2,_⟩:=id hr2
 have hlen:=hr1.len_le
 have hlen2:=hr2.len_le
 have Hl:=Qh hr1
 have Hm:=Qh hr2
 clear hr1 hr2 Hr1 hb1 hb2 hx1 hx2
 by_cases h0:pathErr p=0
 case neg=>
  have Hn:=Qh (show under p d=false by rw [Hu.out,Qf h0];rfl)
  obtain ⟨q,hq⟩:∃q,pathErr p=q:=⟨_,rfl⟩
  have hn:(q==0)=false:=by rw [←hq];simpa using h0
  rw [hq]
  clear hq h0
  go_wp2
  go_ret
  exact ⟨Xa2 Hn.out.symm,hb2'⟩
 by_cases h1:pathErr d=0
 case neg=>
  have Hn:=Qh (show under p d=false by rw [Hu.out,Qf h1,Bool.and_false];rfl)
  obtain ⟨q,hq⟩:∃q,pathErr d=q:=⟨_,rfl⟩
  have hn:(q==0)=false:=by rw [←hq];simpa using h1
  rw [hq,h0]
  clear hq h1 h0
  go_wp2
  go_ret
  exact ⟨Xa2 Hn.out.symm,hb2'⟩
 have Hu2:=Qh (show under p d=m.isPrefixOf l by rw [Hu.out,Qt h0,Qt h1,Hl1.out h0,Hl2.out h1];rfl)
 rw [h0,h1]
 clear h0 h1
 by_cases hlm:m.length≤l.length
 case neg=>
  have hd1:decide (m.length≤l.length)=false:=Qf hlm
  have Hn:=Qh (show under p d=false by rw [Hu2.out];exact Xkj (by omega))
  go_wp2
  go_ret
  exact ⟨Xa2 Hn.out.symm,hb2'⟩
 have hd1:decide (m.length≤l.length)=true:=Qt hlm
 have hcc:m.length≤cap0:=by omega
 have Hn:=Qh (show under p d=decide (l.take m.length=m) by rw [Hu2.out];exact Xme l m)
 have Heq:=Qh (Xqp I2 _ _ _ _ (Hl.out.takeS hlm) Hm.out w2 hok2)
 generalize decide (l.take m.length=m)=bb at Hn Heq
 go_wp2_with fail
 refine Heq.out.mono ?_
 rintro e w3 ⟨rfl,hb3⟩
 go_wp2
 go_ret
 exact ⟨Xa2 Hn.out.symm,hb2'.trans (hb3.mono hb2'.size)⟩
def cmpS (x y:Bytes):Int:=if Op.bytesLess x y then -1 else if Op.bytesLess y x then 1 else 0
set_option maxRecDepth 100000 in
theorem Xcy (x:Bytes) (w:World):Calls Tryz.prog 239 #[S x] w fun e w'=>e= .returned (.bool false)∧w'=w:=by
 have f:(x != x)=false:=by simp
 have f2:(x==x)=true:=by simp
 go_enter Tryz.func239,Tryz.ntmps239
 go_wp2
 go_ret
 exact ⟨by first|rfl|(simp),rfl⟩
set_option maxRecDepth 100000 in
set_option maxHeartbeats 400000 in
theorem Xu0 (x y:Bytes) (w:World):Calls Tryz.prog 170 #[S x,S y] w fun e w'=>e= .returned (.int .i64 (cmpS x y))∧w'=w:=by
 rcases Xdc x y with ht|ht|ht
 ·have Hn:=Qh (show cmpS x y= -1 by rw [cmpS,ht];rfl)
  go_enter Tryz.func170,Tryz.ntmps170
  go_wp2_with fail
  refine (Xcy x _).mono ?_
  rintro e w1 ⟨rfl,rfl⟩
  go_wp2_with fail
  refine (Xcy y _).mono ?_
  rintro e w2 ⟨rfl,rfl⟩
  go_wp2
  go_ret
  exact ⟨Xag Hn.out.symm,rfl⟩
 ·have f1:Op.bytesLess x y=false:=by rw [ht];exact Xbr _
  have f2:Op.bytesLess y x=false:=by rw [ht];exact Xbr _
  have f3:(x==y)=true:=by simp [ht]
  have f4:(!(x==y))=false:=by simp [ht]
  have Hn:=Qh (show cmpS x y=0 by rw [cmpS,f1,f2];rfl)
  clear ht
  go_enter Tryz.func170,Tryz.ntmps170
  go_wp2_with fail
  refine (Xcy x _).mono ?_
  rintro e w1 ⟨rfl,rfl⟩
  go_wp2_with fail
  refine (Xcy y _).mono ?_
  rintro e w2 ⟨rfl,rfl⟩
  go_wp2
  go_ret
  exact ⟨Xag Hn.out.symm,rfl⟩
 ·have f1:=Xcs ht
  have f3:(x==y)=false:=by simpa using (Xju ht).symm
  have f4:(!(x==y))=true:=by rw [f3];rfl
  have Hn:=Qh (show cmpS x y=1 by rw [cmpS,f1,ht];rfl)
  go_enter Tryz.func170,Tryz.ntmps170
  go_wp2_with fail
  refine (Xcy x _).mono ?_
  rintro e w1 ⟨rfl,rfl⟩
  go_wp2_with fail
  refine (Xcy y _).mono ?_
  rintro e w2 ⟨rfl,rfl⟩
  go_wp2
  go_ret
  exact ⟨Xag Hn.out.symm,rfl⟩
theorem Xo2 (x y:Bytes):(cmpS x y= -1∧Op.bytesLess x y=true)∨(cmpS x y=0∧x=y)∨(cmpS x y=1∧Op.bytesLess y x=true):=by
 rcases Xdc x y with ht|ht|ht
 ·exact .inl ⟨by rw [cmpS,ht];rfl,ht⟩
 ·exact .inr (.inl ⟨by rw [cmpS,ht,Xbr];rfl,ht⟩)
 ·exact .inr (.inr ⟨by rw [cmpS,Xcs ht,ht];rfl,ht⟩)
set_option maxRecDepth 100000 in
set_option maxHeartbeats 1000000 in
theorem Xg4 (I:IH) (v1 v2:Value) (l m:List Bytes) (hv1:RdS tStr I v1 l) (hv2:RdS tStr I v2 m) (w:World) (hw:Ok I w):
 Calls Tryz.prog 168 #[v1,v2,.func (.func 170) #[] #[]] w fun e w'=>e= .returned (.int .i64 (cmpL l m))∧Below w.heap.size w w':=by
 have hlen:=hv1.len_le
 have hlen2:=hv2.len_le
 obtain ⟨ao,cap,rfl,hcap,hcm,_⟩:=id hv1
 obtain ⟨ao2,cap2,rfl,hcap2,hcm2,_⟩:=id hv2
 have Hl:=Qh hv1
 have Hm:=Qh hv2
 clear hv1 hv2
 have eg:∀args w,(callFunc 170 args).run Tryz.prog w= .ok (.enter 170 args) w:=fun _ _=>by kernel_rfl
 go_enter Tryz.func168,Tryz.ntmps168
 go_wp2_with fail
 go_loopw [13] (fun s13 wr=> ∃k:Nat,k≤l.length∧k≤m.length∧s13= .int .i64 k∧l.take k=m.take k∧Below w.heap.size w wr) (fun i _=>l.length-(intOf i).toNat)
 case atStart=>exact ⟨0,Nat.zero_le _,Nat.zero_le _,rfl,rfl,Qb _ _⟩
 case round=>
  obtain ⟨k,hk,hk2,rfl,hr,hb⟩:=hrel
  have Hr:=Qh hr
  have Hcd:=Qh (Xrl hr hk hk2)
  clear hr
  have hwr:Ok I wr:=hw.below (Qn _) hb
  by_cases hlt:k<l.length
  case neg=>
   have Hdl:=Qh (show l.drop k= [] from List.drop_of_length_le (by omega))
   by_cases hlt2:k<m.length
   ·have hd1:decide (l.length<m.length)=true:=Qt (by omega)
    have Hn:=Qh (show cmpL l m= -1 by rw [Hcd.out,Hdl.out,List.drop_eq_getElem_cons hlt2];rfl)
    go_wp2
    go_ret
    exact ⟨Xag Hn.out.symm,hb⟩
   ·have hd1:decide (l.length<m.length)=false:=Qf (by omega)
    have Hn:=Qh (show cmpL l m=0 by rw [Hcd.out,Hdl.out,List.drop_of_length_le (by omega)];rfl)
    go_wp2
    go_ret
    exact ⟨Xag Hn.out.symm,hb⟩
  obtain ⟨x,b,off,cap',hlx,hvv,hx0⟩:=Xn6 Hl.out hwr k hlt
  cases hvv
  by_cases hlt2:k<m.length
  case neg=>
   have hd1:decide (m.length≤k)=true:=Qt (by omega)
   have Hn:=Qh (show cmpL l m=1 by rw [Hcd.out,List.drop_of_length_le (l:=m) (by omega),List.drop_eq_getElem_cons hlt];rfl)
   clear hlx
   go_wp2
   go_ret
   exact ⟨Xag Hn.out.symm,hb⟩
  have hd1:decide (m.length≤k)=false:=Qf (by omega)
  obtain ⟨y,b',off',cap'',hly,hvv,hy0⟩:=Xn6 Hm.out hwr k hlt2
  cases hvv
  have Hcd2:=Qh (show cmpL l m=cmpL (x::l.drop (k+1)) (y::m.drop (k+1)) by rw [Hcd.out,List.drop_eq_getElem_cons hlt,List.drop_eq_getElem_cons hlt2,hlx,hly])
  have Hlx:=Qh hlx
  have Hly:=Qh hly
  have Hc:=Qh (Xu0 x y)
  have hcs:=Xo2 x y
  generalize cmpS x y=c at Hc hcs
  clear hlx hly
  rcases hcs with ⟨hc,ht⟩|⟨hc,ht⟩|⟨hc,ht⟩
  ·subst hc
   have Hn:=Qh (show cmpL l m= -1 by rw [Hcd2.out];exact Xlo ht _ _)
   clear ht
   go_wp2_with fail
   refine (Hc.out _).mono ?_
   rintro e w1 ⟨rfl,rfl⟩
   go_wp2
   go_ret
   exact ⟨Xag Hn.out.symm,hb⟩
  ·subst hc
   have Hn:=Qh (show l.take (k+1)=m.take (k+1) by rw [List.take_succ_eq_append_getElem hlt,List.take_succ_eq_append_getElem hlt2,Hr.out,Hlx.out,Hly.out,ht])
   clear ht
   go_wp2_with fail
   refine (Hc.out _).mono ?_
   rintro e w1 ⟨rfl,rfl⟩
   go_wp2
   go_roundw
   case rel=>exact ⟨k+1,by omega,by omega,by go_num,Hn.out,hb⟩
   case measure=>simp [intOf];omega
  ·subst hc
   have Hn:=Qh (show cmpL l m=1 by rw [Hcd2.out];exact Xlp ht _ _)
   clear ht
   go_wp2_with fail
   refine (Hc.out _).mono ?_
   rintro e w1 ⟨rfl,rfl⟩
   go_wp2
   go_ret
   exact ⟨Xag Hn.out.symm,hb⟩
set_option maxRecDepth 100000 in
set_option maxHeartbeats 400000 in
theorem Xid (I:IH) (hI:Glob I) (p d:Bytes) (hp:p.length≤4294967280) (hd:d.length≤4294967280) (w:World) (hw:Ok I w):
 Calls Tryz.prog 104 #[S p,S d] w fun e w'=>e= .returned (.int .i64 (cmpP p d))∧Below w.heap.size w w':=by
 have Hu:=Qh (Xvp p d)
 have Hep:=Qh (Xc9 I hI p hp w hw)
 have Hed:=Qh (fun I hI w hw=>Xc9 I hI d hd w hw)
 generalize els p=l at Hu Hep
 generalize els d=m at Hu Hed
 go_enter Tryz.func104,Tryz.ntmps104
 go_wp2_with fail
 refine Hep.out.mono ?_
 rintro e w1 ⟨v1,I1,rfl,hb1,hx1,hok1,hr1⟩
 have hI1:=hI.mono (hx1.keep hw (Qn _))
 have Hr1:=Qh hr1
 clear hr1
 obtain ⟨ao0,cap0,rfl,_,_,_⟩:=id Hr1.out
 go_wp2_with fail
 refine (Hed.out I1 hI1 _ hok1).mono ?_
 rintro e w2 ⟨v2,I2,rfl,hb2,hx2,hok2,hr2⟩
 have hr1:=Hr1.out.mono (hx2.keep hok1 (Qn _))
 have hb2':=hb1.trans (hb2.mono hb1.size)
 have Hc:=Qh (Xg4 I2 _ _ l m hr1 hr2 w2 hok2)
 obtain ⟨ao2,cap2,rfl,_,_,_⟩:=id hr2
 clear hr1 hr2 Hr1 hx1 hx2
 go_wp2_with fail
 refine Hc.out.mono ?_
 rintro e w3 ⟨rfl,hb3⟩
 go_wp2
 go_ret
 exact ⟨Xag Hu.out.symm,hb2'.trans (hb3.mono hb2'.size)⟩
end Go.Proofs.YtkipnpjagcfcpaaGreatDoor
namespace Go.Proofs.YtkipnpjagcfcpaaGreatDoor
def digN (acc:Nat) (l:Bytes):Nat:=l.foldl (fun n c=>10*n+(c.toNat-48)) acc
theorem Xlg (acc:Nat) (l:Bytes) (c:UInt8):digN acc (l++ [c])=10*digN acc l+(c.toNat-48):=by simp [digN,List.foldl_append]
theorem Xfl {c:UInt8} (h:digC c=true):48≤c.toNat∧c.toNat≤57:=by
 rw [Xf9,Bool.and_eq_true,decide_eq_true_iff,decide_eq_true_iff] at h
 exact h
theorem Xhm:∀(l:Bytes),l.all digC=true→ ∀(a:Nat),l.foldl (fun (n:Int) c=>10*n+((c.toNat:Int)-48)) (a:Int)=(digN a l:Nat)
 | [],_,_=>rfl
 |c::l,h,a=>by
  rw [List.all_cons,Bool.and_eq_true] at h
  have hc:=Xfl h.1
  have:=Xhm l h.2 (10*a+(c.toNat-48))
  rw [List.foldl_cons,show (10*(a:Int)+((c.toNat:Int)-48))=((10*a+(c.toNat-48):Nat):Int) by omega,this]
  rfl
theorem Xfk {l:Bytes} (h:l.all digC=true):digits l=(digN 0 l:Nat):=Xhm l h 0
theorem Xnd:∀(l:Bytes) (acc:Nat),l.all digC=true→(acc+1)*10 ^ l.length≤100000000000→Lib.parseUint10 acc l= .ok (digN acc l)
 | [],_,_,_=>rfl
 |c::l,acc,h,hb=>by
  rw [List.all_cons,Bool.and_eq_true] at h
  have hc:=Xfl h.1
  rw [List.length_cons,Nat.pow_succ] at hb
  have h10:1≤10 ^ l.length:=Nat.pos_of_ne_zero (by simp)
  have hacc:(acc+1)*10≤100000000000:=by
   have:(acc+1)*10*1≤(acc+1)*10*10 ^ l.length:=Nat.mul_le_mul_left _ h10
   rw [Nat.mul_comm (10 ^ l.length) 10,←Nat.mul_assoc] at hb
   omega
  have hn:(acc*10+(c.toNat-48)+1)*10 ^ l.length≤100000000000:=by
   refine Nat.le_trans (Nat.mul_le_mul_right _ (show acc*10+(c.toNat-48)+1≤(acc+1)*10 by omega)) ?_
   rw [Nat.mul_assoc,Nat.mul_comm 10 (10 ^ l.length)]
   exact hb
  rw [Lib.parseUint10,if_pos hc,if_neg (by omega),if_neg (by omega),Xnd l _ h.2 hn]
  show Lib.NumEnd.ok (digN _ l)=Lib.NumEnd.ok (digN (10*acc+(c.toNat-48)) l)
  rw [Nat.mul_comm acc 10]
theorem Xno {c:UInt8} {l:Bytes} (h:(c::l).all digC=true) (hc:c≠48):10 ^ l.length≤digN 0 (c::l):=by
 have key:∀(n:Nat) (l:Bytes),l.length=n→ ∀a,a*10 ^ n≤digN a l:=by
  intro n
  induction n with
  |zero=>intro l h a;rw [List.eq_nil_of_length_eq_zero h];simp [digN]
  |succ n ih=>
   intro l h a
   cases l with
   |nil=>simp at h
   |cons c l=>
    have:=ih l (by simpa using h) (10*a+(c.toNat-48))
    refine Nat.le_trans ?_ this
    rw [Nat.pow_succ,Nat.mul_comm (10 ^ n) 10,←Nat.mul_assoc]
    exact Nat.mul_le_mul_right _ (by omega)
 rw [List.all_cons,Bool.and_eq_true] at h
 have hb:=Xfl h.1
 have hne:c.toNat≠48:=fun e=>hc (by
  have:c=UInt8.ofNat c.toNat:=by simp
  rw [this,e];rfl)
 have:=key l.length l rfl (10*0+(c.toNat-48))
 refine Nat.le_trans ?_ this
 have h1:1≤10*0+(c.toNat-48):=by omega
 simpa using Nat.mul_le_mul_right (10 ^ l.length) h1
def NoZ (s:Bytes):Prop:=s.length=1∨s.head? ≠some 48
theorem Xtm:∀(n:Nat) (s:Bytes),s.length=n→s≠ []→s.all digC=true→NoZ s→Lib.decDigits (digN 0 s)=s:=by
 intro n
 induction n with
 |zero=>intro s h h0;exact absurd (List.eq_nil_of_length_eq_zero h) h0
 |succ n ih=>
  intro s h h0 ha hz
  have e:s=s.dropLast++ [s.getLast h0]:=(List.dropLast_concat_getLast h0).symm
  have hl:s.dropLast.length=n:=by rw [List.length_dropLast,h];omega
  have ha2:=ha
  rw [e,List.all_append,Bool.and_eq_true] at ha2
  have hc:digC (s.getLast h0)=true:=by simpa using ha2.2
  have hb:=Xfl hc
  have hoc:UInt8.ofNat (48+((s.getLast h0).toNat-48))=s.getLast h0:=by
   rw [show 48+((s.getLast h0).toNat-48)=(s.getLast h0).toNat by omega];simp
  by_cases hn:n=0
  ·have ht:s.dropLast= []:=List.eq_nil_of_length_eq_zero (by omega)
   rw [e,ht,List.nil_append]
   have:digN 0 [s.getLast h0]=(s.getLast h0).toNat-48:=by simp [digN]
   rw [this,Lib.decDigits,dif_pos (by omega),hoc]
  ·have ht0:s.dropLast≠ []:=by intro e2;rw [e2] at hl;simp at hl;omega
   have hh:s.head? ≠some 48:=by
    rcases hz with hz|hz
    ·omega
    ·exact hz
   have hhd:s.dropLast.head? =s.head? :=by
    cases hd:s.dropLast with
    |nil=>exact absurd hd ht0
    |cons a t=>rw [e,hd];rfl
   have i1:=ih s.dropLast hl ht0 ha2.1 (.inr (by rw [hhd];exact hh))
   have hge:1≤digN 0 s.dropLast:=by
    cases hd:s.dropLast with
    |nil=>exact absurd hd ht0
    |cons a t=>
     have ha3:(a::t).all digC=true:=by rw [←hd];exact ha2.1
     have:10 ^ t.length≤digN 0 (a::t):=Xno ha3 (fun e3=>hh (by rw [←hhd,hd,e3];rfl))
     have h10:1≤10 ^ t.length:=Nat.pos_of_ne_zero (by simp)
     omega
   have hs:digN 0 s=10*digN 0 s.dropLast+((s.getLast h0).toNat-48):=by
    conv=>lhs;rw [e]
    exact Xlg _ _ _
   rw [hs,Lib.decDigits,dif_neg (by omega),show (10*digN 0 s.dropLast+((s.getLast h0).toNat-48)) / 10=digN 0 s.dropLast by omega,show (10*digN 0 s.dropLast+((s.getLast h0).toNat-48))%10=(s.getLast h0).toNat-48 by omega,i1,hoc]
   exact e.symm
theorem Xre {n:Nat} (h:n<10):digC (UInt8.ofNat (48+n))=true:=by
 rw [Xf9]
 simp
 omega
theorem Xli:∀(u:Nat),(Lib.decDigits u).all digC=true∧Lib.decDigits u≠ []∧digN 0 (Lib.decDigits u)=u∧(10≤u→(Lib.decDigits u).head? ≠some 48)∧(1≤u→(Lib.decDigits u).head? ≠some 48):=by
 intro u
 induction u using Nat.strongRecOn with
 |_ u ih=>
  by_cases h:u<10
  ·have e:Lib.decDigits u= [UInt8.ofNat (48+u)]:=by rw [Lib.decDigits,dif_pos h]
   have hd:=Xre h
   have ht:(UInt8.ofNat (48+u)).toNat=48+u:=by simp;omega
   rw [e]
   refine ⟨by rw [List.all_cons,hd];rfl,by simp,by simp only [digN,List.foldl_cons,List.foldl_nil,ht];omega,fun h2=>by omega,fun h2 he=> ?_⟩
   simp only [List.head?_cons,Option.some.injEq] at he
   have:=congrArg UInt8.toNat he
   rw [ht] at this
   have h48:(48:UInt8).toNat=48:=rfl
   omega
  ·have e:Lib.decDigits u=Lib.decDigits (u / 10)++ [UInt8.ofNat (48+u%10)]:=by rw [Lib.decDigits,dif_neg h]
   obtain ⟨i1,i2,i3,i4,i5⟩:=ih (u / 10) (by omega)
   have hd:=Xre (n:=u%10) (by omega)
   have ht:(UInt8.ofNat (48+u%10)).toNat=48+u%10:=by simp;omega
   have hhd:(Lib.decDigits u).head? ≠some 48:=by
    rw [e]
    cases hc:Lib.decDigits (u / 10) with
    |nil=>exact absurd hc i2
    |cons a t=>
     have:=i5 (by omega)
     rw [hc] at this
     exact this
   refine ⟨?_,?_,?_,fun _=>hhd,fun _=>hhd⟩
   ·rw [e,List.all_append,i1,List.all_cons,hd];rfl
   ·rw [e];simp
   ·rw [e,Xlg,i3,ht];omega
theorem Xnq (s:Bytes):dateOk s=true↔ ∃n:Int,Lib.atoiAll s= .ok n∧0≤n∧n≤1000000000∧Lib.itoa n=s:=by
 have hd:(fun c:UInt8=>decide (48≤c)&&decide (c≤57))=digC:=rfl
 constructor
 ·intro h
  unfold dateOk at h
  rw [hd] at h
  simp only [Bool.and_eq_true,decide_eq_true_eq] at h
  obtain ⟨⟨⟨⟨h1,h2⟩,h3⟩,h4⟩,h5⟩:=h
  have h0:s≠ []:=by intro e;rw [e] at h1;simp at h1
  have hz:NoZ s:=by
   by_cases hl:s.length=1
   ·exact .inl hl
   ·right
    intro e
    rw [e,Qt (show 1<s.length by omega)] at h3
    simp at h3
  rw [Xfk h4] at h5
  refine ⟨(digN 0 s:Nat),?_,by omega,h5,?_⟩
  ·cases hs:s with
   |nil=>exact absurd hs h0
   |cons c r=>
    have ha:(c::r).all digC=true:=by rw [←hs];exact h4
    have hc:digC c=true:=by rw [List.all_cons,Bool.and_eq_true] at ha;exact ha.1
    have hb:=Xfl hc
    have hlen:(c::r).length≤10:=by rw [←hs];exact h2
    have hp:=Xnd (c::r) 0 ha (by
     have:10 ^ (c::r).length≤10 ^ 10:=Nat.pow_le_pow_right (by decide) hlen
     omega)
    rw [Lib.atoiAll]
    rw [if_neg (by omega),Lib.parseMag,if_neg (by simp),hp]
    rw [hs] at h5
    simp only
    rw [if_neg (by omega),if_neg (by omega),if_neg (by omega)]
  ·rw [Lib.itoa,if_neg (by omega),Int.toNat_natCast]
   exact Xtm _ s rfl h0 h4 hz
 ·rintro ⟨n,_,h0,h1,h2⟩
  obtain ⟨u,rfl⟩:=Int.eq_ofNat_of_zero_le h0
  rw [Lib.itoa,if_neg (by omega),Int.toNat_natCast] at h2
  obtain ⟨f1,f2,f3,f4,f5⟩:=Xli u
  rw [h2] at f1 f2 f3 f4 f5
  have hdg:digits s=u:=by rw [Xfk f1,f3]
  unfold dateOk
  rw [hd,f1,hdg,Qt h1]
  have hl1:1≤s.length:=List.length_pos_iff.2 f2
  have hz:(decide (1<s.length)&&s.head? ==some 48)=false:=by
   cases hb:(decide (1<s.length)&&s.head? ==some 48) with
   |false=>rfl
   |true=>
    rw [Bool.and_eq_true,decide_eq_true_iff,beq_iff_eq] at hb
    by_cases hu:1≤u
    ·exact absurd hb.2 (f5 hu)
    ·have:u=0:=by omega
     subst this
     have:s= [48]:=by rw [←h2,Lib.decDigits,dif_pos (by decide)];rfl
     rw [this] at hb
     simp at hb
  have hl10:s.length≤10:=by
   cases hs:s with
   |nil=>simp
   |cons c r=>
    by_cases hu:1≤u
    ·have hc:c≠48:=fun e=>f5 hu (by rw [hs,e];rfl)
     have:=Xno (c:=c) (l:=r) (by rw [←hs];exact f1) hc
     rw [←hs,f3] at this
     have hlt:¬10≤r.length:=by
      intro h10
      have:10 ^ 10≤10 ^ r.length:=Nat.pow_le_pow_right (by decide) h10
      omega
     simp only [List.length_cons];omega
    ·have:u=0:=by omega
     subst this
     have:s= [48]:=by rw [←h2,Lib.decDigits,dif_pos (by decide)];rfl
     rw [hs] at this
     rw [this];simp
  rw [hz,Qt hl1,Qt hl10]
  rfl
end Go.Proofs.YtkipnpjagcfcpaaGreatDoor
namespace Go.Proofs.YtkipnpjagcfcpaaGreatDoor
open Go.RowKit
theorem Xvz {W w1:World} {n:Nat} {x:At} {T:TypeId} (hn:n=W.heap.size) (hb:Below (W.alloc (.cells #[S x.k,S x.v] T)).heap.size (W.alloc (.cells #[S x.k,S x.v] T)) w1):
 w1.cell? ⟨n,0,none⟩=some (S x.k)∧w1.cell? ⟨n,1,none⟩=some (S x.v):=by
 subst hn
 refine ⟨?_,?_⟩<;>(rw [hb.cell (by simp)];simp)
end Go.Proofs.YtkipnpjagcfcpaaGreatDoor
namespace Go.Proofs
open Go.Shelf
def Tryz.lays160_ren:Go.Shelf.Ren:=⟨fun|160=>162|232=>222|231=>221|227=>223|234=>225|233=>224|236=>227|235=>226|228=>271|271=>274|151=>273|197=>272|120=>297|152=>296|260=>295|137=>160|119=>307|224=>120|225=>119|217=>118|266=>184|n=>n,fun|9=>9|4=>4|3=>3|5=>5|117=>265|116=>264|0=>0|124=>268|21=>21|105=>307|46=>173|119=>334|139=>337|138=>336|n=>n,fun|3=>4|4=>5|n=>n⟩
theorem Tryz.lays160:Go.Proofs.Lays.n160 Tryz.prog Tryz.lays160_ren:= {
 mixed:=by kernel_rfl
 f119:=Tryz.func307.trans (congrArg some (by kernel_rfl))
 f120:=Tryz.func297.trans (congrArg some (by kernel_rfl))
 f137:=Tryz.func160.trans (congrArg some (by kernel_rfl))
 f151:=Tryz.func273.trans (congrArg some (by kernel_rfl))
 f152:=Tryz.func296.trans (congrArg some (by kernel_rfl))
 f160:=Tryz.func162.trans (congrArg some (by kernel_rfl))
 f197:=Tryz.func272.trans (congrArg some (by kernel_rfl))
 f217:=Tryz.func118.trans (congrArg some (by kernel_rfl))
 f224:=Tryz.func120.trans (congrArg some (by kernel_rfl))
 f225:=Tryz.func119.trans (congrArg some (by kernel_rfl))
 f227:=Tryz.func223.trans (congrArg some (by kernel_rfl))
 f228:=Tryz.func271.trans (congrArg some (by kernel_rfl))
 f231:=Tryz.func221.trans (congrArg some (by kernel_rfl))
 f232:=Tryz.func222.trans (congrArg some (by kernel_rfl))
 f233:=Tryz.func224.trans (congrArg some (by kernel_rfl))
 f234:=Tryz.func225.trans (congrArg some (by kernel_rfl))
 f235:=Tryz.func226.trans (congrArg some (by kernel_rfl))
 f236:=Tryz.func227.trans (congrArg some (by kernel_rfl))
 f260:=Tryz.func295.trans (congrArg some (by kernel_rfl))
 f266:=Tryz.func184.trans (congrArg some (by kernel_rfl))
 f271:=Tryz.func274.trans (congrArg some (by kernel_rfl))
 t0:=Tryz.underlying0
 a0:=Tryz.isAgg0
 z0:=Tryz.sizeOf0
 v0:=Tryz.zeroValue0
 t3:=Tryz.underlying3
 a3:=Tryz.isAgg3
 z3:=Tryz.sizeOf3
 v3:=Tryz.zeroValue3
 t4:=Tryz.underlying4
 a4:=Tryz.isAgg4
 z4:=Tryz.sizeOf4
 v4:=Tryz.zeroValue4
 t5:=Tryz.underlying5
 a5:=Tryz.isAgg5
 z5:=Tryz.sizeOf5
 v5:=Tryz.zeroValue5
 t9:=Tryz.underlying9
 a9:=Tryz.isAgg9
 z9:=Tryz.sizeOf9
 v9:=Tryz.zeroValue9
 t21:=Tryz.underlying21
 a21:=Tryz.isAgg21
 z21:=Tryz.sizeOf21
 v21:=Tryz.zeroValue21
 t46:=Tryz.underlying173
 a46:=Tryz.isAgg173
 z46:=Tryz.sizeOf173
 v46:=Tryz.zeroValue173
 t105:=Tryz.underlying307
 a105:=Tryz.isAgg307
 z105:=Tryz.sizeOf307
 v105:=Tryz.zeroValue307
 t116:=Tryz.underlying264
 a116:=Tryz.isAgg264
 z116:=Tryz.sizeOf264
 t117:=Tryz.underlying265
 a117:=Tryz.isAgg265
 z117:=Tryz.sizeOf265
 v117:=Tryz.zeroValue265
 t119:=Tryz.underlying334
 a119:=Tryz.isAgg334
 z119:=Tryz.sizeOf334
 t124:=Tryz.underlying268
 a124:=Tryz.isAgg268
 z124:=Tryz.sizeOf268
 v124:=Tryz.zeroValue268
 t138:=Tryz.underlying336
 a138:=Tryz.isAgg336
 z138:=Tryz.sizeOf336
 v138:=Tryz.zeroValue336
 t139:=Tryz.underlying337
 a139:=Tryz.isAgg337
 z139:=Tryz.sizeOf337
 v139:=Tryz.zeroValue337
 g3:=by kernel_rfl
 g4:=by kernel_rfl }
open Go.RowKit in
theorem Tryz.strings_Trim (s cutset:ByteArray) (w:World) (hs:s.size≤9223372036854775807) (hcs:cutset.size<4294967281) (hascii:∀(j:Nat) b,cutset.data.toList[j]? =some b→b.toNat<128):
 Calls Tryz.prog 162 #[.string s,.string cutset] w fun e w'=>e= .returned (.string ⟨(Lib.trimS s.data.toList cutset.data.toList).toArray⟩)∧RowKit.Below w.heap.size w w':=Any.strings_Trim_laid Tryz.lays160 (by kernel_rfl) s cutset w hs hcs hascii
end Go.Proofs
namespace Go.Proofs.YtkipnpjagcfcpaaGreatDoor
open Go.RowKit
abbrev cutset0:Bytes:= [97,98,99,100,101,102,103,104,105,106,107,108,109,110,111,112,113,114,115,116,117,118,119,120,121,122,48,49,50,51,52,53,54,55,56,57,46,95,45]
set_option maxRecDepth 100000 in
theorem Xlk (c:UInt8):cutset0.contains c=keyChar c:=by
 have h:∀n:Fin 256,cutset0.contains (UInt8.ofNat n.1)=keyChar (UInt8.ofNat n.1):=by decide
 have:=h ⟨c.toNat,c.toNat_lt⟩
 simpa using this
theorem Xjz (s cs:Bytes):Lib.trimS s cs= []↔s.all (cs.contains ·)=true:=by
 have hd:∀l:Bytes,l.dropWhile (cs.contains ·)= []↔l.all (cs.contains ·)=true:=by
  intro l
  induction l with
  |nil=>simp
  |cons x l ih=>
   rw [List.dropWhile_cons,List.all_cons]
   cases h:cs.contains x
   ·simp
   ·simp only [if_true,Bool.true_and];exact ih
 have hdd:∀l:Bytes,(l.dropWhile (cs.contains ·)).all (cs.contains ·)=l.all (cs.contains ·):=by
  intro l
  induction l with
  |nil=>rfl
  |cons x l ih=>
   rw [List.dropWhile_cons]
   cases h:cs.contains x
   ·rfl
   ·simp only [if_true];rw [ih,List.all_cons,h,Bool.true_and]
 unfold Lib.trimS Lib.trimLeftS Lib.trimRightS
 rw [hd,List.all_reverse,hdd,List.all_reverse]
set_option maxRecDepth 100000 in
theorem Xs7 (s:Bytes) (hs:s.length≤9223372036854775807) (w:World):
 Calls Tryz.prog 162 #[S s,S cutset0] w fun e w'=>e= .returned (S (Lib.trimS s cutset0))∧Below w.heap.size w w':=by
 have h:=Tryz.strings_Trim ⟨s.toArray⟩ ⟨cutset0.toArray⟩ w (by rw [ByteArray.size_mk',List.size_toArray];exact hs) (by decide) (ascii_of_all (by decide))
 exact h
def keyErr (s:Bytes):Int:=if keyOk s then 0 else 7
set_option maxRecDepth 100000 in
set_option maxHeartbeats 400000 in
theorem Xrv (s:Bytes) (hs:s.length≤9223372036854775807) (w:World):
 Calls Tryz.prog 248 #[S s] w fun e w'=>e= .returned (.int .i64 (keyErr s))∧Below w.heap.size w w':=by
 by_cases h1:s= []
 ·have hE:keyErr s=7:=by rw [h1];rfl
  have HE:=Qh hE
  have f1:(s== [])=true:=by rw [h1];rfl
  have f2:s.isEmpty=true:=by rw [h1];rfl
  have f3:(!s.isEmpty)=false:=by rw [h1];rfl
  clear hE h1
  go_enter Tryz.func248,Tryz.ntmps248
  go_wp2
  go_ret
  exact ⟨Xag HE.out.symm,Qb _ _⟩
 ·have hlen:1≤s.length:=by cases s<;>simp_all
  have f1:(s== [])=false:=by simpa using h1
  have f2:s.isEmpty=false:=by cases s<;>simp_all
  have f3:(!s.isEmpty)=true:=by rw [f2];rfl
  clear h1
  by_cases h32:s.length≤32
  ·have hd1:decide (32<s.length)=false:=Qf (by omega)
   have hk:keyOk s=s.all (cutset0.contains ·):=by
    have:(fun c=>cutset0.contains c)=keyChar:=funext Xlk
    rw [this];simp [keyOk,h32,hlen]
   have ht:=Xjz s cutset0
   have Htr:=Qh (Xs7 s hs)
   generalize hT:Lib.trimS s cutset0=T at ht Htr
   by_cases hTn:T= []
   ·have HE:=Qh (show keyErr s=0 by rw [keyErr,hk,if_pos (ht.1 hTn)])
    have g1:(T== [])=true:=by rw [hTn];rfl
    have g2:T.isEmpty=true:=by rw [hTn];rfl
    have g3:(!T.isEmpty)=false:=by rw [hTn];rfl
    clear hTn ht hk hT
    go_enter Tryz.func248,Tryz.ntmps248
    go_wp2_with fail
    refine (Htr.out _).mono ?_
    rintro e w1 ⟨rfl,hb1⟩
    go_wp2
    go_ret
    exact ⟨Xag HE.out.symm,hb1⟩
   ·have HE:=Qh (show keyErr s=7 by rw [keyErr,hk,if_neg (fun h=>hTn (ht.2 h))])
    have g1:(T== [])=false:=by simpa using hTn
    have g2:T.isEmpty=false:=by cases T<;>simp_all
    have g3:(!T.isEmpty)=true:=by rw [g2];rfl
    clear hTn ht hk hT
    go_enter Tryz.func248,Tryz.ntmps248
    go_wp2_with fail
    refine (Htr.out _).mono ?_
    rintro e w1 ⟨rfl,hb1⟩
    go_wp2
    go_ret
    exact ⟨Xag HE.out.symm,hb1⟩
  ·have hd1:decide (32<s.length)=true:=Qt (by omega)
   have HE:=Qh (show keyErr s=7 by rw [keyErr,if_neg (by simp [keyOk,h32])])
   go_enter Tryz.func248,Tryz.ntmps248
   go_wp2
   go_ret
   exact ⟨Xag HE.out.symm,Qb _ _⟩
set_option maxRecDepth 100000 in
set_option maxHeartbeats 400000 in
theorem Xvy (x:At) (hx:x.Wf) (w:World):
 Calls Tryz.prog 177 #[x.val] w fun e w'=>e= .returned (.int .i64 (atErr x))∧Below w.heap.size w w':=by
 obtain ⟨hx1,hx2⟩:=hx
 cases hk:keyOk x.k
 ·have HE:=Qh (show keyErr x.k=7 by rw [keyErr,hk];rfl)
  have HA:=Qh (show atErr x=7 by rw [atErr,if_pos hk])
  clear hk
  go_enter Tryz.func177,Tryz.ntmps177
  go_wp2_with fail
  refine (Xrv x.k hx1 _).mono ?_
  rintro e w1 ⟨rfl,hb1⟩
  rw [HE.out]
  go_wp2
  go_ret
  exact ⟨Xag HA.out.symm,((Qb _ _).alloc (Qn _) _).trans (hb1.mono (by simp))⟩
 ·have HE:=Qh (show keyErr x.k=0 by rw [keyErr,hk];rfl)
  have Hk:=Qh hk
  clear hk
  by_cases h64:x.v.length≤64
  ·have hd:decide (64<x.v.length)=false:=Qf (by omega)
   have HA:=Qh (show atErr x=0 by rw [atErr,if_neg (by rw [Hk.out];simp),if_neg (by omega)])
   go_enter Tryz.func177,Tryz.ntmps177
   go_wp2_with fail
   refine (Xrv x.k hx1 _).mono ?_
   rintro e w1 ⟨rfl,hb1⟩
   rw [HE.out]
   obtain ⟨hc0,hc1⟩:=Xvz rfl hb1
   go_wp2
   go_ret
   exact ⟨Xag HA.out.symm,((Qb _ _).alloc (Qn _) _).trans (hb1.mono (by simp))⟩
  ·have hd:decide (64<x.v.length)=true:=Qt (by omega)
   have HA:=Qh (show atErr x=6 by rw [atErr,if_neg (by rw [Hk.out];simp),if_pos (by omega)])
   go_enter Tryz.func177,Tryz.ntmps177
   go_wp2_with fail
   refine (Xrv x.k hx1 _).mono ?_
   rintro e w1 ⟨rfl,hb1⟩
   rw [HE.out]
   obtain ⟨hc0,hc1⟩:=Xvz rfl hb1
   go_wp2
   go_ret
   exact ⟨Xag HA.out.symm,((Qb _ _).alloc (Qn _) _).trans (hb1.mono (by simp))⟩
theorem Xln:∀(a b:Bytes),Lib.compareBytes a b=if Op.bytesLess a b then -1 else if a==b then 0 else 1
 | [],[]=>rfl
 | [],_::_=>rfl
 |_::_,[]=>rfl
 |x::a,y::b=>by
  rw [Lib.compareBytes,Xln a b,Op.bytesLess]
  by_cases h1:x<y
  ·simp [h1]
  ·by_cases h2:y<x
   ·have:¬x=y:=fun e=>by subst e;exact UInt8.lt_irrefl _ h2
    simp [h1,h2,this]
   ·have e:x=y:=UInt8.le_antisymm (UInt8.not_lt.1 h2) (UInt8.not_lt.1 h1)
    subst e
    simp
set_option maxRecDepth 100000 in
theorem Xmj (a b:Bytes) (w:World):Calls Tryz.prog 178 #[S a,S b] w fun e w'=>e= .returned (.int .i64 (Lib.compareBytes a b))∧Below w.heap.size w w':=
 (Tryz.strings_Compare ⟨a.toArray⟩ ⟨b.toArray⟩ w).mono fun _ _ ⟨h1,h2⟩=>⟨h1,by rw [h2];exact Qb _ _⟩
set_option maxRecDepth 100000 in
set_option maxHeartbeats 1000000 in
theorem Xtz (I:IH) (v:Value) (l:List At) (hv:RdS tAt I v l) (hl:∀x∈l,x.Wf) (w:World) (hw:Ok I w):
 Calls Tryz.prog 110 #[v] w fun e w'=>e= .returned (.int .i64 (chk l))∧Below w.heap.size w w':=by
 have hlen:=hv.len_le
 obtain ⟨ao,cap,rfl,hcap,hcm,_⟩:=id hv
 have Hv:=Qh hv;clear hv
 have Hl:=Qh hl;clear hl
 by_cases h16:l.length≤16
 ·have hd:decide (16<l.length)=false:=Qf (by omega)
  have Hchk:=Qh (show chk l=chkFrom none l by rw [chk,if_neg (by omega)])
  go_enter Tryz.func110,Tryz.ntmps110
  go_wp2_with fail
  go_loopw [11] (fun s11 wr=> ∃k:Nat,k≤l.length∧s11= .int .i64 k∧chkFrom (if k=0 then none else l[k-1]?) (l.drop k)=chkFrom none l∧Below w.heap.size w wr) (fun i _=>l.length-(intOf i).toNat)
  case atStart=>exact ⟨0,Nat.zero_le _,rfl,rfl,Qb _ _⟩
  case round=>
   obtain ⟨k,hk,rfl,hr,hb⟩:=hrel
   have Hr:=Qh hr;clear hr
   by_cases hlt:k<l.length
   ·have hwr:Ok I wr:=hw.below (Qn _) hb
    obtain ⟨x,b,off,cap',hlx,hvv,hc0,hc1⟩:=atAt Hv.out hwr k hlt
    cases hvv
    have hxm:x∈l:=by rw [←hlx];exact List.getElem_mem hlt
    have Hxw:=Qh (Hl.out x hxm)
    have Hst:=Qh (show chk l=if atErr x≠0 then atErr x else if ((if k=0 then none else l[k-1]?).any fun q=>q.k==x.k) then 8 else if ((if k=0 then none else l[k-1]?).any fun q=>Op.bytesLess x.k q.k) then 14 else chkFrom (some x) (l.drop (k+1)) by
     rw [Hchk.out,←Hr.out,List.drop_eq_getElem_cons hlt,hlx,Xfw])
    have Hkx:=Qh (show l[k]? =some x by rw [List.getElem?_eq_getElem hlt,hlx])
    clear hlx hxm
    go_wp2_with fail
    refine (Xvy x Hxw.out _).mono ?_
    rintro e w1 ⟨rfl,hb1⟩
    obtain ⟨hx0,hx1⟩:=Xvz rfl hb1
    have hb1':=(hb.alloc hb.size _).trans (hb1.mono (by have:=hb.size;simp;omega))
    have hw1:Ok I w1:=hw.below (Qn _) hb1'
    clear hb1 hc0 hc1
    by_cases h0:atErr x=0
    ·have H0:=Qh h0
     rw [h0]
     clear h0
     by_cases hk0:k=0
     ·have hd3:((k:Int)==0)=true:=by rw [hk0];rfl
      have Hnx:=Qh (show chkFrom (if k+1=0 then none else l[k+1-1]?) (l.drop (k+1))=chkFrom none l by
       rw [←Hchk.out,Hst.out,H0.out,if_neg (by omega),Nat.add_sub_cancel,Hkx.out];simp [hk0])
      clear hk0
      go_wp2
      go_roundw
      case rel=>exact ⟨k+1,by omega,by go_num,Hnx.out,hb1'⟩
      case measure=>simp [intOf];omega
     ·obtain ⟨q,b',off',cap'',hlq,hvv,hp0,hp1⟩:=atAt Hv.out hw1 (k-1) (by omega)
      cases hvv
      have Hst2:=Qh (show chk l=if (q.k==x.k) then 8 else if Op.bytesLess x.k q.k then 14 else chkFrom (some x) (l.drop (k+1)) by
       rw [Hst.out,H0.out,if_neg (by omega),if_neg hk0,List.getElem?_eq_getElem (by omega),hlq];rfl)
      have hd3:((k:Int)==0)=false:=by rw [beq_eq_false_iff_ne];omega
      have hi:IntKind.i64.wrap ((k:Int)-1)=(k:Int)-1:=IntWalk.i64_in _ (by omega)
      have hj:0≤(k:Int)-1:=by omega
      have hm:((k:Int)-1).toNat=k-1:=by omega
      have hg0:=cell_regrown hx0
      have hq0:=cell_regrown hp0
      have hcmp:=Xln q.k x.k
      have Hcmp:=Qh (fun W=>Xmj q.k x.k W)
      generalize Lib.compareBytes q.k x.k=r at hcmp Hcmp
      clear hlq
      rcases Xdc q.k x.k with ht|ht|ht
      ·have hr1:r= -1:=by rw [hcmp,ht];rfl
       have Hnx:=Qh (show chkFrom (if k+1=0 then none else l[k+1-1]?) (l.drop (k+1))=chkFrom none l by
        have hbe:(q.k==x.k)=false:=by simpa using Xju ht
        rw [←Hchk.out,Hst2.out,Xcs ht,hbe,Nat.add_sub_cancel,Hkx.out];simp)
       subst hr1
       clear ht hcmp
       go_wp2_with fail
       refine wp_region_quiet_below (by kernel_rfl) (by kernel_rfl) ?_
       repeat (go_big_quiet_step ((with_reducible exact Calls.regrown_of (Hcmp.out _))))
       refine wpQuiet_nil ?_
       intro w2 hwq
       have hb2:Below (w1).heap.size (w1) w2:=by
        obtain ⟨pq,rfl⟩:=hwq
        exact below_regrown _ _ _
       clear hwq
       go_wp2
       go_roundw
       case rel=>exact ⟨k+1,by omega,by go_num,Hnx.out,hb1'.trans (hb2.mono hb1'.size)⟩
       case measure=>simp [intOf];omega
      ·have hbe:(q.k==x.k)=true:=by rw [ht];exact beq_self_eq_true _
       have hbl:Op.bytesLess q.k x.k=false:=by rw [ht];exact Xbr _
       have hr1:r=0:=by rw [hcmp,hbl,hbe];rfl
       have Hnx:=Qh (show chk l=8 by rw [Hst2.out,if_pos hbe])
       subst hr1
       clear ht hcmp hbe hbl
       go_wp2_with fail
       refine wp_region_quiet_below (by kernel_rfl) (by kernel_rfl) ?_
       repeat (go_big_quiet_step ((with_reducible exact Calls.regrown_of (Hcmp.out _))))
       refine wpQuiet_nil ?_
       intro w2 hwq
       have hb2:Below (w1).heap.size (w1) w2:=by
        obtain ⟨pq,rfl⟩:=hwq
        exact below_regrown _ _ _
       clear hwq
       go_wp2
       go_ret
       exact ⟨Xag Hnx.out.symm,hb1'.trans (hb2.mono hb1'.size)⟩
      ·have hne:(q.k==x.k)=false:=by simpa using (Xju ht).symm
       have hr1:r=1:=by rw [hcmp,Xcs ht,hne];rfl
       have Hnx:=Qh (show chk l=14 by rw [Hst2.out,if_neg (by rw [hne];simp),if_pos ht])
       subst hr1
       clear ht hcmp hne
       go_wp2_with fail
       refine wp_region_quiet_below (by kernel_rfl) (by kernel_rfl) ?_
       repeat (go_big_quiet_step ((with_reducible exact Calls.regrown_of (Hcmp.out _))))
       refine wpQuiet_nil ?_
       intro w2 hwq
       have hb2:Below (w1).heap.size (w1) w2:=by
        obtain ⟨pq,rfl⟩:=hwq
        exact below_regrown _ _ _
       clear hwq
       go_wp2
       go_ret
       exact ⟨Xag Hnx.out.symm,hb1'.trans (hb2.mono hb1'.size)⟩
    ·obtain ⟨q,hq⟩:∃q,atErr x=q:=⟨_,rfl⟩
     have hn0:(q != 0)=true:=by rw [←hq];simpa using h0
     have Hs:=Qh (show chk l=q by rw [Hst.out,if_pos h0,hq])
     rw [hq]
     clear hq h0
     go_wp2
     go_ret
     exact ⟨Xag Hs.out.symm,hb1'⟩
   ·go_wp2
    go_ret
    refine ⟨Xag ?_,hb⟩
    rw [Hchk.out,←Hr.out,List.drop_of_length_le (by omega)];rfl
 ·have hd:decide (16<l.length)=true:=Qt (by omega)
  go_enter Tryz.func110,Tryz.ntmps110
  go_wp2
  go_ret
  exact ⟨Xag (by rw [chk,if_pos (by omega)]),Qb _ _⟩
theorem Glob.tab {I : IH} {w : World} (h : Glob I) (hw : Ok I w) : Lib.TabIs Tryz.prog w "internal/strconv.uint64pow10" .u64 Lib.pow10Tab := by
 obtain ⟨e,f,hh⟩:=hw _ _ h.pow
 unfold Lib.TabIs World.var?
 have hg : Tryz.prog.globalNamed "internal/strconv.uint64pow10" = some 3 := by kernel_rfl
 simp [hg,hh]
theorem Glob.vsyn {I : IH} {w : World} (h : Glob I) (hw : Ok I w) : ∃ tp p, w.var? Tryz.prog "strconv.ErrSyntax" = some #[.iface tp p] := by
 obtain ⟨tp,p,h1⟩:=h.syn
 obtain ⟨e,f,hh⟩:=hw _ _ h1
 refine ⟨tp,p,?_⟩
 unfold World.var?
 have hg : Tryz.prog.globalNamed "strconv.ErrSyntax" = some 1 := by kernel_rfl
 simp [hg,hh]
theorem Glob.vrng {I : IH} {w : World} (h : Glob I) (hw : Ok I w) : ∃ tp p, w.var? Tryz.prog "strconv.ErrRange" = some #[.iface tp p] := by
 obtain ⟨tp,p,h1⟩:=h.rng
 obtain ⟨e,f,hh⟩:=hw _ _ h1
 refine ⟨tp,p,?_⟩
 unfold World.var?
 have hg : Tryz.prog.globalNamed "strconv.ErrRange" = some 2 := by kernel_rfl
 simp [hg,hh]
theorem Xjc (I:IH) (hI:Glob I) (n:Int) (w:World) (hw:Ok I w) (h0: -9223372036854775808≤n) (h1:n≤9223372036854775807):
 Calls Tryz.prog 61 #[.int .i64 n] w fun e w'=>e= .returned (S (Lib.itoa n))∧Below w.heap.size w w':=
 (Tryz.strconv_Itoa n h0 h1 w (hI.tab hw)).mono fun e w' ⟨he,k,os,hq⟩=>⟨he,by rw [hq];exact Lib.below_grow _ _ (Qn _) _ _⟩
def AtoiBad (w:World) (e:Ending) (w':World):Prop:= ∃n N,e= .returned (.tuple #[.int .i64 n,.iface 272 (.pointer (some ⟨N,0,none⟩))])∧Below w.heap.size w w'
theorem Xg5 (s:Bytes) (hs:s.length≤4294967280) (n:Int) (h:Lib.atoiAll s= .ok n) (w:World):
 Calls Tryz.prog 101 #[S s] w fun e w'=>e= .returned (.tuple #[.int .i64 n,.nilIface])∧Below w.heap.size w w':=by
 have hsz:(⟨s.toArray⟩:ByteArray).size=s.length:=by simp [ByteArray.size]
 refine (Tryz.strconv_Atoi_ok ⟨s.toArray⟩ (by omega) n h w).mono fun e w' ⟨h1,h2⟩=>⟨h1,?_⟩
 rcases h2 with h2|⟨t,h2⟩
 ·rw [h2];exact Qb _ _
 ·rw [h2];exact Joins.below_bytesWorld _ _ _ _ (Qn _)
theorem Xkq (I:IH) (hI:Glob I) (s:Bytes) (hs:s.length≤4294967280) (h:∀n,Lib.atoiAll s≠ .ok n) (w:World) (hw:Ok I w):
 Calls Tryz.prog 101 #[S s] w (AtoiBad w):=by
 have hsz:(⟨s.toArray⟩:ByteArray).size=s.length:=by simp [ByteArray.size]
 by_cases hr:Lib.atoiAll s= .range
 ·obtain ⟨tp,p,hv⟩:=hI.vrng hw
  exact (Tryz.strconv_Atoi_range_var ⟨s.toArray⟩ (by omega) hr tp p w hv).mono fun e w' ⟨N,h1,_,_,h4⟩=>⟨_,N,h1,h4⟩
 ·obtain ⟨tp,p,hv⟩:=hI.vsyn hw
  exact (Tryz.strconv_Atoi_syntax_var ⟨s.toArray⟩ (by omega) h hr tp p w hv).mono fun e w' ⟨N,h1,_,_,h4⟩=>⟨0,N,h1,h4⟩
set_option maxRecDepth 100000 in
set_option maxHeartbeats 1000000 in
theorem Xq8 (I:IH) (hI:Glob I) (s:Bytes) (hs:s.length≤4294967280) (w:World) (hw:Ok I w):
 Calls Tryz.prog 179 #[S s] w fun e w'=>e= .returned (.bool (dateOk s))∧Below w.heap.size w w':=by
 have hdi:=Xnq s
 by_cases hok:∃n,Lib.atoiAll s= .ok n
 case neg=>
  have Hn:=Qh (show dateOk s=false by
   cases h:dateOk s with
   |false=>rfl
   |true=>obtain ⟨n,h1,_⟩:=hdi.1 h;exact absurd ⟨n,h1⟩ hok)
  have Hat:=Qh (Xkq I hI s hs (fun n h=>hok ⟨n,h⟩) w hw)
  clear hdi hok
  go_enter Tryz.func179,Tryz.ntmps179
  go_wp2_with fail
  refine Hat.out.mono ?_
  rintro e w1 ⟨n,N,rfl,hb1⟩
  go_wp2
  go_ret
  exact ⟨Xa2 Hn.out.symm,hb1⟩
 obtain ⟨n,hn⟩:=hok
 have Hat:=Qh (Xg5 s hs n hn w)
 have Hd:=Qh (show dateOk s=(decide (0≤n)&&decide (n≤1000000000)&&decide (Lib.itoa n=s)) by
  rw [Bool.eq_iff_iff,hdi]
  simp only [Bool.and_eq_true,decide_eq_true_eq]
  constructor
  ·rintro ⟨m,h1,h2,h3,h4⟩
   rw [hn] at h1
   injection h1 with h1
   subst h1
   exact ⟨⟨h2,h3⟩,h4⟩
  ·rintro ⟨⟨h2,h3⟩,h4⟩
   exact ⟨n,hn,h2,h3,h4⟩)
 clear hdi hn
 by_cases h0:0≤n
 case neg=>
  have Hn:=Qh (show dateOk s=false by rw [Hd.out,Qf h0];rfl)
  go_enter Tryz.func179,Tryz.ntmps179
  go_wp2_with fail
  refine Hat.out.mono ?_
  rintro e w1 ⟨rfl,hb1⟩
  go_wp2
  go_ret
  exact ⟨(by first|exact Xa2 Hn.out.symm|(rw [Hn.out];congr 1;simp;omega)),hb1⟩
 by_cases h1:n≤1000000000
 case neg=>
  have Hn:=Qh (show dateOk s=false by rw [Hd.out,Qf h1,Bool.and_false];rfl)
  go_enter Tryz.func179,Tryz.ntmps179
  go_wp2_with fail
  refine Hat.out.mono ?_
  rintro e w1 ⟨rfl,hb1⟩
  go_wp2
  go_ret
  exact ⟨(by first|exact Xa2 Hn.out.symm|(rw [Hn.out];congr 1;simp;omega)),hb1⟩
 have Hn:=Qh (show dateOk s=(Lib.itoa n==s) by
  rw [Hd.out,Qt h0,Qt h1]
  by_cases h:Lib.itoa n=s<;>simp [h])
 have Hit:=Qh (fun w hw=>Xjc I hI n w hw (by omega) (by omega))
 obtain ⟨t,ht⟩:∃t,Lib.itoa n=t:=⟨_,rfl⟩
 rw [ht] at Hit Hn
 clear ht
 go_enter Tryz.func179,Tryz.ntmps179
 go_wp2_with fail
 refine Hat.out.mono ?_
 rintro e w1 ⟨rfl,hb1⟩
 go_wp2_with fail
 refine (Hit.out _ (hw.below (Qn _) hb1)).mono ?_
 rintro e w2 ⟨rfl,hb2⟩
 go_wp2
 go_ret
 exact ⟨Xa2 Hn.out.symm,hb1.trans (hb2.mono hb1.size)⟩
set_option maxRecDepth 100000 in
set_option maxHeartbeats 400000 in
theorem Xq7 (I:IH) (hI:Glob I) (x:Ent) (hx:x.target.length≤4294967280) (va vx:Value) (w:World) (hw:Ok I w):
 Calls Tryz.prog 111 #[entV x va vx] w fun e w'=>e= .returned (.bool (targetOk x))∧Below w.heap.size w w':=by
 by_cases h3:x.kind=3
 ·have f3:((x.kind:Int)==3)=true:=by simpa using h3
  by_cases h1:x.target= []
  ·have Ht:=Qh (show targetOk x=false by rw [targetOk,if_pos h3,h1];rfl)
   obtain ⟨p1,p2,p3,p4⟩:=Xdf h1
   clear h3 h1
   go_enter Tryz.func111,Tryz.ntmps111
   go_wp2
   go_ret
   exact ⟨Xa2 Ht.out.symm,(Qb _ _).alloc (Qn _) _⟩
  have hl1:1≤x.target.length:=List.length_pos_iff.2 h1
  have Ht:=Qh (show targetOk x=decide (x.target.length≤200) by rw [targetOk,if_pos h3,Qt hl1];rfl)
  obtain ⟨p1,p2,p3,p4⟩:=Xde h1
  clear h3 h1
  go_enter Tryz.func111,Tryz.ntmps111
  go_wp2
  go_ret
  exact ⟨Xa2 (by rw [Ht.out,decide_eq_decide];omega),(Qb _ _).alloc (Qn _) _⟩
 have f3:((x.kind:Int)==3)=false:=by simpa using h3
 by_cases h5:x.kind=5
 ·have f5:((x.kind:Int)==5)=true:=by simpa using h5
  have Ht:=Qh (show targetOk x=dateOk x.target by rw [targetOk,if_neg h3,if_pos h5])
  clear h3 h5
  go_enter Tryz.func111,Tryz.ntmps111
  go_wp2_with fail
  refine (Xq8 I hI x.target hx _ (hw.alloc _)).mono ?_
  rintro e w1 ⟨rfl,hb1⟩
  go_wp2
  go_ret
  exact ⟨Xa2 Ht.out.symm,((Qb _ _).alloc (Qn _) _).trans (hb1.mono (by simp))⟩
 have f5:((x.kind:Int)==5)=false:=by simpa using h5
 have Ht:=Qh (show targetOk x=x.target.isEmpty by rw [targetOk,if_neg h3,if_neg h5])
 clear h3 h5
 go_enter Tryz.func111,Tryz.ntmps111
 go_wp2
 go_ret
 exact ⟨Xa2 (by rw [Ht.out]),(Qb _ _).alloc (Qn _) _⟩
end Go.Proofs.YtkipnpjagcfcpaaGreatDoor
namespace Go.Proofs
open Go.Shelf
def Tryz.lays169_ren:Go.Shelf.Ren:=⟨fun|169=>28|n=>n,fun|70=>68|9=>9|0=>0|72=>71|37=>69|127=>130|3=>3|5=>5|n=>n,fun|n=>n⟩
theorem Tryz.lays169:Go.Proofs.Lays.n169 Tryz.prog Tryz.lays169_ren:= {
 mixed:=by kernel_rfl
 f169:=Tryz.func28.trans (congrArg some (by kernel_rfl))
 t0:=Tryz.underlying0
 a0:=Tryz.isAgg0
 z0:=Tryz.sizeOf0
 v0:=Tryz.zeroValue0
 t3:=Tryz.underlying3
 a3:=Tryz.isAgg3
 z3:=Tryz.sizeOf3
 v3:=Tryz.zeroValue3
 t9:=Tryz.underlying9
 a9:=Tryz.isAgg9
 z9:=Tryz.sizeOf9
 v9:=Tryz.zeroValue9
 t37:=Tryz.underlying69
 a37:=Tryz.isAgg69
 z37:=Tryz.sizeOf69
 v37:=Tryz.zeroValue69
 t70:=Tryz.underlying68
 a70:=Tryz.isAgg68
 z70:=Tryz.sizeOf68
 v70:=Tryz.zeroValue68
 t72:=Tryz.underlying71
 a72:=Tryz.isAgg71
 z72:=Tryz.sizeOf71
 v72:=Tryz.zeroValue71
 t127:=Tryz.underlying130
 a127:=Tryz.isAgg130
 z127:=Tryz.sizeOf130
 v127:=Tryz.zeroValue130 }
theorem Tryz.Builder_Extra_169:Builder.Extra Tryz.prog Tryz.lays169_ren:= {
 sizeBuilder:=by kernel_rfl
 liesBuilder:=by kernel_rfl
 t5:=Tryz.underlying5
 a5:=Tryz.isAgg5
 z5:=Tryz.sizeOf5
 v5:=Tryz.zeroValue5
 infoByte:=by kernel_rfl
 cellsByte:=by kernel_rfl
 sizeByte:=by kernel_rfl
 neB5:=by decide }
open Go.RowKit in
theorem Tryz.Builder_String_any (B b:Nat) (l:List UInt8) (w:World) (h:Lib.IsBuilder 71 5 B b (Lib.byteCells l) w) (hBw:B≤w.heap.size):
 Calls Tryz.prog 28 #[.pointer (some ⟨b,0,none⟩)] w fun e w'=>e= .returned (.string ⟨l.toArray⟩)∧Below B w w':=Any.Builder_String_any Tryz.lays169 Tryz.Builder_Extra_169 B b l w h hBw
def Tryz.lays105_ren:Go.Shelf.Ren:=⟨fun|105=>127|212=>188|99=>12|165=>189|166=>23|170=>139|169=>28|263=>251|264=>252|206=>34|240=>60|241=>253|276=>107|277=>286|n=>n,fun|9=>9|3=>3|4=>4|20=>20|0=>0|46=>173|109=>227|5=>5|72=>71|76=>74|51=>41|146=>225|53=>23|148=>288|70=>68|37=>69|75=>73|127=>130|164=>165|80=>80|n=>n,fun|n=>n⟩
theorem Tryz.lays105:Go.Proofs.Lays.n105 Tryz.prog Tryz.lays105_ren:= {
 mixed:=by kernel_rfl
 f99:=Tryz.func12.trans (congrArg some (by kernel_rfl))
 f105:=Tryz.func127.trans (congrArg some (by kernel_rfl))
 f165:=Tryz.func189.trans (congrArg some (by kernel_rfl))
 f166:=Tryz.func23.trans (congrArg some (by kernel_rfl))
 f169:=Tryz.func28.trans (congrArg some (by kernel_rfl))
 f170:=Tryz.func139.trans (congrArg some (by kernel_rfl))
 f206:=Tryz.func34.trans (congrArg some (by kernel_rfl))
 f212:=Tryz.func188.trans (congrArg some (by kernel_rfl))
 f240:=Tryz.func60.trans (congrArg some (by kernel_rfl))
 f241:=Tryz.func253.trans (congrArg some (by kernel_rfl))
 f263:=Tryz.func251.trans (congrArg some (by kernel_rfl))
 f264:=Tryz.func252.trans (congrArg some (by kernel_rfl))
 f276:=Tryz.func107.trans (congrArg some (by kernel_rfl))
 f277:=Tryz.func286.trans (congrArg some (by kernel_rfl))
 t0:=Tryz.underlying0
 a0:=Tryz.isAgg0
 z0:=Tryz.sizeOf0
 v0:=Tryz.zeroValue0
 t3:=Tryz.underlying3
 a3:=Tryz.isAgg3
 z3:=Tryz.sizeOf3
 v3:=Tryz.zeroValue3
 t4:=Tryz.underlying4
 a4:=Tryz.isAgg4
 z4:=Tryz.sizeOf4
 v4:=Tryz.zeroValue4
 t5:=Tryz.underlying5
 a5:=Tryz.isAgg5
 z5:=Tryz.sizeOf5
 v5:=Tryz.zeroValue5
 t9:=Tryz.underlying9
 a9:=Tryz.isAgg9
 z9:=Tryz.sizeOf9
 v9:=Tryz.zeroValue9
 t20:=Tryz.underlying20
 a20:=Tryz.isAgg20
 z20:=Tryz.sizeOf20
 v20:=Tryz.zeroValue20
 t37:=Tryz.underlying69
 a37:=Tryz.isAgg69
 z37:=Tryz.sizeOf69
 v37:=Tryz.zeroValue69
 t46:=Tryz.underlying173
 a46:=Tryz.isAgg173
 z46:=Tryz.sizeOf173
 v46:=Tryz.zeroValue173
 t51:=Tryz.underlying41
 a51:=Tryz.isAgg41
 z51:=Tryz.sizeOf41
 v51:=Tryz.zeroValue41
 t53:=Tryz.underlying23
 a53:=Tryz.isAgg23
 z53:=Tryz.sizeOf23
 v53:=Tryz.zeroValue23
 t70:=Tryz.underlying68
 a70:=Tryz.isAgg68
 z70:=Tryz.sizeOf68
 v70:=Tryz.zeroValue68
 t72:=Tryz.underlying71
 a72:=Tryz.isAgg71
 z72:=Tryz.sizeOf71
 v72:=Tryz.zeroValue71
 t75:=Tryz.underlying73
 a75:=Tryz.isAgg73
 z75:=Tryz.sizeOf73
 v75:=Tryz.zeroValue73
 t76:=Tryz.underlying74
 a76:=Tryz.isAgg74
 z76:=Tryz.sizeOf74
 v76:=Tryz.zeroValue74
 t109:=Tryz.underlying227
 a109:=Tryz.isAgg227
 z109:=Tryz.sizeOf227
 v109:=Tryz.zeroValue227
 t127:=Tryz.underlying130
 a127:=Tryz.isAgg130
 z127:=Tryz.sizeOf130
 v127:=Tryz.zeroValue130
 t146:=Tryz.underlying225
 a146:=Tryz.isAgg225
 z146:=Tryz.sizeOf225
 v146:=Tryz.zeroValue225
 t148:=Tryz.underlying288
 a148:=Tryz.isAgg288
 z148:=Tryz.sizeOf288
 v148:=Tryz.zeroValue288
 t164:=Tryz.underlying165
 a164:=Tryz.isAgg165
 z164:=Tryz.sizeOf165
 v164:=Tryz.zeroValue165 }
theorem Tryz.Builder_Extra_105:Builder.Extra Tryz.prog Tryz.lays105_ren:= {
 sizeBuilder:=by kernel_rfl
 liesBuilder:=by kernel_rfl
 t5:=Tryz.underlying5
 a5:=Tryz.isAgg5
 z5:=Tryz.sizeOf5
 v5:=Tryz.zeroValue5
 infoByte:=by kernel_rfl
 cellsByte:=by kernel_rfl
 sizeByte:=by kernel_rfl
 neB5:=by decide }
open Go.RowKit Go.Lib in
theorem Tryz.strings_Repeat (s:ByteArray) (c:Nat) (w:World) (hc:c≤9223372036854775807) (hlen:s.size*c≤140737488355328):
 Calls Tryz.prog 127 #[.string s,.int .i64 c] w fun e w'=>e= .returned (.string ⟨(Lib.repeatL s.data.toList c).toArray⟩)∧Below w.heap.size w w':=Any.strings_Repeat Tryz.lays105 Tryz.Builder_Extra_105 s c w hc hlen
def Tryz.lays166_ren:Go.Shelf.Ren:=⟨fun|166=>23|240=>60|276=>107|n=>n,fun|0=>0|3=>3|4=>4|5=>5|9=>9|20=>20|37=>69|70=>68|72=>71|75=>73|80=>80|164=>165|n=>n,fun|n=>n⟩
theorem Tryz.lays166:Go.Proofs.Lays.n166 Tryz.prog Tryz.lays166_ren:= {
 mixed:=by kernel_rfl
 f166:=Tryz.func23.trans (congrArg some (by kernel_rfl))
 f240:=Tryz.func60.trans (congrArg some (by kernel_rfl))
 f276:=Tryz.func107.trans (congrArg some (by kernel_rfl))
 t0:=Tryz.underlying0
 a0:=Tryz.isAgg0
 z0:=Tryz.sizeOf0
 v0:=Tryz.zeroValue0
 t3:=Tryz.underlying3
 a3:=Tryz.isAgg3
 z3:=Tryz.sizeOf3
 v3:=Tryz.zeroValue3
 t4:=Tryz.underlying4
 a4:=Tryz.isAgg4
 z4:=Tryz.sizeOf4
 v4:=Tryz.zeroValue4
 t9:=Tryz.underlying9
 a9:=Tryz.isAgg9
 z9:=Tryz.sizeOf9
 v9:=Tryz.zeroValue9
 t20:=Tryz.underlying20
 a20:=Tryz.isAgg20
 z20:=Tryz.sizeOf20
 v20:=Tryz.zeroValue20
 t37:=Tryz.underlying69
 a37:=Tryz.isAgg69
 z37:=Tryz.sizeOf69
 v37:=Tryz.zeroValue69
 t70:=Tryz.underlying68
 a70:=Tryz.isAgg68
 z70:=Tryz.sizeOf68
 v70:=Tryz.zeroValue68
 t72:=Tryz.underlying71
 a72:=Tryz.isAgg71
 z72:=Tryz.sizeOf71
 v72:=Tryz.zeroValue71
 t75:=Tryz.underlying73
 a75:=Tryz.isAgg73
 z75:=Tryz.sizeOf73
 v75:=Tryz.zeroValue73
 t164:=Tryz.underlying165
 a164:=Tryz.isAgg165
 z164:=Tryz.sizeOf165
 v164:=Tryz.zeroValue165 }
theorem Tryz.Builder_Extra_166:Builder.Extra Tryz.prog Tryz.lays166_ren:= {
 sizeBuilder:=by kernel_rfl
 liesBuilder:=by kernel_rfl
 t5:=Tryz.underlying5
 a5:=Tryz.isAgg5
 z5:=Tryz.sizeOf5
 v5:=Tryz.zeroValue5
 infoByte:=by kernel_rfl
 cellsByte:=by kernel_rfl
 sizeByte:=by kernel_rfl
 neB5:=by decide }
theorem Tryz.Builder_WriteString (B b:Nat) (bs:List Value) (s:ByteArray) (w:World) (h:Lib.IsBuilder 71 5 B b bs w) (hlen:bs.length+s.size≤140737488355328) (hBw:B≤w.heap.size):
 Calls Tryz.prog 23 #[.pointer (some ⟨b,0,none⟩),.string s] w fun e w'=>e= .returned (.tuple #[.int .i64 s.size,.nilIface])∧(Lib.BuilderAt 71 5 B b (.pointer (some ⟨b,0,none⟩)) (bs++Lib.strCells s) w'∧RowKit.Below B w w'):=Any.Builder_WriteString Tryz.lays166 Tryz.Builder_Extra_166 B b bs s w h hlen hBw
end Go.Proofs
namespace Go.Proofs.YtkipnpjagcfcpaaGreatDoor
open Go.RowKit Go.Lib
theorem repeatL_one (c:UInt8):∀n,repeatL [c] n=List.replicate n c
 |0=>rfl
 |n+1=>by rw [repeatL,repeatL_one c n,List.replicate_succ];rfl
theorem Xif (l:Bytes) (c:Int) (w:World) (h0:0≤c) (hc:c≤9223372036854775807) (hl:l.length*c.toNat≤140737488355328):
 Calls Tryz.prog 127 #[S l,.int .i64 c] w fun e w'=>e= .returned (S (repeatL l c.toNat))∧Below w.heap.size w w':=by
 obtain ⟨c,rfl⟩:=Int.eq_ofNat_of_zero_le h0
 have h:=Tryz.strings_Repeat ⟨l.toArray⟩ c w (by omega) (by rw [ByteArray.size_mk',List.size_toArray];simpa using hl)
 simpa using h
theorem Xku (l:List Bytes):Lib.join l []=l.flatten:=by
 unfold Lib.join List.intercalate
 induction l with
 |nil=>rfl
 |cons x l ih=>
  cases l with
  |nil=>rfl
  |cons y l=>rw [List.intersperse_cons_cons,List.flatten_cons,List.flatten_cons,ih,List.flatten_cons];rfl
theorem Xqo (b off cap:Nat) (l:List Bytes) (w:World) (hc:∀(j:Nat) x,l[j]? =some x→w.cell? ⟨b,off+j,none⟩=some (S x)) (hcap:l.length≤cap) (hb:b<w.heap.size) (hn:l.length≤1000000) (hl:l.flatten.length≤140737488355328):
 Calls Tryz.prog 140 #[.slice (some ⟨b,off,none⟩) l.length cap,S []] w fun e w'=>e= .returned (S l.flatten)∧Below w.heap.size w w':=by
 have hx:(l.map fun s=>(⟨s.toArray⟩:ByteArray)).map (·.data.toList)=l:=by
  rw [List.map_map]
  conv=>rhs;rw [←List.map_id l]
  apply List.map_congr_left
  intro b _
  simp
 have hjl:Lib.join ((l.map fun s=>(⟨s.toArray⟩:ByteArray)).map (·.data.toList)) (⟨[].toArray⟩:ByteArray).data.toList=l.flatten:=by rw [hx];exact Xku l
 have h:=Tryz.strings_Join b off cap (l.map fun s=>⟨s.toArray⟩) ⟨[].toArray⟩ w (fun j x hx=> ?_) hb (by rw [List.length_map];omega) (by rw [List.length_map];exact hcap) (by rw [hjl];exact hl)
 ·rw [hjl,List.length_map] at h
  exact h
 ·rw [List.getElem?_map] at hx
  cases hlj:l[j]? with
  |none=>rw [hlj] at hx;simp at hx
  |some s=>
   rw [hlj] at hx
   simp at hx
   subst hx
   exact hc j s hlj
def slashAt (s:Bytes):Int:=Lib.lastIndexByte ⟨s.toArray⟩ 47
end Go.Proofs.YtkipnpjagcfcpaaGreatDoor
namespace Go.Proofs.YtkipnpjagcfcpaaGreatDoor
open Go.RowKit
def sumStart:List Int:= [bits .xor .u32 1779033703 16842784,3144134277,1013904242,2773480762,1359893119,2600822924,528734635,1541459225]
def hAt (s:Bytes):Nat→List Int
 |0=>sumStart
 |i+1=>compressP (hAt s i) ((s.drop (64*i)).take 64) ((64*i+64:Nat):Int) false
theorem Xc0 (s:Bytes):∀i,(hAt s i).length=8
 |0=>rfl
 |_+1=>Xbd ..
def lastAt (s:Bytes):Nat:=(s.length-1) / 64
def sumWords (s:Bytes):List Int:=compressP (hAt s (lastAt s)) (s.drop (64*lastAt s)++List.replicate (64-(s.length-64*lastAt s)) 0) (s.length:Int) true
def tB:Ty Int:=Ty.flat 1 (fun x=> [.int .u8 x]) (fun _=>rfl) (fun _ u h=>by simp at h;subst h;rfl)
def wordBytes (x:Int):List Int:= [x%256,x / 256%256,x / 65536%256,x / 16777216%256]
def outTo (G:List Int) (k:Nat):List Int:=(G.take k).flatMap wordBytes
theorem Xon (G:List Int) (k:Nat) (hk:k<G.length):outTo G (k+1)=outTo G k++wordBytes (G.getD k 0):=by
 rw [outTo,outTo,List.take_succ_eq_append_getElem hk,List.flatMap_append]
 simp [List.getD,List.getElem?_eq_getElem hk]
theorem Xfq (G:List Int):∀k,(outTo G k).length≤4*k:=by
 intro k
 have:∀L:List Int,(L.flatMap wordBytes).length=4*L.length:=by
  intro L
  induction L with
  |nil=>rfl
  |cons x L ih=>rw [List.flatMap_cons,List.length_append,ih];simp [wordBytes];omega
 rw [outTo,this];simp;omega
theorem Xhy (I:IH) (x:Int):LiesL tB I [.int .u8 (x%256),.int .u8 (x / 256%256),.int .u8 (x / 65536%256),.int .u8 (x / 16777216%256)] (wordBytes x):=
 (((LiesL.one (T:=tB) (I:=I) (x:=x%256) (cs:= [.int .u8 (x%256)]) rfl).append (LiesL.one (T:=tB) (x:=x / 256%256) (cs:= [.int .u8 (x / 256%256)]) rfl)).append (LiesL.one (T:=tB) (x:=x / 65536%256) (cs:= [.int .u8 (x / 65536%256)]) rfl)).append (LiesL.one (T:=tB) (x:=x / 16777216%256) (cs:= [.int .u8 (x / 16777216%256)]) rfl)
theorem Xr8 {I:IH} {xs:List Value} {l:List Int} (h:LiesL tB I xs l) (j:Nat) (hj:j<l.length):xs[j]? =some (.int .u8 l[j]):=by
 obtain ⟨cs,h1,h2⟩:=h.2 j hj
 have e:cs= [.int .u8 l[j]]:=h1
 subst e
 have:=h2 0 _ rfl
 rw [show j*tB.size+0=j by show j*1+0=j;omega] at this
 exact this
theorem Xey:∀(l:List Int) (a:ByteArray),List.foldl (fun r n=>r.push (UInt8.ofNat n.toNat)) a l=⟨a.data++(l.map fun x=>UInt8.ofNat x.toNat).toArray⟩
 | [],a=>by simp
 |x::l,a=>by
  rw [List.foldl_cons,Xey l]
  apply ByteArray.ext
  simp [ByteArray.push]
theorem Xsy (l:List Int):List.foldl (fun r n=>r.push (UInt8.ofNat n.toNat)) ByteArray.empty l=⟨(l.map fun x=>UInt8.ofNat x.toNat).toArray⟩:=by
 rw [Xey]
 apply ByteArray.ext
 show (#[]:Array UInt8)++_=_
 simp
theorem Xjp {P:Program} {I:IH} {E src dst e:TypeId} {v:Value} {l:List Int} {B:Nat} (hs:P.underlying src=some (.slice e)) (he:P.underlying e=some (.int .u8)) (hd:P.underlying dst=some .string) (W:World) (h:OwnS tB E I W B v l) (hl:0<l.length):
 (convert src dst v).run P W= .ok (S (l.map fun x=>UInt8.ofNat x.toNat)) W:=by
 obtain ⟨xs,⟨_,hcase⟩,hL⟩:=h
 rcases hcase with ⟨_,h0⟩|⟨g,cap,cur,rfl,_,hg,_,_,_,ht⟩
 ·omega
 ·rw [run_convert_bytes_string _ _ _ e _ _ _ hs he hd,run_bytesToString (ns:=l)]
  ·rw [Xsy]
  ·have hc:=run_loadCells_list (P:=P) W ⟨g,0,none⟩ (l.map fun x=>Value.int .u8 x) (fun j u hu=>by
    have hj:j<l.length:=by simpa using (List.getElem?_eq_some_iff.1 hu).1
    rw [Addr.add_lit,Nat.zero_add,cell_of_row _ _ _ _ _ _ hg]
    have h1:=Xr8 hL j hj
    rw [←ht,List.getElem?_take] at h1
    split at h1
    ·rw [←Array.getElem?_toList,h1];simpa [hj] using hu
    ·cases h1)
   simpa using hc
def sumP (s:Bytes):Bytes:=(outTo (sumWords s) 8).map fun x=>UInt8.ofNat x.toNat
theorem Xit:(Tryz.prog.info? 5).map (fun i=>(i.zero,i.size,i.bytes))=some (some (.int .u8 0),1,1):=by kernel_rfl
theorem Xtv:∃ZZ:Array Value,ZZ.size=32∧ ∀W,(Instr.makeSlice 69 (.int .i64 0) (.int .i64 32)).run Tryz.prog W= .ok (.slice (some ⟨W.heap.size,0,none⟩) 0 32) (W.alloc (.cells ZZ 5)):=by
 obtain ⟨i,h1,h2,h3,h4⟩:=info_parts Xit
 refine ⟨madeCells (Value.int .u8 0).cells (32*i.size),by rw [size_madeCells,h3],fun W=> ?_⟩
 exact run_make (P:=Tryz.prog) W 69 5 i _ Tryz.underlying69 h1 h2 .i64 .i64 0 32 (by omega) (by omega) (by rw [h4];omega) (by omega)
theorem Xgi:ElemOk Tryz.prog 69 5 tB 1:=ElemOk.of Tryz.underlying69 Xit rfl (by decide) rfl
set_option maxRecDepth 100000 in
set_option maxHeartbeats 2000000 in
theorem Xjt (b off cap:Nat) (l:List Bytes) (s:Bytes) (hl:l.flatten=s) (hs:s.length≤140737488355328) (w:World) (hc:∀(j:Nat) x,l[j]? =some x→w.cell? ⟨b,off+j,none⟩=some (S x)) (hcap:l.length≤cap) (hbl:b<w.heap.size) (hn:l.length≤1000000):
 Calls Tryz.prog 84 #[.slice (some ⟨b,off,none⟩) l.length cap] w fun e w'=>e= .returned (S (sumP s))∧Below w.heap.size w w':=by
 have Hj:=Qh (Xqo b off cap l w hc hcap hbl hn (by rw [hl];exact hs))
 rw [hl] at Hj
 clear hc hl hcap hn hbl
 go_enter Tryz.func84,Tryz.ntmps84
 go_wp2_with fail
 refine Hj.out.mono ?_
 rintro e w0 ⟨rfl,hb0⟩
 clear Hj
 go_wp2_with fail
 refine (Xhr _).mono ?_
 rintro e w1 ⟨rfl,hb1a⟩
 have hb1:=hb0.trans (hb1a.mono hb0.size)
 clear hb0 hb1a
 rw [show row blkIV= #[.int .u32 1779033703,.int .u32 3144134277,.int .u32 1013904242,.int .u32 2773480762,.int .u32 1359893119,.int .u32 2600822924,.int .u32 528734635,.int .u32 1541459225] from rfl]
 go_wp2_with fail
 obtain ⟨B,hBe⟩:∃B,w1.heap.size=B:=⟨_,rfl⟩
 have hBw:w.heap.size≤B:=by rw [←hBe];exact hb1.size
 have Hst:=Qh (show (w1.alloc (.cells (row sumStart) 192)).heap[B]? =some (.cells (row (hAt s 0)) 192 (0,0)) by rw [←hBe];exact heap_alloc_new _ _)
 have Hbl:=Qh (show Below w.heap.size w (w1.alloc (.cells (row sumStart) 192)) from hb1.alloc hb1.size _)
 rw [hBe]
 clear hb1 hBe
 obtain ⟨L,hL⟩:∃L,lastAt s=L:=⟨_,rfl⟩
 have hL':L=(s.length-1) / 64:=hL.symm
 have HL:=Qh hL;clear hL
 go_loopw [5] (fun s5 wr=> ∃i:Nat,i≤L∧s5= .int .i64 (64*(i:Int))∧Below w.heap.size w wr∧B<wr.heap.size∧wr.heap[B]? =some (.cells (row (hAt s i)) 192 (0,0))) (fun i _=>s.length-(intOf i).toNat)
 case atStart=>exact ⟨0,Nat.zero_le _,rfl,Hbl.out,(by have:=Hst.out;exact (Array.getElem?_eq_some_iff.1 this).1),Hst.out⟩
 case round=>
  clear Hst Hbl
  obtain ⟨i,hi,rfl,hb,hBs,hB⟩:=hrel
  by_cases hlt:i<L
  ·have hlen:64*i+64<s.length:=by omega
   obtain ⟨e0,e1,e2,e3,e4,e5,e6,e7,he⟩:=Xmi (Xc0 s i)
   have He:=Qh he
   rw [he] at hB
   clear he
   have d0:wr.cell? ⟨B,0,none⟩=some (.int .u32 e0):=(cell_of_row wr B 0 _ _ _ hB).trans rfl
   have d1:wr.cell? ⟨B,1,none⟩=some (.int .u32 e1):=(cell_of_row wr B 1 _ _ _ hB).trans rfl
   have d2:wr.cell? ⟨B,2,none⟩=some (.int .u32 e2):=(cell_of_row wr B 2 _ _ _ hB).trans rfl
   have d3:wr.cell? ⟨B,3,none⟩=some (.int .u32 e3):=(cell_of_row wr B 3 _ _ _ hB).trans rfl
   have d4:wr.cell? ⟨B,4,none⟩=some (.int .u32 e4):=(cell_of_row wr B 4 _ _ _ hB).trans rfl
   have d5:wr.cell? ⟨B,5,none⟩=some (.int .u32 e5):=(cell_of_row wr B 5 _ _ _ hB).trans rfl
   have d6:wr.cell? ⟨B,6,none⟩=some (.int .u32 e6):=(cell_of_row wr B 6 _ _ _ hB).trans rfl
   have d7:wr.cell? ⟨B,7,none⟩=some (.int .u32 e7):=(cell_of_row wr B 7 _ _ _ hB).trans rfl
   have z0:=frozen_of_row wr B 0 _ _ hB
   have z1:=frozen_of_row wr B 1 _ _ hB
   have z2:=frozen_of_row wr B 2 _ _ hB
   have z3:=frozen_of_row wr B 3 _ _ hB
   have z4:=frozen_of_row wr B 4 _ _ hB
   have z5:=frozen_of_row wr B 5 _ _ hB
   have z6:=frozen_of_row wr B 6 _ _ hB
   have z7:=frozen_of_row wr B 7 _ _ hB
   have HB:=Qh hB;clear hB
   go_wp2_with fail
   have hw1:IntKind.i64.wrap (64*(i:Int)+64)=64*(i:Int)+64:=IntWalk.i64_in _ (by omega)
   have hw2:IntKind.u64.wrap (64*(i:Int)+64)=64*(i:Int)+64:=IntWalk.u64_in _ (by omega)
   have hw3:(0:Int)≤64*(i:Int)+64:=by omega
   have hw4:64*(i:Int)+64≤(s.length:Int):=by omega
   have hw5:(0:Int)≤64*(i:Int):=by omega
   have hw6:64*(i:Int)≤64*(i:Int)+64:=by omega
   have hw7:(64*(i:Int)+64).toNat=64*i+64:=by omega
   have hw8:(64*(i:Int)).toNat=64*i:=by omega
   have hw9:64*i+64-64*i=64:=by omega
   have hpl:((s.drop (64*i)).take 64).length=64:=by simp;omega
   obtain ⟨c0,c1,c2,c3,c4,c5,c6,c7,hc⟩:=Xmi (Xbd [e0,e1,e2,e3,e4,e5,e6,e7] ((s.drop (64*i)).take 64) (64*(i:Int)+64) false)
   have Hc:=Qh hc
   clear hc
   go_region_law (go_simp;go_at_call 142;refine (Xfx [e0,e1,e2,e3,e4,e5,e6,e7] rfl ((s.drop (64*i)).take 64) hpl (64*(i:Int)+64) false _).mono ?_;rintro e w' ⟨rfl,hb'⟩;rw [Hc.out,show row [c0,c1,c2,c3,c4,c5,c6,c7]= #[.int .u32 c0,.int .u32 c1,.int .u32 c2,.int .u32 c3,.int .u32 c4,.int .u32 c5,.int .u32 c6,.int .u32 c7] from rfl];have y0:w'.cell? ⟨B,0,none⟩=some (.int .u32 e0):=(hb'.cell hBs).trans d0;have y1:w'.cell? ⟨B,1,none⟩=some (.int .u32 e1):=(hb'.cell hBs).trans d1;have y2:w'.cell? ⟨B,2,none⟩=some (.int .u32 e2):=(hb'.cell hBs).trans d2;have y3:w'.cell? ⟨B,3,none⟩=some (.int .u32 e3):=(hb'.cell hBs).trans d3;have y4:w'.cell? ⟨B,4,none⟩=some (.int .u32 e4):=(hb'.cell hBs).trans d4;have y5:w'.cell? ⟨B,5,none⟩=some (.int .u32 e5):=(hb'.cell hBs).trans d5;have y6:w'.cell? ⟨B,6,none⟩=some (.int .u32 e6):=(hb'.cell hBs).trans d6;have y7:w'.cell? ⟨B,7,none⟩=some (.int .u32 e7):=(hb'.cell hBs).trans d7;have g0:w'.frozen? ⟨B,0,none⟩=false:=(hb'.frozen hBs).trans z0;have g1:w'.frozen? ⟨B,1,none⟩=false:=(hb'.frozen hBs).trans z1;have g2:w'.frozen? ⟨B,2,none⟩=false:=(hb'.frozen hBs).trans z2;have g3:w'.frozen? ⟨B,3,none⟩=false:=(hb'.frozen hBs).trans z3;have g4:w'.frozen? ⟨B,4,none⟩=false:=(hb'.frozen hBs).trans z4;have g5:w'.frozen? ⟨B,5,none⟩=false:=(hb'.frozen hBs).trans z5;have g6:w'.frozen? ⟨B,6,none⟩=false:=(hb'.frozen hBs).trans z6;have g7:w'.frozen? ⟨B,7,none⟩=false:=(hb'.frozen hBs).trans z7;have Hb':=Qh hb';clear hb')
   have hv0:=(Hb'.out.block B hBs).trans HB.out
   have hv:=heap_setCell (i:=7) c7 (heap_setCell (i:=6) c6 (heap_setCell (i:=5) c5 (heap_setCell (i:=4) c4 (heap_setCell (i:=3) c3 (heap_setCell (i:=2) c2 (heap_setCell (i:=1) c1 (heap_setCell (i:=0) c0 (hv0))))))))
   have hbw:Below w.heap.size w w':=hb.drew.trans (Hb'.out.mono hb.size)
   have hbw':=Below.setCell (Below.setCell (Below.setCell (Below.setCell (Below.setCell (Below.setCell (Below.setCell (Below.setCell (hbw) (p:=⟨B,0,none⟩) hBw (.int .u32 c0)) (p:=⟨B,1,none⟩) hBw (.int .u32 c1)) (p:=⟨B,2,none⟩) hBw (.int .u32 c2)) (p:=⟨B,3,none⟩) hBw (.int .u32 c3)) (p:=⟨B,4,none⟩) hBw (.int .u32 c4)) (p:=⟨B,5,none⟩) hBw (.int .u32 c5)) (p:=⟨B,6,none⟩) hBw (.int .u32 c6)) (p:=⟨B,7,none⟩) hBw (.int .u32 c7)
   have hsz':=Hb'.out.size
   go_wp2
   go_roundw
   case rel=>exact ⟨i+1,by omega,by go_num,hbw',(by simp [World.setCell];simp at hsz';omega),(by rw [hAt,He.out,show ((64*i+64:Nat):Int)=64*(i:Int)+64 by omega,Hc.out];exact hv)⟩
   case measure=>simp [intOf];omega
  ·have hie:i=L:=by omega
   have hle:s.length≤64*i+64:=by omega
   have hge:64*i≤s.length:=by omega
   have hw1:IntKind.i64.wrap (64-((s.length:Int)-64*(i:Int)))=64-((s.length:Int)-64*(i:Int)):=IntWalk.i64_in _ (by omega)
   have hw2:IntKind.i64.wrap ((s.length:Int)-64*(i:Int))=(s.length:Int)-64*(i:Int):=IntWalk.i64_in _ (by omega)
   have hw3:64*(i:Int)≤(s.length:Int):=by omega
   have hw4:(0:Int)≤64*(i:Int):=by omega
   have hw5:(64*(i:Int)).toNat=64*i:=by omega
   obtain ⟨c,hc64⟩:∃c:Nat,(64:Int)-((s.length:Int)-64*(i:Int))=c:=⟨64-(s.length-64*i),by omega⟩
   have hcn:c=64-(s.length-64*i):=by omega
   have HB:=Qh hB;clear hB
   have Hie:=Qh (show lastAt s=i by rw [HL.out,hie])
   have Hcn:=Qh hcn
   have hc1:c≤64:=by omega
   have hrl:(Lib.repeatL [0] (c:Int).toNat).length≤100:=by rw [Lib.repeatL_length];simp;omega
   have hrl2:(Lib.repeatL [0] c).length≤100:=by rw [Lib.repeatL_length];simp;omega
   clear hie hL' hcn hlt hi
   go_wp2_with fail
   refine wp_region_quiet_below (by kernel_rfl) (by kernel_rfl) ?_
   repeat (go_big_quiet_step ((exact Calls.regrown_of (Xif [0] c _ (by omega) (by omega) (by simp;omega)))))
   refine wpQuiet_nil ?_
   intro w2 hwq
   have hb2:Below (wr).heap.size (wr) w2:=by
    obtain ⟨pq,rfl⟩:=hwq
    exact below_regrown _ _ _
   clear hwq
   obtain ⟨PB,hPB⟩:∃PB,List.take (s.length-64*i) (List.drop (64*i) s)++Lib.repeatL [0] c=PB:=⟨_,rfl⟩
   rw [hPB]
   have HPB:=Qh (show PB=s.drop (64*i)++List.replicate (64-(s.length-64*i)) 0 by rw [←hPB,repeatL_one,List.take_of_length_le (by simp),Hcn.out])
   have hPl:PB.length=64:=by rw [HPB.out];simp;omega
   clear hPB hrl hrl2
   have hl8:=Xc0 s i
   have Hsum:=Qh (show sumWords s=compressP (hAt s i) PB (s.length:Int) true by rw [sumWords,Hie.out,HPB.out])
   have hB2:=(hb2.block B hBs).trans HB.out
   have hsz2:B<w2.heap.size:=by have:=hb2.size;omega
   have hbw2:Below w.heap.size w w2:=hb.trans (hb2.mono hb.size)
   generalize hAt s i=F at hB2 hl8 Hsum
   have hi8:(Tryz.prog.info? 192).map (·.size)=some (row F).size:=by rw [row_size,hl8];kernel_rfl
   have hu64:IntKind.u64.wrap (s.length:Int)=(s.length:Int):=IntWalk.u64_in _ (by omega)
   clear hb2 HB
   go_wp2_with (refine wpList_load_row rfl 192 _ rfl B rfl 192 (row F) (0,0) _ hB2 Tryz.underlying192 rfl hi8 ?_)
   refine (Xfx F hl8 PB hPl (s.length:Int) true _).mono ?_
   rintro e w3 ⟨rfl,hb3⟩
   rw [←Hsum.out]
   have hl8':(sumWords s).length=8:=Xbd ..
   obtain ⟨G,hG⟩:∃G,sumWords s=G:=⟨_,rfl⟩
   have HG:=Qh hG
   rw [hG] at hl8' ⊢
   clear hG
   have hB3:=(hb3.block B hsz2).trans hB2
   have hsz3:B<w3.heap.size:=by have:=hb3.size;omega
   have hbw3:Below w.heap.size w w3:=hbw2.trans (hb3.mono hbw2.size)
   have hi8':(Tryz.prog.info? 192).map (·.size)=some (row G).size:=by rw [row_size,hl8'];kernel_rfl
   have hz8:(row F).size=(row G).size:=by rw [row_size,row_size,hl8,hl8']
   have ho8:(row G).all (·.oneCell')=true:=by simp [row,Value.oneCell']
   clear hb3 Hsum
   go_upto_region 10 with (refine wpList_store_row rfl 192 _ _ rfl B (row G) rfl rfl 192 (row F) hB3 hi8' hz8 ho8 ?_)
   have hB4:(w3.setRow B (row G)).heap[B]? =some (.cells (row G) 192 (0,0)):=setRow_heap _ _ _ _ _ _ hB3
   have hbw4:Below w.heap.size w (w3.setRow B (row G)):=below_setRow hbw3 hBw _
   have hsz4:B<(w3.setRow B (row G)).heap.size:=by simpa using hsz3
   generalize w3.setRow B (row G)=w4 at hB4 hbw4 hsz4
   clear hB3 hbw3 hsz3
   obtain ⟨ZZ,hZZ,hmk⟩:=Xtv
   have hB5:(w4.alloc (.cells ZZ 5)).heap[B]? =some (.cells (row G) 192 (0,0)):=(Below.heap_alloc _ _ _ hsz4).trans hB4
   go_wp2_with (refine wpList_load_row rfl 192 _ rfl B rfl 192 (row G) (0,0) _ hB5 Tryz.underlying192 rfl hi8' ?_)
   have hB0:w.heap.size≤w4.heap.size:=hbw4.size
   have Hst:=Qh (show OwnS tB 5 (fun _=>none) (w4.alloc (.cells ZZ 5)) w4.heap.size (.slice (some ⟨w4.heap.size,0,none⟩) 0 32) [] from ⟨[],World.ownsRow_made w4 ZZ 32 (Qn _) (by decide) (by rw [hZZ];rfl),LiesL.nil _ _⟩)
   have Hbl:=Qh (hbw4.alloc hB0 (.cells ZZ 5))
   obtain ⟨B0,hB0e⟩:∃B0,w4.heap.size=B0:=⟨_,rfl⟩
   have hsz5:B0≤(w4.alloc (.cells ZZ 5)).heap.size:=by simp;omega
   rw [hB0e] at hB0 Hst ⊢
   clear hB4 hB5 hbw4 hsz4 hmk
   go_loopw [7,58] (fun s7 s58 wr=> ∃k:Nat,k≤8∧s58= .int .i64 k∧OwnS tB 5 (fun _=>none) wr B0 s7 (outTo G k)∧Below w.heap.size w wr∧B0≤wr.heap.size) (fun _ k _=>8-(intOf k).toNat)
   case atStart=>exact ⟨0,Nat.zero_le _,rfl,Hst.out,Hbl.out,hsz5⟩
   case round=>
    clear Hst Hbl hsz5
    obtain ⟨k,hk,rfl,hown,hbk,hszk⟩:=hrel
    by_cases hltk:k<8
    ·have hix:=Xc4 (P:=Tryz.prog) Tryz.underlying192 Tryz.underlying41 rfl (by kernel_rfl) k hltk (Xa7 (l:=G) (i:=k) (by omega))
     have Hsc:=Qh (Xon G k (by omega))
     have hol:=Xfq G k
     generalize G.getD k 0=x at hix Hsc
     have hwl:(wordBytes x).length=4:=rfl
     have hly:=Xhy (fun _=>none) x
     go_wp2_with (at_builtin;refine Xhv (w0:=wr) Xgi rfl _ _ rfl _ _ _ rfl hown (wordBytes x) [.int .u8 (x%256),.int .u8 (x / 256%256),.int .u8 (x / 65536%256),.int .u8 (x / 16777216%256)] _ rfl hly (by rw [hwl];omega) (by rw [hwl];omega) (by rw [hwl];omega) hszk ?_)
     intro v5 w5 hown5 hg5
     have hb5:=Below.own hbk hg5 hown hB0 hszk
     have hsz5:=hg5.size
     go_wp2
     go_roundw
     case rel=>exact ⟨k+1,by omega,by go_num,by rw [Hsc.out];exact hown5,hb5,by omega⟩
     case measure=>simp [intOf];omega
    ·have hke:k=8:=by omega
     have Hret:=Qh (show (outTo G k).map (fun x=>UInt8.ofNat x.toNat)=sumP s by rw [sumP,HG.out,hke])
     have hpos:0<(outTo G k).length:=by rw [hke];match G,hl8' with|_::_,_=>simp [outTo,wordBytes]
     have hcv:=Xjp (P:=Tryz.prog) Tryz.underlying69 Tryz.underlying5 Tryz.underlying9 _ hown hpos
     rw [Hret.out] at hcv
     clear hown hpos hke
     go_wp2
     go_ret
     exact ⟨rfl,hbk⟩
end Go.Proofs.YtkipnpjagcfcpaaGreatDoor
namespace Go.Proofs.YtkipnpjagcfcpaaGreatDoor
structure Ses where
 num:Int
 date:Int
 prev:Bytes
 ents:List Ent
 stream:Bytes
 sl:Bytes
def headE (e:Ent):Bytes:=netP (nameP e.kind)++netP e.path++attP e.attrs++netP e.target
def xtP (l:List Xt):Bytes:=l.flatMap fun x=>numP x.s++numP x.o++numP x.n
def encE (e:Ent):Bytes:=netP (headE e)++numP e.size++netP e.digest++numP e.exts.length++xtP e.exts
def sesHead (s:Ses):Bytes:=numP s.num++numP s.date++netP s.prev++(numP s.stream.length++netP (sumP s.stream)++numP s.ents.length)
def sesText (s:Ses):Bytes:=sesHead s++s.ents.flatMap encE
def fldErr (s:Ses):Int:=if s.num<1∨255<s.num∨s.date<0∨1000000000<s.date then 2 else if s.prev≠ []∧s.prev.length≠32 then 1 else 0
def entsErr:List Ent→Int
 | []=>0
 |e::l=>if entErr e≠0 then entErr e else entsErr l
def sesErr (s:Ses):Int:=if fldErr s≠0 then fldErr s else if 14680064<s.stream.length∨400<s.ents.length then 6 else if entsErr s.ents≠0 then entsErr s.ents else if 2000<s.sl.length then 6 else 0
def dirDig (s:Ses):Bytes × Int:=if sesErr s≠0 then ([],sesErr s) else (sumP (sesText s),0)
theorem Xd2:∀ {l:List Ent},entsErr l=0→ ∀e∈l,entErr e=0
 | [],_,e,he=>by cases he
 |x::l,h,e,he=>by
  unfold entsErr at h
  split at h
  ·contradiction
  ·rename_i k
   rcases List.mem_cons.1 he with rfl|he
   ·omega
   ·exact Xd2 h e he
theorem Xdi {s:Ses} (h:sesErr s=0):fldErr s=0∧s.stream.length≤14680064∧s.ents.length≤400∧entsErr s.ents=0∧s.sl.length≤2000:=by
 unfold sesErr at h
 split at h
 ·contradiction
 ·split at h
  ·omega
  ·split at h
   ·contradiction
   ·split at h
    ·omega
    ·rename_i k1 k2 k3 k4
     exact ⟨by omega,by omega,by omega,by omega,by omega⟩
theorem Xhf {s:Ses} (h:fldErr s=0):1≤s.num∧s.num≤255∧0≤s.date∧s.date≤1000000000∧(s.prev= []∨s.prev.length=32):=by
 unfold fldErr at h
 split at h
 ·omega
 ·split at h
  ·omega
  ·rename_i k1 k2
   refine ⟨by omega,by omega,by omega,by omega,?_⟩
   by_cases hp:s.prev= []
   ·exact .inl hp
   ·exact .inr (Classical.byContradiction fun q=>k2 ⟨hp,q⟩)
structure Stt where
 tree:List Ent
 holds:List Ho
def askP (s:Stt) (e:Ent) (d:Int):Int:=if 3<e.kind∨(getT s.tree e.path).isSome=true then alwP s.holds e.kind e.path d else 0
def stpP (s:Stt) (e:Ent) (d:Int):Stt × Int:=
 if (applyT s.tree e).2≠0 then (s,(applyT s.tree e).2)
 else if askP s e d≠0 then (s,askP s e d)
 else if (appH s.holds e d).2≠0 then (s,(appH s.holds e d).2)
 else (⟨(applyT s.tree e).1,(appH s.holds e d).1⟩,0)
def nilS:Stt:=⟨[],[]⟩
def runS (s:Stt) (d:Int) (l:List Ent):Stt:=l.foldl (fun s e=>(stpP s e d).1) s
def aftS (s:Stt) (l:List Ses):Stt:=l.foldl (fun s x=>runS s x.date x.ents) s
structure SOk (n:Nat) (s:Stt):Prop where
 tree:OkT s.tree
 holds:HOk s.holds
 tlen:s.tree.length≤n
 hlen:s.holds.length≤n
theorem Xun:SOk 0 nilS:=⟨(Xvv []).1 rfl,Xqt,Qn _,Qn _⟩
theorem SOk.mono {n m:Nat} {s:Stt} (h:SOk n s) (hm:n≤m):SOk m s:=⟨h.tree,h.holds,Nat.le_trans h.tlen hm,Nat.le_trans h.hlen hm⟩
theorem Xek {t:List Ent} {e:Ent} (h:(applyT t e).2=0):applyT t e=((applyT t e).1,0):=Prod.ext rfl h
theorem Xsd {n:Nat} {s:Stt} (h:SOk n s) (e:Ent) (d:Int):SOk (n+1) (stpP s e d).1:=by
 unfold stpP
 split
 ·exact h.mono (by omega)
 ·rename_i h1
  split
  ·exact h.mono (by omega)
  ·split
   ·exact h.mono (by omega)
   ·have ha:=Xek (t:=s.tree) (e:=e) (by omega)
    obtain ⟨hpre,hx⟩:=applyT_iff.1 ha
    have hl:=Xuz s.tree e
    have hh:appH s.holds e d=((appH s.holds e d).1,(appH s.holds e d).2):=rfl
    refine ⟨Xry h.tree ha,Xv1 h.holds hpre.ent hh,?_,?_⟩
    ·rw [hx];have:=h.tlen;show (opT s.tree e).length≤_;omega
    ·have:=Xt3 hh
     have:=h.hlen
     show (appH s.holds e d).1.length≤_
     omega
def xtIn (l:List Ses) (x:Xt):Bool:=x.s==0 || (decide (x.s≤l.length)&&decide (x.o+x.n≤((l[(x.s-1).toNat]?).map fun s=>(s.stream.length:Int)).getD 0))
def storedP (l:List Ses) (e:Ent):Bool:=e.exts.all (xtIn l)
def entsH (l:List Ses) (d:Int):Stt→List Ent→Stt × Int
 |s,[]=>(s,0)
 |s,e::es=>if (stpP s e d).2≠0 then ((stpP s e d).1,(stpP s e d).2) else if storedP l e=false then ((stpP s e d).1,2) else entsH l d (stpP s e d).1 es
def chkFromH (l:List Ses):Nat→Stt→Bytes→Int→List Ses→Int
 |_,_,_,_,[]=>0
 |i,s,prev,date,x::xs=>
  if (dirDig x).2≠0 then (dirDig x).2
  else if x.num≠i+1∨x.date<date then 14
  else if x.prev≠prev then 20
  else if (entsH (l.take (i+1)) x.date s x.ents).2≠0 then (entsH (l.take (i+1)) x.date s x.ents).2
  else chkFromH l (i+1) (entsH (l.take (i+1)) x.date s x.ents).1 (dirDig x).1 x.date xs
def chkH (l:List Ses):Int:=chkFromH l 0 nilS [] 0 l
structure Ver where
 s:Int
 d:Int
 e:Ent
def verHit (s:Stt) (p:Bytes) (e:Ent):Bool:=(decide (e.kind≤3)&&e.path==p) || (e.kind==4&&(getT s.tree p).isSome&&under p e.path)
def verS (num d:Int) (p:Bytes):Stt→List Ent→List Ver
 |_,[]=> []
 |s,e::es=>(if verHit s p e then [⟨num,d,e⟩] else [])++verS num d p (stpP s e d).1 es
def verFrom (p:Bytes):Stt→List Ses→List Ver
 |_,[]=> []
 |s,x::xs=>verS x.num x.date p s x.ents++verFrom p (runS s x.date x.ents) xs
def verP (l:List Ses) (p:Bytes):List Ver:=verFrom p nilS l
def asOf (d:Int):List Ses→Nat
 | []=>0
 |x::l=>if d<x.date then 0 else asOf d l+1
end Go.Proofs.YtkipnpjagcfcpaaGreatDoor
namespace Go.Proofs.YtkipnpjagcfcpaaGreatDoor
def meaning (x y:Ent):Bool:=decide (x.kind=y.kind)&&decide (x.attrs=y.attrs)&&decide (x.target=y.target)&&decide (x.size=y.size)&&decide (x.digest=y.digest)
def diffM:List Ent→List Ent→List Bytes
 | [],[]=> []
 |x::a,[]=>x.path::diffM a []
 | [],y::b=>y.path::diffM [] b
 |x::a,y::b=>if ltE x y then x.path::diffM a (y::b) else if ltE y x then y.path::diffM (x::a) b else if meaning x y then diffM a b else x.path::diffM a b
termination_by a b=>a.length+b.length
def SrtP (l:List Bytes):Prop:=l.Pairwise fun p q=>ltP (els p) (els q)=true
def DiffAt (a b:List Ent) (p:Bytes):Prop:=(∃x∈a,x.path=p∧ ∀y∈b,y.path=p→meaning x y=false)∨(∃y∈b,y.path=p∧ ∀x∈a,x.path≠p)
end Go.Proofs.YtkipnpjagcfcpaaGreatDoor
namespace Go.Proofs.YtkipnpjagcfcpaaGreatDoor
theorem step_ok {s:Stt} {e:Ent} {d:Int} (h:(stpP s e d).2=0):applyT s.tree e=((applyT s.tree e).1,0)∧(stpP s e d).1.tree=opT s.tree e∧entErr e=0:=by
 unfold stpP at*
 split at h
 ·contradiction
 ·rename_i h1
  have ha:=Xek (t:=s.tree) (e:=e) (by omega)
  obtain ⟨hp,hx⟩:=applyT_iff.1 ha
  split at h
  ·contradiction
  ·rename_i h2
   split at h
   ·contradiction
   ·rename_i h3
    rw [if_neg h1,if_neg h2,if_neg h3]
    exact ⟨ha,hx,hp.ent⟩
def lastE (i:Option Ent) (l:List Ver):Option Ent:=l.foldl (fun _ v=>if v.e.kind=4 then none else some v.e) i
def AllOk (d:Int):Stt→List Ent→Prop
 |_,[]=>True
 |s,e::es=>(stpP s e d).2=0∧AllOk d (stpP s e d).1 es
def AllSes:Stt→List Ses→Prop
 |_,[]=>True
 |s,x::xs=>AllOk x.date s x.ents∧AllSes (runS s x.date x.ents) xs
structure SesIn (i:Nat) (prev:Bytes) (date:Int) (x:Ses):Prop where
 dig:(dirDig x).2=0
 num:x.num=i+1
 date:date≤x.date
 prev:x.prev=prev
end Go.Proofs.YtkipnpjagcfcpaaGreatDoor
namespace Go.Proofs.YtkipnpjagcfcpaaGreatDoor
theorem Xpa (s:Stt) (a b:List Ses):aftS s (a++b)=aftS (aftS s a) b:=List.foldl_append
def writes (p:Bytes) (e:Ent):Bool:=decide (e.kind≤3)&&e.path==p
def wrCount (p:Bytes) (l:List Ses):Nat:=(l.flatMap fun x=>x.ents.filter (writes p)).length
def keeps (v:Ver):Bool:=decide (v.e.kind≠4)
def AltOk:Bool→List Ver→Prop
 |_,[]=>True
 |r,v::vs=>if v.e.kind=4 then r=false∧AltOk true vs else AltOk false vs
end Go.Proofs.YtkipnpjagcfcpaaGreatDoor
