/-
  Walks and laws that the claim's theorem uses: texts DgB BmA BmB BmP, joined; comments out. Conditions: as each theorem says.
-/
import Derived.Test.YtjdednajelommaaGreatDoorQ06
import Derived.Test.YtjdednajelommaaGreatDoorQ11
import Derived.BigRegion
import Derived.Test.YtjdednajelommaaGreatDoorProg
import Derived.OpenShut
import Derived.DataShut
import Derived.Laws.ResultCell
import Derived.Deep.WholeRow
import Derived.Laws.CopyOwn
namespace Go.Proofs.YtjdednajelommaaGreatDoor
open Go.RowKit
def attK (l:List At) (k:Nat):Bytes:=numP l.length++(l.take k).flatMap fun a=>netP a.k++netP a.v
theorem Xl2 {l:List At} {k:Nat} (hk:k<l.length) {x:At} (hx:l[k]=x):attK l (k+1)=attK l k++(netP x.k++netP x.v):=by
 rw [attK,attK,List.take_succ_eq_append_getElem hk,hx,List.flatMap_append,←List.append_assoc]
 simp
theorem Xoo (l:List At) {k:Nat} (h:l.length≤k):attK l k=attP l:=by rw [attK,attP,List.take_of_length_le h]
theorem Xon {l:List At} (hn:l.length≤16) (h:∀a∈l,a.k.length≤32∧a.v.length≤64) (k:Nat):(attK l k).length≤2300:=by
 have h1:=Xj0 (l.take k) fun a ha=>h a (List.mem_of_mem_take ha)
 have h2:=Xbq l.length (by omega)
 have h3:(l.take k).length≤l.length:=by simp;omega
 unfold attK
 rw [List.length_append]
 omega
def rotr (d m x:Int):Int:=bits .or .u32 (x / d) (x*m%4294967296)
theorem Xcx (k:IntKind) (x y:Int):bits .or k x y=bits .or k y x:=by
 simp only [bits,BitVec.or_comm]
def RotAt (k d m:Int):Prop:=(k=16∧d=65536∧m=65536)∨(k=12∧d=4096∧m=1048576)∨(k=8∧d=256∧m=16777216)∨(k=7∧d=128∧m=33554432)
set_option maxRecDepth 100000 in
theorem Xfl (x:Int) (k d m:Int) (hk:RotAt k d m) (w:World):
 Calls Tryz.prog 247 #[.int .u32 x,.int .i64 (-k)] w fun e w'=>e= .returned (.int .u32 (rotr d m x))∧w'=w:=by
 rcases hk with ⟨rfl,rfl,rfl⟩|⟨rfl,rfl,rfl⟩|⟨rfl,rfl,rfl⟩|⟨rfl,rfl,rfl⟩
 ·have e1:IntKind.u64.wrap (-16)=18446744073709551600:=by decide
  have e2:bits .and .u64 18446744073709551600 31=16:=by decide
  go_enter Tryz.func247,Tryz.ntmps247
  go_wp2
  go_ret
  exact ⟨Xal (Xcx _ _ _),rfl⟩
 ·have e1:IntKind.u64.wrap (-12)=18446744073709551604:=by decide
  have e2:bits .and .u64 18446744073709551604 31=20:=by decide
  go_enter Tryz.func247,Tryz.ntmps247
  go_wp2
  go_ret
  exact ⟨Xal (Xcx _ _ _),rfl⟩
 ·have e1:IntKind.u64.wrap (-8)=18446744073709551608:=by decide
  have e2:bits .and .u64 18446744073709551608 31=24:=by decide
  go_enter Tryz.func247,Tryz.ntmps247
  go_wp2
  go_ret
  exact ⟨Xal (Xcx _ _ _),rfl⟩
 ·have e1:IntKind.u64.wrap (-7)=18446744073709551609:=by decide
  have e2:bits .and .u64 18446744073709551609 31=25:=by decide
  go_enter Tryz.func247,Tryz.ntmps247
  go_wp2
  go_ret
  exact ⟨Xal (Xcx _ _ _),rfl⟩
set_option maxRecDepth 100000 in
theorem Xkk (x:Int) (k d m:Int) (hk:RotAt k d m) (w:World):
 Calls Tryz.prog 251 #[.int .u32 x,.int .u64 k] w fun e w'=>e= .returned (.int .u32 (rotr d m x))∧w'=w:=by
 rcases hk with ⟨rfl,rfl,rfl⟩|⟨rfl,rfl,rfl⟩|⟨rfl,rfl,rfl⟩|⟨rfl,rfl,rfl⟩
 all_goals
  go_enter Tryz.func251,Tryz.ntmps251
  go_wp2
  go_ret
  exact ⟨Xal rfl,rfl⟩
def row (l:List Int):Array Value:=(l.map fun x=>Value.int .u32 x).toArray
@[simp] theorem row_size (l:List Int):(row l).size=l.length:=by simp [row]
theorem Xa8 {l:List Int} {i:Nat} (h:i<l.length):(row l)[i]? =some (.int .u32 (l.getD i 0)):=by
 simp [row,List.getD,List.getElem?_eq_getElem h]
theorem Xv6 (l:List Int) (i:Nat) (v:Int):(row l).setIfInBounds i (.int .u32 v)=row (l.set i v):=by
 simp [row,List.map_set]
theorem heap_setCell {w:World} {b i:Nat} {l:List Int} {t:TypeId} {f:Nat × Nat} (v:Int) (h:w.heap[b]? =some (.cells (row l) t f)):(w.setCell ⟨b,i,none⟩ (.int .u32 v)).heap[b]? =some (.cells (row (l.set i v)) t f):=by
 unfold World.setCell
 rw [Array.getElem?_modify,if_pos rfl,h]
 simp [Xv6]
theorem Xb9 (w:World) (a:Addr) (u:Value):w.grownBy (w.setCell a u) (some a.block):=
 ⟨rfl,rfl,rfl,by simp [World.setCell],fun k _ hne=>Below.heap_setCell _ _ _ _ (fun e=>hne (by rw [e]))⟩
theorem Xm7 {B:Nat} {w w':World} {r:Option Nat} (h:Below B w w') (hB:w.heap.size≤B):w.grownBy w' r:=
 ⟨h.os,h.tape,h.output,h.size,fun k hk _=>h.block k (by omega)⟩
theorem Xdk {w w1 w2:World} {r:Option Nat} (h:w.grownBy w1 r) (k:w1.grownBy w2 r):w.grownBy w2 r:=
 ⟨k.os.trans h.os,k.tape.trans h.tape,k.output.trans h.output,Nat.le_trans h.size k.size,fun j hj hne=>(k.block j (Nat.lt_of_lt_of_le hj h.size) hne).trans (h.block j hj hne)⟩
theorem Xpk {w w':World} {r:Option Nat} (h:w.grownBy w' r):w.grownBy w'.drew r:=⟨h.os,h.tape,h.output,h.size,h.block⟩
def mixW (a b c d x y:Int):Int × Int × Int × Int:=
 let a1:=(a+(b+x))%4294967296
 let d1:=rotr 65536 65536 (bits .xor .u32 d a1)
 let c1:=(c+d1)%4294967296
 let b1:=rotr 4096 1048576 (bits .xor .u32 b c1)
 let a2:=(a1+(b1+y))%4294967296
 let d2:=rotr 256 16777216 (bits .xor .u32 d1 a2)
 let c2:=(c1+d2)%4294967296
 (a2,rotr 128 33554432 (bits .xor .u32 b1 c2),c2,d2)
def mixP (l:List Int) (a b c d:Nat) (x y:Int):List Int:=
 let r:=mixW (l.getD a 0) (l.getD b 0) (l.getD c 0) (l.getD d 0) x y
 (((l.set a r.1).set b r.2.1).set c r.2.2.1).set d r.2.2.2
theorem Xeo (l:List Int) (a b c d:Nat) (x y:Int):(mixP l a b c d x y).length=l.length:=by simp [mixP]
set_option maxRecDepth 100000 in
set_option maxHeartbeats 1000000 in
theorem Xsb (b:Nat) (l:List Int) (t:TypeId) (qa qb qc qd:Nat) (x y:Int) (w:World) (hV:w.heap[b]? =some (.cells (row l) t (0,0))) (hz:l.length=16)
 (h1:qa<16) (h2:qb<16) (h3:qc<16) (h4:qd<16) (hab:qa≠qb) (hac:qa≠qc) (had:qa≠qd) (hbc:qb≠qc) (hbd:qb≠qd) (hcd:qc≠qd):
 Calls Tryz.prog 204 #[.pointer (some ⟨b,0,none⟩),.agg #[.int .i64 qa,.int .i64 qb,.int .i64 qc,.int .i64 qd],.int .u32 x,.int .u32 y] w fun e w'=>e= .returned (.tuple #[])∧w.grownBy w' (some b)∧w'.heap[b]? =some (.cells (row (mixP l qa qb qc qd x y)) t (0,0)):=by
 have ha:=Xa8 (l:=l) (i:=qa) (by omega)
 have hb:=Xa8 (l:=l) (i:=qb) (by omega)
 have hc:=Xa8 (l:=l) (i:=qc) (by omega)
 have hd:=Xa8 (l:=l) (i:=qd) (by omega)
 obtain ⟨va,eva⟩:∃va,l.getD qa 0=va:=⟨_,rfl⟩
 obtain ⟨vb,evb⟩:∃vb,l.getD qb 0=vb:=⟨_,rfl⟩
 obtain ⟨vc,evc⟩:∃vc,l.getD qc 0=vc:=⟨_,rfl⟩
 obtain ⟨vd,evd⟩:∃vd,l.getD qd 0=vd:=⟨_,rfl⟩
 have Hm:=Qh (show mixP l qa qb qc qd x y=(((l.set qa (mixW va vb vc vd x y).1).set qb (mixW va vb vc vd x y).2.1).set qc (mixW va vb vc vd x y).2.2.1).set qd (mixW va vb vc vd x y).2.2.2 by rw [mixP,eva,evb,evc,evd])
 rw [eva] at ha
 rw [evb] at hb
 rw [evc] at hc
 rw [evd] at hd
 clear eva evb evc evd
 generalize hVl:row l=V at hV ha hb hc hd
 have HVl:=Qh hVl;clear hVl hz
 have ca:=cell_of_row w b qa _ _ _ hV
 have cb:=cell_of_row w b qb _ _ _ hV
 have cc:=cell_of_row w b qc _ _ _ hV
 have cd:=cell_of_row w b qd _ _ _ hV
 rw [ha] at ca
 rw [hb] at cb
 rw [hc] at cc
 rw [hd] at cd
 have ca':=cell_regrown (Xai (.cells #[.int .i64 qa,.int .i64 qb,.int .i64 qc,.int .i64 qd] 226) ca)
 have cb':=cell_regrown (Xai (.cells #[.int .i64 qa,.int .i64 qb,.int .i64 qc,.int .i64 qd] 226) cb)
 have cc':=cell_regrown (Xai (.cells #[.int .i64 qa,.int .i64 qb,.int .i64 qc,.int .i64 qd] 226) cc)
 have cd':=cell_regrown (Xai (.cells #[.int .i64 qa,.int .i64 qb,.int .i64 qc,.int .i64 qd] 226) cd)
 have box0:=cell_regrown (show (w.alloc (.cells #[.int .i64 qa,.int .i64 qb,.int .i64 qc,.int .i64 qd] 226)).cell? ⟨w.heap.size,0,none⟩=some (.int .i64 qa) by simp)
 have box1:=cell_regrown (show (w.alloc (.cells #[.int .i64 qa,.int .i64 qb,.int .i64 qc,.int .i64 qd] 226)).cell? ⟨w.heap.size,1,none⟩=some (.int .i64 qb) by simp)
 have box2:=cell_regrown (show (w.alloc (.cells #[.int .i64 qa,.int .i64 qb,.int .i64 qc,.int .i64 qd] 226)).cell? ⟨w.heap.size,2,none⟩=some (.int .i64 qc) by simp)
 have box3:=cell_regrown (show (w.alloc (.cells #[.int .i64 qa,.int .i64 qb,.int .i64 qc,.int .i64 qd] 226)).cell? ⟨w.heap.size,3,none⟩=some (.int .i64 qd) by simp)
 go_enter Tryz.func204,Tryz.ntmps204
 go_wp2_with fail
 refine wp_region_quiet_below (by kernel_rfl) (by kernel_rfl) ?_
 repeat (go_big_quiet_step ((fail)))
 refine wpQuiet_nil ?_
 intro w2 hwq
 have hb2:Below (w.alloc (.cells #[.int .i64 qa,.int .i64 qb,.int .i64 qc,.int .i64 qd] 226)).heap.size (w.alloc (.cells #[.int .i64 qa,.int .i64 qb,.int .i64 qc,.int .i64 qd] 226)) w2:=by
  obtain ⟨pq,rfl⟩:=hwq
  exact below_regrown _ _ _
 clear hwq
 obtain ⟨i0,i1,i2,i3⟩:w2.cell? ⟨w.heap.size,0,none⟩=some (.int .i64 qa)∧w2.cell? ⟨w.heap.size,1,none⟩=some (.int .i64 qb)∧w2.cell? ⟨w.heap.size,2,none⟩=some (.int .i64 qc)∧w2.cell? ⟨w.heap.size,3,none⟩=some (.int .i64 qd):=
  ⟨by rw [hb2.cell (by simp)];simp,by rw [hb2.cell (by simp)];simp,by rw [hb2.cell (by simp)];simp,by rw [hb2.cell (by simp)];simp⟩
 clear ca' cb' cc' cd' box0 box1 box2 box3
 have hbw:b<w.heap.size:=by simpa using block_lt_of_cell ca
 have hbn:b≠w.heap.size:=by omega
 have hV2:w2.heap[b]? =some (.cells V t (0,0)):=(hb2.block b (by have:=block_lt_of_cell ca;simp;simp at this;omega)).trans ((Below.heap_alloc w _ b (by have:=block_lt_of_cell ca;simpa using this)).trans hV)
 have Hg:=Qh (show w.grownBy w2 (some b) from Xm7 (((Qb _ w).alloc (Qn _) _).trans (hb2.mono (by simp))) (Qn _))
 clear hb2
 go_wp2_with fail
 refine (Xfl _ 16 65536 65536 (.inl ⟨rfl,rfl,rfl⟩) _).mono ?_
 rintro e w' ⟨rfl,rfl⟩
 generalize hD1:rotr 65536 65536 (bits .xor .u32 vd ((va+(vb+x))%4294967296))=D1
 have HD1:=Qh hD1;clear hD1
 go_wp2_with fail
 refine (Xfl _ 12 4096 1048576 (.inr (.inl ⟨rfl,rfl,rfl⟩)) _).mono ?_
 rintro e w' ⟨rfl,rfl⟩
 generalize hB1:rotr 4096 1048576 (bits .xor .u32 vb ((vc+D1)%4294967296))=B1
 have HB1:=Qh hB1;clear hB1
 go_wp2_with fail
 refine (Xfl _ 8 256 16777216 (.inr (.inr (.inl ⟨rfl,rfl,rfl⟩))) _).mono ?_
 rintro e w' ⟨rfl,rfl⟩
 generalize hA2:(va+(vb+x)+(B1+y))%4294967296=A2
 have HA2:=Qh hA2;clear hA2
 generalize hD2:rotr 256 16777216 (bits .xor .u32 D1 A2)=D2
 have HD2:=Qh hD2;clear hD2
 go_wp2_with fail
 refine (Xfl _ 7 128 33554432 (.inr (.inr (.inr ⟨rfl,rfl,rfl⟩))) _).mono ?_
 rintro e w' ⟨rfl,rfl⟩
 generalize hC2:(vc+D1+D2)%4294967296=C2
 have HC2:=Qh hC2;clear hC2
 generalize hB2:rotr 128 33554432 (bits .xor .u32 B1 C2)=B2
 have HB2:=Qh hB2;clear hB2
 go_wp2_with fail
 clear ca cb cc cd
 have ca:=cell_of_row _ b qa _ _ _ hV2
 have cb:=cell_of_row _ b qb _ _ _ hV2
 have cc:=cell_of_row _ b qc _ _ _ hV2
 have cd:=cell_of_row _ b qd _ _ _ hV2
 rw [ha] at ca
 rw [hb] at cb
 rw [hc] at cc
 rw [hd] at cd
 have fa:=frozen_of_row _ b qa _ _ hV2
 have fb:=frozen_of_row _ b qb _ _ hV2
 have fc:=frozen_of_row _ b qc _ _ hV2
 have fd:=frozen_of_row _ b qd _ _ hV2
 have HV2:=Qh hV2
 have HV:=Qh hV
 clear hV2 hV ha hb hc hd
 rw [HA2.out,HC2.out]
 go_big_region
 go_end0
 have hm:mixW va vb vc vd x y=(A2,B2,C2,D2):=by
  have e1:(va+(vb+x)+(B1+y))%4294967296=((va+(vb+x))%4294967296+(B1+y))%4294967296:=by omega
  have e2:(vc+D1+D2)%4294967296=((vc+D1)%4294967296+D2)%4294967296:=by omega
  unfold mixW
  simp only [HD1.out,HB1.out,←e1,HA2.out,HD2.out,←e2,HC2.out,HB2.out]
 rw [Hm.out,hm]
 have hV2:=HV2.out
 rw [←HVl.out] at hV2
 refine ⟨rfl,Xdk Hg.out ?_,heap_setCell _ (heap_setCell _ (heap_setCell _ (heap_setCell _ hV2)))⟩
 exact Xpk (Xdk (Xdk (Xdk (Xb9 _ ⟨b,qa,none⟩ _) (Xb9 _ ⟨b,qb,none⟩ _)) (Xb9 _ ⟨b,qc,none⟩ _)) (Xb9 _ ⟨b,qd,none⟩ _))
def blkPerms:List Int:= [81985529216486895,16881918945140062035,13312731748010193300,8733003861693448440,10400822202260547645,3200383143768358425,14204332651957162635,15816291393287259690,8064173457993569445,11710614767857974480]
def blkQuads:List (Nat × Nat × Nat × Nat):= [(0,4,8,12),(1,5,9,13),(2,6,10,14),(3,7,11,15),(0,5,10,15),(1,6,11,12),(2,7,8,13),(3,4,9,14)]
def blkSigma:List (List Nat):= [[0,1,2,3,4,5,6,7,8,9,10,11,12,13,14,15],[14,10,4,8,9,15,13,6,1,12,0,2,11,7,5,3],[11,8,12,0,5,2,15,13,10,14,3,6,7,1,9,4],[7,9,3,1,13,12,11,14,2,6,5,10,4,0,15,8],[9,0,5,7,2,4,10,15,14,1,11,12,6,8,3,13],[2,12,6,10,0,11,8,3,4,13,7,5,15,14,1,9],[12,5,1,15,14,13,4,10,0,7,6,3,9,2,8,11],[13,11,7,14,12,1,3,9,5,0,15,4,8,6,2,10],[6,15,14,9,11,3,0,8,12,2,13,7,1,4,10,5],[10,2,8,4,7,6,1,5,15,11,9,14,3,12,13,0]]
def quad (k:Nat):Nat × Nat × Nat × Nat:=blkQuads.getD k (0,0,0,0)
def sigma (r i:Nat):Nat:=(blkSigma.getD r []).getD i 0
def permAt (r:Nat):Int:=blkPerms.getD r 0
def stepP (m:List Int) (r k:Nat) (v:List Int):List Int:=mixP v (quad k).1 (quad k).2.1 (quad k).2.2.1 (quad k).2.2.2 (m.getD (sigma r (2*k)) 0) (m.getD (sigma r (2*k+1)) 0)
def stepsP (m:List Int) (r:Nat):Nat→List Int→List Int
 |0,v=>v
 |k+1,v=>stepP m r k (stepsP m r k v)
def roundsP (m:List Int):Nat→List Int→List Int
 |0,v=>v
 |r+1,v=>stepsP m r 8 (roundsP m r v)
theorem Xkb (m:List Int) (r k:Nat) (v:List Int):(stepP m r k v).length=v.length:=Xeo ..
theorem Xbm (m:List Int) (r:Nat):∀(k:Nat) (v:List Int),(stepsP m r k v).length=v.length
 |0,_=>rfl
 |k+1,v=>by rw [stepsP,Xkb,Xbm m r k v]
theorem Xa7 (m:List Int):∀(r:Nat) (v:List Int),(roundsP m r v).length=v.length
 |0,_=>rfl
 |r+1,v=>by rw [roundsP,Xbm,Xa7 m r v]
theorem Xjd (k:Nat) (hk:k<8):(quad k).1<16∧(quad k).2.1<16∧(quad k).2.2.1<16∧(quad k).2.2.2<16∧(quad k).1≠(quad k).2.1∧(quad k).1≠(quad k).2.2.1∧(quad k).1≠(quad k).2.2.2∧(quad k).2.1≠(quad k).2.2.1∧(quad k).2.1≠(quad k).2.2.2∧(quad k).2.2.1≠(quad k).2.2.2:=by
 revert k;decide
theorem Xcr (r i:Nat) (hr:r<10) (hi:i<16):sigma r i<16:=by
 revert i;revert r;decide
theorem Xku (r k:Nat) (hr:r<10) (hk:k<8):bits .and .u64 (permAt r / 2 ^ (60-8*k)) 15=(sigma r (2*k):Nat)∧bits .and .u64 (permAt r / 2 ^ (56-8*k)) 15=(sigma r (2*k+1):Nat):=by
 revert k;revert r;decide
def permRow:Array Value:=(blkPerms.map fun x=>Value.int .u64 x).toArray
def quadV (q:Nat × Nat × Nat × Nat):Value:= .agg #[.int .i64 q.1,.int .i64 q.2.1,.int .i64 q.2.2.1,.int .i64 q.2.2.2]
def quadRow:Array Value:= #[.int .i64 0,.int .i64 4,.int .i64 8,.int .i64 12,.int .i64 1,.int .i64 5,.int .i64 9,.int .i64 13,.int .i64 2,.int .i64 6,.int .i64 10,.int .i64 14,.int .i64 3,.int .i64 7,.int .i64 11,.int .i64 15,.int .i64 0,.int .i64 5,.int .i64 10,.int .i64 15,.int .i64 1,.int .i64 6,.int .i64 11,.int .i64 12,.int .i64 2,.int .i64 7,.int .i64 8,.int .i64 13,.int .i64 3,.int .i64 4,.int .i64 9,.int .i64 14]
def quadZero:Array Value:= #[.int .i64 0,.int .i64 0,.int .i64 0,.int .i64 0,.int .i64 0,.int .i64 0,.int .i64 0,.int .i64 0,.int .i64 0,.int .i64 0,.int .i64 0,.int .i64 0,.int .i64 0,.int .i64 0,.int .i64 0,.int .i64 0,.int .i64 0,.int .i64 0,.int .i64 0,.int .i64 0,.int .i64 0,.int .i64 0,.int .i64 0,.int .i64 0,.int .i64 0,.int .i64 0,.int .i64 0,.int .i64 0,.int .i64 0,.int .i64 0,.int .i64 0,.int .i64 0]
theorem Xih (k:Nat) (hk:k<8):Value.agg (quadRow.extract (k*4) (k*4+4))=quadV (quad k):=by
 match k,hk with
 |0,_=>rfl
 |1,_=>rfl
 |2,_=>rfl
 |3,_=>rfl
 |4,_=>rfl
 |5,_=>rfl
 |6,_=>rfl
 |7,_=>rfl
theorem Xil (r:Nat) (hr:r<10):permRow[r]? =some (.int .u64 (permAt r)):=by
 have h:r<blkPerms.length:=hr
 simp [permRow,permAt,List.getD,List.getElem?_eq_getElem h]
theorem Xdf {P:Program} {t e:TypeId} {n:Nat} {cs:Array Value} {v:Value} {d:TypeDesc} (h:P.underlying t=some (.array n e)) (he:P.underlying e=some d) (hd:(match d with| .struct _| .array _ _=>true|_=>false)=false) (hz:(P.info? e).map (·.size)=some 1)
 (i:Nat) (hi:i<n) (hv:cs[i]? =some v) (W:World):(Instr.index t (.agg cs) (.int .i64 (i:Int))).run P W= .ok v W:=by
 cases hq:P.info? e with
 |none=>simp [hq] at hz
 |some x=>
  have hs:x.size=1:=by simpa [hq] using hz
  have hagg:(isAgg e).run P W= .ok false W:=by
   unfold isAgg
   rw [Sem.run_bind,run_underlying he W]
   cases d<;>simp_all
  simp [Instr.index,run_underlying h,asIntOf,hi,go_sem,sizeOf,typeInfo,hq,hs,hagg,hv]
theorem Xe2 {P:Program} {t e:TypeId} {n m:Nat} {cs:Array Value} {d:TypeDesc} (h:P.underlying t=some (.array n e)) (he:P.underlying e=some d) (hd:(match d with| .struct _| .array _ _=>true|_=>false)=true) (hz:(P.info? e).map (·.size)=some m)
 (i:Nat) (hi:i<n) (W:World):(Instr.index t (.agg cs) (.int .i64 (i:Int))).run P W= .ok (.agg (cs.extract (i*m) (i*m+m))) W:=by
 cases hq:P.info? e with
 |none=>simp [hq] at hz
 |some x=>
  have hs:x.size=m:=by simpa [hq] using hz
  have hagg:(isAgg e).run P W= .ok true W:=by
   unfold isAgg
   rw [Sem.run_bind,run_underlying he W]
   cases d<;>simp_all
  simp [Instr.index,run_underlying h,asIntOf,hi,go_sem,sizeOf,typeInfo,hq,hs,hagg]
set_option maxRecDepth 100000 in
theorem Xdo (w:World):Calls Tryz.prog 202 #[] w fun e w'=>e= .returned (.agg permRow)∧Below w.heap.size w w':=by
 go_enter Tryz.func202,Tryz.ntmps202
 go_wp2
 refine bodyPost_ret (results_cell_row rfl _ _ w.heap.size _ permRow (0,0) _ rfl (heap_alloc_new w (.cells permRow 224)) Tryz.underlying224 rfl (by kernel_rfl)) rfl ⟨rfl,?_⟩
 exact (Qb _ _).alloc (Qn _) _
set_option maxRecDepth 100000 in
theorem Xl1 (w:World):Calls Tryz.prog 203 #[] w fun e w'=>e= .returned (.agg quadRow)∧Below w.heap.size w w':=by
 have hz:=heap_alloc_new w (.cells quadZero 227)
 go_enter Tryz.func203,Tryz.ntmps203
 go_wp2_with (refine wpList_store_row rfl 227 _ _ rfl w.heap.size quadRow rfl rfl 227 quadZero hz (by kernel_rfl) rfl (by kernel_rfl) ?_)
 refine bodyPost_ret (results_cell_row rfl _ _ w.heap.size _ quadRow (0,0) _ rfl (setRow_heap _ _ _ _ _ _ hz) Tryz.underlying227 rfl (by kernel_rfl)) rfl ⟨rfl,?_⟩
 exact below_setRow ((Qb _ _).alloc (Qn _) _) (Qn _) _
end Go.Proofs.YtjdednajelommaaGreatDoor
