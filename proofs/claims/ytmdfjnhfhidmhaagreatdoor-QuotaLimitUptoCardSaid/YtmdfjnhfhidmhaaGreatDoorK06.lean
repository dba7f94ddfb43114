/-
  Walks and laws that the claim's theorem uses: texts EnE EnF EnG EnH ShP ShQ PbA, joined; comments out. Conditions: as each theorem says.
-/
import Derived.Test.YtmdfjnhfhidmhaaGreatDoorK05
import Derived.Shelf.Strings.OnBuilder
import Derived.Shelf.Small.Strs
import Derived.Shelf.GgClosure.StringsIndexFuncTop
import Derived.Shelf.Strings.Split
import Derived.Shelf.Slices.Equal
import Derived.Shelf.Slices.Empties2
import Derived.Test.YtmdfjnhfhidmhaaGreatDoorProg
import Derived.Shelf.LaysM
import Derived.Shelf.LaysC
import Derived.Shelf.Strconv.Itoa3
import Derived.Shelf.Strconv.AtoiAll
import Derived.Shelf.Strconv.ErrVarAll
set_option linter.all false
namespace Go.Proofs.YtmdfjnhfhidmhaaGreatDoor
open Go.RowKit
theorem below_setRow {B:Nat} {w w':World} {g:Nat} (h:Below B w w') (hg:B≤g) (cs:Array Value):Below B w (w'.setRow g cs):=
 ⟨h.os,h.tape,h.output,by simpa using h.size,fun k hk=>by rw [setRow_other _ _ _ _ (by omega)];exact h.block k hk⟩
def zeroE:Ent:=⟨0,[],[],[],0,[],[]⟩
def getE (t:List Ent) (p:Bytes):Ent × Bool:=match getT t p with|some x=>(x,true)|none=>(zeroE,false)
def RetG (I:IH) (w:World) (x:Ent × Bool) (e:Ending) (w':World):Prop:=
 ∃va vx,e= .returned (.tuple #[entV x.1 va vx,.bool x.2])∧RdS tAt I va x.1.attrs∧RdS tXt I vx x.1.exts∧Below w.heap.size w w'
abbrev entRow (x:Ent) (va vx:Value):Array Value:= #[.int .i64 x.kind,S x.path,va,S x.target,.int .i64 x.size,S x.digest,vx]
abbrev zeroRow:Array Value:= #[.int .i64 0,.string ⟨#[]⟩,.slice none 0 0,.string ⟨#[]⟩,.int .i64 0,.string ⟨#[]⟩,.slice none 0 0]
theorem Xm6 {x:Ent} {va vx:Value} {I:IH} (h1:RdS tAt I va x.attrs) (h2:RdS tXt I vx x.exts):(entRow x va vx).all (·.oneCell')=true:=by
 have e1:=h1.one
 have e2:=h2.one
 simp [entRow,e1,e2]
 exact ⟨rfl,rfl,rfl,rfl,rfl⟩
theorem Xm8 (t:List Ent) (p:Bytes) (hp:p≠ []):dirErr t p=if (getE t p).2=false then 9 else if (getE t p).1.kind≠2 then 10 else 0:=by
 unfold dirErr getE
 rw [if_neg hp]
 cases getT t p<;>simp
theorem Xmi (a b:Xt) (W:World):(binOp .neq 109 (.agg #[.int .i64 a.s,.int .i64 a.o,.int .i64 a.n]) (.agg #[.int .i64 b.s,.int .i64 b.o,.int .i64 b.n])).run Tryz.prog W= .ok (.bool (!decide (a=b))) W:=by
 rw [Xcb _ _ [(3,0,false),(3,1,false),(3,2,false)] W (by kernel_rfl) (by kernel_rfl) (by kernel_rfl)]
 obtain ⟨a1,a2,a3⟩:=a
 obtain ⟨b1,b2,b3⟩:=b
 simp [go_sem]
 by_cases h1:a1=b1<;>by_cases h2:a2=b2<;>by_cases h3:a3=b3<;>simp [h1,h2,h3]
set_option maxRecDepth 100000 in
set_option maxHeartbeats 1000000 in
theorem Xkc (I:IH) (a b:Ent) (va vx vb vy:Value) (hva:RdS tAt I va a.attrs) (hvx:RdS tXt I vx a.exts) (hvb:RdS tAt I vb b.attrs) (hvy:RdS tXt I vy b.exts) (w:World) (hw:Ok I w):
 Calls Tryz.prog 43 #[entV a va vx,entV b vb vy] w fun e w'=>e= .returned (.bool (decide (a=b)))∧Below w.heap.size w w':=by
 have hl1:=hvx.len_le
 have hl2:=hvy.len_le
 obtain ⟨aa,ca,rfl,_,_,_⟩:=id hva
 obtain ⟨ax,cx,rfl,hcx,hcxm,_⟩:=id hvx
 obtain ⟨aa2,ca2,rfl,_,_,_⟩:=id hvb
 obtain ⟨ax2,cx2,rfl,hcy,hcym,_⟩:=id hvy
 have Hsm:=Qh (fun w hw=>Xmp I _ _ a.attrs b.attrs hva hvb w hw)
 have Hvx:=Qh hvx
 have Hvy:=Qh hvy
 clear hva hvx hvb hvy
 by_cases h1:a.kind=b.kind
 case neg=>
  have k1:((a.kind:Int) != b.kind)=true:=by simpa using h1
  have Hn:=Qh (show decide (a=b)=false from Qf fun e=>h1 (by rw [e]))
  clear h1
  go_enter Tryz.func43,Tryz.ntmps43
  go_wp2
  go_ret
  exact ⟨Xay Hn.out.symm,((Qb _ _).alloc (Qn _) _).alloc (by simp) _⟩
 have k1:((a.kind:Int) != b.kind)=false:=by simpa using h1
 by_cases h2:a.path=b.path
 case neg=>
  have k2:(a.path != b.path)=true:=by simpa using h2
  have k2':(a.path==b.path)=false:=by simpa using h2
  have Hn:=Qh (show decide (a=b)=false from Qf fun e=>h2 (by rw [e]))
  clear h2 h1
  go_enter Tryz.func43,Tryz.ntmps43
  go_wp2
  go_ret
  exact ⟨Xay Hn.out.symm,((Qb _ _).alloc (Qn _) _).alloc (by simp) _⟩
 have k2:(a.path != b.path)=false:=by simpa using h2
 have k2':(a.path==b.path)=true:=by simpa using h2
 by_cases h3:a.attrs=b.attrs
 case neg=>
  have Hn:=Qh (show decide (a=b)=false from Qf fun e=>h3 (by rw [e]))
  rw [Qf h3] at Hsm
  clear h3 h2 h1
  go_enter Tryz.func43,Tryz.ntmps43
  go_wp2_with fail
  refine (Hsm.out _ ((hw.alloc _).alloc _)).mono ?_
  rintro e w1 ⟨rfl,hb1⟩
  have hb1':Below w.heap.size w w1:=(((Qb _ _).alloc (Qn _) _).alloc (by simp) _).trans (hb1.mono (by simp;omega))
  have hB:=entB (n:=w.heap.size+1) (e:=b) (by simp) hb1
  have hA:=(EntB.past (entB (e:=a) (t:=81) rfl (Qb _ _)) (.cells #[.int .i64 b.kind,S b.path,.slice aa2 b.attrs.length ca2,S b.target,.int .i64 b.size,S b.digest,.slice ax2 b.exts.length cx2] 81)).thru hb1
  obtain ⟨c0,c1,c2,c3,c4,c5,c6⟩:=hA
  obtain ⟨d0,d1,d2,d3,d4,d5,d6⟩:=hB
  clear hb1
  go_wp2
  go_ret
  exact ⟨Xay Hn.out.symm,hb1'⟩
 rw [Qt h3] at Hsm
 by_cases h4:a.target=b.target
 case neg=>
  have k4:(a.target != b.target)=true:=by simpa using h4
  have k4':(a.target==b.target)=false:=by simpa using h4
  have Hn:=Qh (show decide (a=b)=false from Qf fun e=>h4 (by rw [e]))
  clear h4 h3 h2 h1
  go_enter Tryz.func43,Tryz.ntmps43
  go_wp2_with fail
  refine (Hsm.out _ ((hw.alloc _).alloc _)).mono ?_
  rintro e w1 ⟨rfl,hb1⟩
  have hb1':Below w.heap.size w w1:=(((Qb _ _).alloc (Qn _) _).alloc (by simp) _).trans (hb1.mono (by simp;omega))
  have hB:=entB (n:=w.heap.size+1) (e:=b) (by simp) hb1
  have hA:=(EntB.past (entB (e:=a) (t:=81) rfl (Qb _ _)) (.cells #[.int .i64 b.kind,S b.path,.slice aa2 b.attrs.length ca2,S b.target,.int .i64 b.size,S b.digest,.slice ax2 b.exts.length cx2] 81)).thru hb1
  obtain ⟨c0,c1,c2,c3,c4,c5,c6⟩:=hA
  obtain ⟨d0,d1,d2,d3,d4,d5,d6⟩:=hB
  clear hb1
  go_wp2
  go_ret
  exact ⟨Xay Hn.out.symm,hb1'⟩
 have k4:(a.target != b.target)=false:=by simpa using h4
 have k4':(a.target==b.target)=true:=by simpa using h4
 by_cases h5:a.size=b.size
 case neg=>
  have k5:((a.size:Int) != b.size)=true:=by simpa using h5
  have Hn:=Qh (show decide (a=b)=false from Qf fun e=>h5 (by rw [e]))
  clear h5 h4 h3 h2 h1
  go_enter Tryz.func43,Tryz.ntmps43
  go_wp2_with fail
  refine (Hsm.out _ ((hw.alloc _).alloc _)).mono ?_
  rintro e w1 ⟨rfl,hb1⟩
  have hb1':Below w.heap.size w w1:=(((Qb _ _).alloc (Qn _) _).alloc (by simp) _).trans (hb1.mono (by simp;omega))
  have hB:=entB (n:=w.heap.size+1) (e:=b) (by simp) hb1
  have hA:=(EntB.past (entB (e:=a) (t:=81) rfl (Qb _ _)) (.cells #[.int .i64 b.kind,S b.path,.slice aa2 b.attrs.length ca2,S b.target,.int .i64 b.size,S b.digest,.slice ax2 b.exts.length cx2] 81)).thru hb1
  obtain ⟨c0,c1,c2,c3,c4,c5,c6⟩:=hA
  obtain ⟨d0,d1,d2,d3,d4,d5,d6⟩:=hB
  clear hb1
  go_wp2
  go_ret
  exact ⟨Xay Hn.out.symm,hb1'⟩
 have k5:((a.size:Int) != b.size)=false:=by simpa using h5
 by_cases h6:a.digest=b.digest
 case neg=>
  have k6:(a.digest != b.digest)=true:=by simpa using h6
  have k6':(a.digest==b.digest)=false:=by simpa using h6
  have Hn:=Qh (show decide (a=b)=false from Qf fun e=>h6 (by rw [e]))
  clear h6 h5 h4 h3 h2 h1
  go_enter Tryz.func43,Tryz.ntmps43
  go_wp2_with fail
  refine (Hsm.out _ ((hw.alloc _).alloc _)).mono ?_
  rintro e w1 ⟨rfl,hb1⟩
  have hb1':Below w.heap.size w w1:=(((Qb _ _).alloc (Qn _) _).alloc (by simp) _).trans (hb1.mono (by simp;omega))
  have hB:=entB (n:=w.heap.size+1) (e:=b) (by simp) hb1
  have hA:=(EntB.past (entB (e:=a) (t:=81) rfl (Qb _ _)) (.cells #[.int .i64 b.kind,S b.path,.slice aa2 b.attrs.length ca2,S b.target,.int .i64 b.size,S b.digest,.slice ax2 b.exts.length cx2] 81)).thru hb1
  obtain ⟨c0,c1,c2,c3,c4,c5,c6⟩:=hA
  obtain ⟨d0,d1,d2,d3,d4,d5,d6⟩:=hB
  clear hb1
  go_wp2
  go_ret
  exact ⟨Xay Hn.out.symm,hb1'⟩
 have k6:(a.digest != b.digest)=false:=by simpa using h6
 have k6':(a.digest==b.digest)=true:=by simpa using h6
 have Hab:=Qh (show decide (a=b)=decide (a.exts=b.exts) by
  rw [decide_eq_decide]
  constructor
  ·intro e;rw [e]
  ·intro e
   cases a
   cases b
   simp_all)
 clear h6 h5 h4 h3 h2 h1
 by_cases hll:a.exts.length=b.exts.length
 case neg=>
  have k7:((a.exts.length:Int) != (b.exts.length:Int))=true:=by rw [bne_iff_ne];omega
  have Hn:=Qh (show decide (a=b)=false by rw [Hab.out,Qf];intro e;exact hll (by rw [e]))
  clear hll
  go_enter Tryz.func43,Tryz.ntmps43
  go_wp2_with fail
  refine (Hsm.out _ ((hw.alloc _).alloc _)).mono ?_
  rintro e w1 ⟨rfl,hb1⟩
  have hb1':Below w.heap.size w w1:=(((Qb _ _).alloc (Qn _) _).alloc (by simp) _).trans (hb1.mono (by simp;omega))
  have hB:=entB (n:=w.heap.size+1) (e:=b) (by simp) hb1
  have hA:=(EntB.past (entB (e:=a) (t:=81) rfl (Qb _ _)) (.cells #[.int .i64 b.kind,S b.path,.slice aa2 b.attrs.length ca2,S b.target,.int .i64 b.size,S b.digest,.slice ax2 b.exts.length cx2] 81)).thru hb1
  obtain ⟨c0,c1,c2,c3,c4,c5,c6⟩:=hA
  obtain ⟨d0,d1,d2,d3,d4,d5,d6⟩:=hB
  clear hb1
  go_wp2
  go_ret
  exact ⟨Xay Hn.out.symm,hb1'⟩
 have k7:((a.exts.length:Int) != (b.exts.length:Int))=false:=by rw [hll];simp
 have Hll:=Qh hll
 clear hll
 go_enter Tryz.func43,Tryz.ntmps43
 go_wp2_with fail
 refine (Hsm.out _ ((hw.alloc _).alloc _)).mono ?_
 rintro e w1 ⟨rfl,hb1⟩
 have hb1':Below w.heap.size w w1:=(((Qb _ _).alloc (Qn _) _).alloc (by simp) _).trans (hb1.mono (by simp;omega))
 have hB:=entB (n:=w.heap.size+1) (e:=b) (by simp) hb1
 have hA:=(EntB.past (entB (e:=a) (t:=81) rfl (Qb _ _)) (.cells #[.int .i64 b.kind,S b.path,.slice aa2 b.attrs.length ca2,S b.target,.int .i64 b.size,S b.digest,.slice ax2 b.exts.length cx2] 81)).thru hb1
 obtain ⟨c0,c1,c2,c3,c4,c5,c6⟩:=hA
 obtain ⟨d0,d1,d2,d3,d4,d5,d6⟩:=hB
 clear hb1
 have HA:=Qh (⟨c0,c1,c2,c3,c4,c5,c6⟩:EntB w1 w.heap.size a _ _)
 have HB:=Qh (⟨d0,d1,d2,d3,d4,d5,d6⟩:EntB w1 _ b _ _)
 have hok1:Ok I w1:=hw.below (Qn _) hb1'
 go_wp2_with fail
 clear c0 c1 c2 c3 c4 c5 c6 d0 d1 d2 d3 d4 d5 d6
 go_loopw [5] (fun s5 wr=> ∃k:Nat,k≤a.exts.length∧s5= .int .i64 k∧a.exts.take k=b.exts.take k∧Below w1.heap.size w1 wr) (fun i _=>a.exts.length-(intOf i).toNat)
 case atStart=>exact ⟨0,Nat.zero_le _,rfl,rfl,Qb _ _⟩
 case round=>
  obtain ⟨k,hk,rfl,hr,hb⟩:=hrel
  have Hr:=Qh hr;clear hr
  have hwr:Ok I wr:=hok1.below (Qn _) hb
  have c6:=(HA.out.thru hb).c6
  have d6:=(HB.out.thru hb).c6
  by_cases hlt:k<a.exts.length
  ·have hlt2:k<b.exts.length:=by rw [←Hll.out];exact hlt
   obtain ⟨p,bb,off,cap',hp,hvv,p0,p1,p2⟩:=xtAt Hvx.out hwr k hlt
   cases hvv
   obtain ⟨q,b',off',cap'',hq,hvv,q0,q1,q2⟩:=xtAt Hvy.out hwr k hlt2
   cases hvv
   have Hp:=Qh hp
   have Hq:=Qh hq
   have x0:=cell_regrown p0
   have x1:=cell_regrown p1
   have x2:=cell_regrown p2
   have y0:=cell_regrown q0
   have y1:=cell_regrown q1
   have y2:=cell_regrown q2
   have e6:=cell_regrown c6
   have f6:=cell_regrown d6
   clear hp hq
   have hneq:=Xmi p q
   by_cases hpq:p=q
   ·rw [Qt hpq] at hneq
    have Hn:=Qh (show a.exts.take (k+1)=b.exts.take (k+1) by rw [List.take_succ_eq_append_getElem hlt,List.take_succ_eq_append_getElem hlt2,Hr.out,Hp.out,Hq.out,hpq])
    clear hpq
    go_wp2_with fail
    refine wp_region_quiet_below (by kernel_rfl) (by kernel_rfl) ?_
    repeat (go_big_quiet_step ((fail)))
    refine wpQuiet_nil ?_
    intro w2 hwq
    have hb2:Below (wr).heap.size (wr) w2:=by
     obtain ⟨pq,rfl⟩:=hwq
     exact below_regrown _ _ _
    clear hwq
    go_wp2
    go_roundw
    case rel=>exact ⟨k+1,by omega,by go_num,Hn.out,hb.trans (hb2.mono hb.size)⟩
    case measure=>simp [intOf];omega
   ·rw [Qf hpq] at hneq
    have Hn:=Qh (show decide (a=b)=false by
     rw [Hab.out,Qf]
     intro h
     apply hpq
     rw [←Hp.out,←Hq.out]
     simp [h])
    clear hpq
    go_wp2_with fail
    refine wp_region_quiet_below (by kernel_rfl) (by kernel_rfl) ?_
    repeat (go_big_quiet_step ((fail)))
    refine wpQuiet_nil ?_
    intro w2 hwq
    have hb2:Below (wr).heap.size (wr) w2:=by
     obtain ⟨pq,rfl⟩:=hwq
     exact below_regrown _ _ _
    clear hwq
    go_wp2
    go_ret
    exact ⟨Xay Hn.out.symm,hb1'.trans ((hb.trans (hb2.mono hb.size)).mono hb1'.size)⟩
  ·have Hn:=Qh (show decide (a=b)=true by
    have:=Hr.out
    rw [List.take_of_length_le (by omega),List.take_of_length_le (by rw [←Hll.out];omega)] at this
    rw [Hab.out,Qt this])
   go_wp2
   go_ret
   exact ⟨Xay Hn.out.symm,hb1'.trans (hb.mono hb1'.size)⟩
abbrev AllE (t:List Ent):Prop:= ∀x∈t,x.Wf
def chkTRFrom (t:List Ent):Option Ent→List Ent→Int
 |_,[]=>0
 |q,x::l=>if entErrR x≠0 then entErrR x else if x.kind≠1∧x.kind≠2∧x.kind≠3 then 10 else if (q.any fun y=> !(ltP (els y.path) (els x.path))) then 14 else if dirErr t (upP x.path)≠0 then dirErr t (upP x.path) else chkTRFrom t (some x) l
def chkTR (t:List Ent):Int:=chkTRFrom t none t
theorem Xri {p d:Bytes} (h:ltP (els p) (els d)=true):cmpP p d= -1:=by rw [cmpP,h];rfl
theorem Xrj {p d:Bytes} (h:ltP (els p) (els d)=false):cmpP p d=0∨cmpP p d=1:=by
 rw [cmpP,h]
 cases ltP (els d) (els p)<;>simp
theorem Xtb {s:Bytes} (h:pathErr s=0) (hs:s≠ []):parP s=(upP s,0):=by rw [parP,if_neg (by omega),if_neg hs]
end Go.Proofs.YtmdfjnhfhidmhaaGreatDoor
namespace Go.Proofs
open Go.Shelf
def Tryz.lays156_ren:Go.Shelf.Ren:=⟨fun|156=>138|165=>181|166=>152|169=>156|240=>200|241=>222|276=>240|277=>252|n=>n,fun|31=>126|9=>9|3=>3|4=>4|0=>0|20=>20|72=>203|76=>192|70=>201|37=>93|75=>191|127=>233|164=>268|5=>5|80=>205|n=>n,fun|n=>n⟩
theorem Tryz.lays156:Go.Proofs.Lays.n156 Tryz.prog Tryz.lays156_ren:= {
 mixed:=by kernel_rfl
 f156:=Tryz.func138.trans (congrArg some (by kernel_rfl))
 f165:=Tryz.func181.trans (congrArg some (by kernel_rfl))
 f166:=Tryz.func152.trans (congrArg some (by kernel_rfl))
 f169:=Tryz.func156.trans (congrArg some (by kernel_rfl))
 f240:=Tryz.func200.trans (congrArg some (by kernel_rfl))
 f241:=Tryz.func222.trans (congrArg some (by kernel_rfl))
 f276:=Tryz.func240.trans (congrArg some (by kernel_rfl))
 f277:=Tryz.func252.trans (congrArg some (by kernel_rfl))
 t0:=Tryz.underlying0
 a0:=Tryz.isAgg0
 z0:=Tryz.sizeOf0
 v0:=Tryz.zeroValue0
 t3:=Tryz.underlying3
 a3:=Tryz.isAgg3
 z3:=Tryz.sizeOf3
 v3:=Tryz.zeroValue3
 t4:=Tryz.underlying4
 a4:=Tryz.isAgg4
 z4:=Tryz.sizeOf4
 v4:=Tryz.zeroValue4
 t9:=Tryz.underlying9
 a9:=Tryz.isAgg9
 z9:=Tryz.sizeOf9
 v9:=Tryz.zeroValue9
 t20:=Tryz.underlying20
 a20:=Tryz.isAgg20
 z20:=Tryz.sizeOf20
 v20:=Tryz.zeroValue20
 t31:=Tryz.underlying126
 a31:=Tryz.isAgg126
 z31:=Tryz.sizeOf126
 v31:=Tryz.zeroValue126
 t37:=Tryz.underlying93
 a37:=Tryz.isAgg93
 z37:=Tryz.sizeOf93
 v37:=Tryz.zeroValue93
 t70:=Tryz.underlying201
 a70:=Tryz.isAgg201
 z70:=Tryz.sizeOf201
 v70:=Tryz.zeroValue201
 t72:=Tryz.underlying203
 a72:=Tryz.isAgg203
 z72:=Tryz.sizeOf203
 v72:=Tryz.zeroValue203
 t75:=Tryz.underlying191
 a75:=Tryz.isAgg191
 z75:=Tryz.sizeOf191
 v75:=Tryz.zeroValue191
 t76:=Tryz.underlying192
 a76:=Tryz.isAgg192
 z76:=Tryz.sizeOf192
 v76:=Tryz.zeroValue192
 t127:=Tryz.underlying233
 a127:=Tryz.isAgg233
 z127:=Tryz.sizeOf233
 v127:=Tryz.zeroValue233
 t164:=Tryz.underlying268
 a164:=Tryz.isAgg268
 z164:=Tryz.sizeOf268
 v164:=Tryz.zeroValue268 }
theorem Tryz.Builder_Extra_156:Builder.Extra Tryz.prog Tryz.lays156_ren:= {
 sizeBuilder:=by kernel_rfl
 liesBuilder:=by kernel_rfl
 t5:=Tryz.underlying5
 a5:=Tryz.isAgg5
 z5:=Tryz.sizeOf5
 v5:=Tryz.zeroValue5
 infoByte:=by kernel_rfl
 cellsByte:=by kernel_rfl
 sizeByte:=by kernel_rfl
 neB5:=by decide }
open Go.RowKit in
theorem Tryz.strings_Join_none (a:Option Addr) (c:Nat) (sep:ByteArray) (w:World):
 Calls Tryz.prog 138 #[.slice a 0 c,.string sep] w fun e w'=>e= .returned (.string ⟨#[]⟩)∧w'=w:=Any.strings_Join_none Tryz.lays156 Tryz.Builder_Extra_156 a c sep w
open Go.RowKit in
theorem Tryz.strings_Join (bk o c:Nat) (xs:List ByteArray) (sep:ByteArray) (w:World) (hcells:∀(j:Nat) x,xs[j]? =some x→w.cell? ⟨bk,o+j,none⟩=some (.string x)) (hbk:bk<w.heap.size) (hN:xs.length≤140737488355328) (hcap:xs.length≤c) (hlen:(Lib.join (xs.map (·.data.toList)) sep.data.toList).length≤140737488355328):
 Calls Tryz.prog 138 #[.slice (some ⟨bk,o,none⟩) xs.length c,.string sep] w fun e w'=>e= .returned (.string ⟨(Lib.join (xs.map (·.data.toList)) sep.data.toList).toArray⟩)∧Below w.heap.size w w':=Any.strings_Join Tryz.lays156 Tryz.Builder_Extra_156 bk o c xs sep w hcells hbk hN hcap hlen
def Tryz.lays106_ren:Go.Shelf.Ren:=⟨fun|106=>179|213=>221|265=>251|n=>n,fun|9=>9|3=>3|n=>n,fun|n=>n⟩
theorem Tryz.lays106:Go.Proofs.Lays.n106 Tryz.prog Tryz.lays106_ren:= {
 mixed:=by kernel_rfl
 f106:=Tryz.func179.trans (congrArg some (by kernel_rfl))
 f213:=Tryz.func221.trans (congrArg some (by kernel_rfl))
 f265:=Tryz.func251.trans (congrArg some (by kernel_rfl))
 t3:=Tryz.underlying3
 a3:=Tryz.isAgg3
 z3:=Tryz.sizeOf3
 v3:=Tryz.zeroValue3
 t9:=Tryz.underlying9
 a9:=Tryz.isAgg9
 z9:=Tryz.sizeOf9
 v9:=Tryz.zeroValue9 }
open Go.RowKit in
theorem Tryz.strings_Compare (a b:ByteArray) (w:World):
 Calls Tryz.prog 179 #[.string a,.string b] w fun e w'=>e= .returned (.int .i64 (Lib.compareBytes a.data.toList b.data.toList))∧w'=w:=Any.strings_Compare Tryz.lays106 a b w
def Tryz.laysGw17_ren:Go.Shelf.Ren:=⟨fun|17=>217|15=>250|20=>263|n=>n,fun|9=>9|23=>252|4=>4|3=>3|0=>0|21=>21|n=>n,fun|n=>n⟩
theorem Tryz.laysGw17:Go.Proofs.LaysGw.n17 Tryz.prog Tryz.laysGw17_ren:= {
 mixed:=by kernel_rfl
 f15:=Tryz.func250.trans (congrArg some (by kernel_rfl))
 f17:=Tryz.func217.trans (congrArg some (by kernel_rfl))
 f20:=Tryz.func263.trans (congrArg some (by kernel_rfl))
 t0:=Tryz.underlying0
 a0:=Tryz.isAgg0
 z0:=Tryz.sizeOf0
 v0:=Tryz.zeroValue0
 i0:=by kernel_rfl
 t3:=Tryz.underlying3
 a3:=Tryz.isAgg3
 z3:=Tryz.sizeOf3
 v3:=Tryz.zeroValue3
 i3:=by kernel_rfl
 t4:=Tryz.underlying4
 a4:=Tryz.isAgg4
 z4:=Tryz.sizeOf4
 v4:=Tryz.zeroValue4
 i4:=by kernel_rfl
 t9:=Tryz.underlying9
 a9:=Tryz.isAgg9
 z9:=Tryz.sizeOf9
 v9:=Tryz.zeroValue9
 i9:=by kernel_rfl
 t21:=Tryz.underlying21
 a21:=Tryz.isAgg21
 z21:=Tryz.sizeOf21
 v21:=Tryz.zeroValue21
 i21:=by kernel_rfl
 t23:=Tryz.underlying252
 a23:=Tryz.isAgg252
 z23:=Tryz.sizeOf252
 v23:=Tryz.zeroValue252
 i23:=by kernel_rfl }
open Go.RowKit Go.Lib in
theorem Tryz.strings_ContainsFunc (g:Nat) (lb:Array Value) (eg:∀args w,(callFunc g args).run Tryz.prog w= .ok (.enter g args) w) (p:Nat→Bool) (s:ByteArray) (w:World) (hp:PredAt Tryz.prog g lb encR p w):
 Calls Tryz.prog 217 #[.string s,.func (.func g) #[] lb] w fun e w'=>e= .returned (.bool (decide (0≤Lib.idxFunc p true s)))∧Below w.heap.size w w':=Any.strings_ContainsFunc Tryz.laysGw17 g lb eg p s w hp
def Tryz.lays146_ren:Go.Shelf.Ren:=⟨fun|146=>182|221=>223|268=>253|138=>254|143=>255|195=>264|197=>226|218=>265|219=>266|260=>256|217=>277|225=>270|224=>269|267=>278|266=>284|314=>285|n=>n,fun|9=>9|31=>126|3=>3|4=>4|0=>0|105=>256|21=>21|5=>5|46=>186|119=>290|139=>293|138=>292|146=>273|51=>58|n=>n,fun|1=>0|3=>3|4=>4|n=>n⟩
theorem Tryz.lays146:Go.Proofs.Lays.n146 Tryz.prog Tryz.lays146_ren:= {
 mixed:=by kernel_rfl
 f138:=Tryz.func254.trans (congrArg some (by kernel_rfl))
 f143:=Tryz.func255.trans (congrArg some (by kernel_rfl))
 f146:=Tryz.func182.trans (congrArg some (by kernel_rfl))
 f195:=Tryz.func264.trans (congrArg some (by kernel_rfl))
 f197:=Tryz.func226.trans (congrArg some (by kernel_rfl))
 f217:=Tryz.func277.trans (congrArg some (by kernel_rfl))
 f218:=Tryz.func265.trans (congrArg some (by kernel_rfl))
 f219:=Tryz.func266.trans (congrArg some (by kernel_rfl))
 f221:=Tryz.func223.trans (congrArg some (by kernel_rfl))
 f224:=Tryz.func269.trans (congrArg some (by kernel_rfl))
 f225:=Tryz.func270.trans (congrArg some (by kernel_rfl))
 f260:=Tryz.func256.trans (congrArg some (by kernel_rfl))
 f266:=Tryz.func284.trans (congrArg some (by kernel_rfl))
 f267:=Tryz.func278.trans (congrArg some (by kernel_rfl))
 f268:=Tryz.func253.trans (congrArg some (by kernel_rfl))
 f314:=Tryz.func285.trans (congrArg some (by kernel_rfl))
 t0:=Tryz.underlying0
 a0:=Tryz.isAgg0
 z0:=Tryz.sizeOf0
 v0:=Tryz.zeroValue0
 t3:=Tryz.underlying3
 a3:=Tryz.isAgg3
 z3:=Tryz.sizeOf3
 v3:=Tryz.zeroValue3
 t4:=Tryz.underlying4
 a4:=Tryz.isAgg4
 z4:=Tryz.sizeOf4
 v4:=Tryz.zeroValue4
 t5:=Tryz.underlying5
 a5:=Tryz.isAgg5
 z5:=Tryz.sizeOf5
 v5:=Tryz.zeroValue5
 t9:=Tryz.underlying9
 a9:=Tryz.isAgg9
 z9:=Tryz.sizeOf9
 v9:=Tryz.zeroValue9
 t21:=Tryz.underlying21
 a21:=Tryz.isAgg21
 z21:=Tryz.sizeOf21
 v21:=Tryz.zeroValue21
 t31:=Tryz.underlying126
 a31:=Tryz.isAgg126
 z31:=Tryz.sizeOf126
 v31:=Tryz.zeroValue126
 t46:=Tryz.underlying186
 a46:=Tryz.isAgg186
 z46:=Tryz.sizeOf186
 v46:=Tryz.zeroValue186
 t51:=Tryz.underlying58
 a51:=Tryz.isAgg58
 z51:=Tryz.sizeOf58
 v51:=Tryz.zeroValue58
 t105:=Tryz.underlying256
 a105:=Tryz.isAgg256
 z105:=Tryz.sizeOf256
 v105:=Tryz.zeroValue256
 t119:=Tryz.underlying290
 a119:=Tryz.isAgg290
 z119:=Tryz.sizeOf290
 t138:=Tryz.underlying292
 a138:=Tryz.isAgg292
 z138:=Tryz.sizeOf292
 v138:=Tryz.zeroValue292
 t139:=Tryz.underlying293
 a139:=Tryz.isAgg293
 z139:=Tryz.sizeOf293
 v139:=Tryz.zeroValue293
 t146:=Tryz.underlying273
 a146:=Tryz.isAgg273
 z146:=Tryz.sizeOf273
 v146:=Tryz.zeroValue273
 g1:=by kernel_rfl
 g3:=by kernel_rfl
 g4:=by kernel_rfl }
open Go.RowKit Go.Lib in
theorem Tryz.strings_Split (s sep:ByteArray) (m:Int) (w:World) (hs:s.size<4294967281) (hm:w.cell? ⟨0,0,none⟩=some (.int .i64 m)) (h1:1≤sep.size):
 Calls Tryz.prog 182 #[.string s,.string sep] w fun e w'=>
  e= .returned (.slice (some ⟨w.heap.size,0,none⟩) (Lib.countB s sep+1) (Lib.countB s sep+1))∧w'=w.alloc (.cells ((Lib.splitB sep 0 (Lib.countB s sep) s).map Value.string).toArray 9):=Any.strings_Split Tryz.lays146 (by kernel_rfl) s sep m w hs hm h1
def Tryz.lays193_ren:Go.Shelf.Ren:=⟨fun|193=>137|n=>n,fun|31=>126|9=>9|4=>4|3=>3|0=>0|n=>n,fun|n=>n⟩
theorem Tryz.lays193:Go.Proofs.Lays.n193 Tryz.prog Tryz.lays193_ren:= {
 mixed:=by kernel_rfl
 f193:=Tryz.func137.trans (congrArg some (by kernel_rfl))
 t0:=Tryz.underlying0
 a0:=Tryz.isAgg0
 z0:=Tryz.sizeOf0
 v0:=Tryz.zeroValue0
 t3:=Tryz.underlying3
 a3:=Tryz.isAgg3
 z3:=Tryz.sizeOf3
 v3:=Tryz.zeroValue3
 t4:=Tryz.underlying4
 a4:=Tryz.isAgg4
 z4:=Tryz.sizeOf4
 v4:=Tryz.zeroValue4
 t9:=Tryz.underlying9
 a9:=Tryz.isAgg9
 z9:=Tryz.sizeOf9
 v9:=Tryz.zeroValue9
 t31:=Tryz.underlying126
 a31:=Tryz.isAgg126
 z31:=Tryz.sizeOf126
 v31:=Tryz.zeroValue126 }
open Go.RowKit Go.Lib in
theorem Tryz.slices_Equal_string (b1 o1 n c b2 o2 m d:Nat) (xs ys:List ByteArray) (w:World) (hx:n≤xs.length) (hy:m≤ys.length) (hbig:n≤9223372036854775807) (hbig2:m≤9223372036854775807) (hc1:∀j,j<xs.length→w.cell? ⟨b1,o1+j,none⟩=some (.string (xs.getD j ByteArray.empty))) (hc2:∀j,j<ys.length→w.cell? ⟨b2,o2+j,none⟩=some (.string (ys.getD j ByteArray.empty))):
 Calls Tryz.prog 137 #[.slice (some ⟨b1,o1,none⟩) n c,.slice (some ⟨b2,o2,none⟩) m d] w fun e w'=>e= .returned (.bool (decide (xs.take n=ys.take m)))∧ ∃q,w'=w.drewN q:=Any.slices_Equal_string Tryz.lays193 b1 o1 n c b2 o2 m d xs ys w hx hy hbig hbig2 hc1 hc2
open Go.RowKit Go.Lib in
theorem Tryz.slices_Equal_string_empty (a1 a2:Option Addr) (c m d:Nat) (w:World) (hbig2:m≤9223372036854775807):
 Calls Tryz.prog 137 #[.slice a1 0 c,.slice a2 m d] w fun e w'=>e= .returned (.bool (decide (m=0)))∧w'=w:=Any.slices_Equal_string_empty Tryz.lays193 a1 a2 c m d w hbig2
open Go.RowKit Go.Lib in
theorem Tryz.slices_Equal_string_lens (a1 a2:Option Addr) (n c m d:Nat) (w:World) (hnm:n≠m):
 Calls Tryz.prog 137 #[.slice a1 n c,.slice a2 m d] w fun e w'=>e= .returned (.bool false)∧w'=w:=Any.slices_Equal_string_lens Tryz.lays193 a1 a2 n c m d w hnm
end Go.Proofs
namespace Go.Proofs
open Go.Shelf
def Tryz.laysM171_ren:Go.Shelf.Ren:=⟨fun|171=>201|243=>241|246=>262|283=>273|284=>274|285=>275|286=>276|129=>280|317=>279|318=>281|319=>282|320=>283|337=>286|338=>287|n=>n,fun|3=>3|9=>9|2=>2|4=>4|171=>299|0=>0|53=>210|37=>93|5=>5|173=>302|212=>305|51=>58|20=>20|213=>306|46=>186|232=>310|233=>311|n=>n,fun|17=>5|18=>6|19=>7|n=>n⟩
theorem Tryz.laysM171:Go.Proofs.LaysM.n171 Tryz.prog Tryz.laysM171_ren:= {
 mixed:=by kernel_rfl
 f129:=Tryz.func280.trans (congrArg some (by kernel_rfl))
 f171:=Tryz.func201.trans (congrArg some (by kernel_rfl))
 f243:=Tryz.func241.trans (congrArg some (by kernel_rfl))
 f246:=Tryz.func262.trans (congrArg some (by kernel_rfl))
 f283:=Tryz.func273.trans (congrArg some (by kernel_rfl))
 f284:=Tryz.func274.trans (congrArg some (by kernel_rfl))
 f285:=Tryz.func275.trans (congrArg some (by kernel_rfl))
 f286:=Tryz.func276.trans (congrArg some (by kernel_rfl))
 f317:=Tryz.func279.trans (congrArg some (by kernel_rfl))
 f318:=Tryz.func281.trans (congrArg some (by kernel_rfl))
 f319:=Tryz.func282.trans (congrArg some (by kernel_rfl))
 f320:=Tryz.func283.trans (congrArg some (by kernel_rfl))
 f337:=Tryz.func286.trans (congrArg some (by kernel_rfl))
 f338:=Tryz.func287.trans (congrArg some (by kernel_rfl))
 t0:=Tryz.underlying0
 a0:=Tryz.isAgg0
 z0:=Tryz.sizeOf0
 v0:=Tryz.zeroValue0
 t2:=Tryz.underlying2
 a2:=Tryz.isAgg2
 z2:=Tryz.sizeOf2
 v2:=Tryz.zeroValue2
 t3:=Tryz.underlying3
 a3:=Tryz.isAgg3
 z3:=Tryz.sizeOf3
 v3:=Tryz.zeroValue3
 t4:=Tryz.underlying4
 a4:=Tryz.isAgg4
 z4:=Tryz.sizeOf4
 v4:=Tryz.zeroValue4
 t5:=Tryz.underlying5
 a5:=Tryz.isAgg5
 z5:=Tryz.sizeOf5
 v5:=Tryz.zeroValue5
 t9:=Tryz.underlying9
 a9:=Tryz.isAgg9
 z9:=Tryz.sizeOf9
 v9:=Tryz.zeroValue9
 t20:=Tryz.underlying20
 a20:=Tryz.isAgg20
 z20:=Tryz.sizeOf20
 v20:=Tryz.zeroValue20
 t37:=Tryz.underlying93
 a37:=Tryz.isAgg93
 z37:=Tryz.sizeOf93
 v37:=Tryz.zeroValue93
 t46:=Tryz.underlying186
 a46:=Tryz.isAgg186
 z46:=Tryz.sizeOf186
 v46:=Tryz.zeroValue186
 t51:=Tryz.underlying58
 a51:=Tryz.isAgg58
 z51:=Tryz.sizeOf58
 v51:=Tryz.zeroValue58
 t53:=Tryz.underlying210
 a53:=Tryz.isAgg210
 z53:=Tryz.sizeOf210
 v53:=Tryz.zeroValue210
 t171:=Tryz.underlying299
 a171:=Tryz.isAgg299
 z171:=Tryz.sizeOf299
 v171:=Tryz.zeroValue299
 t173:=Tryz.underlying302
 a173:=Tryz.isAgg302
 z173:=Tryz.sizeOf302
 v173:=Tryz.zeroValue302
 t212:=Tryz.underlying305
 a212:=Tryz.isAgg305
 z212:=Tryz.sizeOf305
 v212:=Tryz.zeroValue305
 t213:=Tryz.underlying306
 a213:=Tryz.isAgg306
 z213:=Tryz.sizeOf306
 t232:=Tryz.underlying310
 a232:=Tryz.isAgg310
 z232:=Tryz.sizeOf310
 v232:=Tryz.zeroValue310
 t233:=Tryz.underlying311
 a233:=Tryz.isAgg311
 z233:=Tryz.sizeOf311
 v233:=Tryz.zeroValue311
 g17:=by kernel_rfl
 g18:=by kernel_rfl
 g19:=by kernel_rfl
 i0:=by kernel_rfl
 i2:=by kernel_rfl
 i3:=by kernel_rfl
 i4:=by kernel_rfl
 i5:=by kernel_rfl
 i9:=by kernel_rfl
 i20:=by kernel_rfl
 i37:=by kernel_rfl
 i46:=by kernel_rfl
 i51:=by kernel_rfl
 i53:=by kernel_rfl
 i171:=by kernel_rfl
 i173:=by kernel_rfl
 i212:=by kernel_rfl
 i232:=by kernel_rfl
 i233:=by kernel_rfl
 m17:=by kernel_rfl
 m18:=by kernel_rfl
 m19:=by kernel_rfl }
open Go.RowKit Go.Sort Go.Lib in
theorem Tryz.strconv_Itoa (n : Int) (h0 : -9223372036854775808 ≤ n) (h1 : n ≤ 9223372036854775807) (w : World) (htab : Lib.TabIs Tryz.prog w "internal/strconv.uint64pow10" .u64 Lib.pow10Tab) :
 Calls Tryz.prog 201 #[.int .i64 n] w fun e w'=>e= .returned (.string ⟨(Lib.itoa n).toArray⟩)∧ ∃k os,w'=grow (w.drewN k) os:=Any.strconv_Itoa Tryz.laysM171 n h0 h1 w htab
def Tryz.laysC172_ren:Go.Shelf.Ren:=⟨fun|172=>145|244=>192|245=>193|247=>229|279=>230|280=>231|281=>232|282=>233|287=>259|316=>260|171=>201|205=>261|321=>271|322=>272|243=>241|246=>262|283=>273|284=>274|285=>275|286=>276|129=>280|317=>279|318=>281|319=>282|320=>283|337=>286|338=>287|n=>n,fun|9=>9|3=>3|75=>191|76=>192|4=>4|5=>5|167=>259|37=>93|0=>0|85=>260|2=>2|168=>262|53=>210|175=>282|46=>186|210=>285|127=>233|145=>298|143=>296|21=>21|171=>299|173=>302|212=>305|51=>58|20=>20|213=>306|232=>310|233=>311|80=>205|n=>n,fun|15=>1|16=>2|17=>5|18=>6|19=>7|n=>n⟩
theorem Tryz.laysC172:Go.Proofs.LaysC.n172 Tryz.prog Tryz.laysC172_ren:= {
 mixed:=by kernel_rfl
 f129:=Tryz.func280.trans (congrArg some (by kernel_rfl))
 f171:=Tryz.func201.trans (congrArg some (by kernel_rfl))
 f172:=Tryz.func145.trans (congrArg some (by kernel_rfl))
 f205:=Tryz.func261.trans (congrArg some (by kernel_rfl))
 f243:=Tryz.func241.trans (congrArg some (by kernel_rfl))
 f244:=Tryz.func192.trans (congrArg some (by kernel_rfl))
 f245:=Tryz.func193.trans (congrArg some (by kernel_rfl))
 f246:=Tryz.func262.trans (congrArg some (by kernel_rfl))
 f247:=Tryz.func229.trans (congrArg some (by kernel_rfl))
 f279:=Tryz.func230.trans (congrArg some (by kernel_rfl))
 f280:=Tryz.func231.trans (congrArg some (by kernel_rfl))
 f281:=Tryz.func232.trans (congrArg some (by kernel_rfl))
 f282:=Tryz.func233.trans (congrArg some (by kernel_rfl))
 f283:=Tryz.func273.trans (congrArg some (by kernel_rfl))
 f284:=Tryz.func274.trans (congrArg some (by kernel_rfl))
 f285:=Tryz.func275.trans (congrArg some (by kernel_rfl))
 f286:=Tryz.func276.trans (congrArg some (by kernel_rfl))
 f287:=Tryz.func259.trans (congrArg some (by kernel_rfl))
 f316:=Tryz.func260.trans (congrArg some (by kernel_rfl))
 f317:=Tryz.func279.trans (congrArg some (by kernel_rfl))
 f318:=Tryz.func281.trans (congrArg some (by kernel_rfl))
 f319:=Tryz.func282.trans (congrArg some (by kernel_rfl))
 f320:=Tryz.func283.trans (congrArg some (by kernel_rfl))
 f321:=Tryz.func271.trans (congrArg some (by kernel_rfl))
 f322:=Tryz.func272.trans (congrArg some (by kernel_rfl))
 f337:=Tryz.func286.trans (congrArg some (by kernel_rfl))
 f338:=Tryz.func287.trans (congrArg some (by kernel_rfl))
 t0:=Tryz.underlying0
 a0:=Tryz.isAgg0
 z0:=Tryz.sizeOf0
 v0:=Tryz.zeroValue0
 t2:=Tryz.underlying2
 a2:=Tryz.isAgg2
 z2:=Tryz.sizeOf2
 v2:=Tryz.zeroValue2
 t3:=Tryz.underlying3
 a3:=Tryz.isAgg3
 z3:=Tryz.sizeOf3
 v3:=Tryz.zeroValue3
 t4:=Tryz.underlying4
 a4:=Tryz.isAgg4
 z4:=Tryz.sizeOf4
 v4:=Tryz.zeroValue4
 t5:=Tryz.underlying5
 a5:=Tryz.isAgg5
 z5:=Tryz.sizeOf5
 v5:=Tryz.zeroValue5
 t9:=Tryz.underlying9
 a9:=Tryz.isAgg9
 z9:=Tryz.sizeOf9
 v9:=Tryz.zeroValue9
 t20:=Tryz.underlying20
 a20:=Tryz.isAgg20
 z20:=Tryz.sizeOf20
 v20:=Tryz.zeroValue20
 t21:=Tryz.underlying21
 a21:=Tryz.isAgg21
 z21:=Tryz.sizeOf21
 v21:=Tryz.zeroValue21
 t37:=Tryz.underlying93
 a37:=Tryz.isAgg93
 z37:=Tryz.sizeOf93
 v37:=Tryz.zeroValue93
 t46:=Tryz.underlying186
 a46:=Tryz.isAgg186
 z46:=Tryz.sizeOf186
 v46:=Tryz.zeroValue186
 t51:=Tryz.underlying58
 a51:=Tryz.isAgg58
 z51:=Tryz.sizeOf58
 v51:=Tryz.zeroValue58
 t53:=Tryz.underlying210
 a53:=Tryz.isAgg210
 z53:=Tryz.sizeOf210
 v53:=Tryz.zeroValue210
 t75:=Tryz.underlying191
 a75:=Tryz.isAgg191
 z75:=Tryz.sizeOf191
 v75:=Tryz.zeroValue191
 t76:=Tryz.underlying192
 a76:=Tryz.isAgg192
 z76:=Tryz.sizeOf192
 v76:=Tryz.zeroValue192
 t85:=Tryz.underlying260
 a85:=Tryz.isAgg260
 z85:=Tryz.sizeOf260
 v85:=Tryz.zeroValue260
 t127:=Tryz.underlying233
 a127:=Tryz.isAgg233
 z127:=Tryz.sizeOf233
 v127:=Tryz.zeroValue233
 t143:=Tryz.underlying296
 a143:=Tryz.isAgg296
 z143:=Tryz.sizeOf296
 v143:=Tryz.zeroValue296
 t145:=Tryz.underlying298
 a145:=Tryz.isAgg298
 z145:=Tryz.sizeOf298
 v145:=Tryz.zeroValue298
 t167:=Tryz.underlying259
 a167:=Tryz.isAgg259
 z167:=Tryz.sizeOf259
 v167:=Tryz.zeroValue259
 t168:=Tryz.underlying262
 a168:=Tryz.isAgg262
 z168:=Tryz.sizeOf262
 v168:=Tryz.zeroValue262
 t171:=Tryz.underlying299
 a171:=Tryz.isAgg299
 z171:=Tryz.sizeOf299
 v171:=Tryz.zeroValue299
 t173:=Tryz.underlying302
 a173:=Tryz.isAgg302
 z173:=Tryz.sizeOf302
 v173:=Tryz.zeroValue302
 t175:=Tryz.underlying282
 a175:=Tryz.isAgg282
 z175:=Tryz.sizeOf282
 v175:=Tryz.zeroValue282
 t210:=Tryz.underlying285
 a210:=Tryz.isAgg285
 z210:=Tryz.sizeOf285
 v210:=Tryz.zeroValue285
 t212:=Tryz.underlying305
 a212:=Tryz.isAgg305
 z212:=Tryz.sizeOf305
 v212:=Tryz.zeroValue305
 t213:=Tryz.underlying306
 a213:=Tryz.isAgg306
 z213:=Tryz.sizeOf306
 t232:=Tryz.underlying310
 a232:=Tryz.isAgg310
 z232:=Tryz.sizeOf310
 v232:=Tryz.zeroValue310
 t233:=Tryz.underlying311
 a233:=Tryz.isAgg311
 z233:=Tryz.sizeOf311
 v233:=Tryz.zeroValue311
 g15:=by kernel_rfl
 g16:=by kernel_rfl
 g17:=by kernel_rfl
 g18:=by kernel_rfl
 g19:=by kernel_rfl
 t80:=Tryz.underlying205
 a80:=Tryz.isAgg205
 z80:=Tryz.sizeOf205
 v80:=Tryz.zeroValue205
 i0:=by kernel_rfl
 i2:=by kernel_rfl
 i3:=by kernel_rfl
 i4:=by kernel_rfl
 i5:=by kernel_rfl
 i9:=by kernel_rfl
 i20:=by kernel_rfl
 i21:=by kernel_rfl
 i37:=by kernel_rfl
 i46:=by kernel_rfl
 i51:=by kernel_rfl
 i53:=by kernel_rfl
 i75:=by kernel_rfl
 i76:=by kernel_rfl
 i80:=by kernel_rfl
 i85:=by kernel_rfl
 i127:=by kernel_rfl
 i143:=by kernel_rfl
 i145:=by kernel_rfl
 i167:=by kernel_rfl
 i168:=by kernel_rfl
 i171:=by kernel_rfl
 i173:=by kernel_rfl
 i175:=by kernel_rfl
 i210:=by kernel_rfl
 i212:=by kernel_rfl
 i232:=by kernel_rfl
 i233:=by kernel_rfl
 m15:=by kernel_rfl
 m16:=by kernel_rfl
 m17:=by kernel_rfl
 m18:=by kernel_rfl
 m19:=by kernel_rfl
 c0:=by kernel_rfl
 c2:=by kernel_rfl
 c3:=by kernel_rfl
 c4:=by kernel_rfl
 c5:=by kernel_rfl
 c9:=by kernel_rfl
 c20:=by kernel_rfl
 c21:=by kernel_rfl
 c37:=by kernel_rfl
 c46:=by kernel_rfl
 c51:=by kernel_rfl
 c53:=by kernel_rfl
 c75:=by kernel_rfl
 c76:=by kernel_rfl
 c80:=by kernel_rfl
 c85:=by kernel_rfl
 c127:=by kernel_rfl
 c143:=by kernel_rfl
 c145:=by kernel_rfl
 c167:=by kernel_rfl
 c168:=by kernel_rfl
 c171:=by kernel_rfl
 c173:=by kernel_rfl
 c175:=by kernel_rfl
 c210:=by kernel_rfl
 c212:=by kernel_rfl
 c213:=by kernel_rfl
 c232:=by kernel_rfl
 c233:=by kernel_rfl }
open Go.RowKit in
theorem Tryz.strconv_Atoi_ok (s:ByteArray) (hmax:s.size≤9223372036854775806) (v:Int) (h:Lib.atoiAll s.data.toList= .ok v) (w:World):
 Calls Tryz.prog 145 #[.string s] w fun e w'=>e= .returned (.tuple #[.int .i64 v,.nilIface])∧(w'=w∨ ∃t,w'=Lib.bytesWorld w 5 t):=Any.strconv_Atoi_ok Tryz.laysC172 s hmax v h w
open Go.RowKit in
theorem Tryz.strconv_Atoi_syntax_var (s : ByteArray) (hlim : s.size ≤ 281474976710656) (h : ∀ n, Lib.atoiAll s.data.toList ≠ .ok n) (hr : Lib.atoiAll s.data.toList ≠ .range) (tp : TypeId) (p : Value) (w : World) (hvar : w.var? Tryz.prog "strconv.ErrSyntax" = some #[.iface tp p]) :
 Calls Tryz.prog 145 #[.string s] w fun e w'=> ∃N,e= .returned (.tuple #[.int .i64 0,.iface 262 (.pointer (some ⟨N,0,none⟩))])∧w.heap.size≤N∧w'.heap[N]? =some (.cells #[.string ⟨#[65,116,111,105]⟩,.string s,.iface tp p] 285 (0,0))∧Below w.heap.size w w':=by
 cases hq:Lib.atoiAll s.data.toList
 ·exact absurd hq (h _)
 ·exact Any.strconv_Atoi_syntax_var Tryz.laysC172 s hlim hq tp p w hvar
 ·exact absurd hq hr
open Go.RowKit in
theorem Tryz.strconv_Atoi_range_var (s : ByteArray) (hlim : s.size ≤ 281474976710656) (h : Lib.atoiAll s.data.toList = .range) (tp : TypeId) (p : Value) (w : World) (hvar : w.var? Tryz.prog "strconv.ErrRange" = some #[.iface tp p]) :
 Calls Tryz.prog 145 #[.string s] w fun e w'=> ∃N,e= .returned (.tuple #[.int .i64 (Lib.atoiSat s.data.toList),.iface 262 (.pointer (some ⟨N,0,none⟩))])∧w.heap.size≤N∧w'.heap[N]? =some (.cells #[.string ⟨#[65,116,111,105]⟩,.string s,.iface tp p] 285 (0,0))∧Below w.heap.size w w':=Any.strconv_Atoi_range_var Tryz.laysC172 s hlim h tp p w hvar
end Go.Proofs
namespace Go.Proofs.YtmdfjnhfhidmhaaGreatDoor
open Go.RowKit
theorem Xku (w:World) (q:Nat):Below w.heap.size w (w.drewN q):=⟨rfl,rfl,rfl,Qn _,fun _ _=>rfl⟩
structure Glob (I:IH):Prop where
 pow:I 5=some (Lib.pow10Tab.map fun z=>Value.int .u64 z).toArray
 max:∃c m,I 0=some c∧c[0]? =some (.int .i64 m)
 syn:∃tp p,I 1=some #[.iface tp p]
 rng:∃tp p,I 2=some #[.iface tp p]
theorem Glob.mono {I I':IH} (h:Glob I) (k:∀b c,I b=some c→I' b=some c):Glob I':=
 ⟨k _ _ h.pow,(let ⟨c,m,h1,h2⟩:=h.max;⟨c,m,k _ _ h1,h2⟩),(let ⟨tp,p,h1⟩:=h.syn;⟨tp,p,k _ _ h1⟩),(let ⟨tp,p,h1⟩:=h.rng;⟨tp,p,k _ _ h1⟩)⟩
theorem Glob.maxlen {I:IH} {w:World} (h:Glob I) (hw:Ok I w):∃m,w.cell? ⟨0,0,none⟩=some (.int .i64 m):=by
 obtain ⟨c,m,h1,h2⟩:=h.max
 exact ⟨m,by rw [hw.cell h1];exact h2⟩
theorem Xqx (l:List ByteArray):(l.map (·.data.toList)).map (fun b=>Value.string ⟨b.toArray⟩)=l.map Value.string:=by
 rw [List.map_map]
 apply List.map_congr_left
 intro b _
 simp
set_option maxRecDepth 100000 in
theorem Xon (I:IH) (hI:Glob I) (s:Bytes) (hs:s.length≤4294967280) (w:World) (hw:Ok I w):
 Calls Tryz.prog 182 #[S s,S [47]] w (RetS tStr I w (elsGo [] s)):=by
 obtain ⟨m,hm⟩:=hI.maxlen hw
 have hsz:(⟨s.toArray⟩:ByteArray).size=s.length:=by simp [ByteArray.size]
 refine (Tryz.strings_Split ⟨s.toArray⟩ ⟨[47].toArray⟩ m w (by omega) hm (by decide)).mono fun e w' ⟨he,hq⟩=> ?_
 have hspl:=Xnw s
 have hdat:=Lib.splitB_data ⟨[47].toArray⟩ 0 (Lib.countB ⟨s.toArray⟩ ⟨[47].toArray⟩) ⟨s.toArray⟩
 have hall:(Lib.splitB ⟨[47].toArray⟩ 0 (Lib.countB ⟨s.toArray⟩ ⟨[47].toArray⟩) ⟨s.toArray⟩).map (·.data.toList)=elsGo [] s:=by rw [hdat,←hspl];rfl
 have hlen:Lib.countB ⟨s.toArray⟩ ⟨[47].toArray⟩+1=(elsGo [] s).length:=by
  rw [←hall,List.length_map]
  exact (Lib.splitB_all ⟨[47].toArray⟩ (by decide) 0 _ ⟨s.toArray⟩ rfl).symm
 have hcells:((Lib.splitB ⟨[47].toArray⟩ 0 (Lib.countB ⟨s.toArray⟩ ⟨[47].toArray⟩) ⟨s.toArray⟩).map Value.string)=(elsGo [] s).map fun b=>S b:=by
  rw [←hall,Xqx]
 have hcl:Lib.countB ⟨s.toArray⟩ ⟨[47].toArray⟩≤s.length:=by
  have:=Lib.countB_le ⟨[47].toArray⟩ (by decide) _ ⟨s.toArray⟩ (Qn _)
  rwa [hsz] at this
 rw [hcells] at hq
 rw [hlen] at he
 have hmax:(elsGo [] s).length≤9223372036854775807:=by omega
 generalize elsGo [] s=l at*
 subst hq
 have hb:=heap_alloc_new w (.cells (l.map fun b=>S b).toArray 9)
 refine ⟨_,I.add w.heap.size (l.map fun b=>S b).toArray,he,(Qb _ _).alloc (Qn _) _,Ext.add (Qn _) _ _,(hw.alloc _).add hb,_,l.length,rfl,Qn _,hmax,fun _=>⟨w.heap.size,0,(l.map fun b=>S b).toArray,rfl,by simp [IH.add],fun i hi=>⟨[S l[i]],rfl,fun j u hu=> ?_⟩⟩⟩
 have hj:j=0:=by have:=(List.getElem?_eq_some_iff.1 hu).1;simp at this;exact this
 subst hj
 obtain rfl:S l[i]=u:=by simpa using hu
 show ((l.map fun b=>S b).toArray)[0+(i*1+0)]? =_
 rw [show 0+(i*1+0)=i by omega,List.getElem?_toArray,List.getElem?_map,List.getElem?_eq_getElem hi]
 rfl
set_option maxRecDepth 100000 in
theorem Xer (g:Nat) (p:Nat→Bool) (s:Bytes) (w:World) (eg:∀args w,(callFunc g args).run Tryz.prog w= .ok (.enter g args) w) (hp:∀(x:Nat) (W:World),Calls Tryz.prog g #[.int .i32 (x:Int)] W fun e w'=>e= .returned (.bool (p x))∧w'=W):
 Calls Tryz.prog 217 #[S s,.func (.func g) #[] #[]] w fun e w'=>e= .returned (.bool (decide (0≤Lib.idxFunc p true ⟨s.toArray⟩)))∧Below w.heap.size w w':=
 Tryz.strings_ContainsFunc g #[] eg p ⟨s.toArray⟩ w fun W x _=>by
  have:=hp x W
  exact this.mono fun e w' ⟨h1,h2⟩=>⟨h1,0,h2⟩
set_option maxRecDepth 100000 in
theorem Xq1 (I:IH) (v:Value) (l:List Bytes) (hv:RdS tStr I v l) (hj:(joinP l).length≤4294967296) (hn:l.length≤4294967296) (w:World) (hw:Ok I w):
 Calls Tryz.prog 138 #[v,S [47]] w fun e w'=>e= .returned (S (joinP l))∧Below w.heap.size w w':=by
 obtain ⟨ao,cap,rfl,hcap,hcm,hh⟩:=id hv
 by_cases h0:l= []
 ·subst h0
  exact (Tryz.strings_Join_none ao cap ⟨[47].toArray⟩ w).mono fun e w' ⟨h1,h2⟩=>⟨h1,by rw [h2];exact Qb _ _⟩
 ·have hpos:0<l.length:=List.length_pos_iff.2 h0
  obtain ⟨b,off,arr,rfl,hI,hl⟩:=hh hpos
  have hx:(l.map fun s=>(⟨s.toArray⟩:ByteArray)).map (·.data.toList)=l:=by
   rw [List.map_map]
   conv=>rhs;rw [←List.map_id l]
   apply List.map_congr_left
   intro b _
   simp
  have hjl:Lib.join ((l.map fun s=>(⟨s.toArray⟩:ByteArray)).map (·.data.toList)) (⟨[47].toArray⟩:ByteArray).data.toList=joinP l:=by rw [hx];exact Xq2 l
  have h:=Tryz.strings_Join b off cap (l.map fun s=>⟨s.toArray⟩) ⟨[47].toArray⟩ w (fun j x hx=> ?_) (hw.lt hI) (by rw [List.length_map];omega) (by rw [List.length_map];exact hcap) (by rw [hjl];omega)
  ·rw [hjl,List.length_map] at h
   exact h
  ·rw [List.getElem?_map] at hx
   cases hlj:l[j]? with
   |none=>rw [hlj] at hx;simp at hx
   |some s=>
    rw [hlj] at hx
    simp at hx
    subst hx
    obtain ⟨hjl,hlj⟩:=List.getElem?_eq_some_iff.1 hlj
    obtain ⟨cs,h1,h2⟩:=hl j hjl
    have hcs:cs= [S l[j]]:=h1
    have:=h2 0 (S l[j]) (by rw [hcs];rfl)
    rw [hw.cell hI,←hlj]
    simpa [tStr,Ty.flat] using this
set_option maxRecDepth 100000 in
theorem Xop (I:IH) (v1 v2:Value) (l m:List Bytes) (hv1:RdS tStr I v1 l) (hv2:RdS tStr I v2 m) (w:World) (hw:Ok I w):
 Calls Tryz.prog 137 #[v1,v2] w fun e w'=>e= .returned (.bool (decide (l=m)))∧Below w.heap.size w w':=by
 have hb1:=hv1.len_le
 have hb2:=hv2.len_le
 obtain ⟨ao,cap,rfl,hcap,hcm,hh⟩:=id hv1
 obtain ⟨ao2,cap2,rfl,hcap2,hcm2,hh2⟩:=id hv2
 by_cases hlm:l.length=m.length
 case neg=>
  refine (Tryz.slices_Equal_string_lens ao ao2 l.length cap m.length cap2 w hlm).mono fun e w' ⟨h1,h2⟩=>⟨?_,by rw [h2];exact Qb _ _⟩
  rw [h1,Qf]
  intro e;exact hlm (by rw [e])
 by_cases h0:l= []
 ·subst h0
  have hm:m= []:=List.eq_nil_of_length_eq_zero (by rw [←hlm];rfl)
  subst hm
  exact (Tryz.slices_Equal_string_empty ao ao2 cap 0 cap2 w (by decide)).mono fun e w' ⟨h1,h2⟩=>⟨h1,by rw [h2];exact Qb _ _⟩
 ·have hpos:0<l.length:=List.length_pos_iff.2 h0
  obtain ⟨b,off,arr,rfl,hI,hl⟩:=hh hpos
  obtain ⟨b2,off2,arr2,rfl,hI2,hl2⟩:=hh2 (by omega)
  have cellsOf:∀(l:List Bytes) (b off:Nat) (arr:Array Value),I b=some arr→Lies tStr I arr off l→ ∀j,j<(l.map fun s=>(⟨s.toArray⟩:ByteArray)).length→w.cell? ⟨b,off+j,none⟩=some (.string ((l.map fun s=>(⟨s.toArray⟩:ByteArray)).getD j ByteArray.empty)):=by
   intro l b off arr hI hl j hj
   rw [List.length_map] at hj
   obtain ⟨cs,h1,h2⟩:=hl j hj
   have hcs:cs= [S l[j]]:=h1
   have:=h2 0 (S l[j]) (by rw [hcs];rfl)
   rw [hw.cell hI,List.getD_eq_getElem?_getD,List.getElem?_map,List.getElem?_eq_getElem hj]
   simpa [tStr,Ty.flat] using this
  have h:=Tryz.slices_Equal_string b off l.length cap b2 off2 m.length cap2 (l.map fun s=>⟨s.toArray⟩) (m.map fun s=>⟨s.toArray⟩) w (by rw [List.length_map];exact Qn _) (by rw [List.length_map];exact Qn _) hb1 hb2 (cellsOf l b off arr hI hl) (cellsOf m b2 off2 arr2 hI2 hl2)
  refine h.mono fun e w' ⟨h1,q,h2⟩=>⟨?_,by rw [h2];exact Xku _ _⟩
  rw [h1]
  congr 2
  rw [decide_eq_decide,List.take_of_length_le (by simp),List.take_of_length_le (by simp)]
  constructor
  ·intro e
   have:=congrArg (List.map fun b:ByteArray=>b.data.toList) e
   rw [List.map_map,List.map_map] at this
   have hid:((fun b:ByteArray=>b.data.toList) ∘ fun s:Bytes=>(⟨s.toArray⟩:ByteArray))=id:=by funext s;simp
   rw [hid,List.map_id,List.map_id] at this
   exact this
  ·intro e;rw [e]
end Go.Proofs.YtmdfjnhfhidmhaaGreatDoor
