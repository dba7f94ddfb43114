/-
  Walks and laws that the claim's theorem uses: texts EnE EnF EnG EnH ShP ShQ PbA, joined; comments out. Conditions: as each theorem says.
-/
import Derived.Test.YtjdednajelommaaGreatDoorQ02
import Derived.Shelf.Strings.OnBuilder
import Derived.Shelf.Small.Strs
import Derived.Shelf.GgClosure.StringsIndexFuncTop
import Derived.Shelf.Strings.Split
import Derived.Shelf.Slices.Equal
import Derived.Shelf.Slices.Empties2
import Derived.Test.YtjdednajelommaaGreatDoorProg
import Derived.Shelf.LaysM
import Derived.Shelf.LaysC
import Derived.Shelf.Strconv.Itoa3
import Derived.Shelf.Strconv.AtoiAll
import Derived.Shelf.Strconv.ErrVarAll
namespace Go.Proofs.YtjdednajelommaaGreatDoor
open Go.RowKit
theorem below_setRow {B:Nat} {w w':World} {g:Nat} (h:Below B w w') (hg:B≤g) (cs:Array Value):Below B w (w'.setRow g cs):=
 ⟨h.os,h.tape,h.output,by simpa using h.size,fun k hk=>by rw [setRow_other _ _ _ _ (by omega)];exact h.block k hk⟩
def zeroE:Ent:=⟨0,[],[],[],0,[],[]⟩
def getE (t:List Ent) (p:Bytes):Ent × Bool:=match getT t p with|some x=>(x,true)|none=>(zeroE,false)
def RetG (I:IH) (w:World) (x:Ent × Bool) (e:Ending) (w':World):Prop:=
 ∃va vx,e= .returned (.tuple #[entV x.1 va vx,.bool x.2])∧RdS tAt I va x.1.attrs∧RdS tXt I vx x.1.exts∧Below w.heap.size w w'
abbrev entRow (x:Ent) (va vx:Value):Array Value:= #[.int .i64 x.kind,S x.path,va,S x.target,.int .i64 x.size,S x.digest,vx]
abbrev zeroRow:Array Value:= #[.int .i64 0,.string ⟨#[]⟩,.slice none 0 0,.string ⟨#[]⟩,.int .i64 0,.string ⟨#[]⟩,.slice none 0 0]
theorem Xpo {x:Ent} {va vx:Value} {I:IH} (h1:RdS tAt I va x.attrs) (h2:RdS tXt I vx x.exts):(entRow x va vx).all (·.oneCell')=true:=by
 have e1:=h1.one
 have e2:=h2.one
 simp [entRow,e1,e2]
 exact ⟨rfl,rfl,rfl,rfl,rfl⟩
theorem Xpq (t:List Ent) (p:Bytes) (hp:p≠ []):dirErr t p=if (getE t p).2=false then 9 else if (getE t p).1.kind≠2 then 10 else 0:=by
 unfold dirErr getE
 rw [if_neg hp]
 cases getT t p<;>simp
theorem Xo0 (a b:Xt) (W:World):(binOp .neq 91 (.agg #[.int .i64 a.s,.int .i64 a.o,.int .i64 a.n]) (.agg #[.int .i64 b.s,.int .i64 b.o,.int .i64 b.n])).run Tryz.prog W= .ok (.bool (!decide (a=b))) W:=by
 rw [Xc1 _ _ [(3,0,false),(3,1,false),(3,2,false)] W (by kernel_rfl) (by kernel_rfl) (by kernel_rfl)]
 obtain ⟨a1,a2,a3⟩:=a
 obtain ⟨b1,b2,b3⟩:=b
 simp [go_sem]
 by_cases h1:a1=b1<;>by_cases h2:a2=b2<;>by_cases h3:a3=b3<;>simp [h1,h2,h3]
set_option maxRecDepth 100000 in
set_option maxHeartbeats 1000000 in
theorem Xmm (I:IH) (a b:Ent) (va vx vb vy:Value) (hva:RdS tAt I va a.attrs) (hvx:RdS tXt I vx a.exts) (hvb:RdS tAt I vb b.attrs) (hvy:RdS tXt I vy b.exts) (w:World) (hw:Ok I w):
 Calls Tryz.prog 39 #[entV a va vx,entV b vb vy] w fun e w'=>e= .returned (.bool (decide (a=b)))∧Below w.heap.size w w':=by
 have hl1:=hvx.len_le
 have hl2:=hvy.len_le
 obtain ⟨aa,ca,rfl,_,_,_⟩:=id hva
 obtain ⟨ax,cx,rfl,hcx,hcxm,_⟩:=id hvx
 obtain ⟨aa2,ca2,rfl,_,_,_⟩:=id hvb
 obtain ⟨ax2,cx2,rfl,hcy,hcym,_⟩:=id hvy
 have Hsm:=Qh (fun w hw=>Xpa I _ _ a.attrs b.attrs hva hvb w hw)
 have Hvx:=Qh hvx
 have Hvy:=Qh hvy
 clear hva hvx hvb hvy
 by_cases h1:a.kind=b.kind
 case neg=>
  have k1:((a.kind:Int) != b.kind)=true:=by simpa using h1
  have Hn:=Qh (show decide (a=b)=false from Qf fun e=>h1 (by rw [e]))
  clear h1
  go_enter Tryz.func39,Tryz.ntmps39
  go_wp2
  go_ret
  exact ⟨Xax Hn.out.symm,((Qb _ _).alloc (Qn _) _).alloc (by simp) _⟩
 have k1:((a.kind:Int) != b.kind)=false:=by simpa using h1
 by_cases h2:a.path=b.path
 case neg=>
  have k2:(a.path != b.path)=true:=by simpa using h2
  have k2':(a.path==b.path)=false:=by simpa using h2
  have Hn:=Qh (show decide (a=b)=false from Qf fun e=>h2 (by rw [e]))
  clear h2 h1
  go_enter Tryz.func39,Tryz.ntmps39
  go_wp2
  go_ret
  exact ⟨Xax Hn.out.symm,((Qb _ _).alloc (Qn _) _).alloc (by simp) _⟩
 have k2:(a.path != b.path)=false:=by simpa using h2
 have k2':(a.path==b.path)=true:=by simpa using h2
 by_cases h3:a.attrs=b.attrs
 case neg=>
  have Hn:=Qh (show decide (a=b)=false from Qf fun e=>h3 (by rw [e]))
  rw [Qf h3] at Hsm
  clear h3 h2 h1
  go_enter Tryz.func39,Tryz.ntmps39
  go_wp2_with fail
  refine (Hsm.out _ ((hw.alloc _).alloc _)).mono ?_
  rintro e w1 ⟨rfl,hb1⟩
  have hb1':Below w.heap.size w w1:=(((Qb _ _).alloc (Qn _) _).alloc (by simp) _).trans (hb1.mono (by simp;omega))
  have hB:=entB (n:=w.heap.size+1) (e:=b) (by simp) hb1
  have hA:=(EntB.past (entB (e:=a) (t:=68) rfl (Qb _ _)) (.cells #[.int .i64 b.kind,S b.path,.slice aa2 b.attrs.length ca2,S b.target,.int .i64 b.size,S b.digest,.slice ax2 b.exts.length cx2] 68)).thru hb1
  obtain ⟨c0,c1,c2,c3,c4,c5,c6⟩:=hA
  obtain ⟨d0,d1,d2,d3,d4,d5,d6⟩:=hB
  clear hb1
  go_wp2
  go_ret
  exact ⟨Xax Hn.out.symm,hb1'⟩
 rw [Qt h3] at Hsm
 by_cases h4:a.target=b.target
 case neg=>
  have k4:(a.target != b.target)=true:=by simpa using h4
  have k4':(a.target==b.target)=false:=by simpa using h4
  have Hn:=Qh (show decide (a=b)=false from Qf fun e=>h4 (by rw [e]))
  clear h4 h3 h2 h1
  go_enter Tryz.func39,Tryz.ntmps39
  go_wp2_with fail
  refine (Hsm.out _ ((hw.alloc _).alloc _)).mono ?_
  rintro e w1 ⟨rfl,hb1⟩
  have hb1':Below w.heap.size w w1:=(((Qb _ _).alloc (Qn _) _).alloc (by simp) _).trans (hb1.mono (by simp;omega))
  have hB:=entB (n:=w.heap.size+1) (e:=b) (by simp) hb1
  have hA:=(EntB.past (entB (e:=a) (t:=68) rfl (Qb _ _)) (.cells #[.int .i64 b.kind,S b.path,.slice aa2 b.attrs.length ca2,S b.target,.int .i64 b.size,S b.digest,.slice ax2 b.exts.length cx2] 68)).thru hb1
  obtain ⟨c0,c1,c2,c3,c4,c5,c6⟩:=hA
  obtain ⟨d0,d1,d2,d3,d4,d5,d6⟩:=hB
  clear hb1
  go_wp2
  go_ret
  exact ⟨Xax Hn.out.symm,hb1'⟩
 have k4:(a.target != b.target)=false:=by simpa using h4
 have k4':(a.target==b.target)=true:=by simpa using h4
 by_cases h5:a.size=b.size
 case neg=>
  have k5:((a.size:Int) != b.size)=true:=by simpa using h5
  have Hn:=Qh (show decide (a=b)=false from Qf fun e=>h5 (by rw [e]))
  clear h5 h4 h3 h2 h1
  go_enter Tryz.func39,Tryz.ntmps39
  go_wp2_with fail
  refine (Hsm.out _ ((hw.alloc _).alloc _)).mono ?_
  rintro e w1 ⟨rfl,hb1⟩
  have hb1':Below w.heap.size w w1:=(((Qb _ _).alloc (Qn _) _).alloc (by simp) _).trans (hb1.mono (by simp;omega))
  have hB:=entB (n:=w.heap.size+1) (e:=b) (by simp) hb1
  have hA:=(EntB.past (entB (e:=a) (t:=68) rfl (Qb _ _)) (.cells #[.int .i64 b.kind,S b.path,.slice aa2 b.attrs.length ca2,S b.target,.int .i64 b.size,S b.digest,.slice ax2 b.exts.length cx2] 68)).thru hb1
  obtain ⟨c0,c1,c2,c3,c4,c5,c6⟩:=hA
  obtain ⟨d0,d1,d2,d3,d4,d5,d6⟩:=hB
  clear hb1
  go_wp2
  go_ret
  exact ⟨Xax Hn.out.symm,hb1'⟩
 have k5:((a.size:Int) != b.size)=false:=by simpa using h5
 by_cases h6:a.digest=b.digest
 case neg=>
  have k6:(a.digest != b.digest)=true:=by simpa using h6
  have k6':(a.digest==b.digest)=false:=by simpa using h6
  have Hn:=Qh (show decide (a=b)=false from Qf fun e=>h6 (by rw [e]))
  clear h6 h5 h4 h3 h2 h1
  go_enter Tryz.func39,Tryz.ntmps39
  go_wp2_with fail
  refine (Hsm.out _ ((hw.alloc _).alloc _)).mono ?_
  rintro e w1 ⟨rfl,hb1⟩
  have hb1':Below w.heap.size w w1:=(((Qb _ _).alloc (Qn _) _).alloc (by simp) _).trans (hb1.mono (by simp;omega))
  have hB:=entB (n:=w.heap.size+1) (e:=b) (by simp) hb1
  have hA:=(EntB.past (entB (e:=a) (t:=68) rfl (Qb _ _)) (.cells #[.int .i64 b.kind,S b.path,.slice aa2 b.attrs.length ca2,S b.target,.int .i64 b.size,S b.digest,.slice ax2 b.exts.length cx2] 68)).thru hb1
  obtain ⟨c0,c1,c2,c3,c4,c5,c6⟩:=hA
  obtain ⟨d0,d1,d2,d3,d4,d5,d6⟩:=hB
  clear hb1
  go_wp2
  go_ret
  exact ⟨Xax Hn.out.symm,hb1'⟩
 have k6:(a.digest != b.digest)=false:=by simpa using h6
 have k6':(a.digest==b.digest)=true:=by simpa using h6
 have Hab:=Qh (show decide (a=b)=decide (a.exts=b.exts) by
  rw [decide_eq_decide]
  constructor
  ·intro e;rw [e]
  ·intro e
   cases a
   cases b
   simp_all)
 clear h6 h5 h4 h3 h2 h1
 by_cases hll:a.exts.length=b.exts.length
 case neg=>
  have k7:((a.exts.length:Int) != (b.exts.length:Int))=true:=by rw [bne_iff_ne];omega
  have Hn:=Qh (show decide (a=b)=false by rw [Hab.out,Qf];intro e;exact hll (by rw [e]))
  clear hll
  go_enter Tryz.func39,Tryz.ntmps39
  go_wp2_with fail
  refine (Hsm.out _ ((hw.alloc _).alloc _)).mono ?_
  rintro e w1 ⟨rfl,hb1⟩
  have hb1':Below w.heap.size w w1:=(((Qb _ _).alloc (Qn _) _).alloc (by simp) _).trans (hb1.mono (by simp;omega))
  have hB:=entB (n:=w.heap.size+1) (e:=b) (by simp) hb1
  have hA:=(EntB.past (entB (e:=a) (t:=68) rfl (Qb _ _)) (.cells #[.int .i64 b.kind,S b.path,.slice aa2 b.attrs.length ca2,S b.target,.int .i64 b.size,S b.digest,.slice ax2 b.exts.length cx2] 68)).thru hb1
  obtain ⟨c0,c1,c2,c3,c4,c5,c6⟩:=hA
  obtain ⟨d0,d1,d2,d3,d4,d5,d6⟩:=hB
  clear hb1
  go_wp2
  go_ret
  exact ⟨Xax Hn.out.symm,hb1'⟩
 have k7:((a.exts.length:Int) != (b.exts.length:Int))=false:=by rw [hll];simp
 have Hll:=Qh hll
 clear hll
 go_enter Tryz.func39,Tryz.ntmps39
 go_wp2_with fail
 refine (Hsm.out _ ((hw.alloc _).alloc _)).mono ?_
 rintro e w1 ⟨rfl,hb1⟩
 have hb1':Below w.heap.size w w1:=(((Qb _ _).alloc (Qn _) _).alloc (by simp) _).trans (hb1.mono (by simp;omega))
 have hB:=entB (n:=w.heap.size+1) (e:=b) (by simp) hb1
 have hA:=(EntB.past (entB (e:=a) (t:=68) rfl (Qb _ _)) (.cells #[.int .i64 b.kind,S b.path,.slice aa2 b.attrs.length ca2,S b.target,.int .i64 b.size,S b.digest,.slice ax2 b.exts.length cx2] 68)).thru hb1
 obtain ⟨c0,c1,c2,c3,c4,c5,c6⟩:=hA
 obtain ⟨d0,d1,d2,d3,d4,d5,d6⟩:=hB
 clear hb1
 have HA:=Qh (⟨c0,c1,c2,c3,c4,c5,c6⟩:EntB w1 w.heap.size a _ _)
 have HB:=Qh (⟨d0,d1,d2,d3,d4,d5,d6⟩:EntB w1 _ b _ _)
 have hok1:Ok I w1:=hw.below (Qn _) hb1'
 go_wp2_with fail
 clear c0 c1 c2 c3 c4 c5 c6 d0 d1 d2 d3 d4 d5 d6
 go_loopw [5] (fun s5 wr=> ∃k:Nat,k≤a.exts.length∧s5= .int .i64 k∧a.exts.take k=b.exts.take k∧Below w1.heap.size w1 wr) (fun i _=>a.exts.length-(intOf i).toNat)
 case atStart=>exact ⟨0,Nat.zero_le _,rfl,rfl,Qb _ _⟩
 case round=>
  obtain ⟨k,hk,rfl,hr,hb⟩:=hrel
  have Hr:=Qh hr;clear hr
  have hwr:Ok I wr:=hok1.below (Qn _) hb
  have c6:=(HA.out.thru hb).c6
  have d6:=(HB.out.thru hb).c6
  by_cases hlt:k<a.exts.length
  ·have hlt2:k<b.exts.length:=by rw [←Hll.out];exact hlt
   obtain ⟨p,bb,off,cap',hp,hvv,p0,p1,p2⟩:=xtAt Hvx.out hwr k hlt
   cases hvv
   obtain ⟨q,b',off',cap'',hq,hvv,q0,q1,q2⟩:=xtAt Hvy.out hwr k hlt2
   cases hvv
   have Hp:=Qh hp
   have Hq:=Qh hq
   have x0:=cell_regrown p0
   have x1:=cell_regrown p1
   have x2:=cell_regrown p2
   have y0:=cell_regrown q0
   have y1:=cell_regrown q1
   have y2:=cell_regrown q2
   have e6:=cell_regrown c6
   have f6:=cell_regrown d6
   clear hp hq
   have hneq:=Xo0 p q
   by_cases hpq:p=q
   ·rw [Qt hpq] at hneq
    have Hn:=Qh (show a.exts.take (k+1)=b.exts.take (k+1) by rw [List.take_succ_eq_append_getElem hlt,List.take_succ_eq_append_getElem hlt2,Hr.out,Hp.out,Hq.out,hpq])
    clear hpq
    go_wp2_with fail
    refine wp_region_quiet_below (by kernel_rfl) (by kernel_rfl) ?_
    repeat (go_big_quiet_step ((fail)))
    refine wpQuiet_nil ?_
    intro w2 hwq
    have hb2:Below (wr).heap.size (wr) w2:=by
     obtain ⟨pq,rfl⟩:=hwq
     exact below_regrown _ _ _
    clear hwq
    go_wp2
    go_roundw
    case rel=>exact ⟨k+1,by omega,by go_num,Hn.out,hb.trans (hb2.mono hb.size)⟩
    case measure=>simp [intOf];omega
   ·rw [Qf hpq] at hneq
    have Hn:=Qh (show decide (a=b)=false by
     rw [Hab.out,Qf]
     intro h
     apply hpq
     rw [←Hp.out,←Hq.out]
     simp [h])
    clear hpq
    go_wp2_with fail
    refine wp_region_quiet_below (by kernel_rfl) (by kernel_rfl) ?_
    repeat (go_big_quiet_step ((fail)))
    refine wpQuiet_nil ?_
    intro w2 hwq
    have hb2:Below (wr).heap.size (wr) w2:=by
     obtain ⟨pq,rfl⟩:=hwq
     exact below_regrown _ _ _
    clear hwq
    go_wp2
    go_ret
    exact ⟨Xax Hn.out.symm,hb1'.trans ((hb.trans (hb2.mono hb.size)).mono hb1'.size)⟩
  ·have Hn:=Qh (show decide (a=b)=true by
    have:=Hr.out
    rw [List.take_of_length_le (by omega),List.take_of_length_le (by rw [←Hll.out];omega)] at this
    rw [Hab.out,Qt this])
   go_wp2
   go_ret
   exact ⟨Xax Hn.out.symm,hb1'.trans (hb.mono hb1'.size)⟩
abbrev AllE (t:List Ent):Prop:= ∀x∈t,x.Wf
def chkTRFrom (t:List Ent):Option Ent→List Ent→Int
 |_,[]=>0
 |q,x::l=>if entErrR x≠0 then entErrR x else if x.kind≠1∧x.kind≠2∧x.kind≠3 then 10 else if (q.any fun y=> !(ltP (els y.path) (els x.path))) then 14 else if dirErr t (upP x.path)≠0 then dirErr t (upP x.path) else chkTRFrom t (some x) l
def chkTR (t:List Ent):Int:=chkTRFrom t none t
theorem Xt4 {p d:Bytes} (h:ltP (els p) (els d)=true):cmpP p d= -1:=by rw [cmpP,h];rfl
theorem Xt5 {p d:Bytes} (h:ltP (els p) (els d)=false):cmpP p d=0∨cmpP p d=1:=by
 rw [cmpP,h]
 cases ltP (els d) (els p)<;>simp
theorem Xwf {s:Bytes} (h:pathErr s=0) (hs:s≠ []):parP s=(upP s,0):=by rw [parP,if_neg (by omega),if_neg hs]
end Go.Proofs.YtjdednajelommaaGreatDoor
namespace Go.Proofs
open Go.Shelf
def Tryz.lays156_ren:Go.Shelf.Ren:=⟨fun|156=>123|165=>168|166=>140|169=>144|240=>197|241=>219|276=>242|277=>254|n=>n,fun|31=>63|9=>9|3=>3|4=>4|0=>0|20=>20|72=>181|76=>168|70=>179|37=>72|75=>167|127=>220|164=>261|5=>5|80=>183|n=>n,fun|n=>n⟩
theorem Tryz.lays156:Go.Proofs.Lays.n156 Tryz.prog Tryz.lays156_ren:= {
 mixed:=by kernel_rfl
 f156:=Tryz.func123.trans (congrArg some (by kernel_rfl))
 f165:=Tryz.func168.trans (congrArg some (by kernel_rfl))
 f166:=Tryz.func140.trans (congrArg some (by kernel_rfl))
 f169:=Tryz.func144.trans (congrArg some (by kernel_rfl))
 f240:=Tryz.func197.trans (congrArg some (by kernel_rfl))
 f241:=Tryz.func219.trans (congrArg some (by kernel_rfl))
 f276:=Tryz.func242.trans (congrArg some (by kernel_rfl))
 f277:=Tryz.func254.trans (congrArg some (by kernel_rfl))
 t0:=Tryz.underlying0
 a0:=Tryz.isAgg0
 z0:=Tryz.sizeOf0
 v0:=Tryz.zeroValue0
 t3:=Tryz.underlying3
 a3:=Tryz.isAgg3
 z3:=Tryz.sizeOf3
 v3:=Tryz.zeroValue3
 t4:=Tryz.underlying4
 a4:=Tryz.isAgg4
 z4:=Tryz.sizeOf4
 v4:=Tryz.zeroValue4
 t9:=Tryz.underlying9
 a9:=Tryz.isAgg9
 z9:=Tryz.sizeOf9
 v9:=Tryz.zeroValue9
 t20:=Tryz.underlying20
 a20:=Tryz.isAgg20
 z20:=Tryz.sizeOf20
 v20:=Tryz.zeroValue20
 t31:=Tryz.underlying63
 a31:=Tryz.isAgg63
 z31:=Tryz.sizeOf63
 v31:=Tryz.zeroValue63
 t37:=Tryz.underlying72
 a37:=Tryz.isAgg72
 z37:=Tryz.sizeOf72
 v37:=Tryz.zeroValue72
 t70:=Tryz.underlying179
 a70:=Tryz.isAgg179
 z70:=Tryz.sizeOf179
 v70:=Tryz.zeroValue179
 t72:=Tryz.underlying181
 a72:=Tryz.isAgg181
 z72:=Tryz.sizeOf181
 v72:=Tryz.zeroValue181
 t75:=Tryz.underlying167
 a75:=Tryz.isAgg167
 z75:=Tryz.sizeOf167
 v75:=Tryz.zeroValue167
 t76:=Tryz.underlying168
 a76:=Tryz.isAgg168
 z76:=Tryz.sizeOf168
 v76:=Tryz.zeroValue168
 t127:=Tryz.underlying220
 a127:=Tryz.isAgg220
 z127:=Tryz.sizeOf220
 v127:=Tryz.zeroValue220
 t164:=Tryz.underlying261
 a164:=Tryz.isAgg261
 z164:=Tryz.sizeOf261
 v164:=Tryz.zeroValue261 }
theorem Tryz.Builder_Extra_156:Builder.Extra Tryz.prog Tryz.lays156_ren:= {
 sizeBuilder:=by kernel_rfl
 liesBuilder:=by kernel_rfl
 t5:=Tryz.underlying5
 a5:=Tryz.isAgg5
 z5:=Tryz.sizeOf5
 v5:=Tryz.zeroValue5
 infoByte:=by kernel_rfl
 cellsByte:=by kernel_rfl
 sizeByte:=by kernel_rfl
 neB5:=by decide }
open Go.RowKit in
theorem Tryz.strings_Join_none (a:Option Addr) (c:Nat) (sep:ByteArray) (w:World):
 Calls Tryz.prog 123 #[.slice a 0 c,.string sep] w fun e w'=>e= .returned (.string ⟨#[]⟩)∧w'=w:=Any.strings_Join_none Tryz.lays156 Tryz.Builder_Extra_156 a c sep w
open Go.RowKit in
theorem Tryz.strings_Join (bk o c:Nat) (xs:List ByteArray) (sep:ByteArray) (w:World) (hcells:∀(j:Nat) x,xs[j]? =some x→w.cell? ⟨bk,o+j,none⟩=some (.string x)) (hbk:bk<w.heap.size) (hN:xs.length≤140737488355328) (hcap:xs.length≤c) (hlen:(Lib.join (xs.map (·.data.toList)) sep.data.toList).length≤140737488355328):
 Calls Tryz.prog 123 #[.slice (some ⟨bk,o,none⟩) xs.length c,.string sep] w fun e w'=>e= .returned (.string ⟨(Lib.join (xs.map (·.data.toList)) sep.data.toList).toArray⟩)∧Below w.heap.size w w':=Any.strings_Join Tryz.lays156 Tryz.Builder_Extra_156 bk o c xs sep w hcells hbk hN hcap hlen
def Tryz.lays106_ren:Go.Shelf.Ren:=⟨fun|106=>166|213=>218|265=>253|n=>n,fun|9=>9|3=>3|n=>n,fun|n=>n⟩
theorem Tryz.lays106:Go.Proofs.Lays.n106 Tryz.prog Tryz.lays106_ren:= {
 mixed:=by kernel_rfl
 f106:=Tryz.func166.trans (congrArg some (by kernel_rfl))
 f213:=Tryz.func218.trans (congrArg some (by kernel_rfl))
 f265:=Tryz.func253.trans (congrArg some (by kernel_rfl))
 t3:=Tryz.underlying3
 a3:=Tryz.isAgg3
 z3:=Tryz.sizeOf3
 v3:=Tryz.zeroValue3
 t9:=Tryz.underlying9
 a9:=Tryz.isAgg9
 z9:=Tryz.sizeOf9
 v9:=Tryz.zeroValue9 }
open Go.RowKit in
theorem Tryz.strings_Compare (a b:ByteArray) (w:World):
 Calls Tryz.prog 166 #[.string a,.string b] w fun e w'=>e= .returned (.int .i64 (Lib.compareBytes a.data.toList b.data.toList))∧w'=w:=Any.strings_Compare Tryz.lays106 a b w
def Tryz.laysGw17_ren:Go.Shelf.Ren:=⟨fun|17=>214|15=>252|20=>266|n=>n,fun|9=>9|23=>239|4=>4|3=>3|0=>0|21=>21|n=>n,fun|n=>n⟩
theorem Tryz.laysGw17:Go.Proofs.LaysGw.n17 Tryz.prog Tryz.laysGw17_ren:= {
 mixed:=by kernel_rfl
 f15:=Tryz.func252.trans (congrArg some (by kernel_rfl))
 f17:=Tryz.func214.trans (congrArg some (by kernel_rfl))
 f20:=Tryz.func266.trans (congrArg some (by kernel_rfl))
 t0:=Tryz.underlying0
 a0:=Tryz.isAgg0
 z0:=Tryz.sizeOf0
 v0:=Tryz.zeroValue0
 i0:=by kernel_rfl
 t3:=Tryz.underlying3
 a3:=Tryz.isAgg3
 z3:=Tryz.sizeOf3
 v3:=Tryz.zeroValue3
 i3:=by kernel_rfl
 t4:=Tryz.underlying4
 a4:=Tryz.isAgg4
 z4:=Tryz.sizeOf4
 v4:=Tryz.zeroValue4
 i4:=by kernel_rfl
 t9:=Tryz.underlying9
 a9:=Tryz.isAgg9
 z9:=Tryz.sizeOf9
 v9:=Tryz.zeroValue9
 i9:=by kernel_rfl
 t21:=Tryz.underlying21
 a21:=Tryz.isAgg21
 z21:=Tryz.sizeOf21
 v21:=Tryz.zeroValue21
 i21:=by kernel_rfl
 t23:=Tryz.underlying239
 a23:=Tryz.isAgg239
 z23:=Tryz.sizeOf239
 v23:=Tryz.zeroValue239
 i23:=by kernel_rfl }
open Go.RowKit Go.Lib in
theorem Tryz.strings_ContainsFunc (g:Nat) (lb:Array Value) (eg:∀args w,(callFunc g args).run Tryz.prog w= .ok (.enter g args) w) (p:Nat→Bool) (s:ByteArray) (w:World) (hp:PredAt Tryz.prog g lb encR p w):
 Calls Tryz.prog 214 #[.string s,.func (.func g) #[] lb] w fun e w'=>e= .returned (.bool (decide (0≤Lib.idxFunc p true s)))∧Below w.heap.size w w':=Any.strings_ContainsFunc Tryz.laysGw17 g lb eg p s w hp
def Tryz.lays146_ren:Go.Shelf.Ren:=⟨fun|146=>169|221=>220|268=>255|138=>256|143=>257|195=>267|197=>223|218=>268|219=>269|260=>258|217=>280|225=>273|224=>272|267=>281|266=>286|314=>287|n=>n,fun|9=>9|31=>63|3=>3|4=>4|0=>0|105=>243|21=>21|5=>5|46=>162|119=>286|139=>289|138=>288|146=>266|51=>25|n=>n,fun|1=>0|3=>3|4=>4|n=>n⟩
theorem Tryz.lays146:Go.Proofs.Lays.n146 Tryz.prog Tryz.lays146_ren:= {
 mixed:=by kernel_rfl
 f138:=Tryz.func256.trans (congrArg some (by kernel_rfl))
 f143:=Tryz.func257.trans (congrArg some (by kernel_rfl))
 f146:=Tryz.func169.trans (congrArg some (by kernel_rfl))
 f195:=Tryz.func267.trans (congrArg some (by kernel_rfl))
 f197:=Tryz.func223.trans (congrArg some (by kernel_rfl))
 f217:=Tryz.func280.trans (congrArg some (by kernel_rfl))
 f218:=Tryz.func268.trans (congrArg some (by kernel_rfl))
 f219:=Tryz.func269.trans (congrArg some (by kernel_rfl))
 f221:=Tryz.func220.trans (congrArg some (by kernel_rfl))
 f224:=Tryz.func272.trans (congrArg some (by kernel_rfl))
 f225:=Tryz.func273.trans (congrArg some (by kernel_rfl))
 f260:=Tryz.func258.trans (congrArg some (by kernel_rfl))
 f266:=Tryz.func286.trans (congrArg some (by kernel_rfl))
 f267:=Tryz.func281.trans (congrArg some (by kernel_rfl))
 f268:=Tryz.func255.trans (congrArg some (by kernel_rfl))
 f314:=Tryz.func287.trans (congrArg some (by kernel_rfl))
 t0:=Tryz.underlying0
 a0:=Tryz.isAgg0
 z0:=Tryz.sizeOf0
 v0:=Tryz.zeroValue0
 t3:=Tryz.underlying3
 a3:=Tryz.isAgg3
 z3:=Tryz.sizeOf3
 v3:=Tryz.zeroValue3
 t4:=Tryz.underlying4
 a4:=Tryz.isAgg4
 z4:=Tryz.sizeOf4
 v4:=Tryz.zeroValue4
 t5:=Tryz.underlying5
 a5:=Tryz.isAgg5
 z5:=Tryz.sizeOf5
 v5:=Tryz.zeroValue5
 t9:=Tryz.underlying9
 a9:=Tryz.isAgg9
 z9:=Tryz.sizeOf9
 v9:=Tryz.zeroValue9
 t21:=Tryz.underlying21
 a21:=Tryz.isAgg21
 z21:=Tryz.sizeOf21
 v21:=Tryz.zeroValue21
 t31:=Tryz.underlying63
 a31:=Tryz.isAgg63
 z31:=Tryz.sizeOf63
 v31:=Tryz.zeroValue63
 t46:=Tryz.underlying162
 a46:=Tryz.isAgg162
 z46:=Tryz.sizeOf162
 v46:=Tryz.zeroValue162
 t51:=Tryz.underlying25
 a51:=Tryz.isAgg25
 z51:=Tryz.sizeOf25
 v51:=Tryz.zeroValue25
 t105:=Tryz.underlying243
 a105:=Tryz.isAgg243
 z105:=Tryz.sizeOf243
 v105:=Tryz.zeroValue243
 t119:=Tryz.underlying286
 a119:=Tryz.isAgg286
 z119:=Tryz.sizeOf286
 t138:=Tryz.underlying288
 a138:=Tryz.isAgg288
 z138:=Tryz.sizeOf288
 v138:=Tryz.zeroValue288
 t139:=Tryz.underlying289
 a139:=Tryz.isAgg289
 z139:=Tryz.sizeOf289
 v139:=Tryz.zeroValue289
 t146:=Tryz.underlying266
 a146:=Tryz.isAgg266
 z146:=Tryz.sizeOf266
 v146:=Tryz.zeroValue266
 g1:=by kernel_rfl
 g3:=by kernel_rfl
 g4:=by kernel_rfl }
open Go.RowKit Go.Lib in
theorem Tryz.strings_Split (s sep:ByteArray) (m:Int) (w:World) (hs:s.size<4294967281) (hm:w.cell? ⟨0,0,none⟩=some (.int .i64 m)) (h1:1≤sep.size):
 Calls Tryz.prog 169 #[.string s,.string sep] w fun e w'=>
  e= .returned (.slice (some ⟨w.heap.size,0,none⟩) (Lib.countB s sep+1) (Lib.countB s sep+1))∧w'=w.alloc (.cells ((Lib.splitB sep 0 (Lib.countB s sep) s).map Value.string).toArray 9):=Any.strings_Split Tryz.lays146 (by kernel_rfl) s sep m w hs hm h1
def Tryz.lays193_ren:Go.Shelf.Ren:=⟨fun|193=>122|n=>n,fun|31=>63|9=>9|4=>4|3=>3|0=>0|n=>n,fun|n=>n⟩
theorem Tryz.lays193:Go.Proofs.Lays.n193 Tryz.prog Tryz.lays193_ren:= {
 mixed:=by kernel_rfl
 f193:=Tryz.func122.trans (congrArg some (by kernel_rfl))
 t0:=Tryz.underlying0
 a0:=Tryz.isAgg0
 z0:=Tryz.sizeOf0
 v0:=Tryz.zeroValue0
 t3:=Tryz.underlying3
 a3:=Tryz.isAgg3
 z3:=Tryz.sizeOf3
 v3:=Tryz.zeroValue3
 t4:=Tryz.underlying4
 a4:=Tryz.isAgg4
 z4:=Tryz.sizeOf4
 v4:=Tryz.zeroValue4
 t9:=Tryz.underlying9
 a9:=Tryz.isAgg9
 z9:=Tryz.sizeOf9
 v9:=Tryz.zeroValue9
 t31:=Tryz.underlying63
 a31:=Tryz.isAgg63
 z31:=Tryz.sizeOf63
 v31:=Tryz.zeroValue63 }
open Go.RowKit Go.Lib in
theorem Tryz.slices_Equal_string (b1 o1 n c b2 o2 m d:Nat) (xs ys:List ByteArray) (w:World) (hx:n≤xs.length) (hy:m≤ys.length) (hbig:n≤9223372036854775807) (hbig2:m≤9223372036854775807) (hc1:∀j,j<xs.length→w.cell? ⟨b1,o1+j,none⟩=some (.string (xs.getD j ByteArray.empty))) (hc2:∀j,j<ys.length→w.cell? ⟨b2,o2+j,none⟩=some (.string (ys.getD j ByteArray.empty))):
 Calls Tryz.prog 122 #[.slice (some ⟨b1,o1,none⟩) n c,.slice (some ⟨b2,o2,none⟩) m d] w fun e w'=>e= .returned (.bool (decide (xs.take n=ys.take m)))∧ ∃q,w'=w.drewN q:=Any.slices_Equal_string Tryz.lays193 b1 o1 n c b2 o2 m d xs ys w hx hy hbig hbig2 hc1 hc2
open Go.RowKit Go.Lib in
theorem Tryz.slices_Equal_string_empty (a1 a2:Option Addr) (c m d:Nat) (w:World) (hbig2:m≤9223372036854775807):
 Calls Tryz.prog 122 #[.slice a1 0 c,.slice a2 m d] w fun e w'=>e= .returned (.bool (decide (m=0)))∧w'=w:=Any.slices_Equal_string_empty Tryz.lays193 a1 a2 c m d w hbig2
open Go.RowKit Go.Lib in
theorem Tryz.slices_Equal_string_lens (a1 a2:Option Addr) (n c m d:Nat) (w:World) (hnm:n≠m):
 Calls Tryz.prog 122 #[.slice a1 n c,.slice a2 m d] w fun e w'=>e= .returned (.bool false)∧w'=w:=Any.slices_Equal_string_lens Tryz.lays193 a1 a2 n c m d w hnm
end Go.Proofs
namespace Go.Proofs
open Go.Shelf
def Tryz.laysM171_ren:Go.Shelf.Ren:=⟨fun|171=>198|243=>243|246=>265|283=>276|284=>277|285=>278|286=>279|129=>191|317=>282|318=>283|319=>284|320=>285|337=>288|338=>289|n=>n,fun|3=>3|9=>9|2=>2|4=>4|171=>295|0=>0|53=>188|37=>72|5=>5|173=>297|212=>300|51=>25|20=>20|213=>301|46=>162|232=>303|233=>304|n=>n,fun|17=>5|18=>6|19=>7|n=>n⟩
theorem Tryz.laysM171:Go.Proofs.LaysM.n171 Tryz.prog Tryz.laysM171_ren:= {
 mixed:=by kernel_rfl
 f129:=Tryz.func191.trans (congrArg some (by kernel_rfl))
 f171:=Tryz.func198.trans (congrArg some (by kernel_rfl))
 f243:=Tryz.func243.trans (congrArg some (by kernel_rfl))
 f246:=Tryz.func265.trans (congrArg some (by kernel_rfl))
 f283:=Tryz.func276.trans (congrArg some (by kernel_rfl))
 f284:=Tryz.func277.trans (congrArg some (by kernel_rfl))
 f285:=Tryz.func278.trans (congrArg some (by kernel_rfl))
 f286:=Tryz.func279.trans (congrArg some (by kernel_rfl))
 f317:=Tryz.func282.trans (congrArg some (by kernel_rfl))
 f318:=Tryz.func283.trans (congrArg some (by kernel_rfl))
 f319:=Tryz.func284.trans (congrArg some (by kernel_rfl))
 f320:=Tryz.func285.trans (congrArg some (by kernel_rfl))
 f337:=Tryz.func288.trans (congrArg some (by kernel_rfl))
 f338:=Tryz.func289.trans (congrArg some (by kernel_rfl))
 t0:=Tryz.underlying0
 a0:=Tryz.isAgg0
 z0:=Tryz.sizeOf0
 v0:=Tryz.zeroValue0
 t2:=Tryz.underlying2
 a2:=Tryz.isAgg2
 z2:=Tryz.sizeOf2
 v2:=Tryz.zeroValue2
 t3:=Tryz.underlying3
 a3:=Tryz.isAgg3
 z3:=Tryz.sizeOf3
 v3:=Tryz.zeroValue3
 t4:=Tryz.underlying4
 a4:=Tryz.isAgg4
 z4:=Tryz.sizeOf4
 v4:=Tryz.zeroValue4
 t5:=Tryz.underlying5
 a5:=Tryz.isAgg5
 z5:=Tryz.sizeOf5
 v5:=Tryz.zeroValue5
 t9:=Tryz.underlying9
 a9:=Tryz.isAgg9
 z9:=Tryz.sizeOf9
 v9:=Tryz.zeroValue9
 t20:=Tryz.underlying20
 a20:=Tryz.isAgg20
 z20:=Tryz.sizeOf20
 v20:=Tryz.zeroValue20
 t37:=Tryz.underlying72
 a37:=Tryz.isAgg72
 z37:=Tryz.sizeOf72
 v37:=Tryz.zeroValue72
 t46:=Tryz.underlying162
 a46:=Tryz.isAgg162
 z46:=Tryz.sizeOf162
 v46:=Tryz.zeroValue162
 t51:=Tryz.underlying25
 a51:=Tryz.isAgg25
 z51:=Tryz.sizeOf25
 v51:=Tryz.zeroValue25
 t53:=Tryz.underlying188
 a53:=Tryz.isAgg188
 z53:=Tryz.sizeOf188
 v53:=Tryz.zeroValue188
 t171:=Tryz.underlying295
 a171:=Tryz.isAgg295
 z171:=Tryz.sizeOf295
 v171:=Tryz.zeroValue295
 t173:=Tryz.underlying297
 a173:=Tryz.isAgg297
 z173:=Tryz.sizeOf297
 v173:=Tryz.zeroValue297
 t212:=Tryz.underlying300
 a212:=Tryz.isAgg300
 z212:=Tryz.sizeOf300
 v212:=Tryz.zeroValue300
 t213:=Tryz.underlying301
 a213:=Tryz.isAgg301
 z213:=Tryz.sizeOf301
 t232:=Tryz.underlying303
 a232:=Tryz.isAgg303
 z232:=Tryz.sizeOf303
 v232:=Tryz.zeroValue303
 t233:=Tryz.underlying304
 a233:=Tryz.isAgg304
 z233:=Tryz.sizeOf304
 v233:=Tryz.zeroValue304
 g17:=by kernel_rfl
 g18:=by kernel_rfl
 g19:=by kernel_rfl
 i0:=by kernel_rfl
 i2:=by kernel_rfl
 i3:=by kernel_rfl
 i4:=by kernel_rfl
 i5:=by kernel_rfl
 i9:=by kernel_rfl
 i20:=by kernel_rfl
 i37:=by kernel_rfl
 i46:=by kernel_rfl
 i51:=by kernel_rfl
 i53:=by kernel_rfl
 i171:=by kernel_rfl
 i173:=by kernel_rfl
 i212:=by kernel_rfl
 i232:=by kernel_rfl
 i233:=by kernel_rfl
 m17:=by kernel_rfl
 m18:=by kernel_rfl
 m19:=by kernel_rfl }
open Go.RowKit Go.Sort Go.Lib in
theorem Tryz.strconv_Itoa (n : Int) (h0 : -9223372036854775808 ≤ n) (h1 : n ≤ 9223372036854775807) (w : World) (htab : Lib.TabIs Tryz.prog w "internal/strconv.uint64pow10" .u64 Lib.pow10Tab) :
 Calls Tryz.prog 198 #[.int .i64 n] w fun e w'=>e= .returned (.string ⟨(Lib.itoa n).toArray⟩)∧ ∃k os,w'=grow (w.drewN k) os:=Any.strconv_Itoa Tryz.laysM171 n h0 h1 w htab
def Tryz.laysC172_ren:Go.Shelf.Ren:=⟨fun|172=>130|244=>179|245=>180|247=>226|279=>227|280=>228|281=>229|282=>230|287=>261|316=>262|171=>198|205=>263|321=>274|322=>275|243=>243|246=>265|283=>276|284=>277|285=>278|286=>279|129=>191|317=>282|318=>283|319=>284|320=>285|337=>288|338=>289|n=>n,fun|9=>9|3=>3|75=>167|76=>168|4=>4|5=>5|167=>246|37=>72|0=>0|85=>247|2=>2|168=>249|53=>188|175=>275|46=>162|210=>278|127=>220|145=>294|143=>292|21=>21|171=>295|173=>297|212=>300|51=>25|20=>20|213=>301|232=>303|233=>304|80=>183|n=>n,fun|15=>1|16=>2|17=>5|18=>6|19=>7|n=>n⟩
theorem Tryz.laysC172:Go.Proofs.LaysC.n172 Tryz.prog Tryz.laysC172_ren:= {
 mixed:=by kernel_rfl
 f129:=Tryz.func191.trans (congrArg some (by kernel_rfl))
 f171:=Tryz.func198.trans (congrArg some (by kernel_rfl))
 f172:=Tryz.func130.trans (congrArg some (by kernel_rfl))
 f205:=Tryz.func263.trans (congrArg some (by kernel_rfl))
 f243:=Tryz.func243.trans (congrArg some (by kernel_rfl))
 f244:=Tryz.func179.trans (congrArg some (by kernel_rfl))
 f245:=Tryz.func180.trans (congrArg some (by kernel_rfl))
 f246:=Tryz.func265.trans (congrArg some (by kernel_rfl))
 f247:=Tryz.func226.trans (congrArg some (by kernel_rfl))
 f279:=Tryz.func227.trans (congrArg some (by kernel_rfl))
 f280:=Tryz.func228.trans (congrArg some (by kernel_rfl))
 f281:=Tryz.func229.trans (congrArg some (by kernel_rfl))
 f282:=Tryz.func230.trans (congrArg some (by kernel_rfl))
 f283:=Tryz.func276.trans (congrArg some (by kernel_rfl))
 f284:=Tryz.func277.trans (congrArg some (by kernel_rfl))
 f285:=Tryz.func278.trans (congrArg some (by kernel_rfl))
 f286:=Tryz.func279.trans (congrArg some (by kernel_rfl))
 f287:=Tryz.func261.trans (congrArg some (by kernel_rfl))
 f316:=Tryz.func262.trans (congrArg some (by kernel_rfl))
 f317:=Tryz.func282.trans (congrArg some (by kernel_rfl))
 f318:=Tryz.func283.trans (congrArg some (by kernel_rfl))
 f319:=Tryz.func284.trans (congrArg some (by kernel_rfl))
 f320:=Tryz.func285.trans (congrArg some (by kernel_rfl))
 f321:=Tryz.func274.trans (congrArg some (by kernel_rfl))
 f322:=Tryz.func275.trans (congrArg some (by kernel_rfl))
 f337:=Tryz.func288.trans (congrArg some (by kernel_rfl))
 f338:=Tryz.func289.trans (congrArg some (by kernel_rfl))
 t0:=Tryz.underlying0
 a0:=Tryz.isAgg0
 z0:=Tryz.sizeOf0
 v0:=Tryz.zeroValue0
 t2:=Tryz.underlying2
 a2:=Tryz.isAgg2
 z2:=Tryz.sizeOf2
 v2:=Tryz.zeroValue2
 t3:=Tryz.underlying3
 a3:=Tryz.isAgg3
 z3:=Tryz.sizeOf3
 v3:=Tryz.zeroValue3
 t4:=Tryz.underlying4
 a4:=Tryz.isAgg4
 z4:=Tryz.sizeOf4
 v4:=Tryz.zeroValue4
 t5:=Tryz.underlying5
 a5:=Tryz.isAgg5
 z5:=Tryz.sizeOf5
 v5:=Tryz.zeroValue5
 t9:=Tryz.underlying9
 a9:=Tryz.isAgg9
 z9:=Tryz.sizeOf9
 v9:=Tryz.zeroValue9
 t20:=Tryz.underlying20
 a20:=Tryz.isAgg20
 z20:=Tryz.sizeOf20
 v20:=Tryz.zeroValue20
 t21:=Tryz.underlying21
 a21:=Tryz.isAgg21
 z21:=Tryz.sizeOf21
 v21:=Tryz.zeroValue21
 t37:=Tryz.underlying72
 a37:=Tryz.isAgg72
 z37:=Tryz.sizeOf72
 v37:=Tryz.zeroValue72
 t46:=Tryz.underlying162
 a46:=Tryz.isAgg162
 z46:=Tryz.sizeOf162
 v46:=Tryz.zeroValue162
 t51:=Tryz.underlying25
 a51:=Tryz.isAgg25
 z51:=Tryz.sizeOf25
 v51:=Tryz.zeroValue25
 t53:=Tryz.underlying188
 a53:=Tryz.isAgg188
 z53:=Tryz.sizeOf188
 v53:=Tryz.zeroValue188
 t75:=Tryz.underlying167
 a75:=Tryz.isAgg167
 z75:=Tryz.sizeOf167
 v75:=Tryz.zeroValue167
 t76:=Tryz.underlying168
 a76:=Tryz.isAgg168
 z76:=Tryz.sizeOf168
 v76:=Tryz.zeroValue168
 t85:=Tryz.underlying247
 a85:=Tryz.isAgg247
 z85:=Tryz.sizeOf247
 v85:=Tryz.zeroValue247
 t127:=Tryz.underlying220
 a127:=Tryz.isAgg220
 z127:=Tryz.sizeOf220
 v127:=Tryz.zeroValue220
 t143:=Tryz.underlying292
 a143:=Tryz.isAgg292
 z143:=Tryz.sizeOf292
 v143:=Tryz.zeroValue292
 t145:=Tryz.underlying294
 a145:=Tryz.isAgg294
 z145:=Tryz.sizeOf294
 v145:=Tryz.zeroValue294
 t167:=Tryz.underlying246
 a167:=Tryz.isAgg246
 z167:=Tryz.sizeOf246
 v167:=Tryz.zeroValue246
 t168:=Tryz.underlying249
 a168:=Tryz.isAgg249
 z168:=Tryz.sizeOf249
 v168:=Tryz.zeroValue249
 t171:=Tryz.underlying295
 a171:=Tryz.isAgg295
 z171:=Tryz.sizeOf295
 v171:=Tryz.zeroValue295
 t173:=Tryz.underlying297
 a173:=Tryz.isAgg297
 z173:=Tryz.sizeOf297
 v173:=Tryz.zeroValue297
 t175:=Tryz.underlying275
 a175:=Tryz.isAgg275
 z175:=Tryz.sizeOf275
 v175:=Tryz.zeroValue275
 t210:=Tryz.underlying278
 a210:=Tryz.isAgg278
 z210:=Tryz.sizeOf278
 v210:=Tryz.zeroValue278
 t212:=Tryz.underlying300
 a212:=Tryz.isAgg300
 z212:=Tryz.sizeOf300
 v212:=Tryz.zeroValue300
 t213:=Tryz.underlying301
 a213:=Tryz.isAgg301
 z213:=Tryz.sizeOf301
 t232:=Tryz.underlying303
 a232:=Tryz.isAgg303
 z232:=Tryz.sizeOf303
 v232:=Tryz.zeroValue303
 t233:=Tryz.underlying304
 a233:=Tryz.isAgg304
 z233:=Tryz.sizeOf304
 v233:=Tryz.zeroValue304
 g15:=by kernel_rfl
 g16:=by kernel_rfl
 g17:=by kernel_rfl
 g18:=by kernel_rfl
 g19:=by kernel_rfl
 t80:=Tryz.underlying183
 a80:=Tryz.isAgg183
 z80:=Tryz.sizeOf183
 v80:=Tryz.zeroValue183
 i0:=by kernel_rfl
 i2:=by kernel_rfl
 i3:=by kernel_rfl
 i4:=by kernel_rfl
 i5:=by kernel_rfl
 i9:=by kernel_rfl
 i20:=by kernel_rfl
 i21:=by kernel_rfl
 i37:=by kernel_rfl
 i46:=by kernel_rfl
 i51:=by kernel_rfl
 i53:=by kernel_rfl
 i75:=by kernel_rfl
 i76:=by kernel_rfl
 i80:=by kernel_rfl
 i85:=by kernel_rfl
 i127:=by kernel_rfl
 i143:=by kernel_rfl
 i145:=by kernel_rfl
 i167:=by kernel_rfl
 i168:=by kernel_rfl
 i171:=by kernel_rfl
 i173:=by kernel_rfl
 i175:=by kernel_rfl
 i210:=by kernel_rfl
 i212:=by kernel_rfl
 i232:=by kernel_rfl
 i233:=by kernel_rfl
 m15:=by kernel_rfl
 m16:=by kernel_rfl
 m17:=by kernel_rfl
 m18:=by kernel_rfl
 m19:=by kernel_rfl
 c0:=by kernel_rfl
 c2:=by kernel_rfl
 c3:=by kernel_rfl
 c4:=by kernel_rfl
 c5:=by kernel_rfl
 c9:=by kernel_rfl
 c20:=by kernel_rfl
 c21:=by kernel_rfl
 c37:=by kernel_rfl
 c46:=by kernel_rfl
 c51:=by kernel_rfl
 c53:=by kernel_rfl
 c75:=by kernel_rfl
 c76:=by kernel_rfl
 c80:=by kernel_rfl
 c85:=by kernel_rfl
 c127:=by kernel_rfl
 c143:=by kernel_rfl
 c145:=by kernel_rfl
 c167:=by kernel_rfl
 c168:=by kernel_rfl
 c171:=by kernel_rfl
 c173:=by kernel_rfl
 c175:=by kernel_rfl
 c210:=by kernel_rfl
 c212:=by kernel_rfl
 c213:=by kernel_rfl
 c232:=by kernel_rfl
 c233:=by kernel_rfl }
open Go.RowKit in
theorem Tryz.strconv_Atoi_ok (s:ByteArray) (hmax:s.size≤9223372036854775806) (v:Int) (h:Lib.atoiAll s.data.toList= .ok v) (w:World):
 Calls Tryz.prog 130 #[.string s] w fun e w'=>e= .returned (.tuple #[.int .i64 v,.nilIface])∧(w'=w∨ ∃t,w'=Lib.bytesWorld w 5 t):=Any.strconv_Atoi_ok Tryz.laysC172 s hmax v h w
open Go.RowKit in
theorem Tryz.strconv_Atoi_syntax_var (s : ByteArray) (hlim : s.size ≤ 281474976710656) (h : ∀ n, Lib.atoiAll s.data.toList ≠ .ok n) (hr : Lib.atoiAll s.data.toList ≠ .range) (tp : TypeId) (p : Value) (w : World) (hvar : w.var? Tryz.prog "strconv.ErrSyntax" = some #[.iface tp p]) :
 Calls Tryz.prog 130 #[.string s] w fun e w'=> ∃N,e= .returned (.tuple #[.int .i64 0,.iface 249 (.pointer (some ⟨N,0,none⟩))])∧w.heap.size≤N∧w'.heap[N]? =some (.cells #[.string ⟨#[65,116,111,105]⟩,.string s,.iface tp p] 278 (0,0))∧Below w.heap.size w w':=by
 cases hq:Lib.atoiAll s.data.toList
 ·exact absurd hq (h _)
 ·exact Any.strconv_Atoi_syntax_var Tryz.laysC172 s hlim hq tp p w hvar
 ·exact absurd hq hr
open Go.RowKit in
theorem Tryz.strconv_Atoi_range_var (s : ByteArray) (hlim : s.size ≤ 281474976710656) (h : Lib.atoiAll s.data.toList = .range) (tp : TypeId) (p : Value) (w : World) (hvar : w.var? Tryz.prog "strconv.ErrRange" = some #[.iface tp p]) :
 Calls Tryz.prog 130 #[.string s] w fun e w'=> ∃N,e= .returned (.tuple #[.int .i64 (Lib.atoiSat s.data.toList),.iface 249 (.pointer (some ⟨N,0,none⟩))])∧w.heap.size≤N∧w'.heap[N]? =some (.cells #[.string ⟨#[65,116,111,105]⟩,.string s,.iface tp p] 278 (0,0))∧Below w.heap.size w w':=Any.strconv_Atoi_range_var Tryz.laysC172 s hlim h tp p w hvar
end Go.Proofs
namespace Go.Proofs.YtjdednajelommaaGreatDoor
open Go.RowKit
theorem Xnc (w:World) (q:Nat):Below w.heap.size w (w.drewN q):=⟨rfl,rfl,rfl,Qn _,fun _ _=>rfl⟩
structure Glob (I:IH):Prop where
 pow:I 5=some (Lib.pow10Tab.map fun z=>Value.int .u64 z).toArray
 max:∃c m,I 0=some c∧c[0]? =some (.int .i64 m)
 syn:∃tp p,I 1=some #[.iface tp p]
 rng:∃tp p,I 2=some #[.iface tp p]
theorem Glob.mono {I I':IH} (h:Glob I) (k:∀b c,I b=some c→I' b=some c):Glob I':=
 ⟨k _ _ h.pow,(let ⟨c,m,h1,h2⟩:=h.max;⟨c,m,k _ _ h1,h2⟩),(let ⟨tp,p,h1⟩:=h.syn;⟨tp,p,k _ _ h1⟩),(let ⟨tp,p,h1⟩:=h.rng;⟨tp,p,k _ _ h1⟩)⟩
theorem Glob.maxlen {I:IH} {w:World} (h:Glob I) (hw:Ok I w):∃m,w.cell? ⟨0,0,none⟩=some (.int .i64 m):=by
 obtain ⟨c,m,h1,h2⟩:=h.max
 exact ⟨m,by rw [hw.cell h1];exact h2⟩
theorem Xti (l:List ByteArray):(l.map (·.data.toList)).map (fun b=>Value.string ⟨b.toArray⟩)=l.map Value.string:=by
 rw [List.map_map]
 apply List.map_congr_left
 intro b _
 simp
set_option maxRecDepth 100000 in
theorem Xq8 (I:IH) (hI:Glob I) (s:Bytes) (hs:s.length≤4294967280) (w:World) (hw:Ok I w):
 Calls Tryz.prog 169 #[S s,S [47]] w (RetS tStr I w (elsGo [] s)):=by
 obtain ⟨m,hm⟩:=hI.maxlen hw
 have hsz:(⟨s.toArray⟩:ByteArray).size=s.length:=by simp [ByteArray.size]
 refine (Tryz.strings_Split ⟨s.toArray⟩ ⟨[47].toArray⟩ m w (by omega) hm (by decide)).mono fun e w' ⟨he,hq⟩=> ?_
 have hspl:=Xqb s
 have hdat:=Lib.splitB_data ⟨[47].toArray⟩ 0 (Lib.countB ⟨s.toArray⟩ ⟨[47].toArray⟩) ⟨s.toArray⟩
 have hall:(Lib.splitB ⟨[47].toArray⟩ 0 (Lib.countB ⟨s.toArray⟩ ⟨[47].toArray⟩) ⟨s.toArray⟩).map (·.data.toList)=elsGo [] s:=by rw [hdat,←hspl];rfl
 have hlen:Lib.countB ⟨s.toArray⟩ ⟨[47].toArray⟩+1=(elsGo [] s).length:=by
  rw [←hall,List.length_map]
  exact (Lib.splitB_all ⟨[47].toArray⟩ (by decide) 0 _ ⟨s.toArray⟩ rfl).symm
 have hcells:((Lib.splitB ⟨[47].toArray⟩ 0 (Lib.countB ⟨s.toArray⟩ ⟨[47].toArray⟩) ⟨s.toArray⟩).map Value.string)=(elsGo [] s).map fun b=>S b:=by
  rw [←hall,Xti]
 have hcl:Lib.countB ⟨s.toArray⟩ ⟨[47].toArray⟩≤s.length:=by
  have:=Lib.countB_le ⟨[47].toArray⟩ (by decide) _ ⟨s.toArray⟩ (Qn _)
  rwa [hsz] at this
 rw [hcells] at hq
 rw [hlen] at he
 have hmax:(elsGo [] s).length≤9223372036854775807:=by omega
 generalize elsGo [] s=l at*
 subst hq
 have hb:=heap_alloc_new w (.cells (l.map fun b=>S b).toArray 9)
 refine ⟨_,I.add w.heap.size (l.map fun b=>S b).toArray,he,(Qb _ _).alloc (Qn _) _,Ext.add (Qn _) _ _,(hw.alloc _).add hb,_,l.length,rfl,Qn _,hmax,fun _=>⟨w.heap.size,0,(l.map fun b=>S b).toArray,rfl,by simp [IH.add],fun i hi=>⟨[S l[i]],rfl,fun j u hu=> ?_⟩⟩⟩
 have hj:j=0:=by have:=(List.getElem?_eq_some_iff.1 hu).1;simp at this;exact this
 subst hj
 obtain rfl:S l[i]=u:=by simpa using hu
 show ((l.map fun b=>S b).toArray)[0+(i*1+0)]? =_
 rw [show 0+(i*1+0)=i by omega,List.getElem?_toArray,List.getElem?_map,List.getElem?_eq_getElem hi]
 rfl
set_option maxRecDepth 100000 in
theorem Xga (g:Nat) (p:Nat→Bool) (s:Bytes) (w:World) (eg:∀args w,(callFunc g args).run Tryz.prog w= .ok (.enter g args) w) (hp:∀(x:Nat) (W:World),Calls Tryz.prog g #[.int .i32 (x:Int)] W fun e w'=>e= .returned (.bool (p x))∧w'=W):
 Calls Tryz.prog 214 #[S s,.func (.func g) #[] #[]] w fun e w'=>e= .returned (.bool (decide (0≤Lib.idxFunc p true ⟨s.toArray⟩)))∧Below w.heap.size w w':=
 Tryz.strings_ContainsFunc g #[] eg p ⟨s.toArray⟩ w fun W x _=>by
  have:=hp x W
  exact this.mono fun e w' ⟨h1,h2⟩=>⟨h1,0,h2⟩
set_option maxRecDepth 100000 in
theorem Xtm (I:IH) (v:Value) (l:List Bytes) (hv:RdS tStr I v l) (hj:(joinP l).length≤4294967296) (hn:l.length≤4294967296) (w:World) (hw:Ok I w):
 Calls Tryz.prog 123 #[v,S [47]] w fun e w'=>e= .returned (S (joinP l))∧Below w.heap.size w w':=by
 obtain ⟨ao,cap,rfl,hcap,hcm,hh⟩:=id hv
 by_cases h0:l= []
 ·subst h0
  exact (Tryz.strings_Join_none ao cap ⟨[47].toArray⟩ w).mono fun e w' ⟨h1,h2⟩=>⟨h1,by rw [h2];exact Qb _ _⟩
 ·have hpos:0<l.length:=List.length_pos_iff.2 h0
  obtain ⟨b,off,arr,rfl,hI,hl⟩:=hh hpos
  have hx:(l.map fun s=>(⟨s.toArray⟩:ByteArray)).map (·.data.toList)=l:=by
   rw [List.map_map]
   conv=>rhs;rw [←List.map_id l]
   apply List.map_congr_left
   intro b _
   simp
  have hjl:Lib.join ((l.map fun s=>(⟨s.toArray⟩:ByteArray)).map (·.data.toList)) (⟨[47].toArray⟩:ByteArray).data.toList=joinP l:=by rw [hx];exact Xtn l
  have h:=Tryz.strings_Join b off cap (l.map fun s=>⟨s.toArray⟩) ⟨[47].toArray⟩ w (fun j x hx=> ?_) (hw.lt hI) (by rw [List.length_map];omega) (by rw [List.length_map];exact hcap) (by rw [hjl];omega)
  ·rw [hjl,List.length_map] at h
   exact h
  ·rw [List.getElem?_map] at hx
   cases hlj:l[j]? with
   |none=>rw [hlj] at hx;simp at hx
   |some s=>
    rw [hlj] at hx
    simp at hx
    subst hx
    obtain ⟨hjl,hlj⟩:=List.getElem?_eq_some_iff.1 hlj
    obtain ⟨cs,h1,h2⟩:=hl j hjl
    have hcs:cs= [S l[j]]:=h1
    have:=h2 0 (S l[j]) (by rw [hcs];rfl)
    rw [hw.cell hI,←hlj]
    simpa [tStr,Ty.flat] using this
set_option maxRecDepth 100000 in
theorem Xra (I:IH) (v1 v2:Value) (l m:List Bytes) (hv1:RdS tStr I v1 l) (hv2:RdS tStr I v2 m) (w:World) (hw:Ok I w):
 Calls Tryz.prog 122 #[v1,v2] w fun e w'=>e= .returned (.bool (decide (l=m)))∧Below w.heap.size w w':=by
 have hb1:=hv1.len_le
 have hb2:=hv2.len_le
 obtain ⟨ao,cap,rfl,hcap,hcm,hh⟩:=id hv1
 obtain ⟨ao2,cap2,rfl,hcap2,hcm2,hh2⟩:=id hv2
 by_cases hlm:l.length=m.length
 case neg=>
  refine (Tryz.slices_Equal_string_lens ao ao2 l.length cap m.length cap2 w hlm).mono fun e w' ⟨h1,h2⟩=>⟨?_,by rw [h2];exact Qb _ _⟩
  rw [h1,Qf]
  intro e;exact hlm (by rw [e])
 by_cases h0:l= []
 ·subst h0
  have hm:m= []:=List.eq_nil_of_length_eq_zero (by rw [←hlm];rfl)
  subst hm
  exact (Tryz.slices_Equal_string_empty ao ao2 cap 0 cap2 w (by decide)).mono fun e w' ⟨h1,h2⟩=>⟨h1,by rw [h2];exact Qb _ _⟩
 ·have hpos:0<l.length:=List.length_pos_iff.2 h0
  obtain ⟨b,off,arr,rfl,hI,hl⟩:=hh hpos
  obtain ⟨b2,off2,arr2,rfl,hI2,hl2⟩:=hh2 (by omega)
  have cellsOf:∀(l:List Bytes) (b off:Nat) (arr:Array Value),I b=some arr→Lies tStr I arr off l→ ∀j,j<(l.map fun s=>(⟨s.toArray⟩:ByteArray)).length→w.cell? ⟨b,off+j,none⟩=some (.string ((l.map fun s=>(⟨s.toArray⟩:ByteArray)).getD j ByteArray.empty)):=by
   intro l b off arr hI hl j hj
   rw [List.length_map] at hj
   obtain ⟨cs,h1,h2⟩:=hl j hj
   have hcs:cs= [S l[j]]:=h1
   have:=h2 0 (S l[j]) (by rw [hcs];rfl)
   rw [hw.cell hI,List.getD_eq_getElem?_getD,List.getElem?_map,List.getElem?_eq_getElem hj]
   simpa [tStr,Ty.flat] using this
  have h:=Tryz.slices_Equal_string b off l.length cap b2 off2 m.length cap2 (l.map fun s=>⟨s.toArray⟩) (m.map fun s=>⟨s.toArray⟩) w (by rw [List.length_map];exact Qn _) (by rw [List.length_map];exact Qn _) hb1 hb2 (cellsOf l b off arr hI hl) (cellsOf m b2 off2 arr2 hI2 hl2)
  refine h.mono fun e w' ⟨h1,q,h2⟩=>⟨?_,by rw [h2];exact Xnc _ _⟩
  rw [h1]
  congr 2
  rw [decide_eq_decide,List.take_of_length_le (by simp),List.take_of_length_le (by simp)]
  constructor
  ·intro e
   have:=congrArg (List.map fun b:ByteArray=>b.data.toList) e
   rw [List.map_map,List.map_map] at this
   have hid:((fun b:ByteArray=>b.data.toList) ∘ fun s:Bytes=>(⟨s.toArray⟩:ByteArray))=id:=by funext s;simp
   rw [hid,List.map_id,List.map_id] at this
   exact this
  ·intro e;rw [e]
end Go.Proofs.YtjdednajelommaaGreatDoor
