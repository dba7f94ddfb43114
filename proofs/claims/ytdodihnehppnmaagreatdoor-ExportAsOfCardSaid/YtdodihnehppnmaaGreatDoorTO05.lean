/-
  Walks and laws that the claim's theorem uses: texts EnE EnF EnG EnH ShP ShQ PbA PbB PbC PbD AtBx ShT AtK, joined; comments out. Conditions: as each theorem says.
-/
import Derived.Test.YtdodihnehppnmaaGreatDoorTO04
import Derived.Shelf.Strings.OnBuilder
import Derived.Shelf.Small.Strs
import Derived.Shelf.GgClosure.StringsIndexFuncTop
import Derived.Shelf.Strings.Split
import Derived.Shelf.Slices.Equal
import Derived.Shelf.Slices.Empties2
import Derived.Test.YtdodihnehppnmaaGreatDoorProg
import Derived.Shelf.LaysM
import Derived.Shelf.LaysC
import Derived.Shelf.Strconv.Itoa3
import Derived.Shelf.Strconv.AtoiAll
import Derived.Shelf.Strconv.ErrVarAll
import Derived.Shelf.Strings.SlTrimAscii
set_option linter.all false
namespace Go.Proofs.YtdodihnehppnmaaGreatDoor
open Go.RowKit
theorem below_setRow {B:Nat} {w w':World} {g:Nat} (h:Below B w w') (hg:B≤g) (cs:Array Value):Below B w (w'.setRow g cs):=
 ⟨h.os,h.tape,h.output,by simpa using h.size,fun k hk=>by rw [setRow_other _ _ _ _ (by omega)];exact h.block k hk⟩
def zeroE:Ent:=⟨0,[],[],[],0,[],[]⟩
def getE (t:List Ent) (p:Bytes):Ent × Bool:=match getT t p with|some x=>(x,true)|none=>(zeroE,false)
def RetG (I:IH) (w:World) (x:Ent × Bool) (e:Ending) (w':World):Prop:=
 ∃va vx,e= .returned (.tuple #[entV x.1 va vx,.bool x.2])∧RdS tAt I va x.1.attrs∧RdS tXt I vx x.1.exts∧Below w.heap.size w w'
abbrev entRow (x:Ent) (va vx:Value):Array Value:= #[.int .i64 x.kind,S x.path,va,S x.target,.int .i64 x.size,S x.digest,vx]
abbrev zeroRow:Array Value:= #[.int .i64 0,.string ⟨#[]⟩,.slice none 0 0,.string ⟨#[]⟩,.int .i64 0,.string ⟨#[]⟩,.slice none 0 0]
theorem Xjd {x:Ent} {va vx:Value} {I:IH} (h1:RdS tAt I va x.attrs) (h2:RdS tXt I vx x.exts):(entRow x va vx).all (·.oneCell')=true:=by
 have e1:=h1.one
 have e2:=h2.one
 simp [entRow,e1,e2]
 exact ⟨rfl,rfl,rfl,rfl,rfl⟩
set_option maxRecDepth 100000 in
set_option maxHeartbeats 1000000 in
theorem Xcl (I:IH) (v:Value) (t:List Ent) (hv:RdS tEnt I v t) (p:Bytes) (w:World) (hw:Ok I w):
 Calls Tryz.prog 144 #[v,S p] w (RetG I w (getE t p)):=by
 have hlen:=hv.len_le
 obtain ⟨ao,cap,rfl,hcap,hcm,_⟩:=id hv
 have Hv:=Qh hv;clear hv
 have hi7:(Tryz.prog.info? 26).map (·.size)=some 7:=by kernel_rfl
 have Hz:=Qh (heap_alloc_new w (.cells zeroRow 26))
 go_enter Tryz.func144,Tryz.ntmps144
 go_wp2_with fail
 go_loopw [10] (fun s10 wr=> ∃k:Nat,k≤t.length∧s10= .int .i64 k∧getT t p=getT (t.drop k) p∧Below w.heap.size w wr∧w.heap.size<wr.heap.size∧wr.heap[w.heap.size]? =some (.cells zeroRow 26 (0,0))) (fun i _=>t.length-(intOf i).toNat)
 case atStart=>exact ⟨0,Nat.zero_le _,rfl,rfl,(Qb _ _).alloc (Qn _) _,by simp,Hz.out⟩
 case round=>
  clear Hz
  obtain ⟨k,hk,rfl,hr,hb,hsz,hz⟩:=hrel
  have Hr:=Qh hr
  have Hz:=Qh hz
  clear hr hz
  have hwr:Ok I wr:=hw.below (Qn _) hb
  by_cases hlt:k<t.length
  ·obtain ⟨x,va,vx,b,off,cap',hlx,hvv,⟨c0,c1,c2,c3,c4,c5,c6⟩,h1,h2⟩:=Xbu Hv.out hwr k hlt
   cases hvv
   have Hst:=Qh (show getT t p=if (x.path==p) then some x else getT (t.drop (k+1)) p by
    rw [Hr.out,List.drop_eq_getElem_cons hlt,hlx,getT,List.find?_cons];cases (x.path==p)<;>rfl)
   obtain ⟨aa,ca,rfl,_,_,_⟩:=id h1
   obtain ⟨ax,cx,rfl,_,_,_⟩:=id h2
   have H1:=Qh h1
   have H2:=Qh h2
   clear hlx h1 h2
   cases he:(x.path==p)
   ·have Hn:=Qh (show getT t p=getT (t.drop (k+1)) p by rw [Hst.out,he];rfl)
    go_wp2
    go_roundw
    case rel=>exact ⟨k+1,by omega,by go_num,Hn.out,hb.alloc hb.size _,by simp;omega,(Below.heap_alloc wr _ _ hsz).trans Hz.out⟩
    case measure=>simp [intOf];omega
   ·have Hn:=Qh (show getE t p=(x,true) by rw [getE,Hst.out,he];rfl)
    have hz1:(wr.alloc (.cells (entRow x (.slice aa x.attrs.length ca) (.slice ax x.exts.length cx)) 26)).heap[w.heap.size]? =some (.cells zeroRow 26 (0,0)):=(Below.heap_alloc wr _ _ hsz).trans Hz.out
    have Hz1:=Qh hz1
    have hone:=Xjd H1.out H2.out
    clear hz1
    go_wp2_with (refine wpList_store_row rfl 26 _ _ rfl w.heap.size (entRow x (.slice aa x.attrs.length ca) (.slice ax x.exts.length cx)) rfl rfl 26 zeroRow Hz1.out hi7 rfl hone ?_)
    try simp only [Exit.inBlock,Exit.then]
    refine bodyPost_ret (v:= .tuple #[entV x (.slice aa x.attrs.length ca) (.slice ax x.exts.length cx),.bool true]) ?_ rfl ?_
    ·rw [results_cell_tmp rfl]
     simp [asAddr,run_loadVar_row _ w.heap.size 26 26 (entRow x (.slice aa x.attrs.length ca) (.slice ax x.exts.length cx)) (0,0) _ (setRow_heap _ _ _ _ _ _ Hz1.out) Tryz.underlying26 rfl hi7]
    ·rw [Hn.out]
     exact ⟨_,_,rfl,H1.out,H2.out,below_setRow (hb.alloc hb.size _) (Qn _) _⟩
  ·have Hn:=Qh (show getE t p=(zeroE,false) by rw [getE,Hr.out,List.drop_of_length_le (by omega)];rfl)
   have hzo:zeroRow.all (·.oneCell')=true:=by simp [Value.oneCell']
   go_wp2_with (refine wpList_store_row rfl 26 _ _ rfl w.heap.size zeroRow rfl rfl 26 zeroRow Hz.out hi7 rfl hzo ?_)
   try simp only [Exit.inBlock,Exit.then]
   refine bodyPost_ret (v:= .tuple #[.agg zeroRow,.bool false]) ?_ rfl ?_
   ·rw [results_cell_tmp rfl]
    simp [asAddr,run_loadVar_row _ w.heap.size 26 26 zeroRow (0,0) _ (setRow_heap _ _ _ _ _ _ Hz.out) Tryz.underlying26 rfl hi7]
   ·rw [Hn.out]
    exact ⟨.slice none 0 0,.slice none 0 0,rfl,RdS.nil _ _,RdS.nil _ _,below_setRow hb (Qn _) _⟩
theorem Xjf (t:List Ent) (p:Bytes) (hp:p≠ []):dirErr t p=if (getE t p).2=false then 9 else if (getE t p).1.kind≠2 then 10 else 0:=by
 unfold dirErr getE
 rw [if_neg hp]
 cases getT t p<;>simp
set_option maxRecDepth 100000 in
set_option maxHeartbeats 400000 in
theorem Xq6 (I:IH) (v:Value) (t:List Ent) (hv:RdS tEnt I v t) (p:Bytes) (w:World) (hw:Ok I w):
 Calls Tryz.prog 111 #[v,S p] w fun e w'=>e= .returned (.int .i64 (dirErr t p))∧Below w.heap.size w w':=by
 obtain ⟨ao,cap,rfl,hcap,hcm,_⟩:=id hv
 have Hv:=Qh hv;clear hv
 by_cases hp:p= []
 ·obtain ⟨p1,p2,p3,p4⟩:=Xdv hp
  have Hn:=Qh (show dirErr t p=0 by rw [dirErr,if_pos hp])
  clear hp
  go_enter Tryz.func111,Tryz.ntmps111
  go_wp2
  go_ret
  exact ⟨Xac Hn.out.symm,Qb _ _⟩
 ·obtain ⟨p1,p2,p3,p4⟩:=Xcw hp
  have Hn:=Qh (Xjf t p hp)
  have Hg:=Qh (Xcl I _ t Hv.out p w hw)
  clear hp
  generalize getE t p=g at Hn Hg
  obtain ⟨x,b⟩:=g
  go_enter Tryz.func111,Tryz.ntmps111
  go_wp2_with fail
  refine Hg.out.mono ?_
  rintro e w1 ⟨va,vx,rfl,h1,h2,hb1⟩
  obtain ⟨aa,ca,rfl,_,_,_⟩:=id h1
  obtain ⟨ax,cx,rfl,_,_,_⟩:=id h2
  clear h1 h2
  cases b
  ·have Hn2:=Qh (show dirErr t p=9 by rw [Hn.out];rfl)
   go_wp2
   go_ret
   exact ⟨Xac Hn2.out.symm,hb1.alloc hb1.size _⟩
  ·by_cases hk:x.kind=2
   ·have k1:((x.kind:Int) != 2)=false:=by simpa using hk
    have Hn2:=Qh (show dirErr t p=0 by rw [Hn.out];simp [hk])
    clear hk
    go_wp2
    go_ret
    exact ⟨Xac Hn2.out.symm,hb1.alloc hb1.size _⟩
   ·have k1:((x.kind:Int) != 2)=true:=by simpa using hk
    have Hn2:=Qh (show dirErr t p=10 by rw [Hn.out];simp [hk])
    clear hk
    go_wp2
    go_ret
    exact ⟨Xac Hn2.out.symm,hb1.alloc hb1.size _⟩
abbrev AllE (t:List Ent):Prop:= ∀x∈t,x.Wf
def chkTRFrom (t:List Ent):Option Ent→List Ent→Int
 |_,[]=>0
 |q,x::l=>if entErrR x≠0 then entErrR x else if x.kind≠1∧x.kind≠2∧x.kind≠3 then 10 else if (q.any fun y=> !(ltP (els y.path) (els x.path))) then 14 else if dirErr t (upP x.path)≠0 then dirErr t (upP x.path) else chkTRFrom t (some x) l
def chkTR (t:List Ent):Int:=chkTRFrom t none t
theorem Xpe {p d:Bytes} (h:ltP (els p) (els d)=true):cmpP p d= -1:=by rw [cmpP,h];rfl
theorem Xpf {p d:Bytes} (h:ltP (els p) (els d)=false):cmpP p d=0∨cmpP p d=1:=by
 rw [cmpP,h]
 cases ltP (els d) (els p)<;>simp
theorem Xnc {s:Bytes} (h:pathErr s=0) (hs:s≠ []):parP s=(upP s,0):=by rw [parP,if_neg (by omega),if_neg hs]
theorem Xor {t:List Ent} {k:Nat} (h:∀y∈t.take k,pathErr y.path=0) {x:Ent} (hk:k<t.length) (hx:t[k]=x) (he:pathErr x.path=0):∀y∈t.take (k+1),pathErr y.path=0:=by
 intro y hy
 rw [List.take_succ_eq_append_getElem hk,List.mem_append] at hy
 rcases hy with hy|hy
 ·exact h y hy
 ·simp at hy;rw [hy,hx];exact he
def rightT (t:List Ent):Int:=if 60<t.length then 0 else if chkTR t≠0 then 0 else if t.any greatE then 0 else 1
end Go.Proofs.YtdodihnehppnmaaGreatDoor
namespace Go.Proofs
open Go.Shelf
def Tryz.lays156_ren:Go.Shelf.Ren:=⟨fun|156=>72|165=>123|166=>40|169=>44|240=>95|241=>190|276=>147|277=>255|n=>n,fun|31=>60|9=>9|3=>3|4=>4|0=>0|20=>20|72=>77|76=>80|70=>74|37=>75|75=>79|127=>141|164=>184|5=>5|80=>84|n=>n,fun|n=>n⟩
theorem Tryz.lays156:Go.Proofs.Lays.n156 Tryz.prog Tryz.lays156_ren:= {
 mixed:=by kernel_rfl
 f156:=Tryz.func72.trans (congrArg some (by kernel_rfl))
 f165:=Tryz.func123.trans (congrArg some (by kernel_rfl))
 f166:=Tryz.func40.trans (congrArg some (by kernel_rfl))
 f169:=Tryz.func44.trans (congrArg some (by kernel_rfl))
 f240:=Tryz.func95.trans (congrArg some (by kernel_rfl))
 f241:=Tryz.func190.trans (congrArg some (by kernel_rfl))
 f276:=Tryz.func147.trans (congrArg some (by kernel_rfl))
 f277:=Tryz.func255.trans (congrArg some (by kernel_rfl))
 t0:=Tryz.underlying0
 a0:=Tryz.isAgg0
 z0:=Tryz.sizeOf0
 v0:=Tryz.zeroValue0
 t3:=Tryz.underlying3
 a3:=Tryz.isAgg3
 z3:=Tryz.sizeOf3
 v3:=Tryz.zeroValue3
 t4:=Tryz.underlying4
 a4:=Tryz.isAgg4
 z4:=Tryz.sizeOf4
 v4:=Tryz.zeroValue4
 t9:=Tryz.underlying9
 a9:=Tryz.isAgg9
 z9:=Tryz.sizeOf9
 v9:=Tryz.zeroValue9
 t20:=Tryz.underlying20
 a20:=Tryz.isAgg20
 z20:=Tryz.sizeOf20
 v20:=Tryz.zeroValue20
 t31:=Tryz.underlying60
 a31:=Tryz.isAgg60
 z31:=Tryz.sizeOf60
 v31:=Tryz.zeroValue60
 t37:=Tryz.underlying75
 a37:=Tryz.isAgg75
 z37:=Tryz.sizeOf75
 v37:=Tryz.zeroValue75
 t70:=Tryz.underlying74
 a70:=Tryz.isAgg74
 z70:=Tryz.sizeOf74
 v70:=Tryz.zeroValue74
 t72:=Tryz.underlying77
 a72:=Tryz.isAgg77
 z72:=Tryz.sizeOf77
 v72:=Tryz.zeroValue77
 t75:=Tryz.underlying79
 a75:=Tryz.isAgg79
 z75:=Tryz.sizeOf79
 v75:=Tryz.zeroValue79
 t76:=Tryz.underlying80
 a76:=Tryz.isAgg80
 z76:=Tryz.sizeOf80
 v76:=Tryz.zeroValue80
 t127:=Tryz.underlying141
 a127:=Tryz.isAgg141
 z127:=Tryz.sizeOf141
 v127:=Tryz.zeroValue141
 t164:=Tryz.underlying184
 a164:=Tryz.isAgg184
 z164:=Tryz.sizeOf184
 v164:=Tryz.zeroValue184 }
theorem Tryz.Builder_Extra_156:Builder.Extra Tryz.prog Tryz.lays156_ren:= {
 sizeBuilder:=by kernel_rfl
 liesBuilder:=by kernel_rfl
 t5:=Tryz.underlying5
 a5:=Tryz.isAgg5
 z5:=Tryz.sizeOf5
 v5:=Tryz.zeroValue5
 infoByte:=by kernel_rfl
 cellsByte:=by kernel_rfl
 sizeByte:=by kernel_rfl
 neB5:=by decide }
open Go.RowKit in
theorem Tryz.strings_Join_none (a:Option Addr) (c:Nat) (sep:ByteArray) (w:World):
 Calls Tryz.prog 72 #[.slice a 0 c,.string sep] w fun e w'=>e= .returned (.string ⟨#[]⟩)∧w'=w:=Any.strings_Join_none Tryz.lays156 Tryz.Builder_Extra_156 a c sep w
open Go.RowKit in
theorem Tryz.strings_Join (bk o c:Nat) (xs:List ByteArray) (sep:ByteArray) (w:World) (hcells:∀(j:Nat) x,xs[j]? =some x→w.cell? ⟨bk,o+j,none⟩=some (.string x)) (hbk:bk<w.heap.size) (hN:xs.length≤140737488355328) (hcap:xs.length≤c) (hlen:(Lib.join (xs.map (·.data.toList)) sep.data.toList).length≤140737488355328):
 Calls Tryz.prog 72 #[.slice (some ⟨bk,o,none⟩) xs.length c,.string sep] w fun e w'=>e= .returned (.string ⟨(Lib.join (xs.map (·.data.toList)) sep.data.toList).toArray⟩)∧Below w.heap.size w w':=Any.strings_Join Tryz.lays156 Tryz.Builder_Extra_156 bk o c xs sep w hcells hbk hN hcap hlen
def Tryz.lays106_ren:Go.Shelf.Ren:=⟨fun|106=>198|213=>261|265=>283|n=>n,fun|9=>9|3=>3|n=>n,fun|n=>n⟩
theorem Tryz.lays106:Go.Proofs.Lays.n106 Tryz.prog Tryz.lays106_ren:= {
 mixed:=by kernel_rfl
 f106:=Tryz.func198.trans (congrArg some (by kernel_rfl))
 f213:=Tryz.func261.trans (congrArg some (by kernel_rfl))
 f265:=Tryz.func283.trans (congrArg some (by kernel_rfl))
 t3:=Tryz.underlying3
 a3:=Tryz.isAgg3
 z3:=Tryz.sizeOf3
 v3:=Tryz.zeroValue3
 t9:=Tryz.underlying9
 a9:=Tryz.isAgg9
 z9:=Tryz.sizeOf9
 v9:=Tryz.zeroValue9 }
open Go.RowKit in
theorem Tryz.strings_Compare (a b:ByteArray) (w:World):
 Calls Tryz.prog 198 #[.string a,.string b] w fun e w'=>e= .returned (.int .i64 (Lib.compareBytes a.data.toList b.data.toList))∧w'=w:=Any.strings_Compare Tryz.lays106 a b w
def Tryz.laysGw17_ren:Go.Shelf.Ren:=⟨fun|17=>257|15=>282|20=>296|n=>n,fun|9=>9|23=>263|4=>4|3=>3|0=>0|21=>21|n=>n,fun|n=>n⟩
theorem Tryz.laysGw17:Go.Proofs.LaysGw.n17 Tryz.prog Tryz.laysGw17_ren:= {
 mixed:=by kernel_rfl
 f15:=Tryz.func282.trans (congrArg some (by kernel_rfl))
 f17:=Tryz.func257.trans (congrArg some (by kernel_rfl))
 f20:=Tryz.func296.trans (congrArg some (by kernel_rfl))
 t0:=Tryz.underlying0
 a0:=Tryz.isAgg0
 z0:=Tryz.sizeOf0
 v0:=Tryz.zeroValue0
 i0:=by kernel_rfl
 t3:=Tryz.underlying3
 a3:=Tryz.isAgg3
 z3:=Tryz.sizeOf3
 v3:=Tryz.zeroValue3
 i3:=by kernel_rfl
 t4:=Tryz.underlying4
 a4:=Tryz.isAgg4
 z4:=Tryz.sizeOf4
 v4:=Tryz.zeroValue4
 i4:=by kernel_rfl
 t9:=Tryz.underlying9
 a9:=Tryz.isAgg9
 z9:=Tryz.sizeOf9
 v9:=Tryz.zeroValue9
 i9:=by kernel_rfl
 t21:=Tryz.underlying21
 a21:=Tryz.isAgg21
 z21:=Tryz.sizeOf21
 v21:=Tryz.zeroValue21
 i21:=by kernel_rfl
 t23:=Tryz.underlying263
 a23:=Tryz.isAgg263
 z23:=Tryz.sizeOf263
 v23:=Tryz.zeroValue263
 i23:=by kernel_rfl }
open Go.RowKit Go.Lib in
theorem Tryz.strings_ContainsFunc (g:Nat) (lb:Array Value) (eg:∀args w,(callFunc g args).run Tryz.prog w= .ok (.enter g args) w) (p:Nat→Bool) (s:ByteArray) (w:World) (hp:PredAt Tryz.prog g lb encR p w):
 Calls Tryz.prog 257 #[.string s,.func (.func g) #[] lb] w fun e w'=>e= .returned (.bool (decide (0≤Lib.idxFunc p true s)))∧Below w.heap.size w w':=Any.strings_ContainsFunc Tryz.laysGw17 g lb eg p s w hp
def Tryz.lays146_ren:Go.Shelf.Ren:=⟨fun|146=>188|221=>254|268=>280|138=>281|143=>64|195=>294|197=>269|218=>295|219=>112|260=>288|217=>169|225=>170|224=>171|267=>172|266=>237|314=>238|n=>n,fun|9=>9|31=>60|3=>3|4=>4|0=>0|105=>271|21=>21|5=>5|46=>116|119=>295|139=>298|138=>297|146=>214|51=>110|n=>n,fun|1=>0|3=>4|4=>5|n=>n⟩
theorem Tryz.lays146:Go.Proofs.Lays.n146 Tryz.prog Tryz.lays146_ren:= {
 mixed:=by kernel_rfl
 f138:=Tryz.func281.trans (congrArg some (by kernel_rfl))
 f143:=Tryz.func64.trans (congrArg some (by kernel_rfl))
 f146:=Tryz.func188.trans (congrArg some (by kernel_rfl))
 f195:=Tryz.func294.trans (congrArg some (by kernel_rfl))
 f197:=Tryz.func269.trans (congrArg some (by kernel_rfl))
 f217:=Tryz.func169.trans (congrArg some (by kernel_rfl))
 f218:=Tryz.func295.trans (congrArg some (by kernel_rfl))
 f219:=Tryz.func112.trans (congrArg some (by kernel_rfl))
 f221:=Tryz.func254.trans (congrArg some (by kernel_rfl))
 f224:=Tryz.func171.trans (congrArg some (by kernel_rfl))
 f225:=Tryz.func170.trans (congrArg some (by kernel_rfl))
 f260:=Tryz.func288.trans (congrArg some (by kernel_rfl))
 f266:=Tryz.func237.trans (congrArg some (by kernel_rfl))
 f267:=Tryz.func172.trans (congrArg some (by kernel_rfl))
 f268:=Tryz.func280.trans (congrArg some (by kernel_rfl))
 f314:=Tryz.func238.trans (congrArg some (by kernel_rfl))
 t0:=Tryz.underlying0
 a0:=Tryz.isAgg0
 z0:=Tryz.sizeOf0
 v0:=Tryz.zeroValue0
 t3:=Tryz.underlying3
 a3:=Tryz.isAgg3
 z3:=Tryz.sizeOf3
 v3:=Tryz.zeroValue3
 t4:=Tryz.underlying4
 a4:=Tryz.isAgg4
 z4:=Tryz.sizeOf4
 v4:=Tryz.zeroValue4
 t5:=Tryz.underlying5
 a5:=Tryz.isAgg5
 z5:=Tryz.sizeOf5
 v5:=Tryz.zeroValue5
 t9:=Tryz.underlying9
 a9:=Tryz.isAgg9
 z9:=Tryz.sizeOf9
 v9:=Tryz.zeroValue9
 t21:=Tryz.underlying21
 a21:=Tryz.isAgg21
 z21:=Tryz.sizeOf21
 v21:=Tryz.zeroValue21
 t31:=Tryz.underlying60
 a31:=Tryz.isAgg60
 z31:=Tryz.sizeOf60
 v31:=Tryz.zeroValue60
 t46:=Tryz.underlying116
 a46:=Tryz.isAgg116
 z46:=Tryz.sizeOf116
 v46:=Tryz.zeroValue116
 t51:=Tryz.underlying110
 a51:=Tryz.isAgg110
 z51:=Tryz.sizeOf110
 v51:=Tryz.zeroValue110
 t105:=Tryz.underlying271
 a105:=Tryz.isAgg271
 z105:=Tryz.sizeOf271
 v105:=Tryz.zeroValue271
 t119:=Tryz.underlying295
 a119:=Tryz.isAgg295
 z119:=Tryz.sizeOf295
 t138:=Tryz.underlying297
 a138:=Tryz.isAgg297
 z138:=Tryz.sizeOf297
 v138:=Tryz.zeroValue297
 t139:=Tryz.underlying298
 a139:=Tryz.isAgg298
 z139:=Tryz.sizeOf298
 v139:=Tryz.zeroValue298
 t146:=Tryz.underlying214
 a146:=Tryz.isAgg214
 z146:=Tryz.sizeOf214
 v146:=Tryz.zeroValue214
 g1:=by kernel_rfl
 g3:=by kernel_rfl
 g4:=by kernel_rfl }
open Go.RowKit Go.Lib in
theorem Tryz.strings_Split (s sep:ByteArray) (m:Int) (w:World) (hs:s.size<4294967281) (hm:w.cell? ⟨0,0,none⟩=some (.int .i64 m)) (h1:1≤sep.size):
 Calls Tryz.prog 188 #[.string s,.string sep] w fun e w'=>
  e= .returned (.slice (some ⟨w.heap.size,0,none⟩) (Lib.countB s sep+1) (Lib.countB s sep+1))∧w'=w.alloc (.cells ((Lib.splitB sep 0 (Lib.countB s sep) s).map Value.string).toArray 9):=Any.strings_Split Tryz.lays146 (by kernel_rfl) s sep m w hs hm h1
def Tryz.lays193_ren:Go.Shelf.Ren:=⟨fun|193=>134|n=>n,fun|31=>60|9=>9|4=>4|3=>3|0=>0|n=>n,fun|n=>n⟩
theorem Tryz.lays193:Go.Proofs.Lays.n193 Tryz.prog Tryz.lays193_ren:= {
 mixed:=by kernel_rfl
 f193:=Tryz.func134.trans (congrArg some (by kernel_rfl))
 t0:=Tryz.underlying0
 a0:=Tryz.isAgg0
 z0:=Tryz.sizeOf0
 v0:=Tryz.zeroValue0
 t3:=Tryz.underlying3
 a3:=Tryz.isAgg3
 z3:=Tryz.sizeOf3
 v3:=Tryz.zeroValue3
 t4:=Tryz.underlying4
 a4:=Tryz.isAgg4
 z4:=Tryz.sizeOf4
 v4:=Tryz.zeroValue4
 t9:=Tryz.underlying9
 a9:=Tryz.isAgg9
 z9:=Tryz.sizeOf9
 v9:=Tryz.zeroValue9
 t31:=Tryz.underlying60
 a31:=Tryz.isAgg60
 z31:=Tryz.sizeOf60
 v31:=Tryz.zeroValue60 }
open Go.RowKit Go.Lib in
theorem Tryz.slices_Equal_string (b1 o1 n c b2 o2 m d:Nat) (xs ys:List ByteArray) (w:World) (hx:n≤xs.length) (hy:m≤ys.length) (hbig:n≤9223372036854775807) (hbig2:m≤9223372036854775807) (hc1:∀j,j<xs.length→w.cell? ⟨b1,o1+j,none⟩=some (.string (xs.getD j ByteArray.empty))) (hc2:∀j,j<ys.length→w.cell? ⟨b2,o2+j,none⟩=some (.string (ys.getD j ByteArray.empty))):
 Calls Tryz.prog 134 #[.slice (some ⟨b1,o1,none⟩) n c,.slice (some ⟨b2,o2,none⟩) m d] w fun e w'=>e= .returned (.bool (decide (xs.take n=ys.take m)))∧ ∃q,w'=w.drewN q:=Any.slices_Equal_string Tryz.lays193 b1 o1 n c b2 o2 m d xs ys w hx hy hbig hbig2 hc1 hc2
open Go.RowKit Go.Lib in
theorem Tryz.slices_Equal_string_empty (a1 a2:Option Addr) (c m d:Nat) (w:World) (hbig2:m≤9223372036854775807):
 Calls Tryz.prog 134 #[.slice a1 0 c,.slice a2 m d] w fun e w'=>e= .returned (.bool (decide (m=0)))∧w'=w:=Any.slices_Equal_string_empty Tryz.lays193 a1 a2 c m d w hbig2
open Go.RowKit Go.Lib in
theorem Tryz.slices_Equal_string_lens (a1 a2:Option Addr) (n c m d:Nat) (w:World) (hnm:n≠m):
 Calls Tryz.prog 134 #[.slice a1 n c,.slice a2 m d] w fun e w'=>e= .returned (.bool false)∧w'=w:=Any.slices_Equal_string_lens Tryz.lays193 a1 a2 n c m d w hnm
end Go.Proofs
namespace Go.Proofs
open Go.Shelf
def Tryz.laysM171_ren:Go.Shelf.Ren:=⟨fun|171=>96|243=>148|246=>215|283=>264|284=>265|285=>266|286=>267|129=>187|317=>284|318=>285|319=>286|320=>287|337=>297|338=>298|n=>n,fun|3=>3|9=>9|2=>2|4=>4|171=>266|0=>0|53=>46|37=>75|5=>5|173=>268|212=>287|51=>110|20=>20|213=>288|46=>116|232=>300|233=>301|n=>n,fun|17=>3|18=>6|19=>7|n=>n⟩
theorem Tryz.laysM171:Go.Proofs.LaysM.n171 Tryz.prog Tryz.laysM171_ren:= {
 mixed:=by kernel_rfl
 f129:=Tryz.func187.trans (congrArg some (by kernel_rfl))
 f171:=Tryz.func96.trans (congrArg some (by kernel_rfl))
 f243:=Tryz.func148.trans (congrArg some (by kernel_rfl))
 f246:=Tryz.func215.trans (congrArg some (by kernel_rfl))
 f283:=Tryz.func264.trans (congrArg some (by kernel_rfl))
 f284:=Tryz.func265.trans (congrArg some (by kernel_rfl))
 f285:=Tryz.func266.trans (congrArg some (by kernel_rfl))
 f286:=Tryz.func267.trans (congrArg some (by kernel_rfl))
 f317:=Tryz.func284.trans (congrArg some (by kernel_rfl))
 f318:=Tryz.func285.trans (congrArg some (by kernel_rfl))
 f319:=Tryz.func286.trans (congrArg some (by kernel_rfl))
 f320:=Tryz.func287.trans (congrArg some (by kernel_rfl))
 f337:=Tryz.func297.trans (congrArg some (by kernel_rfl))
 f338:=Tryz.func298.trans (congrArg some (by kernel_rfl))
 t0:=Tryz.underlying0
 a0:=Tryz.isAgg0
 z0:=Tryz.sizeOf0
 v0:=Tryz.zeroValue0
 t2:=Tryz.underlying2
 a2:=Tryz.isAgg2
 z2:=Tryz.sizeOf2
 v2:=Tryz.zeroValue2
 t3:=Tryz.underlying3
 a3:=Tryz.isAgg3
 z3:=Tryz.sizeOf3
 v3:=Tryz.zeroValue3
 t4:=Tryz.underlying4
 a4:=Tryz.isAgg4
 z4:=Tryz.sizeOf4
 v4:=Tryz.zeroValue4
 t5:=Tryz.underlying5
 a5:=Tryz.isAgg5
 z5:=Tryz.sizeOf5
 v5:=Tryz.zeroValue5
 t9:=Tryz.underlying9
 a9:=Tryz.isAgg9
 z9:=Tryz.sizeOf9
 v9:=Tryz.zeroValue9
 t20:=Tryz.underlying20
 a20:=Tryz.isAgg20
 z20:=Tryz.sizeOf20
 v20:=Tryz.zeroValue20
 t37:=Tryz.underlying75
 a37:=Tryz.isAgg75
 z37:=Tryz.sizeOf75
 v37:=Tryz.zeroValue75
 t46:=Tryz.underlying116
 a46:=Tryz.isAgg116
 z46:=Tryz.sizeOf116
 v46:=Tryz.zeroValue116
 t51:=Tryz.underlying110
 a51:=Tryz.isAgg110
 z51:=Tryz.sizeOf110
 v51:=Tryz.zeroValue110
 t53:=Tryz.underlying46
 a53:=Tryz.isAgg46
 z53:=Tryz.sizeOf46
 v53:=Tryz.zeroValue46
 t171:=Tryz.underlying266
 a171:=Tryz.isAgg266
 z171:=Tryz.sizeOf266
 v171:=Tryz.zeroValue266
 t173:=Tryz.underlying268
 a173:=Tryz.isAgg268
 z173:=Tryz.sizeOf268
 v173:=Tryz.zeroValue268
 t212:=Tryz.underlying287
 a212:=Tryz.isAgg287
 z212:=Tryz.sizeOf287
 v212:=Tryz.zeroValue287
 t213:=Tryz.underlying288
 a213:=Tryz.isAgg288
 z213:=Tryz.sizeOf288
 t232:=Tryz.underlying300
 a232:=Tryz.isAgg300
 z232:=Tryz.sizeOf300
 v232:=Tryz.zeroValue300
 t233:=Tryz.underlying301
 a233:=Tryz.isAgg301
 z233:=Tryz.sizeOf301
 v233:=Tryz.zeroValue301
 g17:=by kernel_rfl
 g18:=by kernel_rfl
 g19:=by kernel_rfl
 i0:=by kernel_rfl
 i2:=by kernel_rfl
 i3:=by kernel_rfl
 i4:=by kernel_rfl
 i5:=by kernel_rfl
 i9:=by kernel_rfl
 i20:=by kernel_rfl
 i37:=by kernel_rfl
 i46:=by kernel_rfl
 i51:=by kernel_rfl
 i53:=by kernel_rfl
 i171:=by kernel_rfl
 i173:=by kernel_rfl
 i212:=by kernel_rfl
 i232:=by kernel_rfl
 i233:=by kernel_rfl
 m17:=by kernel_rfl
 m18:=by kernel_rfl
 m19:=by kernel_rfl }
open Go.RowKit Go.Sort Go.Lib in
theorem Tryz.strconv_Itoa (n : Int) (h0 : -9223372036854775808 ≤ n) (h1 : n ≤ 9223372036854775807) (w : World) (htab : Lib.TabIs Tryz.prog w "internal/strconv.uint64pow10" .u64 Lib.pow10Tab) :
 Calls Tryz.prog 96 #[.int .i64 n] w fun e w'=>e= .returned (.string ⟨(Lib.itoa n).toArray⟩)∧ ∃k os,w'=grow (w.drewN k) os:=Any.strconv_Itoa Tryz.laysM171 n h0 h1 w htab
def Tryz.laysC172_ren:Go.Shelf.Ren:=⟨fun|172=>104|244=>157|245=>158|247=>227|279=>228|280=>229|281=>230|282=>231|287=>272|316=>273|171=>96|205=>274|321=>291|322=>292|243=>148|246=>215|283=>264|284=>265|285=>266|286=>267|129=>187|317=>284|318=>285|319=>286|320=>287|337=>297|338=>298|n=>n,fun|9=>9|3=>3|75=>79|76=>80|4=>4|5=>5|167=>241|37=>75|0=>0|85=>242|2=>2|168=>244|53=>46|175=>274|46=>116|210=>277|127=>141|145=>293|143=>291|21=>21|171=>266|173=>268|212=>287|51=>110|20=>20|213=>288|232=>300|233=>301|80=>84|n=>n,fun|15=>1|16=>2|17=>3|18=>6|19=>7|n=>n⟩
theorem Tryz.laysC172:Go.Proofs.LaysC.n172 Tryz.prog Tryz.laysC172_ren:= {
 mixed:=by kernel_rfl
 f129:=Tryz.func187.trans (congrArg some (by kernel_rfl))
 f171:=Tryz.func96.trans (congrArg some (by kernel_rfl))
 f172:=Tryz.func104.trans (congrArg some (by kernel_rfl))
 f205:=Tryz.func274.trans (congrArg some (by kernel_rfl))
 f243:=Tryz.func148.trans (congrArg some (by kernel_rfl))
 f244:=Tryz.func157.trans (congrArg some (by kernel_rfl))
 f245:=Tryz.func158.trans (congrArg some (by kernel_rfl))
 f246:=Tryz.func215.trans (congrArg some (by kernel_rfl))
 f247:=Tryz.func227.trans (congrArg some (by kernel_rfl))
 f279:=Tryz.func228.trans (congrArg some (by kernel_rfl))
 f280:=Tryz.func229.trans (congrArg some (by kernel_rfl))
 f281:=Tryz.func230.trans (congrArg some (by kernel_rfl))
 f282:=Tryz.func231.trans (congrArg some (by kernel_rfl))
 f283:=Tryz.func264.trans (congrArg some (by kernel_rfl))
 f284:=Tryz.func265.trans (congrArg some (by kernel_rfl))
 f285:=Tryz.func266.trans (congrArg some (by kernel_rfl))
 f286:=Tryz.func267.trans (congrArg some (by kernel_rfl))
 f287:=Tryz.func272.trans (congrArg some (by kernel_rfl))
 f316:=Tryz.func273.trans (congrArg some (by kernel_rfl))
 f317:=Tryz.func284.trans (congrArg some (by kernel_rfl))
 f318:=Tryz.func285.trans (congrArg some (by kernel_rfl))
 f319:=Tryz.func286.trans (congrArg some (by kernel_rfl))
 f320:=Tryz.func287.trans (congrArg some (by kernel_rfl))
 f321:=Tryz.func291.trans (congrArg some (by kernel_rfl))
 f322:=Tryz.func292.trans (congrArg some (by kernel_rfl))
 f337:=Tryz.func297.trans (congrArg some (by kernel_rfl))
 f338:=Tryz.func298.trans (congrArg some (by kernel_rfl))
 t0:=Tryz.underlying0
 a0:=Tryz.isAgg0
 z0:=Tryz.sizeOf0
 v0:=Tryz.zeroValue0
 t2:=Tryz.underlying2
 a2:=Tryz.isAgg2
 z2:=Tryz.sizeOf2
 v2:=Tryz.zeroValue2
 t3:=Tryz.underlying3
 a3:=Tryz.isAgg3
 z3:=Tryz.sizeOf3
 v3:=Tryz.zeroValue3
 t4:=Tryz.underlying4
 a4:=Tryz.isAgg4
 z4:=Tryz.sizeOf4
 v4:=Tryz.zeroValue4
 t5:=Tryz.underlying5
 a5:=Tryz.isAgg5
 z5:=Tryz.sizeOf5
 v5:=Tryz.zeroValue5
 t9:=Tryz.underlying9
 a9:=Tryz.isAgg9
 z9:=Tryz.sizeOf9
 v9:=Tryz.zeroValue9
 t20:=Tryz.underlying20
 a20:=Tryz.isAgg20
 z20:=Tryz.sizeOf20
 v20:=Tryz.zeroValue20
 t21:=Tryz.underlying21
 a21:=Tryz.isAgg21
 z21:=Tryz.sizeOf21
 v21:=Tryz.zeroValue21
 t37:=Tryz.underlying75
 a37:=Tryz.isAgg75
 z37:=Tryz.sizeOf75
 v37:=Tryz.zeroValue75
 t46:=Tryz.underlying116
 a46:=Tryz.isAgg116
 z46:=Tryz.sizeOf116
 v46:=Tryz.zeroValue116
 t51:=Tryz.underlying110
 a51:=Tryz.isAgg110
 z51:=Tryz.sizeOf110
 v51:=Tryz.zeroValue110
 t53:=Tryz.underlying46
 a53:=Tryz.isAgg46
 z53:=Tryz.sizeOf46
 v53:=Tryz.zeroValue46
 t75:=Tryz.underlying79
 a75:=Tryz.isAgg79
 z75:=Tryz.sizeOf79
 v75:=Tryz.zeroValue79
 t76:=Tryz.underlying80
 a76:=Tryz.isAgg80
 z76:=Tryz.sizeOf80
 v76:=Tryz.zeroValue80
 t85:=Tryz.underlying242
 a85:=Tryz.isAgg242
 z85:=Tryz.sizeOf242
 v85:=Tryz.zeroValue242
 t127:=Tryz.underlying141
 a127:=Tryz.isAgg141
 z127:=Tryz.sizeOf141
 v127:=Tryz.zeroValue141
 t143:=Tryz.underlying291
 a143:=Tryz.isAgg291
 z143:=Tryz.sizeOf291
 v143:=Tryz.zeroValue291
 t145:=Tryz.underlying293
 a145:=Tryz.isAgg293
 z145:=Tryz.sizeOf293
 v145:=Tryz.zeroValue293
 t167:=Tryz.underlying241
 a167:=Tryz.isAgg241
 z167:=Tryz.sizeOf241
 v167:=Tryz.zeroValue241
 t168:=Tryz.underlying244
 a168:=Tryz.isAgg244
 z168:=Tryz.sizeOf244
 v168:=Tryz.zeroValue244
 t171:=Tryz.underlying266
 a171:=Tryz.isAgg266
 z171:=Tryz.sizeOf266
 v171:=Tryz.zeroValue266
 t173:=Tryz.underlying268
 a173:=Tryz.isAgg268
 z173:=Tryz.sizeOf268
 v173:=Tryz.zeroValue268
 t175:=Tryz.underlying274
 a175:=Tryz.isAgg274
 z175:=Tryz.sizeOf274
 v175:=Tryz.zeroValue274
 t210:=Tryz.underlying277
 a210:=Tryz.isAgg277
 z210:=Tryz.sizeOf277
 v210:=Tryz.zeroValue277
 t212:=Tryz.underlying287
 a212:=Tryz.isAgg287
 z212:=Tryz.sizeOf287
 v212:=Tryz.zeroValue287
 t213:=Tryz.underlying288
 a213:=Tryz.isAgg288
 z213:=Tryz.sizeOf288
 t232:=Tryz.underlying300
 a232:=Tryz.isAgg300
 z232:=Tryz.sizeOf300
 v232:=Tryz.zeroValue300
 t233:=Tryz.underlying301
 a233:=Tryz.isAgg301
 z233:=Tryz.sizeOf301
 v233:=Tryz.zeroValue301
 g15:=by kernel_rfl
 g16:=by kernel_rfl
 g17:=by kernel_rfl
 g18:=by kernel_rfl
 g19:=by kernel_rfl
 t80:=Tryz.underlying84
 a80:=Tryz.isAgg84
 z80:=Tryz.sizeOf84
 v80:=Tryz.zeroValue84
 i0:=by kernel_rfl
 i2:=by kernel_rfl
 i3:=by kernel_rfl
 i4:=by kernel_rfl
 i5:=by kernel_rfl
 i9:=by kernel_rfl
 i20:=by kernel_rfl
 i21:=by kernel_rfl
 i37:=by kernel_rfl
 i46:=by kernel_rfl
 i51:=by kernel_rfl
 i53:=by kernel_rfl
 i75:=by kernel_rfl
 i76:=by kernel_rfl
 i80:=by kernel_rfl
 i85:=by kernel_rfl
 i127:=by kernel_rfl
 i143:=by kernel_rfl
 i145:=by kernel_rfl
 i167:=by kernel_rfl
 i168:=by kernel_rfl
 i171:=by kernel_rfl
 i173:=by kernel_rfl
 i175:=by kernel_rfl
 i210:=by kernel_rfl
 i212:=by kernel_rfl
 i232:=by kernel_rfl
 i233:=by kernel_rfl
 m15:=by kernel_rfl
 m16:=by kernel_rfl
 m17:=by kernel_rfl
 m18:=by kernel_rfl
 m19:=by kernel_rfl
 c0:=by kernel_rfl
 c2:=by kernel_rfl
 c3:=by kernel_rfl
 c4:=by kernel_rfl
 c5:=by kernel_rfl
 c9:=by kernel_rfl
 c20:=by kernel_rfl
 c21:=by kernel_rfl
 c37:=by kernel_rfl
 c46:=by kernel_rfl
 c51:=by kernel_rfl
 c53:=by kernel_rfl
 c75:=by kernel_rfl
 c76:=by kernel_rfl
 c80:=by kernel_rfl
 c85:=by kernel_rfl
 c127:=by kernel_rfl
 c143:=by kernel_rfl
 c145:=by kernel_rfl
 c167:=by kernel_rfl
 c168:=by kernel_rfl
 c171:=by kernel_rfl
 c173:=by kernel_rfl
 c175:=by kernel_rfl
 c210:=by kernel_rfl
 c212:=by kernel_rfl
 c213:=by kernel_rfl
 c232:=by kernel_rfl
 c233:=by kernel_rfl }
open Go.RowKit in
theorem Tryz.strconv_Atoi_ok (s:ByteArray) (hmax:s.size≤9223372036854775806) (v:Int) (h:Lib.atoiAll s.data.toList= .ok v) (w:World):
 Calls Tryz.prog 104 #[.string s] w fun e w'=>e= .returned (.tuple #[.int .i64 v,.nilIface])∧(w'=w∨ ∃t,w'=Lib.bytesWorld w 5 t):=Any.strconv_Atoi_ok Tryz.laysC172 s hmax v h w
open Go.RowKit in
theorem Tryz.strconv_Atoi_syntax_var (s : ByteArray) (hlim : s.size ≤ 281474976710656) (h : ∀ n, Lib.atoiAll s.data.toList ≠ .ok n) (hr : Lib.atoiAll s.data.toList ≠ .range) (tp : TypeId) (p : Value) (w : World) (hvar : w.var? Tryz.prog "strconv.ErrSyntax" = some #[.iface tp p]) :
 Calls Tryz.prog 104 #[.string s] w fun e w'=> ∃N,e= .returned (.tuple #[.int .i64 0,.iface 244 (.pointer (some ⟨N,0,none⟩))])∧w.heap.size≤N∧w'.heap[N]? =some (.cells #[.string ⟨#[65,116,111,105]⟩,.string s,.iface tp p] 277 (0,0))∧Below w.heap.size w w':=by
 cases hq:Lib.atoiAll s.data.toList
 ·exact absurd hq (h _)
 ·exact Any.strconv_Atoi_syntax_var Tryz.laysC172 s hlim hq tp p w hvar
 ·exact absurd hq hr
open Go.RowKit in
theorem Tryz.strconv_Atoi_range_var (s : ByteArray) (hlim : s.size ≤ 281474976710656) (h : Lib.atoiAll s.data.toList = .range) (tp : TypeId) (p : Value) (w : World) (hvar : w.var? Tryz.prog "strconv.ErrRange" = some #[.iface tp p]) :
 Calls Tryz.prog 104 #[.string s] w fun e w'=> ∃N,e= .returned (.tuple #[.int .i64 (Lib.atoiSat s.data.toList),.iface 244 (.pointer (some ⟨N,0,none⟩))])∧w.heap.size≤N∧w'.heap[N]? =some (.cells #[.string ⟨#[65,116,111,105]⟩,.string s,.iface tp p] 277 (0,0))∧Below w.heap.size w w':=Any.strconv_Atoi_range_var Tryz.laysC172 s hlim h tp p w hvar
end Go.Proofs
namespace Go.Proofs.YtdodihnehppnmaaGreatDoor
open Go.RowKit
theorem below_drewN (w:World) (q:Nat):Below w.heap.size w (w.drewN q):=⟨rfl,rfl,rfl,Qn _,fun _ _=>rfl⟩
structure Glob (I:IH):Prop where
 pow:I 3=some (Lib.pow10Tab.map fun z=>Value.int .u64 z).toArray
 max:∃c m,I 0=some c∧c[0]? =some (.int .i64 m)
 syn:∃tp p,I 1=some #[.iface tp p]
 rng:∃tp p,I 2=some #[.iface tp p]
theorem Glob.mono {I I':IH} (h:Glob I) (k:∀b c,I b=some c→I' b=some c):Glob I':=
 ⟨k _ _ h.pow,(let ⟨c,m,h1,h2⟩:=h.max;⟨c,m,k _ _ h1,h2⟩),(let ⟨tp,p,h1⟩:=h.syn;⟨tp,p,k _ _ h1⟩),(let ⟨tp,p,h1⟩:=h.rng;⟨tp,p,k _ _ h1⟩)⟩
theorem Glob.maxlen {I:IH} {w:World} (h:Glob I) (hw:Ok I w):∃m,w.cell? ⟨0,0,none⟩=some (.int .i64 m):=by
 obtain ⟨c,m,h1,h2⟩:=h.max
 exact ⟨m,by rw [hw.cell h1];exact h2⟩
theorem Xua (l:List ByteArray):(l.map (·.data.toList)).map (fun b=>Value.string ⟨b.toArray⟩)=l.map Value.string:=by
 rw [List.map_map]
 apply List.map_congr_left
 intro b _
 simp
set_option maxRecDepth 100000 in
theorem Xrq (I:IH) (hI:Glob I) (s:Bytes) (hs:s.length≤4294967280) (w:World) (hw:Ok I w):
 Calls Tryz.prog 188 #[S s,S [47]] w (RetS tStr I w (elsGo [] s)):=by
 obtain ⟨m,hm⟩:=hI.maxlen hw
 have hsz:(⟨s.toArray⟩:ByteArray).size=s.length:=by simp [ByteArray.size]
 refine (Tryz.strings_Split ⟨s.toArray⟩ ⟨[47].toArray⟩ m w (by omega) hm (by decide)).mono fun e w' ⟨he,hq⟩=> ?_
 have hspl:=Xqx s
 have hdat:=Lib.splitB_data ⟨[47].toArray⟩ 0 (Lib.countB ⟨s.toArray⟩ ⟨[47].toArray⟩) ⟨s.toArray⟩
 have hall:(Lib.splitB ⟨[47].toArray⟩ 0 (Lib.countB ⟨s.toArray⟩ ⟨[47].toArray⟩) ⟨s.toArray⟩).map (·.data.toList)=elsGo [] s:=by rw [hdat,←hspl];rfl
 have hlen:Lib.countB ⟨s.toArray⟩ ⟨[47].toArray⟩+1=(elsGo [] s).length:=by
  rw [←hall,List.length_map]
  exact (Lib.splitB_all ⟨[47].toArray⟩ (by decide) 0 _ ⟨s.toArray⟩ rfl).symm
 have hcells:((Lib.splitB ⟨[47].toArray⟩ 0 (Lib.countB ⟨s.toArray⟩ ⟨[47].toArray⟩) ⟨s.toArray⟩).map Value.string)=(elsGo [] s).map fun b=>S b:=by
  rw [←hall,Xua]
 have hcl:Lib.countB ⟨s.toArray⟩ ⟨[47].toArray⟩≤s.length:=by
  have:=Lib.countB_le ⟨[47].toArray⟩ (by decide) _ ⟨s.toArray⟩ (Qn _)
  rwa [hsz] at this
 rw [hcells] at hq
 rw [hlen] at he
 have hmax:(elsGo [] s).length≤9223372036854775807:=by omega
 generalize elsGo [] s=l at*
 subst hq
 have hb:=heap_alloc_new w (.cells (l.map fun b=>S b).toArray 9)
 refine ⟨_,I.add w.heap.size (l.map fun b=>S b).toArray,he,(Qb _ _).alloc (Qn _) _,Ext.add (Qn _) _ _,(hw.alloc _).add hb,_,l.length,rfl,Qn _,hmax,fun _=>⟨w.heap.size,0,(l.map fun b=>S b).toArray,rfl,by simp [IH.add],fun i hi=>⟨[S l[i]],rfl,fun j u hu=> ?_⟩⟩⟩
 have hj:j=0:=by have:=(List.getElem?_eq_some_iff.1 hu).1;simp at this;exact this
 subst hj
 obtain rfl:S l[i]=u:=by simpa using hu
 show ((l.map fun b=>S b).toArray)[0+(i*1+0)]? =_
 rw [show 0+(i*1+0)=i by omega,List.getElem?_toArray,List.getElem?_map,List.getElem?_eq_getElem hi]
 rfl
set_option maxRecDepth 100000 in
theorem Xgu (g:Nat) (p:Nat→Bool) (s:Bytes) (w:World) (eg:∀args w,(callFunc g args).run Tryz.prog w= .ok (.enter g args) w) (hp:∀(x:Nat) (W:World),Calls Tryz.prog g #[.int .i32 (x:Int)] W fun e w'=>e= .returned (.bool (p x))∧w'=W):
 Calls Tryz.prog 257 #[S s,.func (.func g) #[] #[]] w fun e w'=>e= .returned (.bool (decide (0≤Lib.idxFunc p true ⟨s.toArray⟩)))∧Below w.heap.size w w':=
 Tryz.strings_ContainsFunc g #[] eg p ⟨s.toArray⟩ w fun W x _=>by
  have:=hp x W
  exact this.mono fun e w' ⟨h1,h2⟩=>⟨h1,0,h2⟩
set_option maxRecDepth 100000 in
theorem Xuc (I:IH) (v:Value) (l:List Bytes) (hv:RdS tStr I v l) (hj:(joinP l).length≤4294967296) (hn:l.length≤4294967296) (w:World) (hw:Ok I w):
 Calls Tryz.prog 72 #[v,S [47]] w fun e w'=>e= .returned (S (joinP l))∧Below w.heap.size w w':=by
 obtain ⟨ao,cap,rfl,hcap,hcm,hh⟩:=id hv
 by_cases h0:l= []
 ·subst h0
  exact (Tryz.strings_Join_none ao cap ⟨[47].toArray⟩ w).mono fun e w' ⟨h1,h2⟩=>⟨h1,by rw [h2];exact Qb _ _⟩
 ·have hpos:0<l.length:=List.length_pos_iff.2 h0
  obtain ⟨b,off,arr,rfl,hI,hl⟩:=hh hpos
  have hx:(l.map fun s=>(⟨s.toArray⟩:ByteArray)).map (·.data.toList)=l:=by
   rw [List.map_map]
   conv=>rhs;rw [←List.map_id l]
   apply List.map_congr_left
   intro b _
   simp
  have hjl:Lib.join ((l.map fun s=>(⟨s.toArray⟩:ByteArray)).map (·.data.toList)) (⟨[47].toArray⟩:ByteArray).data.toList=joinP l:=by rw [hx];exact Xud l
  have h:=Tryz.strings_Join b off cap (l.map fun s=>⟨s.toArray⟩) ⟨[47].toArray⟩ w (fun j x hx=> ?_) (hw.lt hI) (by rw [List.length_map];omega) (by rw [List.length_map];exact hcap) (by rw [hjl];omega)
  ·rw [hjl,List.length_map] at h
   exact h
  ·rw [List.getElem?_map] at hx
   cases hlj:l[j]? with
   |none=>rw [hlj] at hx;simp at hx
   |some s=>
    rw [hlj] at hx
    simp at hx
    subst hx
    obtain ⟨hjl,hlj⟩:=List.getElem?_eq_some_iff.1 hlj
    obtain ⟨cs,h1,h2⟩:=hl j hjl
    have hcs:cs= [S l[j]]:=h1
    have:=h2 0 (S l[j]) (by rw [hcs];rfl)
    rw [hw.cell hI,←hlj]
    simpa [tStr,Ty.flat] using this
set_option maxRecDepth 100000 in
theorem Xrs (I:IH) (v1 v2:Value) (l m:List Bytes) (hv1:RdS tStr I v1 l) (hv2:RdS tStr I v2 m) (w:World) (hw:Ok I w):
 Calls Tryz.prog 134 #[v1,v2] w fun e w'=>e= .returned (.bool (decide (l=m)))∧Below w.heap.size w w':=by
 have hb1:=hv1.len_le
 have hb2:=hv2.len_le
 obtain ⟨ao,cap,rfl,hcap,hcm,hh⟩:=id hv1
 obtain ⟨ao2,cap2,rfl,hcap2,hcm2,hh2⟩:=id hv2
 by_cases hlm:l.length=m.length
 case neg=>
  refine (Tryz.slices_Equal_string_lens ao ao2 l.length cap m.length cap2 w hlm).mono fun e w' ⟨h1,h2⟩=>⟨?_,by rw [h2];exact Qb _ _⟩
  rw [h1,Qf]
  intro e;exact hlm (by rw [e])
 by_cases h0:l= []
 ·subst h0
  have hm:m= []:=List.eq_nil_of_length_eq_zero (by rw [←hlm];rfl)
  subst hm
  exact (Tryz.slices_Equal_string_empty ao ao2 cap 0 cap2 w (by decide)).mono fun e w' ⟨h1,h2⟩=>⟨h1,by rw [h2];exact Qb _ _⟩
 ·have hpos:0<l.length:=List.length_pos_iff.2 h0
  obtain ⟨b,off,arr,rfl,hI,hl⟩:=hh hpos
  obtain ⟨b2,off2,arr2,rfl,hI2,hl2⟩:=hh2 (by omega)
  have cellsOf:∀(l:List Bytes) (b off:Nat) (arr:Array Value),I b=some arr→Lies tStr I arr off l→ ∀j,j<(l.map fun s=>(⟨s.toArray⟩:ByteArray)).length→w.cell? ⟨b,off+j,none⟩=some (.string ((l.map fun s=>(⟨s.toArray⟩:ByteArray)).getD j ByteArray.empty)):=by
   intro l b off arr hI hl j hj
   rw [List.length_map] at hj
   obtain ⟨cs,h1,h2⟩:=hl j hj
   have hcs:cs= [S l[j]]:=h1
   have:=h2 0 (S l[j]) (by rw [hcs];rfl)
   rw [hw.cell hI,List.getD_eq_getElem?_getD,List.getElem?_map,List.getElem?_eq_getElem hj]
   simpa [tStr,Ty.flat] using this
  have h:=Tryz.slices_Equal_string b off l.length cap b2 off2 m.length cap2 (l.map fun s=>⟨s.toArray⟩) (m.map fun s=>⟨s.toArray⟩) w (by rw [List.length_map];exact Qn _) (by rw [List.length_map];exact Qn _) hb1 hb2 (cellsOf l b off arr hI hl) (cellsOf m b2 off2 arr2 hI2 hl2)
  refine h.mono fun e w' ⟨h1,q,h2⟩=>⟨?_,by rw [h2];exact below_drewN _ _⟩
  rw [h1]
  congr 2
  rw [decide_eq_decide,List.take_of_length_le (by simp),List.take_of_length_le (by simp)]
  constructor
  ·intro e
   have:=congrArg (List.map fun b:ByteArray=>b.data.toList) e
   rw [List.map_map,List.map_map] at this
   have hid:((fun b:ByteArray=>b.data.toList) ∘ fun s:Bytes=>(⟨s.toArray⟩:ByteArray))=id:=by funext s;simp
   rw [hid,List.map_id,List.map_id] at this
   exact this
  ·intro e;rw [e]
section
variable {α:Type}
def idxL (l:List α) (p:α→Bool):Int:=match l.findIdx? p with|some i=>i|none=> -1
theorem Xfi {l:List α} {p:α→Bool} (h:l.any p=false):idxL l p= -1:=by
 have:l.findIdx? p=none:=by
  rw [List.findIdx?_eq_none_iff]
  intro x hx
  cases hp:p x with
  |false=>rfl
  |true=>rw [List.any_eq_true.2 ⟨x,hx,hp⟩] at h;exact absurd h (by simp)
 rw [idxL,this]
theorem Xfh {l:List α} {p:α→Bool} {i:Nat} (hi:i<l.length) (hp:p l[i]=true) (hn:(l.take i).any p=false):idxL l p=i:=by
 have:l.findIdx? p=some i:=by
  rw [List.findIdx?_eq_some_iff_getElem]
  refine ⟨hi,hp,fun j hj=> ?_⟩
  cases hq:p l[j] with
  |false=>simp
  |true=>
   have hjl:j<(l.take i).length:=by simp;omega
   rw [List.any_eq_true.2 ⟨(l.take i)[j],List.getElem_mem hjl,by rw [List.getElem_take];exact hq⟩] at hn
   exact absurd hn (by simp)
 rw [idxL,this]
theorem Xbz (l:List α) (p:α→Bool):(∃i:Nat,∃h:i<l.length,idxL l p=i∧p l[i]=true∧(l.take i).any p=false)∨(idxL l p= -1∧l.any p=false):=by
 unfold idxL
 cases h:l.findIdx? p with
 |none=>
  right
  refine ⟨rfl,?_⟩
  rw [List.findIdx?_eq_none_iff] at h
  cases ha:l.any p with
  |false=>rfl
  |true=>
   obtain ⟨x,hx,hp⟩:=List.any_eq_true.1 ha
   rw [h x hx] at hp;exact absurd hp (by simp)
 |some i=>
  left
  rw [List.findIdx?_eq_some_iff_getElem] at h
  obtain ⟨hi,h1,h2⟩:=h
  refine ⟨i,hi,rfl,h1,?_⟩
  cases ha:(l.take i).any p with
  |false=>rfl
  |true=>
   obtain ⟨x,hx,hp⟩:=List.any_eq_true.1 ha
   obtain ⟨j,hj,rfl⟩:=List.getElem_of_mem hx
   rw [List.getElem_take] at hp
   have hji:j<i:=by simp at hj;omega
   have:=h2 j hji
   simp [hp] at this
end
def allowedR (r:Nat):Bool:= !(notAllowed r)
set_option maxRecDepth 100000 in
set_option maxHeartbeats 400000 in
theorem Xp2 (c:Nat) (w:World):Calls Tryz.prog 259 #[.int .i32 (c:Int)] w fun e w'=>e= .returned (.bool (allowedR c))∧w'=w:=by
 rcases (show (97≤c∧c≤122)∨122<c∨(48≤c∧c≤57)∨c=46∨c=95∨c=45∨(c<48∧c≠46∧c≠45)∨(57<c∧c<97∧c≠95) by omega) with hc|hc|hc|hc|hc|hc|hc|hc
 ·have d97:decide (97≤(c:Int))=true:=by simp;omega
  have d122:decide ((c:Int)≤122)=true:=by simp;omega
  have d48:decide (48≤(c:Int))=true:=by simp;omega
  have d57:decide ((c:Int)≤57)=false:=by simp;omega
  have n46:((c:Int)==46)=false:=by simp;omega
  have n95:((c:Int)==95)=false:=by simp;omega
  have n45:((c:Int)==45)=false:=by simp;omega
  have Hv:=Qh (show allowedR c=true by unfold allowedR notAllowed;simp;omega)
  clear hc
  go_enter Tryz.func259,Tryz.ntmps259
  go_wp2
  go_ret
  exact ⟨Xan Hv.out.symm,rfl⟩
 ·have d97:decide (97≤(c:Int))=true:=by simp;omega
  have d122:decide ((c:Int)≤122)=false:=by simp;omega
  have d48:decide (48≤(c:Int))=true:=by simp;omega
  have d57:decide ((c:Int)≤57)=false:=by simp;omega
  have n46:((c:Int)==46)=false:=by simp;omega
  have n95:((c:Int)==95)=false:=by simp;omega
  have n45:((c:Int)==45)=false:=by simp;omega
  have Hv:=Qh (show allowedR c=false by unfold allowedR notAllowed;simp;omega)
  clear hc
  go_enter Tryz.func259,Tryz.ntmps259
  go_wp2
  go_ret
  exact ⟨Xan Hv.out.symm,rfl⟩
 ·have d97:decide (97≤(c:Int))=false:=by simp;omega
  have d122:decide ((c:Int)≤122)=true:=by simp;omega
  have d48:decide (48≤(c:Int))=true:=by simp;omega
  have d57:decide ((c:Int)≤57)=true:=by simp;omega
  have n46:((c:Int)==46)=false:=by simp;omega
  have n95:((c:Int)==95)=false:=by simp;omega
  have n45:((c:Int)==45)=false:=by simp;omega
  have Hv:=Qh (show allowedR c=true by unfold allowedR notAllowed;simp;omega)
  clear hc
  go_enter Tryz.func259,Tryz.ntmps259
  go_wp2
  go_ret
  exact ⟨Xan Hv.out.symm,rfl⟩
 ·have d97:decide (97≤(c:Int))=false:=by simp;omega
  have d122:decide ((c:Int)≤122)=true:=by simp;omega
  have d48:decide (48≤(c:Int))=false:=by simp;omega
  have d57:decide ((c:Int)≤57)=true:=by simp;omega
  have n46:((c:Int)==46)=true:=by simp;omega
  have n95:((c:Int)==95)=false:=by simp;omega
  have n45:((c:Int)==45)=false:=by simp;omega
  have Hv:=Qh (show allowedR c=true by unfold allowedR notAllowed;simp;omega)
  clear hc
  go_enter Tryz.func259,Tryz.ntmps259
  go_wp2
  go_ret
  exact ⟨Xan Hv.out.symm,rfl⟩
 ·have d97:decide (97≤(c:Int))=false:=by simp;omega
  have d122:decide ((c:Int)≤122)=true:=by simp;omega
  have d48:decide (48≤(c:Int))=true:=by simp;omega
  have d57:decide ((c:Int)≤57)=false:=by simp;omega
  have n46:((c:Int)==46)=false:=by simp;omega
  have n95:((c:Int)==95)=true:=by simp;omega
  have n45:((c:Int)==45)=false:=by simp;omega
  have Hv:=Qh (show allowedR c=true by unfold allowedR notAllowed;simp;omega)
  clear hc
  go_enter Tryz.func259,Tryz.ntmps259
  go_wp2
  go_ret
  exact ⟨Xan Hv.out.symm,rfl⟩
 ·have d97:decide (97≤(c:Int))=false:=by simp;omega
  have d122:decide ((c:Int)≤122)=true:=by simp;omega
  have d48:decide (48≤(c:Int))=false:=by simp;omega
  have d57:decide ((c:Int)≤57)=true:=by simp;omega
  have n46:((c:Int)==46)=false:=by simp;omega
  have n95:((c:Int)==95)=false:=by simp;omega
  have n45:((c:Int)==45)=true:=by simp;omega
  have Hv:=Qh (show allowedR c=true by unfold allowedR notAllowed;simp;omega)
  clear hc
  go_enter Tryz.func259,Tryz.ntmps259
  go_wp2
  go_ret
  exact ⟨Xan Hv.out.symm,rfl⟩
 ·have d97:decide (97≤(c:Int))=false:=by simp;omega
  have d122:decide ((c:Int)≤122)=true:=by simp;omega
  have d48:decide (48≤(c:Int))=false:=by simp;omega
  have d57:decide ((c:Int)≤57)=true:=by simp;omega
  have n46:((c:Int)==46)=false:=by simp;omega
  have n95:((c:Int)==95)=false:=by simp;omega
  have n45:((c:Int)==45)=false:=by simp;omega
  have Hv:=Qh (show allowedR c=false by unfold allowedR notAllowed;simp;omega)
  clear hc
  go_enter Tryz.func259,Tryz.ntmps259
  go_wp2
  go_ret
  exact ⟨Xan Hv.out.symm,rfl⟩
 ·have d97:decide (97≤(c:Int))=false:=by simp;omega
  have d122:decide ((c:Int)≤122)=true:=by simp;omega
  have d48:decide (48≤(c:Int))=true:=by simp;omega
  have d57:decide ((c:Int)≤57)=false:=by simp;omega
  have n46:((c:Int)==46)=false:=by simp;omega
  have n95:((c:Int)==95)=false:=by simp;omega
  have n45:((c:Int)==45)=false:=by simp;omega
  have Hv:=Qh (show allowedR c=false by unfold allowedR notAllowed;simp;omega)
  clear hc
  go_enter Tryz.func259,Tryz.ntmps259
  go_wp2
  go_ret
  exact ⟨Xan Hv.out.symm,rfl⟩
set_option maxRecDepth 100000 in
theorem Xj0 (c:Nat) (w:World):Calls Tryz.prog 258 #[.int .i32 (c:Int)] w fun e w'=>e= .returned (.bool (notAllowed c))∧w'=w:=by
 go_enter Tryz.func258,Tryz.ntmps258
 go_wp2_with fail
 refine (Xp2 c _).mono ?_
 rintro e w1 ⟨rfl,rfl⟩
 go_wp2
 go_ret
 exact ⟨Xan (by rw [allowedR,Bool.not_not]),rfl⟩
set_option maxRecDepth 100000 in
set_option maxHeartbeats 400000 in
theorem Xk5 (s:Bytes) (hs:s.length≤9223372036854775807) (w:World):
 Calls Tryz.prog 196 #[S s] w fun e w'=>e= .returned (.bool (comp s))∧Below w.heap.size w w':=by
 by_cases h1:1≤s.length
 case neg=>
  have hd1:decide (1≤s.length)=false:=Qf h1
  have Hok:=Qh (show comp s=false by simp [comp,h1])
  go_enter Tryz.func196,Tryz.ntmps196
  go_wp2
  go_ret
  exact ⟨Xan Hok.out.symm,Qb _ _⟩
 have hd1:decide (1≤s.length)=true:=Qt h1
 by_cases h32:s.length≤32
 case neg=>
  have hd2:decide (s.length≤32)=false:=Qf h32
  have Hok:=Qh (show comp s=false by simp [comp,h32])
  go_enter Tryz.func196,Tryz.ntmps196
  go_wp2
  go_ret
  exact ⟨Xan Hok.out.symm,Qb _ _⟩
 have hd2:decide (s.length≤32)=true:=Qt h32
 by_cases h46:s= [46]
 case pos=>
  subst h46
  have Hok:=Qh (show comp [46]=false by rfl)
  clear hs h1 hd1 h32 hd2
  go_enter Tryz.func196,Tryz.ntmps196
  go_wp2
  go_ret
  exact ⟨Xan Hok.out.symm,Qb _ _⟩
 have f46:(s != [46])=true:=by simpa using h46
 have g46:(s== [46])=false:=by simpa using h46
 by_cases h47:s= [46,46]
 case pos=>
  subst h47
  have Hok:=Qh (show comp [46,46]=false by rfl)
  clear hs h1 hd1 h32 hd2 h46 f46 g46
  go_enter Tryz.func196,Tryz.ntmps196
  go_wp2
  go_ret
  exact ⟨Xan Hok.out.symm,Qb _ _⟩
 have f47:(s != [46,46])=true:=by simpa using h47
 have g47:(s== [46,46])=false:=by simpa using h47
 have Hok:=Qh (show comp s= !(decide (0≤Lib.idxFunc notAllowed true ⟨s.toArray⟩)) by rw [Xuj,Bool.not_not];simp [comp,h1,h32,f46,f47])
 have Hcf:=Qh (Xgu 258 notAllowed s w (fun _ _=>by kernel_rfl) (fun x W=>Xj0 x W))
 generalize decide (0≤Lib.idxFunc notAllowed true ⟨s.toArray⟩)=bb at Hok Hcf
 clear h46 h47
 go_enter Tryz.func196,Tryz.ntmps196
 go_wp2_with fail
 refine Hcf.out.mono ?_
 rintro e w1 ⟨rfl,hb1⟩
 go_wp2
 go_ret
 exact ⟨Xan Hok.out.symm,hb1⟩
set_option maxRecDepth 100000 in
set_option maxHeartbeats 400000 in
theorem Xdm (I:IH) (hI:Glob I) (s:Bytes) (hs:s.length≤4294967280) (w:World) (hw:Ok I w):
 Calls Tryz.prog 121 #[S s] w (RetS tStr I w (els s)):=by
 by_cases h0:s= []
 ·obtain ⟨p1,p2,p3,p4⟩:=Xdv h0
  have Hs:=Qh (show els s= [] by rw [h0];rfl)
  clear h0
  go_enter Tryz.func121,Tryz.ntmps121
  go_wp2
  go_ret
  rw [Hs.out]
  exact ⟨_,I,rfl,Qb _ _,Ext.refl _ _,hw,RdS.nil _ _⟩
 ·obtain ⟨p1,p2,p3,p4⟩:=Xcw h0
  have Hs:=Qh (show els s=elsGo [] s by rw [els,if_neg h0])
  have Hl:=Qh (Xrq I hI s hs w hw)
  generalize elsGo [] s=l at Hs Hl
  clear h0
  go_enter Tryz.func121,Tryz.ntmps121
  go_wp2_with fail
  refine Hl.out.mono ?_
  rintro e w1 ⟨v1,I1,rfl,hb1,hx1,hok1,hr1⟩
  obtain ⟨ao,cap,rfl,hcap,hcm,_⟩:=id hr1
  go_wp2
  go_ret
  rw [Hs.out]
  exact ⟨_,I1,rfl,hb1,hx1,hok1,hr1⟩
set_option maxRecDepth 100000 in
theorem Xri (s:Bytes) (hs:s.length≤9223372036854775807) (w:World):
 Calls Tryz.prog 195 #[S s] w fun e w'=>e= .returned (.bool (!(comp s)))∧Below w.heap.size w w':=by
 go_enter Tryz.func195,Tryz.ntmps195
 go_wp2_with fail
 refine (Xk5 s hs _).mono ?_
 rintro e w1 ⟨rfl,hb1⟩
 go_wp2
 go_ret
 exact ⟨rfl,hb1⟩
set_option maxRecDepth 100000 in
set_option maxHeartbeats 400000 in
theorem Xir (I:IH) (v:Value) (l:List Bytes) (hv:RdS tStr I v l) (g:Nat) (p:Bytes→Bool) (w:World) (hw:Ok I w) (eg:∀args w,(callFunc g args).run Tryz.prog w= .ok (.enter g args) w) (hp:∀x∈l,∀W:World,Calls Tryz.prog g #[S x] W fun e w'=>e= .returned (.bool (p x))∧Below W.heap.size W w'):
 Calls Tryz.prog 256 #[v,.func (.func g) #[] #[]] w fun e w'=>e= .returned (.int .i64 (idxL l p))∧Below w.heap.size w w':=by
 have hlen:=hv.len_le
 obtain ⟨ao,cap,rfl,hcap,hcm,_⟩:=id hv
 have Hv:=Qh hv;clear hv
 have Hp:=Qh hp;clear hp
 go_enter Tryz.func256,Tryz.ntmps256
 go_wp2_with fail
 go_loopw [8] (fun s8 wr=> ∃k:Nat,k≤l.length∧s8= .int .i64 k∧(l.take k).any p=false∧Below w.heap.size w wr) (fun i _=>l.length-(intOf i).toNat)
 case atStart=>exact ⟨0,Nat.zero_le _,rfl,rfl,Qb _ _⟩
 case round=>
  obtain ⟨k,hk,rfl,hr,hb⟩:=hrel
  have Hr:=Qh hr;clear hr
  by_cases hlt:k<l.length
  ·have hwr:Ok I wr:=hw.below (Qn _) hb
   obtain ⟨x,b,off,cap',hlx,hvv,hc0⟩:=Xhh Hv.out hwr k hlt
   cases hvv
   have Hlx:=Qh hlx
   have Hcall:=Qh (Hp.out x (by rw [←hlx];exact List.getElem_mem hlt))
   clear hlx
   go_wp2_with fail
   refine (Hcall.out _).mono ?_
   rintro e w1 ⟨rfl,hb1⟩
   have hb1':=hb.trans (hb1.mono hb.size)
   clear hb1 Hcall
   cases hpx:p x
   ·have Hn:=Qh (show (l.take (k+1)).any p=false by rw [List.take_succ_eq_append_getElem hlt,List.any_append,Hr.out,Hlx.out];simp [hpx])
    clear hpx
    go_wp2
    go_roundw
    case rel=>exact ⟨k+1,by omega,by go_num,Hn.out,hb1'⟩
    case measure=>simp [intOf];omega
   ·have Hn:=Qh (Xfh (p:=p) hlt (by rw [Hlx.out];exact hpx) Hr.out)
    clear hpx
    go_wp2
    go_ret
    exact ⟨Xac Hn.out.symm,hb1'⟩
  ·have Hn:=Qh (show idxL l p= -1 from Xfi (by have:=Hr.out;rwa [List.take_of_length_le (by omega)] at this))
   go_wp2
   go_ret
   exact ⟨Xac Hn.out.symm,hb⟩
set_option maxRecDepth 100000 in
theorem Xf1 (I:IH) (v:Value) (l:List Bytes) (hv:RdS tStr I v l) (g:Nat) (p:Bytes→Bool) (w:World) (hw:Ok I w) (eg:∀args w,(callFunc g args).run Tryz.prog w= .ok (.enter g args) w) (hp:∀x∈l,∀W:World,Calls Tryz.prog g #[S x] W fun e w'=>e= .returned (.bool (p x))∧Below W.heap.size W w'):
 Calls Tryz.prog 194 #[v,.func (.func g) #[] #[]] w fun e w'=>e= .returned (.bool (l.any p))∧Below w.heap.size w w':=by
 have Hi:=Qh (Xir I v l hv g p w hw eg hp)
 obtain ⟨ao,cap,rfl,hcap,hcm,_⟩:=id hv
 clear hv hp eg
 rcases Xbz l p with ⟨i,hi,e1,e2,_⟩|⟨e1,e2⟩
 ·have Ha:=Qh (show l.any p=true from List.any_eq_true.2 ⟨l[i],List.getElem_mem hi,e2⟩)
  have hd:decide ((0:Int)≤(i:Int))=true:=Qt (by omega)
  rw [e1] at Hi
  clear e1 e2
  go_enter Tryz.func194,Tryz.ntmps194
  go_wp2_with fail
  refine Hi.out.mono ?_
  rintro e w1 ⟨rfl,hb1⟩
  go_wp2
  go_ret
  exact ⟨Xan Ha.out.symm,hb1⟩
 ·have Ha:=Qh e2
  rw [e1] at Hi
  clear e1 e2
  go_enter Tryz.func194,Tryz.ntmps194
  go_wp2_with fail
  refine Hi.out.mono ?_
  rintro e w1 ⟨rfl,hb1⟩
  go_wp2
  go_ret
  exact ⟨Xan Ha.out.symm,hb1⟩
theorem Xxa (l:List Bytes):l.any (fun s=> !(comp s))= !(l.all comp):=by
 induction l with
 |nil=>rfl
 |cons x l ih=>rw [List.any_cons,List.all_cons,ih,Bool.not_and]
set_option maxRecDepth 100000 in
set_option maxHeartbeats 400000 in
theorem Xop (I:IH) (hI:Glob I) (s:Bytes) (hs:s.length≤4294967280) (w:World) (hw:Ok I w):
 Calls Tryz.prog 129 #[S s] w fun e w'=>e= .returned (.int .i64 (pathErr s))∧Below w.heap.size w w':=by
 have Hel:=Qh (Xdm I hI s hs w hw)
 have Hll:=Qh (fun (q:Bytes) (h:q∈els s)=>Xsq h)
 by_cases h200:s.length≤200
 case neg=>
  have hd:decide (200<s.length)=true:=Qt (by omega)
  have Hp:=Qh (show pathErr s=6 by rw [pathErr,if_pos (by omega)])
  go_enter Tryz.func129,Tryz.ntmps129
  go_wp2_with fail
  refine Hel.out.mono ?_
  rintro e w1 ⟨v1,I1,rfl,hb1,hx1,hok1,hr1⟩
  obtain ⟨ao,cap,rfl,hcap,hcm,_⟩:=id hr1
  clear hr1
  go_wp2
  go_ret
  exact ⟨Xac Hp.out.symm,hb1⟩
 have hd:decide (200<s.length)=false:=Qf (by omega)
 have Hp:=Qh (show pathErr s=if 8<(els s).length then 6 else if (els s).all comp then 0 else 7 by rw [pathErr,if_neg (by omega)])
 generalize els s=l at Hel Hp Hll
 by_cases h8:8<l.length
 case pos=>
  have Hp2:=Qh (show pathErr s=6 by rw [Hp.out,if_pos h8])
  go_enter Tryz.func129,Tryz.ntmps129
  go_wp2_with fail
  refine Hel.out.mono ?_
  rintro e w1 ⟨v1,I1,rfl,hb1,hx1,hok1,hr1⟩
  obtain ⟨ao,cap,rfl,hcap,hcm,_⟩:=id hr1
  clear hr1
  go_wp2
  go_ret
  exact ⟨Xac Hp2.out.symm,hb1⟩
 have Hp2:=Qh (show pathErr s=if l.all comp then 0 else 7 by rw [Hp.out,if_neg h8])
 go_enter Tryz.func129,Tryz.ntmps129
 go_wp2_with fail
 refine Hel.out.mono ?_
 rintro e w1 ⟨v1,I1,rfl,hb1,hx1,hok1,hr1⟩
 have Hcf:=Qh (Xf1 I1 v1 l hr1 195 (fun s=> !(comp s)) w1 hok1 (fun _ _=>by kernel_rfl) (fun x hx W=>Xri x (by have:=Hll.out x hx;omega) W))
 rw [Xxa] at Hcf
 obtain ⟨ao,cap,rfl,hcap,hcm,_⟩:=id hr1
 clear hr1
 go_wp2_with fail
 refine Hcf.out.mono ?_
 rintro e w2 ⟨rfl,hb2⟩
 cases ha:l.all comp
 ·have Hn:=Qh (show pathErr s=7 by rw [Hp2.out,ha];rfl)
  clear ha
  go_wp2
  go_ret
  exact ⟨Xac Hn.out.symm,hb1.trans (hb2.mono hb1.size)⟩
 ·have Hn:=Qh (show pathErr s=0 by rw [Hp2.out,ha];rfl)
  clear ha
  go_wp2
  go_ret
  exact ⟨Xac Hn.out.symm,hb1.trans (hb2.mono hb1.size)⟩
set_option maxRecDepth 100000 in
set_option maxHeartbeats 400000 in
theorem Xgy (I:IH) (hI:Glob I) (s:Bytes) (hs:s.length≤4294967280) (w:World) (hw:Ok I w):
 Calls Tryz.prog 133 #[S s] w (RetL tStr I w (splP s).1 (splP s).2):=by
 have Hc:=Qh (Xop I hI s hs w hw)
 by_cases h0:pathErr s=0
 ·rw [h0] at Hc
  have Hspl:=Qh (Xfw h0)
  clear h0
  go_enter Tryz.func133,Tryz.ntmps133
  go_wp2_with fail
  refine Hc.out.mono ?_
  rintro e w1 ⟨rfl,hb1⟩
  have hok1:Ok I w1:=hw.below (Qn _) hb1
  go_wp2_with fail
  refine (Xdm I hI s hs _ hok1).mono ?_
  rintro e w2 ⟨v2,I2,rfl,hb2,hx2,hok2,hr2⟩
  obtain ⟨ao,cap,rfl,hcap,hcm,_⟩:=id hr2
  go_wp2
  go_ret2
  rw [Hspl.out]
  exact ⟨_,I2,rfl,hb1.trans (hb2.mono hb1.size),hx2.mono hb1.size,hok2,hr2⟩
 ·have Hspl:=Qh (Xjt h0)
  obtain ⟨q,hq⟩:∃q,pathErr s=q:=⟨_,rfl⟩
  have hn:(q != 0)=true:=by rw [←hq];simpa using h0
  rw [hq] at Hspl Hc
  clear hq h0
  go_enter Tryz.func133,Tryz.ntmps133
  go_wp2_with fail
  refine Hc.out.mono ?_
  rintro e w1 ⟨rfl,hb1⟩
  have hok1:Ok I w1:=hw.below (Qn _) hb1
  go_wp2
  go_ret2
  rw [Hspl.out]
  exact ⟨_,I,rfl,hb1,Ext.refl _ _,hok1,RdS.nil _ _⟩
set_option maxRecDepth 100000 in
set_option maxHeartbeats 400000 in
theorem Xk6 (I:IH) (hI:Glob I) (s:Bytes) (hs:s.length≤4294967280) (w:World) (hw:Ok I w):
 Calls Tryz.prog 82 #[S s] w fun e w'=>e= .returned (.tuple #[S (parP s).1,.int .i64 (parP s).2])∧Below w.heap.size w w':=by
 by_cases h0:pathErr s=0
 ·have Hsp:=Qh (by have:=Xgy I hI s hs w hw;rw [Xfw h0] at this;exact this)
  have hs2:=(Xax h0).1
  have hs8:=(Xax h0).2.1
  have Hpp:=Qh (show parP s=if s= [] then ([],1) else (upP s,0) by rw [parP,if_neg (by omega)])
  have hjl:(joinP (els s)).length≤200:=by rw [Xff];exact hs2
  have hel:=Xsp (s:=s)
  have hup:upP s=joinP ((els s).take ((els s).length-1)):=by rw [upP,List.dropLast_eq_take]
  have Hjt:=Qh (Xdo (els s) ((els s).length-1))
  generalize els s=l at Hsp hjl hel hup Hjt hs8
  have Hel:=Qh hel
  have Hup:=Qh hup
  clear h0 hel hup
  go_enter Tryz.func82,Tryz.ntmps82
  go_wp2_with fail
  refine Hsp.out.mono ?_
  rintro e w1 ⟨v1,I1,rfl,hb1,hx1,hok1,hr1⟩
  obtain ⟨ao,cap,rfl,hcap,hcm,_⟩:=id hr1
  have Hr1:=Qh hr1
  clear hr1 hx1
  have hml:maxLen=9223372036854775807:=rfl
  by_cases hl0:l.length=0
  ·have Hn:=Qh (show parP s=([],1) by rw [Hpp.out,if_pos (Hel.out.1 (List.eq_nil_of_length_eq_zero hl0))])
   have hz:((l.length:Int)==0)=true:=by rw [hl0];rfl
   clear hl0 hml
   go_wp2
   go_ret2
   rw [Hn.out]
   exact ⟨rfl,hb1⟩
  ·have Hn:=Qh (show parP s=(joinP (l.take (l.length-1)),0) by
    rw [Hpp.out,if_neg (fun e=>hl0 (by rw [Hel.out.2 e];rfl)),Hup.out])
   have hz:((l.length:Int)==0)=false:=by rw [beq_eq_false_iff_ne];omega
   have hlp:1≤l.length:=by omega
   have hi:IntKind.i64.wrap ((l.length:Int)-1)=(l.length:Int)-1:=IntWalk.i64_in _ (by omega)
   have hj:(0:Int)≤(l.length:Int)-1:=by omega
   have hj2:(l.length:Int)-1≤(cap:Int):=by omega
   have hm:((l.length:Int)-1).toNat=l.length-1:=by omega
   have Hr2:=Qh (Hr1.out.takeS (n:=l.length-1) (by omega))
   have Hj2:=Qh (Xuc I1 _ _ Hr2.out (by have:=Hjt.out;omega) (by rw [List.length_take];omega) w1 hok1)
   clear hl0 hml
   go_wp2_with fail
   refine Hj2.out.mono ?_
   rintro e w2 ⟨rfl,hb2⟩
   go_wp2
   go_ret2
   rw [Hn.out]
   exact ⟨rfl,hb1.trans (hb2.mono hb1.size)⟩
 ·have Hsp:=Qh (by have:=Xgy I hI s hs w hw;rw [Xjt h0] at this;exact this)
  obtain ⟨q,hq⟩:∃q,pathErr s=q:=⟨_,rfl⟩
  have hn:(q != 0)=true:=by rw [←hq];simpa using h0
  have Hpp:=Qh (show parP s=([],q) by rw [parP,if_pos h0,hq])
  rw [hq] at Hsp
  clear hq h0
  go_enter Tryz.func82,Tryz.ntmps82
  go_wp2_with fail
  refine Hsp.out.mono ?_
  rintro e w1 ⟨v1,I1,rfl,hb1,hx1,hok1,hr1⟩
  obtain ⟨ao,cap,rfl,hcap,hcm,_⟩:=id hr1
  go_wp2
  go_ret2
  rw [Hpp.out]
  exact ⟨rfl,hb1⟩
set_option maxRecDepth 100000 in
set_option maxHeartbeats 1000000 in
theorem Xj1 (I:IH) (hI:Glob I) (p d:Bytes) (hp:p.length≤4294967280) (hd:d.length≤4294967280) (w:World) (hw:Ok I w):
 Calls Tryz.prog 79 #[S p,S d] w fun e w'=>e= .returned (.bool (under p d))∧Below w.heap.size w w':=by
 have Hsp:=Qh (Xgy I hI p hp w hw)
 have Hu:=Qh (show under p d=(decide (pathErr p=0)&&decide (pathErr d=0)&&(els d).isPrefixOf (els p)) from rfl)
 have hq1:(splP p).2=pathErr p:=by rw [splP];split<;>simp_all
 have hq2:(splP d).2=pathErr d:=by rw [splP];split<;>simp_all
 have Hl1:=Qh (fun h:pathErr p=0=>show (splP p).1=els p by rw [Xfw h])
 have Hl2:=Qh (fun h:pathErr d=0=>show (splP d).1=els d by rw [Xfw h])
 have Hsd:=Qh (fun I hI w hw=>Xgy I hI d hd w hw)
 rw [hq1] at Hsp
 rw [hq2] at Hsd
 generalize (splP p).1=l at Hsp Hl1
 generalize (splP d).1=m at Hsd Hl2
 clear hq1 hq2
 go_enter Tryz.func79,Tryz.ntmps79
 go_wp2_with fail
 refine Hsp.out.mono ?_
 rintro e w1 ⟨v1,I1,rfl,hb1,hx1,hok1,hr1⟩
 have hI1:=hI.mono (hx1.keep hw (Qn _))
 have Hr1:=Qh hr1
 clear hr1
 obtain ⟨ao0,cap0,rfl,_,_,_⟩:=id Hr1.out
 go_wp2_with fail
 refine (Hsd.out I1 hI1 _ hok1).mono ?_
 rintro e w2 ⟨v2,I2,rfl,hb2,hx2,hok2,hr2⟩
 have hr1:=Hr1.out.mono (hx2.keep hok1 (Qn _))
 have hb2':=hb1.trans (hb2.mono hb1.size)
 obtain ⟨ao,cap,e1,hcap,hcm,_⟩:=id hr1
 cases e1
 obtain ⟨ao2,cap2,rfl,hcap2,hcm2,_⟩:=id hr2
 have hlen:=hr1.len_le
 have hlen2:=hr2.len_le
 have Hl:=Qh hr1
 have Hm:=Qh hr2
 clear hr1 hr2 Hr1 hb1 hb2 hx1 hx2
 by_cases h0:pathErr p=0
 case neg=>
  have Hn:=Qh (show under p d=false by rw [Hu.out,Qf h0];rfl)
  obtain ⟨q,hq⟩:∃q,pathErr p=q:=⟨_,rfl⟩
  have hn:(q==0)=false:=by rw [←hq];simpa using h0
  rw [hq]
  clear hq h0
  go_wp2
  go_ret
  exact ⟨Xan Hn.out.symm,hb2'⟩
 by_cases h1:pathErr d=0
 case neg=>
  have Hn:=Qh (show under p d=false by rw [Hu.out,Qf h1,Bool.and_false];rfl)
  obtain ⟨q,hq⟩:∃q,pathErr d=q:=⟨_,rfl⟩
  have hn:(q==0)=false:=by rw [←hq];simpa using h1
  rw [hq,h0]
  clear hq h1 h0
  go_wp2
  go_ret
  exact ⟨Xan Hn.out.symm,hb2'⟩
 have Hu2:=Qh (show under p d=m.isPrefixOf l by rw [Hu.out,Qt h0,Qt h1,Hl1.out h0,Hl2.out h1];rfl)
 rw [h0,h1]
 clear h0 h1
 by_cases hlm:m.length≤l.length
 case neg=>
  have hd1:decide (m.length≤l.length)=false:=Qf hlm
  have Hn:=Qh (show under p d=false by rw [Hu2.out];exact Xgd (by omega))
  go_wp2
  go_ret
  exact ⟨Xan Hn.out.symm,hb2'⟩
 have hd1:decide (m.length≤l.length)=true:=Qt hlm
 have hcc:m.length≤cap0:=by omega
 have Hn:=Qh (show under p d=decide (l.take m.length=m) by rw [Hu2.out];exact Xht l m)
 have Heq:=Qh (Xrs I2 _ _ _ _ (Hl.out.takeS hlm) Hm.out w2 hok2)
 generalize decide (l.take m.length=m)=bb at Hn Heq
 go_wp2_with fail
 refine Heq.out.mono ?_
 rintro e w3 ⟨rfl,hb3⟩
 go_wp2
 go_ret
 exact ⟨Xan Hn.out.symm,hb2'.trans (hb3.mono hb2'.size)⟩
def cmpS (x y:Bytes):Int:=if Op.bytesLess x y then -1 else if Op.bytesLess y x then 1 else 0
set_option maxRecDepth 100000 in
theorem Xc8 (x:Bytes) (w:World):Calls Tryz.prog 189 #[S x] w fun e w'=>e= .returned (.bool false)∧w'=w:=by
 have f:(x != x)=false:=by simp
 have f2:(x==x)=true:=by simp
 go_enter Tryz.func189,Tryz.ntmps189
 go_wp2
 go_ret
 exact ⟨by first|rfl|(simp),rfl⟩
set_option maxRecDepth 100000 in
set_option maxHeartbeats 400000 in
theorem Xv3 (x y:Bytes) (w:World):Calls Tryz.prog 122 #[S x,S y] w fun e w'=>e= .returned (.int .i64 (cmpS x y))∧w'=w:=by
 rcases Xel x y with ht|ht|ht
 ·have Hn:=Qh (show cmpS x y= -1 by rw [cmpS,ht];rfl)
  go_enter Tryz.func122,Tryz.ntmps122
  go_wp2_with fail
  refine (Xc8 x _).mono ?_
  rintro e w1 ⟨rfl,rfl⟩
  go_wp2_with fail
  refine (Xc8 y _).mono ?_
  rintro e w2 ⟨rfl,rfl⟩
  go_wp2
  go_ret
  exact ⟨Xac Hn.out.symm,rfl⟩
 ·have f1:Op.bytesLess x y=false:=by rw [ht];exact Xbb _
  have f2:Op.bytesLess y x=false:=by rw [ht];exact Xbb _
  have f3:(x==y)=true:=by simp [ht]
  have f4:(!(x==y))=false:=by simp [ht]
  have Hn:=Qh (show cmpS x y=0 by rw [cmpS,f1,f2];rfl)
  clear ht
  go_enter Tryz.func122,Tryz.ntmps122
  go_wp2_with fail
  refine (Xc8 x _).mono ?_
  rintro e w1 ⟨rfl,rfl⟩
  go_wp2_with fail
  refine (Xc8 y _).mono ?_
  rintro e w2 ⟨rfl,rfl⟩
  go_wp2
  go_ret
  exact ⟨Xac Hn.out.symm,rfl⟩
 ·have f1:=Xem ht
  have f3:(x==y)=false:=by simpa using (Xqk ht).symm
  have f4:(!(x==y))=true:=by rw [f3];rfl
  have Hn:=Qh (show cmpS x y=1 by rw [cmpS,f1,ht];rfl)
  go_enter Tryz.func122,Tryz.ntmps122
  go_wp2_with fail
  refine (Xc8 x _).mono ?_
  rintro e w1 ⟨rfl,rfl⟩
  go_wp2_with fail
  refine (Xc8 y _).mono ?_
  rintro e w2 ⟨rfl,rfl⟩
  go_wp2
  go_ret
  exact ⟨Xac Hn.out.symm,rfl⟩
theorem Xqj (x y:Bytes):(cmpS x y= -1∧Op.bytesLess x y=true)∨(cmpS x y=0∧x=y)∨(cmpS x y=1∧Op.bytesLess y x=true):=by
 rcases Xel x y with ht|ht|ht
 ·exact .inl ⟨by rw [cmpS,ht];rfl,ht⟩
 ·exact .inr (.inl ⟨by rw [cmpS,ht,Xbb];rfl,ht⟩)
 ·exact .inr (.inr ⟨by rw [cmpS,Xem ht,ht];rfl,ht⟩)
set_option maxRecDepth 100000 in
set_option maxHeartbeats 1000000 in
theorem Xhy (I:IH) (v1 v2:Value) (l m:List Bytes) (hv1:RdS tStr I v1 l) (hv2:RdS tStr I v2 m) (w:World) (hw:Ok I w):
 Calls Tryz.prog 120 #[v1,v2,.func (.func 122) #[] #[]] w fun e w'=>e= .returned (.int .i64 (cmpL l m))∧Below w.heap.size w w':=by
 have hlen:=hv1.len_le
 have hlen2:=hv2.len_le
 obtain ⟨ao,cap,rfl,hcap,hcm,_⟩:=id hv1
 obtain ⟨ao2,cap2,rfl,hcap2,hcm2,_⟩:=id hv2
 have Hl:=Qh hv1
 have Hm:=Qh hv2
 clear hv1 hv2
 have eg:∀args w,(callFunc 122 args).run Tryz.prog w= .ok (.enter 122 args) w:=fun _ _=>by kernel_rfl
 go_enter Tryz.func120,Tryz.ntmps120
 go_wp2_with fail
 go_loopw [13] (fun s13 wr=> ∃k:Nat,k≤l.length∧k≤m.length∧s13= .int .i64 k∧l.take k=m.take k∧Below w.heap.size w wr) (fun i _=>l.length-(intOf i).toNat)
 case atStart=>exact ⟨0,Nat.zero_le _,Nat.zero_le _,rfl,rfl,Qb _ _⟩
 case round=>
  obtain ⟨k,hk,hk2,rfl,hr,hb⟩:=hrel
  have Hr:=Qh hr
  have Hcd:=Qh (Xmb hr hk hk2)
  clear hr
  have hwr:Ok I wr:=hw.below (Qn _) hb
  by_cases hlt:k<l.length
  case neg=>
   have Hdl:=Qh (show l.drop k= [] from List.drop_of_length_le (by omega))
   by_cases hlt2:k<m.length
   ·have hd1:decide (l.length<m.length)=true:=Qt (by omega)
    have Hn:=Qh (show cmpL l m= -1 by rw [Hcd.out,Hdl.out,List.drop_eq_getElem_cons hlt2];rfl)
    go_wp2
    go_ret
    exact ⟨Xac Hn.out.symm,hb⟩
   ·have hd1:decide (l.length<m.length)=false:=Qf (by omega)
    have Hn:=Qh (show cmpL l m=0 by rw [Hcd.out,Hdl.out,List.drop_of_length_le (by omega)];rfl)
    go_wp2
    go_ret
    exact ⟨Xac Hn.out.symm,hb⟩
  obtain ⟨x,b,off,cap',hlx,hvv,hx0⟩:=Xhh Hl.out hwr k hlt
  cases hvv
  by_cases hlt2:k<m.length
  case neg=>
   have hd1:decide (m.length≤k)=true:=Qt (by omega)
   have Hn:=Qh (show cmpL l m=1 by rw [Hcd.out,List.drop_of_length_le (l:=m) (by omega),List.drop_eq_getElem_cons hlt];rfl)
   clear hlx
   go_wp2
   go_ret
   exact ⟨Xac Hn.out.symm,hb⟩
  have hd1:decide (m.length≤k)=false:=Qf (by omega)
  obtain ⟨y,b',off',cap'',hly,hvv,hy0⟩:=Xhh Hm.out hwr k hlt2
  cases hvv
  have Hcd2:=Qh (show cmpL l m=cmpL (x::l.drop (k+1)) (y::m.drop (k+1)) by rw [Hcd.out,List.drop_eq_getElem_cons hlt,List.drop_eq_getElem_cons hlt2,hlx,hly])
  have Hlx:=Qh hlx
  have Hly:=Qh hly
  have Hc:=Qh (Xv3 x y)
  have hcs:=Xqj x y
  generalize cmpS x y=c at Hc hcs
  clear hlx hly
  rcases hcs with ⟨hc,ht⟩|⟨hc,ht⟩|⟨hc,ht⟩
  ·subst hc
   have Hn:=Qh (show cmpL l m= -1 by rw [Hcd2.out];exact Xgo ht _ _)
   clear ht
   go_wp2_with fail
   refine (Hc.out _).mono ?_
   rintro e w1 ⟨rfl,rfl⟩
   go_wp2
   go_ret
   exact ⟨Xac Hn.out.symm,hb⟩
  ·subst hc
   have Hn:=Qh (show l.take (k+1)=m.take (k+1) by rw [List.take_succ_eq_append_getElem hlt,List.take_succ_eq_append_getElem hlt2,Hr.out,Hlx.out,Hly.out,ht])
   clear ht
   go_wp2_with fail
   refine (Hc.out _).mono ?_
   rintro e w1 ⟨rfl,rfl⟩
   go_wp2
   go_roundw
   case rel=>exact ⟨k+1,by omega,by omega,by go_num,Hn.out,hb⟩
   case measure=>simp [intOf];omega
  ·subst hc
   have Hn:=Qh (show cmpL l m=1 by rw [Hcd2.out];exact Xgp ht _ _)
   clear ht
   go_wp2_with fail
   refine (Hc.out _).mono ?_
   rintro e w1 ⟨rfl,rfl⟩
   go_wp2
   go_ret
   exact ⟨Xac Hn.out.symm,hb⟩
set_option maxRecDepth 100000 in
set_option maxHeartbeats 400000 in
theorem Xfy (I:IH) (hI:Glob I) (p d:Bytes) (hp:p.length≤4294967280) (hd:d.length≤4294967280) (w:World) (hw:Ok I w):
 Calls Tryz.prog 71 #[S p,S d] w fun e w'=>e= .returned (.int .i64 (cmpP p d))∧Below w.heap.size w w':=by
 have Hu:=Qh (Xs6 p d)
 have Hep:=Qh (Xdm I hI p hp w hw)
 have Hed:=Qh (fun I hI w hw=>Xdm I hI d hd w hw)
 generalize els p=l at Hu Hep
 generalize els d=m at Hu Hed
 go_enter Tryz.func71,Tryz.ntmps71
 go_wp2_with fail
 refine Hep.out.mono ?_
 rintro e w1 ⟨v1,I1,rfl,hb1,hx1,hok1,hr1⟩
 have hI1:=hI.mono (hx1.keep hw (Qn _))
 have Hr1:=Qh hr1
 clear hr1
 obtain ⟨ao0,cap0,rfl,_,_,_⟩:=id Hr1.out
 go_wp2_with fail
 refine (Hed.out I1 hI1 _ hok1).mono ?_
 rintro e w2 ⟨v2,I2,rfl,hb2,hx2,hok2,hr2⟩
 have hr1:=Hr1.out.mono (hx2.keep hok1 (Qn _))
 have hb2':=hb1.trans (hb2.mono hb1.size)
 have Hc:=Qh (Xhy I2 _ _ l m hr1 hr2 w2 hok2)
 obtain ⟨ao2,cap2,rfl,_,_,_⟩:=id hr2
 clear hr1 hr2 Hr1 hx1 hx2
 go_wp2_with fail
 refine Hc.out.mono ?_
 rintro e w3 ⟨rfl,hb3⟩
 go_wp2
 go_ret
 exact ⟨Xac Hu.out.symm,hb2'.trans (hb3.mono hb2'.size)⟩
theorem Xw8 {W w1:World} {n:Nat} {x:At} {T:TypeId} (hn:n=W.heap.size) (hb:Below (W.alloc (.cells #[S x.k,S x.v] T)).heap.size (W.alloc (.cells #[S x.k,S x.v] T)) w1):
 w1.cell? ⟨n,0,none⟩=some (S x.k)∧w1.cell? ⟨n,1,none⟩=some (S x.v):=by
 subst hn
 refine ⟨?_,?_⟩<;>(rw [hb.cell (by simp)];simp)
end Go.Proofs.YtdodihnehppnmaaGreatDoor
namespace Go.Proofs
open Go.Shelf
def Tryz.lays160_ren:Go.Shelf.Ren:=⟨fun|160=>156|232=>221|231=>220|227=>222|234=>224|233=>223|236=>226|235=>225|228=>268|271=>271|151=>270|197=>269|120=>290|152=>289|260=>288|137=>154|119=>299|224=>171|225=>170|217=>169|266=>237|n=>n,fun|9=>9|4=>4|3=>3|5=>5|117=>237|116=>236|0=>0|124=>240|21=>21|105=>271|46=>116|119=>295|139=>298|138=>297|n=>n,fun|3=>4|4=>5|n=>n⟩
theorem Tryz.lays160:Go.Proofs.Lays.n160 Tryz.prog Tryz.lays160_ren:= {
 mixed:=by kernel_rfl
 f119:=Tryz.func299.trans (congrArg some (by kernel_rfl))
 f120:=Tryz.func290.trans (congrArg some (by kernel_rfl))
 f137:=Tryz.func154.trans (congrArg some (by kernel_rfl))
 f151:=Tryz.func270.trans (congrArg some (by kernel_rfl))
 f152:=Tryz.func289.trans (congrArg some (by kernel_rfl))
 f160:=Tryz.func156.trans (congrArg some (by kernel_rfl))
 f197:=Tryz.func269.trans (congrArg some (by kernel_rfl))
 f217:=Tryz.func169.trans (congrArg some (by kernel_rfl))
 f224:=Tryz.func171.trans (congrArg some (by kernel_rfl))
 f225:=Tryz.func170.trans (congrArg some (by kernel_rfl))
 f227:=Tryz.func222.trans (congrArg some (by kernel_rfl))
 f228:=Tryz.func268.trans (congrArg some (by kernel_rfl))
 f231:=Tryz.func220.trans (congrArg some (by kernel_rfl))
 f232:=Tryz.func221.trans (congrArg some (by kernel_rfl))
 f233:=Tryz.func223.trans (congrArg some (by kernel_rfl))
 f234:=Tryz.func224.trans (congrArg some (by kernel_rfl))
 f235:=Tryz.func225.trans (congrArg some (by kernel_rfl))
 f236:=Tryz.func226.trans (congrArg some (by kernel_rfl))
 f260:=Tryz.func288.trans (congrArg some (by kernel_rfl))
 f266:=Tryz.func237.trans (congrArg some (by kernel_rfl))
 f271:=Tryz.func271.trans (congrArg some (by kernel_rfl))
 t0:=Tryz.underlying0
 a0:=Tryz.isAgg0
 z0:=Tryz.sizeOf0
 v0:=Tryz.zeroValue0
 t3:=Tryz.underlying3
 a3:=Tryz.isAgg3
 z3:=Tryz.sizeOf3
 v3:=Tryz.zeroValue3
 t4:=Tryz.underlying4
 a4:=Tryz.isAgg4
 z4:=Tryz.sizeOf4
 v4:=Tryz.zeroValue4
 t5:=Tryz.underlying5
 a5:=Tryz.isAgg5
 z5:=Tryz.sizeOf5
 v5:=Tryz.zeroValue5
 t9:=Tryz.underlying9
 a9:=Tryz.isAgg9
 z9:=Tryz.sizeOf9
 v9:=Tryz.zeroValue9
 t21:=Tryz.underlying21
 a21:=Tryz.isAgg21
 z21:=Tryz.sizeOf21
 v21:=Tryz.zeroValue21
 t46:=Tryz.underlying116
 a46:=Tryz.isAgg116
 z46:=Tryz.sizeOf116
 v46:=Tryz.zeroValue116
 t105:=Tryz.underlying271
 a105:=Tryz.isAgg271
 z105:=Tryz.sizeOf271
 v105:=Tryz.zeroValue271
 t116:=Tryz.underlying236
 a116:=Tryz.isAgg236
 z116:=Tryz.sizeOf236
 t117:=Tryz.underlying237
 a117:=Tryz.isAgg237
 z117:=Tryz.sizeOf237
 v117:=Tryz.zeroValue237
 t119:=Tryz.underlying295
 a119:=Tryz.isAgg295
 z119:=Tryz.sizeOf295
 t124:=Tryz.underlying240
 a124:=Tryz.isAgg240
 z124:=Tryz.sizeOf240
 v124:=Tryz.zeroValue240
 t138:=Tryz.underlying297
 a138:=Tryz.isAgg297
 z138:=Tryz.sizeOf297
 v138:=Tryz.zeroValue297
 t139:=Tryz.underlying298
 a139:=Tryz.isAgg298
 z139:=Tryz.sizeOf298
 v139:=Tryz.zeroValue298
 g3:=by kernel_rfl
 g4:=by kernel_rfl }
open Go.RowKit in
theorem Tryz.strings_Trim (s cutset:ByteArray) (w:World) (hs:s.size≤9223372036854775807) (hcs:cutset.size<4294967281) (hascii:∀(j:Nat) b,cutset.data.toList[j]? =some b→b.toNat<128):
 Calls Tryz.prog 156 #[.string s,.string cutset] w fun e w'=>e= .returned (.string ⟨(Lib.trimS s.data.toList cutset.data.toList).toArray⟩)∧RowKit.Below w.heap.size w w':=Any.strings_Trim_laid Tryz.lays160 (by kernel_rfl) s cutset w hs hcs hascii
end Go.Proofs
namespace Go.Proofs.YtdodihnehppnmaaGreatDoor
open Go.RowKit
abbrev cutset0:Bytes:= [97,98,99,100,101,102,103,104,105,106,107,108,109,110,111,112,113,114,115,116,117,118,119,120,121,122,48,49,50,51,52,53,54,55,56,57,46,95,45]
set_option maxRecDepth 100000 in
theorem Xl7 (c:UInt8):cutset0.contains c=keyChar c:=by
 have h:∀n:Fin 256,cutset0.contains (UInt8.ofNat n.1)=keyChar (UInt8.ofNat n.1):=by decide
 have:=h ⟨c.toNat,c.toNat_lt⟩
 simpa using this
theorem Xhf (s cs:Bytes):Lib.trimS s cs= []↔s.all (cs.contains ·)=true:=by
 have hd:∀l:Bytes,l.dropWhile (cs.contains ·)= []↔l.all (cs.contains ·)=true:=by
  intro l
  induction l with
  |nil=>simp
  |cons x l ih=>
   rw [List.dropWhile_cons,List.all_cons]
   cases h:cs.contains x
   ·simp
   ·simp only [if_true,Bool.true_and];exact ih
 have hdd:∀l:Bytes,(l.dropWhile (cs.contains ·)).all (cs.contains ·)=l.all (cs.contains ·):=by
  intro l
  induction l with
  |nil=>rfl
  |cons x l ih=>
   rw [List.dropWhile_cons]
   cases h:cs.contains x
   ·rfl
   ·simp only [if_true];rw [ih,List.all_cons,h,Bool.true_and]
 unfold Lib.trimS Lib.trimLeftS Lib.trimRightS
 rw [hd,List.all_reverse,hdd,List.all_reverse]
set_option maxRecDepth 100000 in
theorem Xub (s:Bytes) (hs:s.length≤9223372036854775807) (w:World):
 Calls Tryz.prog 156 #[S s,S cutset0] w fun e w'=>e= .returned (S (Lib.trimS s cutset0))∧Below w.heap.size w w':=by
 have h:=Tryz.strings_Trim ⟨s.toArray⟩ ⟨cutset0.toArray⟩ w (by rw [ByteArray.size_mk',List.size_toArray];exact hs) (by decide) (ascii_of_all (by decide))
 exact h
def keyErr (s:Bytes):Int:=if keyOk s then 0 else 7
set_option maxRecDepth 100000 in
set_option maxHeartbeats 400000 in
theorem Xtb (s:Bytes) (hs:s.length≤9223372036854775807) (w:World):
 Calls Tryz.prog 260 #[S s] w fun e w'=>e= .returned (.int .i64 (keyErr s))∧Below w.heap.size w w':=by
 by_cases h1:s= []
 ·have hE:keyErr s=7:=by rw [h1];rfl
  have HE:=Qh hE
  have f1:(s== [])=true:=by rw [h1];rfl
  have f2:s.isEmpty=true:=by rw [h1];rfl
  have f3:(!s.isEmpty)=false:=by rw [h1];rfl
  clear hE h1
  go_enter Tryz.func260,Tryz.ntmps260
  go_wp2
  go_ret
  exact ⟨Xac HE.out.symm,Qb _ _⟩
 ·have hlen:1≤s.length:=by cases s<;>simp_all
  have f1:(s== [])=false:=by simpa using h1
  have f2:s.isEmpty=false:=by cases s<;>simp_all
  have f3:(!s.isEmpty)=true:=by rw [f2];rfl
  clear h1
  by_cases h32:s.length≤32
  ·have hd1:decide (32<s.length)=false:=Qf (by omega)
   have hk:keyOk s=s.all (cutset0.contains ·):=by
    have:(fun c=>cutset0.contains c)=keyChar:=funext Xl7
    rw [this];simp [keyOk,h32,hlen]
   have ht:=Xhf s cutset0
   have Htr:=Qh (Xub s hs)
   generalize hT:Lib.trimS s cutset0=T at ht Htr
   by_cases hTn:T= []
   ·have HE:=Qh (show keyErr s=0 by rw [keyErr,hk,if_pos (ht.1 hTn)])
    have g1:(T== [])=true:=by rw [hTn];rfl
    have g2:T.isEmpty=true:=by rw [hTn];rfl
    have g3:(!T.isEmpty)=false:=by rw [hTn];rfl
    clear hTn ht hk hT
    go_enter Tryz.func260,Tryz.ntmps260
    go_wp2_with fail
    refine (Htr.out _).mono ?_
    rintro e w1 ⟨rfl,hb1⟩
    go_wp2
    go_ret
    exact ⟨Xac HE.out.symm,hb1⟩
   ·have HE:=Qh (show keyErr s=7 by rw [keyErr,hk,if_neg (fun h=>hTn (ht.2 h))])
    have g1:(T== [])=false:=by simpa using hTn
    have g2:T.isEmpty=false:=by cases T<;>simp_all
    have g3:(!T.isEmpty)=true:=by rw [g2];rfl
    clear hTn ht hk hT
    go_enter Tryz.func260,Tryz.ntmps260
    go_wp2_with fail
    refine (Htr.out _).mono ?_
    rintro e w1 ⟨rfl,hb1⟩
    go_wp2
    go_ret
    exact ⟨Xac HE.out.symm,hb1⟩
  ·have hd1:decide (32<s.length)=true:=Qt (by omega)
   have HE:=Qh (show keyErr s=7 by rw [keyErr,if_neg (by simp [keyOk,h32])])
   go_enter Tryz.func260,Tryz.ntmps260
   go_wp2
   go_ret
   exact ⟨Xac HE.out.symm,Qb _ _⟩
set_option maxRecDepth 100000 in
set_option maxHeartbeats 400000 in
theorem Xw7 (x:At) (hx:x.Wf) (w:World):
 Calls Tryz.prog 197 #[x.val] w fun e w'=>e= .returned (.int .i64 (atErr x))∧Below w.heap.size w w':=by
 obtain ⟨hx1,hx2⟩:=hx
 cases hk:keyOk x.k
 ·have HE:=Qh (show keyErr x.k=7 by rw [keyErr,hk];rfl)
  have HA:=Qh (show atErr x=7 by rw [atErr,if_pos hk])
  clear hk
  go_enter Tryz.func197,Tryz.ntmps197
  go_wp2_with fail
  refine (Xtb x.k hx1 _).mono ?_
  rintro e w1 ⟨rfl,hb1⟩
  rw [HE.out]
  go_wp2
  go_ret
  exact ⟨Xac HA.out.symm,((Qb _ _).alloc (Qn _) _).trans (hb1.mono (by simp))⟩
 ·have HE:=Qh (show keyErr x.k=0 by rw [keyErr,hk];rfl)
  have Hk:=Qh hk
  clear hk
  by_cases h64:x.v.length≤64
  ·have hd:decide (64<x.v.length)=false:=Qf (by omega)
   have HA:=Qh (show atErr x=0 by rw [atErr,if_neg (by rw [Hk.out];simp),if_neg (by omega)])
   go_enter Tryz.func197,Tryz.ntmps197
   go_wp2_with fail
   refine (Xtb x.k hx1 _).mono ?_
   rintro e w1 ⟨rfl,hb1⟩
   rw [HE.out]
   obtain ⟨hc0,hc1⟩:=Xw8 rfl hb1
   go_wp2
   go_ret
   exact ⟨Xac HA.out.symm,((Qb _ _).alloc (Qn _) _).trans (hb1.mono (by simp))⟩
  ·have hd:decide (64<x.v.length)=true:=Qt (by omega)
   have HA:=Qh (show atErr x=6 by rw [atErr,if_neg (by rw [Hk.out];simp),if_pos (by omega)])
   go_enter Tryz.func197,Tryz.ntmps197
   go_wp2_with fail
   refine (Xtb x.k hx1 _).mono ?_
   rintro e w1 ⟨rfl,hb1⟩
   rw [HE.out]
   obtain ⟨hc0,hc1⟩:=Xw8 rfl hb1
   go_wp2
   go_ret
   exact ⟨Xac HA.out.symm,((Qb _ _).alloc (Qn _) _).trans (hb1.mono (by simp))⟩
theorem Xma:∀(a b:Bytes),Lib.compareBytes a b=if Op.bytesLess a b then -1 else if a==b then 0 else 1
 | [],[]=>rfl
 | [],_::_=>rfl
 |_::_,[]=>rfl
 |x::a,y::b=>by
  rw [Lib.compareBytes,Xma a b,Op.bytesLess]
  by_cases h1:x<y
  ·simp [h1]
  ·by_cases h2:y<x
   ·have:¬x=y:=fun e=>by subst e;exact UInt8.lt_irrefl _ h2
    simp [h1,h2,this]
   ·have e:x=y:=UInt8.le_antisymm (UInt8.not_lt.1 h2) (UInt8.not_lt.1 h1)
    subst e
    simp
set_option maxRecDepth 100000 in
theorem Xnh (a b:Bytes) (w:World):Calls Tryz.prog 198 #[S a,S b] w fun e w'=>e= .returned (.int .i64 (Lib.compareBytes a b))∧Below w.heap.size w w':=
 (Tryz.strings_Compare ⟨a.toArray⟩ ⟨b.toArray⟩ w).mono fun _ _ ⟨h1,h2⟩=>⟨h1,by rw [h2];exact Qb _ _⟩
end Go.Proofs.YtdodihnehppnmaaGreatDoor
