/- Lemmas for the claim's theorem;conditions: as each says. -/
import Derived.Test.YtkipnpjagcfcpaaGreatDoorE01
import Derived.Shelf.Strings.OnBuilder
import Derived.Shelf.Small.Strs
import Derived.Shelf.GgClosure.StringsIndexFuncTop
import Derived.Shelf.Strings.Split
import Derived.Shelf.Slices.Equal
import Derived.Shelf.Slices.Empties2
import Derived.Test.YtkipnpjagcfcpaaGreatDoorProg
import Derived.Shelf.LaysM
import Derived.Shelf.LaysC
import Derived.Shelf.Strconv.Itoa3
import Derived.Shelf.Strconv.AtoiAll
import Derived.Shelf.Strconv.ErrVarAll
import Derived.Shelf.Strings.SlTrimAscii
import Derived.Lib.SmallJoins
import Derived.Lib.AppendIntMem
import Derived.Shelf.Strings.Builder1
import Derived.Shelf.Strings.Builder2
import Derived.Shelf.Strings.Repeat
import Derived.Shelf.Strings.LastIndex
import Derived.Lib.Repeat
import Derived.Laws.MakeOwn
import Derived.Shelf.Strings.Prefix
import Derived.Shelf.Slices.Turned
import Derived.OwnWalk
import Derived.RegionTactic
import Derived.Maps.AppendAt
import Derived.Recover
set_option maxHeartbeats 0
set_option maxRecDepth 100000
set_option linter.all false
namespace Go.Proofs.YtkipnpjagcfcpaaGreatDoor
open Go.RowKit
theorem Xps{t:List aG}{k:Nat}(h:∀y∈t.take k,aJ y.af=0){x:aG}(hk:k<t.length)(hx:t[k]=x)(he:aJ x.af=0):∀y∈t.take (k+1),aJ y.af=0:=by
 intro y hy;rw[List.take_succ_eq_append_getElem hk,List.mem_append]at hy;rcases hy with hy|hy
 ·exact h y hy
 ·simp at hy;rw[hy,hx];exact he
def Wn(t:List aG):Int:=if 60<t.length then 0 else if Po t≠0 then 0 else if t.any fV then 0 else 1
end Go.Proofs.YtkipnpjagcfcpaaGreatDoor
namespace Go.Proofs
open Go.Shelf
def Tryz.rT:Go.Shelf.Ren:=⟨fun|156=>140|165=>189|166=>23|169=>28|240=>60|241=>253|276=>107|277=>286|n=>n,fun|31=>123|9=>9|3=>3|4=>4|0=>0|20=>20|72=>71|76=>74|70=>68|37=>69|75=>73|127=>130|164=>165|5=>5|80=>80|n=>n,fun|n=>n⟩
theorem Tryz.Be:Go.Proofs.Lays.n156 Tryz.prog Tryz.rT:={
 mixed:=by kernel_rfl
 f156:=Tryz.func140.trans (congrArg some (by kernel_rfl))
 f165:=Tryz.func189.trans (congrArg some (by kernel_rfl))
 f166:=Tryz.func23.trans (congrArg some (by kernel_rfl))
 f169:=Tryz.func28.trans (congrArg some (by kernel_rfl))
 f240:=Tryz.func60.trans (congrArg some (by kernel_rfl))
 f241:=Tryz.func253.trans (congrArg some (by kernel_rfl))
 f276:=Tryz.func107.trans (congrArg some (by kernel_rfl))
 f277:=Tryz.func286.trans (congrArg some (by kernel_rfl))
 t0:=Tryz.underlying0
 a0:=Tryz.isAgg0
 z0:=Tryz.sizeOf0
 v0:=Tryz.zeroValue0
 t3:=Tryz.underlying3
 a3:=Tryz.isAgg3
 z3:=Tryz.sizeOf3
 v3:=Tryz.zeroValue3
 t4:=Tryz.underlying4
 a4:=Tryz.isAgg4
 z4:=Tryz.sizeOf4
 v4:=Tryz.zeroValue4
 t9:=Tryz.underlying9
 a9:=Tryz.isAgg9
 z9:=Tryz.sizeOf9
 v9:=Tryz.zeroValue9
 t20:=Tryz.underlying20
 a20:=Tryz.isAgg20
 z20:=Tryz.sizeOf20
 v20:=Tryz.zeroValue20
 t31:=Tryz.underlying123
 a31:=Tryz.isAgg123
 z31:=Tryz.sizeOf123
 v31:=Tryz.zeroValue123
 t37:=Tryz.underlying69
 a37:=Tryz.isAgg69
 z37:=Tryz.sizeOf69
 v37:=Tryz.zeroValue69
 t70:=Tryz.underlying68
 a70:=Tryz.isAgg68
 z70:=Tryz.sizeOf68
 v70:=Tryz.zeroValue68
 t72:=Tryz.underlying71
 a72:=Tryz.isAgg71
 z72:=Tryz.sizeOf71
 v72:=Tryz.zeroValue71
 t75:=Tryz.underlying73
 a75:=Tryz.isAgg73
 z75:=Tryz.sizeOf73
 v75:=Tryz.zeroValue73
 t76:=Tryz.underlying74
 a76:=Tryz.isAgg74
 z76:=Tryz.sizeOf74
 v76:=Tryz.zeroValue74
 t127:=Tryz.underlying130
 a127:=Tryz.isAgg130
 z127:=Tryz.sizeOf130
 v127:=Tryz.zeroValue130
 t164:=Tryz.underlying165
 a164:=Tryz.isAgg165
 z164:=Tryz.sizeOf165
 v164:=Tryz.zeroValue165}
theorem Tryz.l9:Builder.Extra Tryz.prog Tryz.rT:={
 sizeBuilder:=by kernel_rfl
 liesBuilder:=by kernel_rfl
 t5:=Tryz.underlying5
 a5:=Tryz.isAgg5
 z5:=Tryz.sizeOf5
 v5:=Tryz.zeroValue5
 infoByte:=by kernel_rfl
 cellsByte:=by kernel_rfl
 sizeByte:=by kernel_rfl
 neB5:=by decide}
open Go.RowKit in
theorem Tryz.strings_Join_none(a:Option Addr)(c:Nat)(sep:ByteArray)(w:World):
 Calls Tryz.prog 140 #[.slice a 0 c,.string sep] w fun e w'=>e= .returned (.string ⟨#[]⟩)∧w'=w:=Any.strings_Join_none Tryz.Be Tryz.l9 a c sep w
open Go.RowKit in
theorem Tryz.strings_Join(bk o c:Nat)(xs:List ByteArray)(sep:ByteArray)(w:World)(AC:∀(j:Nat) x,xs[j]?=some x→w.cell? ⟨bk,o+j,none⟩=some (.string x))(Vh:bk<w.heap.size)(hN:xs.length≤140737488355328)(dO:xs.length≤c)(hlen:(Lib.join (xs.map (·.data.toList)) sep.data.toList).length≤140737488355328):
 Calls Tryz.prog 140 #[.slice (some ⟨bk,o,none⟩) xs.length c,.string sep] w fun e w'=>e= .returned (.string ⟨(Lib.join (xs.map (·.data.toList)) sep.data.toList).toArray⟩)∧Below w.heap.size w w':=Any.strings_Join Tryz.Be Tryz.l9 bk o c xs sep w AC Vh hN dO hlen
def Tryz.yu:Go.Shelf.Ren:=⟨fun|106=>178|213=>249|265=>285|n=>n,fun|9=>9|3=>3|n=>n,fun|n=>n⟩
theorem Tryz.GD:Go.Proofs.Lays.n106 Tryz.prog Tryz.yu:={
 mixed:=by kernel_rfl
 f106:=Tryz.func178.trans (congrArg some (by kernel_rfl))
 f213:=Tryz.func249.trans (congrArg some (by kernel_rfl))
 f265:=Tryz.func285.trans (congrArg some (by kernel_rfl))
 t3:=Tryz.underlying3
 a3:=Tryz.isAgg3
 z3:=Tryz.sizeOf3
 v3:=Tryz.zeroValue3
 t9:=Tryz.underlying9
 a9:=Tryz.isAgg9
 z9:=Tryz.sizeOf9
 v9:=Tryz.zeroValue9}
open Go.RowKit in
theorem Tryz.strings_Compare(a b:ByteArray)(w:World):
 Calls Tryz.prog 178 #[.string a,.string b] w fun e w'=>e= .returned (.int .i64 (Lib.compareBytes a.data.toList b.data.toList))∧w'=w:=Any.strings_Compare Tryz.GD a b w
def Tryz.wS:Go.Shelf.Ren:=⟨fun|17=>245|15=>284|20=>304|n=>n,fun|9=>9|23=>285|4=>4|3=>3|0=>0|21=>21|n=>n,fun|n=>n⟩
theorem Tryz.D5:Go.Proofs.LaysGw.n17 Tryz.prog Tryz.wS:={
 mixed:=by kernel_rfl
 f15:=Tryz.func284.trans (congrArg some (by kernel_rfl))
 f17:=Tryz.func245.trans (congrArg some (by kernel_rfl))
 f20:=Tryz.func304.trans (congrArg some (by kernel_rfl))
 t0:=Tryz.underlying0
 a0:=Tryz.isAgg0
 z0:=Tryz.sizeOf0
 v0:=Tryz.zeroValue0
 i0:=by kernel_rfl
 t3:=Tryz.underlying3
 a3:=Tryz.isAgg3
 z3:=Tryz.sizeOf3
 v3:=Tryz.zeroValue3
 i3:=by kernel_rfl
 t4:=Tryz.underlying4
 a4:=Tryz.isAgg4
 z4:=Tryz.sizeOf4
 v4:=Tryz.zeroValue4
 i4:=by kernel_rfl
 t9:=Tryz.underlying9
 a9:=Tryz.isAgg9
 z9:=Tryz.sizeOf9
 v9:=Tryz.zeroValue9
 i9:=by kernel_rfl
 t21:=Tryz.underlying21
 a21:=Tryz.isAgg21
 z21:=Tryz.sizeOf21
 v21:=Tryz.zeroValue21
 i21:=by kernel_rfl
 t23:=Tryz.underlying285
 a23:=Tryz.isAgg285
 z23:=Tryz.sizeOf285
 v23:=Tryz.zeroValue285
 i23:=by kernel_rfl}
open Go.RowKit Go.Lib in
theorem Tryz.strings_ContainsFunc(g:Nat)(lb:Array Value)(eg:∀args w,(callFunc g args).run Tryz.prog w= .ok (.enter g args) w)(p:Nat→Bool)(s:ByteArray)(w:World)(hp:PredAt Tryz.prog g lb encR p w):
 Calls Tryz.prog 245 #[.string s,.func (.func g) #[] lb] w fun e w'=>e= .returned (.bool (decide (0≤Lib.idxFunc p true s)))∧Below w.heap.size w w':=Any.strings_ContainsFunc Tryz.D5 g lb eg p s w hp
def Tryz.yw:Go.Shelf.Ren:=⟨fun|146=>238|221=>278|268=>300|138=>301|143=>33|195=>308|197=>272|218=>309|219=>67|260=>295|217=>118|225=>119|224=>120|267=>121|266=>184|314=>185|n=>n,fun|9=>9|31=>123|3=>3|4=>4|0=>0|105=>307|21=>21|5=>5|46=>173|119=>334|139=>337|138=>336|146=>225|51=>41|n=>n,fun|1=>0|3=>4|4=>5|n=>n⟩
theorem Tryz.GG:Go.Proofs.Lays.n146 Tryz.prog Tryz.yw:={
 mixed:=by kernel_rfl
 f138:=Tryz.func301.trans (congrArg some (by kernel_rfl))
 f143:=Tryz.func33.trans (congrArg some (by kernel_rfl))
 f146:=Tryz.func238.trans (congrArg some (by kernel_rfl))
 f195:=Tryz.func308.trans (congrArg some (by kernel_rfl))
 f197:=Tryz.func272.trans (congrArg some (by kernel_rfl))
 f217:=Tryz.func118.trans (congrArg some (by kernel_rfl))
 f218:=Tryz.func309.trans (congrArg some (by kernel_rfl))
 f219:=Tryz.func67.trans (congrArg some (by kernel_rfl))
 f221:=Tryz.func278.trans (congrArg some (by kernel_rfl))
 f224:=Tryz.func120.trans (congrArg some (by kernel_rfl))
 f225:=Tryz.func119.trans (congrArg some (by kernel_rfl))
 f260:=Tryz.func295.trans (congrArg some (by kernel_rfl))
 f266:=Tryz.func184.trans (congrArg some (by kernel_rfl))
 f267:=Tryz.func121.trans (congrArg some (by kernel_rfl))
 f268:=Tryz.func300.trans (congrArg some (by kernel_rfl))
 f314:=Tryz.func185.trans (congrArg some (by kernel_rfl))
 t0:=Tryz.underlying0
 a0:=Tryz.isAgg0
 z0:=Tryz.sizeOf0
 v0:=Tryz.zeroValue0
 t3:=Tryz.underlying3
 a3:=Tryz.isAgg3
 z3:=Tryz.sizeOf3
 v3:=Tryz.zeroValue3
 t4:=Tryz.underlying4
 a4:=Tryz.isAgg4
 z4:=Tryz.sizeOf4
 v4:=Tryz.zeroValue4
 t5:=Tryz.underlying5
 a5:=Tryz.isAgg5
 z5:=Tryz.sizeOf5
 v5:=Tryz.zeroValue5
 t9:=Tryz.underlying9
 a9:=Tryz.isAgg9
 z9:=Tryz.sizeOf9
 v9:=Tryz.zeroValue9
 t21:=Tryz.underlying21
 a21:=Tryz.isAgg21
 z21:=Tryz.sizeOf21
 v21:=Tryz.zeroValue21
 t31:=Tryz.underlying123
 a31:=Tryz.isAgg123
 z31:=Tryz.sizeOf123
 v31:=Tryz.zeroValue123
 t46:=Tryz.underlying173
 a46:=Tryz.isAgg173
 z46:=Tryz.sizeOf173
 v46:=Tryz.zeroValue173
 t51:=Tryz.underlying41
 a51:=Tryz.isAgg41
 z51:=Tryz.sizeOf41
 v51:=Tryz.zeroValue41
 t105:=Tryz.underlying307
 a105:=Tryz.isAgg307
 z105:=Tryz.sizeOf307
 v105:=Tryz.zeroValue307
 t119:=Tryz.underlying334
 a119:=Tryz.isAgg334
 z119:=Tryz.sizeOf334
 t138:=Tryz.underlying336
 a138:=Tryz.isAgg336
 z138:=Tryz.sizeOf336
 v138:=Tryz.zeroValue336
 t139:=Tryz.underlying337
 a139:=Tryz.isAgg337
 z139:=Tryz.sizeOf337
 v139:=Tryz.zeroValue337
 t146:=Tryz.underlying225
 a146:=Tryz.isAgg225
 z146:=Tryz.sizeOf225
 v146:=Tryz.zeroValue225
 g1:=by kernel_rfl
 g3:=by kernel_rfl
 g4:=by kernel_rfl}
open Go.RowKit Go.Lib in
theorem Tryz.strings_Split(s sep:ByteArray)(m:Int)(w:World)(hs:s.size<4294967281)(hm:w.cell? ⟨0,0,none⟩=some (.int .i64 m))(h1:1≤sep.size):
 Calls Tryz.prog 238 #[.string s,.string sep] w fun e w'=>
  e= .returned (.slice (some ⟨w.heap.size,0,none⟩) (Lib.countB s sep+1) (Lib.countB s sep+1))∧w'=w.alloc (.cells ((Lib.splitB sep 0 (Lib.countB s sep) s).map Value.string).toArray 9):=Any.strings_Split Tryz.GG (by kernel_rfl) s sep m w hs hm h1
def Tryz.yz:Go.Shelf.Ren:=⟨fun|193=>261|n=>n,fun|31=>123|9=>9|4=>4|3=>3|0=>0|n=>n,fun|n=>n⟩
theorem Tryz.wT:Go.Proofs.Lays.n193 Tryz.prog Tryz.yz:={
 mixed:=by kernel_rfl
 f193:=Tryz.func261.trans (congrArg some (by kernel_rfl))
 t0:=Tryz.underlying0
 a0:=Tryz.isAgg0
 z0:=Tryz.sizeOf0
 v0:=Tryz.zeroValue0
 t3:=Tryz.underlying3
 a3:=Tryz.isAgg3
 z3:=Tryz.sizeOf3
 v3:=Tryz.zeroValue3
 t4:=Tryz.underlying4
 a4:=Tryz.isAgg4
 z4:=Tryz.sizeOf4
 v4:=Tryz.zeroValue4
 t9:=Tryz.underlying9
 a9:=Tryz.isAgg9
 z9:=Tryz.sizeOf9
 v9:=Tryz.zeroValue9
 t31:=Tryz.underlying123
 a31:=Tryz.isAgg123
 z31:=Tryz.sizeOf123
 v31:=Tryz.zeroValue123}
open Go.RowKit Go.Lib in
theorem Tryz.slices_Equal_string(b1 o1 n c b2 o2 m d:Nat)(xs ys:List ByteArray)(w:World)(hx:n≤xs.length)(hy:m≤ys.length)(jd:n≤9223372036854775807)(Fu:m≤9223372036854775807)(qW:∀j,j<xs.length→w.cell? ⟨b1,o1+j,none⟩=some (.string (xs.getD j ByteArray.empty)))(xJ:∀j,j<ys.length→w.cell? ⟨b2,o2+j,none⟩=some (.string (ys.getD j ByteArray.empty))):
 Calls Tryz.prog 261 #[.slice (some ⟨b1,o1,none⟩) n c,.slice (some ⟨b2,o2,none⟩) m d] w fun e w'=>e= .returned (.bool (decide (xs.take n=ys.take m)))∧ ∃q,w'=w.drewN q:=Any.slices_Equal_string Tryz.wT b1 o1 n c b2 o2 m d xs ys w hx hy jd Fu qW xJ
open Go.RowKit Go.Lib in
theorem Tryz.slices_Equal_string_empty(a1 a2:Option Addr)(c m d:Nat)(w:World)(Fu:m≤9223372036854775807):
 Calls Tryz.prog 261 #[.slice a1 0 c,.slice a2 m d] w fun e w'=>e= .returned (.bool (decide (m=0)))∧w'=w:=Any.slices_Equal_string_empty Tryz.wT a1 a2 c m d w Fu
open Go.RowKit Go.Lib in
theorem Tryz.slices_Equal_string_lens(a1 a2:Option Addr)(n c m d:Nat)(w:World)(Sv:n≠m):
 Calls Tryz.prog 261 #[.slice a1 n c,.slice a2 m d] w fun e w'=>e= .returned (.bool false)∧w'=w:=Any.slices_Equal_string_lens Tryz.wT a1 a2 n c m d w Sv
open Go.Shelf
def Tryz.wU:Go.Shelf.Ren:=⟨fun|171=>61|243=>108|246=>173|283=>240|284=>241|285=>242|286=>243|129=>280|317=>279|318=>281|319=>282|320=>283|337=>302|338=>303|n=>n,fun|3=>3|9=>9|2=>2|4=>4|171=>278|0=>0|53=>23|37=>69|5=>5|173=>281|212=>317|51=>41|20=>20|213=>318|46=>173|232=>338|233=>339|n=>n,fun|17=>3|18=>6|19=>7|n=>n⟩
theorem Tryz.D6:Go.Proofs.LaysM.n171 Tryz.prog Tryz.wU:={
 mixed:=by kernel_rfl
 f129:=Tryz.func280.trans (congrArg some (by kernel_rfl))
 f171:=Tryz.func61.trans (congrArg some (by kernel_rfl))
 f243:=Tryz.func108.trans (congrArg some (by kernel_rfl))
 f246:=Tryz.func173.trans (congrArg some (by kernel_rfl))
 f283:=Tryz.func240.trans (congrArg some (by kernel_rfl))
 f284:=Tryz.func241.trans (congrArg some (by kernel_rfl))
 f285:=Tryz.func242.trans (congrArg some (by kernel_rfl))
 f286:=Tryz.func243.trans (congrArg some (by kernel_rfl))
 f317:=Tryz.func279.trans (congrArg some (by kernel_rfl))
 f318:=Tryz.func281.trans (congrArg some (by kernel_rfl))
 f319:=Tryz.func282.trans (congrArg some (by kernel_rfl))
 f320:=Tryz.func283.trans (congrArg some (by kernel_rfl))
 f337:=Tryz.func302.trans (congrArg some (by kernel_rfl))
 f338:=Tryz.func303.trans (congrArg some (by kernel_rfl))
 t0:=Tryz.underlying0
 a0:=Tryz.isAgg0
 z0:=Tryz.sizeOf0
 v0:=Tryz.zeroValue0
 t2:=Tryz.underlying2
 a2:=Tryz.isAgg2
 z2:=Tryz.sizeOf2
 v2:=Tryz.zeroValue2
 t3:=Tryz.underlying3
 a3:=Tryz.isAgg3
 z3:=Tryz.sizeOf3
 v3:=Tryz.zeroValue3
 t4:=Tryz.underlying4
 a4:=Tryz.isAgg4
 z4:=Tryz.sizeOf4
 v4:=Tryz.zeroValue4
 t5:=Tryz.underlying5
 a5:=Tryz.isAgg5
 z5:=Tryz.sizeOf5
 v5:=Tryz.zeroValue5
 t9:=Tryz.underlying9
 a9:=Tryz.isAgg9
 z9:=Tryz.sizeOf9
 v9:=Tryz.zeroValue9
 t20:=Tryz.underlying20
 a20:=Tryz.isAgg20
 z20:=Tryz.sizeOf20
 v20:=Tryz.zeroValue20
 t37:=Tryz.underlying69
 a37:=Tryz.isAgg69
 z37:=Tryz.sizeOf69
 v37:=Tryz.zeroValue69
 t46:=Tryz.underlying173
 a46:=Tryz.isAgg173
 z46:=Tryz.sizeOf173
 v46:=Tryz.zeroValue173
 t51:=Tryz.underlying41
 a51:=Tryz.isAgg41
 z51:=Tryz.sizeOf41
 v51:=Tryz.zeroValue41
 t53:=Tryz.underlying23
 a53:=Tryz.isAgg23
 z53:=Tryz.sizeOf23
 v53:=Tryz.zeroValue23
 t171:=Tryz.underlying278
 a171:=Tryz.isAgg278
 z171:=Tryz.sizeOf278
 v171:=Tryz.zeroValue278
 t173:=Tryz.underlying281
 a173:=Tryz.isAgg281
 z173:=Tryz.sizeOf281
 v173:=Tryz.zeroValue281
 t212:=Tryz.underlying317
 a212:=Tryz.isAgg317
 z212:=Tryz.sizeOf317
 v212:=Tryz.zeroValue317
 t213:=Tryz.underlying318
 a213:=Tryz.isAgg318
 z213:=Tryz.sizeOf318
 t232:=Tryz.underlying338
 a232:=Tryz.isAgg338
 z232:=Tryz.sizeOf338
 v232:=Tryz.zeroValue338
 t233:=Tryz.underlying339
 a233:=Tryz.isAgg339
 z233:=Tryz.sizeOf339
 v233:=Tryz.zeroValue339
 g17:=by kernel_rfl
 g18:=by kernel_rfl
 g19:=by kernel_rfl
 i0:=by kernel_rfl
 i2:=by kernel_rfl
 i3:=by kernel_rfl
 i4:=by kernel_rfl
 i5:=by kernel_rfl
 i9:=by kernel_rfl
 i20:=by kernel_rfl
 i37:=by kernel_rfl
 i46:=by kernel_rfl
 i51:=by kernel_rfl
 i53:=by kernel_rfl
 i171:=by kernel_rfl
 i173:=by kernel_rfl
 i212:=by kernel_rfl
 i232:=by kernel_rfl
 i233:=by kernel_rfl
 m17:=by kernel_rfl
 m18:=by kernel_rfl
 m19:=by kernel_rfl}
open Go.RowKit Go.Sort Go.Lib in
theorem Tryz.strconv_Itoa(n : Int)(h0 : -9223372036854775808≤n)(h1 : n≤9223372036854775807)(w : World)(aae : Lib.TabIs Tryz.prog w "internal/strconv.uint64pow10" .u64 Lib.pow10Tab) :
 Calls Tryz.prog 61 #[.int .i64 n] w fun e w'=>e= .returned (.string ⟨(Lib.itoa n).toArray⟩)∧ ∃k os,w'=grow (w.drewN k) os:=Any.strconv_Itoa Tryz.D6 n h0 h1 w aae
def Tryz.wV:Go.Shelf.Ren:=⟨fun|172=>101|244=>163|245=>164|247=>228|279=>229|280=>230|281=>231|282=>232|287=>275|316=>276|171=>61|205=>277|321=>298|322=>299|243=>108|246=>173|283=>240|284=>241|285=>242|286=>243|129=>280|317=>279|318=>281|319=>282|320=>283|337=>302|338=>303|n=>n,fun|9=>9|3=>3|75=>73|76=>74|4=>4|5=>5|167=>269|37=>69|0=>0|85=>270|2=>2|168=>272|53=>23|175=>310|46=>173|210=>313|127=>130|145=>328|143=>326|21=>21|171=>278|173=>281|212=>317|51=>41|20=>20|213=>318|232=>338|233=>339|80=>80|n=>n,fun|15=>1|16=>2|17=>3|18=>6|19=>7|n=>n⟩
theorem Tryz.tV:Go.Proofs.LaysC.n172 Tryz.prog Tryz.wV:={
 mixed:=by kernel_rfl
 f129:=Tryz.func280.trans (congrArg some (by kernel_rfl))
 f171:=Tryz.func61.trans (congrArg some (by kernel_rfl))
 f172:=Tryz.func101.trans (congrArg some (by kernel_rfl))
 f205:=Tryz.func277.trans (congrArg some (by kernel_rfl))
 f243:=Tryz.func108.trans (congrArg some (by kernel_rfl))
 f244:=Tryz.func163.trans (congrArg some (by kernel_rfl))
 f245:=Tryz.func164.trans (congrArg some (by kernel_rfl))
 f246:=Tryz.func173.trans (congrArg some (by kernel_rfl))
 f247:=Tryz.func228.trans (congrArg some (by kernel_rfl))
 f279:=Tryz.func229.trans (congrArg some (by kernel_rfl))
 f280:=Tryz.func230.trans (congrArg some (by kernel_rfl))
 f281:=Tryz.func231.trans (congrArg some (by kernel_rfl))
 f282:=Tryz.func232.trans (congrArg some (by kernel_rfl))
 f283:=Tryz.func240.trans (congrArg some (by kernel_rfl))
 f284:=Tryz.func241.trans (congrArg some (by kernel_rfl))
 f285:=Tryz.func242.trans (congrArg some (by kernel_rfl))
 f286:=Tryz.func243.trans (congrArg some (by kernel_rfl))
 f287:=Tryz.func275.trans (congrArg some (by kernel_rfl))
 f316:=Tryz.func276.trans (congrArg some (by kernel_rfl))
 f317:=Tryz.func279.trans (congrArg some (by kernel_rfl))
 f318:=Tryz.func281.trans (congrArg some (by kernel_rfl))
 f319:=Tryz.func282.trans (congrArg some (by kernel_rfl))
 f320:=Tryz.func283.trans (congrArg some (by kernel_rfl))
 f321:=Tryz.func298.trans (congrArg some (by kernel_rfl))
 f322:=Tryz.func299.trans (congrArg some (by kernel_rfl))
 f337:=Tryz.func302.trans (congrArg some (by kernel_rfl))
 f338:=Tryz.func303.trans (congrArg some (by kernel_rfl))
 t0:=Tryz.underlying0
 a0:=Tryz.isAgg0
 z0:=Tryz.sizeOf0
 v0:=Tryz.zeroValue0
 t2:=Tryz.underlying2
 a2:=Tryz.isAgg2
 z2:=Tryz.sizeOf2
 v2:=Tryz.zeroValue2
 t3:=Tryz.underlying3
 a3:=Tryz.isAgg3
 z3:=Tryz.sizeOf3
 v3:=Tryz.zeroValue3
 t4:=Tryz.underlying4
 a4:=Tryz.isAgg4
 z4:=Tryz.sizeOf4
 v4:=Tryz.zeroValue4
 t5:=Tryz.underlying5
 a5:=Tryz.isAgg5
 z5:=Tryz.sizeOf5
 v5:=Tryz.zeroValue5
 t9:=Tryz.underlying9
 a9:=Tryz.isAgg9
 z9:=Tryz.sizeOf9
 v9:=Tryz.zeroValue9
 t20:=Tryz.underlying20
 a20:=Tryz.isAgg20
 z20:=Tryz.sizeOf20
 v20:=Tryz.zeroValue20
 t21:=Tryz.underlying21
 a21:=Tryz.isAgg21
 z21:=Tryz.sizeOf21
 v21:=Tryz.zeroValue21
 t37:=Tryz.underlying69
 a37:=Tryz.isAgg69
 z37:=Tryz.sizeOf69
 v37:=Tryz.zeroValue69
 t46:=Tryz.underlying173
 a46:=Tryz.isAgg173
 z46:=Tryz.sizeOf173
 v46:=Tryz.zeroValue173
 t51:=Tryz.underlying41
 a51:=Tryz.isAgg41
 z51:=Tryz.sizeOf41
 v51:=Tryz.zeroValue41
 t53:=Tryz.underlying23
 a53:=Tryz.isAgg23
 z53:=Tryz.sizeOf23
 v53:=Tryz.zeroValue23
 t75:=Tryz.underlying73
 a75:=Tryz.isAgg73
 z75:=Tryz.sizeOf73
 v75:=Tryz.zeroValue73
 t76:=Tryz.underlying74
 a76:=Tryz.isAgg74
 z76:=Tryz.sizeOf74
 v76:=Tryz.zeroValue74
 t85:=Tryz.underlying270
 a85:=Tryz.isAgg270
 z85:=Tryz.sizeOf270
 v85:=Tryz.zeroValue270
 t127:=Tryz.underlying130
 a127:=Tryz.isAgg130
 z127:=Tryz.sizeOf130
 v127:=Tryz.zeroValue130
 t143:=Tryz.underlying326
 a143:=Tryz.isAgg326
 z143:=Tryz.sizeOf326
 v143:=Tryz.zeroValue326
 t145:=Tryz.underlying328
 a145:=Tryz.isAgg328
 z145:=Tryz.sizeOf328
 v145:=Tryz.zeroValue328
 t167:=Tryz.underlying269
 a167:=Tryz.isAgg269
 z167:=Tryz.sizeOf269
 v167:=Tryz.zeroValue269
 t168:=Tryz.underlying272
 a168:=Tryz.isAgg272
 z168:=Tryz.sizeOf272
 v168:=Tryz.zeroValue272
 t171:=Tryz.underlying278
 a171:=Tryz.isAgg278
 z171:=Tryz.sizeOf278
 v171:=Tryz.zeroValue278
 t173:=Tryz.underlying281
 a173:=Tryz.isAgg281
 z173:=Tryz.sizeOf281
 v173:=Tryz.zeroValue281
 t175:=Tryz.underlying310
 a175:=Tryz.isAgg310
 z175:=Tryz.sizeOf310
 v175:=Tryz.zeroValue310
 t210:=Tryz.underlying313
 a210:=Tryz.isAgg313
 z210:=Tryz.sizeOf313
 v210:=Tryz.zeroValue313
 t212:=Tryz.underlying317
 a212:=Tryz.isAgg317
 z212:=Tryz.sizeOf317
 v212:=Tryz.zeroValue317
 t213:=Tryz.underlying318
 a213:=Tryz.isAgg318
 z213:=Tryz.sizeOf318
 t232:=Tryz.underlying338
 a232:=Tryz.isAgg338
 z232:=Tryz.sizeOf338
 v232:=Tryz.zeroValue338
 t233:=Tryz.underlying339
 a233:=Tryz.isAgg339
 z233:=Tryz.sizeOf339
 v233:=Tryz.zeroValue339
 g15:=by kernel_rfl
 g16:=by kernel_rfl
 g17:=by kernel_rfl
 g18:=by kernel_rfl
 g19:=by kernel_rfl
 t80:=Tryz.underlying80
 a80:=Tryz.isAgg80
 z80:=Tryz.sizeOf80
 v80:=Tryz.zeroValue80
 i0:=by kernel_rfl
 i2:=by kernel_rfl
 i3:=by kernel_rfl
 i4:=by kernel_rfl
 i5:=by kernel_rfl
 i9:=by kernel_rfl
 i20:=by kernel_rfl
 i21:=by kernel_rfl
 i37:=by kernel_rfl
 i46:=by kernel_rfl
 i51:=by kernel_rfl
 i53:=by kernel_rfl
 i75:=by kernel_rfl
 i76:=by kernel_rfl
 i80:=by kernel_rfl
 i85:=by kernel_rfl
 i127:=by kernel_rfl
 i143:=by kernel_rfl
 i145:=by kernel_rfl
 i167:=by kernel_rfl
 i168:=by kernel_rfl
 i171:=by kernel_rfl
 i173:=by kernel_rfl
 i175:=by kernel_rfl
 i210:=by kernel_rfl
 i212:=by kernel_rfl
 i232:=by kernel_rfl
 i233:=by kernel_rfl
 m15:=by kernel_rfl
 m16:=by kernel_rfl
 m17:=by kernel_rfl
 m18:=by kernel_rfl
 m19:=by kernel_rfl
 c0:=by kernel_rfl
 c2:=by kernel_rfl
 c3:=by kernel_rfl
 c4:=by kernel_rfl
 c5:=by kernel_rfl
 c9:=by kernel_rfl
 c20:=by kernel_rfl
 c21:=by kernel_rfl
 c37:=by kernel_rfl
 c46:=by kernel_rfl
 c51:=by kernel_rfl
 c53:=by kernel_rfl
 c75:=by kernel_rfl
 c76:=by kernel_rfl
 c80:=by kernel_rfl
 c85:=by kernel_rfl
 c127:=by kernel_rfl
 c143:=by kernel_rfl
 c145:=by kernel_rfl
 c167:=by kernel_rfl
 c168:=by kernel_rfl
 c171:=by kernel_rfl
 c173:=by kernel_rfl
 c175:=by kernel_rfl
 c210:=by kernel_rfl
 c212:=by kernel_rfl
 c213:=by kernel_rfl
 c232:=by kernel_rfl
 c233:=by kernel_rfl}
open Go.RowKit in
theorem Tryz.strconv_Atoi_ok(s:ByteArray)(Mq:s.size≤9223372036854775806)(v:Int)(h:Lib.atoiAll s.data.toList= .ok v)(w:World):
 Calls Tryz.prog 101 #[.string s] w fun e w'=>e= .returned (.tuple #[.int .i64 v,.nilIface])∧(w'=w∨ ∃t,w'=Lib.bytesWorld w 5 t):=Any.strconv_Atoi_ok Tryz.tV s Mq v h w
open Go.RowKit in
theorem Tryz.strconv_Atoi_syntax_var(s : ByteArray)(Mr : s.size≤281474976710656)(h : ∀n,Lib.atoiAll s.data.toList≠ .ok n)(hr : Lib.atoiAll s.data.toList≠ .range)(tp : TypeId)(p : Value)(w : World)(Ms : w.var? Tryz.prog "strconv.ErrSyntax" =some #[.iface tp p]) :
 Calls Tryz.prog 101 #[.string s] w fun e w'=> ∃N,e= .returned (.tuple #[.int .i64 0,.iface 272 (.pointer (some ⟨N,0,none⟩))])∧w.heap.size≤N∧w'.heap[N]?=some (.cells #[.string ⟨#[65,116,111,105]⟩,.string s,.iface tp p] 313 (0,0))∧Below w.heap.size w w':=by
 cases hq:Lib.atoiAll s.data.toList
 ·exact absurd hq (h _)
 ·exact Any.strconv_Atoi_syntax_var Tryz.tV s Mr hq tp p w Ms
 ·exact absurd hq hr
open Go.RowKit in
theorem Tryz.strconv_Atoi_range_var(s : ByteArray)(Mr : s.size≤281474976710656)(h : Lib.atoiAll s.data.toList= .range)(tp : TypeId)(p : Value)(w : World)(Ms : w.var? Tryz.prog "strconv.ErrRange" =some #[.iface tp p]) :
 Calls Tryz.prog 101 #[.string s] w fun e w'=> ∃N,e= .returned (.tuple #[.int .i64 (Lib.atoiSat s.data.toList),.iface 272 (.pointer (some ⟨N,0,none⟩))])∧w.heap.size≤N∧w'.heap[N]?=some (.cells #[.string ⟨#[65,116,111,105]⟩,.string s,.iface tp p] 313 (0,0))∧Below w.heap.size w w':=Any.strconv_Atoi_range_var Tryz.tV s Mr h tp p w Ms
end Go.Proofs
namespace Go.Proofs.YtkipnpjagcfcpaaGreatDoor
open Go.RowKit
theorem below_drewN(w:World)(q:Nat):Below w.heap.size w (w.drewN q):=⟨rfl,rfl,rfl,Qn _,fun _ _=>rfl⟩
structure dQ (I:IH):Prop where
 pow:I 3=some (Lib.pow10Tab.map fun z=>Value.int .u64 z).toArray
 max:∃c m,I 0=some c∧c[0]?=some (.int .i64 m)
 syn:∃tp p,I 1=some #[.iface tp p]
 rng:∃tp p,I 2=some #[.iface tp p]
theorem dQ.mono{I I':IH}(h:dQ I)(k:∀b c,I b=some c→I' b=some c):dQ I':=
 ⟨k _ _ h.pow,(let ⟨c,m,h1,h2⟩:=h.max;⟨c,m,k _ _ h1,h2⟩),(let ⟨tp,p,h1⟩:=h.syn;⟨tp,p,k _ _ h1⟩),(let ⟨tp,p,h1⟩:=h.rng;⟨tp,p,k _ _ h1⟩)⟩
theorem dQ.D7{I:IH}{w:World}(h:dQ I)(hw:Ok I w):∃m,w.cell? ⟨0,0,none⟩=some (.int .i64 m):=by
 obtain⟨c,m,h1,h2⟩:=h.max;exact⟨m,by rw[hw.cell h1];exact h2⟩
theorem Xvl(l:List ByteArray):(l.map (·.data.toList)).map (fun b=>Value.string ⟨b.toArray⟩)=l.map Value.string:=by
 rw[List.map_map];apply List.map_congr_left;intro b _;simp
theorem Xsw(I:IH)(hI:dQ I)(s:ae)(hs:s.length≤4294967280)(w:World)(hw:Ok I w):
 Calls Tryz.prog 238 #[S s,S [47]] w (Kh jE I w (dV [] s)):=by
 obtain⟨m,hm⟩:=hI.D7 hw;have eU:(⟨s.toArray⟩:ByteArray).size=s.length:=by simp[ByteArray.size]
 refine(Tryz.strings_Split ⟨s.toArray⟩ ⟨[47].toArray⟩ m w (by omega) hm (by decide)).mono fun e w' ⟨he,hq⟩=> ?_;have Wo:=Xru s;have aaf:=Lib.splitB_data ⟨[47].toArray⟩ 0 (Lib.countB ⟨s.toArray⟩ ⟨[47].toArray⟩) ⟨s.toArray⟩;have aB:(Lib.splitB ⟨[47].toArray⟩ 0 (Lib.countB ⟨s.toArray⟩ ⟨[47].toArray⟩) ⟨s.toArray⟩).map (·.data.toList)=dV [] s:=by rw[aaf,←Wo];rfl
 have hlen:Lib.countB ⟨s.toArray⟩ ⟨[47].toArray⟩+1=(dV [] s).length:=by
  rw[←aB,List.length_map];exact(Lib.splitB_all ⟨[47].toArray⟩ (by decide) 0 _ ⟨s.toArray⟩ rfl).symm
 have AC:((Lib.splitB ⟨[47].toArray⟩ 0 (Lib.countB ⟨s.toArray⟩ ⟨[47].toArray⟩) ⟨s.toArray⟩).map Value.string)=(dV [] s).map fun b=>S b:=by
  rw[←aB,Xvl]
 have gI:Lib.countB ⟨s.toArray⟩ ⟨[47].toArray⟩≤s.length:=by
  have:=Lib.countB_le ⟨[47].toArray⟩ (by decide) _ ⟨s.toArray⟩ (Qn _);rwa[eU]at this
 rw[AC]at hq;rw[hlen]at he;have Mq:(dV [] s).length≤9223372036854775807:=by omega
 generalize dV [] s=l at*;subst hq;have hb:=heap_alloc_new w (.cells (l.map fun b=>S b).toArray 9);refine⟨_,I.add w.heap.size (l.map fun b=>S b).toArray,he,(Qb _ _).alloc (Qn _) _,Ext.add (Qn _) _ _,(hw.alloc _).add hb,_,l.length,rfl,Qn _,Mq,fun _=>⟨w.heap.size,0,(l.map fun b=>S b).toArray,rfl,by simp[IH.add],fun i hi=>⟨[S l[i]],rfl,fun j u hu=> ?_⟩⟩⟩;have hj:j=0:=by have:=(List.getElem?_eq_some_iff.1 hu).1;simp at this;exact this
 subst hj;obtain rfl:S l[i]=u:=by simpa using hu
 show((l.map fun b=>S b).toArray)[0+(i*1+0)]?=_;rw[show 0+(i*1+0)=i by omega,List.getElem?_toArray,List.getElem?_map,List.getElem?_eq_getElem hi];rfl
theorem Xhg(g:Nat)(p:Nat→Bool)(s:ae)(w:World)(eg:∀args w,(callFunc g args).run Tryz.prog w= .ok (.enter g args) w)(hp:∀(x:Nat) (W:World),Calls Tryz.prog g #[.int .i32 (x:Int)] W fun e w'=>e= .returned (.bool (p x))∧w'=W):
 Calls Tryz.prog 245 #[S s,.func (.func g) #[] #[]] w fun e w'=>e= .returned (.bool (decide (0≤Lib.idxFunc p true ⟨s.toArray⟩)))∧Below w.heap.size w w':=
 Tryz.strings_ContainsFunc g #[] eg p ⟨s.toArray⟩ w fun W x _=>by
  have:=hp x W;exact this.mono fun e w' ⟨h1,h2⟩=>⟨h1,0,h2⟩
theorem Xvn(I:IH)(v:Value)(l:List ae)(hv:bf jE I v l)(hj:(dX l).length≤4294967296)(hn:l.length≤4294967296)(w:World)(hw:Ok I w):
 Calls Tryz.prog 140 #[v,S [47]] w fun e w'=>e= .returned (S (dX l))∧Below w.heap.size w w':=by
 obtain⟨ao,cap,rfl,dO,iR,hh⟩:=id hv;by_cases h0:l=[]
 ·subst h0;exact(Tryz.strings_Join_none ao cap ⟨[47].toArray⟩ w).mono fun e w' ⟨h1,h2⟩=>⟨h1,by rw[h2];exact Qb _ _⟩
 ·have vN:0<l.length:=List.length_pos_iff.2 h0;obtain⟨b,off,arr,rfl,hI,hl⟩:=hh vN;have hx:(l.map fun s=>(⟨s.toArray⟩:ByteArray)).map (·.data.toList)=l:=by
   rw[List.map_map];conv=>rhs;rw[←List.map_id l]
   apply List.map_congr_left;intro b _;simp
  have uO:Lib.join ((l.map fun s=>(⟨s.toArray⟩:ByteArray)).map (·.data.toList)) (⟨[47].toArray⟩:ByteArray).data.toList=dX l:=by rw[hx];exact Xvo l
  have h:=Tryz.strings_Join b off cap (l.map fun s=>⟨s.toArray⟩) ⟨[47].toArray⟩ w (fun j x hx=> ?_) (hw.lt hI) (by rw[List.length_map];omega) (by rw[List.length_map];exact dO) (by rw[uO];omega)
  ·rw[uO,List.length_map]at h;exact h
  ·rw[List.getElem?_map]at hx;cases hlj:l[j]? with
   |none=>rw[hlj]at hx;simp at hx
   |some s=>
    rw[hlj]at hx;simp at hx;subst hx;obtain⟨uO,hlj⟩:=List.getElem?_eq_some_iff.1 hlj;obtain⟨cs,h1,h2⟩:=hl j uO;have iU:cs=[S l[j]]:=h1;have:=h2 0 (S l[j]) (by rw[iU];rfl);rw[hw.cell hI,←hlj];simpa[jE,Ty.flat]using this
theorem Xsy(I:IH)(v1 v2:Value)(l m:List ae)(zI:bf jE I v1 l)(zJ:bf jE I v2 m)(w:World)(hw:Ok I w):
 Calls Tryz.prog 261 #[v1,v2] w fun e w'=>e= .returned (.bool (decide (l=m)))∧Below w.heap.size w w':=by
 have au:=zI.bW;have aF:=zJ.bW;obtain⟨ao,cap,rfl,dO,iR,hh⟩:=id zI;obtain⟨xQ,cap2,rfl,wH,vM,hh2⟩:=id zJ;by_cases mO:l.length=m.length;case neg=>
  refine(Tryz.slices_Equal_string_lens ao xQ l.length cap m.length cap2 w mO).mono fun e w' ⟨h1,h2⟩=>⟨?_,by rw[h2];exact Qb _ _⟩;rw[h1,Qf];intro e;exact mO (by rw[e])
 by_cases h0:l=[]
 ·subst h0;have hm:m=[]:=List.eq_nil_of_length_eq_zero (by rw[←mO];rfl);subst hm;exact(Tryz.slices_Equal_string_empty ao xQ cap 0 cap2 w (by decide)).mono fun e w' ⟨h1,h2⟩=>⟨h1,by rw[h2];exact Qb _ _⟩
 ·have vN:0<l.length:=List.length_pos_iff.2 h0;obtain⟨b,off,arr,rfl,hI,hl⟩:=hh vN;obtain⟨b2,Pp,Wp,rfl,jW,Dx⟩:=hh2 (by omega);have cellsOf:∀(l:List ae) (b off:Nat) (arr:Array Value),I b=some arr→DC jE I arr off l→ ∀j,j<(l.map fun s=>(⟨s.toArray⟩:ByteArray)).length→w.cell? ⟨b,off+j,none⟩=some (.string ((l.map fun s=>(⟨s.toArray⟩:ByteArray)).getD j ByteArray.empty)):=by
   intro l b off arr hI hl j hj;rw[List.length_map]at hj;obtain⟨cs,h1,h2⟩:=hl j hj;have iU:cs=[S l[j]]:=h1;have:=h2 0 (S l[j]) (by rw[iU];rfl);rw[hw.cell hI,List.getD_eq_getElem?_getD,List.getElem?_map,List.getElem?_eq_getElem hj];simpa[jE,Ty.flat]using this
  have h:=Tryz.slices_Equal_string b off l.length cap b2 Pp m.length cap2 (l.map fun s=>⟨s.toArray⟩) (m.map fun s=>⟨s.toArray⟩) w (by rw[List.length_map];exact Qn _) (by rw[List.length_map];exact Qn _) au aF (cellsOf l b off arr hI hl) (cellsOf m b2 Pp Wp jW Dx);refine h.mono fun e w' ⟨h1,q,h2⟩=>⟨?_,by rw[h2];exact below_drewN _ _⟩;rw[h1];congr 2;rw[decide_eq_decide,List.take_of_length_le (by simp),List.take_of_length_le (by simp)];constructor
  ·intro e;have:=congrArg (List.map fun b:ByteArray=>b.data.toList) e;rw[List.map_map,List.map_map]at this;have hid:((fun b:ByteArray=>b.data.toList)∘fun s:ae=>(⟨s.toArray⟩:ByteArray))=id:=by funext s;simp
   rw[hid,List.map_id,List.map_id]at this;exact this
  ·intro e;rw[e]
section
variable {α:Type}
def nW(l:List α)(p:α→Bool):Int:=match l.findIdx? p with|some i=>i|none=> -1
theorem TJ{l:List α}{p:α→Bool}(h:l.any p=false):nW l p= -1:=by
 have:l.findIdx? p=none:=by
  rw[List.findIdx?_eq_none_iff];intro x hx;cases hp:p x with
  |false=>rfl
  |true=>rw[List.any_eq_true.2 ⟨x,hx,hp⟩]at h;exact absurd h (by simp)
 rw[nW,this]
theorem TK{l:List α}{p:α→Bool}{i:Nat}(hi:i<l.length)(hp:p l[i]=true)(hn:(l.take i).any p=false):nW l p=i:=by
 have:l.findIdx? p=some i:=by
  rw[List.findIdx?_eq_some_iff_getElem];refine⟨hi,hp,fun j hj=> ?_⟩;cases hq:p l[j]with
  |false=>simp
  |true=>
   have uO:j<(l.take i).length:=by simp;omega
   rw[List.any_eq_true.2 ⟨(l.take i)[j],List.getElem_mem uO,by rw[List.getElem_take];exact hq⟩]at hn;exact absurd hn (by simp)
 rw[nW,this]
theorem KC(l:List α)(p:α→Bool):(∃i:Nat,∃h:i<l.length,nW l p=i∧p l[i]=true∧(l.take i).any p=false)∨(nW l p= -1∧l.any p=false):=by
 unfold nW;cases h:l.findIdx? p with
 |none=>
  right;refine⟨rfl,?_⟩;rw[List.findIdx?_eq_none_iff]at h;cases ha:l.any p with
  |false=>rfl
  |true=>
   obtain⟨x,hx,hp⟩:=List.any_eq_true.1 ha;rw[h x hx]at hp;exact absurd hp (by simp)
 |some i=>
  left;rw[List.findIdx?_eq_some_iff_getElem]at h;obtain⟨hi,h1,h2⟩:=h;refine⟨i,hi,rfl,h1,?_⟩;cases ha:(l.take i).any p with
  |false=>rfl
  |true=>
   obtain⟨x,hx,hp⟩:=List.any_eq_true.1 ha;obtain⟨j,hj,rfl⟩:=List.getElem_of_mem hx;rw[List.getElem_take]at hp;have Dq:j<i:=by simp at hj;omega
   have:=h2 j Dq;simp[hp]at this
end
def eH(r:Nat):Bool:=!(bV r)
theorem Xq2(c:Nat)(w:World):Calls Tryz.prog 247 #[.int .i32 (c:Int)] w fun e w'=>e= .returned (.bool (eH c))∧w'=w:=by
 rcases(show(97≤c∧c≤122)∨122<c∨(48≤c∧c≤57)∨c=46∨c=95∨c=45∨(c<48∧c≠46∧c≠45)∨(57<c∧c<97∧c≠95) by omega)with hc|hc|hc|hc|hc|hc|hc|hc
 ·have d97:decide (97≤(c:Int))=true:=by simp;omega
  have d122:decide ((c:Int)≤122)=true:=by simp;omega
  have d48:decide (48≤(c:Int))=true:=by simp;omega
  have d57:decide ((c:Int)≤57)=false:=by simp;omega
  have n46:((c:Int)==46)=false:=by simp;omega
  have n95:((c:Int)==95)=false:=by simp;omega
  have n45:((c:Int)==45)=false:=by simp;omega
  have Hv:=Qh (show eH c=true by unfold eH bV;simp;omega);clear hc;go_enter Tryz.func247,Tryz.ntmps247
  go_wp2;go_ret;exact⟨iW Hv.O.symm,rfl⟩
 ·have d97:decide (97≤(c:Int))=true:=by simp;omega
  have d122:decide ((c:Int)≤122)=false:=by simp;omega
  have d48:decide (48≤(c:Int))=true:=by simp;omega
  have d57:decide ((c:Int)≤57)=false:=by simp;omega
  have n46:((c:Int)==46)=false:=by simp;omega
  have n95:((c:Int)==95)=false:=by simp;omega
  have n45:((c:Int)==45)=false:=by simp;omega
  have Hv:=Qh (show eH c=false by unfold eH bV;simp;omega);clear hc;go_enter Tryz.func247,Tryz.ntmps247
  go_wp2;go_ret;exact⟨iW Hv.O.symm,rfl⟩
 ·have d97:decide (97≤(c:Int))=false:=by simp;omega
  have d122:decide ((c:Int)≤122)=true:=by simp;omega
  have d48:decide (48≤(c:Int))=true:=by simp;omega
  have d57:decide ((c:Int)≤57)=true:=by simp;omega
  have n46:((c:Int)==46)=false:=by simp;omega
  have n95:((c:Int)==95)=false:=by simp;omega
  have n45:((c:Int)==45)=false:=by simp;omega
  have Hv:=Qh (show eH c=true by unfold eH bV;simp;omega);clear hc;go_enter Tryz.func247,Tryz.ntmps247
  go_wp2;go_ret;exact⟨iW Hv.O.symm,rfl⟩
 ·have d97:decide (97≤(c:Int))=false:=by simp;omega
  have d122:decide ((c:Int)≤122)=true:=by simp;omega
  have d48:decide (48≤(c:Int))=false:=by simp;omega
  have d57:decide ((c:Int)≤57)=true:=by simp;omega
  have n46:((c:Int)==46)=true:=by simp;omega
  have n95:((c:Int)==95)=false:=by simp;omega
  have n45:((c:Int)==45)=false:=by simp;omega
  have Hv:=Qh (show eH c=true by unfold eH bV;simp;omega);clear hc;go_enter Tryz.func247,Tryz.ntmps247
  go_wp2;go_ret;exact⟨iW Hv.O.symm,rfl⟩
 ·have d97:decide (97≤(c:Int))=false:=by simp;omega
  have d122:decide ((c:Int)≤122)=true:=by simp;omega
  have d48:decide (48≤(c:Int))=true:=by simp;omega
  have d57:decide ((c:Int)≤57)=false:=by simp;omega
  have n46:((c:Int)==46)=false:=by simp;omega
  have n95:((c:Int)==95)=true:=by simp;omega
  have n45:((c:Int)==45)=false:=by simp;omega
  have Hv:=Qh (show eH c=true by unfold eH bV;simp;omega);clear hc;go_enter Tryz.func247,Tryz.ntmps247
  go_wp2;go_ret;exact⟨iW Hv.O.symm,rfl⟩
 ·have d97:decide (97≤(c:Int))=false:=by simp;omega
  have d122:decide ((c:Int)≤122)=true:=by simp;omega
  have d48:decide (48≤(c:Int))=false:=by simp;omega
  have d57:decide ((c:Int)≤57)=true:=by simp;omega
  have n46:((c:Int)==46)=false:=by simp;omega
  have n95:((c:Int)==95)=false:=by simp;omega
  have n45:((c:Int)==45)=true:=by simp;omega
  have Hv:=Qh (show eH c=true by unfold eH bV;simp;omega);clear hc;go_enter Tryz.func247,Tryz.ntmps247
  go_wp2;go_ret;exact⟨iW Hv.O.symm,rfl⟩
 ·have d97:decide (97≤(c:Int))=false:=by simp;omega
  have d122:decide ((c:Int)≤122)=true:=by simp;omega
  have d48:decide (48≤(c:Int))=false:=by simp;omega
  have d57:decide ((c:Int)≤57)=true:=by simp;omega
  have n46:((c:Int)==46)=false:=by simp;omega
  have n95:((c:Int)==95)=false:=by simp;omega
  have n45:((c:Int)==45)=false:=by simp;omega
  have Hv:=Qh (show eH c=false by unfold eH bV;simp;omega);clear hc;go_enter Tryz.func247,Tryz.ntmps247
  go_wp2;go_ret;exact⟨iW Hv.O.symm,rfl⟩
 ·have d97:decide (97≤(c:Int))=false:=by simp;omega
  have d122:decide ((c:Int)≤122)=true:=by simp;omega
  have d48:decide (48≤(c:Int))=true:=by simp;omega
  have d57:decide ((c:Int)≤57)=false:=by simp;omega
  have n46:((c:Int)==46)=false:=by simp;omega
  have n95:((c:Int)==95)=false:=by simp;omega
  have n45:((c:Int)==45)=false:=by simp;omega
  have Hv:=Qh (show eH c=false by unfold eH bV;simp;omega);clear hc;go_enter Tryz.func247,Tryz.ntmps247
  go_wp2;go_ret;exact⟨iW Hv.O.symm,rfl⟩
theorem Xkt(c:Nat)(w:World):Calls Tryz.prog 246 #[.int .i32 (c:Int)] w fun e w'=>e= .returned (.bool (bV c))∧w'=w:=by
 go_enter Tryz.func246,Tryz.ntmps246
 go_wp2_with fail
 refine(Xq2 c _).mono ?_;rintro e w1 ⟨rfl,rfl⟩;go_wp2;go_ret;exact⟨iW (by rw[eH,Bool.not_not]),rfl⟩
theorem Xl1(s:ae)(hs:s.length≤9223372036854775807)(w:World):
 Calls Tryz.prog 176 #[S s] w fun e w'=>e= .returned (.bool (comp s))∧Below w.heap.size w w':=by
 by_cases h1:1≤s.length;case neg=>
  have ll:decide (1≤s.length)=false:=Qf h1;have lX:=Qh (show comp s=false by simp[comp,h1]);go_enter Tryz.func176,Tryz.ntmps176
  go_wp2;go_ret;exact⟨iW lX.O.symm,Qb _ _⟩
 have ll:decide (1≤s.length)=true:=Qt h1;by_cases wD:s.length≤32;case neg=>
  have pg:decide (s.length≤32)=false:=Qf wD;have lX:=Qh (show comp s=false by simp[comp,wD]);go_enter Tryz.func176,Tryz.ntmps176
  go_wp2;go_ret;exact⟨iW lX.O.symm,Qb _ _⟩
 have pg:decide (s.length≤32)=true:=Qt wD;by_cases Fg:s=[46];case pos=>
  subst Fg;have lX:=Qh (show comp [46]=false by rfl);clear hs h1 ll wD pg;go_enter Tryz.func176,Tryz.ntmps176
  go_wp2;go_ret;exact⟨iW lX.O.symm,Qb _ _⟩
 have f46:(s !=[46])=true:=by simpa using Fg
 have VF:(s==[46])=false:=by simpa using Fg
 by_cases IU:s=[46,46];case pos=>
  subst IU;have lX:=Qh (show comp [46,46]=false by rfl);clear hs h1 ll wD pg Fg f46 VF;go_enter Tryz.func176,Tryz.ntmps176
  go_wp2;go_ret;exact⟨iW lX.O.symm,Qb _ _⟩
 have f47:(s !=[46,46])=true:=by simpa using IU
 have g47:(s==[46,46])=false:=by simpa using IU
 have lX:=Qh (show comp s=!(decide (0≤Lib.idxFunc bV true ⟨s.toArray⟩)) by rw[Xvv,Bool.not_not];simp[comp,h1,wD,f46,f47]);have Pq:=Qh (Xhg 246 bV s w (fun _ _=>by kernel_rfl) (fun x W=>Xkt x W));generalize decide (0≤Lib.idxFunc bV true ⟨s.toArray⟩)=bb at lX Pq;clear Fg IU;go_enter Tryz.func176,Tryz.ntmps176
 go_wp2_with fail
 refine Pq.O.mono ?_;rintro e w1 ⟨rfl,au⟩;go_wp2;go_ret;exact⟨iW lX.O.symm,au⟩
theorem TL(I:IH)(hI:dQ I)(s:ae)(hs:s.length≤4294967280)(w:World)(hw:Ok I w):
 Calls Tryz.prog 169 #[S s] w (Kh jE I w (els s)):=by
 by_cases h0:s=[]
 ·obtain⟨p1,p2,p3,p4⟩:=De h0;have Hs:=Qh (show els s=[] by rw[h0];rfl);clear h0;go_enter Tryz.func169,Tryz.ntmps169
  go_wp2;go_ret;rw[Hs.O];exact⟨_,I,rfl,Qb _ _,Ext.refl _ _,hw,bf.nil _ _⟩
 ·obtain⟨p1,p2,p3,p4⟩:=Bc h0;have Hs:=Qh (show els s=dV [] s by rw[els,if_neg h0]);have Hl:=Qh (Xsw I hI s hs w hw);generalize dV [] s=l at Hs Hl;clear h0;go_enter Tryz.func169,Tryz.ntmps169
  go_wp2_with fail
  refine Hl.O.mono ?_;rintro e w1 ⟨v1,I1,rfl,au,gK,aD,lq⟩;obtain⟨ao,cap,rfl,dO,iR,_⟩:=id lq;go_wp2;go_ret;rw[Hs.O];exact⟨_,I1,rfl,au,gK,aD,lq⟩
theorem Xsn(s:ae)(hs:s.length≤9223372036854775807)(w:World):
 Calls Tryz.prog 175 #[S s] w fun e w'=>e= .returned (.bool (!(comp s)))∧Below w.heap.size w w':=by
 go_enter Tryz.func175,Tryz.ntmps175
 go_wp2_with fail
 refine(Xl1 s hs _).mono ?_;rintro e w1 ⟨rfl,au⟩;go_wp2;go_ret;exact⟨rfl,au⟩
theorem Xjh(I:IH)(v:Value)(l:List ae)(hv:bf jE I v l)(g:Nat)(p:ae→Bool)(w:World)(hw:Ok I w)(eg:∀args w,(callFunc g args).run Tryz.prog w= .ok (.enter g args) w)(hp:∀x∈l,∀W:World,Calls Tryz.prog g #[S x] W fun e w'=>e= .returned (.bool (p x))∧Below W.heap.size W w'):
 Calls Tryz.prog 244 #[v,.func (.func g) #[] #[]] w fun e w'=>e= .returned (.int .i64 (nW l p))∧Below w.heap.size w w':=by
 have hlen:=hv.bW;obtain⟨ao,cap,rfl,dO,iR,_⟩:=id hv;have Hv:=Qh hv;clear hv;have Hp:=Qh hp;clear hp;go_enter Tryz.func244,Tryz.ntmps244
 go_wp2_with fail
 go_loopw [8] (fun s8 wr=> ∃k:Nat,k≤l.length∧s8= .int .i64 k∧(l.take k).any p=false∧Below w.heap.size w wr) (fun i _=>l.length-(intOf i).toNat)
 case atStart=>exact⟨0,Nat.zero_le _,rfl,rfl,Qb _ _⟩
 case round=>
  obtain⟨k,hk,rfl,hr,hb⟩:=hrel;have Hr:=Qh hr;clear hr;by_cases hlt:k<l.length
  ·have dA:Ok I wr:=hw.below (Qn _) hb;obtain⟨x,b,off,cap',bH,dn,nk⟩:=DI Hv.O dA k hlt;cases dn;have sF:=Qh bH;have kS:=Qh (Hp.O x (by rw[←bH];exact List.getElem_mem hlt));clear bH;go_wp2_with fail
   refine(kS.O _).mono ?_;rintro e w1 ⟨rfl,au⟩;have av:=hb.trans (au.mono hb.size);clear au kS;cases hpx:p x
   ·have Hn:=Qh (show(l.take (k+1)).any p=false by rw[List.take_succ_eq_append_getElem hlt,List.any_append,Hr.O,sF.O];simp[hpx]);clear hpx;go_wp2;go_roundw;case rel=>exact⟨k+1,by omega,by go_num,Hn.O,av⟩
    case measure=>simp[intOf];omega
   ·have Hn:=Qh (TK (p:=p) hlt (by rw[sF.O];exact hpx) Hr.O);clear hpx;go_wp2;go_ret;exact⟨bP Hn.O.symm,av⟩
  ·have Hn:=Qh (show nW l p= -1 from TJ (by have:=Hr.O;rwa[List.take_of_length_le (by omega)]at this));go_wp2;go_ret;exact⟨bP Hn.O.symm,hb⟩
theorem Xgl(I:IH)(v:Value)(l:List ae)(hv:bf jE I v l)(g:Nat)(p:ae→Bool)(w:World)(hw:Ok I w)(eg:∀args w,(callFunc g args).run Tryz.prog w= .ok (.enter g args) w)(hp:∀x∈l,∀W:World,Calls Tryz.prog g #[S x] W fun e w'=>e= .returned (.bool (p x))∧Below W.heap.size W w'):
 Calls Tryz.prog 174 #[v,.func (.func g) #[] #[]] w fun e w'=>e= .returned (.bool (l.any p))∧Below w.heap.size w w':=by
 have Hi:=Qh (Xjh I v l hv g p w hw eg hp);obtain⟨ao,cap,rfl,dO,iR,_⟩:=id hv;clear hv hp eg;rcases KC l p with⟨i,hi,e1,e2,_⟩|⟨e1,e2⟩
 ·have Ha:=Qh (show l.any p=true from List.any_eq_true.2 ⟨l[i],List.getElem_mem hi,e2⟩);have hd:decide ((0:Int)≤(i:Int))=true:=Qt (by omega);rw[e1]at Hi;clear e1 e2;go_enter Tryz.func174,Tryz.ntmps174
  go_wp2_with fail
  refine Hi.O.mono ?_;rintro e w1 ⟨rfl,au⟩;go_wp2;go_ret;exact⟨iW Ha.O.symm,au⟩
 ·have Ha:=Qh e2;rw[e1]at Hi;clear e1 e2;go_enter Tryz.func174,Tryz.ntmps174
  go_wp2_with fail
  refine Hi.O.mono ?_;rintro e w1 ⟨rfl,au⟩;go_wp2;go_ret;exact⟨iW Ha.O.symm,au⟩
theorem Xyq(l:List ae):l.any (fun s=> !(comp s))=!(l.all comp):=by
 induction l with
 |nil=>rfl
 |cons x l ih=>rw[List.any_cons,List.all_cons,ih,Bool.not_and]
theorem Xpq(I:IH)(hI:dQ I)(s:ae)(hs:s.length≤4294967280)(w:World)(hw:Ok I w):
 Calls Tryz.prog 109 #[S s] w fun e w'=>e= .returned (.int .i64 (aJ s))∧Below w.heap.size w w':=by
 have BM:=Qh (TL I hI s hs w hw);have TM:=Qh (fun(q:ae) (h:q∈els s)=>Xtz h);by_cases VI:s.length≤200;case neg=>
  have hd:decide (200<s.length)=true:=Qt (by omega);have Hp:=Qh (show aJ s=6 by rw[aJ,if_pos (by omega)]);go_enter Tryz.func109,Tryz.ntmps109
  go_wp2_with fail
  refine BM.O.mono ?_;rintro e w1 ⟨v1,I1,rfl,au,gK,aD,lq⟩;obtain⟨ao,cap,rfl,dO,iR,_⟩:=id lq;clear lq;go_wp2;go_ret;exact⟨bP Hp.O.symm,au⟩
 have hd:decide (200<s.length)=false:=Qf (by omega);have Hp:=Qh (show aJ s=if 8<(els s).length then 6 else if(els s).all comp then 0 else 7 by rw[aJ,if_neg (by omega)]);generalize els s=l at BM Hp TM;by_cases h8:8<l.length;case pos=>
  have Gs:=Qh (show aJ s=6 by rw[Hp.O,if_pos h8]);go_enter Tryz.func109,Tryz.ntmps109
  go_wp2_with fail
  refine BM.O.mono ?_;rintro e w1 ⟨v1,I1,rfl,au,gK,aD,lq⟩;obtain⟨ao,cap,rfl,dO,iR,_⟩:=id lq;clear lq;go_wp2;go_ret;exact⟨bP Gs.O.symm,au⟩
 have Gs:=Qh (show aJ s=if l.all comp then 0 else 7 by rw[Hp.O,if_neg h8]);go_enter Tryz.func109,Tryz.ntmps109
 go_wp2_with fail
 refine BM.O.mono ?_;rintro e w1 ⟨v1,I1,rfl,au,gK,aD,lq⟩;have Pq:=Qh (Xgl I1 v1 l lq 175 (fun s=> !(comp s)) w1 aD (fun _ _=>by kernel_rfl) (fun x hx W=>Xsn x (by have:=TM.O x hx;omega) W));rw[Xyq]at Pq;obtain⟨ao,cap,rfl,dO,iR,_⟩:=id lq;clear lq;go_wp2_with fail
 refine Pq.O.mono ?_;rintro e w2 ⟨rfl,aF⟩;cases ha:l.all comp
 ·have Hn:=Qh (show aJ s=7 by rw[Gs.O,ha];rfl);clear ha;go_wp2;go_ret;exact⟨bP Hn.O.symm,au.trans (aF.mono au.size)⟩
 ·have Hn:=Qh (show aJ s=0 by rw[Gs.O,ha];rfl);clear ha;go_wp2;go_ret;exact⟨bP Hn.O.symm,au.trans (aF.mono au.size)⟩
theorem TN(I:IH)(hI:dQ I)(s:ae)(hs:s.length≤4294967280)(w:World)(hw:Ok I w):
 Calls Tryz.prog 171 #[S s] w (yh jE I w (oQ s).1 (oQ s).2):=by
 have Hc:=Qh (Xpq I hI s hs w hw);by_cases h0:aJ s=0
 ·rw[h0]at Hc;have wM:=Qh (Nq h0);clear h0;go_enter Tryz.func171,Tryz.ntmps171
  go_wp2_with fail
  refine Hc.O.mono ?_;rintro e w1 ⟨rfl,au⟩;have aD:Ok I w1:=hw.below (Qn _) au;go_wp2_with fail
  refine(TL I hI s hs _ aD).mono ?_;rintro e w2 ⟨v2,I2,rfl,aF,fM,aQ,fT⟩;obtain⟨ao,cap,rfl,dO,iR,_⟩:=id fT;go_wp2;go_ret2;rw[wM.O];exact⟨_,I2,rfl,au.trans (aF.mono au.size),fM.mono au.size,aQ,fT⟩
 ·have wM:=Qh (Tp h0);obtain⟨q,hq⟩:∃q,aJ s=q:=⟨_,rfl⟩;have hn:(q !=0)=true:=by rw[←hq];simpa using h0
  rw[hq]at wM Hc;clear hq h0;go_enter Tryz.func171,Tryz.ntmps171
  go_wp2_with fail
  refine Hc.O.mono ?_;rintro e w1 ⟨rfl,au⟩;have aD:Ok I w1:=hw.below (Qn _) au;go_wp2;go_ret2;rw[wM.O];exact⟨_,I,rfl,au,Ext.refl _ _,aD,bf.nil _ _⟩
theorem Xl2(I:IH)(hI:dQ I)(s:ae)(hs:s.length≤4294967280)(w:World)(hw:Ok I w):
 Calls Tryz.prog 105 #[S s] w fun e w'=>e= .returned (.tuple #[S (nT s).1,.int .i64 (nT s).2])∧Below w.heap.size w w':=by
 by_cases h0:aJ s=0
 ·have zM:=Qh (by have:=TN I hI s hs w hw;rw[Nq h0]at this;exact this);have pX:=(BL h0).1;have D8:=(BL h0).2.1;have Gt:=Qh (show nT s=if s=[]then([],1)else(kE s,0) by rw[nT,if_neg (by omega)]);have uO:(dX (els s)).length≤200:=by rw[Tj];exact pX
  have nI:=Xty (s:=s);have gH:kE s=dX ((els s).take ((els s).length-1)):=by rw[kE,List.dropLast_eq_take]
  have O3:=Qh (VG (els s) ((els s).length-1));generalize els s=l at zM uO nI gH O3 D8;have BM:=Qh nI;have VK:=Qh gH;clear h0 nI gH;go_enter Tryz.func105,Tryz.ntmps105
  go_wp2_with fail
  refine zM.O.mono ?_;rintro e w1 ⟨v1,I1,rfl,au,gK,aD,lq⟩;obtain⟨ao,cap,rfl,dO,iR,_⟩:=id lq;have BN:=Qh lq;clear lq gK;have uU:maxLen=9223372036854775807:=rfl;by_cases oO:l.length=0
  ·have Hn:=Qh (show nT s=([],1) by rw[Gt.O,if_pos (BM.O.1 (List.eq_nil_of_length_eq_zero oO))]);have hz:((l.length:Int)==0)=true:=by rw[oO];rfl
   clear oO uU;go_wp2;go_ret2;rw[Hn.O];exact⟨rfl,au⟩
  ·have Hn:=Qh (show nT s=(dX (l.take (l.length-1)),0) by
    rw[Gt.O,if_neg (fun e=>oO (by rw[BM.O.2 e];rfl)),VK.O])
   have hz:((l.length:Int)==0)=false:=by rw[beq_eq_false_iff_ne];omega
   have hlp:1≤l.length:=by omega
   have hi:IntKind.i64.wrap ((l.length:Int)-1)=(l.length:Int)-1:=IntWalk.i64_in _ (by omega);have hj:(0:Int)≤(l.length:Int)-1:=by omega
   have Du:(l.length:Int)-1≤(cap:Int):=by omega
   have hm:((l.length:Int)-1).toNat=l.length-1:=by omega
   have oU:=Qh (BN.O.rR (n:=l.length-1) (by omega));have VL:=Qh (Xvn I1 _ _ oU.O (by have:=O3.O;omega) (by rw[List.length_take];omega) w1 aD);clear oO uU;go_wp2_with fail
   refine VL.O.mono ?_;rintro e w2 ⟨rfl,aF⟩;go_wp2;go_ret2;rw[Hn.O];exact⟨rfl,au.trans (aF.mono au.size)⟩
 ·have zM:=Qh (by have:=TN I hI s hs w hw;rw[Tp h0]at this;exact this);obtain⟨q,hq⟩:∃q,aJ s=q:=⟨_,rfl⟩;have hn:(q !=0)=true:=by rw[←hq];simpa using h0
  have Gt:=Qh (show nT s=([],q) by rw[nT,if_pos h0,hq]);rw[hq]at zM;clear hq h0;go_enter Tryz.func105,Tryz.ntmps105
  go_wp2_with fail
  refine zM.O.mono ?_;rintro e w1 ⟨v1,I1,rfl,au,gK,aD,lq⟩;obtain⟨ao,cap,rfl,dO,iR,_⟩:=id lq;go_wp2;go_ret2;rw[Gt.O];exact⟨rfl,au⟩
theorem Wq(I:IH)(hI:dQ I)(p d:ae)(hp:p.length≤4294967280)(hd:d.length≤4294967280)(w:World)(hw:Ok I w):
 Calls Tryz.prog 196 #[S p,S d] w fun e w'=>e= .returned (.bool (under p d))∧Below w.heap.size w w':=by
 have zM:=Qh (TN I hI p hp w hw);have Hu:=Qh (show under p d=(decide (aJ p=0)&&decide (aJ d=0)&&(els d).isPrefixOf (els p))from rfl);have tK:(oQ p).2=aJ p:=by rw[oQ];split<;>simp_all
 have hq2:(oQ d).2=aJ d:=by rw[oQ];split<;>simp_all
 have Hl1:=Qh (fun h:aJ p=0=>show(oQ p).1=els p by rw[Nq h]);have Hl2:=Qh (fun h:aJ d=0=>show(oQ d).1=els d by rw[Nq h]);have Ps:=Qh (fun I hI w hw=>TN I hI d hd w hw);rw[tK]at zM;rw[hq2]at Ps;generalize(oQ p).1=l at zM Hl1;generalize(oQ d).1=m at Ps Hl2;clear tK hq2;go_enter Tryz.func196,Tryz.ntmps196
 go_wp2_with fail
 refine zM.O.mono ?_;rintro e w1 ⟨v1,I1,rfl,au,gK,aD,lq⟩;have jH:=hI.mono (gK.keep hw (Qn _));have BN:=Qh lq;clear lq;obtain⟨ao0,cap0,rfl,_,_,_⟩:=id BN.O;go_wp2_with fail
 refine(Ps.O I1 jH _ aD).mono ?_;rintro e w2 ⟨v2,I2,rfl,aF,fM,aQ,fT⟩;have lq:=BN.O.mono (fM.keep aD (Qn _));have aL:=au.trans (aF.mono au.size);obtain⟨ao,cap,e1,dO,iR,_⟩:=id lq;cases e1;obtain⟨xQ,cap2,rfl,wH,vM,_⟩:=id fT;have hlen:=lq.bW;have DJ:=fT.bW;have Hl:=Qh lq;have Hm:=Qh fT;clear lq fT BN au aF gK fM;by_cases h0:aJ p=0;case neg=>
  have Hn:=Qh (show under p d=false by rw[Hu.O,Qf h0];rfl);obtain⟨q,hq⟩:∃q,aJ p=q:=⟨_,rfl⟩;have hn:(q==0)=false:=by rw[←hq];simpa using h0
  rw[hq];clear hq h0;go_wp2;go_ret;exact⟨iW Hn.O.symm,aL⟩
 by_cases h1:aJ d=0;case neg=>
  have Hn:=Qh (show under p d=false by rw[Hu.O,Qf h1,Bool.and_false];rfl);obtain⟨q,hq⟩:∃q,aJ d=q:=⟨_,rfl⟩;have hn:(q==0)=false:=by rw[←hq];simpa using h1
  rw[hq,h0];clear hq h1 h0;go_wp2;go_ret;exact⟨iW Hn.O.symm,aL⟩
 have Kk:=Qh (show under p d=m.isPrefixOf l by rw[Hu.O,Qt h0,Qt h1,Hl1.O h0,Hl2.O h1];rfl);rw[h0,h1];clear h0 h1;by_cases mO:m.length≤l.length;case neg=>
  have ll:decide (m.length≤l.length)=false:=Qf mO;have Hn:=Qh (show under p d=false by rw[Kk.O];exact Xg0 (by omega));go_wp2;go_ret;exact⟨iW Hn.O.symm,aL⟩
 have ll:decide (m.length≤l.length)=true:=Qt mO;have hcc:m.length≤cap0:=by omega
 have Hn:=Qh (show under p d=decide (l.take m.length=m) by rw[Kk.O];exact Xim l m);have Heq:=Qh (Xsy I2 _ _ _ _ (Hl.O.rR mO) Hm.O w2 aQ);generalize decide (l.take m.length=m)=bb at Hn Heq;go_wp2_with fail
 refine Heq.O.mono ?_;rintro e w3 ⟨rfl,cO⟩;go_wp2;go_ret;exact⟨iW Hn.O.symm,aL.trans (cO.mono aL.size)⟩
def qp(x y:ae):Int:=if Op.bytesLess x y then -1 else if Op.bytesLess y x then 1 else 0
theorem NG(x:ae)(w:World):Calls Tryz.prog 239 #[S x] w fun e w'=>e= .returned (.bool false)∧w'=w:=by
 have f:(x !=x)=false:=by simp
 have f2:(x==x)=true:=by simp
 go_enter Tryz.func239,Tryz.ntmps239
 go_wp2;go_ret;exact⟨by first|rfl|(simp),rfl⟩
theorem Xxj(x y:ae)(w:World):Calls Tryz.prog 170 #[S x,S y] w fun e w'=>e= .returned (.int .i64 (qp x y))∧w'=w:=by
 rcases Nk x y with ht|ht|ht
 ·have Hn:=Qh (show qp x y= -1 by rw[qp,ht];rfl);go_enter Tryz.func170,Tryz.ntmps170
  go_wp2_with fail
  refine(NG x _).mono ?_;rintro e w1 ⟨rfl,rfl⟩;go_wp2_with fail
  refine(NG y _).mono ?_;rintro e w2 ⟨rfl,rfl⟩;go_wp2;go_ret;exact⟨bP Hn.O.symm,rfl⟩
 ·have f1:Op.bytesLess x y=false:=by rw[ht];exact DD _
  have f2:Op.bytesLess y x=false:=by rw[ht];exact DD _
  have f3:(x==y)=true:=by simp[ht]
  have f4:(!(x==y))=false:=by simp[ht]
  have Hn:=Qh (show qp x y=0 by rw[qp,f1,f2];rfl);clear ht;go_enter Tryz.func170,Tryz.ntmps170
  go_wp2_with fail
  refine(NG x _).mono ?_;rintro e w1 ⟨rfl,rfl⟩;go_wp2_with fail
  refine(NG y _).mono ?_;rintro e w2 ⟨rfl,rfl⟩;go_wp2;go_ret;exact⟨bP Hn.O.symm,rfl⟩
 ·have f1:=Nl ht;have f3:(x==y)=false:=by simpa using(Nn ht).symm
  have f4:(!(x==y))=true:=by rw[f3];rfl
  have Hn:=Qh (show qp x y=1 by rw[qp,f1,ht];rfl);go_enter Tryz.func170,Tryz.ntmps170
  go_wp2_with fail
  refine(NG x _).mono ?_;rintro e w1 ⟨rfl,rfl⟩;go_wp2_with fail
  refine(NG y _).mono ?_;rintro e w2 ⟨rfl,rfl⟩;go_wp2;go_ret;exact⟨bP Hn.O.symm,rfl⟩
theorem Xrh(x y:ae):(qp x y= -1∧Op.bytesLess x y=true)∨(qp x y=0∧x=y)∨(qp x y=1∧Op.bytesLess y x=true):=by
 rcases Nk x y with ht|ht|ht
 ·exact .inl ⟨by rw[qp,ht];rfl,ht⟩
 ·exact .inr (.inl ⟨by rw[qp,ht,DD];rfl,ht⟩)
 ·exact .inr (.inr ⟨by rw[qp,Nl ht,ht];rfl,ht⟩)
theorem Xiq(I:IH)(v1 v2:Value)(l m:List ae)(zI:bf jE I v1 l)(zJ:bf jE I v2 m)(w:World)(hw:Ok I w):
 Calls Tryz.prog 168 #[v1,v2,.func (.func 170) #[] #[]] w fun e w'=>e= .returned (.int .i64 (cmpL l m))∧Below w.heap.size w w':=by
 have hlen:=zI.bW;have DJ:=zJ.bW;obtain⟨ao,cap,rfl,dO,iR,_⟩:=id zI;obtain⟨xQ,cap2,rfl,wH,vM,_⟩:=id zJ;have Hl:=Qh zI;have Hm:=Qh zJ;clear zI zJ;have eg:∀args w,(callFunc 170 args).run Tryz.prog w= .ok (.enter 170 args) w:=fun _ _=>by kernel_rfl
 go_enter Tryz.func168,Tryz.ntmps168
 go_wp2_with fail
 go_loopw [13] (fun s13 wr=> ∃k:Nat,k≤l.length∧k≤m.length∧s13= .int .i64 k∧l.take k=m.take k∧Below w.heap.size w wr) (fun i _=>l.length-(intOf i).toNat)
 case atStart=>exact⟨0,Nat.zero_le _,Nat.zero_le _,rfl,rfl,Qb _ _⟩
 case round=>
  obtain⟨k,hk,wI,rfl,hr,hb⟩:=hrel;have Hr:=Qh hr;have Ba:=Qh (Xnd hr hk wI);clear hr;have dA:Ok I wr:=hw.below (Qn _) hb;by_cases hlt:k<l.length;case neg=>
   have O4:=Qh (show l.drop k=[]from List.drop_of_length_le (by omega));by_cases kH:k<m.length
   ·have ll:decide (l.length<m.length)=true:=Qt (by omega);have Hn:=Qh (show cmpL l m= -1 by rw[Ba.O,O4.O,List.drop_eq_getElem_cons kH];rfl);go_wp2;go_ret;exact⟨bP Hn.O.symm,hb⟩
   ·have ll:decide (l.length<m.length)=false:=Qf (by omega);have Hn:=Qh (show cmpL l m=0 by rw[Ba.O,O4.O,List.drop_of_length_le (by omega)];rfl);go_wp2;go_ret;exact⟨bP Hn.O.symm,hb⟩
  obtain⟨x,b,off,cap',bH,dn,hx0⟩:=DI Hl.O dA k hlt;cases dn;by_cases kH:k<m.length;case neg=>
   have ll:decide (m.length≤k)=true:=Qt (by omega);have Hn:=Qh (show cmpL l m=1 by rw[Ba.O,List.drop_of_length_le (l:=m) (by omega),List.drop_eq_getElem_cons hlt];rfl);clear bH;go_wp2;go_ret;exact⟨bP Hn.O.symm,hb⟩
  have ll:decide (m.length≤k)=false:=Qf (by omega);obtain⟨y,b',off',yj,iH,dn,JS⟩:=DI Hm.O dA k kH;cases dn;have DK:=Qh (show cmpL l m=cmpL (x::l.drop (k+1)) (y::m.drop (k+1)) by rw[Ba.O,List.drop_eq_getElem_cons hlt,List.drop_eq_getElem_cons kH,bH,iH]);have sF:=Qh bH;have Ns:=Qh iH;have Hc:=Qh (Xxj x y);have iU:=Xrh x y;generalize qp x y=c at Hc iU;clear bH iH;rcases iU with⟨hc,ht⟩|⟨hc,ht⟩|⟨hc,ht⟩
  ·subst hc;have Hn:=Qh (show cmpL l m= -1 by rw[DK.O];exact Xha ht _ _);clear ht;go_wp2_with fail
   refine(Hc.O _).mono ?_;rintro e w1 ⟨rfl,rfl⟩;go_wp2;go_ret;exact⟨bP Hn.O.symm,hb⟩
  ·subst hc;have Hn:=Qh (show l.take (k+1)=m.take (k+1) by rw[List.take_succ_eq_append_getElem hlt,List.take_succ_eq_append_getElem kH,Hr.O,sF.O,Ns.O,ht]);clear ht;go_wp2_with fail
   refine(Hc.O _).mono ?_;rintro e w1 ⟨rfl,rfl⟩;go_wp2;go_roundw;case rel=>exact⟨k+1,by omega,by omega,by go_num,Hn.O,hb⟩
   case measure=>simp[intOf];omega
  ·subst hc;have Hn:=Qh (show cmpL l m=1 by rw[DK.O];exact Xhb ht _ _);clear ht;go_wp2_with fail
   refine(Hc.O _).mono ?_;rintro e w1 ⟨rfl,rfl⟩;go_wp2;go_ret;exact⟨bP Hn.O.symm,hb⟩
theorem Ws(I:IH)(hI:dQ I)(p d:ae)(hp:p.length≤4294967280)(hd:d.length≤4294967280)(w:World)(hw:Ok I w):
 Calls Tryz.prog 104 #[S p,S d] w fun e w'=>e= .returned (.int .i64 (iP p d))∧Below w.heap.size w w':=by
 have Hu:=Qh (Xue p d);have Je:=Qh (TL I hI p hp w hw);have Jf:=Qh (fun I hI w hw=>TL I hI d hd w hw);generalize els p=l at Hu Je;generalize els d=m at Hu Jf;go_enter Tryz.func104,Tryz.ntmps104
 go_wp2_with fail
 refine Je.O.mono ?_;rintro e w1 ⟨v1,I1,rfl,au,gK,aD,lq⟩;have jH:=hI.mono (gK.keep hw (Qn _));have BN:=Qh lq;clear lq;obtain⟨ao0,cap0,rfl,_,_,_⟩:=id BN.O;go_wp2_with fail
 refine(Jf.O I1 jH _ aD).mono ?_;rintro e w2 ⟨v2,I2,rfl,aF,fM,aQ,fT⟩;have lq:=BN.O.mono (fM.keep aD (Qn _));have aL:=au.trans (aF.mono au.size);have Hc:=Qh (Xiq I2 _ _ l m lq fT w2 aQ);obtain⟨xQ,cap2,rfl,_,_,_⟩:=id fT;clear lq fT BN gK fM;go_wp2_with fail
 refine Hc.O.mono ?_;rintro e w3 ⟨rfl,cO⟩;go_wp2;go_ret;exact⟨bP Hu.O.symm,aL.trans (cO.mono aL.size)⟩
theorem Wt{W w1:World}{n:Nat}{x:At}{T:TypeId}(hn:n=W.heap.size)(hb:Below (W.alloc (.cells #[S x.k,S x.v] T)).heap.size (W.alloc (.cells #[S x.k,S x.v] T)) w1):
 w1.cell? ⟨n,0,none⟩=some (S x.k)∧w1.cell? ⟨n,1,none⟩=some (S x.v):=by
 subst hn;refine⟨?_,?_⟩<;>(rw[hb.cell (by simp)];simp)
end Go.Proofs.YtkipnpjagcfcpaaGreatDoor
namespace Go.Proofs
open Go.Shelf
def Tryz.yB:Go.Shelf.Ren:=⟨fun|160=>162|232=>222|231=>221|227=>223|234=>225|233=>224|236=>227|235=>226|228=>271|271=>274|151=>273|197=>272|120=>297|152=>296|260=>295|137=>160|119=>307|224=>120|225=>119|217=>118|266=>184|n=>n,fun|9=>9|4=>4|3=>3|5=>5|117=>265|116=>264|0=>0|124=>268|21=>21|105=>307|46=>173|119=>334|139=>337|138=>336|n=>n,fun|3=>4|4=>5|n=>n⟩
theorem Tryz.GH:Go.Proofs.Lays.n160 Tryz.prog Tryz.yB:={
 mixed:=by kernel_rfl
 f119:=Tryz.func307.trans (congrArg some (by kernel_rfl))
 f120:=Tryz.func297.trans (congrArg some (by kernel_rfl))
 f137:=Tryz.func160.trans (congrArg some (by kernel_rfl))
 f151:=Tryz.func273.trans (congrArg some (by kernel_rfl))
 f152:=Tryz.func296.trans (congrArg some (by kernel_rfl))
 f160:=Tryz.func162.trans (congrArg some (by kernel_rfl))
 f197:=Tryz.func272.trans (congrArg some (by kernel_rfl))
 f217:=Tryz.func118.trans (congrArg some (by kernel_rfl))
 f224:=Tryz.func120.trans (congrArg some (by kernel_rfl))
 f225:=Tryz.func119.trans (congrArg some (by kernel_rfl))
 f227:=Tryz.func223.trans (congrArg some (by kernel_rfl))
 f228:=Tryz.func271.trans (congrArg some (by kernel_rfl))
 f231:=Tryz.func221.trans (congrArg some (by kernel_rfl))
 f232:=Tryz.func222.trans (congrArg some (by kernel_rfl))
 f233:=Tryz.func224.trans (congrArg some (by kernel_rfl))
 f234:=Tryz.func225.trans (congrArg some (by kernel_rfl))
 f235:=Tryz.func226.trans (congrArg some (by kernel_rfl))
 f236:=Tryz.func227.trans (congrArg some (by kernel_rfl))
 f260:=Tryz.func295.trans (congrArg some (by kernel_rfl))
 f266:=Tryz.func184.trans (congrArg some (by kernel_rfl))
 f271:=Tryz.func274.trans (congrArg some (by kernel_rfl))
 t0:=Tryz.underlying0
 a0:=Tryz.isAgg0
 z0:=Tryz.sizeOf0
 v0:=Tryz.zeroValue0
 t3:=Tryz.underlying3
 a3:=Tryz.isAgg3
 z3:=Tryz.sizeOf3
 v3:=Tryz.zeroValue3
 t4:=Tryz.underlying4
 a4:=Tryz.isAgg4
 z4:=Tryz.sizeOf4
 v4:=Tryz.zeroValue4
 t5:=Tryz.underlying5
 a5:=Tryz.isAgg5
 z5:=Tryz.sizeOf5
 v5:=Tryz.zeroValue5
 t9:=Tryz.underlying9
 a9:=Tryz.isAgg9
 z9:=Tryz.sizeOf9
 v9:=Tryz.zeroValue9
 t21:=Tryz.underlying21
 a21:=Tryz.isAgg21
 z21:=Tryz.sizeOf21
 v21:=Tryz.zeroValue21
 t46:=Tryz.underlying173
 a46:=Tryz.isAgg173
 z46:=Tryz.sizeOf173
 v46:=Tryz.zeroValue173
 t105:=Tryz.underlying307
 a105:=Tryz.isAgg307
 z105:=Tryz.sizeOf307
 v105:=Tryz.zeroValue307
 t116:=Tryz.underlying264
 a116:=Tryz.isAgg264
 z116:=Tryz.sizeOf264
 t117:=Tryz.underlying265
 a117:=Tryz.isAgg265
 z117:=Tryz.sizeOf265
 v117:=Tryz.zeroValue265
 t119:=Tryz.underlying334
 a119:=Tryz.isAgg334
 z119:=Tryz.sizeOf334
 t124:=Tryz.underlying268
 a124:=Tryz.isAgg268
 z124:=Tryz.sizeOf268
 v124:=Tryz.zeroValue268
 t138:=Tryz.underlying336
 a138:=Tryz.isAgg336
 z138:=Tryz.sizeOf336
 v138:=Tryz.zeroValue336
 t139:=Tryz.underlying337
 a139:=Tryz.isAgg337
 z139:=Tryz.sizeOf337
 v139:=Tryz.zeroValue337
 g3:=by kernel_rfl
 g4:=by kernel_rfl}
open Go.RowKit in
theorem Tryz.qw(s cutset:ByteArray)(w:World)(hs:s.size≤9223372036854775807)(iU:cutset.size<4294967281)(Mt:∀(j:Nat) b,cutset.data.toList[j]?=some b→b.toNat<128):
 Calls Tryz.prog 162 #[.string s,.string cutset] w fun e w'=>e= .returned (.string ⟨(Lib.trimS s.data.toList cutset.data.toList).toArray⟩)∧RowKit.Below w.heap.size w w':=Any.strings_Trim_laid Tryz.GH (by kernel_rfl) s cutset w hs iU Mt
end Go.Proofs
namespace Go.Proofs.YtkipnpjagcfcpaaGreatDoor
open Go.RowKit
abbrev kX:ae:=[97,98,99,100,101,102,103,104,105,106,107,108,109,110,111,112,113,114,115,116,117,118,119,120,121,122,48,49,50,51,52,53,54,55,56,57,46,95,45]
theorem Xm9(c:UInt8):kX.contains c=bF c:=by
 have h:∀n:Fin 256,kX.contains (UInt8.ofNat n.1)=bF (UInt8.ofNat n.1):=by decide
 have:=h ⟨c.toNat,c.toNat_lt⟩;simpa using this
theorem Wu(s cs:ae):Lib.trimS s cs=[]↔s.all (cs.contains ·)=true:=by
 have hd:∀l:ae,l.dropWhile (cs.contains ·)=[]↔l.all (cs.contains ·)=true:=by
  intro l;induction l with
  |nil=>simp
  |cons x l ih=>
   rw[List.dropWhile_cons,List.all_cons];cases h:cs.contains x
   ·simp
   ·simp only[if_true,Bool.true_and];exact ih
 have OG:∀l:ae,(l.dropWhile (cs.contains ·)).all (cs.contains ·)=l.all (cs.contains ·):=by
  intro l;induction l with
  |nil=>rfl
  |cons x l ih=>
   rw[List.dropWhile_cons];cases h:cs.contains x
   ·rfl
   ·simp only[if_true];rw[ih,List.all_cons,h,Bool.true_and]
 unfold Lib.trimS Lib.trimLeftS Lib.trimRightS;rw[hd,List.all_reverse,OG,List.all_reverse]
theorem Xvm(s:ae)(hs:s.length≤9223372036854775807)(w:World):
 Calls Tryz.prog 162 #[S s,S kX] w fun e w'=>e= .returned (S (Lib.trimS s kX))∧Below w.heap.size w w':=by
 have h:=Tryz.qw ⟨s.toArray⟩ ⟨kX.toArray⟩ w (by rw[ByteArray.size_mk',List.size_toArray];exact hs) (by decide) (ascii_of_all (by decide));exact h
def kL(s:ae):Int:=if lu s then 0 else 7
theorem Wv(s:ae)(hs:s.length≤9223372036854775807)(w:World):
 Calls Tryz.prog 248 #[S s] w fun e w'=>e= .returned (.int .i64 (kL s))∧Below w.heap.size w w':=by
 by_cases h1:s=[]
 ·have hE:kL s=7:=by rw[h1];rfl
  have HE:=Qh hE;have f1:(s==[])=true:=by rw[h1];rfl
  have f2:s.isEmpty=true:=by rw[h1];rfl
  have f3:(!s.isEmpty)=false:=by rw[h1];rfl
  clear hE h1;go_enter Tryz.func248,Tryz.ntmps248
  go_wp2;go_ret;exact⟨bP HE.O.symm,Qb _ _⟩
 ·have hlen:1≤s.length:=by cases s<;>simp_all
  have f1:(s==[])=false:=by simpa using h1
  have f2:s.isEmpty=false:=by cases s<;>simp_all
  have f3:(!s.isEmpty)=true:=by rw[f2];rfl
  clear h1;by_cases wD:s.length≤32
  ·have ll:decide (32<s.length)=false:=Qf (by omega);have hk:lu s=s.all (kX.contains ·):=by
    have:(fun c=>kX.contains c)=bF:=funext Xm9;rw[this];simp[lu,wD,hlen]
   have ht:=Wu s kX;have yC:=Qh (Xvm s hs);generalize hT:Lib.trimS s kX=T at ht yC;by_cases Jo:T=[]
   ·have HE:=Qh (show kL s=0 by rw[kL,hk,if_pos (ht.1 Jo)]);have g1:(T==[])=true:=by rw[Jo];rfl
    have g2:T.isEmpty=true:=by rw[Jo];rfl
    have g3:(!T.isEmpty)=false:=by rw[Jo];rfl
    clear Jo ht hk hT;go_enter Tryz.func248,Tryz.ntmps248
    go_wp2_with fail
    refine(yC.O _).mono ?_;rintro e w1 ⟨rfl,au⟩;go_wp2;go_ret;exact⟨bP HE.O.symm,au⟩
   ·have HE:=Qh (show kL s=7 by rw[kL,hk,if_neg (fun h=>Jo (ht.2 h))]);have g1:(T==[])=false:=by simpa using Jo
    have g2:T.isEmpty=false:=by cases T<;>simp_all
    have g3:(!T.isEmpty)=true:=by rw[g2];rfl
    clear Jo ht hk hT;go_enter Tryz.func248,Tryz.ntmps248
    go_wp2_with fail
    refine(yC.O _).mono ?_;rintro e w1 ⟨rfl,au⟩;go_wp2;go_ret;exact⟨bP HE.O.symm,au⟩
  ·have ll:decide (32<s.length)=true:=Qt (by omega);have HE:=Qh (show kL s=7 by rw[kL,if_neg (by simp[lu,wD])]);go_enter Tryz.func248,Tryz.ntmps248
   go_wp2;go_ret;exact⟨bP HE.O.symm,Qb _ _⟩
theorem Xyn(x:At)(hx:x.Wf)(w:World):
 Calls Tryz.prog 177 #[x.val] w fun e w'=>e= .returned (.int .i64 (gq x))∧Below w.heap.size w w':=by
 obtain⟨gK,fM⟩:=hx;cases hk:lu x.k
 ·have HE:=Qh (show kL x.k=7 by rw[kL,hk];rfl);have HA:=Qh (show gq x=7 by rw[gq,if_pos hk]);clear hk;go_enter Tryz.func177,Tryz.ntmps177
  go_wp2_with fail
  refine(Wv x.k gK _).mono ?_;rintro e w1 ⟨rfl,au⟩;rw[HE.O];go_wp2;go_ret;exact⟨bP HA.O.symm,((Qb _ _).alloc (Qn _) _).trans (au.mono (by simp))⟩
 ·have HE:=Qh (show kL x.k=0 by rw[kL,hk];rfl);have Hk:=Qh hk;clear hk;by_cases h64:x.v.length≤64
  ·have hd:decide (64<x.v.length)=false:=Qf (by omega);have HA:=Qh (show gq x=0 by rw[gq,if_neg (by rw[Hk.O];simp),if_neg (by omega)]);go_enter Tryz.func177,Tryz.ntmps177
   go_wp2_with fail
   refine(Wv x.k gK _).mono ?_;rintro e w1 ⟨rfl,au⟩;rw[HE.O];obtain⟨nk,qW⟩:=Wt rfl au;go_wp2;go_ret;exact⟨bP HA.O.symm,((Qb _ _).alloc (Qn _) _).trans (au.mono (by simp))⟩
  ·have hd:decide (64<x.v.length)=true:=Qt (by omega);have HA:=Qh (show gq x=6 by rw[gq,if_neg (by rw[Hk.O];simp),if_pos (by omega)]);go_enter Tryz.func177,Tryz.ntmps177
   go_wp2_with fail
   refine(Wv x.k gK _).mono ?_;rintro e w1 ⟨rfl,au⟩;rw[HE.O];obtain⟨nk,qW⟩:=Wt rfl au;go_wp2;go_ret;exact⟨bP HA.O.symm,((Qb _ _).alloc (Qn _) _).trans (au.mono (by simp))⟩
theorem Xnc:∀(a b:ae),Lib.compareBytes a b=if Op.bytesLess a b then -1 else if a==b then 0 else 1
 | [],[]=>rfl
 | [],_::_=>rfl
 |_::_,[]=>rfl
 |x::a,y::b=>by
  rw[Lib.compareBytes,Xnc a b,Op.bytesLess];by_cases h1:x<y
  ·simp[h1]
  ·by_cases h2:y<x
   ·have:¬x=y:=fun e=>by subst e;exact UInt8.lt_irrefl _ h2
    simp[h1,h2,this]
   ·have e:x=y:=UInt8.le_antisymm (UInt8.not_lt.1 h2) (UInt8.not_lt.1 h1);subst e;simp
theorem Xof(a b:ae)(w:World):Calls Tryz.prog 178 #[S a,S b] w fun e w'=>e= .returned (.int .i64 (Lib.compareBytes a b))∧Below w.heap.size w w':=
 (Tryz.strings_Compare ⟨a.toArray⟩ ⟨b.toArray⟩ w).mono fun _ _ ⟨h1,h2⟩=>⟨h1,by rw[h2];exact Qb _ _⟩
theorem Xwp(I:IH)(v:Value)(l:List At)(hv:bf lT I v l)(hl:∀x∈l,x.Wf)(w:World)(hw:Ok I w):
 Calls Tryz.prog 110 #[v] w fun e w'=>e= .returned (.int .i64 (mQ l))∧Below w.heap.size w w':=by
 have hlen:=hv.bW;obtain⟨ao,cap,rfl,dO,iR,_⟩:=id hv;have Hv:=Qh hv;clear hv;have Hl:=Qh hl;clear hl;by_cases h16:l.length≤16
 ·have hd:decide (16<l.length)=false:=Qf (by omega);have wP:=Qh (show mQ l=dR none l by rw[mQ,if_neg (by omega)]);go_enter Tryz.func110,Tryz.ntmps110
  go_wp2_with fail
  go_loopw [11] (fun s11 wr=> ∃k:Nat,k≤l.length∧s11= .int .i64 k∧dR (if k=0 then none else l[k-1]?) (l.drop k)=dR none l∧Below w.heap.size w wr) (fun i _=>l.length-(intOf i).toNat)
  case atStart=>exact⟨0,Nat.zero_le _,rfl,rfl,Qb _ _⟩
  case round=>
   obtain⟨k,hk,rfl,hr,hb⟩:=hrel;have Hr:=Qh hr;clear hr;by_cases hlt:k<l.length
   ·have dA:Ok I wr:=hw.below (Qn _) hb;obtain⟨x,b,off,cap',bH,dn,nk,qW⟩:=zL Hv.O dA k hlt;cases dn;have qY:x∈l:=by rw[←bH];exact List.getElem_mem hlt
    have Pt:=Qh (Hl.O x qY);have bB:=Qh (show mQ l=if gq x≠0 then gq x else if((if k=0 then none else l[k-1]?).any fun q=>q.k==x.k)then 8 else if((if k=0 then none else l[k-1]?).any fun q=>Op.bytesLess x.k q.k)then 14 else dR (some x) (l.drop (k+1)) by
     rw[wP.O,←Hr.O,List.drop_eq_getElem_cons hlt,bH,Xhc])
    have Jn:=Qh (show l[k]?=some x by rw[List.getElem?_eq_getElem hlt,bH]);clear bH qY;go_wp2_with fail
    refine(Xyn x Pt.O _).mono ?_;rintro e w1 ⟨rfl,au⟩;obtain⟨hx0,gK⟩:=Wt rfl au;have av:=(hb.alloc hb.size _).trans (au.mono (by have:=hb.size;simp;omega));have uN:Ok I w1:=hw.below (Qn _) av;clear au nk qW;by_cases h0:gq x=0
    ·have H0:=Qh h0;rw[h0];clear h0;by_cases rM:k=0
     ·have Fp:((k:Int)==0)=true:=by rw[rM];rfl
      have iD:=Qh (show dR (if k+1=0 then none else l[k+1-1]?) (l.drop (k+1))=dR none l by
       rw[←wP.O,bB.O,H0.O,if_neg (by omega),Nat.add_sub_cancel,Jn.O];simp[rM])
      clear rM;go_wp2;go_roundw;case rel=>exact⟨k+1,by omega,by go_num,iD.O,av⟩
      case measure=>simp[intOf];omega
     ·obtain⟨q,b',off',yj,Dt,dn,BG,hp1⟩:=zL Hv.O uN (k-1) (by omega);cases dn;have iy:=Qh (show mQ l=if(q.k==x.k)then 8 else if Op.bytesLess x.k q.k then 14 else dR (some x) (l.drop (k+1)) by
       rw[bB.O,H0.O,if_neg (by omega),if_neg rM,List.getElem?_eq_getElem (by omega),Dt];rfl)
      have Fp:((k:Int)==0)=false:=by rw[beq_eq_false_iff_ne];omega
      have hi:IntKind.i64.wrap ((k:Int)-1)=(k:Int)-1:=IntWalk.i64_in _ (by omega);have hj:0≤(k:Int)-1:=by omega
      have hm:((k:Int)-1).toNat=k-1:=by omega
      have Sr:=cell_regrown hx0;have hq0:=cell_regrown BG;have AJ:=Xnc q.k x.k;have wW:=Qh (fun W=>Xof q.k x.k W);generalize Lib.compareBytes q.k x.k=r at AJ wW;clear Dt;rcases Nk q.k x.k with ht|ht|ht
      ·have lq:r= -1:=by rw[AJ,ht];rfl
       have iD:=Qh (show dR (if k+1=0 then none else l[k+1-1]?) (l.drop (k+1))=dR none l by
        have Sy:(q.k==x.k)=false:=by simpa using Nn ht
        rw[←wP.O,iy.O,Nl ht,Sy,Nat.add_sub_cancel,Jn.O];simp)
       subst lq;clear ht AJ;go_wp2_with fail
       refine wp_region_quiet_below (by kernel_rfl) (by kernel_rfl) ?_;repeat(go_big_quiet_step ((with_reducible exact Calls.regrown_of (wW.O _))))
       refine wpQuiet_nil ?_;intro w2 bg;have aF:Below (w1).heap.size (w1) w2:=by
        obtain⟨pq,rfl⟩:=bg;exact below_regrown _ _ _
       clear bg;go_wp2;go_roundw;case rel=>exact⟨k+1,by omega,by go_num,iD.O,av.trans (aF.mono av.size)⟩
       case measure=>simp[intOf];omega
      ·have Sy:(q.k==x.k)=true:=by rw[ht];exact beq_self_eq_true _
       have xK:Op.bytesLess q.k x.k=false:=by rw[ht];exact DD _
       have lq:r=0:=by rw[AJ,xK,Sy];rfl
       have iD:=Qh (show mQ l=8 by rw[iy.O,if_pos Sy]);subst lq;clear ht AJ Sy xK;go_wp2_with fail
       refine wp_region_quiet_below (by kernel_rfl) (by kernel_rfl) ?_;repeat(go_big_quiet_step ((with_reducible exact Calls.regrown_of (wW.O _))))
       refine wpQuiet_nil ?_;intro w2 bg;have aF:Below (w1).heap.size (w1) w2:=by
        obtain⟨pq,rfl⟩:=bg;exact below_regrown _ _ _
       clear bg;go_wp2;go_ret;exact⟨bP iD.O.symm,av.trans (aF.mono av.size)⟩
      ·have bZ:(q.k==x.k)=false:=by simpa using(Nn ht).symm
       have lq:r=1:=by rw[AJ,Nl ht,bZ];rfl
       have iD:=Qh (show mQ l=14 by rw[iy.O,if_neg (by rw[bZ];simp),if_pos ht]);subst lq;clear ht AJ bZ;go_wp2_with fail
       refine wp_region_quiet_below (by kernel_rfl) (by kernel_rfl) ?_;repeat(go_big_quiet_step ((with_reducible exact Calls.regrown_of (wW.O _))))
       refine wpQuiet_nil ?_;intro w2 bg;have aF:Below (w1).heap.size (w1) w2:=by
        obtain⟨pq,rfl⟩:=bg;exact below_regrown _ _ _
       clear bg;go_wp2;go_ret;exact⟨bP iD.O.symm,av.trans (aF.mono av.size)⟩
    ·obtain⟨q,hq⟩:∃q,gq x=q:=⟨_,rfl⟩;have AL:(q !=0)=true:=by rw[←hq];simpa using h0
     have Hs:=Qh (show mQ l=q by rw[bB.O,if_pos h0,hq]);rw[hq];clear hq h0;go_wp2;go_ret;exact⟨bP Hs.O.symm,av⟩
   ·go_wp2;go_ret;refine⟨bP ?_,hb⟩;rw[wP.O,←Hr.O,List.drop_of_length_le (by omega)];rfl
 ·have hd:decide (16<l.length)=true:=Qt (by omega);go_enter Tryz.func110,Tryz.ntmps110
  go_wp2;go_ret;exact⟨bP (by rw[mQ,if_pos (by omega)]),Qb _ _⟩
theorem dQ.tab{I : IH}{w : World}(h : dQ I)(hw : Ok I w) : Lib.TabIs Tryz.prog w "internal/strconv.uint64pow10" .u64 Lib.pow10Tab :=by
 obtain⟨e,f,hh⟩:=hw _ _ h.pow;unfold Lib.TabIs World.var?;have hg : Tryz.prog.globalNamed "internal/strconv.uint64pow10" =some 3 :=by kernel_rfl
 simp[hg,hh]
theorem dQ.Ww{I : IH}{w : World}(h : dQ I)(hw : Ok I w) : ∃tp p,w.var? Tryz.prog "strconv.ErrSyntax" =some #[.iface tp p] :=by
 obtain⟨tp,p,h1⟩:=h.syn;obtain⟨e,f,hh⟩:=hw _ _ h1;refine⟨tp,p,?_⟩;unfold World.var?;have hg : Tryz.prog.globalNamed "strconv.ErrSyntax" =some 1 :=by kernel_rfl
 simp[hg,hh]
theorem dQ.Wx{I : IH}{w : World}(h : dQ I)(hw : Ok I w) : ∃tp p,w.var? Tryz.prog "strconv.ErrRange" =some #[.iface tp p] :=by
 obtain⟨tp,p,h1⟩:=h.rng;obtain⟨e,f,hh⟩:=hw _ _ h1;refine⟨tp,p,?_⟩;unfold World.var?;have hg : Tryz.prog.globalNamed "strconv.ErrRange" =some 2 :=by kernel_rfl
 simp[hg,hh]
theorem Wy(I:IH)(hI:dQ I)(n:Int)(w:World)(hw:Ok I w)(h0: -9223372036854775808≤n)(h1:n≤9223372036854775807):
 Calls Tryz.prog 61 #[.int .i64 n] w fun e w'=>e= .returned (S (Lib.itoa n))∧Below w.heap.size w w':=
 (Tryz.strconv_Itoa n h0 h1 w (hI.tab hw)).mono fun e w' ⟨he,k,os,hq⟩=>⟨he,by rw[hq];exact Lib.below_grow _ _ (Qn _) _ _⟩
def GI(w:World)(e:Ending)(w':World):Prop:=∃n N,e= .returned (.tuple #[.int .i64 n,.iface 272 (.pointer (some ⟨N,0,none⟩))])∧Below w.heap.size w w'
theorem TP(s:ae)(hs:s.length≤4294967280)(n:Int)(h:Lib.atoiAll s= .ok n)(w:World):
 Calls Tryz.prog 101 #[S s] w fun e w'=>e= .returned (.tuple #[.int .i64 n,.nilIface])∧Below w.heap.size w w':=by
 have eU:(⟨s.toArray⟩:ByteArray).size=s.length:=by simp[ByteArray.size]
 refine(Tryz.strconv_Atoi_ok ⟨s.toArray⟩ (by omega) n h w).mono fun e w' ⟨h1,h2⟩=>⟨h1,?_⟩;rcases h2 with h2|⟨t,h2⟩
 ·rw[h2];exact Qb _ _
 ·rw[h2];exact Joins.below_bytesWorld _ _ _ _ (Qn _)
theorem Wz(I:IH)(hI:dQ I)(s:ae)(hs:s.length≤4294967280)(h:∀n,Lib.atoiAll s≠ .ok n)(w:World)(hw:Ok I w):
 Calls Tryz.prog 101 #[S s] w (GI w):=by
 have eU:(⟨s.toArray⟩:ByteArray).size=s.length:=by simp[ByteArray.size]
 by_cases hr:Lib.atoiAll s= .range
 ·obtain⟨tp,p,hv⟩:=hI.Wx hw;exact(Tryz.strconv_Atoi_range_var ⟨s.toArray⟩ (by omega) hr tp p w hv).mono fun e w' ⟨N,h1,_,_,h4⟩=>⟨_,N,h1,h4⟩
 ·obtain⟨tp,p,hv⟩:=hI.Ww hw;exact(Tryz.strconv_Atoi_syntax_var ⟨s.toArray⟩ (by omega) h hr tp p w hv).mono fun e w' ⟨N,h1,_,_,h4⟩=>⟨0,N,h1,h4⟩
theorem Xtw(I:IH)(hI:dQ I)(s:ae)(hs:s.length≤4294967280)(w:World)(hw:Ok I w):
 Calls Tryz.prog 179 #[S s] w fun e w'=>e= .returned (.bool (fU s))∧Below w.heap.size w w':=by
 have Vi:=Xqf s;by_cases gG:∃n,Lib.atoiAll s= .ok n;case neg=>
  have Hn:=Qh (show fU s=false by
   cases h:fU s with
   |false=>rfl
   |true=>obtain⟨n,h1,_⟩:=Vi.1 h;exact absurd ⟨n,h1⟩ gG)
  have q9:=Qh (Wz I hI s hs (fun n h=>gG ⟨n,h⟩) w hw);clear Vi gG;go_enter Tryz.func179,Tryz.ntmps179
  go_wp2_with fail
  refine q9.O.mono ?_;rintro e w1 ⟨n,N,rfl,au⟩;go_wp2;go_ret;exact⟨iW Hn.O.symm,au⟩
 obtain⟨n,hn⟩:=gG;have q9:=Qh (TP s hs n hn w);have Hd:=Qh (show fU s=(decide (0≤n)&&decide (n≤1000000000)&&decide (Lib.itoa n=s)) by
  rw[Bool.eq_iff_iff,Vi];simp only[Bool.and_eq_true,decide_eq_true_eq];constructor
  ·rintro⟨m,h1,h2,h3,h4⟩;rw[hn]at h1;injection h1 with h1
   subst h1;exact⟨⟨h2,h3⟩,h4⟩
  ·rintro⟨⟨h2,h3⟩,h4⟩;exact⟨n,hn,h2,h3,h4⟩)
 clear Vi hn;by_cases h0:0≤n;case neg=>
  have Hn:=Qh (show fU s=false by rw[Hd.O,Qf h0];rfl);go_enter Tryz.func179,Tryz.ntmps179
  go_wp2_with fail
  refine q9.O.mono ?_;rintro e w1 ⟨rfl,au⟩;go_wp2;go_ret;exact⟨(by first|exact iW Hn.O.symm|(rw[Hn.O];congr 1;simp;omega)),au⟩
 by_cases h1:n≤1000000000;case neg=>
  have Hn:=Qh (show fU s=false by rw[Hd.O,Qf h1,Bool.and_false];rfl);go_enter Tryz.func179,Tryz.ntmps179
  go_wp2_with fail
  refine q9.O.mono ?_;rintro e w1 ⟨rfl,au⟩;go_wp2;go_ret;exact⟨(by first|exact iW Hn.O.symm|(rw[Hn.O];congr 1;simp;omega)),au⟩
 have Hn:=Qh (show fU s=(Lib.itoa n==s) by
  rw[Hd.O,Qt h0,Qt h1];by_cases h:Lib.itoa n=s<;>simp[h])
 have vw:=Qh (fun w hw=>Wy I hI n w hw (by omega) (by omega));obtain⟨t,ht⟩:∃t,Lib.itoa n=t:=⟨_,rfl⟩;rw[ht]at vw Hn;clear ht;go_enter Tryz.func179,Tryz.ntmps179
 go_wp2_with fail
 refine q9.O.mono ?_;rintro e w1 ⟨rfl,au⟩;go_wp2_with fail
 refine(vw.O _ (hw.below (Qn _) au)).mono ?_;rintro e w2 ⟨rfl,aF⟩;go_wp2;go_ret;exact⟨iW Hn.O.symm,au.trans (aF.mono au.size)⟩
theorem Xtu(I:IH)(hI:dQ I)(x:aG)(hx:x.target.length≤4294967280)(va vx:Value)(w:World)(hw:Ok I w):
 Calls Tryz.prog 111 #[fB x va vx] w fun e w'=>e= .returned (.bool (bJ x))∧Below w.heap.size w w':=by
 by_cases h3:x.ai=3
 ·have f3:((x.ai:Int)==3)=true:=by simpa using h3
  by_cases h1:x.target=[]
  ·have Ht:=Qh (show bJ x=false by rw[bJ,if_pos h3,h1];rfl);obtain⟨p1,p2,p3,p4⟩:=De h1;clear h3 h1;go_enter Tryz.func111,Tryz.ntmps111
   go_wp2;go_ret;exact⟨iW Ht.O.symm,(Qb _ _).alloc (Qn _) _⟩
  have x8:1≤x.target.length:=List.length_pos_iff.2 h1;have Ht:=Qh (show bJ x=decide (x.target.length≤200) by rw[bJ,if_pos h3,Qt x8];rfl);obtain⟨p1,p2,p3,p4⟩:=Bc h1;clear h3 h1;go_enter Tryz.func111,Tryz.ntmps111
  go_wp2;go_ret;exact⟨iW (by rw[Ht.O,decide_eq_decide];omega),(Qb _ _).alloc (Qn _) _⟩
 have f3:((x.ai:Int)==3)=false:=by simpa using h3
 by_cases h5:x.ai=5
 ·have f5:((x.ai:Int)==5)=true:=by simpa using h5
  have Ht:=Qh (show bJ x=fU x.target by rw[bJ,if_neg h3,if_pos h5]);clear h3 h5;go_enter Tryz.func111,Tryz.ntmps111
  go_wp2_with fail
  refine(Xtw I hI x.target hx _ (hw.alloc _)).mono ?_;rintro e w1 ⟨rfl,au⟩;go_wp2;go_ret;exact⟨iW Ht.O.symm,((Qb _ _).alloc (Qn _) _).trans (au.mono (by simp))⟩
 have f5:((x.ai:Int)==5)=false:=by simpa using h5
 have Ht:=Qh (show bJ x=x.target.isEmpty by rw[bJ,if_neg h3,if_neg h5]);clear h3 h5;go_enter Tryz.func111,Tryz.ntmps111
 go_wp2;go_ret;exact⟨iW (by rw[Ht.O]),(Qb _ _).alloc (Qn _) _⟩
end Go.Proofs.YtkipnpjagcfcpaaGreatDoor
namespace Go.Proofs
open Go.Shelf
def Tryz.rU:Go.Shelf.Ren:=⟨fun|169=>28|n=>n,fun|70=>68|9=>9|0=>0|72=>71|37=>69|127=>130|3=>3|5=>5|n=>n,fun|n=>n⟩
theorem Tryz.Bf:Go.Proofs.Lays.n169 Tryz.prog Tryz.rU:={
 mixed:=by kernel_rfl
 f169:=Tryz.func28.trans (congrArg some (by kernel_rfl))
 t0:=Tryz.underlying0
 a0:=Tryz.isAgg0
 z0:=Tryz.sizeOf0
 v0:=Tryz.zeroValue0
 t3:=Tryz.underlying3
 a3:=Tryz.isAgg3
 z3:=Tryz.sizeOf3
 v3:=Tryz.zeroValue3
 t9:=Tryz.underlying9
 a9:=Tryz.isAgg9
 z9:=Tryz.sizeOf9
 v9:=Tryz.zeroValue9
 t37:=Tryz.underlying69
 a37:=Tryz.isAgg69
 z37:=Tryz.sizeOf69
 v37:=Tryz.zeroValue69
 t70:=Tryz.underlying68
 a70:=Tryz.isAgg68
 z70:=Tryz.sizeOf68
 v70:=Tryz.zeroValue68
 t72:=Tryz.underlying71
 a72:=Tryz.isAgg71
 z72:=Tryz.sizeOf71
 v72:=Tryz.zeroValue71
 t127:=Tryz.underlying130
 a127:=Tryz.isAgg130
 z127:=Tryz.sizeOf130
 v127:=Tryz.zeroValue130}
theorem Tryz.ma:Builder.Extra Tryz.prog Tryz.rU:={
 sizeBuilder:=by kernel_rfl
 liesBuilder:=by kernel_rfl
 t5:=Tryz.underlying5
 a5:=Tryz.isAgg5
 z5:=Tryz.sizeOf5
 v5:=Tryz.zeroValue5
 infoByte:=by kernel_rfl
 cellsByte:=by kernel_rfl
 sizeByte:=by kernel_rfl
 neB5:=by decide}
open Go.RowKit in
theorem Tryz.Builder_String_any(B b:Nat)(l:List UInt8)(w:World)(h:Lib.IsBuilder 71 5 B b (Lib.byteCells l) w)(wK:B≤w.heap.size):
 Calls Tryz.prog 28 #[.pointer (some ⟨b,0,none⟩)] w fun e w'=>e= .returned (.string ⟨l.toArray⟩)∧Below B w w':=Any.Builder_String_any Tryz.Bf Tryz.ma B b l w h wK
def Tryz.rV:Go.Shelf.Ren:=⟨fun|105=>127|212=>188|99=>12|165=>189|166=>23|170=>139|169=>28|263=>251|264=>252|206=>34|240=>60|241=>253|276=>107|277=>286|n=>n,fun|9=>9|3=>3|4=>4|20=>20|0=>0|46=>173|109=>227|5=>5|72=>71|76=>74|51=>41|146=>225|53=>23|148=>288|70=>68|37=>69|75=>73|127=>130|164=>165|80=>80|n=>n,fun|n=>n⟩
theorem Tryz.GJ:Go.Proofs.Lays.n105 Tryz.prog Tryz.rV:={
 mixed:=by kernel_rfl
 f99:=Tryz.func12.trans (congrArg some (by kernel_rfl))
 f105:=Tryz.func127.trans (congrArg some (by kernel_rfl))
 f165:=Tryz.func189.trans (congrArg some (by kernel_rfl))
 f166:=Tryz.func23.trans (congrArg some (by kernel_rfl))
 f169:=Tryz.func28.trans (congrArg some (by kernel_rfl))
 f170:=Tryz.func139.trans (congrArg some (by kernel_rfl))
 f206:=Tryz.func34.trans (congrArg some (by kernel_rfl))
 f212:=Tryz.func188.trans (congrArg some (by kernel_rfl))
 f240:=Tryz.func60.trans (congrArg some (by kernel_rfl))
 f241:=Tryz.func253.trans (congrArg some (by kernel_rfl))
 f263:=Tryz.func251.trans (congrArg some (by kernel_rfl))
 f264:=Tryz.func252.trans (congrArg some (by kernel_rfl))
 f276:=Tryz.func107.trans (congrArg some (by kernel_rfl))
 f277:=Tryz.func286.trans (congrArg some (by kernel_rfl))
 t0:=Tryz.underlying0
 a0:=Tryz.isAgg0
 z0:=Tryz.sizeOf0
 v0:=Tryz.zeroValue0
 t3:=Tryz.underlying3
 a3:=Tryz.isAgg3
 z3:=Tryz.sizeOf3
 v3:=Tryz.zeroValue3
 t4:=Tryz.underlying4
 a4:=Tryz.isAgg4
 z4:=Tryz.sizeOf4
 v4:=Tryz.zeroValue4
 t5:=Tryz.underlying5
 a5:=Tryz.isAgg5
 z5:=Tryz.sizeOf5
 v5:=Tryz.zeroValue5
 t9:=Tryz.underlying9
 a9:=Tryz.isAgg9
 z9:=Tryz.sizeOf9
 v9:=Tryz.zeroValue9
 t20:=Tryz.underlying20
 a20:=Tryz.isAgg20
 z20:=Tryz.sizeOf20
 v20:=Tryz.zeroValue20
 t37:=Tryz.underlying69
 a37:=Tryz.isAgg69
 z37:=Tryz.sizeOf69
 v37:=Tryz.zeroValue69
 t46:=Tryz.underlying173
 a46:=Tryz.isAgg173
 z46:=Tryz.sizeOf173
 v46:=Tryz.zeroValue173
 t51:=Tryz.underlying41
 a51:=Tryz.isAgg41
 z51:=Tryz.sizeOf41
 v51:=Tryz.zeroValue41
 t53:=Tryz.underlying23
 a53:=Tryz.isAgg23
 z53:=Tryz.sizeOf23
 v53:=Tryz.zeroValue23
 t70:=Tryz.underlying68
 a70:=Tryz.isAgg68
 z70:=Tryz.sizeOf68
 v70:=Tryz.zeroValue68
 t72:=Tryz.underlying71
 a72:=Tryz.isAgg71
 z72:=Tryz.sizeOf71
 v72:=Tryz.zeroValue71
 t75:=Tryz.underlying73
 a75:=Tryz.isAgg73
 z75:=Tryz.sizeOf73
 v75:=Tryz.zeroValue73
 t76:=Tryz.underlying74
 a76:=Tryz.isAgg74
 z76:=Tryz.sizeOf74
 v76:=Tryz.zeroValue74
 t109:=Tryz.underlying227
 a109:=Tryz.isAgg227
 z109:=Tryz.sizeOf227
 v109:=Tryz.zeroValue227
 t127:=Tryz.underlying130
 a127:=Tryz.isAgg130
 z127:=Tryz.sizeOf130
 v127:=Tryz.zeroValue130
 t146:=Tryz.underlying225
 a146:=Tryz.isAgg225
 z146:=Tryz.sizeOf225
 v146:=Tryz.zeroValue225
 t148:=Tryz.underlying288
 a148:=Tryz.isAgg288
 z148:=Tryz.sizeOf288
 v148:=Tryz.zeroValue288
 t164:=Tryz.underlying165
 a164:=Tryz.isAgg165
 z164:=Tryz.sizeOf165
 v164:=Tryz.zeroValue165}
theorem Tryz.qx:Builder.Extra Tryz.prog Tryz.rV:={
 sizeBuilder:=by kernel_rfl
 liesBuilder:=by kernel_rfl
 t5:=Tryz.underlying5
 a5:=Tryz.isAgg5
 z5:=Tryz.sizeOf5
 v5:=Tryz.zeroValue5
 infoByte:=by kernel_rfl
 cellsByte:=by kernel_rfl
 sizeByte:=by kernel_rfl
 neB5:=by decide}
open Go.RowKit Go.Lib in
theorem Tryz.strings_Repeat(s:ByteArray)(c:Nat)(w:World)(hc:c≤9223372036854775807)(hlen:s.size*c≤140737488355328):
 Calls Tryz.prog 127 #[.string s,.int .i64 c] w fun e w'=>e= .returned (.string ⟨(Lib.repeatL s.data.toList c).toArray⟩)∧Below w.heap.size w w':=Any.strings_Repeat Tryz.GJ Tryz.qx s c w hc hlen
def Tryz.rW:Go.Shelf.Ren:=⟨fun|166=>23|240=>60|276=>107|n=>n,fun|0=>0|3=>3|4=>4|5=>5|9=>9|20=>20|37=>69|70=>68|72=>71|75=>73|80=>80|164=>165|n=>n,fun|n=>n⟩
theorem Tryz.Bg:Go.Proofs.Lays.n166 Tryz.prog Tryz.rW:={
 mixed:=by kernel_rfl
 f166:=Tryz.func23.trans (congrArg some (by kernel_rfl))
 f240:=Tryz.func60.trans (congrArg some (by kernel_rfl))
 f276:=Tryz.func107.trans (congrArg some (by kernel_rfl))
 t0:=Tryz.underlying0
 a0:=Tryz.isAgg0
 z0:=Tryz.sizeOf0
 v0:=Tryz.zeroValue0
 t3:=Tryz.underlying3
 a3:=Tryz.isAgg3
 z3:=Tryz.sizeOf3
 v3:=Tryz.zeroValue3
 t4:=Tryz.underlying4
 a4:=Tryz.isAgg4
 z4:=Tryz.sizeOf4
 v4:=Tryz.zeroValue4
 t9:=Tryz.underlying9
 a9:=Tryz.isAgg9
 z9:=Tryz.sizeOf9
 v9:=Tryz.zeroValue9
 t20:=Tryz.underlying20
 a20:=Tryz.isAgg20
 z20:=Tryz.sizeOf20
 v20:=Tryz.zeroValue20
 t37:=Tryz.underlying69
 a37:=Tryz.isAgg69
 z37:=Tryz.sizeOf69
 v37:=Tryz.zeroValue69
 t70:=Tryz.underlying68
 a70:=Tryz.isAgg68
 z70:=Tryz.sizeOf68
 v70:=Tryz.zeroValue68
 t72:=Tryz.underlying71
 a72:=Tryz.isAgg71
 z72:=Tryz.sizeOf71
 v72:=Tryz.zeroValue71
 t75:=Tryz.underlying73
 a75:=Tryz.isAgg73
 z75:=Tryz.sizeOf73
 v75:=Tryz.zeroValue73
 t164:=Tryz.underlying165
 a164:=Tryz.isAgg165
 z164:=Tryz.sizeOf165
 v164:=Tryz.zeroValue165}
theorem Tryz.mf:Builder.Extra Tryz.prog Tryz.rW:={
 sizeBuilder:=by kernel_rfl
 liesBuilder:=by kernel_rfl
 t5:=Tryz.underlying5
 a5:=Tryz.isAgg5
 z5:=Tryz.sizeOf5
 v5:=Tryz.zeroValue5
 infoByte:=by kernel_rfl
 cellsByte:=by kernel_rfl
 sizeByte:=by kernel_rfl
 neB5:=by decide}
theorem Tryz.Builder_WriteString(B b:Nat)(bs:List Value)(s:ByteArray)(w:World)(h:Lib.IsBuilder 71 5 B b bs w)(hlen:bs.length+s.size≤140737488355328)(wK:B≤w.heap.size):
 Calls Tryz.prog 23 #[.pointer (some ⟨b,0,none⟩),.string s] w fun e w'=>e= .returned (.tuple #[.int .i64 s.size,.nilIface])∧(Lib.BuilderAt 71 5 B b (.pointer (some ⟨b,0,none⟩)) (bs++Lib.strCells s) w'∧RowKit.Below B w w'):=Any.Builder_WriteString Tryz.Bg Tryz.mf B b bs s w h hlen wK
end Go.Proofs
namespace Go.Proofs.YtkipnpjagcfcpaaGreatDoor
open Go.RowKit Go.Lib
theorem repeatL_one(c:UInt8):∀n,repeatL [c] n=List.replicate n c
 |0=>rfl
 |n+1=>by rw[repeatL,repeatL_one c n,List.replicate_succ];rfl
theorem Xq5(l:ae)(c:Int)(w:World)(h0:0≤c)(hc:c≤9223372036854775807)(hl:l.length*c.toNat≤140737488355328):
 Calls Tryz.prog 127 #[S l,.int .i64 c] w fun e w'=>e= .returned (S (repeatL l c.toNat))∧Below w.heap.size w w':=by
 obtain⟨c,rfl⟩:=Int.eq_ofNat_of_zero_le h0;have h:=Tryz.strings_Repeat ⟨l.toArray⟩ c w (by omega) (by rw[ByteArray.size_mk',List.size_toArray];simpa using hl);simpa using h
theorem Xmj(l:List ae):Lib.join l []=l.flatten:=by
 unfold Lib.join List.intercalate;induction l with
 |nil=>rfl
 |cons x l ih=>
  cases l with
  |nil=>rfl
  |cons y l=>rw[List.intersperse_cons_cons,List.flatten_cons,List.flatten_cons,ih,List.flatten_cons];rfl
theorem Xsx(b off cap:Nat)(l:List ae)(w:World)(hc:∀(j:Nat) x,l[j]?=some x→w.cell? ⟨b,off+j,none⟩=some (S x))(dO:l.length≤cap)(hb:b<w.heap.size)(hn:l.length≤1000000)(hl:l.flatten.length≤140737488355328):
 Calls Tryz.prog 140 #[.slice (some ⟨b,off,none⟩) l.length cap,S []] w fun e w'=>e= .returned (S l.flatten)∧Below w.heap.size w w':=by
 have hx:(l.map fun s=>(⟨s.toArray⟩:ByteArray)).map (·.data.toList)=l:=by
  rw[List.map_map];conv=>rhs;rw[←List.map_id l]
  apply List.map_congr_left;intro b _;simp
 have uO:Lib.join ((l.map fun s=>(⟨s.toArray⟩:ByteArray)).map (·.data.toList)) (⟨[].toArray⟩:ByteArray).data.toList=l.flatten:=by rw[hx];exact Xmj l
 have h:=Tryz.strings_Join b off cap (l.map fun s=>⟨s.toArray⟩) ⟨[].toArray⟩ w (fun j x hx=> ?_) hb (by rw[List.length_map];omega) (by rw[List.length_map];exact dO) (by rw[uO];exact hl)
 ·rw[uO,List.length_map]at h;exact h
 ·rw[List.getElem?_map]at hx;cases hlj:l[j]? with
  |none=>rw[hlj]at hx;simp at hx
  |some s=>
   rw[hlj]at hx;simp at hx;subst hx;exact hc j s hlj
def TQ(s:ae):Int:=Lib.lastIndexByte ⟨s.toArray⟩ 47
open Go.RowKit
def qy:List Int:=[bits .xor .u32 1779033703 16842784,3144134277,1013904242,2773480762,1359893119,2600822924,528734635,1541459225]
def hAt(s:ae):Nat→List Int
 |0=>qy
 |i+1=>dL (hAt s i) ((s.drop (64*i)).take 64) ((64*i+64:Nat):Int) false
theorem Pv(s:ae):∀i,(hAt s i).length=8
 |0=>rfl
 |_+1=>Nz ..
def lD(s:ae):Nat:=(s.length-1) / 64
def iI(s:ae):List Int:=dL (hAt s (lD s)) (s.drop (64*lD s)++List.replicate (64-(s.length-64*lD s)) 0) (s.length:Int) true
def tB:Ty Int:=Ty.flat 1 (fun x=> [.int .u8 x]) (fun _=>rfl) (fun _ u h=>by simp at h;subst h;rfl)
def iv(x:Int):List Int:=[x%256,x / 256%256,x / 65536%256,x / 16777216%256]
def iJ(G:List Int)(k:Nat):List Int:=(G.take k).flatMap iv
theorem Xq4(G:List Int)(k:Nat)(hk:k<G.length):iJ G (k+1)=iJ G k++iv (G.getD k 0):=by
 rw[iJ,iJ,List.take_succ_eq_append_getElem hk,List.flatMap_append];simp[List.getD,List.getElem?_eq_getElem hk]
theorem Xg1(G:List Int):∀k,(iJ G k).length≤4*k:=by
 intro k;have:∀L:List Int,(L.flatMap iv).length=4*L.length:=by
  intro L;induction L with
  |nil=>rfl
  |cons x L ih=>rw[List.flatMap_cons,List.length_append,ih];simp[iv];omega
 rw[iJ,this];simp;omega
theorem Xjg(I:IH)(x:Int):bS tB I [.int .u8 (x%256),.int .u8 (x / 256%256),.int .u8 (x / 65536%256),.int .u8 (x / 16777216%256)] (iv x):=
 (((bS.one (T:=tB) (I:=I) (x:=x%256) (cs:=[.int .u8 (x%256)]) rfl).append (bS.one (T:=tB) (x:=x / 256%256) (cs:=[.int .u8 (x / 256%256)]) rfl)).append (bS.one (T:=tB) (x:=x / 65536%256) (cs:=[.int .u8 (x / 65536%256)]) rfl)).append (bS.one (T:=tB) (x:=x / 16777216%256) (cs:=[.int .u8 (x / 16777216%256)]) rfl)
theorem Xuy{I:IH}{xs:List Value}{l:List Int}(h:bS tB I xs l)(j:Nat)(hj:j<l.length):xs[j]?=some (.int .u8 l[j]):=by
 obtain⟨cs,h1,h2⟩:=h.2 j hj;have e:cs=[.int .u8 l[j]]:=h1;subst e;have:=h2 0 _ rfl;rw[show j*tB.size+0=j by show j*1+0=j;omega]at this;exact this
theorem Xfw:∀(l:List Int) (a:ByteArray),List.foldl (fun r n=>r.push (UInt8.ofNat n.toNat)) a l=⟨a.data++(l.map fun x=>UInt8.ofNat x.toNat).toArray⟩
 | [],a=>by simp
 |x::l,a=>by
  rw[List.foldl_cons,Xfw l];apply ByteArray.ext;simp[ByteArray.push]
theorem Xpo(l:List Int):List.foldl (fun r n=>r.push (UInt8.ofNat n.toNat)) ByteArray.empty l=⟨(l.map fun x=>UInt8.ofNat x.toNat).toArray⟩:=by
 rw[Xfw];apply ByteArray.ext;show(#[]:Array UInt8)++_=_;simp
theorem WA{P:Program}{I:IH}{E src dst e:TypeId}{v:Value}{l:List Int}{B:Nat}(hs:P.underlying src=some (.slice e))(he:P.underlying e=some (.int .u8))(hd:P.underlying dst=some .string)(W:World)(h:aP tB E I W B v l)(hl:0<l.length):
 (convert src dst v).run P W= .ok (S (l.map fun x=>UInt8.ofNat x.toNat)) W:=by
 obtain⟨xs,⟨_,jU⟩,hL⟩:=h;rcases jU with⟨_,h0⟩|⟨g,cap,cur,rfl,_,hg,_,_,_,ht⟩
 ·omega
 ·rw[run_convert_bytes_string _ _ _ e _ _ _ hs he hd,run_bytesToString (ns:=l)]
  ·rw[Xpo]
  ·have hc:=run_loadCells_list (P:=P) W ⟨g,0,none⟩ (l.map fun x=>Value.int .u8 x) (fun j u hu=>by
    have hj:j<l.length:=by simpa using(List.getElem?_eq_some_iff.1 hu).1
    rw[Addr.add_lit,Nat.zero_add,cell_of_row _ _ _ _ _ _ hg];have h1:=Xuy hL j hj;rw[←ht,List.getElem?_take]at h1;split at h1
    ·rw[←Array.getElem?_toList,h1];simpa[hj]using hu
    ·cases h1)
   simpa using hc
def dM(s:ae):ae:=(iJ (iI s) 8).map fun x=>UInt8.ofNat x.toNat
theorem Pw:(Tryz.prog.info? 5).map (fun i=>(i.zero,i.size,i.bytes))=some (some (.int .u8 0),1,1):=by kernel_rfl
theorem Xwk:∃ZZ:Array Value,ZZ.size=32∧ ∀W,(Instr.makeSlice 69 (.int .i64 0) (.int .i64 32)).run Tryz.prog W= .ok (.slice (some ⟨W.heap.size,0,none⟩) 0 32) (W.alloc (.cells ZZ 5)):=by
 obtain⟨i,h1,h2,h3,h4⟩:=info_parts Pw;refine⟨madeCells (Value.int .u8 0).cells (32*i.size),by rw[size_madeCells,h3],fun W=> ?_⟩;exact run_make (P:=Tryz.prog) W 69 5 i _ Tryz.underlying69 h1 h2 .i64 .i64 0 32 (by omega) (by omega) (by rw[h4];omega) (by omega)
theorem Px:eZ Tryz.prog 69 5 tB 1:=eZ.of Tryz.underlying69 Pw rfl (by decide) rfl
theorem Xwl(b off cap:Nat)(l:List ae)(s:ae)(hl:l.flatten=s)(hs:s.length≤140737488355328)(w:World)(hc:∀(j:Nat) x,l[j]?=some x→w.cell? ⟨b,off+j,none⟩=some (S x))(dO:l.length≤cap)(xK:b<w.heap.size)(hn:l.length≤1000000):
 Calls Tryz.prog 84 #[.slice (some ⟨b,off,none⟩) l.length cap] w fun e w'=>e= .returned (S (dM s))∧Below w.heap.size w w':=by
 have Hj:=Qh (Xsx b off cap l w hc dO xK hn (by rw[hl];exact hs));rw[hl]at Hj;clear hc hl dO hn xK;go_enter Tryz.func84,Tryz.ntmps84
 go_wp2_with fail
 refine Hj.O.mono ?_;rintro e w0 ⟨rfl,lW⟩;clear Hj;go_wp2_with fail
 refine(Xja _).mono ?_;rintro e w1 ⟨rfl,Py⟩;have au:=lW.trans (Py.mono lW.size);clear lW Py;rw[show row fw=#[.int .u32 1779033703,.int .u32 3144134277,.int .u32 1013904242,.int .u32 2773480762,.int .u32 1359893119,.int .u32 2600822924,.int .u32 528734635,.int .u32 1541459225]from rfl];go_wp2_with fail
 obtain⟨B,mG⟩:∃B,w1.heap.size=B:=⟨_,rfl⟩;have wK:w.heap.size≤B:=by rw[←mG];exact au.size
 have bB:=Qh (show(w1.alloc (.cells (row qy) 192)).heap[B]?=some (.cells (row (hAt s 0)) 192 (0,0)) by rw[←mG];exact heap_alloc_new _ _);have GK:=Qh (show Below w.heap.size w (w1.alloc (.cells (row qy) 192))from au.alloc au.size _);rw[mG];clear au mG;obtain⟨L,hL⟩:∃L,lD s=L:=⟨_,rfl⟩;have hL':L=(s.length-1) / 64:=hL.symm;have HL:=Qh hL;clear hL;go_loopw [5] (fun s5 wr=> ∃i:Nat,i≤L∧s5= .int .i64 (64*(i:Int))∧Below w.heap.size w wr∧B<wr.heap.size∧wr.heap[B]?=some (.cells (row (hAt s i)) 192 (0,0))) (fun i _=>s.length-(intOf i).toNat)
 case atStart=>exact⟨0,Nat.zero_le _,rfl,GK.O,(by have:=bB.O;exact(Qg this)),bB.O⟩
 case round=>
  clear bB GK;obtain⟨i,hi,rfl,hb,qQ,hB⟩:=hrel;by_cases hlt:i<L
  ·have hlen:64*i+64<s.length:=by omega
   obtain⟨e0,e1,e2,e3,e4,e5,e6,e7,he⟩:=Kr (Pv s i);have He:=Qh he;rw[he]at hB;clear he;have d0:wr.cell? ⟨B,0,none⟩=some (.int .u32 e0):=(cell_of_row wr B 0 _ _ _ hB).trans rfl;have d1:wr.cell? ⟨B,1,none⟩=some (.int .u32 e1):=(cell_of_row wr B 1 _ _ _ hB).trans rfl;have d2:wr.cell? ⟨B,2,none⟩=some (.int .u32 e2):=(cell_of_row wr B 2 _ _ _ hB).trans rfl;have d3:wr.cell? ⟨B,3,none⟩=some (.int .u32 e3):=(cell_of_row wr B 3 _ _ _ hB).trans rfl;have d4:wr.cell? ⟨B,4,none⟩=some (.int .u32 e4):=(cell_of_row wr B 4 _ _ _ hB).trans rfl;have d5:wr.cell? ⟨B,5,none⟩=some (.int .u32 e5):=(cell_of_row wr B 5 _ _ _ hB).trans rfl;have d6:wr.cell? ⟨B,6,none⟩=some (.int .u32 e6):=(cell_of_row wr B 6 _ _ _ hB).trans rfl;have d7:wr.cell? ⟨B,7,none⟩=some (.int .u32 e7):=(cell_of_row wr B 7 _ _ _ hB).trans rfl;have z0:=frozen_of_row wr B 0 _ _ hB;have z1:=frozen_of_row wr B 1 _ _ hB;have z2:=frozen_of_row wr B 2 _ _ hB;have z3:=frozen_of_row wr B 3 _ _ hB;have z4:=frozen_of_row wr B 4 _ _ hB;have z5:=frozen_of_row wr B 5 _ _ hB;have z6:=frozen_of_row wr B 6 _ _ hB;have z7:=frozen_of_row wr B 7 _ _ hB;have HB:=Qh hB;clear hB;go_wp2_with fail
   have uN:IntKind.i64.wrap (64*(i:Int)+64)=64*(i:Int)+64:=IntWalk.i64_in _ (by omega);have zg:IntKind.u64.wrap (64*(i:Int)+64)=64*(i:Int)+64:=IntWalk.u64_in _ (by omega);have oP:(0:Int)≤64*(i:Int)+64:=by omega
   have BH:64*(i:Int)+64≤(s.length:Int):=by omega
   have Jp:(0:Int)≤64*(i:Int):=by omega
   have hw6:64*(i:Int)≤64*(i:Int)+64:=by omega
   have hw7:(64*(i:Int)+64).toNat=64*i+64:=by omega
   have hw8:(64*(i:Int)).toNat=64*i:=by omega
   have hw9:64*i+64-64*i=64:=by omega
   have nH:((s.drop (64*i)).take 64).length=64:=by simp;omega
   obtain⟨c0,c1,c2,c3,c4,c5,c6,c7,hc⟩:=Kr (Nz [e0,e1,e2,e3,e4,e5,e6,e7] ((s.drop (64*i)).take 64) (64*(i:Int)+64) false);have Hc:=Qh hc;clear hc;go_region_law (go_simp;go_at_call 142;refine(Xhd [e0,e1,e2,e3,e4,e5,e6,e7] rfl ((s.drop (64*i)).take 64) nH (64*(i:Int)+64) false _).mono ?_;rintro e w' ⟨rfl,sS⟩;rw[Hc.O,show row [c0,c1,c2,c3,c4,c5,c6,c7]=#[.int .u32 c0,.int .u32 c1,.int .u32 c2,.int .u32 c3,.int .u32 c4,.int .u32 c5,.int .u32 c6,.int .u32 c7]from rfl];have y0:w'.cell? ⟨B,0,none⟩=some (.int .u32 e0):=(sS.cell qQ).trans d0;have y1:w'.cell? ⟨B,1,none⟩=some (.int .u32 e1):=(sS.cell qQ).trans d1;have y2:w'.cell? ⟨B,2,none⟩=some (.int .u32 e2):=(sS.cell qQ).trans d2;have y3:w'.cell? ⟨B,3,none⟩=some (.int .u32 e3):=(sS.cell qQ).trans d3;have y4:w'.cell? ⟨B,4,none⟩=some (.int .u32 e4):=(sS.cell qQ).trans d4;have y5:w'.cell? ⟨B,5,none⟩=some (.int .u32 e5):=(sS.cell qQ).trans d5;have y6:w'.cell? ⟨B,6,none⟩=some (.int .u32 e6):=(sS.cell qQ).trans d6;have y7:w'.cell? ⟨B,7,none⟩=some (.int .u32 e7):=(sS.cell qQ).trans d7;have g0:w'.frozen? ⟨B,0,none⟩=false:=(sS.frozen qQ).trans z0;have g1:w'.frozen? ⟨B,1,none⟩=false:=(sS.frozen qQ).trans z1;have g2:w'.frozen? ⟨B,2,none⟩=false:=(sS.frozen qQ).trans z2;have g3:w'.frozen? ⟨B,3,none⟩=false:=(sS.frozen qQ).trans z3;have g4:w'.frozen? ⟨B,4,none⟩=false:=(sS.frozen qQ).trans z4;have g5:w'.frozen? ⟨B,5,none⟩=false:=(sS.frozen qQ).trans z5;have g6:w'.frozen? ⟨B,6,none⟩=false:=(sS.frozen qQ).trans z6;have g7:w'.frozen? ⟨B,7,none⟩=false:=(sS.frozen qQ).trans z7;have WB:=Qh sS;clear sS)
   have tJ:=(WB.O.block B qQ).trans HB.O;have hv:=heap_setCell (i:=7) c7 (heap_setCell (i:=6) c6 (heap_setCell (i:=5) c5 (heap_setCell (i:=4) c4 (heap_setCell (i:=3) c3 (heap_setCell (i:=2) c2 (heap_setCell (i:=1) c1 (heap_setCell (i:=0) c0 (tJ))))))));have dH:Below w.heap.size w w':=hb.drew.trans (WB.O.mono hb.size);have WC:=Below.setCell (Below.setCell (Below.setCell (Below.setCell (Below.setCell (Below.setCell (Below.setCell (Below.setCell (dH) (p:=⟨B,0,none⟩) wK (.int .u32 c0)) (p:=⟨B,1,none⟩) wK (.int .u32 c1)) (p:=⟨B,2,none⟩) wK (.int .u32 c2)) (p:=⟨B,3,none⟩) wK (.int .u32 c3)) (p:=⟨B,4,none⟩) wK (.int .u32 c4)) (p:=⟨B,5,none⟩) wK (.int .u32 c5)) (p:=⟨B,6,none⟩) wK (.int .u32 c6)) (p:=⟨B,7,none⟩) wK (.int .u32 c7);have aah:=WB.O.size;go_wp2;go_roundw;case rel=>exact⟨i+1,by omega,by go_num,WC,(by simp[World.setCell];simp at aah;omega),(by rw[hAt,He.O,show((64*i+64:Nat):Int)=64*(i:Int)+64 by omega,Hc.O];exact hv)⟩
   case measure=>simp[intOf];omega
  ·have OH:i=L:=by omega
   have CR:s.length≤64*i+64:=by omega
   have AB:64*i≤s.length:=by omega
   have uN:IntKind.i64.wrap (64-((s.length:Int)-64*(i:Int)))=64-((s.length:Int)-64*(i:Int)):=IntWalk.i64_in _ (by omega);have zg:IntKind.i64.wrap ((s.length:Int)-64*(i:Int))=(s.length:Int)-64*(i:Int):=IntWalk.i64_in _ (by omega);have oP:64*(i:Int)≤(s.length:Int):=by omega
   have BH:(0:Int)≤64*(i:Int):=by omega
   have Jp:(64*(i:Int)).toNat=64*i:=by omega
   obtain⟨c,aja⟩:∃c:Nat,(64:Int)-((s.length:Int)-64*(i:Int))=c:=⟨64-(s.length-64*i),by omega⟩;have Vj:c=64-(s.length-64*i):=by omega
   have HB:=Qh hB;clear hB;have Hie:=Qh (show lD s=i by rw[HL.O,OH]);have Hcn:=Qh Vj;have qW:c≤64:=by omega
   have Mv:(Lib.repeatL [0] (c:Int).toNat).length≤100:=by rw[Lib.repeatL_length];simp;omega
   have aai:(Lib.repeatL [0] c).length≤100:=by rw[Lib.repeatL_length];simp;omega
   clear OH hL' Vj hlt hi;go_wp2_with fail
   refine wp_region_quiet_below (by kernel_rfl) (by kernel_rfl) ?_;repeat(go_big_quiet_step ((exact Calls.regrown_of (Xq5 [0] c _ (by omega) (by omega) (by simp;omega)))))
   refine wpQuiet_nil ?_;intro w2 bg;have aF:Below (wr).heap.size (wr) w2:=by
    obtain⟨pq,rfl⟩:=bg;exact below_regrown _ _ _
   clear bg;obtain⟨PB,WE⟩:∃PB,List.take (s.length-64*i) (List.drop (64*i) s)++Lib.repeatL [0] c=PB:=⟨_,rfl⟩;rw[WE];have HPB:=Qh (show PB=s.drop (64*i)++List.replicate (64-(s.length-64*i)) 0 by rw[←WE,repeatL_one,List.take_of_length_le (by simp),Hcn.O]);have Pz:PB.length=64:=by rw[HPB.O];simp;omega
   clear WE Mv aai;have zw:=Pv s i;have tX:=Qh (show iI s=dL (hAt s i) PB (s.length:Int) true by rw[iI,Hie.O,HPB.O]);have IW:=(aF.block B qQ).trans HB.O;have fO:B<w2.heap.size:=by have:=aF.size;omega
   have I5:Below w.heap.size w w2:=hb.trans (aF.mono hb.size);generalize hAt s i=F at IW zw tX;have vv:(Tryz.prog.info? 192).map (·.size)=some (row F).size:=by rw[bD,zw];kernel_rfl
   have apG:IntKind.u64.wrap (s.length:Int)=(s.length:Int):=IntWalk.u64_in _ (by omega);clear aF HB;go_wp2_with (refine wpList_load_row rfl 192 _ rfl B rfl 192 (row F) (0,0) _ IW Tryz.underlying192 rfl vv ?_)
   refine(Xhd F zw PB Pz (s.length:Int) true _).mono ?_;rintro e w3 ⟨rfl,cO⟩;rw[←tX.O];have GL:(iI s).length=8:=Nz ..;obtain⟨G,hG⟩:∃G,iI s=G:=⟨_,rfl⟩;have HG:=Qh hG;rw[hG]at GL ⊢;clear hG;have hB3:=(cO.block B fO).trans IW;have wQ:B<w3.heap.size:=by have:=cO.size;omega
   have PC:Below w.heap.size w w3:=I5.trans (cO.mono I5.size);have PE:(Tryz.prog.info? 192).map (·.size)=some (row G).size:=by rw[bD,GL];kernel_rfl
   have GA:(row F).size=(row G).size:=by rw[bD,bD,zw,GL]
   have GC:(row G).all (·.oneCell')=true:=by simp[row,Value.oneCell']
   clear cO tX;go_upto_region 10 with(refine wpList_store_row rfl 192 _ _ rfl B (row G) rfl rfl 192 (row F) hB3 PE GA GC ?_)
   have hB4:(w3.setRow B (row G)).heap[B]?=some (.cells (row G) 192 (0,0)):=setRow_heap _ _ _ _ _ _ hB3;have GM:Below w.heap.size w (w3.setRow B (row G)):=below_setRow PC wK _;have dF:B<(w3.setRow B (row G)).heap.size:=by simpa using wQ
   generalize w3.setRow B (row G)=w4 at hB4 GM dF;clear hB3 PC wQ;obtain⟨ZZ,hZZ,iO⟩:=Xwk;have hB5:(w4.alloc (.cells ZZ 5)).heap[B]?=some (.cells (row G) 192 (0,0)):=(Below.heap_alloc _ _ _ dF).trans hB4;go_wp2_with (refine wpList_load_row rfl 192 _ rfl B rfl 192 (row G) (0,0) _ hB5 Tryz.underlying192 rfl PE ?_)
   have Dy:w.heap.size≤w4.heap.size:=GM.size;have bB:=Qh (show aP tB 5 (fun _=>none) (w4.alloc (.cells ZZ 5)) w4.heap.size (.slice (some ⟨w4.heap.size,0,none⟩) 0 32) []from⟨[],World.ownsRow_made w4 ZZ 32 (Qn _) (by decide) (by rw[hZZ];rfl),bS.nil _ _⟩);have GK:=Qh (GM.alloc Dy (.cells ZZ 5));obtain⟨B0,GN⟩:∃B0,w4.heap.size=B0:=⟨_,rfl⟩;have jZ:B0≤(w4.alloc (.cells ZZ 5)).heap.size:=by simp;omega
   rw[GN]at Dy bB ⊢;clear hB4 hB5 GM dF iO;go_loopw [7,58] (fun s7 s58 wr=> ∃k:Nat,k≤8∧s58= .int .i64 k∧aP tB 5 (fun _=>none) wr B0 s7 (iJ G k)∧Below w.heap.size w wr∧B0≤wr.heap.size) (fun _ k _=>8-(intOf k).toNat)
   case atStart=>exact⟨0,Nat.zero_le _,rfl,bB.O,GK.O,jZ⟩
   case round=>
    clear bB GK jZ;obtain⟨k,hk,rfl,bE,Vh,PG⟩:=hrel;by_cases iX:k<8
    ·have AO:=V5 (P:=Tryz.prog) Tryz.underlying192 Tryz.underlying41 rfl (by kernel_rfl) k iX (oV (l:=G) (i:=k) (by omega));have FR:=Qh (Xq4 G k (by omega));have Dr:=Xg1 G k;generalize G.getD k 0=x at AO FR;have hwl:(iv x).length=4:=rfl;have iH:=Xjg (fun _=>none) x;go_wp2_with (at_builtin;refine Xje (w0:=wr) Px rfl _ _ rfl _ _ _ rfl bE (iv x) [.int .u8 (x%256),.int .u8 (x / 256%256),.int .u8 (x / 65536%256),.int .u8 (x / 16777216%256)] _ rfl iH (by rw[hwl];omega) (by rw[hwl];omega) (by rw[hwl];omega) PG ?_)
     intro v5 w5 gY hg5;have bq:=Below.own Vh hg5 bE Dy PG;have jZ:=hg5.size;go_wp2;go_roundw;case rel=>exact⟨k+1,by omega,by go_num,by rw[FR.O];exact gY,bq,by omega⟩
     case measure=>simp[intOf];omega
    ·have nK:k=8:=by omega
     have WG:=Qh (show(iJ G k).map (fun x=>UInt8.ofNat x.toNat)=dM s by rw[dM,HG.O,nK]);have vN:0<(iJ G k).length:=by rw[nK];match G,GL with|_::_,_=>simp[iJ,iv]
     have OI:=WA (P:=Tryz.prog) Tryz.underlying69 Tryz.underlying5 Tryz.underlying9 _ bE vN;rw[WG.O]at OI;clear bE vN nK;go_wp2;go_ret;exact⟨rfl,Vh⟩
structure bR where
 num:Int
 aN:Int
 aW:ae
 ay:List aG
 aH:ae
 sl:ae
def dD(e:aG):ae:=aS (bO e.ai)++aS e.af++u7 e.ag++aS e.target
def vT(l:List Xt):ae:=l.flatMap fun x=>aY x.s++aY x.o++aY x.n
def yD(e:aG):ae:=aS (dD e)++aY e.size++aS e.aj++aY e.ak.length++vT e.ak
def qz(s:bR):ae:=aY s.num++aY s.aN++aS s.aW++(aY s.aH.length++aS (dM s.aH)++aY s.ay.length)
def kY(s:bR):ae:=qz s++s.ay.flatMap yD
def iK(s:bR):Int:=if s.num<1∨255<s.num∨s.aN<0∨1000000000<s.aN then 2 else if s.aW≠[]∧s.aW.length≠32 then 1 else 0
def fA:List aG→Int
 | []=>0
 |e::l=>if az e≠0 then az e else fA l
def dN(s:bR):Int:=if iK s≠0 then iK s else if 14680064<s.aH.length∨400<s.ay.length then 6 else if fA s.ay≠0 then fA s.ay else if 2000<s.sl.length then 6 else 0
def eD(s:bR):ae×Int:=if dN s≠0 then([],dN s)else(dM (kY s),0)
theorem Xm4{s:bR}(h:(eD s).2=0):dN s=0∧(eD s).1=dM (kY s):=by
 unfold eD at*;split at h
 ·contradiction
 ·rename_i k;rw[if_neg k];exact⟨by omega,rfl⟩
theorem WH:∀{l:List aG},fA l=0→ ∀e∈l,az e=0
 | [],_,e,he=>by cases he
 |x::l,h,e,he=>by
  unfold fA at h;split at h
  ·contradiction
  ·rename_i k;rcases List.mem_cons.1 he with rfl|he
   ·omega
   ·exact WH h e he
theorem PH{s:bR}(h:dN s=0):iK s=0∧s.aH.length≤14680064∧s.ay.length≤400∧fA s.ay=0∧s.sl.length≤2000:=by
 unfold dN at h;split at h
 ·contradiction
 ·split at h
  ·omega
  ·split at h
   ·contradiction
   ·split at h
    ·omega
    ·rename_i k1 k2 k3 k4;exact⟨by omega,by omega,by omega,by omega,by omega⟩
theorem TR{s:bR}(h:iK s=0):1≤s.num∧s.num≤255∧0≤s.aN∧s.aN≤1000000000∧(s.aW=[]∨s.aW.length=32):=by
 unfold iK at h;split at h
 ·omega
 ·split at h
  ·omega
  ·rename_i k1 k2;refine⟨by omega,by omega,by omega,by omega,?_⟩;by_cases hp:s.aW=[]
   ·exact .inl hp
   ·exact .inr (Classical.byContradiction fun q=>k2 ⟨hp,q⟩)
structure jI where
 aI:List aG
 holds:List Ho
def mH(s:jI)(e:aG)(d:Int):Int:=if 3<e.ai∨(dS s.aI e.af).isSome=true then kv s.holds e.ai e.af d else 0
def dY(s:jI)(e:aG)(d:Int):jI×Int:=
 if(bM s.aI e).2≠0 then(s,(bM s.aI e).2)
 else if mH s e d≠0 then(s,mH s e d)
 else if(appH s.holds e d).2≠0 then(s,(appH s.holds e d).2)
 else(⟨(bM s.aI e).1,(appH s.holds e d).1⟩,0)
def lF:jI:=⟨[],[]⟩
def vz(s:jI)(d:Int)(l:List aG):jI:=l.foldl (fun s e=>(dY s e d).1) s
def rf(s:jI)(l:List bR):jI:=l.foldl (fun s x=>vz s x.aN x.ay) s
structure BU (n:Nat) (s:jI):Prop where
 aI:FM s.aI
 holds:tN s.holds
 BX:s.aI.length≤n
 hlen:s.holds.length≤n
theorem Xrv:BU 0 lF:=⟨(Xuf []).1 rfl,Xs3,Qn _,Qn _⟩
theorem BU.mono{n m:Nat}{s:jI}(h:BU n s)(hm:n≤m):BU m s:=⟨h.aI,h.holds,Nat.le_trans h.BX hm,Nat.le_trans h.hlen hm⟩
theorem PI{t:List aG}{e:aG}(h:(bM t e).2=0):bM t e=((bM t e).1,0):=Prod.ext rfl h
theorem WI{n:Nat}{s:jI}(h:BU n s)(e:aG)(d:Int):BU (n+1) (dY s e d).1:=by
 unfold dY;split
 ·exact h.mono (by omega)
 ·rename_i h1;split
  ·exact h.mono (by omega)
  ·split
   ·exact h.mono (by omega)
   ·have ha:=PI (t:=s.aI) (e:=e) (by omega);obtain⟨Mw,hx⟩:=lv.1 ha;have hl:=Xxf s.aI e;have hh:appH s.holds e d=((appH s.holds e d).1,(appH s.holds e d).2):=rfl;refine⟨Xul h.aI ha,Xyp h.holds Mw.dm hh,?_,?_⟩
    ·rw[hx];have:=h.BX;show(Gv s.aI e).length≤_;omega
    ·have:=Xwr hh;have:=h.hlen;show(appH s.holds e d).1.length≤_;omega
theorem WJ:∀(l:List aG) {n:Nat} {s:jI} (_:BU n s) (d:Int),BU (n+l.length) (vz s d l)
 | [],_,_,h,_=>h
 |e::l,n,s,h,d=>by
  have:=WJ l (WI h e d) d;exact this.mono (by simp;omega)
def mU(l:List bR)(x:Xt):Bool:=x.s==0 || (decide (x.s≤l.length)&&decide (x.o+x.n≤((l[(x.s-1).toNat]?).map fun s=>(s.aH.length:Int)).getD 0))
def gP(l:List bR)(e:aG):Bool:=e.ak.all (mU l)
def ib(l:List bR)(d:Int):jI→List aG→jI×Int
 |s,[]=>(s,0)
 |s,e::es=>if(dY s e d).2≠0 then((dY s e d).1,(dY s e d).2)else if gP l e=false then((dY s e d).1,2)else ib l d (dY s e d).1 es
def eO(l:List bR):Nat→jI→ae→Int→List bR→Int
 |_,_,_,_,[]=>0
 |i,s,aW,aN,x::xs=>
  if(eD x).2≠0 then(eD x).2
  else if x.num≠i+1∨x.aN<aN then 14
  else if x.aW≠aW then 20
  else if(ib (l.take (i+1)) x.aN s x.ay).2≠0 then(ib (l.take (i+1)) x.aN s x.ay).2
  else eO l (i+1) (ib (l.take (i+1)) x.aN s x.ay).1 (eD x).1 x.aN xs
def wX(l:List bR):Int:=eO l 0 lF [] 0 l
structure FT where
 s:Int
 d:Int
 e:aG
def D9(s:jI)(p:ae)(e:aG):Bool:=(decide (e.ai≤3)&&e.af==p) || (e.ai==4&&(dS s.aI p).isSome&&under p e.af)
def PK(num d:Int)(p:ae):jI→List aG→List FT
 |_,[]=> []
 |s,e::es=>(if D9 s p e then [⟨num,d,e⟩]else [])++PK num d p (dY s e d).1 es
def Bh(p:ae):jI→List bR→List FT
 |_,[]=> []
 |s,x::xs=>PK x.num x.aN p s x.ay++Bh p (vz s x.aN x.ay) xs
def ajf(l:List bR)(p:ae):List FT:=Bh p lF l
def oZ(d:Int):List bR→Nat
 | []=>0
 |x::l=>if d<x.aN then 0 else oZ d l+1
abbrev Rd(α:Type):=Except Int (α×Nat)
def Rb{β γ:Type}(r:Except Int β)(f:β→Except Int γ):Except Int γ:=match r with| .error e=> .error e| .ok x=>f x
@[simp] theorem dJ {β γ:Type} (e:Int) (f:β→Except Int γ):Rb (.error e) f= .error e:=rfl
@[simp] theorem aR {β γ:Type} (x:β) (f:β→Except Int γ):Rb (.ok x) f=f x:=rfl
def upTo(s:ae)(a:Nat)(c:UInt8):ae:=(s.drop a).takeWhile (fun x=>x !=c)
def dK(s:ae)(a:Nat)(c:UInt8):Rd ae:=
 if s.length<a then .error 1 else if a+(upTo s a c).length<s.length then .ok (upTo s a c,a+(upTo s a c).length+1)else .error 4
def jm(t:ae):Bool:=!t.isEmpty&&t.all iw&&(t.length==1 || t.head? !=some 48)
def nu(t:ae):Bool:=t.head?==some 45
def kZ(t:ae):ae:=if nu t=true then t.tail else t
def iA(t:ae):Bool:=jm (kZ t)&& !(nu t&&dW 0 (kZ t)==0)
def pK(t:ae):Int:=if nu t=true then -(dW 0 (kZ t):Int)else(dW 0 (kZ t):Int)
def numOf(t:ae)(n:Nat):Rd Int:=if iA t=false then .error 3 else if pK t< -2147483648∨2147483647<pK t then .error 2 else .ok (pK t,n)
def strOf(s t:ae)(n:Nat):Rd ae:=if jm t=false then .error 3 else if s.length-n≤dW 0 t then .error 4 else if s.getD (n+dW 0 t) 0≠44 then .error 3 else .ok ((s.drop n).take (dW 0 t),n+dW 0 t+1)
def rdNum(s:ae)(a:Nat):Rd Int:=Rb (dK s a 32) fun p=>numOf p.1 p.2
def rdStr(s:ae)(a:Nat):Rd ae:=Rb (dK s a 58) fun p=>strOf s p.1 p.2
def ik(most:Int)(s:ae)(a:Nat):Rd Int:=Rb (rdNum s a) fun p=>if p.1<0∨most<p.1 then .error 2 else .ok p
def jo(s:ae):Nat→Nat→List At→Rd (List At)
 |0,a,acc=> .ok (acc,a)
 |n+1,a,acc=>Rb (rdStr s a) fun p=>Rb (rdStr s p.2) fun q=>jo s n q.2 (acc++[⟨p.1,q.1⟩])
def jq(s:ae):Nat→Nat→List Xt→Rd (List Xt)
 |0,a,acc=> .ok (acc,a)
 |n+1,a,acc=>Rb (rdNum s a) fun p=>Rb (rdNum s p.2) fun q=>Rb (rdNum s q.2) fun r=>jq s n r.2 (acc++[⟨p.1,q.1,r.1⟩])
def kindOf(n:ae):Int:=if n=bO 1 then 1 else if n=bO 2 then 2 else if n=bO 3 then 3 else if n=bO 4 then 4 else if n=bO 5 then 5 else if n=bO 6 then 6 else 0
def Ea(nm p:ae)(l:List At)(t:ae):aG:=⟨kindOf nm,p,l,t,0,[],[]⟩
def eF(h:ae):Except Int aG:=
 Rb (rdStr h 0) fun nm=>if kindOf nm.1=0 then .error 3 else
 Rb (rdStr h nm.2) fun p=>Rb (ik 400 h p.2) fun n=>Rb (jo h n.1.toNat n.2 []) fun l=>Rb (rdStr h l.2) fun t=>
 if t.2≠h.length then .error 3 else .ok (Ea nm.1 p.1 l.1 t.1)
def bU(e:aG)(sz:Int)(dg:ae)(l:List Xt):aG:={e with size:=sz,aj:=dg,ak:=l}
def kz(e:aG)(g:Nat):Rd aG:=if az e≠0 then .error (az e)else .ok (e,g)
def jJ(s:ae)(a:Nat):Rd aG:=
 Rb (rdStr s a) fun h=>Rb (eF h.1) fun e=>Rb (rdNum s h.2) fun z=>Rb (rdStr s z.2) fun d=>Rb (ik 65536 s d.2) fun n=>Rb (jq s n.1.toNat n.2 []) fun l=>
 kz (bU e z.1 d.1 l.1) l.2
theorem Xus(s:ae)(a:Nat)(c:UInt8):(upTo s a c).length≤s.length-a:=by
 have:=(List.takeWhile_prefix (fun x=>x !=c) (l:=s.drop a)).length_le;rw[List.length_drop]at this;exact this
theorem PL{s t:ae}{a n:Nat}{c:UInt8}(h:dK s a c= .ok (t,n)):a<n∧n≤s.length∧t.length<s.length∧t=upTo s a c∧n=a+t.length+1:=by
 unfold dK at h;split at h
 ·cases h
 ·rename_i k;split at h
  ·rename_i k2;injection h with h
   injection h with h1 h2
   subst h1;subst h2;exact⟨by omega,by omega,by omega,rfl,rfl⟩
  ·cases h
theorem GQ{s:ae}{a n:Nat}{x:Int}(h:rdNum s a= .ok (x,n)):a<n∧n≤s.length∧ -2147483648≤x∧x≤2147483647:=by
 unfold rdNum at h;cases hu:dK s a 32 with
 |error e=>rw[hu]at h;cases h
 |ok p=>
  obtain⟨t,m⟩:=p;rw[hu,aR]at h;have he:=PL hu;unfold numOf at h;split at h
  ·cases h
  ·split at h
   ·cases h
   ·injection h with h
    injection h with h1 h2
    subst h1;subst h2;omega
theorem BZ{s x:ae}{a n:Nat}(h:rdStr s a= .ok (x,n)):a<n∧n≤s.length∧x.length<s.length:=by
 unfold rdStr at h;cases hu:dK s a 58 with
 |error e=>rw[hu]at h;cases h
 |ok p=>
  obtain⟨t,m⟩:=p;rw[hu,aR]at h;have he:=PL hu;unfold strOf at h;split at h
  ·cases h
  ·split at h
   ·cases h
   ·split at h
    ·cases h
    ·injection h with h
     injection h with h1 h2
     subst h1;subst h2;rw[List.length_take,List.length_drop];dsimp only at*;omega
theorem TS{most:Int}{s:ae}{a n:Nat}{x:Int}(h:ik most s a= .ok (x,n)):a<n∧n≤s.length∧0≤x∧x≤most:=by
 unfold ik at h;cases hu:rdNum s a with
 |error e=>rw[hu]at h;cases h
 |ok p=>
  obtain⟨t,m⟩:=p;rw[hu,aR]at h;have he:=GQ hu;split at h
  ·cases h
  ·injection h with h
   injection h with h1 h2
   subst h1;subst h2;dsimp only at*;omega
theorem Xt6:∀(l:ae) (a:Nat),a≤dW a l
 | [],_=>Qn _
 |c::l,a=>by
  have:=Xt6 l (10*a+(c.toNat-48));show a≤dW (10*a+(c.toNat-48)) l;omega
theorem Xl4:∀(l:ae) (acc:Nat),l.all iw=true→acc<18446744073709551616→Lib.parseUint10 acc l=if dW acc l<18446744073709551616 then .ok (dW acc l)else .range
 | [],acc,_,h=>by show Lib.NumEnd.ok acc=_;rw[if_pos (show dW acc []<_ from h)];rfl
 |c::l,acc,h,hb=>by
  rw[List.all_cons,Bool.and_eq_true]at h;have hc:=FN h.1;have he:dW acc (c::l)=dW (acc*10+(c.toNat-48)) l:=by rw[Nat.mul_comm];rfl
  have hg:=Xt6 l (acc*10+(c.toNat-48));rw[Lib.parseUint10,if_pos hc,he];split
  ·rw[if_neg (by omega)]
  ·split
   ·rw[if_neg (by omega)]
   ·exact Xl4 l _ h.2 (by omega)
theorem Xxi{l:ae}(h:jm l=true):Lib.parseMag l=if dW 0 l<18446744073709551616 then .ok (dW 0 l)else .range:=by
 unfold jm at h;simp only[Bool.and_eq_true]at h;unfold Lib.parseMag;rw[if_neg (by have:=h.1.1;cases l<;>simp_all)];exact Xl4 l 0 h.1.2 (by omega)
theorem Xjy{l:ae}(h:jm l=true):∃c r,l=c::r∧48≤c.toNat∧c.toNat≤57:=by
 unfold jm at h;cases l with
 |nil=>simp at h
 |cons c r=>
  simp only[Bool.and_eq_true,List.all_cons]at h;exact⟨c,r,rfl,FN h.1.2.1⟩
theorem Xma{l:ae}(h:jm l=true):nu l=false:=by
 obtain⟨c,r,rfl,h1,h2⟩:=Xjy h;unfold nu;have:c≠45:=fun e=>by subst e;have:(45:UInt8).toNat=45:=rfl;omega
 simpa using this
theorem TT{t:ae}:jm t=(iA t&& !nu t):=by
 unfold iA kZ;cases hn:nu t
 ·simp
 ·have:jm t=false:=by
   cases h:jm t with
   |false=>rfl
   |true=>rw[Xma h]at hn;cases hn
  simp[this]
theorem WK{t:ae}(h:jm t=true):pK t=dW 0 t:=by
 unfold pK kZ;rw[Xma h];simp
theorem Xqk{t:ae}(h:iA t=true):(∃n,Lib.atoiAll t= .ok n∧n=pK t)∨(Lib.atoiAll t= .range∧(pK t< -9223372036854775808∨9223372036854775807<pK t)):=by
 unfold iA at h;rw[Bool.and_eq_true]at h;have hm:=Xxi h.1;have c45:(45:UInt8).toNat=45:=rfl;cases t with
 |nil=>simp[kZ,nu,jm]at h
 |cons c r=>
  by_cases hn:c=45
  ·subst hn;have hneg:nu (45::r)=true:=rfl;have Jq:kZ (45::r)=r:=rfl;rw[Jq]at hm;unfold Lib.atoiAll;simp only[c45,or_true,if_true,hm];unfold pK;rw[hneg,Jq];simp only[if_true];by_cases hb:dW 0 r<18446744073709551616
   ·rw[if_pos hb];by_cases hc:9223372036854775808<dW 0 r
    ·right;simp[hc];omega
    ·left;simp[hc]
   ·rw[if_neg hb];right;exact⟨rfl,by omega⟩
  ·have hneg:nu (c::r)=false:=by unfold nu;simpa using hn
   have Jq:kZ (c::r)=c::r:=by unfold kZ;rw[hneg];rfl
   rw[Jq]at hm h;obtain⟨c',r',e,k1,k2⟩:=Xjy h.1;injection e with e1 e2
   subst e1;unfold Lib.atoiAll;dsimp only;rw[if_neg (show ¬(c.toNat=43∨c.toNat=45) by omega),hm];unfold pK;rw[hneg,Jq];simp only[show ¬c.toNat=45 by omega,not_false_eq_true,true_and,false_and,if_false,Bool.false_eq_true];by_cases hb:dW 0 (c::r)<18446744073709551616
   ·rw[if_pos hb];by_cases hc:9223372036854775808≤dW 0 (c::r)
    ·right;simp[hc];omega
    ·left;simp[hc]
   ·rw[if_neg hb];right;exact⟨rfl,by omega⟩
def PM(a:Nat):Nat:=if 1099511627776<a then 1099511627776 else a
def WL(acc:Nat)(l:ae):Nat:=l.foldl (fun n c=>PM (10*n+(c.toNat-48))) acc
theorem Xfk{c:UInt8}:∀{t r:ae},(∀x∈t,x≠c)→(t++c::r).takeWhile (fun x=>x !=c)=t
 | [],r,_=>by simp
 |x::t,r,h=>by
  rw[List.cons_append,List.takeWhile_cons,if_pos (by simpa using h x (by simp)),Xfk (fun y hy=>h y (by simp[hy]))]
theorem Xju{x t r:ae}{c:UInt8}(h:∀y∈t,y≠c):dK (x++(t++c::r)) x.length c= .ok (t,x.length+t.length+1):=by
 have hu:upTo (x++(t++c::r)) x.length c=t:=by
  unfold upTo;rw[List.drop_left];exact Xfk h
 unfold dK;rw[hu,if_neg (by simp),if_pos (by simp)]
theorem WM(n:Nat):jm (Lib.decDigits n)=true:=by
 obtain⟨h1,h2,h3,h4,h5⟩:=Nt n;unfold jm;rw[h1];have:(Lib.decDigits n).isEmpty=false:=by cases hd:Lib.decDigits n<;>simp_all
 rw[this];by_cases JU:10≤n
 ·have:=h4 JU;simp[this]
 ·have e:Lib.decDigits n=[UInt8.ofNat (48+n)]:=by rw[Lib.decDigits,dif_pos (by omega)]
  rw[e];rfl
theorem WN{c:UInt8}(hc:c.toNat<48∨57<c.toNat)(n:Nat):∀x∈Lib.decDigits n,x≠c:=fun x hx e=>by
 have:=List.all_eq_true.1 (Nt n).1 x hx;have:=FN this;subst e;omega
theorem Xpu(n:Nat):Lib.itoa (n:Int)=Lib.decDigits n:=by
 unfold Lib.itoa;rw[if_neg (by omega),Int.toNat_natCast]
theorem Xsf(x s r:ae):rdStr (x++(aS s++r)) x.length= .ok (s,x.length+(aS s).length):=by
 have e:x++(aS s++r)=x++(Lib.decDigits s.length++58::(s++44::r)):=by simp[aS,Xpu]
 have hl:(aS s).length=(Lib.decDigits s.length).length+s.length+2:=by simp[aS,Xpu];omega
 have hd:dW 0 (Lib.decDigits s.length)=s.length:=(Nt _).2.2.1;rw[hl,e,rdStr,Xju (WN (.inr (by decide)) _),aR,strOf,WM,hd];dsimp only;obtain⟨y,hy⟩:∃y,x++Lib.decDigits s.length++[58]=y:=⟨_,rfl⟩;have Vk:x.length+(Lib.decDigits s.length).length+1=y.length:=by rw[←hy];simp;omega
 have e2:x++(Lib.decDigits s.length++58::(s++44::r))=y++(s++44::r):=by rw[←hy];simp
 rw[e2,Vk,if_neg (by simp),if_neg (by simp),if_neg ?_,List.drop_left,List.take_left]
 ·rw[←Vk];congr 2;omega
 ·simp[List.getD,List.getElem?_append]
theorem Xsh(x r:ae)(n:Int)(h0: -2147483648≤n)(h1:n≤2147483647):rdNum (x++(aY n++r)) x.length= .ok (n,x.length+(aY n).length):=by
 have e:x++(aY n++r)=x++(Lib.itoa n++32::r):=by simp[aY]
 have hl:(aY n).length=(Lib.itoa n).length+1:=by simp[aY]
 have OG:=Nt n.natAbs;have zh:∀y∈Lib.itoa n,y≠32:=by
  intro y hy;unfold Lib.itoa at hy;split at hy
  ·rcases List.mem_cons.1 hy with rfl|hy
   ·decide
   ·exact WN (.inl (by decide)) _ y hy
  ·exact WN (.inl (by decide)) _ y hy
 rw[hl,e,rdNum,Xju zh,aR];dsimp only;have hv:iA (Lib.itoa n)=true∧pK (Lib.itoa n)=n:=by
  unfold Lib.itoa;split
  ·rename_i hn;have hneg:nu (45::Lib.decDigits n.natAbs)=true:=rfl;have Jq:kZ (45::Lib.decDigits n.natAbs)=Lib.decDigits n.natAbs:=rfl;constructor
   ·unfold iA;rw[hneg,Jq,WM,OG.2.2.1];simp;omega
   ·unfold pK;rw[hneg,Jq,OG.2.2.1];simp;omega
  ·rename_i hn;have e2:n.toNat=n.natAbs:=by omega
   have zT:jm (Lib.decDigits n.natAbs)=true:=WM _;constructor
   ·have:= @TT (Lib.decDigits n.natAbs);rw[zT]at this
    first
     |(rw[e2];simp_all)
     |simp_all
   ·first
     |(rw[e2,WK zT,OG.2.2.1];omega)
     |(rw[WK zT,OG.2.2.1];omega)
 unfold numOf;rw[hv.1,hv.2,if_neg (by simp),if_neg (by omega),Nat.add_assoc]
theorem Xg5(c:UInt8):∀l:ae,Lib.indexByte l c=if(l.takeWhile (fun x=>x !=c)).length<l.length then(((l.takeWhile (fun x=>x !=c)).length:Nat):Int)else -1
 | []=>rfl
 |x::l=>by
  rw[Lib.indexByte,List.takeWhile_cons];by_cases h:x=c
  ·subst h;simp
  ·have e1:(x==c)=false:=by simpa using h
   have e2:(x !=c)=true:=by simpa using h
   rw[e1,e2];simp only[Bool.false_eq_true,if_false,if_true];rw[Xg5 c l,List.length_cons,List.length_cons];generalize(l.takeWhile (fun x=>x !=c)).length=n;generalize l.length=m;by_cases k:n<m
   ·have e3:(((n:Nat):Int)== -1)=false:=by
     have:((n:Nat):Int)≠ -1:=by omega
     simpa using this
    rw[if_pos k,e3,if_neg (by simp),if_pos (by omega)];simp
   ·rw[if_neg k,if_pos (show((-1:Int)== -1)=true from rfl),if_neg (by omega)]
theorem Xrq(s:ae):Lib.trimPrefix s [45]=kZ s:=by
 unfold Lib.trimPrefix Lib.hasPrefix kZ nu;cases s with
 |nil=>rfl
 |cons c r=>
  by_cases h:c=45
  ·subst h;simp[List.isPrefixOf]
  ·have h2:¬(45:UInt8)=c:=fun e=>h e.symm;simp[List.isPrefixOf,h,h2]
theorem Xoy(s:ae):iA s=(!(kZ s).isEmpty&&((kZ s).all iw&&((kZ s).head? !=some 48 || s==[48]))):=by
 unfold iA jm;cases hm:kZ s with
 |nil=>rfl
 |cons c r=>
  cases ha:(c::r).all iw with
  |false=>simp[ha]
  |true=>
   by_cases hc:c=48
   ·subst hc;have hneg:nu s=true→s≠[48]:=by
     intro h e;rw[e]at h;cases h
    by_cases hn:nu s=true
    ·have h1:=hneg hn;cases r with
     |nil=>simp[hn,h1,dW]
     |cons d r=>simp[hn,h1]
    ·have hn':nu s=false:=by simpa using hn
     have hs:s=48::r:=by
      unfold kZ at hm;rw[if_neg hn]at hm;exact hm
     rw[hn',hs];cases r with
     |nil=>rfl
     |cons d r=>simp
   ·have JU:10^r.length≤dW 0 (c::r):=VP ha hc;have h1:1≤10^r.length:=Nat.pos_of_ne_zero (by simp);have h0:(dW 0 (c::r)==0)=false:=by simp;omega
    have h2:(some c !=some (48:UInt8))=true:=by simpa using hc
    rw[h0];simp[h2]
def jw:Ty Ho:=Ty.flat 2 (fun x=> [S x.p,.int .i64 x.u]) (fun _=>rfl) (fun _ u h=>by simp at h;rcases h with rfl|rfl<;>rfl)
theorem yE{I:IH}{v:Value}{l:List Ho}{w:World}(h:bf jw I v l)(hw:Ok I w)(i:Nat)(hi:i<l.length):∃x b off cap,l[i]=x∧v= .slice (some ⟨b,off,none⟩) l.length cap∧
 w.cell? ⟨b,off+i*2,none⟩=some (S x.p)∧w.cell? ⟨b,off+i*2+1,none⟩=some (.int .i64 x.u):=by
 obtain⟨b,off,cap,cs,hv,iU,hc⟩:=h.at_ hw hi;have lN:cs=[S l[i].p,.int .i64 l[i].u]:=iU;subst lN;exact⟨_,b,off,cap,rfl,hv,hc 0 _ rfl,hc 1 _ rfl⟩
theorem TU:(Tryz.prog.info? 184).map (fun i=>(i.zero,i.size,i.bytes))=some (some (.agg #[.string ⟨#[]⟩,.int .i64 0]),2,24):=by kernel_rfl
theorem Bi:eZ Tryz.prog 90 184 jw 24:=eZ.of Tryz.underlying90 TU rfl (by decide) rfl
abbrev KD(x:Ho):Value:= .agg #[S x.p,.int .i64 x.u]
def rX(g:Nat)(cb:Array Value)(l:List Ho)(p:Ho→Bool)(C:World→Prop):Prop:=
 ∀x∈l,∀W:World,C W→Calls Tryz.prog g (#[KD x]++cb) W fun e w'=>e= .returned (.bool (p x))∧Below W.heap.size W w'
theorem WO(f:Ho→Bool){a:List Ho}{k:Nat}(hk:k<a.length){x:Ho}(hx:a[k]=x):(a.take (k+1)).filter f=(a.take k).filter f++(if f x=true then [x]else []):=by
 rw[List.take_succ_eq_append_getElem hk,hx,List.filter_append];cases h:f x<;>simp[h]
theorem WQ{α:Type}{T U:List α}{c:Bool}{p:α}(h:T=U++(if c=true then [p]else []))(hc:c=true):T=U++[p]:=by rw[h,if_pos hc]
theorem WR{α:Type}{T U:List α}{c:Bool}{p:α}(h:T=U++(if c=true then [p]else []))(hc:c=false):T=U:=by rw[h,hc,if_neg (by simp),List.append_nil]
theorem aP.rY{α:Type}{T:Ty α}{E:TypeId}{I:IH}{w:World}{B:Nat}{v:Value}{l l':List α}(h:aP T E I w B v l)(e:l=l'):aP T E I w B v l':=e▸h
theorem PN(I:IH)(v:Value)(l:List Ho)(hv:bf jw I v l)(hn:l.length≤100000)(g:Nat)(cb:Array Value)(p:Ho→Bool)(w:World)(hw:Ok I w)(eg:∀args w,(callFunc g args).run Tryz.prog w= .ok (.enter g args) w)(hp:rX g cb l p (Below w.heap.size w)):
 Calls Tryz.prog 133 #[v,.func (.func g) #[] cb] w fun e w'=> ∃v',e= .returned v'∧aP jw 184 I w' w.heap.size v' (l.filter p)∧Below w.heap.size w w':=by
 obtain⟨ao,cap,rfl,dO,iR,_⟩:=id hv;have Hv:=Qh hv;clear hv;have Hp:=Qh hp;clear hp;go_enter Tryz.func133,Tryz.ntmps133
 go_wp2_with fail
 go_loopw [5,10] (fun s5 s10 wr=> ∃k:Nat,k≤l.length∧s10= .int .i64 k∧aP jw 184 I wr w.heap.size s5 ((l.take k).filter p)∧Below w.heap.size w wr) (fun _ i _=>l.length-(intOf i).toNat)
 case atStart=>exact⟨0,Nat.zero_le _,rfl,aP.nil _ _ _ _ _,Qb _ _⟩
 case round=>
  obtain⟨k,hk,rfl,bE,hb⟩:=hrel;have bQ:=Qh bE;clear bE;have dA:Ok I wr:=hw.below (Qn _) hb;have ol:((l.take k).filter p).length≤k:=Nat.le_trans (List.length_filter_le _ _) (by simp;omega);by_cases hlt:k<l.length
  ·obtain⟨x,b,off,cap',bH,dn,c0,c1⟩:=yE Hv.O dA k hlt;cases dn;have bB:=Qh (WO p hlt bH);have kS:=Qh (Hp.O x (by rw[←bH];exact List.getElem_mem hlt) (wr.alloc (.cells #[S x.p,.int .i64 x.u] 184)) (hb.alloc hb.size _));clear bH;go_wp2_with fail
   refine kS.O.mono ?_;rintro e w1 ⟨rfl,au⟩;have x0:=dh au (show(wr.alloc (.cells #[S x.p,.int .i64 x.u] 184)).cell? ⟨wr.heap.size,0,none⟩=some (S x.p) by simp);have x1:=dh au (show(wr.alloc (.cells #[S x.p,.int .i64 x.u] 184)).cell? ⟨wr.heap.size,1,none⟩=some (.int .i64 x.u) by simp);have av:=(hb.alloc hb.size (.cells #[S x.p,.int .i64 x.u] 184)).trans (au.mono (by have:=hb.size;simp;omega));have Eb:=Qh ((bQ.O.alloc (.cells #[S x.p,.int .i64 x.u] 184)).below au);have pG:=av.size;clear au kS c0 c1 bQ;cases hpx:p x
   ·have Hn:=Qh (WR bB.O hpx);clear hpx;go_wp2;go_roundw;case rel=>exact⟨k+1,by omega,by go_num,Eb.O.rY Hn.O.symm,av⟩
    case measure=>simp[intOf];omega
   ·have Hn:=Qh (WQ bB.O hpx);clear hpx;go_wp2_with (at_builtin;refine oK (w0:=w1) Bi rfl _ _ rfl _ _ _ rfl Eb.O x [S x.p,.int .i64 x.u] _ rfl rfl (by omega) (by omega) pG ?_)
    intro v9 w9 ek eQ;have ig:=Below.own av eQ Eb.O (Qn _) pG;go_wp2;go_roundw;case rel=>exact⟨k+1,by omega,by go_num,ek.rY Hn.O.symm,ig⟩
    case measure=>simp[intOf];omega
  ·have aB:l.take k=l:=List.take_of_length_le (by omega);rw[aB]at bQ;clear aB ol;go_wp2;go_ret;exact⟨_,rfl,bQ.O,hb⟩
theorem Xe7(I:IH)(v:Value)(l:List Ho)(hv:bf jw I v l)(g:Nat)(cb:Array Value)(p:Ho→Bool)(w:World)(hw:Ok I w)(eg:∀args w,(callFunc g args).run Tryz.prog w= .ok (.enter g args) w)(hp:rX g cb l p (Below w.heap.size w)):
 Calls Tryz.prog 203 #[v,.func (.func g) #[] cb] w fun e w'=>e= .returned (.int .i64 (nW l p))∧Below w.heap.size w w':=by
 have hlen:=hv.bW;obtain⟨ao,cap,rfl,dO,iR,_⟩:=id hv;have Hv:=Qh hv;clear hv;have Hp:=Qh hp;clear hp;go_enter Tryz.func203,Tryz.ntmps203
 go_wp2_with fail
 go_loopw [8] (fun s8 wr=> ∃k:Nat,k≤l.length∧s8= .int .i64 k∧(l.take k).any p=false∧Below w.heap.size w wr) (fun i _=>l.length-(intOf i).toNat)
 case atStart=>exact⟨0,Nat.zero_le _,rfl,rfl,Qb _ _⟩
 case round=>
  obtain⟨k,hk,rfl,hr,hb⟩:=hrel;have Hr:=Qh hr;clear hr;by_cases hlt:k<l.length
  ·have dA:Ok I wr:=hw.below (Qn _) hb;obtain⟨x,b,off,cap',bH,dn,c0,c1⟩:=yE Hv.O dA k hlt;cases dn;have sF:=Qh bH;have kS:=Qh (Hp.O x (by rw[←bH];exact List.getElem_mem hlt) wr hb);clear bH;go_wp2_with fail
   refine kS.O.mono ?_;rintro e w1 ⟨rfl,au⟩;have av:=hb.trans (au.mono hb.size);clear au kS c0 c1;cases hpx:p x
   ·have Hn:=Qh (show(l.take (k+1)).any p=false by rw[List.take_succ_eq_append_getElem hlt,List.any_append,Hr.O,sF.O];simp[hpx]);clear hpx;go_wp2;go_roundw;case rel=>exact⟨k+1,by omega,by go_num,Hn.O,av⟩
    case measure=>simp[intOf];omega
   ·have Hn:=Qh (TK (p:=p) hlt (by rw[sF.O];exact hpx) Hr.O);clear hpx;go_wp2;go_ret;exact⟨bP Hn.O.symm,av⟩
  ·have Hn:=Qh (show nW l p= -1 from TJ (by have:=Hr.O;rwa[List.take_of_length_le (by omega)]at this));go_wp2;go_ret;exact⟨bP Hn.O.symm,hb⟩
theorem Xdh(I:IH)(v:Value)(l:List Ho)(hv:bf jw I v l)(g:Nat)(cb:Array Value)(p:Ho→Bool)(w:World)(hw:Ok I w)(eg:∀args w,(callFunc g args).run Tryz.prog w= .ok (.enter g args) w)(hp:rX g cb l p (Below w.heap.size w)):
 Calls Tryz.prog 268 #[v,.func (.func g) #[] cb] w fun e w'=>e= .returned (.bool (l.any p))∧Below w.heap.size w w':=by
 have Hi:=Qh (Xe7 I v l hv g cb p w hw eg hp);obtain⟨ao,cap,rfl,dO,iR,_⟩:=id hv;clear hv hp eg;rcases KC l p with⟨i,hi,e1,e2,_⟩|⟨e1,e2⟩
 ·have Ha:=Qh (show l.any p=true from List.any_eq_true.2 ⟨l[i],List.getElem_mem hi,e2⟩);have hd:decide ((0:Int)≤(i:Int))=true:=Qt (by omega);rw[e1]at Hi;clear e1 e2;go_enter Tryz.func268,Tryz.ntmps268
  go_wp2_with fail
  refine Hi.O.mono ?_;rintro e w1 ⟨rfl,au⟩;go_wp2;go_ret;exact⟨iW Ha.O.symm,au⟩
 ·have Ha:=Qh e2;rw[e1]at Hi;clear e1 e2;go_enter Tryz.func268,Tryz.ntmps268
  go_wp2_with fail
  refine Hi.O.mono ?_;rintro e w1 ⟨rfl,au⟩;go_wp2;go_ret;exact⟨iW Ha.O.symm,au⟩
theorem Xqq(d:Int)(b:Nat)(l:List Ho)(w:World)(hc:w.cell? ⟨b,0,none⟩=some (.int .i64 d)):rX 134 #[.pointer (some ⟨b,0,none⟩)] l (fun h=>decide (d≤h.u)) (Below w.heap.size w):=by
 intro x _ W hW;have JX:=fP (.cells #[S x.p,.int .i64 x.u] 184) (dh hW hc);clear hc;show Calls Tryz.prog _ #[KD x,.pointer (some ⟨b,0,none⟩)] W _;go_enter Tryz.func134,Tryz.ntmps134
 go_wp2;go_ret;exact⟨rfl,(Qb _ _).alloc (Qn _) _⟩
theorem WS(I:IH)(v:Value)(l:List Ho)(hv:bf jw I v l)(hn:l.length≤100000)(d:Int)(w:World)(hw:Ok I w):
 Calls Tryz.prog 77 #[v,.int .i64 d] w fun e w'=> ∃v',e= .returned v'∧aP jw 184 I w' w.heap.size v' (fF l d)∧Below w.heap.size w w':=by
 have Hp:=Qh (Xqq d w.heap.size l (w.alloc (.cells #[.int .i64 d] 3)) (by simp));have Hs:=Qh (PN I v l hv hn _ _ _ _ (hw.alloc (.cells #[.int .i64 d] 3)) (fun _ _=>by kernel_rfl) Hp.O);obtain⟨ao,cap,rfl,dO,iR,_⟩:=id hv;clear hv Hp;go_enter Tryz.func77,Tryz.ntmps77
 go_wp2_with fail
 refine Hs.O.mono ?_;rintro e w1 ⟨v1,rfl,bE,hb⟩;go_wp2;go_ret;exact⟨_,rfl,bE.lower (by simp),((Qb _ _).alloc (Qn _) _).trans (hb.mono (by simp))⟩
theorem Xu6(I:IH)(hI:dQ I)(p:ae)(hp:p.length≤4294967280)(b:Nat)(l:List Ho)(hl:∀h∈l,h.p.length≤4294967280)(w:World)(hw:Ok I w)(hc:w.cell? ⟨b,0,none⟩=some (S p)):rX 294 #[.pointer (some ⟨b,0,none⟩)] l (fun h=>under p h.p) (Below w.heap.size w):=by
 intro x hx W hW;have Hu:=Qh (Wq I hI p x.p hp (hl x hx) (W.alloc (.cells #[S x.p,.int .i64 x.u] 184)) ((hw.below (Qn _) hW).alloc _));have JX:=fP (.cells #[S x.p,.int .i64 x.u] 184) (dh hW hc);clear hc;show Calls Tryz.prog _ #[KD x,.pointer (some ⟨b,0,none⟩)] W _;go_enter Tryz.func294,Tryz.ntmps294
 go_wp2_with fail
 refine Hu.O.mono ?_;rintro e w1 ⟨rfl,au⟩;go_wp2;go_ret;exact⟨rfl,((Qb _ _).alloc (Qn _) _).trans (au.mono (by simp))⟩
theorem tN.short{l:List Ho}(h:tN l):∀x∈l,x.p.length≤4294967280:=fun x hx=>by have:=(BL (h.af x hx)).1;omega
theorem Xw8(I:IH)(hI:dQ I)(v:Value)(l:List Ho)(hv:bf jw I v l)(hk:tN l)(hn:l.length≤100000)(p:ae)(hp:p.length≤4294967280)(d:Int)(w:World)(hw:Ok I w):
 Calls Tryz.prog 266 #[v,S p,.int .i64 d] w fun e w'=>e= .returned (.bool (gy l p d))∧Below w.heap.size w w':=by
 have Ha:=Qh (WS I v l hv hn d (w.alloc (.cells #[S p] 9)) (hw.alloc _));have Hk:=Qh (hk.act d);have kr:=Qh (fun b (hb:(w.alloc (.cells #[S p] 9)).heap.size≤b)=>(hw.alloc (.cells #[S p] 9)).fresh (b:=b) hb);have HI:=Qh hI;obtain⟨ao,cap,rfl,dO,iR,_⟩:=id hv;clear hv hk hI;go_enter Tryz.func266,Tryz.ntmps266
 go_wp2_with fail
 refine Ha.O.mono ?_;rintro e w1 ⟨v1,rfl,bE,hb⟩;have aD:Ok I w1:=(hw.alloc _).below (Qn _) hb;obtain⟨I1,jH,jW,lU,_⟩:=bE.freeze aD kr.O;have qW:w1.cell? ⟨w.heap.size,0,none⟩=some (S p):=dh hb (by simp);have Hp:=Qh (Xu6 I1 (HI.O.mono (jH.keep (hw.alloc (.cells #[S p] 9)) (Qn _))) p hp w.heap.size (fF l d) Hk.O.short w1 jW qW);have Hc:=Qh (Xdh I1 _ _ lU _ _ _ w1 jW (fun _ _=>by kernel_rfl) Hp.O);have sS:=((Qb w.heap.size w).alloc (Qn _) (.cells #[S p] 9)).trans (hb.mono (by simp));obtain⟨a1,c1,rfl,_,_,_⟩:=id lU;clear hb bE lU jW jH qW Ha Hp;go_wp2_with fail
 refine Hc.O.mono ?_;rintro e w2 ⟨rfl,aF⟩;go_wp2;go_ret;exact⟨rfl,sS.trans (aF.mono sS.size)⟩
theorem WT{s:ae}(h:fU s=true):Lib.atoiAll s= .ok (digits s)∧s≠[]∧s.all iw=true∧((s.getD 0 0).toNat=48→s=[48]):=by
 have h':=h;obtain⟨n,h1,h2,h3,h4⟩:=(Xqf s).1 h;obtain⟨u,rfl⟩:=Int.eq_ofNat_of_zero_le h2;rw[Lib.itoa,if_neg (by omega),Int.toNat_natCast]at h4;obtain⟨f1,f2,f3,f4,f5⟩:=Nt u;rw[h4]at f1 f2 f3 f4 f5;have OC:digits s=u:=by rw[VO f1,f3]
 refine⟨by rw[OC];exact h1,f2,f1,fun hc=> ?_⟩;cases s with
 |nil=>exact absurd rfl f2
 |cons c r=>
  have kQ:c=48:=by
   apply UInt8.toNat_inj.1;simpa using hc
  subst kQ;have hu:u=0:=by
   by_cases k:1≤u
   ·exact absurd rfl (f5 k)
   ·omega
  subst hu;rw[←h4];first|(rw[Lib.decDigits];rfl)|simp[Lib.decDigits]|decide
def kM:ae:=[48,49,50,51,52,53,54,55,56,57]
theorem Xkb:∀c:UInt8,iw c=true→kM.contains c=true:=by
 intro c h;have hb:=FN h;have key:∀n:Fin 256,48≤n.1→n.1≤57→kM.contains (UInt8.ofNat n.1)=true:=by decide
 have:=key ⟨c.toNat,c.toNat_lt⟩ hb.1 hb.2;simpa using this
theorem Xnr{s:ae}(h:s.all iw=true):Lib.trimS s kM=[]:=by
 rw[Wu,List.all_eq_true];intro c hc;exact Xkb c (List.all_eq_true.1 h c hc)
theorem Xmd(s:ae)(hs:s.length≤9223372036854775807)(w:World):
 Calls Tryz.prog 162 #[S s,S kM] w fun e w'=>e= .returned (S (Lib.trimS s kM))∧Below w.heap.size w w':=by
 have h:=Tryz.qw ⟨s.toArray⟩ ⟨kM.toArray⟩ w (by rw[ByteArray.size_mk',List.size_toArray];exact hs) (by decide) (ascii_of_all (by decide));exact h
theorem Xr2(s:ae)(hs:s.length≤4294967280)(hd:fU s=true)(w:World):
 Calls Tryz.prog 202 #[S s] w fun e w'=>e= .returned (.tuple #[.int .i64 (digits s),.bool true])∧Below w.heap.size w w':=by
 obtain⟨ha,bZ,aB,hz⟩:=WT hd;have tH:=(Tv hd).2;have hlen:=List.length_pos_iff.2 bZ;obtain⟨p1,p2,p3,p4⟩:=Bc bZ;have Ht:=Qh (Xmd s (by omega) w);rw[Xnr aB]at Ht;have Ha:=Qh (fun w=>TP s hs _ ha w);have hx0:=gQ (P:=Tryz.prog) Tryz.underlying9 s 0 0 rfl hlen;have q1:decide (digits s≤1000000000)=true:=Qt tH;generalize digits s=n at Ha tH q1 ⊢;have HD:=Qh (show kM=[48,49,50,51,52,53,54,55,56,57]from rfl);rw[HD.O]at Ht;clear hd ha aB bZ;by_cases hc:(s.getD 0 0).toNat=48
 ·have mq:=hz hc;have k1:(((s.getD 0 0).toNat:Int)==48)=true:=by rw[hc];rfl
  have k2:(s==[48])=true:=by rw[mq];rfl
  have Hs:=Qh mq;clear mq hc hz;generalize(s.getD 0 0).toNat=c at hx0 k1;go_enter Tryz.func202,Tryz.ntmps202
  go_wp2_with fail
  refine Ht.O.mono ?_;rintro e w1 ⟨rfl,au⟩;go_wp2_with fail
  refine(Ha.O _).mono ?_;rintro e w2 ⟨rfl,aF⟩;go_wp2;go_ret2;exact⟨rfl,au.trans (aF.mono au.size)⟩
 ·have k1:(((s.getD 0 0).toNat:Int)==48)=false:=by
   have:((s.getD 0 0).toNat:Int)≠48:=by omega
   simpa using this
  clear hc hz;generalize(s.getD 0 0).toNat=c at hx0 k1;go_enter Tryz.func202,Tryz.ntmps202
  go_wp2_with fail
  refine Ht.O.mono ?_;rintro e w1 ⟨rfl,au⟩;go_wp2_with fail
  refine(Ha.O _).mono ?_;rintro e w2 ⟨rfl,aF⟩;go_wp2;go_ret2;exact⟨rfl,au.trans (aF.mono au.size)⟩
theorem Xnw(I:IH)(hI:dQ I)(p:ae)(hp:p.length≤4294967280)(b:Nat)(l:List Ho)(hl:∀h∈l,h.p.length≤4294967280)(w:World)(hw:Ok I w)(hc:w.cell? ⟨b,1,none⟩=some (S p)):rX 267 #[.pointer (some ⟨b,0,none⟩)] l (fun h=>under h.p p) (Below w.heap.size w):=by
 intro x hx W hW;have Hu:=Qh (Wq I hI x.p p (hl x hx) hp (W.alloc (.cells #[S x.p,.int .i64 x.u] 184)) ((hw.below (Qn _) hW).alloc _));have JX:=fP (.cells #[S x.p,.int .i64 x.u] 184) (dh hW hc);clear hc;show Calls Tryz.prog _ #[KD x,.pointer (some ⟨b,0,none⟩)] W _;go_enter Tryz.func267,Tryz.ntmps267
 go_wp2_with fail
 refine Hu.O.mono ?_;rintro e w1 ⟨rfl,au⟩;go_wp2;go_ret;exact⟨rfl,((Qb _ _).alloc (Qn _) _).trans (au.mono (by simp))⟩
theorem TV(I:IH)(hI:dQ I)(v:Value)(l:List Ho)(hv:bf jw I v l)(hk:tN l)(hn:l.length≤100000)(e:aG)(va vx:Value)(eP:bf lT I va e.ag)(eT:bf mr I vx e.ak)(hp:e.af.length≤4294967280)(d:Int)(w:World)(hw:Ok I w):
 Calls Tryz.prog 207 #[v,fB e va vx,.int .i64 d] w fun r w'=>r= .returned (.int .i64 (kv l e.ai e.af d))∧Below w.heap.size w w':=by
 have Hh:=Qh (fun w hw=>Xw8 I hI v l hv hk hn e.af hp d w hw);have Ha:=Qh (fun w hw=>WS I v l hv hn d w hw);have HI:=Qh hI;have Hk:=Qh (hk.act d);obtain⟨ao,cap,rfl,dO,iR,_⟩:=id hv;obtain⟨aa,ca,rfl,_,_,_⟩:=id eP;obtain⟨ax,cx,rfl,_,_,_⟩:=id eT;clear hv eP eT hI hk;by_cases h1:e.ai=1
 ·have k1:((e.ai:Int)==1)=true:=by simpa using h1
  have Hn:=Qh (show kv l e.ai e.af d=if gy l e.af d then 15 else 0 by rw[kv,if_pos (.inl h1)]);generalize gy l e.af d=b at Hh Hn;clear h1;go_enter Tryz.func207,Tryz.ntmps207
  go_wp2_with fail
  refine(Hh.O _ (hw.alloc _)).mono ?_;rintro e1 w1 ⟨rfl,au⟩;have av:=((Qb w.heap.size w).alloc (Qn _) (.cells #[.int .i64 e.ai,S e.af,.slice aa e.ag.length ca,S e.target,.int .i64 e.size,S e.aj,.slice ax e.ak.length cx] 35)).trans (au.mono (by simp));cases b
  ·go_wp2;go_ret;exact⟨bP Hn.O.symm,av⟩
  ·go_wp2;go_ret;exact⟨bP Hn.O.symm,av⟩
 have k1:((e.ai:Int)==1)=false:=by simpa using h1
 by_cases h2:e.ai=2
 ·have k2:((e.ai:Int)==2)=true:=by simpa using h2
  have Hn:=Qh (show kv l e.ai e.af d=if gy l e.af d then 15 else 0 by rw[kv,if_pos (.inr (.inl h2))]);generalize gy l e.af d=b at Hh Hn;clear h1 h2;go_enter Tryz.func207,Tryz.ntmps207
  go_wp2_with fail
  refine(Hh.O _ (hw.alloc _)).mono ?_;rintro e1 w1 ⟨rfl,au⟩;have av:=((Qb w.heap.size w).alloc (Qn _) (.cells #[.int .i64 e.ai,S e.af,.slice aa e.ag.length ca,S e.target,.int .i64 e.size,S e.aj,.slice ax e.ak.length cx] 35)).trans (au.mono (by simp));cases b
  ·go_wp2;go_ret;exact⟨bP Hn.O.symm,av⟩
  ·go_wp2;go_ret;exact⟨bP Hn.O.symm,av⟩
 have k2:((e.ai:Int)==2)=false:=by simpa using h2
 by_cases h3:e.ai=3
 ·have k3:((e.ai:Int)==3)=true:=by simpa using h3
  have Hn:=Qh (show kv l e.ai e.af d=if gy l e.af d then 15 else 0 by rw[kv,if_pos (.inr (.inr h3))]);generalize gy l e.af d=b at Hh Hn;clear h1 h2 h3;go_enter Tryz.func207,Tryz.ntmps207
  go_wp2_with fail
  refine(Hh.O _ (hw.alloc _)).mono ?_;rintro e1 w1 ⟨rfl,au⟩;have av:=((Qb w.heap.size w).alloc (Qn _) (.cells #[.int .i64 e.ai,S e.af,.slice aa e.ag.length ca,S e.target,.int .i64 e.size,S e.aj,.slice ax e.ak.length cx] 35)).trans (au.mono (by simp));cases b
  ·go_wp2;go_ret;exact⟨bP Hn.O.symm,av⟩
  ·go_wp2;go_ret;exact⟨bP Hn.O.symm,av⟩
 have k3:((e.ai:Int)==3)=false:=by simpa using h3
 have zh:¬(e.ai=1∨e.ai=2∨e.ai=3):=fun q=>by omega
 by_cases h4:e.ai=4;case neg=>
  have k4:((e.ai:Int)==4)=false:=by simpa using h4
  have Hn:=Qh (show kv l e.ai e.af d=0 by rw[kv,if_neg zh,if_neg h4]);clear h1 h2 h3 h4 zh;go_enter Tryz.func207,Tryz.ntmps207
  go_wp2;go_ret;exact⟨bP Hn.O.symm,(Qb w.heap.size w).alloc (Qn _) _⟩
 have k4:((e.ai:Int)==4)=true:=by simpa using h4
 have Hn:=Qh (show kv l e.ai e.af d=if gy l e.af d || ku l e.af d then 15 else 0 by rw[kv,if_neg zh,if_pos h4]);clear h1 h2 h3 h4 zh;have Hbe:=Qh (show ku l e.af d=(fF l d).any (fun h=>under h.p e.af)from rfl);generalize gy l e.af d=b at Hh Hn;generalize ku l e.af d=c at Hn Hbe;go_enter Tryz.func207,Tryz.ntmps207
 go_wp2_with fail
 refine(Hh.O _ (hw.alloc _)).mono ?_;rintro e1 w1 ⟨rfl,au⟩;have iq:=Qh (cB (e:=e) rfl au);have aD:Ok I w1:=(hw.alloc _).below (Qn _) au;have av:=((Qb w.heap.size w).alloc (Qn _) (.cells #[.int .i64 e.ai,S e.af,.slice aa e.ag.length ca,S e.target,.int .i64 e.size,S e.aj,.slice ax e.ak.length cx] 35)).trans (au.mono (by simp));clear au;cases b;case true=>
  go_wp2;go_ret;exact⟨bP Hn.O.symm,av⟩
 have kr:=Qh (fun b (hb:w1.heap.size≤b)=>aD.fresh (b:=b) hb);go_wp2_with fail
 refine(Ha.O _ aD).mono ?_;rintro e2 w2 ⟨v2,rfl,bE,aF⟩;have aQ:Ok I w2:=aD.below (Qn _) aF;obtain⟨I2,jH,jW,lU,_⟩:=bE.freeze aQ kr.O;have Hp:=Qh (Xnw I2 (HI.O.mono (jH.keep aD (Qn _))) e.af hp w.heap.size (fF l d) Hk.O.short w2 jW (iq.O.aA aF).c1);have Hc:=Qh (Xdh I2 _ _ lU _ _ _ w2 jW (fun _ _=>by kernel_rfl) Hp.O);rw[←Hbe.O]at Hc;have aL:=av.trans (aF.mono av.size);obtain⟨a1,c1,rfl,_,_,_⟩:=id lU;clear aF bE lU jW jH Ha Hp av;go_wp2_with fail
 refine Hc.O.mono ?_;rintro e3 w3 ⟨rfl,cO⟩;have dw:=aL.trans (cO.mono aL.size);cases c
 ·go_wp2;go_ret;exact⟨bP Hn.O.symm,dw⟩
 ·go_wp2;go_ret;exact⟨bP Hn.O.symm,dw⟩
end Go.Proofs.YtkipnpjagcfcpaaGreatDoor
namespace Go.Proofs
open Go.Shelf
def Tryz.yF:Go.Shelf.Ren:=⟨fun|137=>160|217=>118|266=>184|n=>n,fun|9=>9|5=>5|3=>3|n=>n,fun|n=>n⟩
theorem Tryz.GR:Go.Proofs.Lays.n137 Tryz.prog Tryz.yF:={
 mixed:=by kernel_rfl
 f137:=Tryz.func160.trans (congrArg some (by kernel_rfl))
 f217:=Tryz.func118.trans (congrArg some (by kernel_rfl))
 f266:=Tryz.func184.trans (congrArg some (by kernel_rfl))
 t3:=Tryz.underlying3
 a3:=Tryz.isAgg3
 z3:=Tryz.sizeOf3
 v3:=Tryz.zeroValue3
 t5:=Tryz.underlying5
 a5:=Tryz.isAgg5
 z5:=Tryz.sizeOf5
 v5:=Tryz.zeroValue5
 t9:=Tryz.underlying9
 a9:=Tryz.isAgg9
 z9:=Tryz.sizeOf9
 v9:=Tryz.zeroValue9}
open Go.RowKit in
theorem Tryz.strings_IndexByte(s:ByteArray)(c:Int)(w:World):
 Calls Tryz.prog 160 #[.string s,.int .u8 c] w fun e w'=>e= .returned (.int .i64 (Lib.indexByte s.data.toList c.toNat.toUInt8))∧w'=w:=Any.strings_IndexByte Tryz.GR s c w
def Tryz.yG:Go.Shelf.Ren:=⟨fun|101=>161|208=>220|206=>34|n=>n,fun|9=>9|4=>4|3=>3|n=>n,fun|n=>n⟩
theorem Tryz.GU:Go.Proofs.Lays.n101 Tryz.prog Tryz.yG:={
 mixed:=by kernel_rfl
 f101:=Tryz.func161.trans (congrArg some (by kernel_rfl))
 f206:=Tryz.func34.trans (congrArg some (by kernel_rfl))
 f208:=Tryz.func220.trans (congrArg some (by kernel_rfl))
 t3:=Tryz.underlying3
 a3:=Tryz.isAgg3
 z3:=Tryz.sizeOf3
 v3:=Tryz.zeroValue3
 t4:=Tryz.underlying4
 a4:=Tryz.isAgg4
 z4:=Tryz.sizeOf4
 v4:=Tryz.zeroValue4
 t9:=Tryz.underlying9
 a9:=Tryz.isAgg9
 z9:=Tryz.sizeOf9
 v9:=Tryz.zeroValue9}
open Go.RowKit Go.Lib in
theorem Tryz.strings_TrimPrefix(s p:ByteArray)(w:World):
 Calls Tryz.prog 161 #[.string s,.string p] w fun e w'=>e= .returned (.string ⟨(Lib.trimPrefix s.data.toList p.data.toList).toArray⟩)∧w'=w:=Any.strings_TrimPrefix Tryz.GU s p w
def Tryz.yH:Go.Shelf.Ren:=⟨fun|109=>237|n=>n,fun|31=>123|9=>9|3=>3|0=>0|4=>4|n=>n,fun|n=>n⟩
theorem Tryz.GV:Go.Proofs.Lays.n109 Tryz.prog Tryz.yH:={
 mixed:=by kernel_rfl
 f109:=Tryz.func237.trans (congrArg some (by kernel_rfl))
 t0:=Tryz.underlying0
 a0:=Tryz.isAgg0
 z0:=Tryz.sizeOf0
 v0:=Tryz.zeroValue0
 t3:=Tryz.underlying3
 a3:=Tryz.isAgg3
 z3:=Tryz.sizeOf3
 v3:=Tryz.zeroValue3
 t4:=Tryz.underlying4
 a4:=Tryz.isAgg4
 z4:=Tryz.sizeOf4
 v4:=Tryz.zeroValue4
 t9:=Tryz.underlying9
 a9:=Tryz.isAgg9
 z9:=Tryz.sizeOf9
 v9:=Tryz.zeroValue9
 t31:=Tryz.underlying123
 a31:=Tryz.isAgg123
 z31:=Tryz.sizeOf123
 v31:=Tryz.zeroValue123}
open Go.Lib in
theorem Tryz.slices_Index_string(b off n c:Nat)(zs:List ByteArray)(x:ByteArray)(w:World)(hz:n≤zs.length)(jd:n≤9223372036854775807)(hc:∀j,j<zs.length→w.cell? ⟨b,off+j,none⟩=some (.string (zs.getD j ByteArray.empty))):
 Calls Tryz.prog 237 #[.slice (some ⟨b,off,none⟩) n c,.string x] w fun e w'=>e= .returned (.int .i64 (Lib.idxOfS (zs.take n) x))∧w'=w:=Any.slices_Index_string Tryz.GV b off n c zs x w hz jd hc
end Go.Proofs
namespace Go.Proofs.YtkipnpjagcfcpaaGreatDoor
open Go.RowKit Go.Lib
theorem NH{T e:TypeId}{B b:Nat}{bs:List Value}{w w':World}(h:Lib.IsBuilder T e B b bs w)(hb:Below w.heap.size w w'):Lib.IsBuilder T e B b bs w':=by
 have key:∀p,Lib.BuilderAt T e B b p bs w→Lib.BuilderAt T e B b p bs w':=fun p h=>by
  have hlt:=h.lt;obtain⟨hB,v,hv,bE,bZ⟩:=h;refine⟨hB,v,(hb.block b hlt).trans hv,bE.kept (row:=none) ⟨hb.os,hb.tape,hb.output,hb.size,fun k hk _=>hb.block k hk⟩ ?_,bZ⟩;cases v.ownBlock<;>simp
 rcases h with h|h
 ·exact .inl (key _ h)
 ·exact .inr (key _ h)
theorem NI(I:IH)(hI:dQ I)(s:ae)(hs:s.length≤140737488355200)(w:World)(hw:Ok I w):
 Calls Tryz.prog 27 #[S s] w fun e w'=>e= .returned (S (aS s))∧Below w.heap.size w w':=by
 have Sz:=Nu s.length (by omega);go_enter Tryz.func27,Tryz.ntmps27
 go_wp2_with fail
 refine(Wy I hI _ _ hw (by omega) (by omega)).mono ?_;rintro e w1 ⟨rfl,au⟩;go_wp2;go_ret;exact⟨Kg (by simp[aS]),au⟩
theorem NJ(I:IH)(hI:dQ I)(n:Nat)(hn:n≤140737488355200)(w:World)(hw:Ok I w):
 Calls Tryz.prog 24 #[.int .i64 n] w fun e w'=>e= .returned (S (aY n))∧Below w.heap.size w w':=by
 have Sz:=Nu n (by omega);go_enter Tryz.func24,Tryz.ntmps24
 go_wp2_with fail
 refine(Wy I hI _ _ hw (by omega) (by omega)).mono ?_;rintro e w1 ⟨rfl,au⟩;go_wp2;go_ret;exact⟨rfl,au⟩
def tY(w:World)(b off:Nat)(l:List ae):Prop:=∀(j:Nat) x,l[j]?=some x→w.cell? ⟨b,off+j,none⟩=some (S x)
theorem WU(W:World)(l:List ae)(T:TypeId):tY (W.alloc (.cells (l.map fun s=>S s).toArray T)) W.heap.size 0 l:=fun j x hx=>by
 rw[cell_of_row _ W.heap.size _ _ _ _ (heap_alloc_new W _),Nat.zero_add,List.getElem?_toArray,List.getElem?_map,hx];rfl
theorem WV(I:IH)(hI:dQ I)(b off cap n:Nat)(l:List ae)(BJ:l.length=n)(dO:l.length≤cap)(iR:cap≤maxLen)(w:World)(hv:tY w b off l)(hs:(gJ l).length≤140737488355200)(hw:Ok I w):
 Calls Tryz.prog 51 #[.slice (some ⟨b,off,none⟩) n cap] w fun e w'=>e= .returned (S (gJ l))∧Below w.heap.size w w':=by
 subst BJ;have hlen:l.length≤9223372036854775807:=by unfold maxLen at iR;omega
 have Hv:=Qh hv;clear hv;have eY:Lib.IsBuilder 71 5 w.heap.size w.heap.size (Lib.byteCells (gJ (l.take 0))) (w.alloc (.cells #[.pointer none,.slice none 0 0] 71)):=Lib.fresh_isBuilder _ _ w;have kr:=Qh eY;clear eY;go_enter Tryz.func51,Tryz.ntmps51
 go_wp2_with fail
 go_loopw [8] (fun s8 wr=> ∃k:Nat,k≤l.length∧s8= .int .i64 k∧Lib.IsBuilder 71 5 w.heap.size w.heap.size (Lib.byteCells (gJ (l.take k))) wr∧Below w.heap.size w wr∧w.heap.size<wr.heap.size) (fun i _=>l.length-(intOf i).toNat)
 case atStart=>exact⟨0,Nat.zero_le _,rfl,kr.O,(Qb _ _).alloc (Qn _) _,by simp⟩
 case round=>
  obtain⟨k,hk,rfl,tH,hb,eU⟩:=hrel;have zU:=Qh tH;clear tH;have dA:Ok I wr:=hw.below (Qn _) hb;by_cases hlt:k<l.length
  ·obtain⟨s,SA⟩:∃s,l[k]=s:=⟨_,rfl⟩;have hc:wr.cell? ⟨b,off+k,none⟩=some (S s):=dh hb (Hv.O k s (by rw[List.getElem?_eq_getElem hlt,SA]));have nR:=Qh (show gJ (l.take (k+1))=gJ (l.take k)++aS s by rw[List.take_succ_eq_append_getElem hlt,Xg2,SA];simp[gJ]);have kW:=Qh (show gJ l=gJ (l.take (k+1))++gJ (l.drop (k+1)) by rw[←Xg2,List.take_append_drop]);have jd:(gJ (l.take k)).length+(aS s).length≤140737488355200:=by
    rw[kW.O,nR.O]at hs;simp at hs;omega
   have JW:s.length≤140737488355200:=by
    have:s.length≤(aS s).length:=by simp[aS];omega
    omega
   clear SA;go_wp2_with fail
   refine(NI I hI s JW _ dA).mono ?_;rintro e w1 ⟨rfl,au⟩;have sH:=NH zU.O au;have bY:=au.size;go_wp2_with fail
   refine(Tryz.Builder_WriteString w.heap.size w.heap.size _ _ _ sH (by rw[ByteArray.size_mk',List.size_toArray];simp[Lib.byteCells];omega) (by omega)).mono ?_;rintro e w2 ⟨rfl,tZ,aF⟩;have fO:=tZ.lt;have Ec:Hid (Lib.IsBuilder 71 5 w.heap.size w.heap.size (Lib.byteCells (gJ (l.take (k+1)))) w2):=Qh (.inr (by
    have:=tZ;rw[Lib.strCells_toArray,Lib.byteCells,Lib.byteCells,←List.map_append,←nR.O]at this;exact this))
   clear sH tZ;go_wp2;go_roundw;case rel=>exact⟨k+1,by omega,by go_num,Ec.O,(hb.trans (au.mono (Nat.le_of_lt eU))).trans aF,by omega⟩
   case measure=>simp[intOf];omega
  ·have nK:l.take k=l:=List.take_of_length_le (by omega);rw[nK]at zU;clear nK;go_wp2_with fail
   refine(Tryz.Builder_String_any w.heap.size w.heap.size _ _ zU.O (Nat.le_of_lt eU)).mono ?_;rintro e w1 ⟨rfl,au⟩;go_wp2;go_ret;exact⟨rfl,hb.trans au⟩
def Ca:ae:=[48,49,50,51,52,53,54,55,56,57]
theorem Xlj(u:Nat)(h:u<10):(Ca.drop u).take (u+1-u)=decDigits u:=by
 rw[decDigits_one h];match u,h with
 |0,_=>rfl
 |1,_=>rfl
 |2,_=>rfl
 |3,_=>rfl
 |4,_=>rfl
 |5,_=>rfl
 |6,_=>rfl
 |7,_=>rfl
 |8,_=>rfl
 |9,_=>rfl
theorem Xk7{n:Nat}(h:¬n<10):decDigits n=decDigits (n / 10)++decDigits (n%10):=by
 rw[decDigits_one (i:=n%10) (by omega),decDigits.eq_def n,dif_neg h]
theorem Xlx(u:Nat)(hu:u<18446744073709551616):∀w:World,Calls Tryz.prog 113 #[.int .u64 u] w fun e w'=>e= .returned (S (decDigits u))∧Below w.heap.size w w':=by
 induction u using Nat.strongRecOn with
 |ind u ih=>
  intro w;have x8:(decDigits u).length≤20:=by rw[decDigits_length];exact Xjz _ _ (by omega) (by omega)
  by_cases h:u<10
  ·have Ht:=Qh (Xlj u h);clear ih x8;go_enter Tryz.func113,Tryz.ntmps113
   go_wp2;go_ret;exact⟨Kg (by have h:=Ht.O;rwa[show u+1-u=1 by omega]at h),Qb _ _⟩
  ·have Hd:=Qh (Xk7 h);have Dw:=ih (u / 10) (by omega) (by omega);have uY:=ih (u%10) (by omega) (by omega);have Dx:(decDigits (u / 10)).length+(decDigits (u%10)).length≤20:=by rw[Hd.O,List.length_append]at x8;exact x8
   have FQ:=Qh Dw;have qR:=Qh uY;rw[show((u / 10:Nat):Int)=(u:Int) / 10 by omega]at FQ;rw[show((u%10:Nat):Int)=(u:Int)%10 by omega]at qR;clear ih Dw uY x8;go_enter Tryz.func113,Tryz.ntmps113
   go_wp2_with fail
   refine(FQ.O _).mono ?_;rintro e w1 ⟨rfl,au⟩;go_wp2_with fail
   refine(qR.O _).mono ?_;rintro e w2 ⟨rfl,aF⟩;go_wp2;go_ret;exact⟨Kg Hd.O.symm,au.trans (aF.mono au.size)⟩
theorem Xly(n:Nat)(hn:n≤9223372036854775807)(w:World):Calls Tryz.prog 64 #[.int .i64 n] w fun e w'=>e= .returned (S (itoa n))∧Below w.heap.size w w':=by
 have Hi:=Qh (show itoa (n:Int)=decDigits n by simp[itoa]);have hw:IntKind.u64.wrap (n:Int)=n:=IntWalk.u64_in _ (by omega);go_enter Tryz.func64,Tryz.ntmps64
 go_wp2_with fail
 refine(Xlx n (by omega) _).mono ?_;rintro e w1 ⟨rfl,au⟩;go_wp2;go_ret;exact⟨Kg Hi.O.symm,au⟩
theorem Ed(s:ae)(hs:s.length≤140737488355200)(w:World):
 Calls Tryz.prog 31 #[S s] w fun e w'=>e= .returned (S (aS s))∧Below w.heap.size w w':=by
 have Sz:=Nu s.length (by omega);go_enter Tryz.func31,Tryz.ntmps31
 go_wp2_with fail
 refine(Xly _ (by omega) _).mono ?_;rintro e w1 ⟨rfl,au⟩;go_wp2;go_ret;exact⟨Kg (by simp[aS]),au⟩
theorem NK(n:Nat)(hn:n≤140737488355200)(w:World):
 Calls Tryz.prog 29 #[.int .i64 n] w fun e w'=>e= .returned (S (aY n))∧Below w.heap.size w w':=by
 have Sz:=Nu n (by omega);go_enter Tryz.func29,Tryz.ntmps29
 go_wp2_with fail
 refine(Xly n (by omega) _).mono ?_;rintro e w1 ⟨rfl,au⟩;go_wp2;go_ret;exact⟨rfl,au⟩
open Go.RowKit
def rdV{α:Type}(f:α→Value)(z:Value):Rd α→Value
 | .error e=> .tuple #[z,.int .i64 0,.int .i64 e]
 | .ok p=> .tuple #[f p.1,.int .i64 (p.2:Nat),.int .i64 0]
abbrev sV(r:Rd ae):Value:=rdV (fun x=>S x) (S []) r
abbrev nV(r:Rd Int):Value:=rdV (fun x=> .int .i64 x) (.int .i64 0) r
theorem Xyt{x y:ae}{n:Nat}{m:Int}(h:x=y)(hm:m=n):Ending.returned (.tuple #[S x,.int .i64 m,.int .i64 0])= .returned (sV (.ok (y,n))):=by rw[h,hm];rfl
theorem Xzg{x y:Int}{n:Nat}{m:Int}(h:x=y)(hm:m=n):Ending.returned (.tuple #[.int .i64 x,.int .i64 m,.int .i64 0])= .returned (nV (.ok (y,n))):=by rw[h,hm];rfl
theorem Xka(c:UInt8):kM.contains c=iw c:=by
 cases h:iw c with
 |true=>exact Xkb c h
 |false=>
  have key:∀n:Fin 256,kM.contains (UInt8.ofNat n.1)=true→48≤n.1∧n.1≤57:=by decide
  cases hc:kM.contains c with
  |false=>rfl
  |true=>
   have:=key ⟨c.toNat,c.toNat_lt⟩ (by simpa using hc);rw[O5,Qt this.1,Qt this.2]at h;cases h
theorem Xuu(s:ae):Lib.trimS s kM=[]↔s.all iw=true:=by
 rw[Wu,List.all_eq_true,List.all_eq_true];constructor
 ·intro h c hc;rw[←Xka];exact h c hc
 ·intro h c hc;rw[Xka];exact h c hc
theorem Xjm(c:UInt8):∀l:ae,l.take (l.takeWhile (fun x=>x !=c)).length=l.takeWhile (fun x=>x !=c)
 | []=>rfl
 |x::l=>by
  rw[List.takeWhile_cons];split
  ·rw[List.length_cons,List.take_succ_cons,Xjm c l]
  ·rfl
theorem Xl9(s:ae)(hs:s.length≤4294967280)(a:Nat)(ha:a≤9223372036854775807)(c:UInt8)(w:World):
 Calls Tryz.prog 99 #[S s,.int .i64 a,.int .u8 (c.toNat:Int)] w fun e w'=>e= .returned (sV (dK s a c))∧Below w.heap.size w w':=by
 have GX:=Xus s a c;by_cases h1:s.length<a
 ·have Hr:=Qh (show dK s a c= .error 1 by unfold dK;rw[if_pos h1]);clear GX;go_enter Tryz.func99,Tryz.ntmps99
  go_wp2;go_ret3
  rw[Hr.O];exact⟨rfl,Qb _ _⟩
 have AO:Lib.indexByte (s.drop a) c=if(upTo s a c).length<s.length-a then(((upTo s a c).length:Nat):Int)else -1:=by
  rw[Xg5,List.length_drop];rfl
 have hd:(List.drop a s).take (s.length-a)=s.drop a:=List.take_of_length_le (by simp);have wY:=Qh (show ∀w,Calls Tryz.prog 160 #[S ((s.drop a).take (s.length-a)),.int .u8 (c.toNat:Int)] w fun e w'=>e= .returned (.int .i64 (if(upTo s a c).length<s.length-a then(((upTo s a c).length:Nat):Int)else -1))∧w'=w from fun w=>by
  rw[hd];have:=Tryz.strings_IndexByte ⟨(s.drop a).toArray⟩ (c.toNat:Int) w;rw[show((c.toNat:Int).toNat.toUInt8)=c by simp,show(⟨(s.drop a).toArray⟩:ByteArray).data.toList=s.drop a from rfl,AO]at this;exact this)
 have h0:(0:Int)≤a:=by omega
 have h2:(a:Int)≤s.length:=by omega
 by_cases h3:(upTo s a c).length<s.length-a
 ·have Hr:=Qh (show dK s a c= .ok (upTo s a c,a+(upTo s a c).length+1) by unfold dK;rw[if_neg h1,if_pos (by omega)]);rw[if_pos h3]at wY;have Hu:=Qh (show(s.drop a).take (upTo s a c).length=upTo s a c from Xjm c _);generalize(upTo s a c).length=n at*;have Hd:=Qh hd;clear AO hd GX;go_enter Tryz.func99,Tryz.ntmps99
  go_wp2_with fail
  refine(wY.O _).mono ?_;rintro e w1 ⟨rfl,rfl⟩;go_wp2;go_ret3
  rw[Hr.O];exact⟨Xyt (by rw[show a+n-a=n by omega,Hu.O]) (by omega),Qb _ _⟩
 ·have Hr:=Qh (show dK s a c= .error 4 by unfold dK;rw[if_neg h1,if_neg (by omega)]);rw[if_neg h3]at wY;clear AO hd GX;go_enter Tryz.func99,Tryz.ntmps99
  go_wp2_with fail
  refine(wY.O _).mono ?_;rintro e w1 ⟨rfl,rfl⟩;go_wp2;go_ret3
  rw[Hr.O];exact⟨rfl,Qb _ _⟩
theorem Xy1(s:ae):(kZ s).length≤s.length:=by
 unfold kZ;split
 ·rw[List.length_tail];omega
 ·exact Qn _
theorem Xio(s:ae)(hs:s.length≤4294967280)(w:World):
 Calls Tryz.prog 100 #[S s] w fun e w'=>e= .returned (.bool (iA s))∧Below w.heap.size w w':=by
 have uU:=Xy1 s;have KE:=Qh (Xoy s);have TW:=Qh (show ∀w,Calls Tryz.prog 161 #[S s,S [45]] w fun e w'=>e= .returned (S (kZ s))∧w'=w from fun w=>by
  have:=Tryz.strings_TrimPrefix ⟨s.toArray⟩ ⟨[45].toArray⟩ w;rw[show(⟨s.toArray⟩:ByteArray).data.toList=s from rfl,show(⟨[45].toArray⟩:ByteArray).data.toList=[45]from rfl,Xrq]at this;exact this)
 have yC:=Qh (fun w=>Xmd (kZ s) (by omega) w);have TY:=Qh (Xuu (kZ s));generalize kZ s=m at*;have HD:=Qh (show kM=[48,49,50,51,52,53,54,55,56,57]from rfl);rw[HD.O]at yC TY;by_cases h1:m=[]
 ·have Hn:=Qh (show iA s=false by rw[KE.O,h1];rfl);obtain⟨p1,p2,p3,p4⟩:=De h1;clear h1;go_enter Tryz.func100,Tryz.ntmps100
  go_wp2_with fail
  refine(TW.O _).mono ?_;rintro e w1 ⟨rfl,rfl⟩;go_wp2;go_ret;exact⟨iW Hn.O.symm,Qb _ _⟩
 have hlen:=List.length_pos_iff.2 h1;obtain⟨p1,p2,p3,p4⟩:=Bc h1;by_cases h2:m.all iw=true
 ·rw[TY.O.2 h2]at yC;have hx0:=gQ (P:=Tryz.prog) Tryz.underlying9 m 0 0 rfl hlen;have hh:m.head?=some (m.getD 0 0):=by cases m with
   |nil=>exact absurd rfl h1
   |cons a r=>rfl
  have Hn:=Qh (show iA s=(m.head? !=some 48 || s==[48]) by rw[KE.O,p2,h2];rfl);rw[hh]at Hn;by_cases h3:(m.getD 0 0).toNat=48
  ·have k1:(((m.getD 0 0).toNat:Int) !=48)=false:=by rw[h3];rfl
   have Hs:=Qh (show iA s=(s==[48]) by
    have e:m.getD 0 0=48:=UInt8.toNat_inj.1 (by rw[h3];rfl);rw[Hn.O,e];rfl)
   clear Hn hh h2 h3 h1;generalize(m.getD 0 0).toNat=c at hx0 k1;go_enter Tryz.func100,Tryz.ntmps100
   go_wp2_with fail
   refine(TW.O _).mono ?_;rintro e w1 ⟨rfl,rfl⟩;go_wp2_with fail
   refine(yC.O _).mono ?_;rintro e w2 ⟨rfl,aF⟩;go_wp2;go_ret;exact⟨iW Hs.O.symm,aF⟩
  ·have k1:(((m.getD 0 0).toNat:Int) !=48)=true:=by
    have:((m.getD 0 0).toNat:Int)≠48:=by omega
    simpa using this
   have Hs:=Qh (show iA s=true by
    have e:m.getD 0 0≠48:=fun e=>h3 (by rw[e];rfl);rw[Hn.O];have e2:(some (m.getD 0 0) !=some (48:UInt8))=true:=by simpa using e
    rw[e2];rfl)
   clear Hn hh h2 h3 h1;generalize(m.getD 0 0).toNat=c at hx0 k1;go_enter Tryz.func100,Tryz.ntmps100
   go_wp2_with fail
   refine(TW.O _).mono ?_;rintro e w1 ⟨rfl,rfl⟩;go_wp2_with fail
   refine(yC.O _).mono ?_;rintro e w2 ⟨rfl,aF⟩;go_wp2;go_ret;exact⟨iW Hs.O.symm,aF⟩
 ·have Hn:=Qh (show iA s=false by
   have:m.all iw=false:=by simpa using h2
   rw[KE.O,this];simp)
  have ht:Lib.trimS m [48,49,50,51,52,53,54,55,56,57]≠[]:=fun e=>h2 (TY.O.1 e);clear h2 h1;generalize Lib.trimS m [48,49,50,51,52,53,54,55,56,57]=u at yC ht;obtain⟨q1,q2,q3,q4⟩:=Bc ht;clear ht TY;go_enter Tryz.func100,Tryz.ntmps100
  go_wp2_with fail
  refine(TW.O _).mono ?_;rintro e w1 ⟨rfl,rfl⟩;go_wp2_with fail
  refine(yC.O _).mono ?_;rintro e w2 ⟨rfl,aF⟩;go_wp2;go_ret;exact⟨iW Hn.O.symm,aF⟩
theorem TZ{s:ae}{a:Nat}{c:UInt8}{e:Int}(h:dK s a c= .error e):e=1∨e=4:=by
 unfold dK at h;split at h
 ·injection h with h;exact .inl h.symm
 ·split at h
  ·cases h
  ·injection h with h;exact .inr h.symm
theorem T9(t:ae)(n:Nat):sV (.ok (t,n))= .tuple #[S t,.int .i64 n,.int .i64 0]:=rfl
theorem Ua(e:Int):sV (.error e)= .tuple #[S [],.int .i64 0,.int .i64 e]:=rfl
theorem Xy0(z:Int)(n:Nat):nV (.ok (z,n))= .tuple #[.int .i64 z,.int .i64 n,.int .i64 0]:=rfl
theorem Xyz(e:Int):nV (.error e)= .tuple #[.int .i64 0,.int .i64 0,.int .i64 e]:=rfl
theorem WW(I:IH)(hI:dQ I)(s:ae)(hs:s.length≤4294967280)(a:Nat)(ha:a≤9223372036854775807)(w:World)(hw:Ok I w):
 Calls Tryz.prog 52 #[S s,.int .i64 a] w fun e w'=>e= .returned (nV (rdNum s a))∧Below w.heap.size w w':=by
 have Hu:=Qh (show Calls Tryz.prog 99 #[S s,.int .i64 a,.int .u8 32] w fun e w'=>e= .returned (sV (dK s a 32))∧Below w.heap.size w w' from Xl9 s hs a ha 32 w);have Hr:=Qh (show rdNum s a=Rb (dK s a 32) fun p=>numOf p.1 p.2 from rfl);cases hu:dK s a 32 with
 |error x=>
  rw[hu]at Hr;rw[hu,Ua]at Hu;have hx:(x !=0)=true:=by rcases TZ hu with rfl|rfl<;>rfl
  clear hu;go_enter Tryz.func52,Tryz.ntmps52
  go_wp2_with fail
  refine Hu.O.mono ?_;rintro e w1 ⟨rfl,au⟩;go_wp2;go_ret3
  rw[Hr.O];exact⟨rfl,au⟩
 |ok p=>
  obtain⟨t,n⟩:=p;rw[hu]at Hr;rw[hu,T9]at Hu;have Mx:=PL hu;have hn:=Mx.2.1;have pF:=Mx.2.2.1;clear Mx;have Hd:=Qh (Xio t (by omega));clear hu;cases hd:iA t with
  |false=>
   rw[hd]at Hd;have Hn:=Qh (show rdNum s a= .error 3 by rw[Hr.O,aR,numOf,hd];rfl);clear hd;go_enter Tryz.func52,Tryz.ntmps52
   go_wp2_with fail
   refine Hu.O.mono ?_;rintro e w1 ⟨rfl,au⟩;go_wp2_with fail
   refine(Hd.O _).mono ?_;rintro e w2 ⟨rfl,aF⟩;go_wp2;go_ret3
   rw[Hn.O];exact⟨rfl,au.trans (aF.mono au.size)⟩
  |true=>
   rw[hd]at Hd;have Hn:=Qh (show rdNum s a=if pK t< -2147483648∨2147483647<pK t then .error 2 else .ok (pK t,n) by rw[Hr.O,aR,numOf,hd];rfl);rcases Xqk hd with⟨z,hz,hv⟩|⟨hz,hv⟩
   ·have q9:=Qh (fun w=>TP t (by omega) z hz w);rw[←hv]at Hn;clear hd hz hv;by_cases h1:z< -2147483648
    ·have d1:decide (z< -2147483648)=true:=Qt h1;rw[if_pos (.inl h1)]at Hn;clear h1;go_enter Tryz.func52,Tryz.ntmps52
     go_wp2_with fail
     refine Hu.O.mono ?_;rintro e w1 ⟨rfl,au⟩;go_wp2_with fail
     refine(Hd.O _).mono ?_;rintro e w2 ⟨rfl,aF⟩;go_wp2_with fail
     refine(q9.O _).mono ?_;rintro e w3 ⟨rfl,cO⟩;go_wp2;go_ret3
     rw[Hn.O];exact⟨rfl,(au.trans (aF.mono au.size)).trans (cO.mono (by have:=au.size;have:=aF.size;omega))⟩
    ·have d1:decide (z< -2147483648)=false:=Qf h1;by_cases h2:2147483647<z
     ·have d2:decide (2147483647<z)=true:=Qt h2;rw[if_pos (.inr h2)]at Hn;clear h1 h2;go_enter Tryz.func52,Tryz.ntmps52
      go_wp2_with fail
      refine Hu.O.mono ?_;rintro e w1 ⟨rfl,au⟩;go_wp2_with fail
      refine(Hd.O _).mono ?_;rintro e w2 ⟨rfl,aF⟩;go_wp2_with fail
      refine(q9.O _).mono ?_;rintro e w3 ⟨rfl,cO⟩;go_wp2;go_ret3
      rw[Hn.O];exact⟨rfl,(au.trans (aF.mono au.size)).trans (cO.mono (by have:=au.size;have:=aF.size;omega))⟩
     ·have d2:decide (2147483647<z)=false:=Qf h2;rw[if_neg (by omega)]at Hn;clear h1 h2;go_enter Tryz.func52,Tryz.ntmps52
      go_wp2_with fail
      refine Hu.O.mono ?_;rintro e w1 ⟨rfl,au⟩;go_wp2_with fail
      refine(Hd.O _).mono ?_;rintro e w2 ⟨rfl,aF⟩;go_wp2_with fail
      refine(q9.O _).mono ?_;rintro e w3 ⟨rfl,cO⟩;go_wp2;go_ret3
      rw[Hn.O];exact⟨Xzg rfl rfl,(au.trans (aF.mono au.size)).trans (cO.mono (by have:=au.size;have:=aF.size;omega))⟩
   ·have zh:∀n,Lib.atoiAll t≠ .ok n:=fun n h=>by rw[hz]at h;cases h
    have q9:=Qh (fun w hw=>Wz I hI t (by omega) zh w hw);rw[if_pos (by omega)]at Hn;clear hd hz hv zh;go_enter Tryz.func52,Tryz.ntmps52
    go_wp2_with fail
    refine Hu.O.mono ?_;rintro e w1 ⟨rfl,au⟩;go_wp2_with fail
    refine(Hd.O _).mono ?_;rintro e w2 ⟨rfl,aF⟩;have lG:=au.trans (aF.mono au.size);go_wp2_with fail
    refine(q9.O _ (hw.below (Qn _) lG)).mono ?_;rintro e w3 ⟨z,N,rfl,cO⟩;go_wp2;go_ret3
    rw[Hn.O];exact⟨rfl,lG.trans (cO.mono lG.size)⟩
theorem Xwd{t:ae}(h:iA t=true):t≠[]:=fun e=>by subst e;cases h
theorem Xyy{t:ae}(h:t≠[]):nu t=(((t.getD 0 0).toNat:Int)==45):=by
 cases t with
 |nil=>exact absurd rfl h
 |cons c r=>
  unfold nu;by_cases hc:c=45
  ·subst hc;rfl
  ·have h1:((c::r).head?==some 45)=false:=by simpa using hc
   have h2:((((c::r).getD 0 0).toNat:Int)==45)=false:=by
    have:(c.toNat:Int)≠45:=fun e=>hc (UInt8.toNat_inj.1 (by have:(45:UInt8).toNat=45:=rfl;omega));simpa using this
   rw[h1,h2]
theorem WX(I:IH)(hI:dQ I)(s:ae)(hs:s.length≤4294967280)(a:Nat)(ha:a≤9223372036854775807)(w:World)(hw:Ok I w):
 Calls Tryz.prog 54 #[S s,.int .i64 a] w fun e w'=>e= .returned (sV (rdStr s a))∧Below w.heap.size w w':=by
 have Hu:=Qh (show Calls Tryz.prog 99 #[S s,.int .i64 a,.int .u8 58] w fun e w'=>e= .returned (sV (dK s a 58))∧Below w.heap.size w w' from Xl9 s hs a ha 58 w);have Hr:=Qh (show rdStr s a=Rb (dK s a 58) fun p=>strOf s p.1 p.2 from rfl);cases hu:dK s a 58 with
 |error x=>
  rw[hu]at Hr;rw[hu,Ua]at Hu;have hx:(x !=0)=true:=by rcases TZ hu with rfl|rfl<;>rfl
  clear hu;go_enter Tryz.func54,Tryz.ntmps54
  go_wp2_with fail
  refine Hu.O.mono ?_;rintro e w1 ⟨rfl,au⟩;go_wp2;go_ret3
  rw[Hr.O];exact⟨rfl,au⟩
 |ok p=>
  obtain⟨t,n⟩:=p;rw[hu]at Hr;rw[hu,T9]at Hu;have Mx:=PL hu;have hn:=Mx.2.1;have pF:=Mx.2.2.1;clear Mx;have Hd:=Qh (Xio t (by omega));clear hu;cases hd:iA t with
  |false=>
   rw[hd]at Hd;have Hn:=Qh (show rdStr s a= .error 3 by rw[Hr.O,aR,strOf,TT,hd];rfl);clear hd;go_enter Tryz.func54,Tryz.ntmps54
   go_wp2_with fail
   refine Hu.O.mono ?_;rintro e w1 ⟨rfl,au⟩;go_wp2_with fail
   refine(Hd.O _).mono ?_;rintro e w2 ⟨rfl,aF⟩;have lG:=au.trans (aF.mono au.size);go_wp2;go_ret3
   rw[Hn.O];exact⟨rfl,lG⟩
  |true=>
   rw[hd]at Hd;have bZ:=Xwd hd;have hlen:=List.length_pos_iff.2 bZ;have NL:=Xyy bZ;have hx0:=gQ (P:=Tryz.prog) Tryz.underlying9 t 0 0 rfl hlen;cases hneg:nu t with
   |true=>
    rw[hneg]at NL;have Hn:=Qh (show rdStr s a= .error 3 by rw[Hr.O,aR,strOf,TT,hd,hneg];rfl);have k1:=NL.symm;clear hd bZ NL hneg;generalize(t.getD 0 0).toNat=c at hx0 k1;go_enter Tryz.func54,Tryz.ntmps54
    go_wp2_with fail
    refine Hu.O.mono ?_;rintro e w1 ⟨rfl,au⟩;go_wp2_with fail
    refine(Hd.O _).mono ?_;rintro e w2 ⟨rfl,aF⟩;have lG:=au.trans (aF.mono au.size);go_wp2;go_ret3
    rw[Hn.O];exact⟨rfl,lG⟩
   |false=>
    rw[hneg]at NL;have zT:jm t=true:=by rw[TT,hd,hneg];rfl
    have Hn:=Qh (show rdStr s a=if s.length-n≤dW 0 t then .error 4 else if s.getD (n+dW 0 t) 0≠44 then .error 3 else .ok ((s.drop n).take (dW 0 t),n+dW 0 t+1) by rw[Hr.O,aR,strOf,zT];rfl);have oI:=WK zT;have Vl:=Xqk hd;have k1:=NL.symm;rw[oI]at Vl;clear hd bZ NL hneg zT oI;generalize(t.getD 0 0).toNat=c at hx0 k1;rcases Vl with⟨z,hz,hv⟩|⟨hz,hv⟩
    ·have q9:=Qh (fun w=>TP t (by omega) z hz w);generalize dW 0 t=m at Hn hv;subst hv;clear hz;have i1:IntKind.i64.wrap ((s.length:Int)-(n:Int))=(s.length:Int)-n:=IntWalk.i64_in _ (by omega);by_cases h1:s.length-n≤m
     ·rw[if_pos h1]at Hn;have d1:decide ((s.length:Int)-(n:Int)≤(m:Int))=true:=Qt (by omega);clear h1;go_enter Tryz.func54,Tryz.ntmps54
      go_wp2_with fail
      refine Hu.O.mono ?_;rintro e w1 ⟨rfl,au⟩;go_wp2_with fail
      refine(Hd.O _).mono ?_;rintro e w2 ⟨rfl,aF⟩;have lG:=au.trans (aF.mono au.size);go_wp2_with fail
      refine(q9.O _).mono ?_;rintro e w3 ⟨rfl,cO⟩;go_wp2;go_ret3
      rw[Hn.O];exact⟨rfl,lG.trans (cO.mono lG.size)⟩
     ·rw[if_neg h1]at Hn;have d1:decide ((s.length:Int)-(n:Int)≤(m:Int))=false:=Qf (by omega);have hlt:n+m<s.length:=by omega
      have i2:IntKind.i64.wrap ((n:Int)+(m:Int))=(n:Int)+m:=IntWalk.i64_in _ (by omega);have gK:=gQ (P:=Tryz.prog) Tryz.underlying9 s ((n:Int)+(m:Int)) (n+m) (by omega) hlt;by_cases h2:s.getD (n+m) 0=44
      ·rw[if_neg (by simpa using h2)]at Hn;have k2:(((s.getD (n+m) 0).toNat:Int) !=44)=false:=by rw[h2];rfl
       clear h2 h1;generalize(s.getD (n+m) 0).toNat=c2 at gK k2;go_enter Tryz.func54,Tryz.ntmps54
       go_wp2_with fail
       refine Hu.O.mono ?_;rintro e w1 ⟨rfl,au⟩;go_wp2_with fail
       refine(Hd.O _).mono ?_;rintro e w2 ⟨rfl,aF⟩;have lG:=au.trans (aF.mono au.size);go_wp2_with fail
       refine(q9.O _).mono ?_;rintro e w3 ⟨rfl,cO⟩;go_wp2;go_ret3
       rw[Hn.O];exact⟨Xyt (by rw[show n+m-n=m by omega]) (by omega),lG.trans (cO.mono lG.size)⟩
      ·rw[if_pos h2]at Hn;have k2:(((s.getD (n+m) 0).toNat:Int) !=44)=true:=by
        have:((s.getD (n+m) 0).toNat:Int)≠44:=fun e=>h2 (UInt8.toNat_inj.1 (by have:(44:UInt8).toNat=44:=rfl;omega));simpa using this
       clear h2 h1;generalize(s.getD (n+m) 0).toNat=c2 at gK k2;go_enter Tryz.func54,Tryz.ntmps54
       go_wp2_with fail
       refine Hu.O.mono ?_;rintro e w1 ⟨rfl,au⟩;go_wp2_with fail
       refine(Hd.O _).mono ?_;rintro e w2 ⟨rfl,aF⟩;have lG:=au.trans (aF.mono au.size);go_wp2_with fail
       refine(q9.O _).mono ?_;rintro e w3 ⟨rfl,cO⟩;go_wp2;go_ret3
       rw[Hn.O];exact⟨rfl,lG.trans (cO.mono lG.size)⟩
    ·have zh:∀n,Lib.atoiAll t≠ .ok n:=fun n h=>by rw[hz]at h;cases h
     have q9:=Qh (fun w hw=>Wz I hI t (by omega) zh w hw);rw[if_pos (by omega)]at Hn;clear hz hv zh;go_enter Tryz.func54,Tryz.ntmps54
     go_wp2_with fail
     refine Hu.O.mono ?_;rintro e w1 ⟨rfl,au⟩;go_wp2_with fail
     refine(Hd.O _).mono ?_;rintro e w2 ⟨rfl,aF⟩;have lG:=au.trans (aF.mono au.size);go_wp2_with fail
     refine(q9.O _ (hw.below (Qn _) lG)).mono ?_;rintro e w3 ⟨z,N,rfl,cO⟩;go_wp2;go_ret3
     rw[Hn.O];exact⟨rfl,lG.trans (cO.mono lG.size)⟩
section
variable {P:Program} {ops:Array Oper} {md:Region.Mode} {Q:Exit→Act→World→Prop}
def uf(s:Array Bool):Nat:=s.toList.countP (!·)
theorem Xkd:∀(l:List Bool) (i:Nat),l[i]?=some false→(l.set i true).countP (!·)+1=l.countP (!·)
 | [],_,h=>absurd h (by simp)
 |b::l,0,h=>by
  simp at h;subst h;simp
 |b::l,i+1,h=>by
  have:=Xkd l i (by simpa using h);simp only[List.set_cons_succ,List.countP_cons];omega
theorem Xj2{s:Array Bool}{i:Nat}(h:s.getD i true=false):s.toList[i]?=some false:=by
 rw[Array.getElem?_toList];rw[Array.getD_eq_getD_getElem?]at h;cases hs:s[i]? with
 |none=>rw[hs]at h;simp at h
 |some b=>rw[hs]at h;simpa using h
theorem Xmf{s:Array Bool}{i:Nat}(h:s.getD i true=false):uf (s.setIfInBounds i true)+1=uf s:=by
 unfold uf;rw[Array.toList_setIfInBounds];exact Xkd _ _ (Xj2 h)
theorem Xsz{s:Array Bool}{i:Nat}(h:s.getD i true=false):0<uf s:=by have:=Xmf h;omega
theorem Xrm{J:Array Bool→Act→World→Prop}(uR:∀s a w i,J s a w→i∈Region.ready md ops s→wpOp P ops Q i (fun a' w'=>J (s.setIfInBounds i true) a' w') a w)
 (jf:∀s a w,J s a w→Region.ready md ops s=[]→Q .normal a w):∀(f:Nat) (s:Array Bool) (a:Act) (w:World),uf s≤f→J s a w→wpAny P md ops Q f s a w:=by
 intro f;induction f with
 |zero=>
  intro s a w hf hJ;have hr:Region.ready md ops s=[]:=by
   cases h:Region.ready md ops s with
   |nil=>rfl
   |cons j l=>
    have:=Xsz (mem_ready.1 (show j∈Region.ready md ops s by rw[h];exact List.mem_cons_self ..)).1;omega
  exact⟨hr,jf s a w hJ hr⟩
 |succ f ih=>
  intro s a w hf hJ;refine⟨jf s a w hJ,fun i hi=>wpOp_mono (fun a' w' h=>ih _ _ _ ?_ h) (uR s a w i hJ hi)⟩;have:=Xmf (mem_ready.1 hi).1;omega
theorem Xog(n:Nat):uf (Array.replicate n false)=n:=by
 simp[uf,List.countP_replicate]
theorem Xki{id:Nat}{a:Act}{w:World}(J:Array Bool→Act→World→Prop)(hm:P.follows .mixedOrders=true)(h0:J (Array.replicate ops.size false) a {w with drawn:=w.drawn+1})
 (uR:∀s a w i,J s a w→i∈Region.ready .any ops s→wpOp P ops Q i (fun a' w'=>J (s.setIfInBounds i true) a' w') a w)
 (jf:∀s a w,J s a w→Region.ready .any ops s=[]→Q .normal a w):(Code.region id ops true).wp P Q a w:=
 wp_region_any hm (Xrm uR jf _ _ _ _ (by rw[Xog];exact Qn _) h0)
def cK:List (Option Tmp×Value)→Nat→Array Bool→Act→Act
 | [],_,_,a=>a
 |(d,v)::l,k,s,a=>cK l (k+1) s (if s.getD k false then a.put d v else a)
theorem Xsk(a:Act){d e:Option Tmp}(u v:Value)(h:∀t,d=some t→e≠some t):(a.put d u).put e v=(a.put e v).put d u:=by
 cases d with
 |none=>rfl
 |some d=>
  cases e with
  |none=>rfl
  |some e=>
   have bZ:d≠e:=fun h'=>h d rfl (by rw[h']);simp only[Act.put];rw[Array.setIfInBounds_comm _ _ bZ]
def bL(l:List (Option Tmp×Value)):Prop:=l.Pairwise fun p q=> ∀t,p.1=some t→q.1≠some t
theorem WY:∀(l:List (Option Tmp×Value)) (k:Nat) (s:Array Bool) (a:Act) (d:Option Tmp) (v:Value),(∀p∈l,∀t,d=some t→p.1≠some t)→cK l k s (a.put d v)=(cK l k s a).put d v
 | [],_,_,_,_,_,_=>rfl
 |(e,u)::l,k,s,a,d,v,h=>by
  rw[cK,cK];split
  ·rw[Xsk a v u (h (e,u) (List.mem_cons_self ..)),WY l _ _ _ _ _ fun p hp=>h p (List.mem_cons_of_mem _ hp)]
  ·rw[WY l _ _ _ _ _ fun p hp=>h p (List.mem_cons_of_mem _ hp)]
theorem Xj4:∀(l:List (Option Tmp×Value)) (k:Nat) (s:Array Bool) (a:Act) (i:Nat),i<k→cK l k (s.setIfInBounds i true) a=cK l k s a
 | [],_,_,_,_,_=>rfl
 |(e,u)::l,k,s,a,i,h=>by
  rw[cK,cK,getD_set_ne false (by omega),Xj4 l (k+1) s _ i (by omega)]
theorem Xp4:∀(l:List (Option Tmp×Value)) (k i:Nat) (s:Array Bool) (a:Act) (d:Option Tmp) (v:Value),bL l→l[i]?=some (d,v)→s.getD (k+i) true=false→(cK l k s a).put d v=cK l k (s.setIfInBounds (k+i) true) a
 | [],_,_,_,_,_,_,_,h,_=>absurd h (by simp)
 |(e,u)::l,k,0,s,a,d,v,hp,h,hs=>by
  simp at h;obtain⟨rfl,rfl⟩:=h;have hf:s.getD k false=false:=by
   rw[Nat.add_zero]at hs;rw[Array.getD_eq_getD_getElem?]at hs ⊢;cases hk:s[k]? with
   |none=>rw[hk]at hs;simp at hs
   |some b=>rw[hk]at hs;simpa using hs
  have ht:(s.setIfInBounds k true).getD k false=true:=by
   have hlt:k<s.size:=by
    rw[Nat.add_zero]at hs;have:=Xj2 hs;have:=(List.getElem?_eq_some_iff.1 this).1;simpa using this
   simp[Array.getD_eq_getD_getElem?,hlt]
  simp only[Nat.add_zero];rw[cK,cK,ht,hf];simp only[Bool.false_eq_true,if_false,if_true];rw[Xj4 l (k+1) s _ k (by omega),WY];exact fun p hm t=>(List.pairwise_cons.1 hp).1 p hm t
 |(e,u)::l,k,i+1,s,a,d,v,hp,h,hs=>by
  rw[cK,cK,getD_set_ne false (by omega),show k+(i+1)=k+1+i by omega];exact Xp4 l (k+1) i s _ d v (List.pairwise_cons.1 hp).2 (by simpa using h) (by rw[←hs];congr 1;omega)
theorem Xik(a:Act){d:Option Tmp}{t:Tmp}(v:Value)(h:d≠some t):(a.put d v).eval (.tmp t)=a.eval (.tmp t):=
 Act.eval_put fun d' hd e=>h (by rw[hd];injection e with e;rw[e])
theorem Xpn(a:Act)(d:Option Tmp)(v:Value):(a.put d v).tmps.size=a.tmps.size:=by cases d<;>simp[Act.put]
theorem Ub:∀(l:List (Option Tmp×Value)) (k:Nat) (s:Array Bool) (a:Act) (t:Tmp),(∀p∈l,p.1≠some t)→(cK l k s a).eval (.tmp t)=a.eval (.tmp t)
 | [],_,_,_,_,_=>rfl
 |(e,u)::l,k,s,a,t,h=>by
  rw[cK,Ub l _ _ _ _ fun p hp=>h p (List.mem_cons_of_mem _ hp)];split
  ·exact Xik a u (h (e,u) (List.mem_cons_self ..))
  ·rfl
theorem Xmt:∀(l:List (Option Tmp×Value)) (k i:Nat) (s:Array Bool) (a:Act) (t:Tmp) (v:Value),bL l→l[i]?=some (some t,v)→s.getD (k+i) false=true→t<a.tmps.size→(cK l k s a).eval (.tmp t)=v
 | [],_,_,_,_,_,_,_,h,_,_=>absurd h (by simp)
 |(e,u)::l,k,0,s,a,t,v,hp,h,hs,ht=>by
  simp at h;obtain⟨rfl,rfl⟩:=h;rw[Nat.add_zero]at hs;rw[cK,hs,if_pos rfl,Ub l _ _ _ _ fun p hm e=>(List.pairwise_cons.1 hp).1 p hm t rfl e];simp[Act.put,Act.eval,Array.getD_eq_getD_getElem?,ht]
 |(e,u)::l,k,i+1,s,a,t,v,hp,h,hs,ht=>by
  rw[cK];refine Xmt l (k+1) i s _ t v (List.pairwise_cons.1 hp).2 (by simpa using h) (by rw[←hs];congr 1;omega) ?_;split
  ·rw[Xpn];exact ht
  ·exact ht
theorem Uc:∀(l m:List (Option Tmp×Value)) (k:Nat) (s:Array Bool) (a:Act),l.length=m.length→(∀i,s.getD (k+i) false=true→l[i]?=m[i]?)→cK l k s a=cK m k s a
 | [],[],_,_,_,_,_=>rfl
 | [],_::_,_,_,_,h,_=>absurd h (by simp)
 |_::_,[],_,_,_,h,_=>absurd h (by simp)
 |(e,u)::l,(f,v)::m,k,s,a,hl,h=>by
  rw[cK,cK];have iV:∀a',cK l (k+1) s a'=cK m (k+1) s a':=fun a'=>Uc l m (k+1) s a' (by simpa using hl) fun i hi=>by
   have:=h (i+1) (by rw[←hi];congr 1;omega);simpa using this
  cases hk:s.getD k false
  ·simp only[Bool.false_eq_true,if_false];exact iV a
  ·have:=h 0 hk;simp at this;obtain⟨rfl,rfl⟩:=this;simp only[if_true];exact iV _
theorem Xtj(l:List (Option Tmp×Value))(a:Act):∀(k n:Nat),cK l k (Array.replicate n false) a=a:=by
 induction l generalizing a with
 |nil=>intro k n;rfl
 |cons p l ih=>
  intro k n;obtain⟨d,v⟩:=p;have:(Array.replicate n false).getD k false=false:=by
   rw[Array.getD_eq_getD_getElem?];rw[Array.getElem?_replicate];split<;>rfl
  rw[cK,this];simp only[Bool.false_eq_true,if_false];exact ih a _ _
end
section
variable {P:Program} {ops:Array Oper} {Q:Exit→Act→World→Prop}
def acY(ops:Array Oper):Bool:=(List.range ops.size).all fun i=>((ops[i]?).map fun o=>o.after.all fun e=>decide (e.on<i)).getD true
def dZ:List (Option Tmp×Value)→Act→Act
 | [],a=>a
 |(d,v)::l,a=>dZ l (a.put d v)
theorem vB:∀(l:List (Option Tmp×Value)) (k:Nat) (s:Array Bool) (a:Act),(∀i,i<l.length→s.getD (k+i) false=true)→cK l k s a=dZ l a
 | [],_,_,_,_=>rfl
 |(d,v)::l,k,s,a,h=>by
  have h0:=h 0 (by simp);rw[Nat.add_zero]at h0;rw[cK,h0,if_pos rfl,dZ];exact vB l (k+1) s _ fun i hi=>by
   have:=h (i+1) (by simp;omega);rw[←this];congr 1;omega
end
section
variable {P:Program} {α:Type} {T:Ty α} {I:IH}
theorem Xh8{t ty e:TypeId}{i:TypeInfo}(ht:P.underlying t=some (.slice e))(hi:P.info? e=some i)(w:World)(b ao:Option Addr)(n cap c:Nat)(hn:n≤cap):
 (Builtin.append_ #[t,t] ty #[.slice b n cap,.slice ao 0 c]).run P w= .ok (.slice b n cap) w:=by
 cases b<;>cases ao<;>simp[Builtin.append_,run_underlying ht,sizeOf,typeInfo,hi,Builtin.lenOf,Builtin.firstCells,loadCells,loadCellsFrom,hn,storeCells]
def rq(T:Ty α)(I:IH)(w:World)(v:Value)(l:List α):Prop:=
 ∃ao c cs,v= .slice ao l.length c∧bS T I cs l∧(0<l.length→ ∃ad,ao=some ad∧ ∀j u,cs[j]?=some u→w.cell? (ad.add j)=some u)
theorem rq.Ee{w:World}{v:Value}{l:List α}(h:bf T I v l)(hw:Ok I w)(hs:0<T.size):rq T I w v l:=by
 obtain⟨ao,cap,xs,hv,_,_,hl,hc⟩:=h.cells hw hs;refine⟨ao,cap,xs,hv,hl,fun h0=> ?_⟩;obtain⟨b,off,arr,rfl,_,_,iU⟩:=hc h0;exact⟨_,rfl,fun j u hu=>by rw[Addr.add_lit];exact iU j u hu⟩
theorem rq.wZ{w:World}{x:α}{cs:List Value}{g:Nat}(hx:T.rd I cs x)(hc:∀j u,cs[j]?=some u→w.cell? ⟨g,j,none⟩=some u):rq T I w (.slice (some ⟨g,0,none⟩) 1 1) [x]:=
 ⟨_,_,cs,rfl,bS.one hx,fun _=>⟨_,rfl,fun j u hu=>by rw[Addr.add_lit,Nat.zero_add];exact hc j u hu⟩⟩
theorem Xlo{ts te ty:TypeId}{bytes:Nat}(hE:eZ P ts te T bytes){w:World}{B:Nat}{v:Value}{l:List α}(bE:aP T te I w B v l){vx:Value}{ys:List α}(hy:rq T I w vx ys)
 (jd:(l.length+ys.length)*bytes≤140737488355328) (hl:l.length+ys.length≤9223372036854775807) (hB:B≤w.heap.size):
 ∃v' w',(Builtin.append_ #[ts,ts] ty #[v,vx]).run P w= .ok v' w'∧aP T te I w' B v' (l++ys)∧w.grownBy w' v.ownBlock:=by
 obtain⟨i,z,h1,h2,h3,h4,h5,h6,h7⟩:=hE;obtain⟨ao,c,cs,rfl,k1,k2⟩:=hy;obtain⟨xs,k3,k4⟩:=bE;rcases Nat.eq_zero_or_pos ys.length with h0|h0
 ·have:ys=[]:=List.eq_nil_of_length_eq_zero h0;subst this;have hv:∃b n cap,v= .slice b n cap∧n≤cap:=by
   rcases k3.2 with⟨h8,_⟩|⟨g,cap,cur,h8,_,_,h9,_⟩
   ·exact⟨_,_,_,h8,Qn _⟩
   ·exact⟨_,_,_,h8,h9⟩
  obtain⟨b,n,cap,rfl,hn⟩:=hv;refine⟨_,w,Xh8 h1 h2 w b ao n cap c hn,⟨xs,by rw[List.append_nil];exact k3,by rw[List.append_nil];exact k4⟩,⟨rfl,rfl,rfl,Qn _,fun _ _ _=>rfl⟩⟩
 ·obtain⟨ad,rfl,iU⟩:=k2 h0;obtain⟨v',w',hr,r1,r2,_⟩:=run_append_own (P:=P) w B ts ty te i z T.size bytes h1 h2 h3 h4 h5 h6 h7 v l.length xs k3 ad ys.length c cs k1.1 iU k1.oneCell (by unfold maxLen;omega) jd hB;exact⟨v',w',hr,⟨xs++cs,by rw[List.length_append];exact r1,k4.append k1⟩,r2⟩
theorem Ef{ts te:TypeId}{bytes:Nat}(hE:eZ P ts te T bytes){w:World}{ops:Array Oper}{o:Oper}{a:Act}{K:Act→World→Prop}{Q:Exit→Act→World→Prop}{E:Prop}(CK:o.guard=none)(s x:Operand)
 (ho:o.op= .call {callee:= .builtin .append,args:=#[s,x],argTypes:=#[ts,ts]}) {B:Nat} {v:Value} {l:List α} (hs:a.eval s=v) (bE:aP T te I w B v l) {vx:Value} {ys:List α} (hx:a.eval x=vx) (hy:rq T I w vx ys)
 (jd:(l.length+ys.length)*bytes≤140737488355328) (hl:l.length+ys.length≤9223372036854775807) (hB:B≤w.heap.size)
 (h:∀v' w',aP T te I w' B v' (l++ys)→w.grownBy w' v.ownBlock→K (a.put o.dst v') w'):
 if Region.wanted o (yielded ops a.tmps)=true then Oper.wp P o a w K Q else E:=by
 obtain⟨v',w',hr,h1,h2⟩:=Xlo (ty:=o.type) hE bE hy jd hl hB;rw[if_pos (by simp[Region.wanted,CK])];unfold Oper.wp execOp;simp only[ho,resolve,invoke,builtin,Sem.run_bind,Sem.run_pure,Result.andThen_ok,List.map_toArray,List.map_cons,List.map_nil,hs,hx,hr];exact h v' w' h1 h2
end
theorem j6{L:List (Option Tmp×Value)}{s:Array Bool}{a a':Act}{i:Nat}{d:Option Tmp}{v:Value}(hp:bL L)(ha:a'=cK L 0 s a)(hi:L[i]?=some (d,v))(aV:s.getD i true=false):a'.put d v=cK L 0 (s.setIfInBounds i true) a:=by
 have h:=Xp4 L 0 i s a d v hp hi (by rw[Nat.zero_add];exact aV);rw[ha,h,Nat.zero_add]
theorem oq{L:List (Option Tmp×Value)}{s:Array Bool}{a a':Act}{i:Nat}{t:Tmp}{v:Value}(hp:bL L)(ha:a'=cK L 0 s a)(hi:L[i]?=some (some t,v))(hs:s.getD i false=true)(ht:t<a.tmps.size):a'.tmps[t]?.getD undef=v:=by
 have h:=Xmt L 0 i s a t v hp hi (by rw[Nat.zero_add];exact hs) ht;rw[←ha]at h;simpa[Act.eval]using h
theorem qU{L:List (Option Tmp×Value)}{s:Array Bool}{a a':Act}{t:Tmp}(ha:a'=cK L 0 s a)(h:∀p∈L,p.1≠some t):a'.tmps[t]?.getD undef=a.tmps[t]?.getD undef:=by
 have h:=Ub L 0 s a t h;rw[←ha]at h;simpa[Act.eval]using h
theorem Cb{s:Array Bool}{i:Nat}(h:s.getD i true=false):s.getD i false=false:=by
 rw[Array.getD_eq_getD_getElem?]at h ⊢;cases hs:s[i]? with
 |none=>rfl
 |some b=>rw[hs]at h;simpa using h
theorem yI{s:Array Bool}{i:Nat}(h:s.getD i true=false):i<s.size:=by
 rcases Nat.lt_or_ge i s.size with h'|h'
 ·exact h'
 ·rw[Array.getD_eq_getD_getElem?,Array.getElem?_eq_none h']at h;simp at h
theorem xR(n i:Nat):(Array.replicate n false).getD i false=false:=by
 rw[Array.getD_eq_getD_getElem?,Array.getElem?_replicate];split<;>rfl
theorem KF{s:Array Bool}{i:Nat}(h:i<s.size):(s.setIfInBounds i true).getD i false=true:=by
 rw[Array.getD_eq_getD_getElem?,Array.getElem?_setIfInBounds_self_of_lt h];rfl
theorem Xxo{L M:List (Option Tmp×Value)}{s:Array Bool}{a:Act}(i:Nat)(hl:L.length=M.length)(h:∀j,j≠i→L[j]?=M[j]?)(aV:s.getD i true=false):cK L 0 s a=cK M 0 s a:=
 Uc _ _ _ _ _ hl fun j hj=>by
  rw[Nat.zero_add]at hj;exact h j fun e=>by rw[e,Cb aV]at hj;cases hj
def zV(ops:Array Oper):Bool:=(List.range ops.size).all fun i=>((ops[i]?).map fun o=>o.after.all fun e=> !(Region.binds .any e) || decide (e.on<i)).getD true
theorem Xyr{ops:Array Oper}{s:Array Bool}(hb:zV ops=true)(hr:Region.ready .any ops s=[])(eU:s.size=ops.size):∀i,i<ops.size→s.getD i false=true:=by
 intro i;induction i using Nat.strongRecOn with
 |_ i ih=>
  intro hi;cases hs:s.getD i false with
  |true=>rfl
  |false=>
   exfalso;have hs':s.getD i true=false:=by
    rw[Array.getD_eq_getD_getElem?]at hs ⊢;have hlt:i<s.size:=by omega
    rw[Array.getElem?_eq_getElem hlt]at hs ⊢;simpa using hs
   have:i∈Region.ready .any ops s:=mem_ready.2 ⟨hs',ops[i],Array.getElem?_eq_getElem hi,fun e he tH=> ?_⟩
   ·rw[hr]at this;exact absurd this (by simp)
   ·have h:=List.all_eq_true.1 hb i (List.mem_range.2 hi);rw[Array.getElem?_eq_getElem hi]at h;simp only[Option.map_some,Option.getD_some]at h;obtain⟨j,hj,rfl⟩:=Array.getElem_of_mem he;have h2:=Array.all_eq_true.1 h j hj;rw[tH]at h2;have h3:ops[i].after[j].on<i:=by simpa using h2
    exact ih _ h3 (by omega)
theorem Xhx{P:Program}{ops:Array Oper}{Q:Exit→Act→World→Prop}{X:Type}{id:Nat}{a:Act}{w:World}(L:X→List (Option Tmp×Value))(C:X→Array Bool→World→Prop)(hm:P.follows .mixedOrders=true)(hb:zV ops=true)(h0:∃x,C x (Array.replicate ops.size false) {w with drawn:=w.drawn+1})
 (uR:∀x s a' w' i,s.size=ops.size→a'=cK (L x) 0 s a→C x s w'→i∈Region.ready .any ops s→wpOp P ops Q i (fun a'' w''=> ∃y,a''=cK (L y) 0 (s.setIfInBounds i true) a∧C y (s.setIfInBounds i true) w'') a' w')
 (jf:∀x s a' w',(∀i,i<ops.size→s.getD i false=true)→a'=cK (L x) 0 s a→C x s w'→Q .normal a' w'):(Code.region id ops true).wp P Q a w:=by
 refine Xki (fun s a' w'=>s.size=ops.size∧ ∃x,a'=cK (L x) 0 s a∧C x s w') hm ?_ ?_ ?_
 ·obtain⟨x,hx⟩:=h0;exact⟨by simp,x,(Xtj _ _ _ _).symm,hx⟩
 ·rintro s a' w' i ⟨eU,x,ha,hx⟩ hi;exact wpOp_mono (fun a'' w'' ⟨y,h1,h2⟩=>⟨by simpa using eU,y,h1,h2⟩) (uR x s a' w' i eU ha hx hi)
 ·rintro s a' w' ⟨eU,x,ha,hx⟩ hr;exact jf x s a' w' (Xyr hb hr eU) ha hx
structure A2X where
 e:Nat
 b:Nat
 v1:Value
 v2:Value
structure A2C {α:Type} (T:Ty α) (E:TypeId) (I:IH) (w3:World) (l:List α) (y:α) (row:Array Value) (i0 i2 i4 i5:Nat) (x:A2X) (s:Array Bool) (w:World):Prop where
 dE:Below w3.heap.size w3 w
 p0:s.getD i0 false=true→s.getD i2 false=false→aP T E I w w3.heap.size (.slice (some ⟨x.e,0,none⟩) 0 0) []
 p2:s.getD i2 false=true→s.getD i5 false=false→aP T E I w w3.heap.size x.v1 l
 p4:s.getD i4 false=true→s.getD i5 false=false→w.heap[x.b]?=some (.cells row E (0,0))
 p5:s.getD i5 false=true→aP T E I w w3.heap.size x.v2 (l++[y])
 n0:s.getD i0 false=true→s.getD i2 false=false→s.getD i4 false=true→x.e≠x.b
 n2:s.getD i2 false=true→s.getD i4 false=true→s.getD i5 false=false→x.v1.ownBlock≠some x.b
 o2:s.getD i2 false=true→s.getD i0 false=true
 o5:s.getD i5 false=true→s.getD i2 false=true∧s.getD i4 false=true
section
variable {α:Type} {T:Ty α} {E:TypeId} {I:IH} {w3 w w':World} {l:List α} {y:α} {row:Array Value} {i0 i2 i4 i5:Nat} {x:A2X} {s:Array Bool}
end
structure zx (W:World) (last j1 j2:Nat) (cs1 cs2:List (Nat×Value)) (fin:World→Prop) (x:Nat×Nat) (s:Array Bool) (w:World):Prop where
 dE:s.getD last false=false→Below W.heap.size W w
 f1:s.getD j1 false=true→s.getD last false=false→ ∀p∈cs1,w.cell? ⟨x.1,p.1,none⟩=some p.2
 f2:s.getD j2 false=true→s.getD last false=false→ ∀p∈cs2,w.cell? ⟨x.2,p.1,none⟩=some p.2
 fin:s.getD last false=true→fin w
section
variable {W w w':World} {last j1 j2:Nat} {cs1 cs2:List (Nat×Value)} {fin:World→Prop} {x:Nat×Nat} {s:Array Bool}
theorem zx.start(n:Nat)(x:Nat×Nat):zx W last j1 j2 cs1 cs2 fin x (Array.replicate n false) {W with drawn:=W.drawn+1}:=
 ⟨fun _=>(Qb _ _).drew,fun h=>(by rw[xR]at h;cases h),fun h=>(by rw[xR]at h;cases h),fun h=>(by rw[xR]at h;cases h)⟩
theorem zx.step(h:zx W last j1 j2 cs1 cs2 fin x s w)(hl:s.getD last false=false)(hb:Below w.heap.size w w'){i:Nat}(h1:i≠j1)(h2:i≠j2)(h3:i≠last):zx W last j1 j2 cs1 cs2 fin x (s.setIfInBounds i true) w':=by
 refine⟨fun _=>(h.dE hl).trans (hb.mono (h.dE hl).size),?_,?_,?_⟩
 ·rw[getD_set_ne false h1];exact fun a _ p hp=>dh hb (h.f1 a hl p hp)
 ·rw[getD_set_ne false h2];exact fun a _ p hp=>dh hb (h.f2 a hl p hp)
 ·rw[getD_set_ne false h3,hl];intro q;cases q
theorem zx.at1(h:zx W last j1 j2 cs1 cs2 fin x s w)(hl:s.getD last false=false)(hb:Below w.heap.size w w')(h2:j1≠j2)(h3:j1≠last){n:Nat}(hc:∀p∈cs1,w'.cell? ⟨n,p.1,none⟩=some p.2):zx W last j1 j2 cs1 cs2 fin (n,x.2) (s.setIfInBounds j1 true) w':=by
 refine⟨fun _=>(h.dE hl).trans (hb.mono (h.dE hl).size),fun _ _=>hc,?_,?_⟩
 ·rw[getD_set_ne false h2];exact fun a _ p hp=>dh hb (h.f2 a hl p hp)
 ·rw[getD_set_ne false h3,hl];intro q;cases q
theorem zx.at2(h:zx W last j1 j2 cs1 cs2 fin x s w)(hl:s.getD last false=false)(hb:Below w.heap.size w w')(h1:j2≠j1)(h3:j2≠last){n:Nat}(hc:∀p∈cs2,w'.cell? ⟨n,p.1,none⟩=some p.2):zx W last j1 j2 cs1 cs2 fin (x.1,n) (s.setIfInBounds j2 true) w':=by
 refine⟨fun _=>(h.dE hl).trans (hb.mono (h.dE hl).size),?_,fun _ _=>hc,?_⟩
 ·rw[getD_set_ne false h1];exact fun a _ p hp=>dh hb (h.f1 a hl p hp)
 ·rw[getD_set_ne false h3,hl];intro q;cases q
theorem zx.end'(aV:s.getD last true=false)(hf:fin w'):zx W last j1 j2 cs1 cs2 fin x (s.setIfInBounds last true) w':=by
 have e:=KF (yI aV);exact⟨fun q=>(by rw[e]at q;cases q),fun _ q=>(by rw[e]at q;cases q),fun _ q=>(by rw[e]at q;cases q),fun _=>hf⟩
end
def GY(ops:Array Oper)(s:Array Bool):Prop:=∀i o,ops[i]?=some o→s.getD i false=true→ ∀e∈o.after,Region.binds .any e=true→s.getD e.on false=true
def yJ(ops:Array Oper):List Nat→Bool
 |i::j::r=>(match ops[i]? with|some o=>o.after.any fun e=>Region.binds .any e&&e.on==j|none=>false)&&yJ ops (j::r)
 |_=>true
theorem PO{ops:Array Oper}{s:Array Bool}(h:GY ops s):∀(p:List Nat) (k i:Nat),yJ ops (k::p)=true→(k::p).getLast?=some i→s.getD k false=true→s.getD i false=true
 | [],k,i,_,hl,hk=>by simp at hl;exact hl▸hk
 |j::r,k,i,hp,hl,hk=>by
  unfold yJ at hp;rw[Bool.and_eq_true]at hp;obtain⟨h1,h2⟩:=hp;cases ho:ops[k]? with
  |none=>rw[ho]at h1;simp at h1
  |some o=>
   rw[ho]at h1;simp only[Array.any_eq_true,Bool.and_eq_true,beq_iff_eq]at h1;obtain⟨n,hn,h3,h4⟩:=h1;exact PO h r j i h2 (by simpa using hl) (h4▸h k o ho hk _ (Array.getElem_mem hn) h3)
theorem ru{ops:Array Oper}{s:Array Bool}(h:GY ops s)(p:List Nat){k i:Nat}(hp:yJ ops (k::p)=true)(hl:(k::p).getLast?=some i)(aV:s.getD i true=false):s.getD k false=false:=by
 cases hk:s.getD k false with
 |false=>rfl
 |true=>have:=PO h p k i hp hl hk;rw[Cb aV]at this;cases this
theorem Xyj{ops:Array Oper}{s:Array Bool}(h:GY ops s){i:Nat}(hi:i∈Region.ready .any ops s):GY ops (s.setIfInBounds i true):=by
 obtain⟨aV,oi,eX,aB⟩:=mem_ready.1 hi;have up:∀j,s.getD j false=true→(s.setIfInBounds i true).getD j false=true:=fun j hj=>by
  by_cases e:i=j
  ·subst e;exact KF (yI aV)
  ·rw[getD_set_ne false e];exact hj
 intro j o ho hj e he hb;by_cases c:i=j
 ·subst c;rw[eX]at ho;cases ho;exact up _ (aB e he hb)
 ·rw[getD_set_ne false c]at hj;exact up _ (h j o ho hj e he hb)
theorem Xv2{L M:List (Option Tmp×Value)}{s:Array Bool}{a:Act}(i k:Nat)(hl:L.length=M.length)(h:∀j,j≠i→j≠k→L[j]?=M[j]?)(aV:s.getD i true=false)(hk:s.getD k false=false):cK L 0 s a=cK M 0 s a:=
 Uc _ _ _ _ _ hl fun j hj=>by
  rw[Nat.zero_add]at hj;exact h j (fun e=>by rw[e,Cb aV]at hj;cases hj) (fun e=>by rw[e,hk]at hj;cases hj)
theorem uW{P:Program}{ops:Array Oper}{Q:Exit→Act→World→Prop}{X:Type}{id:Nat}{a:Act}{w:World}(L:X→List (Option Tmp×Value))(C:X→Array Bool→World→Prop)(hm:P.follows .mixedOrders=true)(hb:zV ops=true)(h0:∃x,C x (Array.replicate ops.size false) {w with drawn:=w.drawn+1})
 (uR:∀x s a' w' i,s.size=ops.size→GY ops s→a'=cK (L x) 0 s a→C x s w'→i∈Region.ready .any ops s→wpOp P ops Q i (fun a'' w''=> ∃y,a''=cK (L y) 0 (s.setIfInBounds i true) a∧C y (s.setIfInBounds i true) w'') a' w')
 (jf:∀x s a' w',(∀i,i<ops.size→s.getD i false=true)→a'=cK (L x) 0 s a→C x s w'→Q .normal a' w'):(Code.region id ops true).wp P Q a w:=by
 refine Xhx (X:=X) L (fun x s w'=>GY ops s∧C x s w') hm hb ?_ ?_ ?_
 ·obtain⟨x,hx⟩:=h0;exact⟨x,fun i _ _ q=>(by rw[xR]at q;cases q),hx⟩
 ·rintro x s a' w' i eU ha ⟨gI,hC⟩ hi;exact wpOp_mono (fun a'' w'' ⟨y,h1,h2⟩=>⟨y,h1,Xyj gI hi,h2⟩) (uR x s a' w' i eU gI ha hC hi)
 ·rintro x s a' w' gH ha ⟨_,hC⟩;exact jf x s a' w' gH ha hC
theorem GZ{P:Program}{o:Oper}{a:Act}{w:World}{K:Act→World→Prop}{Q:Exit→Act→World→Prop}(ty:TypeId)(x y:Operand)(ho:o.op= .store ty x y)
 (g off:Nat) (cs:List Value) (v:Value) (hx:a.eval x= .pointer (some ⟨g,off,none⟩)) (hy:a.eval y=v) (hv:v.cells=cs.toArray) (cur:Array Value) (tt:TypeId)
 (hg:w.heap[g]?=some (.cells cur tt (0,0))) (nJ:off+cs.length≤cur.size) (hi:(P.info? ty).map (·.size)=some cs.length) (h1:∀v∈cs,v.oneCell'=true)
 (h:K (a.put o.dst undef) (w.setRow g (over cur off cs))):o.wp P a w K Q:=by
 have gB:=run_storeCells_at (P:=P) g off tt cs 0 cur w hg (by simpa using nJ) h1;have OJ:(storeVar ty ⟨g,off,none⟩ v).run P w= .ok () (w.setRow g (over cur off cs)):=by
  cases hq:P.info? ty with
  |none=>simp[hq]at hi
  |some i=>
   have hs:cs.length=i.size:=by simp[hq]at hi;omega
   simp only[Nat.add_zero]at gB;simp[storeVar,sizeOf,typeInfo,hq,hv,hs,gB,over]
 unfold Oper.wp execOp;simp only[ho,hx,hy,Instr.storeAt,Instr.sureAddr,Sem.run_bind,Sem.run_pure,Result.andThen_ok,OJ];exact h
theorem Eg{s:Array Bool}{i:Nat}(h:s.size≤i):s.getD i false=false:=by
 rw[Array.getD_eq_getD_getElem?,Array.getElem?_eq_none h];rfl
theorem Xmg{ops:Array Oper}{s:Array Bool}(h:GY ops s){k i:Nat}(hp:yJ ops [k,i]=true)(aV:s.getD i true=false):s.getD k false=false:=ru h [i] hp rfl aV
theorem NM{L M:List (Option Tmp×Value)}{s:Array Bool}{a:Act}(D:List Nat)(hl:L.length=M.length)(h:∀j,j ∉ D→L[j]?=M[j]?)(aam:∀j∈D,s.getD j false=false):cK L 0 s a=cK M 0 s a:=
 Uc _ _ _ _ _ hl fun j hj=>by
  rw[Nat.zero_add]at hj;exact h j (fun e=>by rw[aam j e]at hj;cases hj)
theorem FU{α:Type}{T:Ty α}{E:TypeId}{I:IH}{w:World}{B:Nat}{v:Value}{l:List α}(h:aP T E I w B v l):∃ao cap,v= .slice ao l.length cap:=by
 obtain⟨xs,h1,_⟩:=h;rcases h1.2 with⟨h,h0⟩|⟨g,cap,cur,h,_⟩
 ·exact⟨none,0,by rw[h,h0]⟩
 ·exact⟨_,_,h⟩
structure RgC {Y:Type} (W:World) (jc ja:Nat) (Gc:Y→World→Prop) (Ga:Nat→World→Prop) (m:Nat×Y→Nat) (t:TypeId) (s1 s2 s3:Nat) (R1 R2 R3:Nat×Y→Array Value) (x:Nat×Y) (s:Array Bool) (w:World):Prop where
 off:s.getD s1 false=false→Below W.heap.size W w
 fc:s.getD jc false=true→s.getD s1 false=false→Gc x.2 w
 fa:s.getD ja false=true→s.getD s1 false=false→Ga x.1 w
 on:s.getD s1 false=true→ ∃wb,Below W.heap.size W wb∧Gc x.2 wb∧Ga x.1 wb∧wb.grownBy w (some (m x))∧
  w.heap[m x]?=some (.cells (if s.getD s3 false=true then R3 x else if s.getD s2 false=true then R2 x else R1 x) t (0,0))
section
variable {Y:Type} {W w w':World} {jc ja:Nat} {Gc:Y→World→Prop} {Ga:Nat→World→Prop} {m:Nat×Y→Nat} {t:TypeId} {s1 s2 s3:Nat} {R1 R2 R3:Nat×Y→Array Value} {x:Nat×Y} {s:Array Bool} {i:Nat}
end
theorem nO{P:Program}{ops:Array Oper}{rest:List Oper}{o:Oper}{a:Act}{w:World}{Q:Exit→Act→World→Prop}(CK:o.guard=none)(hd:o.dst=none)(ty:TypeId)(x y:Operand)(ho:o.op= .store ty x y)
 (g off:Nat) (cs:List Value) (v:Value) (hx:a.eval x= .pointer (some ⟨g,off,none⟩)) (hy:a.eval y=v) (hv:v.cells=cs.toArray) (cur:Array Value) (tt:TypeId)
 (hg:w.heap[g]?=some (.cells cur tt (0,0))) (nJ:off+cs.length≤cur.size) (hi:(P.info? ty).map (·.size)=some cs.length) (h1:∀v∈cs,v.oneCell'=true) (R:Array Value) (hR:over cur off cs=R)
 (h:∀w',w.grownBy w' (some g)→w'.heap[g]?=some (.cells R tt (0,0))→wpList P ops Q rest a w'):wpList P ops Q (o::rest) a w:=by
 refine wpList_plain CK fun _ hK=> ?_;exact GZ ty x y ho g off cs v hx hy hv cur tt hg nJ hi h1 (hK _ _ (by rw[hd];exact h _ BP (by rw[←hR];exact setRow_heap w g cur _ tt (0,0) hg)))
structure lY (I:IH) (w0:World) (J:IH) (W:World):Prop where
 ok:Ok J W
 keep:∀b c,I b=some c→J b=some c
 dE:Below w0.heap.size w0 W
section
variable {I J J':IH} {w0 W W':World}
theorem lY.start(h:Ok I w0):lY I w0 I w0:=⟨h,fun _ _ h=>h,Qb _ _⟩
theorem lY.quiet(h:lY I w0 J W)(hb:Below W.heap.size W W'):lY I w0 J W':=⟨h.ok.below (Qn _) hb,h.keep,h.dE.trans (hb.mono h.dE.size)⟩
theorem lY.past(h:lY I w0 J W)(o:Obj):lY I w0 J (W.alloc o):=h.quiet ((Qb _ _).alloc (Qn _) o)
theorem lY.ext(h:lY I w0 J W)(hb:Below W.heap.size W W')(hx:Ext W.heap.size J J')(gG:Ok J' W'):lY I w0 J' W':=
 ⟨gG,fun b c hc=>hx.keep h.ok (Qn _) b c (h.keep b c hc),h.dE.trans (hb.mono h.dE.size)⟩
theorem lY.size(h:lY I w0 J W):w0.heap.size≤W.heap.size:=h.dE.size
end
abbrev ug(e:Int):Value:= .iface 210 (.agg #[.int .i64 e])
abbrev vU(e:Int):Ending:= .panicked [{v:=ug e,recovered:=false}]
abbrev dG(n:Nat):Value:= .pointer (some ⟨n,0,none⟩)
abbrev PP:Value:= .func (.func 233) #[] #[]
abbrev zW(n:Nat):Value:= .func (.func 234) #[] #[dG n,dG (n+1),dG (n+3)]
abbrev Cc(n:Nat):Value:= .func (.func 235) #[] #[dG n,dG (n+1),dG (n+3)]
abbrev cntF(n:Nat):Value:= .func (.func 236) #[] #[dG (n+2),dG (n+3)]
structure vC (W:World) (n:Nat) (s:ae) (ba:Nat):Prop where
 r0:W.heap[n]?=some (.cells #[S s] 9 (0,0))
 r1:W.heap[n+1]?=some (.cells #[dG ba] 214 (0,0))
 r2:W.heap[n+2]?=some (.cells #[zW n] 190 (0,0))
 r3:W.heap[n+3]?=some (.cells #[PP] 275 (0,0))
 lt:ba<n
def uh(W:World)(ba:Nat)(a:Nat):Prop:=W.heap[ba]?=some (.cells #[.int .i64 (a:Int)] 3 (0,0))
section
variable {W W' W'':World} {n ba a:Nat} {s:ae} {row:Option Nat}
theorem iL{k:Nat}{c:Array Value}{e:TypeId}(h:W.heap[k]?=some (.cells c e (0,0)))(hg:W.grownBy W' row)(bZ:row≠some k):W'.heap[k]?=some (.cells c e (0,0)):=
 (hg.block k (Qg h) (fun q=>bZ q.symm)).trans h
theorem jg{k:Nat}{c:Array Value}{e:TypeId}(h:W.heap[k]?=some (.cells c e (0,0)))(hb:Below W.heap.size W W'):W'.heap[k]?=some (.cells c e (0,0)):=
 (hb.block k (Qg h)).trans h
theorem vC.own(h:vC W n s ba)(hg:W.grownBy W' row)(bZ:∀g,row=some g→g<n∨n+3<g):vC W' n s ba:=
 ⟨iL h.r0 hg (fun q=>by have:=bZ _ q;omega),iL h.r1 hg (fun q=>by have:=bZ _ q;omega),iL h.r2 hg (fun q=>by have:=bZ _ q;omega),iL h.r3 hg (fun q=>by have:=bZ _ q;omega),h.lt⟩
theorem vC.aA(h:vC W n s ba)(hb:Below W.heap.size W W'):vC W' n s ba:=⟨jg h.r0 hb,jg h.r1 hb,jg h.r2 hb,jg h.r3 hb,h.lt⟩
theorem WZ(hb:Below W.heap.size W W')(hg:W'.grownBy W'' row):W.grownBy W'' row:=
 ⟨hg.os.trans hb.os,hg.tape.trans hb.tape,hg.output.trans hb.output,Nat.le_trans hb.size hg.size,fun k hk bZ=>(hg.block k (Nat.lt_of_lt_of_le hk hb.size) bZ).trans (hb.block k hk)⟩
end
theorem Xj8(w:World):Calls Tryz.prog 233 #[.int .i64 0] w fun e w'=>e= .returned (.tuple #[])∧w'=w:=by
 go_enter Tryz.func233,Tryz.ntmps233
 go_wp2;go_end0
 exact⟨rfl,rfl⟩
theorem Xa(x:Int)(hx:(x !=0)=true)(w:World):Calls Tryz.prog 233 #[.int .i64 x] w fun e w'=>e=vU x∧w'=w:=by
 go_enter Tryz.func233,Tryz.ntmps233
 go_wp2;exact⟨rfl,rfl,rfl⟩
theorem cell0{W:World}{k:Nat}{v:Value}{e:TypeId}(h:W.heap[k]?=some (.cells #[v] e (0,0))):W.cell? ⟨k,0,none⟩=some v:=(cell_of_row _ _ 0 _ _ _ h).trans rfl
theorem PQ{W:World}{k:Nat}{c:Array Value}{e:TypeId}(h:W.heap[k]?=some (.cells c e (0,0))):W.frozen? ⟨k,0,none⟩=false:=by
 unfold World.frozen?;rw[h];rfl
theorem FW:(Tryz.prog.info? 3).map (·.size)=some 1:=by kernel_rfl
theorem KG(I:IH)(hI:dQ I)(s:ae)(hs:s.length≤4294967280)(n ba a:Nat)(w:World)(hw:Ok I w)(hB:vC w n s ba)(hA:uh w ba a)(ha:a≤4294967280)(x:ae)(b:Nat)(h:rdStr s a= .ok (x,b)):
 Calls Tryz.prog 235 #[dG n,dG (n+1),dG (n+3)] w fun e w'=>e= .returned (S x)∧uh w' ba b∧w.grownBy w' (some ba):=by
 have Hr:=Qh (fun w hw=>WX I hI s hs a (by omega) w hw);rw[h,T9]at Hr;have Hb:=Qh hB;have Ha:=Qh hA;have c0:=cell0 hB.r0;have c1:=cell0 hB.r1;have c3:=cell0 hA;have f3:=PQ hA;have g0:=cell_regrown c0;have g1:=cell_regrown c1;have g3:=cell_regrown c3;clear h hA hB c0 c1 c3 f3;go_enter Tryz.func235,Tryz.ntmps235
 go_wp2_with fail
 refine wp_region_quiet_below (by kernel_rfl) (by kernel_rfl) ?_;repeat(go_big_quiet_step ((with_reducible exact Calls.regrown_of (Hr.O _ (hw.below (Qn _) (below_regrown _ _ _))))))
 refine wpQuiet_nil ?_;intro w1 bg;have au:Below (w).heap.size (w) w1:=by
  obtain⟨pq,rfl⟩:=bg;exact below_regrown _ _ _
 clear bg;clear g0 g1 g3 Hr;have iq:=Qh (Hb.O.aA au);have HA1:=Qh (show uh w1 ba a from jg Ha.O au);have c1:=cell0 iq.O.r1;have c2:=cell0 iq.O.r3;go_wp2_with fail
 refine(Xj8 _).mono ?_;rintro e w2 ⟨rfl,rfl⟩
 go_wp2_with (refine nO rfl rfl 3 _ _ rfl ba 0 [.int .i64 (b:Int)] (.int .i64 (b:Int)) (by simp[Act.eval]) (by simp[Act.eval]) (by rfl) _ 3 HA1.O (by simp) FW (by simp[Value.oneCell']) #[.int .i64 (b:Int)] (by rfl) ?_
              intro w3 wL gM)
 go_wp2;go_ret;exact⟨rfl,gM,WZ au wL⟩
theorem KH(I:IH)(hI:dQ I)(s:ae)(hs:s.length≤4294967280)(n ba a:Nat)(w:World)(hw:Ok I w)(hB:vC w n s ba)(hA:uh w ba a)(ha:a≤4294967280)(z:Int)(hz:(z !=0)=true)(h:rdStr s a= .error z):
 Calls Tryz.prog 235 #[dG n,dG (n+1),dG (n+3)] w fun e w'=>e=vU z∧Below w.heap.size w w':=by
 have Hr:=Qh (fun w hw=>WX I hI s hs a (by omega) w hw);rw[h,Ua]at Hr;have Hb:=Qh hB;have g0:=cell_regrown (cell0 hB.r0);have g1:=cell_regrown (cell0 hB.r1);have g3:=cell_regrown (cell0 hA);clear h hA hB;go_enter Tryz.func235,Tryz.ntmps235
 go_wp2_with fail
 refine wp_region_quiet_below (by kernel_rfl) (by kernel_rfl) ?_;repeat(go_big_quiet_step ((with_reducible exact Calls.regrown_of (Hr.O _ (hw.below (Qn _) (below_regrown _ _ _))))))
 refine wpQuiet_nil ?_;intro w1 bg;have au:Below (w).heap.size (w) w1:=by
  obtain⟨pq,rfl⟩:=bg;exact below_regrown _ _ _
 clear bg;clear g0 g1 g3 Hr;have c2:=cell0 (Hb.O.aA au).r3;go_wp2_with fail
 refine(Xa _ hz _).mono ?_;rintro e w2 ⟨rfl,rfl⟩;go_wp2;exact⟨rfl,rfl,au⟩
theorem NN(I:IH)(hI:dQ I)(s:ae)(hs:s.length≤4294967280)(n ba a:Nat)(w:World)(hw:Ok I w)(hB:vC w n s ba)(hA:uh w ba a)(ha:a≤4294967280)(x:Int)(b:Nat)(h:rdNum s a= .ok (x,b)):
 Calls Tryz.prog 234 #[dG n,dG (n+1),dG (n+3)] w fun e w'=>e= .returned (.int .i64 x)∧uh w' ba b∧w.grownBy w' (some ba):=by
 have Hr:=Qh (fun w hw=>WW I hI s hs a (by omega) w hw);rw[h,Xy0]at Hr;have Hb:=Qh hB;have Ha:=Qh hA;have c0:=cell0 hB.r0;have c1:=cell0 hB.r1;have c3:=cell0 hA;have f3:=PQ hA;have g0:=cell_regrown c0;have g1:=cell_regrown c1;have g3:=cell_regrown c3;clear h hA hB c0 c1 c3 f3;go_enter Tryz.func234,Tryz.ntmps234
 go_wp2_with fail
 refine wp_region_quiet_below (by kernel_rfl) (by kernel_rfl) ?_;repeat(go_big_quiet_step ((with_reducible exact Calls.regrown_of (Hr.O _ (hw.below (Qn _) (below_regrown _ _ _))))))
 refine wpQuiet_nil ?_;intro w1 bg;have au:Below (w).heap.size (w) w1:=by
  obtain⟨pq,rfl⟩:=bg;exact below_regrown _ _ _
 clear bg;clear g0 g1 g3 Hr;have iq:=Qh (Hb.O.aA au);have HA1:=Qh (show uh w1 ba a from jg Ha.O au);have c1:=cell0 iq.O.r1;have c2:=cell0 iq.O.r3;go_wp2_with fail
 refine(Xj8 _).mono ?_;rintro e w2 ⟨rfl,rfl⟩
 go_wp2_with (refine nO rfl rfl 3 _ _ rfl ba 0 [.int .i64 (b:Int)] (.int .i64 (b:Int)) (by simp[Act.eval]) (by simp[Act.eval]) (by rfl) _ 3 HA1.O (by simp) FW (by simp[Value.oneCell']) #[.int .i64 (b:Int)] (by rfl) ?_
              intro w3 wL gM)
 go_wp2;go_ret;exact⟨rfl,gM,WZ au wL⟩
theorem PR(I:IH)(hI:dQ I)(s:ae)(hs:s.length≤4294967280)(n ba a:Nat)(w:World)(hw:Ok I w)(hB:vC w n s ba)(hA:uh w ba a)(ha:a≤4294967280)(z:Int)(hz:(z !=0)=true)(h:rdNum s a= .error z):
 Calls Tryz.prog 234 #[dG n,dG (n+1),dG (n+3)] w fun e w'=>e=vU z∧Below w.heap.size w w':=by
 have Hr:=Qh (fun w hw=>WW I hI s hs a (by omega) w hw);rw[h,Xyz]at Hr;have Hb:=Qh hB;have g0:=cell_regrown (cell0 hB.r0);have g1:=cell_regrown (cell0 hB.r1);have g3:=cell_regrown (cell0 hA);clear h hA hB;go_enter Tryz.func234,Tryz.ntmps234
 go_wp2_with fail
 refine wp_region_quiet_below (by kernel_rfl) (by kernel_rfl) ?_;repeat(go_big_quiet_step ((with_reducible exact Calls.regrown_of (Hr.O _ (hw.below (Qn _) (below_regrown _ _ _))))))
 refine wpQuiet_nil ?_;intro w1 bg;have au:Below (w).heap.size (w) w1:=by
  obtain⟨pq,rfl⟩:=bg;exact below_regrown _ _ _
 clear bg;clear g0 g1 g3 Hr;have c2:=cell0 (Hb.O.aA au).r3;go_wp2_with fail
 refine(Xa _ hz _).mono ?_;rintro e w2 ⟨rfl,rfl⟩;go_wp2;exact⟨rfl,rfl,au⟩
