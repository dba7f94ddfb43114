/- Lemmas for the claim's theorem;conditions: as each says. -/
import Derived.Shelf.LaysM
import Derived.Shelf.LaysC
import Derived.Shelf.Strconv.Itoa3
import Derived.Shelf.Strconv.AtoiAll
import Derived.Shelf.Strconv.ErrVarAll
import Derived.Test.YtegieeommgiknaaGreatDoorProg
import Derived.Test.YtegieeommgiknaaGreatDoorU03
set_option maxHeartbeats 0
set_option maxRecDepth 100000
set_option linter.all false
namespace Go.Proofs
open Go.Shelf
def Tryz.zM:Go.Shelf.Ren:=⟨fun|171=>150|243=>191|246=>219|283=>232|284=>233|285=>234|286=>235|129=>247|317=>246|318=>248|319=>249|320=>250|337=>253|338=>254|n=>n,fun|3=>3|9=>9|2=>2|4=>4|171=>254|0=>0|53=>166|37=>144|5=>5|173=>257|212=>271|51=>25|20=>20|213=>272|46=>168|232=>276|233=>277|n=>n,fun|17=>5|18=>6|19=>7|n=>n⟩
theorem Tryz.IA:Go.Proofs.LaysM.n171 Tryz.prog Tryz.zM:={
 mixed:=by kernel_rfl
 f129:=Tryz.func247.trans (congrArg some (by kernel_rfl))
 f171:=Tryz.func150.trans (congrArg some (by kernel_rfl))
 f243:=Tryz.func191.trans (congrArg some (by kernel_rfl))
 f246:=Tryz.func219.trans (congrArg some (by kernel_rfl))
 f283:=Tryz.func232.trans (congrArg some (by kernel_rfl))
 f284:=Tryz.func233.trans (congrArg some (by kernel_rfl))
 f285:=Tryz.func234.trans (congrArg some (by kernel_rfl))
 f286:=Tryz.func235.trans (congrArg some (by kernel_rfl))
 f317:=Tryz.func246.trans (congrArg some (by kernel_rfl))
 f318:=Tryz.func248.trans (congrArg some (by kernel_rfl))
 f319:=Tryz.func249.trans (congrArg some (by kernel_rfl))
 f320:=Tryz.func250.trans (congrArg some (by kernel_rfl))
 f337:=Tryz.func253.trans (congrArg some (by kernel_rfl))
 f338:=Tryz.func254.trans (congrArg some (by kernel_rfl))
 t0:=Tryz.underlying0
 a0:=Tryz.isAgg0
 z0:=Tryz.sizeOf0
 v0:=Tryz.zeroValue0
 t2:=Tryz.underlying2
 a2:=Tryz.isAgg2
 z2:=Tryz.sizeOf2
 v2:=Tryz.zeroValue2
 t3:=Tryz.underlying3
 a3:=Tryz.isAgg3
 z3:=Tryz.sizeOf3
 v3:=Tryz.zeroValue3
 t4:=Tryz.underlying4
 a4:=Tryz.isAgg4
 z4:=Tryz.sizeOf4
 v4:=Tryz.zeroValue4
 t5:=Tryz.underlying5
 a5:=Tryz.isAgg5
 z5:=Tryz.sizeOf5
 v5:=Tryz.zeroValue5
 t9:=Tryz.underlying9
 a9:=Tryz.isAgg9
 z9:=Tryz.sizeOf9
 v9:=Tryz.zeroValue9
 t20:=Tryz.underlying20
 a20:=Tryz.isAgg20
 z20:=Tryz.sizeOf20
 v20:=Tryz.zeroValue20
 t37:=Tryz.underlying144
 a37:=Tryz.isAgg144
 z37:=Tryz.sizeOf144
 v37:=Tryz.zeroValue144
 t46:=Tryz.underlying168
 a46:=Tryz.isAgg168
 z46:=Tryz.sizeOf168
 v46:=Tryz.zeroValue168
 t51:=Tryz.underlying25
 a51:=Tryz.isAgg25
 z51:=Tryz.sizeOf25
 v51:=Tryz.zeroValue25
 t53:=Tryz.underlying166
 a53:=Tryz.isAgg166
 z53:=Tryz.sizeOf166
 v53:=Tryz.zeroValue166
 t171:=Tryz.underlying254
 a171:=Tryz.isAgg254
 z171:=Tryz.sizeOf254
 v171:=Tryz.zeroValue254
 t173:=Tryz.underlying257
 a173:=Tryz.isAgg257
 z173:=Tryz.sizeOf257
 v173:=Tryz.zeroValue257
 t212:=Tryz.underlying271
 a212:=Tryz.isAgg271
 z212:=Tryz.sizeOf271
 v212:=Tryz.zeroValue271
 t213:=Tryz.underlying272
 a213:=Tryz.isAgg272
 z213:=Tryz.sizeOf272
 t232:=Tryz.underlying276
 a232:=Tryz.isAgg276
 z232:=Tryz.sizeOf276
 v232:=Tryz.zeroValue276
 t233:=Tryz.underlying277
 a233:=Tryz.isAgg277
 z233:=Tryz.sizeOf277
 v233:=Tryz.zeroValue277
 g17:=by kernel_rfl
 g18:=by kernel_rfl
 g19:=by kernel_rfl
 i0:=by kernel_rfl
 i2:=by kernel_rfl
 i3:=by kernel_rfl
 i4:=by kernel_rfl
 i5:=by kernel_rfl
 i9:=by kernel_rfl
 i20:=by kernel_rfl
 i37:=by kernel_rfl
 i46:=by kernel_rfl
 i51:=by kernel_rfl
 i53:=by kernel_rfl
 i171:=by kernel_rfl
 i173:=by kernel_rfl
 i212:=by kernel_rfl
 i232:=by kernel_rfl
 i233:=by kernel_rfl
 m17:=by kernel_rfl
 m18:=by kernel_rfl
 m19:=by kernel_rfl}
open Go.RowKit Go.Sort Go.Lib in
theorem Tryz.strconv_Itoa(n : Int)(h0 : -9223372036854775808≤n)(h1 : n≤9223372036854775807)(w : World)(aeY : Lib.TabIs Tryz.prog w "internal/strconv.uint64pow10" .u64 Lib.pow10Tab) :
 Calls Tryz.prog 150 #[.int .i64 n] w fun e w'=>e= .returned (.string ⟨(Lib.itoa n).toArray⟩)∧ ∃k os,w'=grow (w.drewN k) os:=Any.strconv_Itoa Tryz.IA n h0 h1 w aeY
def Tryz.zN:Go.Shelf.Ren:=⟨fun|172=>131|244=>178|245=>179|247=>212|279=>213|280=>214|281=>215|282=>216|287=>229|316=>230|171=>150|205=>231|321=>244|322=>245|243=>191|246=>219|283=>232|284=>233|285=>234|286=>235|129=>247|317=>246|318=>248|319=>249|320=>250|337=>253|338=>254|n=>n,fun|9=>9|3=>3|75=>155|76=>156|4=>4|5=>5|167=>236|37=>144|0=>0|85=>237|2=>2|168=>239|53=>166|175=>249|46=>168|210=>252|127=>187|145=>269|143=>267|21=>21|171=>254|173=>257|212=>271|51=>25|20=>20|213=>272|232=>276|233=>277|80=>159|n=>n,fun|15=>1|16=>2|17=>5|18=>6|19=>7|n=>n⟩
theorem Tryz.xz:Go.Proofs.LaysC.n172 Tryz.prog Tryz.zN:={
 mixed:=by kernel_rfl
 f129:=Tryz.func247.trans (congrArg some (by kernel_rfl))
 f171:=Tryz.func150.trans (congrArg some (by kernel_rfl))
 f172:=Tryz.func131.trans (congrArg some (by kernel_rfl))
 f205:=Tryz.func231.trans (congrArg some (by kernel_rfl))
 f243:=Tryz.func191.trans (congrArg some (by kernel_rfl))
 f244:=Tryz.func178.trans (congrArg some (by kernel_rfl))
 f245:=Tryz.func179.trans (congrArg some (by kernel_rfl))
 f246:=Tryz.func219.trans (congrArg some (by kernel_rfl))
 f247:=Tryz.func212.trans (congrArg some (by kernel_rfl))
 f279:=Tryz.func213.trans (congrArg some (by kernel_rfl))
 f280:=Tryz.func214.trans (congrArg some (by kernel_rfl))
 f281:=Tryz.func215.trans (congrArg some (by kernel_rfl))
 f282:=Tryz.func216.trans (congrArg some (by kernel_rfl))
 f283:=Tryz.func232.trans (congrArg some (by kernel_rfl))
 f284:=Tryz.func233.trans (congrArg some (by kernel_rfl))
 f285:=Tryz.func234.trans (congrArg some (by kernel_rfl))
 f286:=Tryz.func235.trans (congrArg some (by kernel_rfl))
 f287:=Tryz.func229.trans (congrArg some (by kernel_rfl))
 f316:=Tryz.func230.trans (congrArg some (by kernel_rfl))
 f317:=Tryz.func246.trans (congrArg some (by kernel_rfl))
 f318:=Tryz.func248.trans (congrArg some (by kernel_rfl))
 f319:=Tryz.func249.trans (congrArg some (by kernel_rfl))
 f320:=Tryz.func250.trans (congrArg some (by kernel_rfl))
 f321:=Tryz.func244.trans (congrArg some (by kernel_rfl))
 f322:=Tryz.func245.trans (congrArg some (by kernel_rfl))
 f337:=Tryz.func253.trans (congrArg some (by kernel_rfl))
 f338:=Tryz.func254.trans (congrArg some (by kernel_rfl))
 t0:=Tryz.underlying0
 a0:=Tryz.isAgg0
 z0:=Tryz.sizeOf0
 v0:=Tryz.zeroValue0
 t2:=Tryz.underlying2
 a2:=Tryz.isAgg2
 z2:=Tryz.sizeOf2
 v2:=Tryz.zeroValue2
 t3:=Tryz.underlying3
 a3:=Tryz.isAgg3
 z3:=Tryz.sizeOf3
 v3:=Tryz.zeroValue3
 t4:=Tryz.underlying4
 a4:=Tryz.isAgg4
 z4:=Tryz.sizeOf4
 v4:=Tryz.zeroValue4
 t5:=Tryz.underlying5
 a5:=Tryz.isAgg5
 z5:=Tryz.sizeOf5
 v5:=Tryz.zeroValue5
 t9:=Tryz.underlying9
 a9:=Tryz.isAgg9
 z9:=Tryz.sizeOf9
 v9:=Tryz.zeroValue9
 t20:=Tryz.underlying20
 a20:=Tryz.isAgg20
 z20:=Tryz.sizeOf20
 v20:=Tryz.zeroValue20
 t21:=Tryz.underlying21
 a21:=Tryz.isAgg21
 z21:=Tryz.sizeOf21
 v21:=Tryz.zeroValue21
 t37:=Tryz.underlying144
 a37:=Tryz.isAgg144
 z37:=Tryz.sizeOf144
 v37:=Tryz.zeroValue144
 t46:=Tryz.underlying168
 a46:=Tryz.isAgg168
 z46:=Tryz.sizeOf168
 v46:=Tryz.zeroValue168
 t51:=Tryz.underlying25
 a51:=Tryz.isAgg25
 z51:=Tryz.sizeOf25
 v51:=Tryz.zeroValue25
 t53:=Tryz.underlying166
 a53:=Tryz.isAgg166
 z53:=Tryz.sizeOf166
 v53:=Tryz.zeroValue166
 t75:=Tryz.underlying155
 a75:=Tryz.isAgg155
 z75:=Tryz.sizeOf155
 v75:=Tryz.zeroValue155
 t76:=Tryz.underlying156
 a76:=Tryz.isAgg156
 z76:=Tryz.sizeOf156
 v76:=Tryz.zeroValue156
 t85:=Tryz.underlying237
 a85:=Tryz.isAgg237
 z85:=Tryz.sizeOf237
 v85:=Tryz.zeroValue237
 t127:=Tryz.underlying187
 a127:=Tryz.isAgg187
 z127:=Tryz.sizeOf187
 v127:=Tryz.zeroValue187
 t143:=Tryz.underlying267
 a143:=Tryz.isAgg267
 z143:=Tryz.sizeOf267
 v143:=Tryz.zeroValue267
 t145:=Tryz.underlying269
 a145:=Tryz.isAgg269
 z145:=Tryz.sizeOf269
 v145:=Tryz.zeroValue269
 t167:=Tryz.underlying236
 a167:=Tryz.isAgg236
 z167:=Tryz.sizeOf236
 v167:=Tryz.zeroValue236
 t168:=Tryz.underlying239
 a168:=Tryz.isAgg239
 z168:=Tryz.sizeOf239
 v168:=Tryz.zeroValue239
 t171:=Tryz.underlying254
 a171:=Tryz.isAgg254
 z171:=Tryz.sizeOf254
 v171:=Tryz.zeroValue254
 t173:=Tryz.underlying257
 a173:=Tryz.isAgg257
 z173:=Tryz.sizeOf257
 v173:=Tryz.zeroValue257
 t175:=Tryz.underlying249
 a175:=Tryz.isAgg249
 z175:=Tryz.sizeOf249
 v175:=Tryz.zeroValue249
 t210:=Tryz.underlying252
 a210:=Tryz.isAgg252
 z210:=Tryz.sizeOf252
 v210:=Tryz.zeroValue252
 t212:=Tryz.underlying271
 a212:=Tryz.isAgg271
 z212:=Tryz.sizeOf271
 v212:=Tryz.zeroValue271
 t213:=Tryz.underlying272
 a213:=Tryz.isAgg272
 z213:=Tryz.sizeOf272
 t232:=Tryz.underlying276
 a232:=Tryz.isAgg276
 z232:=Tryz.sizeOf276
 v232:=Tryz.zeroValue276
 t233:=Tryz.underlying277
 a233:=Tryz.isAgg277
 z233:=Tryz.sizeOf277
 v233:=Tryz.zeroValue277
 g15:=by kernel_rfl
 g16:=by kernel_rfl
 g17:=by kernel_rfl
 g18:=by kernel_rfl
 g19:=by kernel_rfl
 t80:=Tryz.underlying159
 a80:=Tryz.isAgg159
 z80:=Tryz.sizeOf159
 v80:=Tryz.zeroValue159
 i0:=by kernel_rfl
 i2:=by kernel_rfl
 i3:=by kernel_rfl
 i4:=by kernel_rfl
 i5:=by kernel_rfl
 i9:=by kernel_rfl
 i20:=by kernel_rfl
 i21:=by kernel_rfl
 i37:=by kernel_rfl
 i46:=by kernel_rfl
 i51:=by kernel_rfl
 i53:=by kernel_rfl
 i75:=by kernel_rfl
 i76:=by kernel_rfl
 i80:=by kernel_rfl
 i85:=by kernel_rfl
 i127:=by kernel_rfl
 i143:=by kernel_rfl
 i145:=by kernel_rfl
 i167:=by kernel_rfl
 i168:=by kernel_rfl
 i171:=by kernel_rfl
 i173:=by kernel_rfl
 i175:=by kernel_rfl
 i210:=by kernel_rfl
 i212:=by kernel_rfl
 i232:=by kernel_rfl
 i233:=by kernel_rfl
 m15:=by kernel_rfl
 m16:=by kernel_rfl
 m17:=by kernel_rfl
 m18:=by kernel_rfl
 m19:=by kernel_rfl
 c0:=by kernel_rfl
 c2:=by kernel_rfl
 c3:=by kernel_rfl
 c4:=by kernel_rfl
 c5:=by kernel_rfl
 c9:=by kernel_rfl
 c20:=by kernel_rfl
 c21:=by kernel_rfl
 c37:=by kernel_rfl
 c46:=by kernel_rfl
 c51:=by kernel_rfl
 c53:=by kernel_rfl
 c75:=by kernel_rfl
 c76:=by kernel_rfl
 c80:=by kernel_rfl
 c85:=by kernel_rfl
 c127:=by kernel_rfl
 c143:=by kernel_rfl
 c145:=by kernel_rfl
 c167:=by kernel_rfl
 c168:=by kernel_rfl
 c171:=by kernel_rfl
 c173:=by kernel_rfl
 c175:=by kernel_rfl
 c210:=by kernel_rfl
 c212:=by kernel_rfl
 c213:=by kernel_rfl
 c232:=by kernel_rfl
 c233:=by kernel_rfl}
open Go.RowKit in
theorem Tryz.strconv_Atoi_ok(s:ByteArray)(QO:s.size≤9223372036854775806)(v:Int)(h:Lib.atoiAll s.data.toList= .ok v)(w:World):
 Calls Tryz.prog 131 #[.string s] w fun e w'=>e= .returned (.tuple #[.int .i64 v,.nilIface])∧(w'=w∨ ∃t,w'=Lib.bytesWorld w 5 t):=Any.strconv_Atoi_ok Tryz.xz s QO v h w
open Go.RowKit in
theorem Tryz.strconv_Atoi_syntax_var(s : ByteArray)(QP : s.size≤281474976710656)(h : ∀n,Lib.atoiAll s.data.toList≠ .ok n)(hr : Lib.atoiAll s.data.toList≠ .range)(tp : TypeId)(p : Value)(w : World)(QQ : w.var? Tryz.prog "strconv.ErrSyntax" =some #[.iface tp p]) :
 Calls Tryz.prog 131 #[.string s] w fun e w'=> ∃N,e= .returned (.tuple #[.int .i64 0,.iface 239 (.pointer (some ⟨N,0,none⟩))])∧w.heap.size≤N∧w'.heap[N]?=some (.cells #[.string ⟨#[65,116,111,105]⟩,.string s,.iface tp p] 252 (0,0))∧Below w.heap.size w w':=by
 cases hq:Lib.atoiAll s.data.toList
 ·exact absurd hq (h _)
 ·exact Any.strconv_Atoi_syntax_var Tryz.xz s QP hq tp p w QQ
 ·exact absurd hq hr
open Go.RowKit in
theorem Tryz.strconv_Atoi_range_var(s : ByteArray)(QP : s.size≤281474976710656)(h : Lib.atoiAll s.data.toList= .range)(tp : TypeId)(p : Value)(w : World)(QQ : w.var? Tryz.prog "strconv.ErrRange" =some #[.iface tp p]) :
 Calls Tryz.prog 131 #[.string s] w fun e w'=> ∃N,e= .returned (.tuple #[.int .i64 (Lib.atoiSat s.data.toList),.iface 239 (.pointer (some ⟨N,0,none⟩))])∧w.heap.size≤N∧w'.heap[N]?=some (.cells #[.string ⟨#[65,116,111,105]⟩,.string s,.iface tp p] 252 (0,0))∧Below w.heap.size w w':=Any.strconv_Atoi_range_var Tryz.xz s QP h tp p w QQ
end Go.Proofs
namespace Go.Proofs.YtegieeommgiknaaGreatDoor
open Go.RowKit
theorem Xoe(w:World)(q:Nat):Below w.heap.size w (w.drewN q):=⟨rfl,rfl,rfl,Qn _,fun _ _=>rfl⟩
structure fG (I:IH):Prop where
 pow:I 5=some (Lib.pow10Tab.map fun z=>Value.int .u64 z).toArray
 max:∃c m,I 0=some c∧c[0]?=some (.int .i64 m)
 syn:∃tp p,I 1=some #[.iface tp p]
 rng:∃tp p,I 2=some #[.iface tp p]
theorem fG.mono{I I':IH}(h:fG I)(k:∀b c,I b=some c→I' b=some c):fG I':=
 ⟨k _ _ h.pow,(let ⟨c,m,h1,h2⟩:=h.max;⟨c,m,k _ _ h1,h2⟩),(let ⟨tp,p,h1⟩:=h.syn;⟨tp,p,k _ _ h1⟩),(let ⟨tp,p,h1⟩:=h.rng;⟨tp,p,k _ _ h1⟩)⟩
theorem fG.O6{I:IH}{w:World}(h:fG I)(hw:Ok I w):∃m,w.cell? ⟨0,0,none⟩=some (.int .i64 m):=by
 obtain⟨c,m,h1,h2⟩:=h.max;exact⟨m,by rw[hw.cell h1];exact h2⟩
theorem Xul(l:List ByteArray):(l.map (·.data.toList)).map (fun b=>Value.string ⟨b.toArray⟩)=l.map Value.string:=by
 rw[List.map_map];apply List.map_congr_left;intro b _;simp
theorem Xsj(I:IH)(hI:fG I)(s:af)(hs:s.length≤4294967280)(w:World)(hw:Ok I w):
 Calls Tryz.prog 167 #[S s,S [47]] w (OV iE I w (fJ [] s)):=by
 obtain⟨m,hm⟩:=hI.O6 hw;have bS:(⟨s.toArray⟩:ByteArray).size=s.length:=by simp[ByteArray.size]
 refine(Tryz.strings_Split ⟨s.toArray⟩ ⟨[47].toArray⟩ m w (by omega) hm (by decide)).mono fun e w' ⟨he,hq⟩=> ?_;have abE:=Xrk s;have aeZ:=Lib.splitB_data ⟨[47].toArray⟩ 0 (Lib.countB ⟨s.toArray⟩ ⟨[47].toArray⟩) ⟨s.toArray⟩;have au:(Lib.splitB ⟨[47].toArray⟩ 0 (Lib.countB ⟨s.toArray⟩ ⟨[47].toArray⟩) ⟨s.toArray⟩).map (·.data.toList)=fJ [] s:=by rw[aeZ,←abE];rfl
 have hlen:Lib.countB ⟨s.toArray⟩ ⟨[47].toArray⟩+1=(fJ [] s).length:=by
  rw[←au,List.length_map];exact(Lib.splitB_all ⟨[47].toArray⟩ (by decide) 0 _ ⟨s.toArray⟩ rfl).symm
 have D9:((Lib.splitB ⟨[47].toArray⟩ 0 (Lib.countB ⟨s.toArray⟩ ⟨[47].toArray⟩) ⟨s.toArray⟩).map Value.string)=(fJ [] s).map fun b=>S b:=by
  rw[←au,Xul]
 have bO:Lib.countB ⟨s.toArray⟩ ⟨[47].toArray⟩≤s.length:=by
  have:=Lib.countB_le ⟨[47].toArray⟩ (by decide) _ ⟨s.toArray⟩ (Qn _);rwa[bS]at this
 rw[D9]at hq;rw[hlen]at he;have QO:(fJ [] s).length≤9223372036854775807:=by omega
 generalize fJ [] s=l at*;subst hq;have hb:=heap_alloc_new w (.cells (l.map fun b=>S b).toArray 9);refine⟨_,I.add w.heap.size (l.map fun b=>S b).toArray,he,(Qb _ _).alloc (Qn _) _,Ext.add (Qn _) _ _,(hw.alloc _).add hb,_,l.length,rfl,Qn _,QO,fun _=>⟨w.heap.size,0,(l.map fun b=>S b).toArray,rfl,by simp[IH.add],fun i hi=>⟨[S l[i]],rfl,fun j u hu=> ?_⟩⟩⟩;have hj:j=0:=by have:=(List.getElem?_eq_some_iff.1 hu).1;simp at this;exact this
 subst hj;obtain rfl:S l[i]=u:=by simpa using hu
 show((l.map fun b=>S b).toArray)[0+(i*1+0)]?=_;rw[show 0+(i*1+0)=i by omega,List.getElem?_toArray,List.getElem?_map,List.getElem?_eq_getElem hi];rfl
theorem Xg7(g:Nat)(p:Nat→Bool)(s:af)(w:World)(eg:∀args w,(callFunc g args).run Tryz.prog w= .ok (.enter g args) w)(hp:∀(x:Nat) (W:World),Calls Tryz.prog g #[.int .i32 (x:Int)] W fun e w'=>e= .returned (.bool (p x))∧w'=W):
 Calls Tryz.prog 201 #[S s,.func (.func g) #[] #[]] w fun e w'=>e= .returned (.bool (decide (0≤Lib.idxFunc p true ⟨s.toArray⟩)))∧Below w.heap.size w w':=
 Tryz.strings_ContainsFunc g #[] eg p ⟨s.toArray⟩ w fun W x _=>by
  have:=hp x W;exact this.mono fun e w' ⟨h1,h2⟩=>⟨h1,0,h2⟩
theorem Xup(I:IH)(v:Value)(l:List af)(hv:aZ iE I v l)(hj:(fT l).length≤4294967296)(hn:l.length≤4294967296)(w:World)(hw:Ok I w):
 Calls Tryz.prog 110 #[v,S [47]] w fun e w'=>e= .returned (S (fT l))∧Below w.heap.size w w':=by
 obtain⟨ao,cap,rfl,fu,iv,hh⟩:=id hv;by_cases h0:l=[]
 ·subst h0;exact(Tryz.strings_Join_none ao cap ⟨[47].toArray⟩ w).mono fun e w' ⟨h1,h2⟩=>⟨h1,by rw[h2];exact Qb _ _⟩
 ·have xX:0<l.length:=List.length_pos_iff.2 h0;obtain⟨b,off,arr,rfl,hI,hl⟩:=hh xX;have hx:(l.map fun s=>(⟨s.toArray⟩:ByteArray)).map (·.data.toList)=l:=by
   rw[List.map_map];conv=>rhs;rw[←List.map_id l]
   apply List.map_congr_left;intro b _;simp
  have zw:Lib.join ((l.map fun s=>(⟨s.toArray⟩:ByteArray)).map (·.data.toList)) (⟨[47].toArray⟩:ByteArray).data.toList=fT l:=by rw[hx];exact Xuq l
  have h:=Tryz.strings_Join b off cap (l.map fun s=>⟨s.toArray⟩) ⟨[47].toArray⟩ w (fun j x hx=> ?_) (hw.lt hI) (by rw[List.length_map];omega) (by rw[List.length_map];exact fu) (by rw[zw];omega)
  ·rw[zw,List.length_map]at h;exact h
  ·rw[List.getElem?_map]at hx;cases hlj:l[j]? with
   |none=>rw[hlj]at hx;simp at hx
   |some s=>
    rw[hlj]at hx;simp at hx;subst hx;obtain⟨zw,hlj⟩:=List.getElem?_eq_some_iff.1 hlj;obtain⟨cs,h1,h2⟩:=hl j zw;have jf:cs=[S l[j]]:=h1;have:=h2 0 (S l[j]) (by rw[jf];rfl);rw[hw.cell hI,←hlj];simpa[iE,Ty.flat]using this
theorem Xsl(I:IH)(v1 v2:Value)(l m:List af)(ny:aZ iE I v1 l)(pY:aZ iE I v2 m)(w:World)(hw:Ok I w):
 Calls Tryz.prog 121 #[v1,v2] w fun e w'=>e= .returned (.bool (decide (l=m)))∧Below w.heap.size w w':=by
 have aG:=ny.bL;have aL:=pY.bL;obtain⟨ao,cap,rfl,fu,iv,hh⟩:=id ny;obtain⟨qN,cap2,rfl,rG,tZ,hh2⟩:=id pY;by_cases ol:l.length=m.length;case neg=>
  refine(Tryz.slices_Equal_string_lens ao qN l.length cap m.length cap2 w ol).mono fun e w' ⟨h1,h2⟩=>⟨?_,by rw[h2];exact Qb _ _⟩;rw[h1,Qf];intro e;exact ol (by rw[e])
 by_cases h0:l=[]
 ·subst h0;have hm:m=[]:=List.eq_nil_of_length_eq_zero (by rw[←ol];rfl);subst hm;exact(Tryz.slices_Equal_string_empty ao qN cap 0 cap2 w (by decide)).mono fun e w' ⟨h1,h2⟩=>⟨h1,by rw[h2];exact Qb _ _⟩
 ·have xX:0<l.length:=List.length_pos_iff.2 h0;obtain⟨b,off,arr,rfl,hI,hl⟩:=hh xX;obtain⟨b2,mh,abF,rfl,lI,DZ⟩:=hh2 (by omega);have cellsOf:∀(l:List af) (b off:Nat) (arr:Array Value),I b=some arr→Ip iE I arr off l→ ∀j,j<(l.map fun s=>(⟨s.toArray⟩:ByteArray)).length→w.cell? ⟨b,off+j,none⟩=some (.string ((l.map fun s=>(⟨s.toArray⟩:ByteArray)).getD j ByteArray.empty)):=by
   intro l b off arr hI hl j hj;rw[List.length_map]at hj;obtain⟨cs,h1,h2⟩:=hl j hj;have jf:cs=[S l[j]]:=h1;have:=h2 0 (S l[j]) (by rw[jf];rfl);rw[hw.cell hI,List.getD_eq_getElem?_getD,List.getElem?_map,List.getElem?_eq_getElem hj];simpa[iE,Ty.flat]using this
  have h:=Tryz.slices_Equal_string b off l.length cap b2 mh m.length cap2 (l.map fun s=>⟨s.toArray⟩) (m.map fun s=>⟨s.toArray⟩) w (by rw[List.length_map];exact Qn _) (by rw[List.length_map];exact Qn _) aG aL (cellsOf l b off arr hI hl) (cellsOf m b2 mh abF lI DZ);refine h.mono fun e w' ⟨h1,q,h2⟩=>⟨?_,by rw[h2];exact Xoe _ _⟩;rw[h1];congr 2;rw[decide_eq_decide,List.take_of_length_le (by simp),List.take_of_length_le (by simp)];constructor
  ·intro e;have:=congrArg (List.map fun b:ByteArray=>b.data.toList) e;rw[List.map_map,List.map_map]at this;have hid:((fun b:ByteArray=>b.data.toList)∘fun s:af=>(⟨s.toArray⟩:ByteArray))=id:=by funext s;simp
   rw[hid,List.map_id,List.map_id]at this;exact this
  ·intro e;rw[e]
section
variable {α:Type}
def su(l:List α)(p:α→Bool):Int:=match l.findIdx? p with|some i=>i|none=> -1
theorem Xij{l:List α}{p:α→Bool}(h:l.any p=false):su l p= -1:=by
 have:l.findIdx? p=none:=by
  rw[List.findIdx?_eq_none_iff];intro x hx;cases hp:p x with
  |false=>rfl
  |true=>rw[List.any_eq_true.2 ⟨x,hx,hp⟩]at h;exact absurd h (by simp)
 rw[su,this]
theorem Xii{l:List α}{p:α→Bool}{i:Nat}(hi:i<l.length)(hp:p l[i]=true)(hn:(l.take i).any p=false):su l p=i:=by
 have:l.findIdx? p=some i:=by
  rw[List.findIdx?_eq_some_iff_getElem];refine⟨hi,hp,fun j hj=> ?_⟩;cases hq:p l[j]with
  |false=>simp
  |true=>
   have zw:j<(l.take i).length:=by simp;omega
   rw[List.any_eq_true.2 ⟨(l.take i)[j],List.getElem_mem zw,by rw[List.getElem_take];exact hq⟩]at hn;exact absurd hn (by simp)
 rw[su,this]
theorem RJ(l:List α)(p:α→Bool):(∃i:Nat,∃h:i<l.length,su l p=i∧p l[i]=true∧(l.take i).any p=false)∨(su l p= -1∧l.any p=false):=by
 unfold su;cases h:l.findIdx? p with
 |none=>
  right;refine⟨rfl,?_⟩;rw[List.findIdx?_eq_none_iff]at h;cases ha:l.any p with
  |false=>rfl
  |true=>
   obtain⟨x,hx,hp⟩:=List.any_eq_true.1 ha;rw[h x hx]at hp;exact absurd hp (by simp)
 |some i=>
  left;rw[List.findIdx?_eq_some_iff_getElem]at h;obtain⟨hi,h1,h2⟩:=h;refine⟨i,hi,rfl,h1,?_⟩;cases ha:(l.take i).any p with
  |false=>rfl
  |true=>
   obtain⟨x,hx,hp⟩:=List.any_eq_true.1 ha;obtain⟨j,hj,rfl⟩:=List.getElem_of_mem hx;rw[List.getElem_take]at hp;have Gs:j<i:=by simp at hj;omega
   have:=h2 j Gs;simp[hp]at this
end
def gB(r:Nat):Bool:=!(dM r)
theorem Xqo(c:Nat)(w:World):Calls Tryz.prog 203 #[.int .i32 (c:Int)] w fun e w'=>e= .returned (.bool (gB c))∧w'=w:=by
 rcases(show(97≤c∧c≤122)∨122<c∨(48≤c∧c≤57)∨c=46∨c=95∨c=45∨(c<48∧c≠46∧c≠45)∨(57<c∧c<97∧c≠95) by omega)with hc|hc|hc|hc|hc|hc|hc|hc
 ·have d97:decide (97≤(c:Int))=true:=by simp;omega
  have d122:decide ((c:Int)≤122)=true:=by simp;omega
  have d48:decide (48≤(c:Int))=true:=by simp;omega
  have d57:decide ((c:Int)≤57)=false:=by simp;omega
  have n46:((c:Int)==46)=false:=by simp;omega
  have n95:((c:Int)==95)=false:=by simp;omega
  have n45:((c:Int)==45)=false:=by simp;omega
  have Hv:=Qh (show gB c=true by unfold gB dM;simp;omega);clear hc;go_enter Tryz.func203,Tryz.ntmps203
  go_wp2;go_ret;exact⟨jr Hv.O.symm,rfl⟩
 ·have d97:decide (97≤(c:Int))=true:=by simp;omega
  have d122:decide ((c:Int)≤122)=false:=by simp;omega
  have d48:decide (48≤(c:Int))=true:=by simp;omega
  have d57:decide ((c:Int)≤57)=false:=by simp;omega
  have n46:((c:Int)==46)=false:=by simp;omega
  have n95:((c:Int)==95)=false:=by simp;omega
  have n45:((c:Int)==45)=false:=by simp;omega
  have Hv:=Qh (show gB c=false by unfold gB dM;simp;omega);clear hc;go_enter Tryz.func203,Tryz.ntmps203
  go_wp2;go_ret;exact⟨jr Hv.O.symm,rfl⟩
 ·have d97:decide (97≤(c:Int))=false:=by simp;omega
  have d122:decide ((c:Int)≤122)=true:=by simp;omega
  have d48:decide (48≤(c:Int))=true:=by simp;omega
  have d57:decide ((c:Int)≤57)=true:=by simp;omega
  have n46:((c:Int)==46)=false:=by simp;omega
  have n95:((c:Int)==95)=false:=by simp;omega
  have n45:((c:Int)==45)=false:=by simp;omega
  have Hv:=Qh (show gB c=true by unfold gB dM;simp;omega);clear hc;go_enter Tryz.func203,Tryz.ntmps203
  go_wp2;go_ret;exact⟨jr Hv.O.symm,rfl⟩
 ·have d97:decide (97≤(c:Int))=false:=by simp;omega
  have d122:decide ((c:Int)≤122)=true:=by simp;omega
  have d48:decide (48≤(c:Int))=false:=by simp;omega
  have d57:decide ((c:Int)≤57)=true:=by simp;omega
  have n46:((c:Int)==46)=true:=by simp;omega
  have n95:((c:Int)==95)=false:=by simp;omega
  have n45:((c:Int)==45)=false:=by simp;omega
  have Hv:=Qh (show gB c=true by unfold gB dM;simp;omega);clear hc;go_enter Tryz.func203,Tryz.ntmps203
  go_wp2;go_ret;exact⟨jr Hv.O.symm,rfl⟩
 ·have d97:decide (97≤(c:Int))=false:=by simp;omega
  have d122:decide ((c:Int)≤122)=true:=by simp;omega
  have d48:decide (48≤(c:Int))=true:=by simp;omega
  have d57:decide ((c:Int)≤57)=false:=by simp;omega
  have n46:((c:Int)==46)=false:=by simp;omega
  have n95:((c:Int)==95)=true:=by simp;omega
  have n45:((c:Int)==45)=false:=by simp;omega
  have Hv:=Qh (show gB c=true by unfold gB dM;simp;omega);clear hc;go_enter Tryz.func203,Tryz.ntmps203
  go_wp2;go_ret;exact⟨jr Hv.O.symm,rfl⟩
 ·have d97:decide (97≤(c:Int))=false:=by simp;omega
  have d122:decide ((c:Int)≤122)=true:=by simp;omega
  have d48:decide (48≤(c:Int))=false:=by simp;omega
  have d57:decide ((c:Int)≤57)=true:=by simp;omega
  have n46:((c:Int)==46)=false:=by simp;omega
  have n95:((c:Int)==95)=false:=by simp;omega
  have n45:((c:Int)==45)=true:=by simp;omega
  have Hv:=Qh (show gB c=true by unfold gB dM;simp;omega);clear hc;go_enter Tryz.func203,Tryz.ntmps203
  go_wp2;go_ret;exact⟨jr Hv.O.symm,rfl⟩
 ·have d97:decide (97≤(c:Int))=false:=by simp;omega
  have d122:decide ((c:Int)≤122)=true:=by simp;omega
  have d48:decide (48≤(c:Int))=false:=by simp;omega
  have d57:decide ((c:Int)≤57)=true:=by simp;omega
  have n46:((c:Int)==46)=false:=by simp;omega
  have n95:((c:Int)==95)=false:=by simp;omega
  have n45:((c:Int)==45)=false:=by simp;omega
  have Hv:=Qh (show gB c=false by unfold gB dM;simp;omega);clear hc;go_enter Tryz.func203,Tryz.ntmps203
  go_wp2;go_ret;exact⟨jr Hv.O.symm,rfl⟩
 ·have d97:decide (97≤(c:Int))=false:=by simp;omega
  have d122:decide ((c:Int)≤122)=true:=by simp;omega
  have d48:decide (48≤(c:Int))=true:=by simp;omega
  have d57:decide ((c:Int)≤57)=false:=by simp;omega
  have n46:((c:Int)==46)=false:=by simp;omega
  have n95:((c:Int)==95)=false:=by simp;omega
  have n45:((c:Int)==45)=false:=by simp;omega
  have Hv:=Qh (show gB c=false by unfold gB dM;simp;omega);clear hc;go_enter Tryz.func203,Tryz.ntmps203
  go_wp2;go_ret;exact⟨jr Hv.O.symm,rfl⟩
theorem Xkf(c:Nat)(w:World):Calls Tryz.prog 202 #[.int .i32 (c:Int)] w fun e w'=>e= .returned (.bool (dM c))∧w'=w:=by
 go_enter Tryz.func202,Tryz.ntmps202
 go_wp2_with fail
 refine(Xqo c _).mono ?_;rintro e w1 ⟨rfl,rfl⟩;go_wp2;go_ret;exact⟨jr (by rw[gB,Bool.not_not]),rfl⟩
theorem Xl1(s:af)(hs:s.length≤9223372036854775807)(w:World):
 Calls Tryz.prog 163 #[S s] w fun e w'=>e= .returned (.bool (comp s))∧Below w.heap.size w w':=by
 by_cases h1:1≤s.length;case neg=>
  have pF:decide (1≤s.length)=false:=Qf h1;have qM:=Qh (show comp s=false by simp[comp,h1]);go_enter Tryz.func163,Tryz.ntmps163
  go_wp2;go_ret;exact⟨jr qM.O.symm,Qb _ _⟩
 have pF:decide (1≤s.length)=true:=Qt h1;by_cases mF:s.length≤32;case neg=>
  have uS:decide (s.length≤32)=false:=Qf mF;have qM:=Qh (show comp s=false by simp[comp,mF]);go_enter Tryz.func163,Tryz.ntmps163
  go_wp2;go_ret;exact⟨jr qM.O.symm,Qb _ _⟩
 have uS:decide (s.length≤32)=true:=Qt mF;by_cases JB:s=[46];case pos=>
  subst JB;have qM:=Qh (show comp [46]=false by rfl);clear hs h1 pF mF uS;go_enter Tryz.func163,Tryz.ntmps163
  go_wp2;go_ret;exact⟨jr qM.O.symm,Qb _ _⟩
 have f46:(s !=[46])=true:=by simpa using JB
 have g46:(s==[46])=false:=by simpa using JB
 by_cases Mg:s=[46,46];case pos=>
  subst Mg;have qM:=Qh (show comp [46,46]=false by rfl);clear hs h1 pF mF uS JB f46 g46;go_enter Tryz.func163,Tryz.ntmps163
  go_wp2;go_ret;exact⟨jr qM.O.symm,Qb _ _⟩
 have f47:(s !=[46,46])=true:=by simpa using Mg
 have g47:(s==[46,46])=false:=by simpa using Mg
 have qM:=Qh (show comp s=!(decide (0≤Lib.idxFunc dM true ⟨s.toArray⟩)) by rw[Xuu,Bool.not_not];simp[comp,h1,mF,f46,f47]);have Uw:=Qh (Xg7 202 dM s w (fun _ _=>by kernel_rfl) (fun x W=>Xkf x W));generalize decide (0≤Lib.idxFunc dM true ⟨s.toArray⟩)=bb at qM Uw;clear JB Mg;go_enter Tryz.func163,Tryz.ntmps163
 go_wp2_with fail
 refine Uw.O.mono ?_;rintro e w1 ⟨rfl,aG⟩;go_wp2;go_ret;exact⟨jr qM.O.symm,aG⟩
theorem Yf(I:IH)(hI:fG I)(s:af)(hs:s.length≤4294967280)(w:World)(hw:Ok I w):
 Calls Tryz.prog 123 #[S s] w (OV iE I w (els s)):=by
 by_cases h0:s=[]
 ·obtain⟨p1,p2,p3,p4⟩:=EA h0;have Hs:=Qh (show els s=[] by rw[h0];rfl);clear h0;go_enter Tryz.func123,Tryz.ntmps123
  go_wp2;go_ret;rw[Hs.O];exact⟨_,I,rfl,Qb _ _,Ext.refl _ _,hw,aZ.nil _ _⟩
 ·obtain⟨p1,p2,p3,p4⟩:=Dh h0;have Hs:=Qh (show els s=fJ [] s by rw[els,if_neg h0]);have Hl:=Qh (Xsj I hI s hs w hw);generalize fJ [] s=l at Hs Hl;clear h0;go_enter Tryz.func123,Tryz.ntmps123
  go_wp2_with fail
  refine Hl.O.mono ?_;rintro e w1 ⟨v1,I1,rfl,aG,iY,aO,je⟩;obtain⟨ao,cap,rfl,fu,iv,_⟩:=id je;go_wp2;go_ret;rw[Hs.O];exact⟨_,I1,rfl,aG,iY,aO,je⟩
theorem Xsc(s:af)(hs:s.length≤9223372036854775807)(w:World):
 Calls Tryz.prog 162 #[S s] w fun e w'=>e= .returned (.bool (!(comp s)))∧Below w.heap.size w w':=by
 go_enter Tryz.func162,Tryz.ntmps162
 go_wp2_with fail
 refine(Xl1 s hs _).mono ?_;rintro e w1 ⟨rfl,aG⟩;go_wp2;go_ret;exact⟨rfl,aG⟩
theorem Xjb(I:IH)(v:Value)(l:List af)(hv:aZ iE I v l)(g:Nat)(p:af→Bool)(w:World)(hw:Ok I w)(eg:∀args w,(callFunc g args).run Tryz.prog w= .ok (.enter g args) w)(hp:∀x∈l,∀W:World,Calls Tryz.prog g #[S x] W fun e w'=>e= .returned (.bool (p x))∧Below W.heap.size W w'):
 Calls Tryz.prog 200 #[v,.func (.func g) #[] #[]] w fun e w'=>e= .returned (.int .i64 (su l p))∧Below w.heap.size w w':=by
 have hlen:=hv.bL;obtain⟨ao,cap,rfl,fu,iv,_⟩:=id hv;have Hv:=Qh hv;clear hv;have Hp:=Qh hp;clear hp;go_enter Tryz.func200,Tryz.ntmps200
 go_wp2_with fail
 go_loopw [8] (fun s8 wr=> ∃k:Nat,k≤l.length∧s8= .int .i64 k∧(l.take k).any p=false∧Below w.heap.size w wr) (fun i _=>l.length-(intOf i).toNat)
 case atStart=>exact⟨0,Nat.zero_le _,rfl,rfl,Qb _ _⟩
 case round=>
  obtain⟨k,hk,rfl,hr,hb⟩:=hrel;have Hr:=Qh hr;clear hr;by_cases hlt:k<l.length
  ·have eX:Ok I wr:=hw.below (Qn _) hb;obtain⟨x,b,off,cap',cB,dC,tq⟩:=Fy Hv.O eX k hlt;cases dC;have pM:=Qh cB;have oQ:=Qh (Hp.O x (by rw[←cB];exact List.getElem_mem hlt));clear cB;go_wp2_with fail
   refine(oQ.O _).mono ?_;rintro e w1 ⟨rfl,aG⟩;have aM:=hb.trans (aG.mono hb.size);clear aG oQ;cases hpx:p x
   ·have Hn:=Qh (show(l.take (k+1)).any p=false by rw[List.take_succ_eq_append_getElem hlt,List.any_append,Hr.O,pM.O];simp[hpx]);clear hpx;go_wp2;go_roundw;case rel=>exact⟨k+1,by omega,by go_num,Hn.O,aM⟩
    case measure=>simp[intOf];omega
   ·have Hn:=Qh (Xii (p:=p) hlt (by rw[pM.O];exact hpx) Hr.O);clear hpx;go_wp2;go_ret;exact⟨dZ Hn.O.symm,aM⟩
  ·have Hn:=Qh (show su l p= -1 from Xij (by have:=Hr.O;rwa[List.take_of_length_le (by omega)]at this));go_wp2;go_ret;exact⟨dZ Hn.O.symm,hb⟩
theorem Xgn(I:IH)(v:Value)(l:List af)(hv:aZ iE I v l)(g:Nat)(p:af→Bool)(w:World)(hw:Ok I w)(eg:∀args w,(callFunc g args).run Tryz.prog w= .ok (.enter g args) w)(hp:∀x∈l,∀W:World,Calls Tryz.prog g #[S x] W fun e w'=>e= .returned (.bool (p x))∧Below W.heap.size W w'):
 Calls Tryz.prog 161 #[v,.func (.func g) #[] #[]] w fun e w'=>e= .returned (.bool (l.any p))∧Below w.heap.size w w':=by
 have Hi:=Qh (Xjb I v l hv g p w hw eg hp);obtain⟨ao,cap,rfl,fu,iv,_⟩:=id hv;clear hv hp eg;rcases RJ l p with⟨i,hi,e1,e2,_⟩|⟨e1,e2⟩
 ·have Ha:=Qh (show l.any p=true from List.any_eq_true.2 ⟨l[i],List.getElem_mem hi,e2⟩);have hd:decide ((0:Int)≤(i:Int))=true:=Qt (by omega);rw[e1]at Hi;clear e1 e2;go_enter Tryz.func161,Tryz.ntmps161
  go_wp2_with fail
  refine Hi.O.mono ?_;rintro e w1 ⟨rfl,aG⟩;go_wp2;go_ret;exact⟨jr Ha.O.symm,aG⟩
 ·have Ha:=Qh e2;rw[e1]at Hi;clear e1 e2;go_enter Tryz.func161,Tryz.ntmps161
  go_wp2_with fail
  refine Hi.O.mono ?_;rintro e w1 ⟨rfl,aG⟩;go_wp2;go_ret;exact⟨jr Ha.O.symm,aG⟩
theorem Xxo(l:List af):l.any (fun s=> !(comp s))=!(l.all comp):=by
 induction l with
 |nil=>rfl
 |cons x l ih=>rw[List.any_cons,List.all_cons,ih,Bool.not_and]
theorem Xo6(I:IH)(hI:fG I)(s:af)(hs:s.length≤4294967280)(w:World)(hw:Ok I w):
 Calls Tryz.prog 114 #[S s] w fun e w'=>e= .returned (.int .i64 (aW s))∧Below w.heap.size w w':=by
 have Fz:=Qh (Yf I hI s hs w hw);have JU:=Qh (fun(q:af) (h:q∈els s)=>Xtb h);by_cases abq:s.length≤200;case neg=>
  have hd:decide (200<s.length)=true:=Qt (by omega);have Hp:=Qh (show aW s=6 by rw[aW,if_pos (by omega)]);go_enter Tryz.func114,Tryz.ntmps114
  go_wp2_with fail
  refine Fz.O.mono ?_;rintro e w1 ⟨v1,I1,rfl,aG,iY,aO,je⟩;obtain⟨ao,cap,rfl,fu,iv,_⟩:=id je;clear je;go_wp2;go_ret;exact⟨dZ Hp.O.symm,aG⟩
 have hd:decide (200<s.length)=false:=Qf (by omega);have Hp:=Qh (show aW s=if 8<(els s).length then 6 else if(els s).all comp then 0 else 7 by rw[aW,if_neg (by omega)]);generalize els s=l at Fz Hp JU;by_cases h8:8<l.length;case pos=>
  have KQ:=Qh (show aW s=6 by rw[Hp.O,if_pos h8]);go_enter Tryz.func114,Tryz.ntmps114
  go_wp2_with fail
  refine Fz.O.mono ?_;rintro e w1 ⟨v1,I1,rfl,aG,iY,aO,je⟩;obtain⟨ao,cap,rfl,fu,iv,_⟩:=id je;clear je;go_wp2;go_ret;exact⟨dZ KQ.O.symm,aG⟩
 have KQ:=Qh (show aW s=if l.all comp then 0 else 7 by rw[Hp.O,if_neg h8]);go_enter Tryz.func114,Tryz.ntmps114
 go_wp2_with fail
 refine Fz.O.mono ?_;rintro e w1 ⟨v1,I1,rfl,aG,iY,aO,je⟩;have Uw:=Qh (Xgn I1 v1 l je 162 (fun s=> !(comp s)) w1 aO (fun _ _=>by kernel_rfl) (fun x hx W=>Xsc x (by have:=JU.O x hx;omega) W));rw[Xxo]at Uw;obtain⟨ao,cap,rfl,fu,iv,_⟩:=id je;clear je;go_wp2_with fail
 refine Uw.O.mono ?_;rintro e w2 ⟨rfl,aL⟩;cases ha:l.all comp
 ·have Hn:=Qh (show aW s=7 by rw[KQ.O,ha];rfl);clear ha;go_wp2;go_ret;exact⟨dZ Hn.O.symm,aG.trans (aL.mono aG.size)⟩
 ·have Hn:=Qh (show aW s=0 by rw[KQ.O,ha];rfl);clear ha;go_wp2;go_ret;exact⟨dZ Hn.O.symm,aG.trans (aL.mono aG.size)⟩
theorem Yg(I:IH)(hI:fG I)(s:af)(hs:s.length≤4294967280)(w:World)(hw:Ok I w):
 Calls Tryz.prog 120 #[S s] w (Fx iE I w (sj s).1 (sj s).2):=by
 have Hc:=Qh (Xo6 I hI s hs w hw);by_cases h0:aW s=0
 ·rw[h0]at Hc;have zJ:=Qh (RF h0);clear h0;go_enter Tryz.func120,Tryz.ntmps120
  go_wp2_with fail
  refine Hc.O.mono ?_;rintro e w1 ⟨rfl,aG⟩;have aO:Ok I w1:=hw.below (Qn _) aG;go_wp2_with fail
  refine(Yf I hI s hs _ aO).mono ?_;rintro e w2 ⟨v2,I2,rfl,aL,mK,bn,iN⟩;obtain⟨ao,cap,rfl,fu,iv,_⟩:=id iN;go_wp2;go_ret2;rw[zJ.O];exact⟨_,I2,rfl,aG.trans (aL.mono aG.size),mK.mono aG.size,bn,iN⟩
 ·have zJ:=Qh (X4 h0);obtain⟨q,hq⟩:∃q,aW s=q:=⟨_,rfl⟩;have hn:(q !=0)=true:=by rw[←hq];simpa using h0
  rw[hq]at zJ Hc;clear hq h0;go_enter Tryz.func120,Tryz.ntmps120
  go_wp2_with fail
  refine Hc.O.mono ?_;rintro e w1 ⟨rfl,aG⟩;have aO:Ok I w1:=hw.below (Qn _) aG;go_wp2;go_ret2;rw[zJ.O];exact⟨_,I,rfl,aG,Ext.refl _ _,aO,aZ.nil _ _⟩
theorem Xsb(I:IH)(hI:fG I)(s:af)(hs:s.length≤4294967280)(w:World)(hw:Ok I w):
 Calls Tryz.prog 67 #[S s] w fun e w'=>e= .returned (.tuple #[S (qB s).1,.int .i64 (qB s).2])∧Below w.heap.size w w':=by
 by_cases h0:aW s=0
 ·have uy:=Qh (by have:=Yg I hI s hs w hw;rw[RF h0]at this;exact this);have pV:=(Iu h0).1;have GZ:=(Iu h0).2.1;have KR:=Qh (show qB s=if s=[]then([],1)else(qA s,0) by rw[qB,if_neg (by omega)]);have zw:(fT (els s)).length≤200:=by rw[XX];exact pV
  have uU:=Xta (s:=s);have eu:qA s=fT ((els s).take ((els s).length-1)):=by rw[qA,List.dropLast_eq_take]
  have Ur:=Qh (Xd1 (els s) ((els s).length-1));generalize els s=l at uy zw uU eu Ur GZ;have Fz:=Qh uU;have Hup:=Qh eu;clear h0 uU eu;go_enter Tryz.func67,Tryz.ntmps67
  go_wp2_with fail
  refine uy.O.mono ?_;rintro e w1 ⟨v1,I1,rfl,aG,iY,aO,je⟩;obtain⟨ao,cap,rfl,fu,iv,_⟩:=id je;have wU:=Qh je;clear je iY;have yc:maxLen=9223372036854775807:=rfl;by_cases vN:l.length=0
  ·have Hn:=Qh (show qB s=([],1) by rw[KR.O,if_pos (Fz.O.1 (List.eq_nil_of_length_eq_zero vN))]);have hz:((l.length:Int)==0)=true:=by rw[vN];rfl
   clear vN yc;go_wp2;go_ret2;rw[Hn.O];exact⟨rfl,aG⟩
  ·have Hn:=Qh (show qB s=(fT (l.take (l.length-1)),0) by
    rw[KR.O,if_neg (fun e=>vN (by rw[Fz.O.2 e];rfl)),Hup.O])
   have hz:((l.length:Int)==0)=false:=by rw[beq_eq_false_iff_ne];omega
   have hlp:1≤l.length:=by omega
   have hi:IntKind.i64.wrap ((l.length:Int)-1)=(l.length:Int)-1:=IntWalk.i64_in _ (by omega);have hj:(0:Int)≤(l.length:Int)-1:=by omega
   have Mh:(l.length:Int)-1≤(cap:Int):=by omega
   have hm:((l.length:Int)-1).toNat=l.length-1:=by omega
   have KS:=Qh (wU.O.Ex (n:=l.length-1) (by omega));have Hj2:=Qh (Xup I1 _ _ KS.O (by have:=Ur.O;omega) (by rw[List.length_take];omega) w1 aO);clear vN yc;go_wp2_with fail
   refine Hj2.O.mono ?_;rintro e w2 ⟨rfl,aL⟩;go_wp2;go_ret2;rw[Hn.O];exact⟨rfl,aG.trans (aL.mono aG.size)⟩
 ·have uy:=Qh (by have:=Yg I hI s hs w hw;rw[X4 h0]at this;exact this);obtain⟨q,hq⟩:∃q,aW s=q:=⟨_,rfl⟩;have hn:(q !=0)=true:=by rw[←hq];simpa using h0
  have KR:=Qh (show qB s=([],q) by rw[qB,if_pos h0,hq]);rw[hq]at uy;clear hq h0;go_enter Tryz.func67,Tryz.ntmps67
  go_wp2_with fail
  refine uy.O.mono ?_;rintro e w1 ⟨v1,I1,rfl,aG,iY,aO,je⟩;obtain⟨ao,cap,rfl,fu,iv,_⟩:=id je;go_wp2;go_ret2;rw[KR.O];exact⟨rfl,aG⟩
theorem Xkg(I:IH)(hI:fG I)(p d:af)(hp:p.length≤4294967280)(hd:d.length≤4294967280)(w:World)(hw:Ok I w):
 Calls Tryz.prog 65 #[S p,S d] w fun e w'=>e= .returned (.bool (under p d))∧Below w.heap.size w w':=by
 have uy:=Qh (Yg I hI p hp w hw);have Hu:=Qh (show under p d=(decide (aW p=0)&&decide (aW d=0)&&(els d).isPrefixOf (els p))from rfl);have rF:(sj p).2=aW p:=by rw[sj];split<;>simp_all
 have WL:(sj d).2=aW d:=by rw[sj];split<;>simp_all
 have Hl1:=Qh (fun h:aW p=0=>show(sj p).1=els p by rw[RF h]);have Hl2:=Qh (fun h:aW d=0=>show(sj d).1=els d by rw[RF h]);have Hsd:=Qh (fun I hI w hw=>Yg I hI d hd w hw);rw[rF]at uy;rw[WL]at Hsd;generalize(sj p).1=l at uy Hl1;generalize(sj d).1=m at Hsd Hl2;clear rF WL;go_enter Tryz.func65,Tryz.ntmps65
 go_wp2_with fail
 refine uy.O.mono ?_;rintro e w1 ⟨v1,I1,rfl,aG,iY,aO,je⟩;have kL:=hI.mono (iY.keep hw (Qn _));have wU:=Qh je;clear je;obtain⟨ao0,cap0,rfl,_,_,_⟩:=id wU.O;go_wp2_with fail
 refine(Hsd.O I1 kL _ aO).mono ?_;rintro e w2 ⟨v2,I2,rfl,aL,mK,bn,iN⟩;have je:=wU.O.mono (mK.keep aO (Qn _));have bH:=aG.trans (aL.mono aG.size);obtain⟨ao,cap,e1,fu,iv,_⟩:=id je;cases e1;obtain⟨qN,cap2,rfl,rG,tZ,_⟩:=id iN;have hlen:=je.bL;have Ez:=iN.bL;have Hl:=Qh je;have Hm:=Qh iN;clear je iN wU aG aL iY mK;by_cases h0:aW p=0;case neg=>
  have Hn:=Qh (show under p d=false by rw[Hu.O,Qf h0];rfl);obtain⟨q,hq⟩:∃q,aW p=q:=⟨_,rfl⟩;have hn:(q==0)=false:=by rw[←hq];simpa using h0
  rw[hq];clear hq h0;go_wp2;go_ret;exact⟨jr Hn.O.symm,bH⟩
 by_cases h1:aW d=0;case neg=>
  have Hn:=Qh (show under p d=false by rw[Hu.O,Qf h1,Bool.and_false];rfl);obtain⟨q,hq⟩:∃q,aW d=q:=⟨_,rfl⟩;have hn:(q==0)=false:=by rw[←hq];simpa using h1
  rw[hq,h0];clear hq h1 h0;go_wp2;go_ret;exact⟨jr Hn.O.symm,bH⟩
 have OZ:=Qh (show under p d=m.isPrefixOf l by rw[Hu.O,Qt h0,Qt h1,Hl1.O h0,Hl2.O h1];rfl);rw[h0,h1];clear h0 h1;by_cases ol:m.length≤l.length;case neg=>
  have pF:decide (m.length≤l.length)=false:=Qf ol;have Hn:=Qh (show under p d=false by rw[OZ.O];exact Xgy (by omega));go_wp2;go_ret;exact⟨jr Hn.O.symm,bH⟩
 have pF:decide (m.length≤l.length)=true:=Qt ol;have hcc:m.length≤cap0:=by omega
 have Hn:=Qh (show under p d=decide (l.take m.length=m) by rw[OZ.O];exact Xh7 l m);have MO:=Qh (Xsl I2 _ _ _ _ (Hl.O.Ex ol) Hm.O w2 bn);generalize decide (l.take m.length=m)=bb at Hn MO;go_wp2_with fail
 refine MO.O.mono ?_;rintro e w3 ⟨rfl,dO⟩;go_wp2;go_ret;exact⟨jr Hn.O.symm,bH.trans (dO.mono bH.size)⟩
def uC(x y:af):Int:=if Op.bytesLess x y then -1 else if Op.bytesLess y x then 1 else 0
theorem RL(x:af)(w:World):Calls Tryz.prog 168 #[S x] w fun e w'=>e= .returned (.bool false)∧w'=w:=by
 have f:(x !=x)=false:=by simp
 have f2:(x==x)=true:=by simp
 go_enter Tryz.func168,Tryz.ntmps168
 go_wp2;go_ret;exact⟨by first|rfl|(simp),rfl⟩
theorem Xwz(x y:af)(w:World):Calls Tryz.prog 124 #[S x,S y] w fun e w'=>e= .returned (.int .i64 (uC x y))∧w'=w:=by
 rcases Rz x y with ht|ht|ht
 ·have Hn:=Qh (show uC x y= -1 by rw[uC,ht];rfl);go_enter Tryz.func124,Tryz.ntmps124
  go_wp2_with fail
  refine(RL x _).mono ?_;rintro e w1 ⟨rfl,rfl⟩;go_wp2_with fail
  refine(RL y _).mono ?_;rintro e w2 ⟨rfl,rfl⟩;go_wp2;go_ret;exact⟨dZ Hn.O.symm,rfl⟩
 ·have f1:Op.bytesLess x y=false:=by rw[ht];exact Iq _
  have f2:Op.bytesLess y x=false:=by rw[ht];exact Iq _
  have f3:(x==y)=true:=by simp[ht]
  have f4:(!(x==y))=false:=by simp[ht]
  have Hn:=Qh (show uC x y=0 by rw[uC,f1,f2];rfl);clear ht;go_enter Tryz.func124,Tryz.ntmps124
  go_wp2_with fail
  refine(RL x _).mono ?_;rintro e w1 ⟨rfl,rfl⟩;go_wp2_with fail
  refine(RL y _).mono ?_;rintro e w2 ⟨rfl,rfl⟩;go_wp2;go_ret;exact⟨dZ Hn.O.symm,rfl⟩
 ·have f1:=RA ht;have f3:(x==y)=false:=by simpa using(RB ht).symm
  have f4:(!(x==y))=true:=by rw[f3];rfl
  have Hn:=Qh (show uC x y=1 by rw[uC,f1,ht];rfl);go_enter Tryz.func124,Tryz.ntmps124
  go_wp2_with fail
  refine(RL x _).mono ?_;rintro e w1 ⟨rfl,rfl⟩;go_wp2_with fail
  refine(RL y _).mono ?_;rintro e w2 ⟨rfl,rfl⟩;go_wp2;go_ret;exact⟨dZ Hn.O.symm,rfl⟩
theorem Xq0(x y:af):(uC x y= -1∧Op.bytesLess x y=true)∨(uC x y=0∧x=y)∨(uC x y=1∧Op.bytesLess y x=true):=by
 rcases Rz x y with ht|ht|ht
 ·exact .inl ⟨by rw[uC,ht];rfl,ht⟩
 ·exact .inr (.inl ⟨by rw[uC,ht,Iq];rfl,ht⟩)
 ·exact .inr (.inr ⟨by rw[uC,RA ht,ht];rfl,ht⟩)
theorem Xid(I:IH)(v1 v2:Value)(l m:List af)(ny:aZ iE I v1 l)(pY:aZ iE I v2 m)(w:World)(hw:Ok I w):
 Calls Tryz.prog 122 #[v1,v2,.func (.func 124) #[] #[]] w fun e w'=>e= .returned (.int .i64 (cmpL l m))∧Below w.heap.size w w':=by
 have hlen:=ny.bL;have Ez:=pY.bL;obtain⟨ao,cap,rfl,fu,iv,_⟩:=id ny;obtain⟨qN,cap2,rfl,rG,tZ,_⟩:=id pY;have Hl:=Qh ny;have Hm:=Qh pY;clear ny pY;have eg:∀args w,(callFunc 124 args).run Tryz.prog w= .ok (.enter 124 args) w:=fun _ _=>by kernel_rfl
 go_enter Tryz.func122,Tryz.ntmps122
 go_wp2_with fail
 go_loopw [13] (fun s13 wr=> ∃k:Nat,k≤l.length∧k≤m.length∧s13= .int .i64 k∧l.take k=m.take k∧Below w.heap.size w wr) (fun i _=>l.length-(intOf i).toNat)
 case atStart=>exact⟨0,Nat.zero_le _,Nat.zero_le _,rfl,rfl,Qb _ _⟩
 case round=>
  obtain⟨k,hk,uV,rfl,hr,hb⟩:=hrel;have Hr:=Qh hr;have Ey:=Qh (Xm1 hr hk uV);clear hr;have eX:Ok I wr:=hw.below (Qn _) hb;by_cases hlt:k<l.length;case neg=>
   have Us:=Qh (show l.drop k=[]from List.drop_of_length_le (by omega));by_cases kg:k<m.length
   ·have pF:decide (l.length<m.length)=true:=Qt (by omega);have Hn:=Qh (show cmpL l m= -1 by rw[Ey.O,Us.O,List.drop_eq_getElem_cons kg];rfl);go_wp2;go_ret;exact⟨dZ Hn.O.symm,hb⟩
   ·have pF:decide (l.length<m.length)=false:=Qf (by omega);have Hn:=Qh (show cmpL l m=0 by rw[Ey.O,Us.O,List.drop_of_length_le (by omega)];rfl);go_wp2;go_ret;exact⟨dZ Hn.O.symm,hb⟩
  obtain⟨x,b,off,cap',cB,dC,ni⟩:=Fy Hl.O eX k hlt;cases dC;by_cases kg:k<m.length;case neg=>
   have pF:decide (m.length≤k)=true:=Qt (by omega);have Hn:=Qh (show cmpL l m=1 by rw[Ey.O,List.drop_of_length_le (l:=m) (by omega),List.drop_eq_getElem_cons hlt];rfl);clear cB;go_wp2;go_ret;exact⟨dZ Hn.O.symm,hb⟩
  have pF:decide (m.length≤k)=false:=Qf (by omega);obtain⟨y,b',off',sN,kK,dC,Gv⟩:=Fy Hm.O eX k kg;cases dC;have Iw:=Qh (show cmpL l m=cmpL (x::l.drop (k+1)) (y::m.drop (k+1)) by rw[Ey.O,List.drop_eq_getElem_cons hlt,List.drop_eq_getElem_cons kg,cB,kK]);have pM:=Qh cB;have KD:=Qh kK;have Hc:=Qh (Xwz x y);have jf:=Xq0 x y;generalize uC x y=c at Hc jf;clear cB kK;rcases jf with⟨hc,ht⟩|⟨hc,ht⟩|⟨hc,ht⟩
  ·subst hc;have Hn:=Qh (show cmpL l m= -1 by rw[Iw.O];exact Xg3 ht _ _);clear ht;go_wp2_with fail
   refine(Hc.O _).mono ?_;rintro e w1 ⟨rfl,rfl⟩;go_wp2;go_ret;exact⟨dZ Hn.O.symm,hb⟩
  ·subst hc;have Hn:=Qh (show l.take (k+1)=m.take (k+1) by rw[List.take_succ_eq_append_getElem hlt,List.take_succ_eq_append_getElem kg,Hr.O,pM.O,KD.O,ht]);clear ht;go_wp2_with fail
   refine(Hc.O _).mono ?_;rintro e w1 ⟨rfl,rfl⟩;go_wp2;go_roundw;case rel=>exact⟨k+1,by omega,by omega,by go_num,Hn.O,hb⟩
   case measure=>simp[intOf];omega
  ·subst hc;have Hn:=Qh (show cmpL l m=1 by rw[Iw.O];exact Xg4 ht _ _);clear ht;go_wp2_with fail
   refine(Hc.O _).mono ?_;rintro e w1 ⟨rfl,rfl⟩;go_wp2;go_ret;exact⟨dZ Hn.O.symm,hb⟩
theorem Xjl(I:IH)(hI:fG I)(p d:af)(hp:p.length≤4294967280)(hd:d.length≤4294967280)(w:World)(hw:Ok I w):
 Calls Tryz.prog 71 #[S p,S d] w fun e w'=>e= .returned (.int .i64 (jQ p d))∧Below w.heap.size w w':=by
 have Hu:=Qh (Xtj p d);have Nh:=Qh (Yf I hI p hp w hw);have Ni:=Qh (fun I hI w hw=>Yf I hI d hd w hw);generalize els p=l at Hu Nh;generalize els d=m at Hu Ni;go_enter Tryz.func71,Tryz.ntmps71
 go_wp2_with fail
 refine Nh.O.mono ?_;rintro e w1 ⟨v1,I1,rfl,aG,iY,aO,je⟩;have kL:=hI.mono (iY.keep hw (Qn _));have wU:=Qh je;clear je;obtain⟨ao0,cap0,rfl,_,_,_⟩:=id wU.O;go_wp2_with fail
 refine(Ni.O I1 kL _ aO).mono ?_;rintro e w2 ⟨v2,I2,rfl,aL,mK,bn,iN⟩;have je:=wU.O.mono (mK.keep aO (Qn _));have bH:=aG.trans (aL.mono aG.size);have Hc:=Qh (Xid I2 _ _ l m je iN w2 bn);obtain⟨qN,cap2,rfl,_,_,_⟩:=id iN;clear je iN wU iY mK;go_wp2_with fail
 refine Hc.O.mono ?_;rintro e w3 ⟨rfl,dO⟩;go_wp2;go_ret;exact⟨dZ Hu.O.symm,bH.trans (dO.mono bH.size)⟩
