/- Lemmas for the claim's theorem;conditions: as each says. -/
import Derived.Test.YtdodihnehppnmaaGreatDoorG04
import Derived.Shelf.Strings.OnBuilder
import Derived.Shelf.Small.Strs
import Derived.Shelf.GgClosure.StringsIndexFuncTop
import Derived.Shelf.Strings.Split
import Derived.Shelf.Slices.Equal
import Derived.Shelf.Slices.Empties2
import Derived.Test.YtdodihnehppnmaaGreatDoorProg
import Derived.Shelf.LaysM
import Derived.Shelf.LaysC
import Derived.Shelf.Strconv.Itoa3
import Derived.Shelf.Strconv.AtoiAll
import Derived.Shelf.Strconv.ErrVarAll
import Derived.Shelf.Strings.SlTrimAscii
set_option maxHeartbeats 0
set_option maxRecDepth 100000
set_option linter.all false
namespace Go.Proofs.YtdodihnehppnmaaGreatDoor
open Go.RowKit
theorem below_setRow{B:Nat}{w w':World}{g:Nat}(h:Below B w w')(hg:B≤g)(cs:Array Value):Below B w (w'.setRow g cs):=
 ⟨h.os,h.tape,h.output,by simpa using h.size,fun k hk=>by rw[setRow_other _ _ _ _ (by omega)];exact h.block k hk⟩
def zeroE:ay:=⟨0,[],[],[],0,[],[]⟩
def jf(t:List ay)(p:ae):ay×Bool:=match dC t p with|some x=>(x,true)|none=>(zeroE,false)
def OS(I:IH)(w:World)(x:ay×Bool)(e:Ending)(w':World):Prop:=
 ∃va vx,e= .returned (.tuple #[eT x.1 va vx,.bool x.2])∧bf kT I va x.1.ai∧bf mE I vx x.1.ak∧Below w.heap.size w w'
abbrev aQ(x:ay)(va vx:Value):Array Value:=#[.int .i64 x.ag,S x.af,va,S x.target,.int .i64 x.size,S x.aj,vx]
abbrev aC:Array Value:=#[.int .i64 0,.string ⟨#[]⟩,.slice none 0 0,.string ⟨#[]⟩,.int .i64 0,.string ⟨#[]⟩,.slice none 0 0]
theorem Xkc{x:ay}{va vx:Value}{I:IH}(h1:bf kT I va x.ai)(h2:bf mE I vx x.ak):(aQ x va vx).all (·.oneCell')=true:=by
 have e1:=h1.one;have e2:=h2.one;simp[aQ,e1,e2];exact⟨rfl,rfl,rfl,rfl,rfl⟩
theorem Kj(I:IH)(v:Value)(t:List ay)(hv:bf bC I v t)(p:ae)(w:World)(hw:Ok I w):
 Calls Tryz.prog 144 #[v,S p] w (OS I w (jf t p)):=by
 have hlen:=hv.dh;obtain⟨ao,cap,rfl,dD,il,_⟩:=id hv;have Hv:=Qh hv;clear hv;have lI:(Tryz.prog.info? 26).map (·.size)=some 7:=by kernel_rfl
 have Hz:=Qh (heap_alloc_new w (.cells aC 26));go_enter Tryz.func144,Tryz.ntmps144
 go_wp2_with fail
 go_loopw [10] (fun s10 wr=> ∃k:Nat,k≤t.length∧s10= .int .i64 k∧dC t p=dC (t.drop k) p∧Below w.heap.size w wr∧w.heap.size<wr.heap.size∧wr.heap[w.heap.size]?=some (.cells aC 26 (0,0))) (fun i _=>t.length-(intOf i).toNat)
 case atStart=>exact⟨0,Nat.zero_le _,rfl,rfl,(Qb _ _).alloc (Qn _) _,by simp,Hz.O⟩
 case round=>
  clear Hz;obtain⟨k,hk,rfl,hr,hb,eU,hz⟩:=hrel;have Hr:=Qh hr;have Hz:=Qh hz;clear hr hz;have dz:Ok I wr:=hw.below (Qn _) hb;by_cases hlt:k<t.length
  ·obtain⟨x,va,vx,b,off,cap',bN,di,⟨c0,c1,c2,c3,c4,c5,c6⟩,h1,h2⟩:=oG Hv.O dz k hlt;cases di;have bB:=Qh (show dC t p=if(x.af==p)then some x else dC (t.drop (k+1)) p by
    rw[Hr.O,List.drop_eq_getElem_cons hlt,bN,dC,List.find?_cons];cases (x.af==p)<;>rfl)
   obtain⟨aa,ca,rfl,_,_,_⟩:=id h1;obtain⟨ax,cx,rfl,_,_,_⟩:=id h2;have H1:=Qh h1;have H2:=Qh h2;clear bN h1 h2;cases he:(x.af==p)
   ·have Hn:=Qh (show dC t p=dC (t.drop (k+1)) p by rw[bB.O,he];rfl);go_wp2;go_roundw;case rel=>exact⟨k+1,by omega,by go_num,Hn.O,hb.alloc hb.size _,by simp;omega,(Below.heap_alloc wr _ _ eU).trans Hz.O⟩
    case measure=>simp[intOf];omega
   ·have Hn:=Qh (show jf t p=(x,true) by rw[jf,bB.O,he];rfl);have oQ:(wr.alloc (.cells (aQ x (.slice aa x.ai.length ca) (.slice ax x.ak.length cx)) 26)).heap[w.heap.size]?=some (.cells aC 26 (0,0)):=(Below.heap_alloc wr _ _ eU).trans Hz.O;have Hz1:=Qh oQ;have EM:=Xkc H1.O H2.O;clear oQ;go_wp2_with (refine wpList_store_row rfl 26 _ _ rfl w.heap.size (aQ x (.slice aa x.ai.length ca) (.slice ax x.ak.length cx)) rfl rfl 26 aC Hz1.O lI rfl EM ?_)
    try simp only[Exit.inBlock,Exit.then]
    refine bodyPost_ret (v:= .tuple #[eT x (.slice aa x.ai.length ca) (.slice ax x.ak.length cx),.bool true]) ?_ rfl ?_
    ·rw[results_cell_tmp rfl];simp[asAddr,run_loadVar_row _ w.heap.size 26 26 (aQ x (.slice aa x.ai.length ca) (.slice ax x.ak.length cx)) (0,0) _ (setRow_heap _ _ _ _ _ _ Hz1.O) Tryz.underlying26 rfl lI]
    ·rw[Hn.O];exact⟨_,_,rfl,H1.O,H2.O,below_setRow (hb.alloc hb.size _) (Qn _) _⟩
  ·have Hn:=Qh (show jf t p=(zeroE,false) by rw[jf,Hr.O,List.drop_of_length_le (by omega)];rfl);have VQ:aC.all (·.oneCell')=true:=by simp[Value.oneCell']
   go_wp2_with (refine wpList_store_row rfl 26 _ _ rfl w.heap.size aC rfl rfl 26 aC Hz.O lI rfl VQ ?_)
   try simp only[Exit.inBlock,Exit.then]
   refine bodyPost_ret (v:= .tuple #[.agg aC,.bool false]) ?_ rfl ?_
   ·rw[results_cell_tmp rfl];simp[asAddr,run_loadVar_row _ w.heap.size 26 26 aC (0,0) _ (setRow_heap _ _ _ _ _ _ Hz.O) Tryz.underlying26 rfl lI]
   ·rw[Hn.O];exact⟨.slice none 0 0,.slice none 0 0,rfl,bf.nil _ _,bf.nil _ _,below_setRow hb (Qn _) _⟩
theorem Xke(t:List ay)(p:ae)(hp:p≠[]):aU t p=if(jf t p).2=false then 9 else if(jf t p).1.ag≠2 then 10 else 0:=by
 unfold aU jf;rw[if_neg hp];cases dC t p<;>simp
theorem Xsu(I:IH)(v:Value)(t:List ay)(hv:bf bC I v t)(p:ae)(w:World)(hw:Ok I w):
 Calls Tryz.prog 111 #[v,S p] w fun e w'=>e= .returned (.int .i64 (aU t p))∧Below w.heap.size w w':=by
 obtain⟨ao,cap,rfl,dD,il,_⟩:=id hv;have Hv:=Qh hv;clear hv;by_cases hp:p=[]
 ·obtain⟨p1,p2,p3,p4⟩:=Bu hp;have Hn:=Qh (show aU t p=0 by rw[aU,if_pos hp]);clear hp;go_enter Tryz.func111,Tryz.ntmps111
  go_wp2;go_ret;exact⟨bT Hn.O.symm,Qb _ _⟩
 ·obtain⟨p1,p2,p3,p4⟩:=zC hp;have Hn:=Qh (Xke t p hp);have Hg:=Qh (Kj I _ t Hv.O p w hw);clear hp;generalize jf t p=g at Hn Hg;obtain⟨x,b⟩:=g;go_enter Tryz.func111,Tryz.ntmps111
  go_wp2_with fail
  refine Hg.O.mono ?_;rintro e w1 ⟨va,vx,rfl,h1,h2,au⟩;obtain⟨aa,ca,rfl,_,_,_⟩:=id h1;obtain⟨ax,cx,rfl,_,_,_⟩:=id h2;clear h1 h2;cases b
  ·have iQ:=Qh (show aU t p=9 by rw[Hn.O];rfl);go_wp2;go_ret;exact⟨bT iQ.O.symm,au.alloc au.size _⟩
  ·by_cases hk:x.ag=2
   ·have k1:((x.ag:Int) !=2)=false:=by simpa using hk
    have iQ:=Qh (show aU t p=0 by rw[Hn.O];simp[hk]);clear hk;go_wp2;go_ret;exact⟨bT iQ.O.symm,au.alloc au.size _⟩
   ·have k1:((x.ag:Int) !=2)=true:=by simpa using hk
    have iQ:=Qh (show aU t p=10 by rw[Hn.O];simp[hk]);clear hk;go_wp2;go_ret;exact⟨bT iQ.O.symm,au.alloc au.size _⟩
abbrev OT(t:List ay):Prop:=∀x∈t,x.Wf
def vK(t:List ay):Option ay→List ay→Int
 |_,[]=>0
 |q,x::l=>if aX x≠0 then aX x else if x.ag≠1∧x.ag≠2∧x.ag≠3 then 10 else if(q.any fun y=> !(gU (els y.af) (els x.af)))then 14 else if aU t (jO x.af)≠0 then aU t (jO x.af)else vK t (some x) l
def OU(t:List ay):Int:=vK t none t
theorem Xqr{p d:ae}(h:gU (els p) (els d)=true):ic p d= -1:=by rw[ic,h];rfl
theorem Xqs{p d:ae}(h:gU (els p) (els d)=false):ic p d=0∨ic p d=1:=by
 rw[ic,h];cases gU (els d) (els p)<;>simp
theorem VR{s:ae}(h:aF s=0)(hs:s≠[]):lX s=(jO s,0):=by rw[lX,if_neg (by omega),if_neg hs]
theorem Xp0{t:List ay}{k:Nat}(h:∀y∈t.take k,aF y.af=0){x:ay}(hk:k<t.length)(hx:t[k]=x)(he:aF x.af=0):∀y∈t.take (k+1),aF y.af=0:=by
 intro y hy;rw[List.take_succ_eq_append_getElem hk,List.mem_append]at hy;rcases hy with hy|hy
 ·exact h y hy
 ·simp at hy;rw[hy,hx];exact he
def VS(t:List ay):Int:=if 60<t.length then 0 else if OU t≠0 then 0 else if t.any fI then 0 else 1
end Go.Proofs.YtdodihnehppnmaaGreatDoor
namespace Go.Proofs
open Go.Shelf
def Tryz.rQ:Go.Shelf.Ren:=⟨fun|156=>72|165=>123|166=>40|169=>44|240=>95|241=>190|276=>147|277=>255|n=>n,fun|31=>60|9=>9|3=>3|4=>4|0=>0|20=>20|72=>77|76=>80|70=>74|37=>75|75=>79|127=>141|164=>184|5=>5|80=>84|n=>n,fun|n=>n⟩
theorem Tryz.AO:Go.Proofs.Lays.n156 Tryz.prog Tryz.rQ:={
 mixed:=by kernel_rfl
 f156:=Tryz.func72.trans (congrArg some (by kernel_rfl))
 f165:=Tryz.func123.trans (congrArg some (by kernel_rfl))
 f166:=Tryz.func40.trans (congrArg some (by kernel_rfl))
 f169:=Tryz.func44.trans (congrArg some (by kernel_rfl))
 f240:=Tryz.func95.trans (congrArg some (by kernel_rfl))
 f241:=Tryz.func190.trans (congrArg some (by kernel_rfl))
 f276:=Tryz.func147.trans (congrArg some (by kernel_rfl))
 f277:=Tryz.func255.trans (congrArg some (by kernel_rfl))
 t0:=Tryz.underlying0
 a0:=Tryz.isAgg0
 z0:=Tryz.sizeOf0
 v0:=Tryz.zeroValue0
 t3:=Tryz.underlying3
 a3:=Tryz.isAgg3
 z3:=Tryz.sizeOf3
 v3:=Tryz.zeroValue3
 t4:=Tryz.underlying4
 a4:=Tryz.isAgg4
 z4:=Tryz.sizeOf4
 v4:=Tryz.zeroValue4
 t9:=Tryz.underlying9
 a9:=Tryz.isAgg9
 z9:=Tryz.sizeOf9
 v9:=Tryz.zeroValue9
 t20:=Tryz.underlying20
 a20:=Tryz.isAgg20
 z20:=Tryz.sizeOf20
 v20:=Tryz.zeroValue20
 t31:=Tryz.underlying60
 a31:=Tryz.isAgg60
 z31:=Tryz.sizeOf60
 v31:=Tryz.zeroValue60
 t37:=Tryz.underlying75
 a37:=Tryz.isAgg75
 z37:=Tryz.sizeOf75
 v37:=Tryz.zeroValue75
 t70:=Tryz.underlying74
 a70:=Tryz.isAgg74
 z70:=Tryz.sizeOf74
 v70:=Tryz.zeroValue74
 t72:=Tryz.underlying77
 a72:=Tryz.isAgg77
 z72:=Tryz.sizeOf77
 v72:=Tryz.zeroValue77
 t75:=Tryz.underlying79
 a75:=Tryz.isAgg79
 z75:=Tryz.sizeOf79
 v75:=Tryz.zeroValue79
 t76:=Tryz.underlying80
 a76:=Tryz.isAgg80
 z76:=Tryz.sizeOf80
 v76:=Tryz.zeroValue80
 t127:=Tryz.underlying141
 a127:=Tryz.isAgg141
 z127:=Tryz.sizeOf141
 v127:=Tryz.zeroValue141
 t164:=Tryz.underlying184
 a164:=Tryz.isAgg184
 z164:=Tryz.sizeOf184
 v164:=Tryz.zeroValue184}
theorem Tryz.lQ:Builder.Extra Tryz.prog Tryz.rQ:={
 sizeBuilder:=by kernel_rfl
 liesBuilder:=by kernel_rfl
 t5:=Tryz.underlying5
 a5:=Tryz.isAgg5
 z5:=Tryz.sizeOf5
 v5:=Tryz.zeroValue5
 infoByte:=by kernel_rfl
 cellsByte:=by kernel_rfl
 sizeByte:=by kernel_rfl
 neB5:=by decide}
open Go.RowKit in
theorem Tryz.strings_Join_none(a:Option Addr)(c:Nat)(sep:ByteArray)(w:World):
 Calls Tryz.prog 72 #[.slice a 0 c,.string sep] w fun e w'=>e= .returned (.string ⟨#[]⟩)∧w'=w:=Any.strings_Join_none Tryz.AO Tryz.lQ a c sep w
open Go.RowKit in
theorem Tryz.strings_Join(bk o c:Nat)(xs:List ByteArray)(sep:ByteArray)(w:World)(Al:∀(j:Nat) x,xs[j]?=some x→w.cell? ⟨bk,o+j,none⟩=some (.string x))(UJ:bk<w.heap.size)(hN:xs.length≤140737488355328)(dD:xs.length≤c)(hlen:(Lib.join (xs.map (·.data.toList)) sep.data.toList).length≤140737488355328):
 Calls Tryz.prog 72 #[.slice (some ⟨bk,o,none⟩) xs.length c,.string sep] w fun e w'=>e= .returned (.string ⟨(Lib.join (xs.map (·.data.toList)) sep.data.toList).toArray⟩)∧Below w.heap.size w w':=Any.strings_Join Tryz.AO Tryz.lQ bk o c xs sep w Al UJ hN dD hlen
def Tryz.xZ:Go.Shelf.Ren:=⟨fun|106=>198|213=>261|265=>283|n=>n,fun|9=>9|3=>3|n=>n,fun|n=>n⟩
theorem Tryz.F9:Go.Proofs.Lays.n106 Tryz.prog Tryz.xZ:={
 mixed:=by kernel_rfl
 f106:=Tryz.func198.trans (congrArg some (by kernel_rfl))
 f213:=Tryz.func261.trans (congrArg some (by kernel_rfl))
 f265:=Tryz.func283.trans (congrArg some (by kernel_rfl))
 t3:=Tryz.underlying3
 a3:=Tryz.isAgg3
 z3:=Tryz.sizeOf3
 v3:=Tryz.zeroValue3
 t9:=Tryz.underlying9
 a9:=Tryz.isAgg9
 z9:=Tryz.sizeOf9
 v9:=Tryz.zeroValue9}
open Go.RowKit in
theorem Tryz.strings_Compare(a b:ByteArray)(w:World):
 Calls Tryz.prog 198 #[.string a,.string b] w fun e w'=>e= .returned (.int .i64 (Lib.compareBytes a.data.toList b.data.toList))∧w'=w:=Any.strings_Compare Tryz.F9 a b w
def Tryz.wH:Go.Shelf.Ren:=⟨fun|17=>257|15=>282|20=>296|n=>n,fun|9=>9|23=>263|4=>4|3=>3|0=>0|21=>21|n=>n,fun|n=>n⟩
theorem Tryz.Dt:Go.Proofs.LaysGw.n17 Tryz.prog Tryz.wH:={
 mixed:=by kernel_rfl
 f15:=Tryz.func282.trans (congrArg some (by kernel_rfl))
 f17:=Tryz.func257.trans (congrArg some (by kernel_rfl))
 f20:=Tryz.func296.trans (congrArg some (by kernel_rfl))
 t0:=Tryz.underlying0
 a0:=Tryz.isAgg0
 z0:=Tryz.sizeOf0
 v0:=Tryz.zeroValue0
 i0:=by kernel_rfl
 t3:=Tryz.underlying3
 a3:=Tryz.isAgg3
 z3:=Tryz.sizeOf3
 v3:=Tryz.zeroValue3
 i3:=by kernel_rfl
 t4:=Tryz.underlying4
 a4:=Tryz.isAgg4
 z4:=Tryz.sizeOf4
 v4:=Tryz.zeroValue4
 i4:=by kernel_rfl
 t9:=Tryz.underlying9
 a9:=Tryz.isAgg9
 z9:=Tryz.sizeOf9
 v9:=Tryz.zeroValue9
 i9:=by kernel_rfl
 t21:=Tryz.underlying21
 a21:=Tryz.isAgg21
 z21:=Tryz.sizeOf21
 v21:=Tryz.zeroValue21
 i21:=by kernel_rfl
 t23:=Tryz.underlying263
 a23:=Tryz.isAgg263
 z23:=Tryz.sizeOf263
 v23:=Tryz.zeroValue263
 i23:=by kernel_rfl}
open Go.RowKit Go.Lib in
theorem Tryz.strings_ContainsFunc(g:Nat)(lb:Array Value)(eg:∀args w,(callFunc g args).run Tryz.prog w= .ok (.enter g args) w)(p:Nat→Bool)(s:ByteArray)(w:World)(hp:PredAt Tryz.prog g lb encR p w):
 Calls Tryz.prog 257 #[.string s,.func (.func g) #[] lb] w fun e w'=>e= .returned (.bool (decide (0≤Lib.idxFunc p true s)))∧Below w.heap.size w w':=Any.strings_ContainsFunc Tryz.Dt g lb eg p s w hp
def Tryz.x8:Go.Shelf.Ren:=⟨fun|146=>188|221=>254|268=>280|138=>281|143=>64|195=>294|197=>269|218=>295|219=>112|260=>288|217=>169|225=>170|224=>171|267=>172|266=>237|314=>238|n=>n,fun|9=>9|31=>60|3=>3|4=>4|0=>0|105=>271|21=>21|5=>5|46=>116|119=>295|139=>298|138=>297|146=>214|51=>110|n=>n,fun|1=>0|3=>4|4=>5|n=>n⟩
theorem Tryz.Gb:Go.Proofs.Lays.n146 Tryz.prog Tryz.x8:={
 mixed:=by kernel_rfl
 f138:=Tryz.func281.trans (congrArg some (by kernel_rfl))
 f143:=Tryz.func64.trans (congrArg some (by kernel_rfl))
 f146:=Tryz.func188.trans (congrArg some (by kernel_rfl))
 f195:=Tryz.func294.trans (congrArg some (by kernel_rfl))
 f197:=Tryz.func269.trans (congrArg some (by kernel_rfl))
 f217:=Tryz.func169.trans (congrArg some (by kernel_rfl))
 f218:=Tryz.func295.trans (congrArg some (by kernel_rfl))
 f219:=Tryz.func112.trans (congrArg some (by kernel_rfl))
 f221:=Tryz.func254.trans (congrArg some (by kernel_rfl))
 f224:=Tryz.func171.trans (congrArg some (by kernel_rfl))
 f225:=Tryz.func170.trans (congrArg some (by kernel_rfl))
 f260:=Tryz.func288.trans (congrArg some (by kernel_rfl))
 f266:=Tryz.func237.trans (congrArg some (by kernel_rfl))
 f267:=Tryz.func172.trans (congrArg some (by kernel_rfl))
 f268:=Tryz.func280.trans (congrArg some (by kernel_rfl))
 f314:=Tryz.func238.trans (congrArg some (by kernel_rfl))
 t0:=Tryz.underlying0
 a0:=Tryz.isAgg0
 z0:=Tryz.sizeOf0
 v0:=Tryz.zeroValue0
 t3:=Tryz.underlying3
 a3:=Tryz.isAgg3
 z3:=Tryz.sizeOf3
 v3:=Tryz.zeroValue3
 t4:=Tryz.underlying4
 a4:=Tryz.isAgg4
 z4:=Tryz.sizeOf4
 v4:=Tryz.zeroValue4
 t5:=Tryz.underlying5
 a5:=Tryz.isAgg5
 z5:=Tryz.sizeOf5
 v5:=Tryz.zeroValue5
 t9:=Tryz.underlying9
 a9:=Tryz.isAgg9
 z9:=Tryz.sizeOf9
 v9:=Tryz.zeroValue9
 t21:=Tryz.underlying21
 a21:=Tryz.isAgg21
 z21:=Tryz.sizeOf21
 v21:=Tryz.zeroValue21
 t31:=Tryz.underlying60
 a31:=Tryz.isAgg60
 z31:=Tryz.sizeOf60
 v31:=Tryz.zeroValue60
 t46:=Tryz.underlying116
 a46:=Tryz.isAgg116
 z46:=Tryz.sizeOf116
 v46:=Tryz.zeroValue116
 t51:=Tryz.underlying110
 a51:=Tryz.isAgg110
 z51:=Tryz.sizeOf110
 v51:=Tryz.zeroValue110
 t105:=Tryz.underlying271
 a105:=Tryz.isAgg271
 z105:=Tryz.sizeOf271
 v105:=Tryz.zeroValue271
 t119:=Tryz.underlying295
 a119:=Tryz.isAgg295
 z119:=Tryz.sizeOf295
 t138:=Tryz.underlying297
 a138:=Tryz.isAgg297
 z138:=Tryz.sizeOf297
 v138:=Tryz.zeroValue297
 t139:=Tryz.underlying298
 a139:=Tryz.isAgg298
 z139:=Tryz.sizeOf298
 v139:=Tryz.zeroValue298
 t146:=Tryz.underlying214
 a146:=Tryz.isAgg214
 z146:=Tryz.sizeOf214
 v146:=Tryz.zeroValue214
 g1:=by kernel_rfl
 g3:=by kernel_rfl
 g4:=by kernel_rfl}
open Go.RowKit Go.Lib in
theorem Tryz.strings_Split(s sep:ByteArray)(m:Int)(w:World)(hs:s.size<4294967281)(hm:w.cell? ⟨0,0,none⟩=some (.int .i64 m))(h1:1≤sep.size):
 Calls Tryz.prog 188 #[.string s,.string sep] w fun e w'=>
  e= .returned (.slice (some ⟨w.heap.size,0,none⟩) (Lib.countB s sep+1) (Lib.countB s sep+1))∧w'=w.alloc (.cells ((Lib.splitB sep 0 (Lib.countB s sep) s).map Value.string).toArray 9):=Any.strings_Split Tryz.Gb (by kernel_rfl) s sep m w hs hm h1
def Tryz.x9:Go.Shelf.Ren:=⟨fun|193=>134|n=>n,fun|31=>60|9=>9|4=>4|3=>3|0=>0|n=>n,fun|n=>n⟩
theorem Tryz.wI:Go.Proofs.Lays.n193 Tryz.prog Tryz.x9:={
 mixed:=by kernel_rfl
 f193:=Tryz.func134.trans (congrArg some (by kernel_rfl))
 t0:=Tryz.underlying0
 a0:=Tryz.isAgg0
 z0:=Tryz.sizeOf0
 v0:=Tryz.zeroValue0
 t3:=Tryz.underlying3
 a3:=Tryz.isAgg3
 z3:=Tryz.sizeOf3
 v3:=Tryz.zeroValue3
 t4:=Tryz.underlying4
 a4:=Tryz.isAgg4
 z4:=Tryz.sizeOf4
 v4:=Tryz.zeroValue4
 t9:=Tryz.underlying9
 a9:=Tryz.isAgg9
 z9:=Tryz.sizeOf9
 v9:=Tryz.zeroValue9
 t31:=Tryz.underlying60
 a31:=Tryz.isAgg60
 z31:=Tryz.sizeOf60
 v31:=Tryz.zeroValue60}
open Go.RowKit Go.Lib in
theorem Tryz.slices_Equal_string(b1 o1 n c b2 o2 m d:Nat)(xs ys:List ByteArray)(w:World)(hx:n≤xs.length)(hy:m≤ys.length)(iW:n≤9223372036854775807)(EN:m≤9223372036854775807)(qX:∀j,j<xs.length→w.cell? ⟨b1,o1+j,none⟩=some (.string (xs.getD j ByteArray.empty)))(tH:∀j,j<ys.length→w.cell? ⟨b2,o2+j,none⟩=some (.string (ys.getD j ByteArray.empty))):
 Calls Tryz.prog 134 #[.slice (some ⟨b1,o1,none⟩) n c,.slice (some ⟨b2,o2,none⟩) m d] w fun e w'=>e= .returned (.bool (decide (xs.take n=ys.take m)))∧ ∃q,w'=w.drewN q:=Any.slices_Equal_string Tryz.wI b1 o1 n c b2 o2 m d xs ys w hx hy iW EN qX tH
open Go.RowKit Go.Lib in
theorem Tryz.slices_Equal_string_empty(a1 a2:Option Addr)(c m d:Nat)(w:World)(EN:m≤9223372036854775807):
 Calls Tryz.prog 134 #[.slice a1 0 c,.slice a2 m d] w fun e w'=>e= .returned (.bool (decide (m=0)))∧w'=w:=Any.slices_Equal_string_empty Tryz.wI a1 a2 c m d w EN
open Go.RowKit Go.Lib in
theorem Tryz.slices_Equal_string_lens(a1 a2:Option Addr)(n c m d:Nat)(w:World)(RJ:n≠m):
 Calls Tryz.prog 134 #[.slice a1 n c,.slice a2 m d] w fun e w'=>e= .returned (.bool false)∧w'=w:=Any.slices_Equal_string_lens Tryz.wI a1 a2 n c m d w RJ
open Go.Shelf
def Tryz.wJ:Go.Shelf.Ren:=⟨fun|171=>96|243=>148|246=>215|283=>264|284=>265|285=>266|286=>267|129=>187|317=>284|318=>285|319=>286|320=>287|337=>297|338=>298|n=>n,fun|3=>3|9=>9|2=>2|4=>4|171=>266|0=>0|53=>46|37=>75|5=>5|173=>268|212=>287|51=>110|20=>20|213=>288|46=>116|232=>300|233=>301|n=>n,fun|17=>3|18=>6|19=>7|n=>n⟩
theorem Tryz.Du:Go.Proofs.LaysM.n171 Tryz.prog Tryz.wJ:={
 mixed:=by kernel_rfl
 f129:=Tryz.func187.trans (congrArg some (by kernel_rfl))
 f171:=Tryz.func96.trans (congrArg some (by kernel_rfl))
 f243:=Tryz.func148.trans (congrArg some (by kernel_rfl))
 f246:=Tryz.func215.trans (congrArg some (by kernel_rfl))
 f283:=Tryz.func264.trans (congrArg some (by kernel_rfl))
 f284:=Tryz.func265.trans (congrArg some (by kernel_rfl))
 f285:=Tryz.func266.trans (congrArg some (by kernel_rfl))
 f286:=Tryz.func267.trans (congrArg some (by kernel_rfl))
 f317:=Tryz.func284.trans (congrArg some (by kernel_rfl))
 f318:=Tryz.func285.trans (congrArg some (by kernel_rfl))
 f319:=Tryz.func286.trans (congrArg some (by kernel_rfl))
 f320:=Tryz.func287.trans (congrArg some (by kernel_rfl))
 f337:=Tryz.func297.trans (congrArg some (by kernel_rfl))
 f338:=Tryz.func298.trans (congrArg some (by kernel_rfl))
 t0:=Tryz.underlying0
 a0:=Tryz.isAgg0
 z0:=Tryz.sizeOf0
 v0:=Tryz.zeroValue0
 t2:=Tryz.underlying2
 a2:=Tryz.isAgg2
 z2:=Tryz.sizeOf2
 v2:=Tryz.zeroValue2
 t3:=Tryz.underlying3
 a3:=Tryz.isAgg3
 z3:=Tryz.sizeOf3
 v3:=Tryz.zeroValue3
 t4:=Tryz.underlying4
 a4:=Tryz.isAgg4
 z4:=Tryz.sizeOf4
 v4:=Tryz.zeroValue4
 t5:=Tryz.underlying5
 a5:=Tryz.isAgg5
 z5:=Tryz.sizeOf5
 v5:=Tryz.zeroValue5
 t9:=Tryz.underlying9
 a9:=Tryz.isAgg9
 z9:=Tryz.sizeOf9
 v9:=Tryz.zeroValue9
 t20:=Tryz.underlying20
 a20:=Tryz.isAgg20
 z20:=Tryz.sizeOf20
 v20:=Tryz.zeroValue20
 t37:=Tryz.underlying75
 a37:=Tryz.isAgg75
 z37:=Tryz.sizeOf75
 v37:=Tryz.zeroValue75
 t46:=Tryz.underlying116
 a46:=Tryz.isAgg116
 z46:=Tryz.sizeOf116
 v46:=Tryz.zeroValue116
 t51:=Tryz.underlying110
 a51:=Tryz.isAgg110
 z51:=Tryz.sizeOf110
 v51:=Tryz.zeroValue110
 t53:=Tryz.underlying46
 a53:=Tryz.isAgg46
 z53:=Tryz.sizeOf46
 v53:=Tryz.zeroValue46
 t171:=Tryz.underlying266
 a171:=Tryz.isAgg266
 z171:=Tryz.sizeOf266
 v171:=Tryz.zeroValue266
 t173:=Tryz.underlying268
 a173:=Tryz.isAgg268
 z173:=Tryz.sizeOf268
 v173:=Tryz.zeroValue268
 t212:=Tryz.underlying287
 a212:=Tryz.isAgg287
 z212:=Tryz.sizeOf287
 v212:=Tryz.zeroValue287
 t213:=Tryz.underlying288
 a213:=Tryz.isAgg288
 z213:=Tryz.sizeOf288
 t232:=Tryz.underlying300
 a232:=Tryz.isAgg300
 z232:=Tryz.sizeOf300
 v232:=Tryz.zeroValue300
 t233:=Tryz.underlying301
 a233:=Tryz.isAgg301
 z233:=Tryz.sizeOf301
 v233:=Tryz.zeroValue301
 g17:=by kernel_rfl
 g18:=by kernel_rfl
 g19:=by kernel_rfl
 i0:=by kernel_rfl
 i2:=by kernel_rfl
 i3:=by kernel_rfl
 i4:=by kernel_rfl
 i5:=by kernel_rfl
 i9:=by kernel_rfl
 i20:=by kernel_rfl
 i37:=by kernel_rfl
 i46:=by kernel_rfl
 i51:=by kernel_rfl
 i53:=by kernel_rfl
 i171:=by kernel_rfl
 i173:=by kernel_rfl
 i212:=by kernel_rfl
 i232:=by kernel_rfl
 i233:=by kernel_rfl
 m17:=by kernel_rfl
 m18:=by kernel_rfl
 m19:=by kernel_rfl}
open Go.RowKit Go.Sort Go.Lib in
theorem Tryz.strconv_Itoa(n : Int)(h0 : -9223372036854775808≤n)(h1 : n≤9223372036854775807)(w : World)(ZY : Lib.TabIs Tryz.prog w "internal/strconv.uint64pow10" .u64 Lib.pow10Tab) :
 Calls Tryz.prog 96 #[.int .i64 n] w fun e w'=>e= .returned (.string ⟨(Lib.itoa n).toArray⟩)∧ ∃k os,w'=grow (w.drewN k) os:=Any.strconv_Itoa Tryz.Du n h0 h1 w ZY
def Tryz.wK:Go.Shelf.Ren:=⟨fun|172=>104|244=>157|245=>158|247=>227|279=>228|280=>229|281=>230|282=>231|287=>272|316=>273|171=>96|205=>274|321=>291|322=>292|243=>148|246=>215|283=>264|284=>265|285=>266|286=>267|129=>187|317=>284|318=>285|319=>286|320=>287|337=>297|338=>298|n=>n,fun|9=>9|3=>3|75=>79|76=>80|4=>4|5=>5|167=>241|37=>75|0=>0|85=>242|2=>2|168=>244|53=>46|175=>274|46=>116|210=>277|127=>141|145=>293|143=>291|21=>21|171=>266|173=>268|212=>287|51=>110|20=>20|213=>288|232=>300|233=>301|80=>84|n=>n,fun|15=>1|16=>2|17=>3|18=>6|19=>7|n=>n⟩
theorem Tryz.tX:Go.Proofs.LaysC.n172 Tryz.prog Tryz.wK:={
 mixed:=by kernel_rfl
 f129:=Tryz.func187.trans (congrArg some (by kernel_rfl))
 f171:=Tryz.func96.trans (congrArg some (by kernel_rfl))
 f172:=Tryz.func104.trans (congrArg some (by kernel_rfl))
 f205:=Tryz.func274.trans (congrArg some (by kernel_rfl))
 f243:=Tryz.func148.trans (congrArg some (by kernel_rfl))
 f244:=Tryz.func157.trans (congrArg some (by kernel_rfl))
 f245:=Tryz.func158.trans (congrArg some (by kernel_rfl))
 f246:=Tryz.func215.trans (congrArg some (by kernel_rfl))
 f247:=Tryz.func227.trans (congrArg some (by kernel_rfl))
 f279:=Tryz.func228.trans (congrArg some (by kernel_rfl))
 f280:=Tryz.func229.trans (congrArg some (by kernel_rfl))
 f281:=Tryz.func230.trans (congrArg some (by kernel_rfl))
 f282:=Tryz.func231.trans (congrArg some (by kernel_rfl))
 f283:=Tryz.func264.trans (congrArg some (by kernel_rfl))
 f284:=Tryz.func265.trans (congrArg some (by kernel_rfl))
 f285:=Tryz.func266.trans (congrArg some (by kernel_rfl))
 f286:=Tryz.func267.trans (congrArg some (by kernel_rfl))
 f287:=Tryz.func272.trans (congrArg some (by kernel_rfl))
 f316:=Tryz.func273.trans (congrArg some (by kernel_rfl))
 f317:=Tryz.func284.trans (congrArg some (by kernel_rfl))
 f318:=Tryz.func285.trans (congrArg some (by kernel_rfl))
 f319:=Tryz.func286.trans (congrArg some (by kernel_rfl))
 f320:=Tryz.func287.trans (congrArg some (by kernel_rfl))
 f321:=Tryz.func291.trans (congrArg some (by kernel_rfl))
 f322:=Tryz.func292.trans (congrArg some (by kernel_rfl))
 f337:=Tryz.func297.trans (congrArg some (by kernel_rfl))
 f338:=Tryz.func298.trans (congrArg some (by kernel_rfl))
 t0:=Tryz.underlying0
 a0:=Tryz.isAgg0
 z0:=Tryz.sizeOf0
 v0:=Tryz.zeroValue0
 t2:=Tryz.underlying2
 a2:=Tryz.isAgg2
 z2:=Tryz.sizeOf2
 v2:=Tryz.zeroValue2
 t3:=Tryz.underlying3
 a3:=Tryz.isAgg3
 z3:=Tryz.sizeOf3
 v3:=Tryz.zeroValue3
 t4:=Tryz.underlying4
 a4:=Tryz.isAgg4
 z4:=Tryz.sizeOf4
 v4:=Tryz.zeroValue4
 t5:=Tryz.underlying5
 a5:=Tryz.isAgg5
 z5:=Tryz.sizeOf5
 v5:=Tryz.zeroValue5
 t9:=Tryz.underlying9
 a9:=Tryz.isAgg9
 z9:=Tryz.sizeOf9
 v9:=Tryz.zeroValue9
 t20:=Tryz.underlying20
 a20:=Tryz.isAgg20
 z20:=Tryz.sizeOf20
 v20:=Tryz.zeroValue20
 t21:=Tryz.underlying21
 a21:=Tryz.isAgg21
 z21:=Tryz.sizeOf21
 v21:=Tryz.zeroValue21
 t37:=Tryz.underlying75
 a37:=Tryz.isAgg75
 z37:=Tryz.sizeOf75
 v37:=Tryz.zeroValue75
 t46:=Tryz.underlying116
 a46:=Tryz.isAgg116
 z46:=Tryz.sizeOf116
 v46:=Tryz.zeroValue116
 t51:=Tryz.underlying110
 a51:=Tryz.isAgg110
 z51:=Tryz.sizeOf110
 v51:=Tryz.zeroValue110
 t53:=Tryz.underlying46
 a53:=Tryz.isAgg46
 z53:=Tryz.sizeOf46
 v53:=Tryz.zeroValue46
 t75:=Tryz.underlying79
 a75:=Tryz.isAgg79
 z75:=Tryz.sizeOf79
 v75:=Tryz.zeroValue79
 t76:=Tryz.underlying80
 a76:=Tryz.isAgg80
 z76:=Tryz.sizeOf80
 v76:=Tryz.zeroValue80
 t85:=Tryz.underlying242
 a85:=Tryz.isAgg242
 z85:=Tryz.sizeOf242
 v85:=Tryz.zeroValue242
 t127:=Tryz.underlying141
 a127:=Tryz.isAgg141
 z127:=Tryz.sizeOf141
 v127:=Tryz.zeroValue141
 t143:=Tryz.underlying291
 a143:=Tryz.isAgg291
 z143:=Tryz.sizeOf291
 v143:=Tryz.zeroValue291
 t145:=Tryz.underlying293
 a145:=Tryz.isAgg293
 z145:=Tryz.sizeOf293
 v145:=Tryz.zeroValue293
 t167:=Tryz.underlying241
 a167:=Tryz.isAgg241
 z167:=Tryz.sizeOf241
 v167:=Tryz.zeroValue241
 t168:=Tryz.underlying244
 a168:=Tryz.isAgg244
 z168:=Tryz.sizeOf244
 v168:=Tryz.zeroValue244
 t171:=Tryz.underlying266
 a171:=Tryz.isAgg266
 z171:=Tryz.sizeOf266
 v171:=Tryz.zeroValue266
 t173:=Tryz.underlying268
 a173:=Tryz.isAgg268
 z173:=Tryz.sizeOf268
 v173:=Tryz.zeroValue268
 t175:=Tryz.underlying274
 a175:=Tryz.isAgg274
 z175:=Tryz.sizeOf274
 v175:=Tryz.zeroValue274
 t210:=Tryz.underlying277
 a210:=Tryz.isAgg277
 z210:=Tryz.sizeOf277
 v210:=Tryz.zeroValue277
 t212:=Tryz.underlying287
 a212:=Tryz.isAgg287
 z212:=Tryz.sizeOf287
 v212:=Tryz.zeroValue287
 t213:=Tryz.underlying288
 a213:=Tryz.isAgg288
 z213:=Tryz.sizeOf288
 t232:=Tryz.underlying300
 a232:=Tryz.isAgg300
 z232:=Tryz.sizeOf300
 v232:=Tryz.zeroValue300
 t233:=Tryz.underlying301
 a233:=Tryz.isAgg301
 z233:=Tryz.sizeOf301
 v233:=Tryz.zeroValue301
 g15:=by kernel_rfl
 g16:=by kernel_rfl
 g17:=by kernel_rfl
 g18:=by kernel_rfl
 g19:=by kernel_rfl
 t80:=Tryz.underlying84
 a80:=Tryz.isAgg84
 z80:=Tryz.sizeOf84
 v80:=Tryz.zeroValue84
 i0:=by kernel_rfl
 i2:=by kernel_rfl
 i3:=by kernel_rfl
 i4:=by kernel_rfl
 i5:=by kernel_rfl
 i9:=by kernel_rfl
 i20:=by kernel_rfl
 i21:=by kernel_rfl
 i37:=by kernel_rfl
 i46:=by kernel_rfl
 i51:=by kernel_rfl
 i53:=by kernel_rfl
 i75:=by kernel_rfl
 i76:=by kernel_rfl
 i80:=by kernel_rfl
 i85:=by kernel_rfl
 i127:=by kernel_rfl
 i143:=by kernel_rfl
 i145:=by kernel_rfl
 i167:=by kernel_rfl
 i168:=by kernel_rfl
 i171:=by kernel_rfl
 i173:=by kernel_rfl
 i175:=by kernel_rfl
 i210:=by kernel_rfl
 i212:=by kernel_rfl
 i232:=by kernel_rfl
 i233:=by kernel_rfl
 m15:=by kernel_rfl
 m16:=by kernel_rfl
 m17:=by kernel_rfl
 m18:=by kernel_rfl
 m19:=by kernel_rfl
 c0:=by kernel_rfl
 c2:=by kernel_rfl
 c3:=by kernel_rfl
 c4:=by kernel_rfl
 c5:=by kernel_rfl
 c9:=by kernel_rfl
 c20:=by kernel_rfl
 c21:=by kernel_rfl
 c37:=by kernel_rfl
 c46:=by kernel_rfl
 c51:=by kernel_rfl
 c53:=by kernel_rfl
 c75:=by kernel_rfl
 c76:=by kernel_rfl
 c80:=by kernel_rfl
 c85:=by kernel_rfl
 c127:=by kernel_rfl
 c143:=by kernel_rfl
 c145:=by kernel_rfl
 c167:=by kernel_rfl
 c168:=by kernel_rfl
 c171:=by kernel_rfl
 c173:=by kernel_rfl
 c175:=by kernel_rfl
 c210:=by kernel_rfl
 c212:=by kernel_rfl
 c213:=by kernel_rfl
 c232:=by kernel_rfl
 c233:=by kernel_rfl}
open Go.RowKit in
theorem Tryz.strconv_Atoi_ok(s:ByteArray)(L8:s.size≤9223372036854775806)(v:Int)(h:Lib.atoiAll s.data.toList= .ok v)(w:World):
 Calls Tryz.prog 104 #[.string s] w fun e w'=>e= .returned (.tuple #[.int .i64 v,.nilIface])∧(w'=w∨ ∃t,w'=Lib.bytesWorld w 5 t):=Any.strconv_Atoi_ok Tryz.tX s L8 v h w
open Go.RowKit in
theorem Tryz.strconv_Atoi_syntax_var(s : ByteArray)(L9 : s.size≤281474976710656)(h : ∀n,Lib.atoiAll s.data.toList≠ .ok n)(hr : Lib.atoiAll s.data.toList≠ .range)(tp : TypeId)(p : Value)(w : World)(Ma : w.var? Tryz.prog "strconv.ErrSyntax" =some #[.iface tp p]) :
 Calls Tryz.prog 104 #[.string s] w fun e w'=> ∃N,e= .returned (.tuple #[.int .i64 0,.iface 244 (.pointer (some ⟨N,0,none⟩))])∧w.heap.size≤N∧w'.heap[N]?=some (.cells #[.string ⟨#[65,116,111,105]⟩,.string s,.iface tp p] 277 (0,0))∧Below w.heap.size w w':=by
 cases hq:Lib.atoiAll s.data.toList
 ·exact absurd hq (h _)
 ·exact Any.strconv_Atoi_syntax_var Tryz.tX s L9 hq tp p w Ma
 ·exact absurd hq hr
open Go.RowKit in
theorem Tryz.strconv_Atoi_range_var(s : ByteArray)(L9 : s.size≤281474976710656)(h : Lib.atoiAll s.data.toList= .range)(tp : TypeId)(p : Value)(w : World)(Ma : w.var? Tryz.prog "strconv.ErrRange" =some #[.iface tp p]) :
 Calls Tryz.prog 104 #[.string s] w fun e w'=> ∃N,e= .returned (.tuple #[.int .i64 (Lib.atoiSat s.data.toList),.iface 244 (.pointer (some ⟨N,0,none⟩))])∧w.heap.size≤N∧w'.heap[N]?=some (.cells #[.string ⟨#[65,116,111,105]⟩,.string s,.iface tp p] 277 (0,0))∧Below w.heap.size w w':=Any.strconv_Atoi_range_var Tryz.tX s L9 h tp p w Ma
end Go.Proofs
namespace Go.Proofs.YtdodihnehppnmaaGreatDoor
open Go.RowKit
theorem below_drewN(w:World)(q:Nat):Below w.heap.size w (w.drewN q):=⟨rfl,rfl,rfl,Qn _,fun _ _=>rfl⟩
structure dG (I:IH):Prop where
 pow:I 3=some (Lib.pow10Tab.map fun z=>Value.int .u64 z).toArray
 max:∃c m,I 0=some c∧c[0]?=some (.int .i64 m)
 syn:∃tp p,I 1=some #[.iface tp p]
 rng:∃tp p,I 2=some #[.iface tp p]
theorem dG.mono{I I':IH}(h:dG I)(k:∀b c,I b=some c→I' b=some c):dG I':=
 ⟨k _ _ h.pow,(let ⟨c,m,h1,h2⟩:=h.max;⟨c,m,k _ _ h1,h2⟩),(let ⟨tp,p,h1⟩:=h.syn;⟨tp,p,k _ _ h1⟩),(let ⟨tp,p,h1⟩:=h.rng;⟨tp,p,k _ _ h1⟩)⟩
theorem dG.Kk{I:IH}{w:World}(h:dG I)(hw:Ok I w):∃m,w.cell? ⟨0,0,none⟩=some (.int .i64 m):=by
 obtain⟨c,m,h1,h2⟩:=h.max;exact⟨m,by rw[hw.cell h1];exact h2⟩
theorem Xwm(l:List ByteArray):(l.map (·.data.toList)).map (fun b=>Value.string ⟨b.toArray⟩)=l.map Value.string:=by
 rw[List.map_map];apply List.map_congr_left;intro b _;simp
theorem Xtk(I:IH)(hI:dG I)(s:ae)(hs:s.length≤4294967280)(w:World)(hw:Ok I w):
 Calls Tryz.prog 188 #[S s,S [47]] w (FT gq I w (dx [] s)):=by
 obtain⟨m,hm⟩:=hI.Kk hw;have eU:(⟨s.toArray⟩:ByteArray).size=s.length:=by simp[ByteArray.size]
 refine(Tryz.strings_Split ⟨s.toArray⟩ ⟨[47].toArray⟩ m w (by omega) hm (by decide)).mono fun e w' ⟨he,hq⟩=> ?_;have VT:=Xsg s;have Z4:=Lib.splitB_data ⟨[47].toArray⟩ 0 (Lib.countB ⟨s.toArray⟩ ⟨[47].toArray⟩) ⟨s.toArray⟩;have aG:(Lib.splitB ⟨[47].toArray⟩ 0 (Lib.countB ⟨s.toArray⟩ ⟨[47].toArray⟩) ⟨s.toArray⟩).map (·.data.toList)=dx [] s:=by rw[Z4,←VT];rfl
 have hlen:Lib.countB ⟨s.toArray⟩ ⟨[47].toArray⟩+1=(dx [] s).length:=by
  rw[←aG,List.length_map];exact(Lib.splitB_all ⟨[47].toArray⟩ (by decide) 0 _ ⟨s.toArray⟩ rfl).symm
 have Al:((Lib.splitB ⟨[47].toArray⟩ 0 (Lib.countB ⟨s.toArray⟩ ⟨[47].toArray⟩) ⟨s.toArray⟩).map Value.string)=(dx [] s).map fun b=>S b:=by
  rw[←aG,Xwm]
 have iK:Lib.countB ⟨s.toArray⟩ ⟨[47].toArray⟩≤s.length:=by
  have:=Lib.countB_le ⟨[47].toArray⟩ (by decide) _ ⟨s.toArray⟩ (Qn _);rwa[eU]at this
 rw[Al]at hq;rw[hlen]at he;have L8:(dx [] s).length≤9223372036854775807:=by omega
 generalize dx [] s=l at*;subst hq;have hb:=heap_alloc_new w (.cells (l.map fun b=>S b).toArray 9);refine⟨_,I.add w.heap.size (l.map fun b=>S b).toArray,he,(Qb _ _).alloc (Qn _) _,Ext.add (Qn _) _ _,(hw.alloc _).add hb,_,l.length,rfl,Qn _,L8,fun _=>⟨w.heap.size,0,(l.map fun b=>S b).toArray,rfl,by simp[IH.add],fun i hi=>⟨[S l[i]],rfl,fun j u hu=> ?_⟩⟩⟩;have hj:j=0:=by have:=(List.getElem?_eq_some_iff.1 hu).1;simp at this;exact this
 subst hj;obtain rfl:S l[i]=u:=by simpa using hu
 show((l.map fun b=>S b).toArray)[0+(i*1+0)]?=_;rw[show 0+(i*1+0)=i by omega,List.getElem?_toArray,List.getElem?_map,List.getElem?_eq_getElem hi];rfl
theorem Xhe(g:Nat)(p:Nat→Bool)(s:ae)(w:World)(eg:∀args w,(callFunc g args).run Tryz.prog w= .ok (.enter g args) w)(hp:∀(x:Nat) (W:World),Calls Tryz.prog g #[.int .i32 (x:Int)] W fun e w'=>e= .returned (.bool (p x))∧w'=W):
 Calls Tryz.prog 257 #[S s,.func (.func g) #[] #[]] w fun e w'=>e= .returned (.bool (decide (0≤Lib.idxFunc p true ⟨s.toArray⟩)))∧Below w.heap.size w w':=
 Tryz.strings_ContainsFunc g #[] eg p ⟨s.toArray⟩ w fun W x _=>by
  have:=hp x W;exact this.mono fun e w' ⟨h1,h2⟩=>⟨h1,0,h2⟩
theorem Xwp(I:IH)(v:Value)(l:List ae)(hv:bf gq I v l)(hj:(dW l).length≤4294967296)(hn:l.length≤4294967296)(w:World)(hw:Ok I w):
 Calls Tryz.prog 72 #[v,S [47]] w fun e w'=>e= .returned (S (dW l))∧Below w.heap.size w w':=by
 obtain⟨ao,cap,rfl,dD,il,hh⟩:=id hv;by_cases h0:l=[]
 ·subst h0;exact(Tryz.strings_Join_none ao cap ⟨[47].toArray⟩ w).mono fun e w' ⟨h1,h2⟩=>⟨h1,by rw[h2];exact Qb _ _⟩
 ·have xm:0<l.length:=List.length_pos_iff.2 h0;obtain⟨b,off,arr,rfl,hI,hl⟩:=hh xm;have hx:(l.map fun s=>(⟨s.toArray⟩:ByteArray)).map (·.data.toList)=l:=by
   rw[List.map_map];conv=>rhs;rw[←List.map_id l]
   apply List.map_congr_left;intro b _;simp
  have vX:Lib.join ((l.map fun s=>(⟨s.toArray⟩:ByteArray)).map (·.data.toList)) (⟨[47].toArray⟩:ByteArray).data.toList=dW l:=by rw[hx];exact Xwq l
  have h:=Tryz.strings_Join b off cap (l.map fun s=>⟨s.toArray⟩) ⟨[47].toArray⟩ w (fun j x hx=> ?_) (hw.lt hI) (by rw[List.length_map];omega) (by rw[List.length_map];exact dD) (by rw[vX];omega)
  ·rw[vX,List.length_map]at h;exact h
  ·rw[List.getElem?_map]at hx;cases hlj:l[j]? with
   |none=>rw[hlj]at hx;simp at hx
   |some s=>
    rw[hlj]at hx;simp at hx;subst hx;obtain⟨vX,hlj⟩:=List.getElem?_eq_some_iff.1 hlj;obtain⟨cs,h1,h2⟩:=hl j vX;have iY:cs=[S l[j]]:=h1;have:=h2 0 (S l[j]) (by rw[iY];rfl);rw[hw.cell hI,←hlj];simpa[gq,Ty.flat]using this
theorem Xtn(I:IH)(v1 v2:Value)(l m:List ae)(xN:bf gq I v1 l)(xO:bf gq I v2 m)(w:World)(hw:Ok I w):
 Calls Tryz.prog 134 #[v1,v2] w fun e w'=>e= .returned (.bool (decide (l=m)))∧Below w.heap.size w w':=by
 have au:=xN.dh;have aD:=xO.dh;obtain⟨ao,cap,rfl,dD,il,hh⟩:=id xN;obtain⟨uV,cap2,rfl,qK,rJ,hh2⟩:=id xO;by_cases pU:l.length=m.length;case neg=>
  refine(Tryz.slices_Equal_string_lens ao uV l.length cap m.length cap2 w pU).mono fun e w' ⟨h1,h2⟩=>⟨?_,by rw[h2];exact Qb _ _⟩;rw[h1,Qf];intro e;exact pU (by rw[e])
 by_cases h0:l=[]
 ·subst h0;have hm:m=[]:=List.eq_nil_of_length_eq_zero (by rw[←pU];rfl);subst hm;exact(Tryz.slices_Equal_string_empty ao uV cap 0 cap2 w (by decide)).mono fun e w' ⟨h1,h2⟩=>⟨h1,by rw[h2];exact Qb _ _⟩
 ·have xm:0<l.length:=List.length_pos_iff.2 h0;obtain⟨b,off,arr,rfl,hI,hl⟩:=hh xm;obtain⟨b2,Kl,VU,rfl,jA,FP⟩:=hh2 (by omega);have cellsOf:∀(l:List ae) (b off:Nat) (arr:Array Value),I b=some arr→De gq I arr off l→ ∀j,j<(l.map fun s=>(⟨s.toArray⟩:ByteArray)).length→w.cell? ⟨b,off+j,none⟩=some (.string ((l.map fun s=>(⟨s.toArray⟩:ByteArray)).getD j ByteArray.empty)):=by
   intro l b off arr hI hl j hj;rw[List.length_map]at hj;obtain⟨cs,h1,h2⟩:=hl j hj;have iY:cs=[S l[j]]:=h1;have:=h2 0 (S l[j]) (by rw[iY];rfl);rw[hw.cell hI,List.getD_eq_getElem?_getD,List.getElem?_map,List.getElem?_eq_getElem hj];simpa[gq,Ty.flat]using this
  have h:=Tryz.slices_Equal_string b off l.length cap b2 Kl m.length cap2 (l.map fun s=>⟨s.toArray⟩) (m.map fun s=>⟨s.toArray⟩) w (by rw[List.length_map];exact Qn _) (by rw[List.length_map];exact Qn _) au aD (cellsOf l b off arr hI hl) (cellsOf m b2 Kl VU jA FP);refine h.mono fun e w' ⟨h1,q,h2⟩=>⟨?_,by rw[h2];exact below_drewN _ _⟩;rw[h1];congr 2;rw[decide_eq_decide,List.take_of_length_le (by simp),List.take_of_length_le (by simp)];constructor
  ·intro e;have:=congrArg (List.map fun b:ByteArray=>b.data.toList) e;rw[List.map_map,List.map_map]at this;have hid:((fun b:ByteArray=>b.data.toList)∘fun s:ae=>(⟨s.toArray⟩:ByteArray))=id:=by funext s;simp
   rw[hid,List.map_id,List.map_id]at this;exact this
  ·intro e;rw[e]
section
variable {α:Type}
def l9(l:List α)(p:α→Bool):Int:=match l.findIdx? p with|some i=>i|none=> -1
theorem SY{l:List α}{p:α→Bool}(h:l.any p=false):l9 l p= -1:=by
 have:l.findIdx? p=none:=by
  rw[List.findIdx?_eq_none_iff];intro x hx;cases hp:p x with
  |false=>rfl
  |true=>rw[List.any_eq_true.2 ⟨x,hx,hp⟩]at h;exact absurd h (by simp)
 rw[l9,this]
theorem S9{l:List α}{p:α→Bool}{i:Nat}(hi:i<l.length)(hp:p l[i]=true)(hn:(l.take i).any p=false):l9 l p=i:=by
 have:l.findIdx? p=some i:=by
  rw[List.findIdx?_eq_some_iff_getElem];refine⟨hi,hp,fun j hj=> ?_⟩;cases hq:p l[j]with
  |false=>simp
  |true=>
   have vX:j<(l.take i).length:=by simp;omega
   rw[List.any_eq_true.2 ⟨(l.take i)[j],List.getElem_mem vX,by rw[List.getElem_take];exact hq⟩]at hn;exact absurd hn (by simp)
 rw[l9,this]
theorem IE(l:List α)(p:α→Bool):(∃i:Nat,∃h:i<l.length,l9 l p=i∧p l[i]=true∧(l.take i).any p=false)∨(l9 l p= -1∧l.any p=false):=by
 unfold l9;cases h:l.findIdx? p with
 |none=>
  right;refine⟨rfl,?_⟩;rw[List.findIdx?_eq_none_iff]at h;cases ha:l.any p with
  |false=>rfl
  |true=>
   obtain⟨x,hx,hp⟩:=List.any_eq_true.1 ha;rw[h x hx]at hp;exact absurd hp (by simp)
 |some i=>
  left;rw[List.findIdx?_eq_some_iff_getElem]at h;obtain⟨hi,h1,h2⟩:=h;refine⟨i,hi,rfl,h1,?_⟩;cases ha:(l.take i).any p with
  |false=>rfl
  |true=>
   obtain⟨x,hx,hp⟩:=List.any_eq_true.1 ha;obtain⟨j,hj,rfl⟩:=List.getElem_of_mem hx;rw[List.getElem_take]at hp;have C7:j<i:=by simp at hj;omega
   have:=h2 j C7;simp[hp]at this
end
def eD(r:Nat):Bool:=!(bY r)
theorem Xre(c:Nat)(w:World):Calls Tryz.prog 259 #[.int .i32 (c:Int)] w fun e w'=>e= .returned (.bool (eD c))∧w'=w:=by
 rcases(show(97≤c∧c≤122)∨122<c∨(48≤c∧c≤57)∨c=46∨c=95∨c=45∨(c<48∧c≠46∧c≠45)∨(57<c∧c<97∧c≠95) by omega)with hc|hc|hc|hc|hc|hc|hc|hc
 ·have d97:decide (97≤(c:Int))=true:=by simp;omega
  have d122:decide ((c:Int)≤122)=true:=by simp;omega
  have d48:decide (48≤(c:Int))=true:=by simp;omega
  have d57:decide ((c:Int)≤57)=false:=by simp;omega
  have n46:((c:Int)==46)=false:=by simp;omega
  have n95:((c:Int)==95)=false:=by simp;omega
  have n45:((c:Int)==45)=false:=by simp;omega
  have Hv:=Qh (show eD c=true by unfold eD bY;simp;omega);clear hc;go_enter Tryz.func259,Tryz.ntmps259
  go_wp2;go_ret;exact⟨gZ Hv.O.symm,rfl⟩
 ·have d97:decide (97≤(c:Int))=true:=by simp;omega
  have d122:decide ((c:Int)≤122)=false:=by simp;omega
  have d48:decide (48≤(c:Int))=true:=by simp;omega
  have d57:decide ((c:Int)≤57)=false:=by simp;omega
  have n46:((c:Int)==46)=false:=by simp;omega
  have n95:((c:Int)==95)=false:=by simp;omega
  have n45:((c:Int)==45)=false:=by simp;omega
  have Hv:=Qh (show eD c=false by unfold eD bY;simp;omega);clear hc;go_enter Tryz.func259,Tryz.ntmps259
  go_wp2;go_ret;exact⟨gZ Hv.O.symm,rfl⟩
 ·have d97:decide (97≤(c:Int))=false:=by simp;omega
  have d122:decide ((c:Int)≤122)=true:=by simp;omega
  have d48:decide (48≤(c:Int))=true:=by simp;omega
  have d57:decide ((c:Int)≤57)=true:=by simp;omega
  have n46:((c:Int)==46)=false:=by simp;omega
  have n95:((c:Int)==95)=false:=by simp;omega
  have n45:((c:Int)==45)=false:=by simp;omega
  have Hv:=Qh (show eD c=true by unfold eD bY;simp;omega);clear hc;go_enter Tryz.func259,Tryz.ntmps259
  go_wp2;go_ret;exact⟨gZ Hv.O.symm,rfl⟩
 ·have d97:decide (97≤(c:Int))=false:=by simp;omega
  have d122:decide ((c:Int)≤122)=true:=by simp;omega
  have d48:decide (48≤(c:Int))=false:=by simp;omega
  have d57:decide ((c:Int)≤57)=true:=by simp;omega
  have n46:((c:Int)==46)=true:=by simp;omega
  have n95:((c:Int)==95)=false:=by simp;omega
  have n45:((c:Int)==45)=false:=by simp;omega
  have Hv:=Qh (show eD c=true by unfold eD bY;simp;omega);clear hc;go_enter Tryz.func259,Tryz.ntmps259
  go_wp2;go_ret;exact⟨gZ Hv.O.symm,rfl⟩
 ·have d97:decide (97≤(c:Int))=false:=by simp;omega
  have d122:decide ((c:Int)≤122)=true:=by simp;omega
  have d48:decide (48≤(c:Int))=true:=by simp;omega
  have d57:decide ((c:Int)≤57)=false:=by simp;omega
  have n46:((c:Int)==46)=false:=by simp;omega
  have n95:((c:Int)==95)=true:=by simp;omega
  have n45:((c:Int)==45)=false:=by simp;omega
  have Hv:=Qh (show eD c=true by unfold eD bY;simp;omega);clear hc;go_enter Tryz.func259,Tryz.ntmps259
  go_wp2;go_ret;exact⟨gZ Hv.O.symm,rfl⟩
 ·have d97:decide (97≤(c:Int))=false:=by simp;omega
  have d122:decide ((c:Int)≤122)=true:=by simp;omega
  have d48:decide (48≤(c:Int))=false:=by simp;omega
  have d57:decide ((c:Int)≤57)=true:=by simp;omega
  have n46:((c:Int)==46)=false:=by simp;omega
  have n95:((c:Int)==95)=false:=by simp;omega
  have n45:((c:Int)==45)=true:=by simp;omega
  have Hv:=Qh (show eD c=true by unfold eD bY;simp;omega);clear hc;go_enter Tryz.func259,Tryz.ntmps259
  go_wp2;go_ret;exact⟨gZ Hv.O.symm,rfl⟩
 ·have d97:decide (97≤(c:Int))=false:=by simp;omega
  have d122:decide ((c:Int)≤122)=true:=by simp;omega
  have d48:decide (48≤(c:Int))=false:=by simp;omega
  have d57:decide ((c:Int)≤57)=true:=by simp;omega
  have n46:((c:Int)==46)=false:=by simp;omega
  have n95:((c:Int)==95)=false:=by simp;omega
  have n45:((c:Int)==45)=false:=by simp;omega
  have Hv:=Qh (show eD c=false by unfold eD bY;simp;omega);clear hc;go_enter Tryz.func259,Tryz.ntmps259
  go_wp2;go_ret;exact⟨gZ Hv.O.symm,rfl⟩
 ·have d97:decide (97≤(c:Int))=false:=by simp;omega
  have d122:decide ((c:Int)≤122)=true:=by simp;omega
  have d48:decide (48≤(c:Int))=true:=by simp;omega
  have d57:decide ((c:Int)≤57)=false:=by simp;omega
  have n46:((c:Int)==46)=false:=by simp;omega
  have n95:((c:Int)==95)=false:=by simp;omega
  have n45:((c:Int)==45)=false:=by simp;omega
  have Hv:=Qh (show eD c=false by unfold eD bY;simp;omega);clear hc;go_enter Tryz.func259,Tryz.ntmps259
  go_wp2;go_ret;exact⟨gZ Hv.O.symm,rfl⟩
theorem Xky(c:Nat)(w:World):Calls Tryz.prog 258 #[.int .i32 (c:Int)] w fun e w'=>e= .returned (.bool (bY c))∧w'=w:=by
 go_enter Tryz.func258,Tryz.ntmps258
 go_wp2_with fail
 refine(Xre c _).mono ?_;rintro e w1 ⟨rfl,rfl⟩;go_wp2;go_ret;exact⟨gZ (by rw[eD,Bool.not_not]),rfl⟩
theorem Xmh(s:ae)(hs:s.length≤9223372036854775807)(w:World):
 Calls Tryz.prog 196 #[S s] w fun e w'=>e= .returned (.bool (comp s))∧Below w.heap.size w w':=by
 by_cases h1:1≤s.length;case neg=>
  have lM:decide (1≤s.length)=false:=Qf h1;have kw:=Qh (show comp s=false by simp[comp,h1]);go_enter Tryz.func196,Tryz.ntmps196
  go_wp2;go_ret;exact⟨gZ kw.O.symm,Qb _ _⟩
 have lM:decide (1≤s.length)=true:=Qt h1;by_cases vW:s.length≤32;case neg=>
  have oP:decide (s.length≤32)=false:=Qf vW;have kw:=Qh (show comp s=false by simp[comp,vW]);go_enter Tryz.func196,Tryz.ntmps196
  go_wp2;go_ret;exact⟨gZ kw.O.symm,Qb _ _⟩
 have oP:decide (s.length≤32)=true:=Qt vW;by_cases EH:s=[46];case pos=>
  subst EH;have kw:=Qh (show comp [46]=false by rfl);clear hs h1 lM vW oP;go_enter Tryz.func196,Tryz.ntmps196
  go_wp2;go_ret;exact⟨gZ kw.O.symm,Qb _ _⟩
 have f46:(s !=[46])=true:=by simpa using EH
 have Ve:(s==[46])=false:=by simpa using EH
 by_cases HZ:s=[46,46];case pos=>
  subst HZ;have kw:=Qh (show comp [46,46]=false by rfl);clear hs h1 lM vW oP EH f46 Ve;go_enter Tryz.func196,Tryz.ntmps196
  go_wp2;go_ret;exact⟨gZ kw.O.symm,Qb _ _⟩
 have f47:(s !=[46,46])=true:=by simpa using HZ
 have g47:(s==[46,46])=false:=by simpa using HZ
 have kw:=Qh (show comp s=!(decide (0≤Lib.idxFunc bY true ⟨s.toArray⟩)) by rw[Xwx,Bool.not_not];simp[comp,h1,vW,f46,f47]);have OV:=Qh (Xhe 258 bY s w (fun _ _=>by kernel_rfl) (fun x W=>Xky x W));generalize decide (0≤Lib.idxFunc bY true ⟨s.toArray⟩)=bb at kw OV;clear EH HZ;go_enter Tryz.func196,Tryz.ntmps196
 go_wp2_with fail
 refine OV.O.mono ?_;rintro e w1 ⟨rfl,au⟩;go_wp2;go_ret;exact⟨gZ kw.O.symm,au⟩
theorem Ta(I:IH)(hI:dG I)(s:ae)(hs:s.length≤4294967280)(w:World)(hw:Ok I w):
 Calls Tryz.prog 121 #[S s] w (FT gq I w (els s)):=by
 by_cases h0:s=[]
 ·obtain⟨p1,p2,p3,p4⟩:=Bu h0;have Hs:=Qh (show els s=[] by rw[h0];rfl);clear h0;go_enter Tryz.func121,Tryz.ntmps121
  go_wp2;go_ret;rw[Hs.O];exact⟨_,I,rfl,Qb _ _,Ext.refl _ _,hw,bf.nil _ _⟩
 ·obtain⟨p1,p2,p3,p4⟩:=zC h0;have Hs:=Qh (show els s=dx [] s by rw[els,if_neg h0]);have Hl:=Qh (Xtk I hI s hs w hw);generalize dx [] s=l at Hs Hl;clear h0;go_enter Tryz.func121,Tryz.ntmps121
  go_wp2_with fail
  refine Hl.O.mono ?_;rintro e w1 ⟨v1,I1,rfl,au,fP,aB,kV⟩;obtain⟨ao,cap,rfl,dD,il,_⟩:=id kV;go_wp2;go_ret;rw[Hs.O];exact⟨_,I1,rfl,au,fP,aB,kV⟩
theorem Xs3(s:ae)(hs:s.length≤9223372036854775807)(w:World):
 Calls Tryz.prog 195 #[S s] w fun e w'=>e= .returned (.bool (!(comp s)))∧Below w.heap.size w w':=by
 go_enter Tryz.func195,Tryz.ntmps195
 go_wp2_with fail
 refine(Xmh s hs _).mono ?_;rintro e w1 ⟨rfl,au⟩;go_wp2;go_ret;exact⟨rfl,au⟩
theorem Xjm(I:IH)(v:Value)(l:List ae)(hv:bf gq I v l)(g:Nat)(p:ae→Bool)(w:World)(hw:Ok I w)(eg:∀args w,(callFunc g args).run Tryz.prog w= .ok (.enter g args) w)(hp:∀x∈l,∀W:World,Calls Tryz.prog g #[S x] W fun e w'=>e= .returned (.bool (p x))∧Below W.heap.size W w'):
 Calls Tryz.prog 256 #[v,.func (.func g) #[] #[]] w fun e w'=>e= .returned (.int .i64 (l9 l p))∧Below w.heap.size w w':=by
 have hlen:=hv.dh;obtain⟨ao,cap,rfl,dD,il,_⟩:=id hv;have Hv:=Qh hv;clear hv;have Hp:=Qh hp;clear hp;go_enter Tryz.func256,Tryz.ntmps256
 go_wp2_with fail
 go_loopw [8] (fun s8 wr=> ∃k:Nat,k≤l.length∧s8= .int .i64 k∧(l.take k).any p=false∧Below w.heap.size w wr) (fun i _=>l.length-(intOf i).toNat)
 case atStart=>exact⟨0,Nat.zero_le _,rfl,rfl,Qb _ _⟩
 case round=>
  obtain⟨k,hk,rfl,hr,hb⟩:=hrel;have Hr:=Qh hr;clear hr;by_cases hlt:k<l.length
  ·have dz:Ok I wr:=hw.below (Qn _) hb;obtain⟨x,b,off,cap',bN,di,mM⟩:=Fb Hv.O dz k hlt;cases di;have sF:=Qh bN;have kJ:=Qh (Hp.O x (by rw[←bN];exact List.getElem_mem hlt));clear bN;go_wp2_with fail
   refine(kJ.O _).mono ?_;rintro e w1 ⟨rfl,au⟩;have av:=hb.trans (au.mono hb.size);clear au kJ;cases hpx:p x
   ·have Hn:=Qh (show(l.take (k+1)).any p=false by rw[List.take_succ_eq_append_getElem hlt,List.any_append,Hr.O,sF.O];simp[hpx]);clear hpx;go_wp2;go_roundw;case rel=>exact⟨k+1,by omega,by go_num,Hn.O,av⟩
    case measure=>simp[intOf];omega
   ·have Hn:=Qh (S9 (p:=p) hlt (by rw[sF.O];exact hpx) Hr.O);clear hpx;go_wp2;go_ret;exact⟨bT Hn.O.symm,av⟩
  ·have Hn:=Qh (show l9 l p= -1 from SY (by have:=Hr.O;rwa[List.take_of_length_le (by omega)]at this));go_wp2;go_ret;exact⟨bT Hn.O.symm,hb⟩
theorem Xgk(I:IH)(v:Value)(l:List ae)(hv:bf gq I v l)(g:Nat)(p:ae→Bool)(w:World)(hw:Ok I w)(eg:∀args w,(callFunc g args).run Tryz.prog w= .ok (.enter g args) w)(hp:∀x∈l,∀W:World,Calls Tryz.prog g #[S x] W fun e w'=>e= .returned (.bool (p x))∧Below W.heap.size W w'):
 Calls Tryz.prog 194 #[v,.func (.func g) #[] #[]] w fun e w'=>e= .returned (.bool (l.any p))∧Below w.heap.size w w':=by
 have Hi:=Qh (Xjm I v l hv g p w hw eg hp);obtain⟨ao,cap,rfl,dD,il,_⟩:=id hv;clear hv hp eg;rcases IE l p with⟨i,hi,e1,e2,_⟩|⟨e1,e2⟩
 ·have Ha:=Qh (show l.any p=true from List.any_eq_true.2 ⟨l[i],List.getElem_mem hi,e2⟩);have hd:decide ((0:Int)≤(i:Int))=true:=Qt (by omega);rw[e1]at Hi;clear e1 e2;go_enter Tryz.func194,Tryz.ntmps194
  go_wp2_with fail
  refine Hi.O.mono ?_;rintro e w1 ⟨rfl,au⟩;go_wp2;go_ret;exact⟨gZ Ha.O.symm,au⟩
 ·have Ha:=Qh e2;rw[e1]at Hi;clear e1 e2;go_enter Tryz.func194,Tryz.ntmps194
  go_wp2_with fail
  refine Hi.O.mono ?_;rintro e w1 ⟨rfl,au⟩;go_wp2;go_ret;exact⟨gZ Ha.O.symm,au⟩
theorem Xz6(l:List ae):l.any (fun s=> !(comp s))=!(l.all comp):=by
 induction l with
 |nil=>rfl
 |cons x l ih=>rw[List.any_cons,List.all_cons,ih,Bool.not_and]
theorem Xpy(I:IH)(hI:dG I)(s:ae)(hs:s.length≤4294967280)(w:World)(hw:Ok I w):
 Calls Tryz.prog 129 #[S s] w fun e w'=>e= .returned (.int .i64 (aF s))∧Below w.heap.size w w':=by
 have Bl:=Qh (Ta I hI s hs w hw);have Km:=Qh (fun(q:ae) (h:q∈els s)=>Xuo h);by_cases Vg:s.length≤200;case neg=>
  have hd:decide (200<s.length)=true:=Qt (by omega);have Hp:=Qh (show aF s=6 by rw[aF,if_pos (by omega)]);go_enter Tryz.func129,Tryz.ntmps129
  go_wp2_with fail
  refine Bl.O.mono ?_;rintro e w1 ⟨v1,I1,rfl,au,fP,aB,kV⟩;obtain⟨ao,cap,rfl,dD,il,_⟩:=id kV;clear kV;go_wp2;go_ret;exact⟨bT Hp.O.symm,au⟩
 have hd:decide (200<s.length)=false:=Qf (by omega);have Hp:=Qh (show aF s=if 8<(els s).length then 6 else if(els s).all comp then 0 else 7 by rw[aF,if_neg (by omega)]);generalize els s=l at Bl Hp Km;by_cases h8:8<l.length;case pos=>
  have FW:=Qh (show aF s=6 by rw[Hp.O,if_pos h8]);go_enter Tryz.func129,Tryz.ntmps129
  go_wp2_with fail
  refine Bl.O.mono ?_;rintro e w1 ⟨v1,I1,rfl,au,fP,aB,kV⟩;obtain⟨ao,cap,rfl,dD,il,_⟩:=id kV;clear kV;go_wp2;go_ret;exact⟨bT FW.O.symm,au⟩
 have FW:=Qh (show aF s=if l.all comp then 0 else 7 by rw[Hp.O,if_neg h8]);go_enter Tryz.func129,Tryz.ntmps129
 go_wp2_with fail
 refine Bl.O.mono ?_;rintro e w1 ⟨v1,I1,rfl,au,fP,aB,kV⟩;have OV:=Qh (Xgk I1 v1 l kV 195 (fun s=> !(comp s)) w1 aB (fun _ _=>by kernel_rfl) (fun x hx W=>Xs3 x (by have:=Km.O x hx;omega) W));rw[Xz6]at OV;obtain⟨ao,cap,rfl,dD,il,_⟩:=id kV;clear kV;go_wp2_with fail
 refine OV.O.mono ?_;rintro e w2 ⟨rfl,aD⟩;cases ha:l.all comp
 ·have Hn:=Qh (show aF s=7 by rw[FW.O,ha];rfl);clear ha;go_wp2;go_ret;exact⟨bT Hn.O.symm,au.trans (aD.mono au.size)⟩
 ·have Hn:=Qh (show aF s=0 by rw[FW.O,ha];rfl);clear ha;go_wp2;go_ret;exact⟨bT Hn.O.symm,au.trans (aD.mono au.size)⟩
theorem Tc(I:IH)(hI:dG I)(s:ae)(hs:s.length≤4294967280)(w:World)(hw:Ok I w):
 Calls Tryz.prog 133 #[S s] w (uT gq I w (oH s).1 (oH s).2):=by
 have Hc:=Qh (Xpy I hI s hs w hw);by_cases h0:aF s=0
 ·rw[h0]at Hc;have wu:=Qh (MR h0);clear h0;go_enter Tryz.func133,Tryz.ntmps133
  go_wp2_with fail
  refine Hc.O.mono ?_;rintro e w1 ⟨rfl,au⟩;have aB:Ok I w1:=hw.below (Qn _) au;go_wp2_with fail
  refine(Ta I hI s hs _ aB).mono ?_;rintro e w2 ⟨v2,I2,rfl,aD,eZ,aP,fQ⟩;obtain⟨ao,cap,rfl,dD,il,_⟩:=id fQ;go_wp2;go_ret2;rw[wu.O];exact⟨_,I2,rfl,au.trans (aD.mono au.size),eZ.mono au.size,aP,fQ⟩
 ·have wu:=Qh (Sz h0);obtain⟨q,hq⟩:∃q,aF s=q:=⟨_,rfl⟩;have hn:(q !=0)=true:=by rw[←hq];simpa using h0
  rw[hq]at wu Hc;clear hq h0;go_enter Tryz.func133,Tryz.ntmps133
  go_wp2_with fail
  refine Hc.O.mono ?_;rintro e w1 ⟨rfl,au⟩;have aB:Ok I w1:=hw.below (Qn _) au;go_wp2;go_ret2;rw[wu.O];exact⟨_,I,rfl,au,Ext.refl _ _,aB,bf.nil _ _⟩
theorem VV(I:IH)(hI:dG I)(s:ae)(hs:s.length≤4294967280)(w:World)(hw:Ok I w):
 Calls Tryz.prog 82 #[S s] w fun e w'=>e= .returned (.tuple #[S (lX s).1,.int .i64 (lX s).2])∧Below w.heap.size w w':=by
 by_cases h0:aF s=0
 ·have zw:=Qh (by have:=Tc I hI s hs w hw;rw[MR h0]at this;exact this);have oV:=(Bj h0).1;have hs8:=(Bj h0).2.1;have FX:=Qh (show lX s=if s=[]then([],1)else(jO s,0) by rw[lX,if_neg (by omega)]);have vX:(dW (els s)).length≤200:=by rw[Su];exact oV
  have yS:=wm (s:=s);have jQ:jO s=dW ((els s).take ((els s).length-1)):=by rw[jO,List.dropLast_eq_take]
  have OE:=Qh (Vf (els s) ((els s).length-1));generalize els s=l at zw vX yS jQ OE hs8;have Bl:=Qh yS;have Vj:=Qh jQ;clear h0 yS jQ;go_enter Tryz.func82,Tryz.ntmps82
  go_wp2_with fail
  refine zw.O.mono ?_;rintro e w1 ⟨v1,I1,rfl,au,fP,aB,kV⟩;obtain⟨ao,cap,rfl,dD,il,_⟩:=id kV;have Bn:=Qh kV;clear kV fP;have uM:maxLen=9223372036854775807:=rfl;by_cases pR:l.length=0
  ·have Hn:=Qh (show lX s=([],1) by rw[FX.O,if_pos (Bl.O.1 (List.eq_nil_of_length_eq_zero pR))]);have hz:((l.length:Int)==0)=true:=by rw[pR];rfl
   clear pR uM;go_wp2;go_ret2;rw[Hn.O];exact⟨rfl,au⟩
  ·have Hn:=Qh (show lX s=(dW (l.take (l.length-1)),0) by
    rw[FX.O,if_neg (fun e=>pR (by rw[Bl.O.2 e];rfl)),Vj.O])
   have hz:((l.length:Int)==0)=false:=by rw[beq_eq_false_iff_ne];omega
   have hlp:1≤l.length:=by omega
   have hi:IntKind.i64.wrap ((l.length:Int)-1)=(l.length:Int)-1:=IntWalk.i64_in _ (by omega);have hj:(0:Int)≤(l.length:Int)-1:=by omega
   have xk:(l.length:Int)-1≤(cap:Int):=by omega
   have hm:((l.length:Int)-1).toNat=l.length-1:=by omega
   have uN:=Qh (Bn.O.xS (n:=l.length-1) (by omega));have Vk:=Qh (Xwp I1 _ _ uN.O (by have:=OE.O;omega) (by rw[List.length_take];omega) w1 aB);clear pR uM;go_wp2_with fail
   refine Vk.O.mono ?_;rintro e w2 ⟨rfl,aD⟩;go_wp2;go_ret2;rw[Hn.O];exact⟨rfl,au.trans (aD.mono au.size)⟩
 ·have zw:=Qh (by have:=Tc I hI s hs w hw;rw[Sz h0]at this;exact this);obtain⟨q,hq⟩:∃q,aF s=q:=⟨_,rfl⟩;have hn:(q !=0)=true:=by rw[←hq];simpa using h0
  have FX:=Qh (show lX s=([],q) by rw[lX,if_pos h0,hq]);rw[hq]at zw;clear hq h0;go_enter Tryz.func82,Tryz.ntmps82
  go_wp2_with fail
  refine zw.O.mono ?_;rintro e w1 ⟨v1,I1,rfl,au,fP,aB,kV⟩;obtain⟨ao,cap,rfl,dD,il,_⟩:=id kV;go_wp2;go_ret2;rw[FX.O];exact⟨rfl,au⟩
theorem VW(I:IH)(hI:dG I)(p d:ae)(hp:p.length≤4294967280)(hd:d.length≤4294967280)(w:World)(hw:Ok I w):
 Calls Tryz.prog 79 #[S p,S d] w fun e w'=>e= .returned (.bool (under p d))∧Below w.heap.size w w':=by
 have zw:=Qh (Tc I hI p hp w hw);have Hu:=Qh (show under p d=(decide (aF p=0)&&decide (aF d=0)&&(els d).isPrefixOf (els p))from rfl);have tK:(oH p).2=aF p:=by rw[oH];split<;>simp_all
 have UK:(oH d).2=aF d:=by rw[oH];split<;>simp_all
 have Hl1:=Qh (fun h:aF p=0=>show(oH p).1=els p by rw[MR h]);have Hl2:=Qh (fun h:aF d=0=>show(oH d).1=els d by rw[MR h]);have OW:=Qh (fun I hI w hw=>Tc I hI d hd w hw);rw[tK]at zw;rw[UK]at OW;generalize(oH p).1=l at zw Hl1;generalize(oH d).1=m at OW Hl2;clear tK UK;go_enter Tryz.func79,Tryz.ntmps79
 go_wp2_with fail
 refine zw.O.mono ?_;rintro e w1 ⟨v1,I1,rfl,au,fP,aB,kV⟩;have jo:=hI.mono (fP.keep hw (Qn _));have Bn:=Qh kV;clear kV;obtain⟨ao0,cap0,rfl,_,_,_⟩:=id Bn.O;go_wp2_with fail
 refine(OW.O I1 jo _ aB).mono ?_;rintro e w2 ⟨v2,I2,rfl,aD,eZ,aP,fQ⟩;have kV:=Bn.O.mono (eZ.keep aB (Qn _));have aK:=au.trans (aD.mono au.size);obtain⟨ao,cap,e1,dD,il,_⟩:=id kV;cases e1;obtain⟨uV,cap2,rfl,qK,rJ,_⟩:=id fQ;have hlen:=kV.dh;have xU:=fQ.dh;have Hl:=Qh kV;have Hm:=Qh fQ;clear kV fQ Bn au aD fP eZ;by_cases h0:aF p=0;case neg=>
  have Hn:=Qh (show under p d=false by rw[Hu.O,Qf h0];rfl);obtain⟨q,hq⟩:∃q,aF p=q:=⟨_,rfl⟩;have hn:(q==0)=false:=by rw[←hq];simpa using h0
  rw[hq];clear hq h0;go_wp2;go_ret;exact⟨gZ Hn.O.symm,aK⟩
 by_cases h1:aF d=0;case neg=>
  have Hn:=Qh (show under p d=false by rw[Hu.O,Qf h1,Bool.and_false];rfl);obtain⟨q,hq⟩:∃q,aF d=q:=⟨_,rfl⟩;have hn:(q==0)=false:=by rw[←hq];simpa using h1
  rw[hq,h0];clear hq h1 h0;go_wp2;go_ret;exact⟨gZ Hn.O.symm,aK⟩
 have JX:=Qh (show under p d=m.isPrefixOf l by rw[Hu.O,Qt h0,Qt h1,Hl1.O h0,Hl2.O h1];rfl);rw[h0,h1];clear h0 h1;by_cases pU:m.length≤l.length;case neg=>
  have lM:decide (m.length≤l.length)=false:=Qf pU;have Hn:=Qh (show under p d=false by rw[JX.O];exact Xgy (by omega));go_wp2;go_ret;exact⟨gZ Hn.O.symm,aK⟩
 have lM:decide (m.length≤l.length)=true:=Qt pU;have hcc:m.length≤cap0:=by omega
 have Hn:=Qh (show under p d=decide (l.take m.length=m) by rw[JX.O];exact Xig l m);have Heq:=Qh (Xtn I2 _ _ _ _ (Hl.O.xS pU) Hm.O w2 aP);generalize decide (l.take m.length=m)=bb at Hn Heq;go_wp2_with fail
 refine Heq.O.mono ?_;rintro e w3 ⟨rfl,bU⟩;go_wp2;go_ret;exact⟨gZ Hn.O.symm,aK.trans (bU.mono aK.size)⟩
def qj(x y:ae):Int:=if Op.bytesLess x y then -1 else if Op.bytesLess y x then 1 else 0
theorem Nk(x:ae)(w:World):Calls Tryz.prog 189 #[S x] w fun e w'=>e= .returned (.bool false)∧w'=w:=by
 have f:(x !=x)=false:=by simp
 have f2:(x==x)=true:=by simp
 go_enter Tryz.func189,Tryz.ntmps189
 go_wp2;go_ret;exact⟨by first|rfl|(simp),rfl⟩
theorem Xyw(x y:ae)(w:World):Calls Tryz.prog 122 #[S x,S y] w fun e w'=>e= .returned (.int .i64 (qj x y))∧w'=w:=by
 rcases ML x y with ht|ht|ht
 ·have Hn:=Qh (show qj x y= -1 by rw[qj,ht];rfl);go_enter Tryz.func122,Tryz.ntmps122
  go_wp2_with fail
  refine(Nk x _).mono ?_;rintro e w1 ⟨rfl,rfl⟩;go_wp2_with fail
  refine(Nk y _).mono ?_;rintro e w2 ⟨rfl,rfl⟩;go_wp2;go_ret;exact⟨bT Hn.O.symm,rfl⟩
 ·have f1:Op.bytesLess x y=false:=by rw[ht];exact Df _
  have f2:Op.bytesLess y x=false:=by rw[ht];exact Df _
  have f3:(x==y)=true:=by simp[ht]
  have f4:(!(x==y))=false:=by simp[ht]
  have Hn:=Qh (show qj x y=0 by rw[qj,f1,f2];rfl);clear ht;go_enter Tryz.func122,Tryz.ntmps122
  go_wp2_with fail
  refine(Nk x _).mono ?_;rintro e w1 ⟨rfl,rfl⟩;go_wp2_with fail
  refine(Nk y _).mono ?_;rintro e w2 ⟨rfl,rfl⟩;go_wp2;go_ret;exact⟨bT Hn.O.symm,rfl⟩
 ·have f1:=MM ht;have f3:(x==y)=false:=by simpa using(MN ht).symm
  have f4:(!(x==y))=true:=by rw[f3];rfl
  have Hn:=Qh (show qj x y=1 by rw[qj,f1,ht];rfl);go_enter Tryz.func122,Tryz.ntmps122
  go_wp2_with fail
  refine(Nk x _).mono ?_;rintro e w1 ⟨rfl,rfl⟩;go_wp2_with fail
  refine(Nk y _).mono ?_;rintro e w2 ⟨rfl,rfl⟩;go_wp2;go_ret;exact⟨bT Hn.O.symm,rfl⟩
theorem Xry(x y:ae):(qj x y= -1∧Op.bytesLess x y=true)∨(qj x y=0∧x=y)∨(qj x y=1∧Op.bytesLess y x=true):=by
 rcases ML x y with ht|ht|ht
 ·exact .inl ⟨by rw[qj,ht];rfl,ht⟩
 ·exact .inr (.inl ⟨by rw[qj,ht,Df];rfl,ht⟩)
 ·exact .inr (.inr ⟨by rw[qj,MM ht,ht];rfl,ht⟩)
theorem Xik(I:IH)(v1 v2:Value)(l m:List ae)(xN:bf gq I v1 l)(xO:bf gq I v2 m)(w:World)(hw:Ok I w):
 Calls Tryz.prog 120 #[v1,v2,.func (.func 122) #[] #[]] w fun e w'=>e= .returned (.int .i64 (cmpL l m))∧Below w.heap.size w w':=by
 have hlen:=xN.dh;have xU:=xO.dh;obtain⟨ao,cap,rfl,dD,il,_⟩:=id xN;obtain⟨uV,cap2,rfl,qK,rJ,_⟩:=id xO;have Hl:=Qh xN;have Hm:=Qh xO;clear xN xO;have eg:∀args w,(callFunc 122 args).run Tryz.prog w= .ok (.enter 122 args) w:=fun _ _=>by kernel_rfl
 go_enter Tryz.func120,Tryz.ntmps120
 go_wp2_with fail
 go_loopw [13] (fun s13 wr=> ∃k:Nat,k≤l.length∧k≤m.length∧s13= .int .i64 k∧l.take k=m.take k∧Below w.heap.size w wr) (fun i _=>l.length-(intOf i).toNat)
 case atStart=>exact⟨0,Nat.zero_le _,Nat.zero_le _,rfl,rfl,Qb _ _⟩
 case round=>
  obtain⟨k,hk,sP,rfl,hr,hb⟩:=hrel;have Hr:=Qh hr;have AC:=Qh (Xnq hr hk sP);clear hr;have dz:Ok I wr:=hw.below (Qn _) hb;by_cases hlt:k<l.length;case neg=>
   have OG:=Qh (show l.drop k=[]from List.drop_of_length_le (by omega));by_cases jm:k<m.length
   ·have lM:decide (l.length<m.length)=true:=Qt (by omega);have Hn:=Qh (show cmpL l m= -1 by rw[AC.O,OG.O,List.drop_eq_getElem_cons jm];rfl);go_wp2;go_ret;exact⟨bT Hn.O.symm,hb⟩
   ·have lM:decide (l.length<m.length)=false:=Qf (by omega);have Hn:=Qh (show cmpL l m=0 by rw[AC.O,OG.O,List.drop_of_length_le (by omega)];rfl);go_wp2;go_ret;exact⟨bT Hn.O.symm,hb⟩
  obtain⟨x,b,off,cap',bN,di,hx0⟩:=Fb Hl.O dz k hlt;cases di;by_cases jm:k<m.length;case neg=>
   have lM:decide (m.length≤k)=true:=Qt (by omega);have Hn:=Qh (show cmpL l m=1 by rw[AC.O,List.drop_of_length_le (l:=m) (by omega),List.drop_eq_getElem_cons hlt];rfl);clear bN;go_wp2;go_ret;exact⟨bT Hn.O.symm,hb⟩
  have lM:decide (m.length≤k)=false:=Qf (by omega);obtain⟨y,b',off',tO,iB,di,JA⟩:=Fb Hm.O dz k jm;cases di;have Di:=Qh (show cmpL l m=cmpL (x::l.drop (k+1)) (y::m.drop (k+1)) by rw[AC.O,List.drop_eq_getElem_cons hlt,List.drop_eq_getElem_cons jm,bN,iB]);have sF:=Qh bN;have MU:=Qh iB;have Hc:=Qh (Xyw x y);have iY:=Xry x y;generalize qj x y=c at Hc iY;clear bN iB;rcases iY with⟨hc,ht⟩|⟨hc,ht⟩|⟨hc,ht⟩
  ·subst hc;have Hn:=Qh (show cmpL l m= -1 by rw[Di.O];exact Xg8 ht _ _);clear ht;go_wp2_with fail
   refine(Hc.O _).mono ?_;rintro e w1 ⟨rfl,rfl⟩;go_wp2;go_ret;exact⟨bT Hn.O.symm,hb⟩
  ·subst hc;have Hn:=Qh (show l.take (k+1)=m.take (k+1) by rw[List.take_succ_eq_append_getElem hlt,List.take_succ_eq_append_getElem jm,Hr.O,sF.O,MU.O,ht]);clear ht;go_wp2_with fail
   refine(Hc.O _).mono ?_;rintro e w1 ⟨rfl,rfl⟩;go_wp2;go_roundw;case rel=>exact⟨k+1,by omega,by omega,by go_num,Hn.O,hb⟩
   case measure=>simp[intOf];omega
  ·subst hc;have Hn:=Qh (show cmpL l m=1 by rw[Di.O];exact Xg9 ht _ _);clear ht;go_wp2_with fail
   refine(Hc.O _).mono ?_;rintro e w1 ⟨rfl,rfl⟩;go_wp2;go_ret;exact⟨bT Hn.O.symm,hb⟩
theorem Td(I:IH)(hI:dG I)(p d:ae)(hp:p.length≤4294967280)(hd:d.length≤4294967280)(w:World)(hw:Ok I w):
 Calls Tryz.prog 71 #[S p,S d] w fun e w'=>e= .returned (.int .i64 (ic p d))∧Below w.heap.size w w':=by
 have Hu:=Qh (Xva p d);have Iq:=Qh (Ta I hI p hp w hw);have Ir:=Qh (fun I hI w hw=>Ta I hI d hd w hw);generalize els p=l at Hu Iq;generalize els d=m at Hu Ir;go_enter Tryz.func71,Tryz.ntmps71
 go_wp2_with fail
 refine Iq.O.mono ?_;rintro e w1 ⟨v1,I1,rfl,au,fP,aB,kV⟩;have jo:=hI.mono (fP.keep hw (Qn _));have Bn:=Qh kV;clear kV;obtain⟨ao0,cap0,rfl,_,_,_⟩:=id Bn.O;go_wp2_with fail
 refine(Ir.O I1 jo _ aB).mono ?_;rintro e w2 ⟨v2,I2,rfl,aD,eZ,aP,fQ⟩;have kV:=Bn.O.mono (eZ.keep aB (Qn _));have aK:=au.trans (aD.mono au.size);have Hc:=Qh (Xik I2 _ _ l m kV fQ w2 aP);obtain⟨uV,cap2,rfl,_,_,_⟩:=id fQ;clear kV fQ Bn fP eZ;go_wp2_with fail
 refine Hc.O.mono ?_;rintro e w3 ⟨rfl,bU⟩;go_wp2;go_ret;exact⟨bT Hu.O.symm,aK.trans (bU.mono aK.size)⟩
theorem VY{W w1:World}{n:Nat}{x:At}{T:TypeId}(hn:n=W.heap.size)(hb:Below (W.alloc (.cells #[S x.k,S x.v] T)).heap.size (W.alloc (.cells #[S x.k,S x.v] T)) w1):
 w1.cell? ⟨n,0,none⟩=some (S x.k)∧w1.cell? ⟨n,1,none⟩=some (S x.v):=by
 subst hn;refine⟨?_,?_⟩<;>(rw[hb.cell (by simp)];simp)
end Go.Proofs.YtdodihnehppnmaaGreatDoor
namespace Go.Proofs
open Go.Shelf
def Tryz.yf:Go.Shelf.Ren:=⟨fun|160=>156|232=>221|231=>220|227=>222|234=>224|233=>223|236=>226|235=>225|228=>268|271=>271|151=>270|197=>269|120=>290|152=>289|260=>288|137=>154|119=>299|224=>171|225=>170|217=>169|266=>237|n=>n,fun|9=>9|4=>4|3=>3|5=>5|117=>237|116=>236|0=>0|124=>240|21=>21|105=>271|46=>116|119=>295|139=>298|138=>297|n=>n,fun|3=>4|4=>5|n=>n⟩
theorem Tryz.Gd:Go.Proofs.Lays.n160 Tryz.prog Tryz.yf:={
 mixed:=by kernel_rfl
 f119:=Tryz.func299.trans (congrArg some (by kernel_rfl))
 f120:=Tryz.func290.trans (congrArg some (by kernel_rfl))
 f137:=Tryz.func154.trans (congrArg some (by kernel_rfl))
 f151:=Tryz.func270.trans (congrArg some (by kernel_rfl))
 f152:=Tryz.func289.trans (congrArg some (by kernel_rfl))
 f160:=Tryz.func156.trans (congrArg some (by kernel_rfl))
 f197:=Tryz.func269.trans (congrArg some (by kernel_rfl))
 f217:=Tryz.func169.trans (congrArg some (by kernel_rfl))
 f224:=Tryz.func171.trans (congrArg some (by kernel_rfl))
 f225:=Tryz.func170.trans (congrArg some (by kernel_rfl))
 f227:=Tryz.func222.trans (congrArg some (by kernel_rfl))
 f228:=Tryz.func268.trans (congrArg some (by kernel_rfl))
 f231:=Tryz.func220.trans (congrArg some (by kernel_rfl))
 f232:=Tryz.func221.trans (congrArg some (by kernel_rfl))
 f233:=Tryz.func223.trans (congrArg some (by kernel_rfl))
 f234:=Tryz.func224.trans (congrArg some (by kernel_rfl))
 f235:=Tryz.func225.trans (congrArg some (by kernel_rfl))
 f236:=Tryz.func226.trans (congrArg some (by kernel_rfl))
 f260:=Tryz.func288.trans (congrArg some (by kernel_rfl))
 f266:=Tryz.func237.trans (congrArg some (by kernel_rfl))
 f271:=Tryz.func271.trans (congrArg some (by kernel_rfl))
 t0:=Tryz.underlying0
 a0:=Tryz.isAgg0
 z0:=Tryz.sizeOf0
 v0:=Tryz.zeroValue0
 t3:=Tryz.underlying3
 a3:=Tryz.isAgg3
 z3:=Tryz.sizeOf3
 v3:=Tryz.zeroValue3
 t4:=Tryz.underlying4
 a4:=Tryz.isAgg4
 z4:=Tryz.sizeOf4
 v4:=Tryz.zeroValue4
 t5:=Tryz.underlying5
 a5:=Tryz.isAgg5
 z5:=Tryz.sizeOf5
 v5:=Tryz.zeroValue5
 t9:=Tryz.underlying9
 a9:=Tryz.isAgg9
 z9:=Tryz.sizeOf9
 v9:=Tryz.zeroValue9
 t21:=Tryz.underlying21
 a21:=Tryz.isAgg21
 z21:=Tryz.sizeOf21
 v21:=Tryz.zeroValue21
 t46:=Tryz.underlying116
 a46:=Tryz.isAgg116
 z46:=Tryz.sizeOf116
 v46:=Tryz.zeroValue116
 t105:=Tryz.underlying271
 a105:=Tryz.isAgg271
 z105:=Tryz.sizeOf271
 v105:=Tryz.zeroValue271
 t116:=Tryz.underlying236
 a116:=Tryz.isAgg236
 z116:=Tryz.sizeOf236
 t117:=Tryz.underlying237
 a117:=Tryz.isAgg237
 z117:=Tryz.sizeOf237
 v117:=Tryz.zeroValue237
 t119:=Tryz.underlying295
 a119:=Tryz.isAgg295
 z119:=Tryz.sizeOf295
 t124:=Tryz.underlying240
 a124:=Tryz.isAgg240
 z124:=Tryz.sizeOf240
 v124:=Tryz.zeroValue240
 t138:=Tryz.underlying297
 a138:=Tryz.isAgg297
 z138:=Tryz.sizeOf297
 v138:=Tryz.zeroValue297
 t139:=Tryz.underlying298
 a139:=Tryz.isAgg298
 z139:=Tryz.sizeOf298
 v139:=Tryz.zeroValue298
 g3:=by kernel_rfl
 g4:=by kernel_rfl}
open Go.RowKit in
theorem Tryz.ql(s cutset:ByteArray)(w:World)(hs:s.size≤9223372036854775807)(iY:cutset.size<4294967281)(Mc:∀(j:Nat) b,cutset.data.toList[j]?=some b→b.toNat<128):
 Calls Tryz.prog 156 #[.string s,.string cutset] w fun e w'=>e= .returned (.string ⟨(Lib.trimS s.data.toList cutset.data.toList).toArray⟩)∧RowKit.Below w.heap.size w w':=Any.strings_Trim_laid Tryz.Gd (by kernel_rfl) s cutset w hs iY Mc
end Go.Proofs
namespace Go.Proofs.YtdodihnehppnmaaGreatDoor
open Go.RowKit
abbrev kL:ae:=[97,98,99,100,101,102,103,104,105,106,107,108,109,110,111,112,113,114,115,116,117,118,119,120,121,122,48,49,50,51,52,53,54,55,56,57,46,95,45]
theorem Xnn(c:UInt8):kL.contains c=bK c:=by
 have h:∀n:Fin 256,kL.contains (UInt8.ofNat n.1)=bK (UInt8.ofNat n.1):=by decide
 have:=h ⟨c.toNat,c.toNat_lt⟩;simpa using this
theorem VZ(s cs:ae):Lib.trimS s cs=[]↔s.all (cs.contains ·)=true:=by
 have hd:∀l:ae,l.dropWhile (cs.contains ·)=[]↔l.all (cs.contains ·)=true:=by
  intro l;induction l with
  |nil=>simp
  |cons x l ih=>
   rw[List.dropWhile_cons,List.all_cons];cases h:cs.contains x
   ·simp
   ·simp only[if_true,Bool.true_and];exact ih
 have Oe:∀l:ae,(l.dropWhile (cs.contains ·)).all (cs.contains ·)=l.all (cs.contains ·):=by
  intro l;induction l with
  |nil=>rfl
  |cons x l ih=>
   rw[List.dropWhile_cons];cases h:cs.contains x
   ·rfl
   ·simp only[if_true];rw[ih,List.all_cons,h,Bool.true_and]
 unfold Lib.trimS Lib.trimLeftS Lib.trimRightS;rw[hd,List.all_reverse,Oe,List.all_reverse]
theorem Xwo(s:ae)(hs:s.length≤9223372036854775807)(w:World):
 Calls Tryz.prog 156 #[S s,S kL] w fun e w'=>e= .returned (S (Lib.trimS s kL))∧Below w.heap.size w w':=by
 have h:=Tryz.ql ⟨s.toArray⟩ ⟨kL.toArray⟩ w (by rw[ByteArray.size_mk',List.size_toArray];exact hs) (by decide) (ascii_of_all (by decide));exact h
def kz(s:ae):Int:=if kW s then 0 else 7
theorem V3(s:ae)(hs:s.length≤9223372036854775807)(w:World):
 Calls Tryz.prog 260 #[S s] w fun e w'=>e= .returned (.int .i64 (kz s))∧Below w.heap.size w w':=by
 by_cases h1:s=[]
 ·have hE:kz s=7:=by rw[h1];rfl
  have HE:=Qh hE;have f1:(s==[])=true:=by rw[h1];rfl
  have f2:s.isEmpty=true:=by rw[h1];rfl
  have f3:(!s.isEmpty)=false:=by rw[h1];rfl
  clear hE h1;go_enter Tryz.func260,Tryz.ntmps260
  go_wp2;go_ret;exact⟨bT HE.O.symm,Qb _ _⟩
 ·have hlen:1≤s.length:=by cases s<;>simp_all
  have f1:(s==[])=false:=by simpa using h1
  have f2:s.isEmpty=false:=by cases s<;>simp_all
  have f3:(!s.isEmpty)=true:=by rw[f2];rfl
  clear h1;by_cases vW:s.length≤32
  ·have lM:decide (32<s.length)=false:=Qf (by omega);have hk:kW s=s.all (kL.contains ·):=by
    have:(fun c=>kL.contains c)=bK:=funext Xnn;rw[this];simp[kW,vW,hlen]
   have ht:=VZ s kL;have yg:=Qh (Xwo s hs);generalize hT:Lib.trimS s kL=T at ht yg;by_cases IG:T=[]
   ·have HE:=Qh (show kz s=0 by rw[kz,hk,if_pos (ht.1 IG)]);have g1:(T==[])=true:=by rw[IG];rfl
    have g2:T.isEmpty=true:=by rw[IG];rfl
    have g3:(!T.isEmpty)=false:=by rw[IG];rfl
    clear IG ht hk hT;go_enter Tryz.func260,Tryz.ntmps260
    go_wp2_with fail
    refine(yg.O _).mono ?_;rintro e w1 ⟨rfl,au⟩;go_wp2;go_ret;exact⟨bT HE.O.symm,au⟩
   ·have HE:=Qh (show kz s=7 by rw[kz,hk,if_neg (fun h=>IG (ht.2 h))]);have g1:(T==[])=false:=by simpa using IG
    have g2:T.isEmpty=false:=by cases T<;>simp_all
    have g3:(!T.isEmpty)=true:=by rw[g2];rfl
    clear IG ht hk hT;go_enter Tryz.func260,Tryz.ntmps260
    go_wp2_with fail
    refine(yg.O _).mono ?_;rintro e w1 ⟨rfl,au⟩;go_wp2;go_ret;exact⟨bT HE.O.symm,au⟩
  ·have lM:decide (32<s.length)=true:=Qt (by omega);have HE:=Qh (show kz s=7 by rw[kz,if_neg (by simp[kW,vW])]);go_enter Tryz.func260,Tryz.ntmps260
   go_wp2;go_ret;exact⟨bT HE.O.symm,Qb _ _⟩
theorem Xz3(x:At)(hx:x.Wf)(w:World):
 Calls Tryz.prog 197 #[x.val] w fun e w'=>e= .returned (.int .i64 (fJ x))∧Below w.heap.size w w':=by
 obtain⟨fP,eZ⟩:=hx;cases hk:kW x.k
 ·have HE:=Qh (show kz x.k=7 by rw[kz,hk];rfl);have HA:=Qh (show fJ x=7 by rw[fJ,if_pos hk]);clear hk;go_enter Tryz.func197,Tryz.ntmps197
  go_wp2_with fail
  refine(V3 x.k fP _).mono ?_;rintro e w1 ⟨rfl,au⟩;rw[HE.O];go_wp2;go_ret;exact⟨bT HA.O.symm,((Qb _ _).alloc (Qn _) _).trans (au.mono (by simp))⟩
 ·have HE:=Qh (show kz x.k=0 by rw[kz,hk];rfl);have Hk:=Qh hk;clear hk;by_cases h64:x.v.length≤64
  ·have hd:decide (64<x.v.length)=false:=Qf (by omega);have HA:=Qh (show fJ x=0 by rw[fJ,if_neg (by rw[Hk.O];simp),if_neg (by omega)]);go_enter Tryz.func197,Tryz.ntmps197
   go_wp2_with fail
   refine(V3 x.k fP _).mono ?_;rintro e w1 ⟨rfl,au⟩;rw[HE.O];obtain⟨mM,qX⟩:=VY rfl au;go_wp2;go_ret;exact⟨bT HA.O.symm,((Qb _ _).alloc (Qn _) _).trans (au.mono (by simp))⟩
  ·have hd:decide (64<x.v.length)=true:=Qt (by omega);have HA:=Qh (show fJ x=6 by rw[fJ,if_neg (by rw[Hk.O];simp),if_pos (by omega)]);go_enter Tryz.func197,Tryz.ntmps197
   go_wp2_with fail
   refine(V3 x.k fP _).mono ?_;rintro e w1 ⟨rfl,au⟩;rw[HE.O];obtain⟨mM,qX⟩:=VY rfl au;go_wp2;go_ret;exact⟨bT HA.O.symm,((Qb _ _).alloc (Qn _) _).trans (au.mono (by simp))⟩
theorem Xnp:∀(a b:ae),Lib.compareBytes a b=if Op.bytesLess a b then -1 else if a==b then 0 else 1
 | [],[]=>rfl
 | [],_::_=>rfl
 |_::_,[]=>rfl
 |x::a,y::b=>by
  rw[Lib.compareBytes,Xnp a b,Op.bytesLess];by_cases h1:x<y
  ·simp[h1]
  ·by_cases h2:y<x
   ·have:¬x=y:=fun e=>by subst e;exact UInt8.lt_irrefl _ h2
    simp[h1,h2,this]
   ·have e:x=y:=UInt8.le_antisymm (UInt8.not_lt.1 h2) (UInt8.not_lt.1 h1);subst e;simp
theorem Xoq(a b:ae)(w:World):Calls Tryz.prog 198 #[S a,S b] w fun e w'=>e= .returned (.int .i64 (Lib.compareBytes a b))∧Below w.heap.size w w':=
 (Tryz.strings_Compare ⟨a.toArray⟩ ⟨b.toArray⟩ w).mono fun _ _ ⟨h1,h2⟩=>⟨h1,by rw[h2];exact Qb _ _⟩
