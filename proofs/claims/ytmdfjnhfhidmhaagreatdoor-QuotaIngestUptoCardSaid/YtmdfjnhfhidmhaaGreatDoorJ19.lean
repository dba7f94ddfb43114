/- Lemmas for the claim's theorem;conditions: as each says. -/
import Derived.Test.YtmdfjnhfhidmhaaGreatDoorJ18
import Derived.Maps.Own
import Derived.Maps.OwnOps
import Derived.Maps.OwnSet
import Derived.Maps.Views
import Derived.RangeFuncNested
import Derived.RangeFuncLeaves
import Derived.Shelf.Abstract
import Derived.OwnWalkIn
import Derived.TacticsInMore
import Derived.LoopNIn
import Derived.LoopIn
import Derived.Maps.OwnIn
set_option maxHeartbeats 0
set_option maxRecDepth 1000000
set_option linter.all false
namespace Go.Proofs.YtmdfjnhfhidmhaaGreatDoor
open Go.RowKit
variable{B:Nat}{α:Type}{v:Value}{w:World}{T:Ty α}{I:IH}{W:World}{E:TypeId}{l:List α}{n k:Nat}{W':World}{a:Act}{D:DataW Unit}{c:Array Value}{f:Nat×Nat}{P:Program}{Q:Exit→Act→World→Prop}{s:Array Bool}{y:Xt}{e:TypeId}{F:Fence}{ops:Array Oper}{o:Oper}{g b i:Nat}
def AP:Acc:=⟨[97,110,110],10,2,0,0⟩
def jW(p c:af):jG:=⟨[97,110,110],⟨1,p,[],[],c⟩⟩
def Kw:List jG:=[jW [97] [49,50,51,52,53,54],jW [98] [49,50,51,52],jW [99] [],⟨[97,110,110],⟨4,[97],[],[],[]⟩⟩]
theorem Xx3:(vB (jT [] 1) [AP] Kw).es=[0,0,16,0]:=by decide+kernel
theorem Xj8:(Tryz.prog.info? 156).map (fun i=>(i.zero,i.size,i.bytes))=some (some (.agg #[.string ⟨#[]⟩,.int .i64 0,.int .i64 0,.int .i64 0]),4,40):=by kernel_rfl
theorem Xor(I:IH)(v:Value)(l:List _)(hv:aZ qf I v l)(w:World)(hw:Ok I w)(fO:l.length*40≤140737488355328):
 Calls Tryz.prog 105 #[v] w fun e w'=> ∃v',e= .returned v'∧aK qf 156 I w' w.heap.size v' l∧Below w.heap.size w w':=by
 obtain⟨i0,hi,oV,ow,uD⟩:=info_parts Xj8;have q22:∀(w:World) (a:Option Addr) (n c n' c':Nat),(binOp .eql 38 (.slice a n c) (.slice none n' c')).run Tryz.prog w= .ok (.bool a.isNone) w:=fun w a n c n' c'=>Lib.run_eql_slice_nil w _ _ a n c n' c' Tryz.underlying38;obtain⟨ao,cap,xs,rfl,dO,fJ,hL,hx⟩:=hv.cells hw (by decide);have HL:=Qh hL;have Hx:=Qh hx;clear hL hx hv;cases ao with
 |none=>
  have h0:l.length=0:=by
   rcases Nat.eq_zero_or_pos l.length with h|h
   ·exact h
   ·obtain⟨b,off,arr,e,_⟩:=Hx.O h;cases e
  have:l=[]:=List.eq_nil_of_length_eq_zero h0;subst this;go_enter Tryz.func105,Tryz.ntmps105
  go_wp2;go_ret;exact⟨_,rfl,aK.nil _ _ _ _ _,Qb _ _⟩
 |some a=>
  go_enter Tryz.func105,Tryz.ntmps105
  go_wp2_with (at_builtin;refine wpList_append_own _ rfl _ _ 38 rfl w.heap.size 156 i0 _ 4 40 Tryz.underlying38 hi oV ow uD rfl (by decide) _ _ _ rfl (World.ownsRow_made w #[] 0 (Qn _) (Nat.zero_le _) (by simp)) a l.length cap xs rfl ?qc1 ?qc2 ?qc3 ?qc4 ?qc5 ?qc6 ?_)
  case qc1=>exact HL.O.1
  case qc2=>
   intro j u hj;have hl:0<l.length:=by
    have:=(List.getElem?_eq_some_iff.1 hj).1;rw[HL.O.1]at this;rcases Nat.eq_zero_or_pos l.length with h|h
    ·rw[h]at this;omega
    ·exact h
   obtain⟨b,off,arr,e,_,hb,hc⟩:=Hx.O hl;cases e;rw[Addr.add_lit];rw[World.cell?_alloc_lt _ _ _ hb];exact hc j u hj
  case qc3=>exact HL.O.oneCell
  case qc4=>rw[Nat.zero_add];omega
  case qc5=>rw[Nat.zero_add];exact fO
  case qc6=>simp
  intro v' w1 bg lW _;go_wp2;go_ret;refine⟨v',rfl,⟨xs,(by have hq:=bg;first|exact hq|(simp at hq;exact hq)),HL.O⟩,?_⟩;exact((Qb _ w).alloc (Qn _) _).grown lW (by simp) (by intro k hk;simp[Value.ownBlock]at hk;omega)
theorem Mv:Go.Maps.Keyed Tryz.prog 9:=Go.Maps.string_keyed Tryz.underlying9
theorem Mw(p:af)(hp:p.length≤4294967280):keyOf Tryz.prog 9 (S p)=some (.string p):=by
 have h:=Go.WideMaps.keyOf_string_mk (P:=Tryz.prog) Tryz.underlying9 (s:=⟨p.toArray⟩) (by rw[ByteArray.size_mk',List.size_toArray];unfold maxLen;omega);simpa using h
def xQ(x:Xt):DataW Unit:= .agg [.lit (.int .i64 x.s),.lit (.int .i64 x.o),.lit (.int .i64 x.n)]
def nS(v:Value):Option (DataW Unit×List MemPlace):=
 match v with
 | .agg a=>match a.toList with
   | [.int .i64 s,.int .i64 o,.int .i64 n]=>some (xQ ⟨s,o,n⟩,[])
   |_=>none
 |_=>none
theorem Y0(x:Xt):nS (C9 x)=some (xQ x,[]):=rfl
theorem Xqa{z:DataW Unit×List MemPlace}(h:nS v=some z):∃x,v=C9 x∧z=(xQ x,[]):=by
 unfold nS at h;split at h
 ·rename_i a;split at h
  ·rename_i s o n e;refine⟨⟨s,o,n⟩,?_,(Option.some.inj h).symm⟩;rw[←Array.toArray_toList (xs:=a),e]
  ·cases h
 ·cases h
theorem Xnr{x:Xt}(h:xQ x=xQ y):x=y:=by
 unfold xQ at h;cases x;cases y;simp at h;obtain⟨rfl,rfl,rfl⟩:=h;rfl
def sH(D:DataW Unit)(l:List Ck):Prop:=∀p:af,(fB l p=none→Go.Maps.has D (.string p)=false)∧ ∀x,fB l p=some x→Go.Maps.has D (.string p)=true∧ ∀z,D.atKey (.string p) z=xQ x
theorem Xua:sH (.map []) []:=fun _=>⟨fun _=>rfl,fun _ h=>(by cases h)⟩
theorem Xi4(l:List Ck)(c:Ck)(p:af):fB (l++[c]) p=match fB l p with|some x=>some x|none=>if c.d=p then some c.x else none:=by
 induction l with
 |nil=>rfl
 |cons a l ih=>
  rw[List.cons_append,fB,fB];by_cases h:a.d=p
  ·rw[if_pos h,if_pos h]
  ·rw[if_neg h,if_neg h,ih]
theorem Xt9{l:List Ck}(h:sH D l){c:Ck}(hc:fB l c.d=some y):sH D (l++[c]):=fun p=>by
 have hp:=h p;rw[Xi4];cases hf:fB l p with
 |some x=>rw[hf]at hp;exact hp
 |none=>
  rw[hf]at hp;have bn:c.d≠p:=fun e=>by rw[e,hf]at hc;cases hc
  dsimp only;rw[if_neg bn];exact hp
theorem Xn8{l:List Ck}(h:sH D l)(hD:Go.Maps.IsMap D){c:Ck}(hc:fB l c.d=none):sH (D.put (.string c.d) (xQ c.x)) (l++[c]):=fun p=>by
 have hp:=h p;rw[Xi4];by_cases bn:c.d=p
 ·subst bn;rw[hc];dsimp only;rw[if_pos rfl];refine⟨fun e=>(by cases e),fun x hx=> ?_⟩;cases hx;exact⟨Go.Maps.has_put_same hD (show WideAt.IsKeyLit (.string c.d)from trivial) _,fun z=>Go.Maps.atKey_put_same hD (show WideAt.IsKeyLit (.string c.d)from trivial) _ z⟩
 ·have hk:(Lit.string p)≠ .string c.d:=by intro e;cases e;exact bn rfl
  rw[Go.Maps.has_put_other hk];cases hf:fB l p with
  |some x=>
   rw[hf]at hp;refine⟨fun e=>(by cases e),fun y hy=>⟨(hp.2 y hy).1,fun z=> ?_⟩⟩;rw[Go.Maps.atKey_put_other hk];exact(hp.2 y hy).2 z
  |none=>
   rw[hf]at hp;dsimp only;rw[if_neg bn];exact⟨fun _=>hp.1 rfl,fun x hx=>(by cases hx)⟩
theorem Xxw(w:World):(zeroValue 109).run Tryz.prog w= .ok (C9 ⟨0,0,0⟩) w:=by kernel_rfl
theorem Xxb{l:List Ck}(h:W.ownsMap Tryz.prog 9 nS B n D)(hM:sH D l){p:af}(hp:p.length≤4294967280):
 (Instr.lookup 195 (.map (some B)) (S p) true).run Tryz.prog W= .ok (.tuple #[C9 (kz l p).1,.bool (kz l p).2]) W:=by
 obtain⟨v,ps,h1,h2⟩:=h.look_ok Mv Tryz.underlying195 (Xxw W) (Y0 ⟨0,0,0⟩) (Mw p hp);obtain⟨x,rfl,hx⟩:=Xqa h2;have hx:=(Prod.mk.inj hx).1;rw[h1];unfold kz;cases hf:fB l p with
 |none=>
  have k:=(hM p).1 hf;rw[Go.Maps.atKey_of_not_has k]at hx;rw[k,←Xnr hx]
 |some y=>
  obtain⟨k1,k2⟩:=(hM p).2 y hf;rw[k2]at hx;rw[k1,←Xnr hx]
theorem Xus(I:IH)(s:fM)(vc:Value)(hv:aZ qf I vc s.aJ)(hn:s.aJ.length≤10000000)(hd:∀c∈s.aJ,c.d.length≤32)(w:World)(hw:Ok I w):
 Calls Tryz.prog 148 #[fH s vc] w fun e w'=> ∃B D,e= .returned (.map (some B))∧w.heap.size≤B∧w'.ownsMap Tryz.prog 9 nS B s.aJ.length D∧sH D s.aJ∧Below w.heap.size w w':=by
 have hmm:= @run_makeMap Tryz.prog;obtain⟨ao,cap,rfl,_,_,_⟩:=id hv;have Hv:=Qh hv;have Hd:=Qh hd;have b0:Below w.heap.size w (w.alloc (.cells #[.slice ao s.aJ.length cap,.int .i64 s.aV,S s.str] 40)):=(Qb _ _).alloc (Qn _) _;have Mj:=Qh (show((w.alloc (.cells #[.slice ao s.aJ.length cap,.int .i64 s.aV,S s.str] 40)).alloc (.map #[] 0)).ownsMap Tryz.prog 9 nS (w.heap.size+1) 0 (.map []) by
  have:=World.ownsMap_made (H:=Unit) (w.alloc (.cells #[.slice ao s.aJ.length cap,.int .i64 s.aV,S s.str] 40)) Tryz.prog 9 nS;rwa[World.size_alloc]at this)
 have ym:Below w.heap.size w ((w.alloc (.cells #[.slice ao s.aJ.length cap,.int .i64 s.aV,S s.str] 40)).alloc (.map #[] 0)):=b0.alloc b0.size _;have jN:Ok I ((w.alloc (.cells #[.slice ao s.aJ.length cap,.int .i64 s.aV,S s.str] 40)).alloc (.map #[] 0)):=(hw.alloc _).alloc _;have hIB:I (w.heap.size+1)=none:=hw.fresh (by omega);obtain⟨B,hB⟩:∃B,w.heap.size+1=B:=⟨_,rfl⟩;clear hv hd b0;go_enter Tryz.func148,Tryz.ntmps148
 go_wp2;rw[hB]at Mj hIB;generalize hW:((w.alloc (.cells #[.slice ao s.aJ.length cap,.int .i64 s.aV,S s.str] 40)).alloc (.map #[] 0))=W0 at Mj ym jN ⊢;clear hW hmm;go_loopw [12] (fun s12 wr=> ∃(k:Nat) (D:DataW Unit),k≤s.aJ.length∧s12= .int .i64 k∧wr.ownsMap Tryz.prog 9 nS B k D∧sH D (s.aJ.take k)∧Ok I wr∧Below w.heap.size w wr) (fun i _=>s.aJ.length-(intOf i).toNat)
 case atStart=>exact⟨0,_,Nat.zero_le _,rfl,Mj.O,Xua,jN,ym⟩
 case round=>
  clear Mj jN ym;obtain⟨k,D,hk,rfl,bg,zQ,iQ,hb⟩:=hrel;have bL:=Qh bg;have I5:=Qh zQ;clear bg zQ;by_cases hlt:k<s.aJ.length
  ·obtain⟨c,b,off,cap',JH,cZ,x0,x1,x2,x3⟩:=IJ Hv.O iQ k hlt;cases cZ;have hcd:=Hd.O c (by rw[←JH];exact List.getElem_mem hlt);have ny:=Qh (show s.aJ.take (k+1)=s.aJ.take k++[c] by rw[List.take_succ_eq_append_getElem hlt,JH]);have o1:=bL.O.alloc (.cells #[S c.d,.int .i64 c.x.s,.int .i64 c.x.o,.int .i64 c.x.n] 156);have yG:=Xxb o1 I5.O (p:=c.d) (by omega);have b1:=hb.alloc hb.size (.cells #[S c.d,.int .i64 c.x.s,.int .i64 c.x.o,.int .i64 c.x.n] 156);cases hf:fB (s.aJ.take k) c.d with
   |some y=>
    have iR:kz (s.aJ.take k) c.d=(y,true):=by unfold kz;rw[hf]
    rw[iR]at yG;have Hn:=Qh (show sH D (s.aJ.take (k+1)) by rw[ny.O];exact Xt9 I5.O hf);clear hf iR JH o1 ny;go_wp2;go_roundw;case rel=>exact⟨k+1,D,by omega,by go_num,((bL.O.alloc _).alloc _).mono (by omega),Hn.O,(iQ.alloc _).alloc _,b1.alloc b1.size _⟩
    case measure=>simp[intOf];omega
   |none=>
    have iR:kz (s.aJ.take k) c.d=(⟨0,0,0⟩,false):=by unfold kz;rw[hf]
    rw[iR]at yG;have o2:=o1.alloc (.cells #[.int .i64 0,.int .i64 0,.int .i64 0] 109);have Hn:=Qh (show sH (D.put (.string c.d) (xQ c.x)) (s.aJ.take (k+1)) by rw[ny.O];exact Xn8 I5.O bL.O.isMap hf);have I6:=Qh (Mw c.d (by omega));have aX:=(iQ.alloc (.cells #[S c.d,.int .i64 c.x.s,.int .i64 c.x.o,.int .i64 c.x.n] 156)).alloc (.cells #[.int .i64 0,.int .i64 0,.int .i64 0] 109);have b2:=b1.alloc b1.size (.cells #[.int .i64 0,.int .i64 0,.int .i64 0] 109);have Ho2:=Qh o2;clear hf iR JH o1 o2 ny
    go_wp2_with (first
     |(at_mapUpdate;refine wpList_mapUpdate_own _ rfl _ _ _ 195 rfl 9 109 Mv Tryz.underlying195 nS B k D rfl Ho2.O (by unfold maxLen;omega) _ _ _ rfl rfl I6.O _ [] (Y0 c.x) ?_)
     |go_in)
    intro w3 Oz tX;go_wp2;go_roundw;case rel=>exact⟨k+1,_,by omega,by go_num,Oz,Hn.O,aX.grown tX (fun g e=>by cases e;exact hIB),b2.grown tX b2.size (fun g e=>by cases e;omega)⟩
    case measure=>simp[intOf];omega
  ·have Hn:=Qh (show sH D s.aJ by have:=I5.O;rwa[List.take_of_length_le (by omega)]at this);have hks:k=s.aJ.length:=by omega
   subst hks;go_wp2;go_ret;exact⟨B,D,rfl,by omega,bL.O,Hn.O,hb⟩
structure mH (I:IH) (w0:World) (J:IH) (W:World):Prop where
 ok:Ok J W
 keep:∀b c,I b=some c→J b=some c
 eY:Below w0.heap.size w0 W
section
variable {I J J':IH} {w0 W W':World}
theorem mH.start(h:Ok I w0):mH I w0 I w0:=⟨h,fun _ _ h=>h,Qb _ _⟩
theorem mH.quiet(h:mH I w0 J W)(hb:Below W.heap.size W W'):mH I w0 J W':=⟨h.ok.below (Qn _) hb,h.keep,h.eY.trans (hb.mono h.eY.size)⟩
theorem mH.past(h:mH I w0 J W)(o:Obj):mH I w0 J (W.alloc o):=h.quiet ((Qb _ _).alloc (Qn _) o)
theorem mH.ext(h:mH I w0 J W)(hb:Below W.heap.size W W')(hx:Ext W.heap.size J J')(iQ:Ok J' W'):mH I w0 J' W':=
 ⟨iQ,fun b c hc=>hx.keep h.ok (Qn _) b c (h.keep b c hc),h.eY.trans (hb.mono h.eY.size)⟩
theorem mH.size(h:mH I w0 J W):w0.heap.size≤W.heap.size:=h.eY.size
end
theorem Xos{row:Option Nat}(hk:W.heap[k]?=some (.cells c e f))(hr:∀r,row=some r→ ∃o:Obj,W.heap[r]?=some o∧o.isCells=false):row≠some k:=by
 intro e';obtain⟨o,ho,hc⟩:=hr k e';rw[hk]at ho;cases ho;cases hc
theorem Below.turn{row:Option Nat}(h:Below n w W)(hn:n≤w.heap.size)(hB:n≤B)(hg:W.grownBy W' row)(hr:∀r,row=some r→B≤r∧ ∃o:Obj,W.heap[r]?=some o∧o.isCells=false):Below n w W':=
 h.grown hg (Nat.le_trans hn h.size) (fun k e=>Nat.le_trans hB (hr k e).1)
theorem KeepsFrom.zl(W:World)(p:Addr)(u:Value):KeepsFrom B W (W.setCell p u):=(KeepsOthers.setCell W p u).from B
theorem Xnx{row:Option Nat}(h:W.heap[k]?=some (.cells c e f))(hg:W.grownBy W' row)(hr:∀r,row=some r→ ∃o:Obj,W.heap[r]?=some o∧o.isCells=false):W'.heap[k]?=some (.cells c e f):=
 (hg.block k (Qg h) (fun e'=>Xos h hr e'.symm)).trans h
theorem Ru{nF:Nat}{ts te:TypeId}{bytes:Nat}(hE:dS P ts te T bytes){w0:World}{rest:List Oper}(yg:o.guard=none)(s x:Operand)
 (ho:o.op= .call {callee:= .builtin .append,args:=#[s,x],argTypes:=#[ts,ts]}) (B:Nat) (v:Value) (l:List α) (hs:a.eval s=v) (bg:aK T te I w0 B v l)
 (y:α) (cs:List Value) (tb:TypeId) (hx:a.eval x= .slice (some ⟨w0.heap.size,0,none⟩) 1 1) (hy:T.rd I cs y) (fO:(l.length+1)*bytes≤140737488355328) (hl:l.length+1≤9223372036854775807) (hB:B≤w0.heap.size)
 (h:∀v' w',aK T te I w' B v' (l++[y])→w0.grownBy w' v.ownBlock→(∀g,v'.ownBlock=some g→v.ownBlock=some g∨w0.heap.size≤g)→wpListIn F nF P ops Q rest (a.put o.dst v') w'):wpListIn F nF P ops Q (o::rest) a (w0.alloc (.cells cs.toArray tb)):=by
 obtain⟨i,z,h1,h2,h3,h4,h5,h6,h7⟩:=hE;obtain⟨xs,k1,k2⟩:=bg
 refine wpListIn_append_own_at (w0.alloc (.cells cs.toArray tb)) yg s x ts ho B te i z T.size bytes h1 h2 h3 h4 h5 h6 h7 v l.length xs hs (k1.alloc _) ⟨w0.heap.size,0,none⟩ 1 1 cs hx (by rw[T.len hy,Nat.one_mul])
  (fun j u hu=>by rw[Addr.add_lit,Nat.zero_add,World.cell?_alloc_new];simpa using hu) (T.one hy) (by unfold maxLen;omega) fO (by simp;omega) (fun v' w' r1 r2 _ r4=>h v' w' ⟨xs++cs,by rw[List.length_append];exact r1,k2.append (bA.one hy)⟩ ?_ ?_)
 ·exact⟨r2.os,r2.tape,r2.output,by have:=r2.size;simp at this;omega,fun k hk bn=>(r2.block k (by simp;omega) bn).trans (Below.heap_alloc _ _ _ hk)⟩
 ·intro g hg;rcases r4 with r4|r4
  ·exact .inl (r4▸hg)
  ·rw[r4]at hg;simp at hg;exact .inr (by omega)
theorem tL(h:aK T E I w B v l)(hg:v.ownBlock=some g):B≤g∧ ∃cur,w.heap[g]?=some (.cells cur E (0,0)):=by
 obtain⟨xs,⟨_,h1⟩,_⟩:=h;rcases h1 with⟨h2,_⟩|⟨g',cap,cur,rfl,hB,sF,_⟩
 ·rw[h2]at hg;cases hg
 ·have e:g'=g:=by simpa[Value.ownBlock]using hg
  subst e;exact⟨hB,cur,sF⟩
theorem zm{E':TypeId}(h:aK T E I w B v l)(hb:w.heap[b]?=some (.cells c E' f))(hT:E'≠E):v.ownBlock≠some b:=fun e=>by
 obtain⟨_,cur,hc⟩:=tL h e;rw[hb]at hc;cases hc;exact hT rfl
theorem KeepsFrom.own{B':Nat}(h:aK T E I W B v l)(hg:W.grownBy W' v.ownBlock):KeepsFrom B' W W':=
 ⟨hg.size,fun k o _ hk ho=>(hg.block k (Qg hk) (fun e=>by
   obtain⟨_,cur,hc⟩:=tL h e.symm;rw[hk]at hc;cases hc;cases ho)).trans hk⟩
theorem aK.turn{row:Option Nat}(h:aK T E I W B v l)(hg:W.grownBy W' row)(hr:∀r,row=some r→ ∃o:Obj,W.heap[r]?=some o∧o.isCells=false):aK T E I W' B v l:=by
 refine h.kept hg ?_;cases hv:v.ownBlock with
 |none=>exact .inl rfl
 |some g=>
  obtain⟨_,cur,hc⟩:=tL h hv;exact .inr fun e=>Xos hc hr e.symm
theorem Fh(h:aK T E I w B v l):∃ao n cap,v= .slice ao n cap:=by
 obtain⟨xs,h1,_⟩:=h;rcases h1.2 with⟨h,_⟩|⟨g,cap,cur,h,_⟩
 ·exact⟨_,_,_,h⟩
 ·exact⟨_,_,_,h⟩
theorem aK.stored(h:aK T E I W B v l)(hv:v.ownBlock≠some b)(j:Nat)(u:Value):aK T E I (W.setCell ⟨b,j,none⟩ u) B v l:=
 h.kept (row:=some b) ⟨rfl,rfl,rfl,by simp,fun k _ hk=>heap_setCell_other W ⟨b,j,none⟩ k u (fun e=>hk (by simp[e]))⟩ (.inr hv)
def Ky{α:Type}(F:Fence)(n:Nat)(P:Program)(g:Nat)(lb:Array Value)(encs:α→Array Value)(Bx:Nat)(Kp:World→World→Prop)(S:List α→Prop)(N:Nat)(w:World):Prop:=
 ∀(l:Nat) (J:List α→World→Prop) (W:World),Below w.heap.size w W→AbidesFrom W.heap.size J→(∀pre W' u,J pre W'→J pre (W'.setCell ⟨Bx,0,none⟩ u))→
  (∀pre x W1,J pre W1→pre.length<N→YieldAt F (n-1) P l (encs x) W1 fun e W'=>e= .returned (.bool true)∧J (pre++[x]) W'∧Kp W1 W')→
  J [] W→CallsIn F n P g (#[.func (.yield l) #[] #[]]++lb) W fun e W'=>(∃v,e= .returned v)∧ ∃xs,S xs∧J xs W'
theorem Xqc{g:Operand}{ps:Array Tmp}{assign body:Code}
 (hro:F.round=none) (h1:1≤n) {gf:Nat} {lb:Array Value} (hg:a.eval g= .func (.func gf) #[] lb) (hFg:F.fn gf) (eg:∀args w,(callFunc gf args).run P w= .ok (.enter gf args) w)
 {encs:α→Array Value} {Bx:Nat} {Kp:World→World→Prop} {S:List α→Prop} {N:Nat} (abP:Ky F (n-1) P gf lb encs Bx Kp S N w) (hBx:Bx<w.heap.size)
 (hKt:∀{A B C:World},Kp A B→Kp B C→Kp A C) (hKb:∀(W:World) (l:Nat) (o':Obj),w.heap.size≤l→Kp W (W.putObj l o')) (hps:∀x,(encs x).size=ps.size)
 (I:List α→World→Prop) (hI:OwnFrom w.heap.size I) (hIw:∀pre W u,I pre W→I pre (W.setCell ⟨Bx,0,none⟩ u)) (h0:I [] w) (a₁:α→Act)
 (JI:∀(l:Nat) (x:α) (W:World) (K:Act→World→Prop),K (a₁ x) W→
   assign.wpIn (F.inRound l) (n-1-1) P (Exit.then K (fun _ _ _=>False)) {tmps:=(ps.zip (encs x)).foldl (fun t (p,v)=>t.setIfInBounds p v) a.tmps,defers:=[]} W)
 (TR:∀(l:Nat) (pre:List α) (x:α) (W:World),I pre W→pre.length<N→body.wpIn (F.inRound l) (n-1-1) P (fun e _ W'=>e= .normal∧KeepsFrom w.heap.size W W'∧Kp W W'∧I (pre++[x]) W') (a₁ x) W)
 (TS:∀(D:Nat) (xs:List α) (W:World),w.heap.size≤D→S xs→I xs W→W.heap[D]?=some (.deferred (some []))→Q .normal {a with defers:={target:= .collected D,args:=#[]}::a.defers} W):
 (Code.rangeFunc g ps assign body).wpIn F n P Q a w:=by
 refine wpIn_rangeFunc ?_;intro fn OA;rw[hro];obtain⟨rec,oZ⟩:∃rec:LoopState→Loop,rec=fun st=> {state:=st,pending:=none,fn,tmps:=a.tmps,params:=ps,assign,body,defers:=w.heap.size}:=⟨_,rfl⟩;obtain⟨L,hL⟩:∃L,w.heap.size+1=L:=⟨_,rfl⟩;obtain⟨W1,uJ⟩:∃W1,(w.alloc (.deferred (some []))).alloc (.loop (rec .ready))=W1:=⟨_,rfl⟩;have hL1:W1.heap[L]?=some (.loop (rec .ready)):=by
  have:=World.alloc_heap_new (w.alloc (.deferred (some []))) (.loop (rec .ready));rw[World.size_alloc,hL,uJ]at this;exact this
 have yE:W1.heap[w.heap.size]?=some (.deferred (some [])):=by
  rw[←uJ];exact(Below.heap_alloc _ _ _ (by simp)).trans (World.alloc_heap_new w _)
 have jC:I [] W1:=by rw[←uJ];exact hI.alloc _ (hI.alloc _ h0)
 have aD:Below w.heap.size w W1:=by rw[←uJ];exact((Qb _ w).alloc (Qn _) _).alloc (by simp) _
 have ow:W1.heap.size=w.heap.size+2:=by rw[←uJ];simp
 refine⟨L,[{target:= .collected w.heap.size,args:=#[]}],W1,{target:= .fn (.func gf) lb,args:=#[.func (.yield L) #[] #[]]},W1,gf,#[.func (.yield L) #[] #[]]++lb,W1,?_,?_,?_,?_,fun _=>h1,?_⟩
 ·rw[←uJ,←hL,oZ];exact run_enterLoop_outer _ _ _ _ _
 ·simp only[resolve,hg];simp[go_sem]
 ·intro f' hf';simp[Target.leads]at hf';subst hf';exact hFg
 ·simp[invoke,go_sem,eg]
 ·have bn:Bx≠L:=by omega
  have hne2:Bx≠w.heap.size:=by omega
  refine(abP L (fun pre W=>I pre W∧W.heap[L]?=some (.loop (rec .ready))∧W.heap[w.heap.size]?=some (.deferred (some []))) W1 aD ?_ ?_ ?_ ⟨jC,hL1,yE⟩).mono ?_
  ·intro s A B row ⟨k1,k2,k3⟩ Ov hr;have hr':∀r,row=some r→ ∃o:Obj,A.heap[r]?=some o∧o.isWalk=true:=fun r e=>(hr r e).2;exact⟨hI s A B row k1 Ov fun r e=>by obtain⟨q1,o,q2,q3⟩:=hr r e;exact⟨by omega,o,q2,Obj.not_cells_of_walk q3⟩,(grownBy_keeps Ov hr' k2 rfl).trans k2,(grownBy_keeps Ov hr' k3 rfl).trans k3⟩
  ·intro pre A u ⟨k1,k2,k3⟩;exact⟨hIw pre A u k1,(heap_setCell_other A ⟨Bx,0,none⟩ L u bn.symm).trans k2,(heap_setCell_other A ⟨Bx,0,none⟩ w.heap.size u hne2.symm).trans k3⟩
  ·rintro pre x W ⟨hi,hl,hk⟩ hlen;have hlt:L<W.heap.size:=(Qg hl);have hy:=run_yield (P:=P) (args:=encs x) hl (by rw[oZ];exact hps x);rw[oZ]at hy;have hb:=run_beginRound (P:=P) hl (by rw[oZ]);obtain⟨W2,xu⟩:∃W2,W.putObj L (.loop {rec .ready with state:= .busy})=W2:=⟨_,rfl⟩;rw[xu]at hb;have La:W2.heap[L]?=some (.loop {rec .ready with state:= .busy}):=by rw[←xu];exact World.putObj_heap_same hlt
   have yD:W2.heap[w.heap.size]?=some (.deferred (some [])):=by rw[←xu];exact(World.putObj_heap_other (by omega)).trans hk
   have hp2:Kp W W2:=by rw[←xu];exact hKb _ _ _ (by omega)
   have DR:I pre W2:=by rw[←xu];exact hI.putObj _ hi (by omega) hl rfl
   refine⟨fn,_,assign,body,hy,roundIn_of_wpIn OA (JI _ x W _ ⟨_,hb,wpIn_mono (TR L pre x W2 DR hlen) ?_⟩)⟩;rintro e a3 W3 ⟨rfl,uH,hp3,hi3⟩;have TQ:=uH.same _ _ (by omega) La rfl;have GL:=uH.same _ _ (Qn _) yD rfl;have he:=run_endRound (P:=P) none TQ;refine⟨_,_,he,rfl,⟨hI.putObj _ hi3 (by omega) TQ rfl,?_,(World.putObj_heap_other (by omega)).trans GL⟩,hKt (hKt hp2 hp3) (hKb _ _ _ (by omega))⟩;have:=World.putObj_heap_same (o:=Obj.loop {rec .ready with state:= .ready,pending:=none}) (Qg TQ);rw[oZ]at this ⊢;exact this
  ·rintro e W2 ⟨⟨v,rfl⟩,xs,hS,hi,hl,hk⟩;have he:=run_endLoop (P:=P) hl (by rw[oZ];simp);rw[oZ]at he;exact⟨none,_,he,TS _ xs _ (Qn _) hS (hI.putObj _ hi (by omega) hl rfl) ((World.putObj_heap_other (by omega)).trans hk)⟩
structure vP (w w':World) (row:Option Nat) (bo:Nat):Prop where
 os:w'.os=w.os
 tape:w'.tape=w.tape
 output:w'.output=w.output
 size:w.heap.size≤w'.heap.size
 block:∀k,k<w.heap.size→some k≠row→k≠bo→w'.heap[k]?=w.heap[k]?
section
variable {w w' w'':World} {row:Option Nat} {bo n:Nat}
theorem vP.lS(h:w.grownBy w' row)(bo:Nat):vP w w' row bo:=⟨h.os,h.tape,h.output,h.size,fun k hk hr _=>h.block k hk hr⟩
theorem vP.set(h:vP w w' row bo)(j:Nat)(u:Value):vP w (w'.setCell ⟨bo,j,none⟩ u) row bo:=
 ⟨h.os,h.tape,h.output,by have:=h.size;simp;omega,fun k hk hr hb=>(heap_setCell_other w' ⟨bo,j,none⟩ k u hb).trans (h.block k hk hr hb)⟩
theorem vP.Mx(h:vP w w' (some g) bo)(j:Nat)(u:Value):vP w (w'.setCell ⟨g,j,none⟩ u) (some g) bo:=
 ⟨h.os,h.tape,h.output,by have:=h.size;simp;omega,fun k hk hr hb=>(heap_setCell_other w' ⟨g,j,none⟩ k u (fun e=>hr (by rw[show k=g from e]))).trans (h.block k hk hr hb)⟩
theorem vP.drew(h:vP w w' row bo):vP w w'.drew row bo:=⟨h.os,h.tape,h.output,h.size,h.block⟩
theorem vP.below(h:vP w w' row bo)(hb:Below n w'' w)(hn:n≤w''.heap.size)(hr:∀g,row=some g→n≤g)(ho:n≤bo):Below n w'' w':=by
 have hg:∀k,k<n→w'.heap[k]?=w.heap[k]? :=fun k hk=>h.block k (by have:=hb.size;omega) (fun e=>by have:=hr k e.symm;omega) (by omega);exact⟨h.os.trans hb.os,h.tape.trans hb.tape,h.output.trans hb.output,Nat.le_trans hb.size h.size,fun k hk=>(hg k hk).trans (hb.block k hk)⟩
end
def MB(I:IH)(bo B:Nat)(w:World)(v:Value)(l:List Xt)(e:Ending)(w':World):Prop:=
 ∃u v',e= .returned u∧w'.heap[bo]?=some (.cells #[v'] 79 (0,0))∧aK lY 109 I w' B v' l∧vP w w' v.ownBlock bo∧ ∀g,v'.ownBlock=some g→v.ownBlock=some g∨w.heap.size≤g
theorem Xwo(I:IH)(bo B:Nat)(v0:Value)(x:Xt)(w:World)(hv:aK lY 109 I w B v0 [])(p8:w.heap[bo]?=some (.cells #[v0] 79 (0,0)))(hB:B≤w.heap.size):
 Calls Tryz.prog 195 #[C9 x,.pointer (some ⟨bo,0,none⟩)] w (MB I bo B w v0 (jr [] x)):=by
 have Hn:=Qh (X5 x);obtain⟨ao,n,cap,cZ,Er⟩:∃ao n cap,v0= .slice ao n cap∧n=0:=by
  obtain⟨xs,h1,_⟩:=hv;rcases h1.2 with⟨h,_⟩|⟨g,cap,cur,h,_⟩
  ·exact⟨_,_,_,h,rfl⟩
  ·exact⟨_,_,_,h,rfl⟩
 subst cZ;subst Er;have kV:Below w.heap.size w (w.alloc (.cells #[.int .i64 x.s,.int .i64 x.o,.int .i64 x.n] 109)):=(Qb _ _).alloc (Qn _) _;have c0:(w.alloc (.cells #[.int .i64 x.s,.int .i64 x.o,.int .i64 x.n] 109)).cell? ⟨w.heap.size,0,none⟩=some (.int .i64 x.s):=by simp
 have c1:(w.alloc (.cells #[.int .i64 x.s,.int .i64 x.o,.int .i64 x.n] 109)).cell? ⟨w.heap.size,1,none⟩=some (.int .i64 x.o):=by simp
 have c2:(w.alloc (.cells #[.int .i64 x.s,.int .i64 x.o,.int .i64 x.n] 109)).cell? ⟨w.heap.size,2,none⟩=some (.int .i64 x.n):=by simp
 have cb:(w.alloc (.cells #[.int .i64 x.s,.int .i64 x.o,.int .i64 x.n] 109)).cell? ⟨bo,0,none⟩=some (.slice ao 0 cap):=kP _ ((cell_of_row w _ 0 _ _ _ p8).trans rfl);have gb:=cell_regrown cb;have nz:=Qh ((Below.heap_alloc w (.cells #[.int .i64 x.s,.int .i64 x.o,.int .i64 x.n] 109) _ (Qg p8)).trans p8);have Ha:=Qh (hv.alloc (.cells #[.int .i64 x.s,.int .i64 x.o,.int .i64 x.n] 109));clear hv p8;go_enter Tryz.func195,Tryz.ntmps195
 go_wp2_with fail
 generalize(w.alloc (.cells #[.int .i64 x.s,.int .i64 x.o,.int .i64 x.n] 109))=w1 at kV c0 c1 c2 cb gb Ha nz ⊢;refine wp_region_quiet_below (by kernel_rfl) (by kernel_rfl) ?_;repeat(go_big_quiet_step ((fail)))
 refine wpQuiet_nil ?_;intro w2 bq;have aL:Below (w1).heap.size (w1) w2:=by
  obtain⟨pq,rfl⟩:=bq;exact below_regrown _ _ _
 clear bq;have lM:=kV.trans (aL.mono kV.size);replace Ha:=Qh (Ha.O.below aL);replace nz:=Qh ((aL.block _ (Qg nz.O)).trans nz.O);replace c0:=bK aL c0;replace c1:=bK aL c1;replace c2:=bK aL c2;replace cb:=bK aL cb;have fb:w2.frozen? ⟨bo,0,none⟩=false:=frozen_of_row w2 _ 0 _ _ nz.O;have xn:B≤w2.heap.size:=by have:=lM.size;omega
 have bn:(Value.slice ao 0 cap).ownBlock≠some bo:=fun e=>by
  obtain⟨_,cur,hc⟩:=tL Ha.O e;rw[nz.O]at hc;exact absurd (Obj.cells.inj (Option.some.inj hc)).2.1 (by decide)
 have iG:=EQ lM (Value.slice ao 0 cap).ownBlock;go_wp2_with (at_builtin;refine IE (w0:=w2) II rfl _ _ rfl B _ _ rfl Ha.O x (Kk x) _ rfl rfl (by(try simp only[List.length_nil]);omega) (by(try simp only[List.length_nil]);omega) xn ?_)
 intro v9 w9 bD bP jf;obtain⟨a9,n9,k9,rfl⟩:=Fh bD;have Rv:=jo bP bn cb;have Rw:=Gr bP bn cb fb;have gI:=IG iG bP;have dM:=iG.size;have vC:=(bP.block _ (Qg nz.O) (fun e=>bn e.symm)).trans nz.O;go_wp2;go_end0
 refine⟨_,_,rfl,heap_setCell_same w9 bo 0 _ _ _ vC,(by rw[Hn.O];exact bD.stored (zm bD vC (by decide)) 0 _),(vP.lS gI bo).set 0 _,fun g h=>(jf g h).imp id (fun h=>by omega)⟩
theorem Xwn(I:IH)(bo B:Nat)(v0:Value)(l:List Xt)(x:Xt)(w:World)(hv:aK lY 109 I w B v0 l)(p8:w.heap[bo]?=some (.cells #[v0] 79 (0,0)))(hB:B≤w.heap.size)(h0:0<l.length)(hn:l.length≤100000)(hl:∀z∈l,XB 1099511627776 z)(hx:XB 1099511627776 x):
 Calls Tryz.prog 195 #[C9 x,.pointer (some ⟨bo,0,none⟩)] w (MB I bo B w v0 (jr l x)):=by
 have kV:Below w.heap.size w (w.alloc (.cells #[.int .i64 x.s,.int .i64 x.o,.int .i64 x.n] 109)):=(Qb _ _).alloc (Qn _) _;have c0:(w.alloc (.cells #[.int .i64 x.s,.int .i64 x.o,.int .i64 x.n] 109)).cell? ⟨w.heap.size,0,none⟩=some (.int .i64 x.s):=by simp
 have c1:(w.alloc (.cells #[.int .i64 x.s,.int .i64 x.o,.int .i64 x.n] 109)).cell? ⟨w.heap.size,1,none⟩=some (.int .i64 x.o):=by simp
 have c2:(w.alloc (.cells #[.int .i64 x.s,.int .i64 x.o,.int .i64 x.n] 109)).cell? ⟨w.heap.size,2,none⟩=some (.int .i64 x.n):=by simp
 have nC:=hv.alloc (.cells #[.int .i64 x.s,.int .i64 x.o,.int .i64 x.n] 109);obtain⟨g,cap,y,rfl,NW,hy,hbg,hlt,y0,y1,y2,iR⟩:=U0 nC h0;have cb:(w.alloc (.cells #[.int .i64 x.s,.int .i64 x.o,.int .i64 x.n] 109)).cell? ⟨bo,0,none⟩=some (.slice (some ⟨g,0,none⟩) l.length cap):=kP _ ((cell_of_row w _ 0 _ _ _ p8).trans rfl);have gb:=cell_regrown cb;have nz:=Qh ((Below.heap_alloc w (.cells #[.int .i64 x.s,.int .i64 x.o,.int .i64 x.n] 109) _ (Qg p8)).trans p8);have Ha:=Qh nC;have qz:=Qh (fun h=>X6 (l:=l) (x:=x) hy h);have uP:=Qh (fun h=>X7 (l:=l) (x:=x) hy h);have JF:=hl y (X8 hy);unfold XB at hx JF;have Hy:=Qh hy;clear hv nC hl hy p8;have i1:(0:Int)<(l.length:Int):=by omega
 have m1:IntKind.i64.wrap ((l.length:Int)-1)=((l.length-1:Nat):Int):=by rw[IntWalk.i64_in _ (by omega)];omega
 have m2:IntKind.i64.wrap (y.o+y.n)=y.o+y.n:=IntWalk.i64_in _ (by omega);have m3:(l.length:Int)-1=((l.length-1:Nat):Int):=by omega
 have i2:l.length-1<l.length:=by omega
 have i3:(0:Int)≤((l.length-1:Nat):Int):=by omega
 have g0:=cell_regrown y0;have g1:=cell_regrown y1;have g2:=cell_regrown y2;have z0:=cell_regrown c0;have z1:=cell_regrown c1;have z2:=cell_regrown c2;by_cases lC:x.s=0
 ·have e1:(x.s !=0)=false:=by simpa using lC
  have e2:(x.s==0)=true:=by simpa using lC
  have Hn:=Qh (qz.O (by rintro⟨h,_⟩;exact h lC));clear lC qz uP;go_enter Tryz.func195,Tryz.ntmps195
  go_wp2_with fail
  generalize(w.alloc (.cells #[.int .i64 x.s,.int .i64 x.o,.int .i64 x.n] 109))=w1 at kV c0 c1 c2 cb gb Ha nz y0 y1 y2 g0 g1 g2 z0 z1 z2 ⊢;refine wp_region_quiet_below (by kernel_rfl) (by kernel_rfl) ?_;repeat(go_big_quiet_step ((fail)))
  refine wpQuiet_nil ?_;intro w2 bq;have aL:Below (w1).heap.size (w1) w2:=by
   obtain⟨pq,rfl⟩:=bq;exact below_regrown _ _ _
  clear bq;have lM:=kV.trans (aL.mono kV.size);replace Ha:=Qh (Ha.O.below aL);replace nz:=Qh ((aL.block _ (Qg nz.O)).trans nz.O);replace c0:=bK aL c0;replace c1:=bK aL c1;replace c2:=bK aL c2;replace cb:=bK aL cb;have fb:w2.frozen? ⟨bo,0,none⟩=false:=frozen_of_row w2 _ 0 _ _ nz.O;have xn:B≤w2.heap.size:=by have:=lM.size;omega
  clear y0 y1 y2 g0 g1 g2 z0 z1 z2 gb;have bn:(Value.slice (some ⟨g,0,none⟩) l.length cap).ownBlock≠some bo:=fun e=>by
   obtain⟨_,cur,hc⟩:=tL Ha.O e;rw[nz.O]at hc;exact absurd (Obj.cells.inj (Option.some.inj hc)).2.1 (by decide)
  have iG:=EQ lM (Value.slice (some ⟨g,0,none⟩) l.length cap).ownBlock;go_wp2_with (at_builtin;refine IE (w0:=w2) II rfl _ _ rfl B _ _ rfl Ha.O x (Kk x) _ rfl rfl (by(try simp only[List.length_nil]);omega) (by(try simp only[List.length_nil]);omega) xn ?_)
  intro v9 w9 bD bP jf;obtain⟨a9,n9,k9,rfl⟩:=Fh bD;have Rv:=jo bP bn cb;have Rw:=Gr bP bn cb fb;have gI:=IG iG bP;have dM:=iG.size;have vC:=(bP.block _ (Qg nz.O) (fun e=>bn e.symm)).trans nz.O;go_wp2;go_end0
  refine⟨_,_,rfl,heap_setCell_same w9 bo 0 _ _ _ vC,(by rw[Hn.O];exact bD.stored (zm bD vC (by decide)) 0 _),(vP.lS gI bo).set 0 _,fun g h=>(jf g h).imp id (fun h=>by omega)⟩
 have e1:(x.s !=0)=true:=by simpa using lC
 have e2:(x.s==0)=false:=by simpa using lC
 by_cases Bz:y.s=x.s;case neg=>
  have e3:(y.s==x.s)=false:=by simpa using Bz
  have Hn:=Qh (qz.O (by rintro⟨_,h,_⟩;exact Bz h));clear lC Bz qz uP;go_enter Tryz.func195,Tryz.ntmps195
  go_wp2_with fail
  generalize(w.alloc (.cells #[.int .i64 x.s,.int .i64 x.o,.int .i64 x.n] 109))=w1 at kV c0 c1 c2 cb gb Ha nz y0 y1 y2 g0 g1 g2 z0 z1 z2 ⊢;refine wp_region_quiet_below (by kernel_rfl) (by kernel_rfl) ?_;repeat(go_big_quiet_step ((fail)))
  refine wpQuiet_nil ?_;intro w2 bq;have aL:Below (w1).heap.size (w1) w2:=by
   obtain⟨pq,rfl⟩:=bq;exact below_regrown _ _ _
  clear bq;have lM:=kV.trans (aL.mono kV.size);replace Ha:=Qh (Ha.O.below aL);replace nz:=Qh ((aL.block _ (Qg nz.O)).trans nz.O);replace c0:=bK aL c0;replace c1:=bK aL c1;replace c2:=bK aL c2;replace cb:=bK aL cb;have fb:w2.frozen? ⟨bo,0,none⟩=false:=frozen_of_row w2 _ 0 _ _ nz.O;have xn:B≤w2.heap.size:=by have:=lM.size;omega
  clear y0 y1 y2 g0 g1 g2 z0 z1 z2 gb;have bn:(Value.slice (some ⟨g,0,none⟩) l.length cap).ownBlock≠some bo:=fun e=>by
   obtain⟨_,cur,hc⟩:=tL Ha.O e;rw[nz.O]at hc;exact absurd (Obj.cells.inj (Option.some.inj hc)).2.1 (by decide)
  have iG:=EQ lM (Value.slice (some ⟨g,0,none⟩) l.length cap).ownBlock;go_wp2_with (at_builtin;refine IE (w0:=w2) II rfl _ _ rfl B _ _ rfl Ha.O x (Kk x) _ rfl rfl (by(try simp only[List.length_nil]);omega) (by(try simp only[List.length_nil]);omega) xn ?_)
  intro v9 w9 bD bP jf;obtain⟨a9,n9,k9,rfl⟩:=Fh bD;have Rv:=jo bP bn cb;have Rw:=Gr bP bn cb fb;have gI:=IG iG bP;have dM:=iG.size;have vC:=(bP.block _ (Qg nz.O) (fun e=>bn e.symm)).trans nz.O;go_wp2;go_end0
  refine⟨_,_,rfl,heap_setCell_same w9 bo 0 _ _ _ vC,(by rw[Hn.O];exact bD.stored (zm bD vC (by decide)) 0 _),(vP.lS gI bo).set 0 _,fun g h=>(jf g h).imp id (fun h=>by omega)⟩
 have e3:(y.s==x.s)=true:=by simpa using Bz
 by_cases Db:y.o+y.n=x.o;case neg=>
  have e4:(y.o+y.n==x.o)=false:=by simpa using Db
  have Hn:=Qh (qz.O (by rintro⟨_,_,h⟩;exact Db h));clear lC Bz Db qz uP;go_enter Tryz.func195,Tryz.ntmps195
  go_wp2_with fail
  generalize(w.alloc (.cells #[.int .i64 x.s,.int .i64 x.o,.int .i64 x.n] 109))=w1 at kV c0 c1 c2 cb gb Ha nz y0 y1 y2 g0 g1 g2 z0 z1 z2 ⊢;refine wp_region_quiet_below (by kernel_rfl) (by kernel_rfl) ?_;repeat(go_big_quiet_step ((fail)))
  refine wpQuiet_nil ?_;intro w2 bq;have aL:Below (w1).heap.size (w1) w2:=by
   obtain⟨pq,rfl⟩:=bq;exact below_regrown _ _ _
  clear bq;have lM:=kV.trans (aL.mono kV.size);replace Ha:=Qh (Ha.O.below aL);replace nz:=Qh ((aL.block _ (Qg nz.O)).trans nz.O);replace c0:=bK aL c0;replace c1:=bK aL c1;replace c2:=bK aL c2;replace cb:=bK aL cb;have fb:w2.frozen? ⟨bo,0,none⟩=false:=frozen_of_row w2 _ 0 _ _ nz.O;have xn:B≤w2.heap.size:=by have:=lM.size;omega
  clear y0 y1 y2 g0 g1 g2 z0 z1 z2 gb;have bn:(Value.slice (some ⟨g,0,none⟩) l.length cap).ownBlock≠some bo:=fun e=>by
   obtain⟨_,cur,hc⟩:=tL Ha.O e;rw[nz.O]at hc;exact absurd (Obj.cells.inj (Option.some.inj hc)).2.1 (by decide)
  have iG:=EQ lM (Value.slice (some ⟨g,0,none⟩) l.length cap).ownBlock;go_wp2_with (at_builtin;refine IE (w0:=w2) II rfl _ _ rfl B _ _ rfl Ha.O x (Kk x) _ rfl rfl (by(try simp only[List.length_nil]);omega) (by(try simp only[List.length_nil]);omega) xn ?_)
  intro v9 w9 bD bP jf;obtain⟨a9,n9,k9,rfl⟩:=Fh bD;have Rv:=jo bP bn cb;have Rw:=Gr bP bn cb fb;have gI:=IG iG bP;have dM:=iG.size;have vC:=(bP.block _ (Qg nz.O) (fun e=>bn e.symm)).trans nz.O;go_wp2;go_end0
  refine⟨_,_,rfl,heap_setCell_same w9 bo 0 _ _ _ vC,(by rw[Hn.O];exact bD.stored (zm bD vC (by decide)) 0 _),(vP.lS gI bo).set 0 _,fun g h=>(jf g h).imp id (fun h=>by omega)⟩
 have e4:(y.o+y.n==x.o)=true:=by simpa using Db
 have Hn:=Qh (uP.O ⟨lC,Bz,Db⟩);clear lC Bz Db qz uP;go_enter Tryz.func195,Tryz.ntmps195
 go_wp2_with fail
 generalize(w.alloc (.cells #[.int .i64 x.s,.int .i64 x.o,.int .i64 x.n] 109))=w1 at kV c0 c1 c2 cb gb Ha nz y0 y1 y2 g0 g1 g2 z0 z1 z2 ⊢;refine wp_region_quiet_below (by kernel_rfl) (by kernel_rfl) ?_;repeat(go_big_quiet_step ((fail)))
 refine wpQuiet_nil ?_;intro w2 bq;have aL:Below (w1).heap.size (w1) w2:=by
  obtain⟨pq,rfl⟩:=bq;exact below_regrown _ _ _
 clear bq;have lM:=kV.trans (aL.mono kV.size);replace Ha:=Qh (Ha.O.below aL);replace nz:=Qh ((aL.block _ (Qg nz.O)).trans nz.O);replace c0:=bK aL c0;replace c1:=bK aL c1;replace c2:=bK aL c2;replace cb:=bK aL cb;have fb:w2.frozen? ⟨bo,0,none⟩=false:=frozen_of_row w2 _ 0 _ _ nz.O;have xn:B≤w2.heap.size:=by have:=lM.size;omega
 replace y2:=bK aL y2;obtain⟨g',cap',y',cZ,_,hy',_,ar1,_,_,_,Rx⟩:=U0 Ha.O h0;cases cZ;have ar2:=Rx ((l.length-1)*3+2);have m4:IntKind.i64.wrap (y.n+x.n)=y.n+x.n:=IntWalk.i64_in _ (by omega);have iG:=EQ lM (Value.slice (some ⟨g,0,none⟩) l.length cap).ownBlock;clear y0 y1 g0 g1 g2 z0 z1 z2 gb iR Rx hy' aL c0 c1;have bn:g≠bo:=fun e=>zm Ha.O nz.O (by decide) (by simp[Value.ownBlock,e]);go_wp2_with fail
 go_big_region
 go_wp2;refine bodyPost_ret (results_none rfl _ _ _) rfl ?_;exact⟨_,_,rfl,(heap_setCell_other _ ⟨g,(l.length-1)*3+2,none⟩ bo _ (by show bo≠g;omega)).trans nz.O,by rw[Hn.O];exact Xn6 Ha.O Hy.O,(by first|exact(vP.lS iG bo).Mx _ _|exact((vP.lS iG bo).Mx _ _).drew|exact(vP.lS iG bo).drew.Mx _ _),fun q hq=> .inl hq⟩
theorem Y1(I:IH)(bo B:Nat)(v0:Value)(l:List Xt)(x:Xt)(w:World)(hv:aK lY 109 I w B v0 l)(p8:w.heap[bo]?=some (.cells #[v0] 79 (0,0)))(hB:B≤w.heap.size)(hn:l.length≤100000)(hl:∀z∈l,XB 1099511627776 z)(hx:XB 1099511627776 x):
 Calls Tryz.prog 195 #[C9 x,.pointer (some ⟨bo,0,none⟩)] w (MB I bo B w v0 (jr l x)):=by
 cases l with
 |nil=>exact Xwo I bo B v0 x w hv p8 hB
 |cons a l=>exact Xwn I bo B v0 (a::l) x w hv p8 hB (by simp) hn hl hx
theorem Xwm(bo:Nat)(v:Value)(w:World)(hc:w.cell? ⟨bo,0,none⟩=some v):Calls Tryz.prog 196 #[.pointer (some ⟨bo,0,none⟩)] w fun e w'=>e= .returned v∧w'=w:=by
 go_enter Tryz.func196,Tryz.ntmps196
 go_wp2;go_ret;exact⟨rfl,rfl⟩
theorem Xl2(w:World):Calls Tryz.prog 149 #[] w fun e w'=>e= .returned (.tuple #[.func (.func 195) #[] #[.pointer (some ⟨w.heap.size,0,none⟩)],.func (.func 196) #[] #[.pointer (some ⟨w.heap.size,0,none⟩)]])∧w'=w.alloc (.cells #[.slice none 0 0] 79):=by
 go_enter Tryz.func149,Tryz.ntmps149
 go_wp2;go_ret2;exact⟨rfl,rfl⟩
theorem wE{K:Act→World→Prop}(ty:TypeId)(x y:Operand)(ho:o.op= .store ty x y)
 (g off:Nat) (cs:List Value) (v:Value) (hx:a.eval x= .pointer (some ⟨g,off,none⟩)) (hy:a.eval y=v) (hv:v.cells=cs.toArray) (cur:Array Value) (tt:TypeId)
 (hg:w.heap[g]?=some (.cells cur tt (0,0))) (nN:off+cs.length≤cur.size) (hi:(P.info? ty).map (·.size)=some cs.length) (h1:∀v∈cs,v.oneCell'=true)
 (h:K (a.put o.dst undef) (w.setRow g (over cur off cs))):o.wp P a w K Q:=by
 have jk:=run_storeCells_at (P:=P) g off tt cs 0 cur w hg (by simpa using nN) h1;have hsv:(storeVar ty ⟨g,off,none⟩ v).run P w= .ok () (w.setRow g (over cur off cs)):=by
  cases hq:P.info? ty with
  |none=>simp[hq]at hi
  |some i=>
   have hs:cs.length=i.size:=by simp[hq]at hi;omega
   simp only[Nat.add_zero]at jk;simp[storeVar,sizeOf,typeInfo,hq,hv,hs,jk,over]
 unfold Oper.wp execOp;simp only[ho,hx,hy,Instr.storeAt,Instr.sureAddr,Sem.run_bind,Sem.run_pure,Result.andThen_ok,hsv];exact h
theorem Xht{w' w'':World}{r:Option Nat}(h:w.grownBy w' r)(k:w'.grownBy w'' r):w.grownBy w'' r:=
 ⟨k.os.trans h.os,k.tape.trans h.tape,k.output.trans h.output,Nat.le_trans h.size k.size,fun i hi hr=>(k.block i (Nat.lt_of_lt_of_le hi h.size) hr).trans (h.block i hi hr)⟩
theorem mI(h:s.size≤i):s.getD i false=false:=by
 rw[Array.getD_eq_getD_getElem?,Array.getElem?_eq_none h];rfl
theorem Xlg(h:IV ops s)(hp:zg ops [k,i]=true)(aN:s.getD i true=false):s.getD k false=false:=iH h [i] hp rfl aN
theorem uq{L M:List (Option Tmp×Value)}(D:List Nat)(hl:L.length=M.length)(h:∀j,j ∉ D→L[j]?=M[j]?)(OB:∀j∈D,s.getD j false=false):df L 0 s a=df M 0 s a:=
 Vd _ _ _ _ _ hl fun j hj=>by
  rw[Nat.zero_add]at hj;exact h j (fun e=>by rw[OB j e]at hj;cases hj)
theorem Dk(h:aK T E I w B v l):∃ao cap,v= .slice ao l.length cap:=by
 obtain⟨xs,h1,_⟩:=h;rcases h1.2 with⟨h,h0⟩|⟨g,cap,cur,h,_⟩
 ·exact⟨none,0,by rw[h,h0]⟩
 ·exact⟨_,_,h⟩
structure wW {Y:Type} (W:World) (jc ja:Nat) (Gc:Y→World→Prop) (Ga:Nat→World→Prop) (m:Nat×Y→Nat) (t:TypeId) (s1 s2 s3:Nat) (R1 R2 R3:Nat×Y→Array Value) (x:Nat×Y) (s:Array Bool) (w:World):Prop where
 off:s.getD s1 false=false→Below W.heap.size W w
 fc:s.getD jc false=true→s.getD s1 false=false→Gc x.2 w
 fa:s.getD ja false=true→s.getD s1 false=false→Ga x.1 w
 on:s.getD s1 false=true→ ∃wb,Below W.heap.size W wb∧Gc x.2 wb∧Ga x.1 wb∧wb.grownBy w (some (m x))∧
  w.heap[m x]?=some (.cells (if s.getD s3 false=true then R3 x else if s.getD s2 false=true then R2 x else R1 x) t (0,0))
section
variable {Y:Type} {W w w':World} {jc ja:Nat} {Gc:Y→World→Prop} {Ga:Nat→World→Prop} {m:Nat×Y→Nat} {t:TypeId} {s1 s2 s3:Nat} {R1 R2 R3:Nat×Y→Array Value} {x:Nat×Y} {s:Array Bool} {i:Nat}
theorem wW.start(n:Nat)(x:Nat×Y):wW W jc ja Gc Ga m t s1 s2 s3 R1 R2 R3 x (Array.replicate n false) {W with drawn:=W.drawn+1}:=
 ⟨fun _=>(Qb _ _).drew,fun h=>(by rw[zf]at h;cases h),fun h=>(by rw[zf]at h;cases h),fun h=>(by rw[zf]at h;cases h)⟩
theorem wW.pure(h:wW W jc ja Gc Ga m t s1 s2 s3 R1 R2 R3 x s w)(hc:i≠jc)(ha:i≠ja)(h1:i≠s1)(h2:i≠s2)(h3:i≠s3):wW W jc ja Gc Ga m t s1 s2 s3 R1 R2 R3 x (s.setIfInBounds i true) w:=by
 refine⟨?_,?_,?_,?_⟩
 ·rw[getD_set_ne false h1];exact h.off
 ·rw[getD_set_ne false h1,getD_set_ne false hc];exact h.fc
 ·rw[getD_set_ne false h1,getD_set_ne false ha];exact h.fa
 ·rw[getD_set_ne false h1,getD_set_ne false h2,getD_set_ne false h3];exact h.on
theorem wW.call(h:wW W jc ja Gc Ga m t s1 s2 s3 R1 R2 R3 x s w)(hl:s.getD s1 false=false)(hb:Below w.heap.size w w'){y:Y}(hy:Gc y w')(wF:∀k,Ga k w→Ga k w')(ha:jc≠ja)(h1:jc≠s1):
 wW W jc ja Gc Ga m t s1 s2 s3 R1 R2 R3 (x.1,y) (s.setIfInBounds jc true) w':=by
 refine⟨fun _=>(h.off hl).trans (hb.mono (h.off hl).size),fun _ _=>hy,?_,?_⟩
 ·rw[getD_set_ne false ha];exact fun q _=>wF _ (h.fa q hl)
 ·rw[getD_set_ne false h1,hl];intro q;cases q
theorem wW.made(h:wW W jc ja Gc Ga m t s1 s2 s3 R1 R2 R3 x s w)(hl:s.getD s1 false=false)(hb:Below w.heap.size w w')(hk:Ga k w')(wG:∀y,Gc y w→Gc y w')(hc:ja≠jc)(h1:ja≠s1):
 wW W jc ja Gc Ga m t s1 s2 s3 R1 R2 R3 (k,x.2) (s.setIfInBounds ja true) w':=by
 refine⟨fun _=>(h.off hl).trans (hb.mono (h.off hl).size),?_,fun _ _=>hk,?_⟩
 ·rw[getD_set_ne false hc];exact fun q _=>wG _ (h.fc q hl)
 ·rw[getD_set_ne false h1,hl];intro q;cases q
theorem wW.pQ(h:wW W jc ja Gc Ga m t s1 s2 s3 R1 R2 R3 x s w)(aN:s.getD s1 true=false)(hc:Gc x.2 w)(ha:Ga x.1 w)(h2:s.getD s2 false=false)(h3:s.getD s3 false=false)(hd:s1≠s2∧s1≠s3)
 {cur:Array Value} (hg:w.heap[m x]?=some (.cells cur t (0,0))) {R:Array Value} (hR:R=R1 x):wW W jc ja Gc Ga m t s1 s2 s3 R1 R2 R3 x (s.setIfInBounds s1 true) (w.setRow (m x) R):=by
 have e:=zY (u6 aN);have hl:s.getD s1 false=false:=jZ aN;refine⟨fun q=>(by rw[e]at q;cases q),fun _ q=>(by rw[e]at q;cases q),fun _ q=>(by rw[e]at q;cases q),fun _=>⟨w,h.off hl,hc,ha,Al,?_⟩⟩;rw[getD_set_ne false hd.1,getD_set_ne false hd.2,h2,h3,hR];exact setRow_heap w (m x) cur _ t (0,0) hg
end
def Y2(I:IH)(w:World)(q:fM)(n:Int)(e:Ending)(w':World):Prop:=
 ∃ww I',e= .returned (.tuple #[fH q ww,.int .i64 n])∧Below w.heap.size w w'∧Ext w.heap.size I I'∧Ok I' w'∧aZ qf I' ww q.aJ
abbrev Pe(n:Nat)(ao:Option Addr)(le cap:Nat)(aV:Int)(str:af)(x:Nat×(Option Addr×Nat)):List (Option Tmp×Value):=
 [(some 7,.pointer (some ⟨n,0,none⟩)),(some 8,.slice ao le cap),(some 9,.slice x.2.1 le x.2.2),(some 10,.pointer (some ⟨n,1,none⟩)),(some 11,.int .i64 aV),(some 12,.pointer (some ⟨n,2,none⟩)),(some 13,S str),(some 14,.agg #[.slice x.2.1 le x.2.2,.int .i64 aV,S str]),(some 6,.pointer (some ⟨x.1,0,none⟩)),(none,undef)]
theorem xR{ao:Option Addr}{le cap:Nat}{aV:Int}{str:af}{x:Nat×(Option Addr×Nat)}:cO (Pe n ao le cap aV str x):=by
 unfold cO;simp
theorem Xoo(I:IH)(s:fM)(vc:Value)(hv:aZ qf I vc s.aJ)(hn:s.aJ.length≤1000000000)(n:Int)(w:World)(hw:Ok I w):
 Calls Tryz.prog 62 #[fH s vc,.int .i64 n] w (Y2 I w (jE s n).1 (jE s n).2):=by
 obtain⟨ao,cap,rfl,_,_,_⟩:=id hv;have qO:=Qh (fun w hw=>Xor I _ s.aJ hv w hw (by omega));obtain⟨W2,xu⟩:∃W2,((w.alloc (.cells #[.slice ao s.aJ.length cap,.int .i64 s.aV,S s.str] 40)).alloc (.cells #[.slice none 0 0,.int .i64 0,S []] 40))=W2:=⟨_,rfl⟩;have aX:Ok I W2:=by rw[←xu];exact(hw.alloc _).alloc _
 have eZ:W2.heap.size=w.heap.size+2:=by rw[←xu];simp
 have Ec:=Qh (show W2.heap[w.heap.size]?=some (.cells #[.slice ao s.aJ.length cap,.int .i64 s.aV,S s.str] 40 (0,0)) by rw[←xu];exact(Below.heap_alloc _ _ _ (by simp)).trans (heap_alloc_new w _));have uz:=Qh (show W2.heap[w.heap.size+1]?=some (.cells #[.slice none 0 0,.int .i64 0,S []] 40 (0,0)) by
  rw[←xu];have h:=heap_alloc_new (w.alloc (.cells #[.slice ao s.aJ.length cap,.int .i64 s.aV,S s.str] 40)) (.cells #[.slice none 0 0,.int .i64 0,S []] 40);simpa using h)
 have aL:Below w.heap.size w W2:=by rw[←xu];exact((Qb _ _).alloc (Qn _) _).alloc (by simp) _
 have c0:W2.cell? ⟨w.heap.size,0,none⟩=some (.slice ao s.aJ.length cap):=(cell_of_row _ _ 0 _ _ _ Ec.O).trans rfl;have c1:W2.cell? ⟨w.heap.size,1,none⟩=some (.int .i64 s.aV):=(cell_of_row _ _ 1 _ _ _ Ec.O).trans rfl;have c2:W2.cell? ⟨w.heap.size,2,none⟩=some (S s.str):=(cell_of_row _ _ 2 _ _ _ Ec.O).trans rfl;clear hv;go_enter Tryz.func62,Tryz.ntmps62
 go_wp2_with fail
 refine yz (X:=Nat×(Option Addr×Nat)) (Pe w.heap.size ao s.aJ.length cap s.aV s.str) (wW W2 2 8 (fun y w=>aK qf 156 I w W2.heap.size (.slice y.1 s.aJ.length y.2) s.aJ) (fun k w=>w.heap[k]?=some (.cells #[.slice none 0 0,.int .i64 0,S []] 40 (0,0))∧W2.heap.size≤k) (fun x=>x.1) 40 9 211 212 (fun x=> #[.slice x.2.1 s.aJ.length x.2.2,.int .i64 s.aV,S s.str]) (fun x=> #[.slice x.2.1 s.aJ.length x.2.2,.int .i64 s.aV,S s.str]) (fun x=> #[.slice x.2.1 s.aJ.length x.2.2,.int .i64 s.aV,S s.str])) (by kernel_rfl) (by kernel_rfl) ?_ ?_ ?_
 ·exact⟨(0,default),wW.start _ _⟩
 ·rintro x s' a' w' i dM dC ha hC hi;obtain⟨aN,oi,fP,aC⟩:=mem_ready.1 hi;rcases i with _|_|_|_|_|_|_|_|_|_|i
  rotate_left 10
  ·simp at fP
  all_goals
   have dV:=fP;simp at fP;subst fP;simp[Region.binds]at aC
  ·have e2:a'.tmps[2]?.getD undef= .pointer (some ⟨w.heap.size,0,none⟩):=oD ha (by simp);refine wpOp_step dV (fun K' hK=> ?_);rw[if_pos (by rfl)];unfold Oper.wp;simp[go_sem,e2,Oper.upon];exact hK _ _ ⟨x,eO (d:=some 7) (v:= .pointer (some ⟨w.heap.size,0,none⟩)) xR ha rfl aN,hC.pure (by decide) (by decide) (by decide) (by decide) (by decide)⟩
  ·have e7:a'.tmps[7]?.getD undef= .pointer (some ⟨w.heap.size,0,none⟩):=gT (i:=0) xR ha rfl (by first|simpa using aC|simp[aC]) (by simp);have hl:s'.getD 9 false=false:=iH dC [1] (by kernel_rfl) (by rfl) aN;have cq:=bK (hC.off hl) c0;refine wpOp_step dV (fun K' hK=> ?_);rw[if_pos (by rfl)];unfold Oper.wp;simp[go_sem,e7,cq,Oper.upon];exact hK _ _ ⟨x,eO (d:=some 8) (v:= .slice ao s.aJ.length cap) xR ha rfl aN,hC.pure (by decide) (by decide) (by decide) (by decide) (by decide)⟩
  ·have e8:a'.tmps[8]?.getD undef= .slice ao s.aJ.length cap:=gT (i:=1) xR ha rfl (by first|simpa using aC|simp[aC]) (by simp);have hl:s'.getD 9 false=false:=iH dC [2] (by kernel_rfl) (by rfl) aN;have pR:=aX.below (Qn _) (hC.off hl);refine wpOp_step dV (fun K' hK=> ?_);rw[if_pos (by rfl)];unfold Oper.wp;simp[go_sem,e8,Oper.upon];refine(qO.O _ pR).mono ?_;rintro r4 w4 ⟨v7,rfl,ho,aR⟩;obtain⟨a7,k7,rfl⟩:=Dk ho;have ha:=ha.trans (uq (L:=Pe w.heap.size ao s.aJ.length cap s.aV s.str x) (M:=Pe w.heap.size ao s.aJ.length cap s.aV s.str (x.1,(a7,k7))) [2,7] rfl (fun j bn=>by
    rcases j with _|_|_|_|_|_|_|_|_|_|j<;>first|rfl|(exact absurd (by decide) bn)|simp) (List.forall_mem_cons.2 ⟨jZ aN,List.forall_mem_cons.2 ⟨iH dC [2] (by kernel_rfl) (by rfl) aN,List.forall_mem_nil _⟩⟩))
   exact hK _ _ ⟨(x.1,(a7,k7)),eO (d:=some 9) (v:= .slice (a7,k7).1 s.aJ.length (a7,k7).2) xR ha rfl aN,hC.call hl aR (ho.lower (hC.off hl).size) (fun k hk=>⟨(aR.block _ (Qg hk.1)).trans hk.1,hk.2⟩) (by decide) (by decide)⟩
  ·have e2:a'.tmps[2]?.getD undef= .pointer (some ⟨w.heap.size,0,none⟩):=oD ha (by simp);refine wpOp_step dV (fun K' hK=> ?_);rw[if_pos (by rfl)];unfold Oper.wp;simp[go_sem,e2,Oper.upon];exact hK _ _ ⟨x,eO (d:=some 10) (v:= .pointer (some ⟨w.heap.size,1,none⟩)) xR ha rfl aN,hC.pure (by decide) (by decide) (by decide) (by decide) (by decide)⟩
  ·have e10:a'.tmps[10]?.getD undef= .pointer (some ⟨w.heap.size,1,none⟩):=gT (i:=3) xR ha rfl (by first|simpa using aC|simp[aC]) (by simp);have hl:s'.getD 9 false=false:=iH dC [4] (by kernel_rfl) (by rfl) aN;have cq:=bK (hC.off hl) c1;refine wpOp_step dV (fun K' hK=> ?_);rw[if_pos (by rfl)];unfold Oper.wp;simp[go_sem,e10,cq,Oper.upon];exact hK _ _ ⟨x,eO (d:=some 11) (v:= .int .i64 s.aV) xR ha rfl aN,hC.pure (by decide) (by decide) (by decide) (by decide) (by decide)⟩
  ·have e2:a'.tmps[2]?.getD undef= .pointer (some ⟨w.heap.size,0,none⟩):=oD ha (by simp);refine wpOp_step dV (fun K' hK=> ?_);rw[if_pos (by rfl)];unfold Oper.wp;simp[go_sem,e2,Oper.upon];exact hK _ _ ⟨x,eO (d:=some 12) (v:= .pointer (some ⟨w.heap.size,2,none⟩)) xR ha rfl aN,hC.pure (by decide) (by decide) (by decide) (by decide) (by decide)⟩
  ·have e12:a'.tmps[12]?.getD undef= .pointer (some ⟨w.heap.size,2,none⟩):=gT (i:=5) xR ha rfl (by first|simpa using aC|simp[aC]) (by simp);have hl:s'.getD 9 false=false:=iH dC [6] (by kernel_rfl) (by rfl) aN;have cq:=bK (hC.off hl) c2;refine wpOp_step dV (fun K' hK=> ?_);rw[if_pos (by rfl)];unfold Oper.wp;simp[go_sem,e12,cq,Oper.upon];exact hK _ _ ⟨x,eO (d:=some 13) (v:=S s.str) xR ha rfl aN,hC.pure (by decide) (by decide) (by decide) (by decide) (by decide)⟩
  ·have e9:a'.tmps[9]?.getD undef= .slice x.2.1 s.aJ.length x.2.2:=gT (i:=2) xR ha rfl (by first|simpa using aC|simp[aC]) (by simp);have e11:a'.tmps[11]?.getD undef= .int .i64 s.aV:=gT (i:=4) xR ha rfl (by first|simpa using aC|simp[aC]) (by simp);have e13:a'.tmps[13]?.getD undef=S s.str:=gT (i:=6) xR ha rfl (by first|simpa using aC|simp[aC]) (by simp);refine wpOp_step dV (fun K' hK=> ?_);rw[if_pos (by rfl)];unfold Oper.wp;simp[go_sem,e9,e11,e13,Oper.upon];exact hK _ _ ⟨x,eO (d:=some 14) (v:= .agg #[.slice x.2.1 s.aJ.length x.2.2,.int .i64 s.aV,S s.str]) xR ha rfl aN,hC.pure (by decide) (by decide) (by decide) (by decide) (by decide)⟩
  ·have hl:s'.getD 9 false=false:=iH dC [8] (by kernel_rfl) (by rfl) aN;refine wpOp_step dV (fun K' hK=> ?_);rw[if_pos (by rfl)];unfold Oper.wp;simp[go_sem,Oper.upon];have ha:=ha.trans (uq (L:=Pe w.heap.size ao s.aJ.length cap s.aV s.str x) (M:=Pe w.heap.size ao s.aJ.length cap s.aV s.str (w'.heap.size,x.2)) [8] rfl (fun j bn=>by
    rcases j with _|_|_|_|_|_|_|_|_|_|j<;>first|rfl|(exact absurd (by decide) bn)|simp) (List.forall_mem_cons.2 ⟨jZ aN,List.forall_mem_nil _⟩))
   exact hK _ _ ⟨(w'.heap.size,x.2),eO (d:=some 6) (v:= .pointer (some ⟨w'.heap.size,0,none⟩)) xR ha rfl aN,hC.made hl ((Qb _ _).alloc (Qn _) _) ⟨heap_alloc_new _ _,(hC.off hl).size⟩ (fun y hy=>hy.alloc _) (by decide) (by decide)⟩
  ·have e14:a'.tmps[14]?.getD undef= .agg #[.slice x.2.1 s.aJ.length x.2.2,.int .i64 s.aV,S s.str]:=gT (i:=7) xR ha rfl (by first|simpa using aC|simp[aC]) (by simp);have e6:a'.tmps[6]?.getD undef= .pointer (some ⟨x.1,0,none⟩):=gT (i:=8) xR ha rfl (by first|simpa using aC|simp[aC]) (by simp);refine wpOp_step dV (fun K' hK=> ?_);rw[if_pos (by rfl)];have sQ:s'.getD 2 false=true:=by first|simpa using aC|simp[aC]
   have TT:s'.getD 8 false=true:=by first|simpa using aC|simp[aC]
   have JJ:s'.getD 9 false=false:=jZ aN;have aS:w'.heap[x.1]?=some (.cells _ 40 (0,0)):=(hC.fa TT JJ).1;refine wE 40 _ _ rfl (x.1) 0 [.slice x.2.1 s.aJ.length x.2.2,.int .i64 s.aV,S s.str] (.agg #[.slice x.2.1 s.aJ.length x.2.2,.int .i64 s.aV,S s.str]) (by simp[Act.eval,e14,e6]) (by simp[Act.eval,e14,e6]) (by rfl) _ _ aS (by simp) (by kernel_rfl) (by simp[Value.oneCell']) ?_;exact hK _ _ ⟨x,eO (d:=none) (v:=undef) xR ha rfl aN,hC.pQ aN (hC.fc sQ JJ) (hC.fa TT JJ) (mI (by simp[dM])) (mI (by simp[dM])) (by decide) aS (by rfl)⟩
 ·rintro x s' a' w8 gz ha hC;obtain⟨wb,gV,wG,wF,gI,aS⟩:=hC.on (gz 9 (by decide));simp only[ite_self]at aS;rw[xL _ _ _ _ (fun i hi=>by rw[Nat.zero_add];exact gz i (by simpa using hi))]at ha;subst ha;simp only[eH,Act.put];obtain⟨m,kN,k7⟩:=x;dsimp only at wG wF gI aS ⊢;have bn:=zm wG wF.1 (by decide);have uM:=wG.kept gI (.inr bn);have hm:w.heap.size+2≤m:=by have:=wF.2;omega
  have kL:Ok I w8:=(aX.below (Qn _) gV).grown gI (fun g e=>by cases e;exact hw.fresh (by omega));have kV:Below w.heap.size w w8:=(aL.trans (gV.mono aL.size)).grown gI (by have:=gV.size;omega) (fun k e=>by cases e;omega);obtain⟨J,yA,nJ,Dl,Kz⟩:=uM.freeze kL (fun b hb=>hw.fresh (by omega));have HJ:=Qh (And.intro (yA.mono (show w.heap.size≤W2.heap.size by omega)) (And.intro nJ Dl));have hz:∀b,b<w.heap.size+2→w8.heap[b]?=W2.heap[b]? :=fun b hb=>(gI.block _ (by have:=gV.size;omega) (fun e=>by cases e;omega)).trans (gV.block _ (by omega));have uB:=Qh ((hz (w.heap.size+1) (by omega)).trans uz.O);have Fj:J m=none:=by rw[Kz m bn];exact hw.fresh (by omega)
  have a1:w8.cell? ⟨w.heap.size,1,none⟩=some (.int .i64 s.aV):=(cell_of_row _ _ 1 _ _ _ ((hz w.heap.size (by omega)).trans Ec.O)).trans rfl;have d0:w8.cell? ⟨m,0,none⟩=some (.slice kN s.aJ.length k7):=(cell_of_row _ _ 0 _ _ _ aS).trans rfl;have d1:w8.cell? ⟨m,1,none⟩=some (.int .i64 s.aV):=(cell_of_row _ _ 1 _ _ _ aS).trans rfl;have d2:w8.cell? ⟨m,2,none⟩=some (S s.str):=(cell_of_row _ _ 2 _ _ _ aS).trans rfl;have f0:=frozen_of_row w8 _ 0 _ _ aS;have f1:=frozen_of_row w8 _ 1 _ _ aS;have f2:=frozen_of_row w8 _ 2 _ _ aS;have g0:=frozen_of_row w8 _ 0 _ _ uB.O;have g1:=frozen_of_row w8 _ 1 _ _ uB.O;have g2:=frozen_of_row w8 _ 2 _ _ uB.O;have k0:w8.cell? ⟨w.heap.size+1,0,none⟩=some (.slice none 0 0):=(cell_of_row _ _ 0 _ _ _ uB.O).trans rfl;have k1:w8.cell? ⟨w.heap.size+1,1,none⟩=some (.int .i64 0):=(cell_of_row _ _ 1 _ _ _ uB.O).trans rfl;have k2:w8.cell? ⟨w.heap.size+1,2,none⟩=some (S []):=(cell_of_row _ _ 2 _ _ _ uB.O).trans rfl;have hne1:m≠w.heap.size+1:=by omega
  have hne2:w.heap.size+1≠m:=by omega
  have MC:=Qh aS;have wR:=Qh (show(Tryz.prog.info? 40).map (·.size)=some 3 by kernel_rfl);have jC:I (w.heap.size+1)=none:=hw.fresh (by omega);have vQ:J (w.heap.size+1)=none:=by rw[yA _ (by omega)];exact jC
  clear hz wG wF gI aS bn uM gV hC gz yA nJ Dl Kz c0 c1 c2 Ec uz qO kL;by_cases h1:n<1
  ·have e1:decide (n<1)=true:=Qt h1;have Hn:=Qh (show jE s n=(s,2) by rw[jE,if_pos (.inl h1)]);clear h1;go_wp2;refine bodyPost_ret (v:= .tuple #[fH s (.slice kN s.aJ.length k7),.int .i64 2]) ?_ rfl ?_
   ·rw[results_cell_tmp rfl];simp[asAddr,run_loadVar_row _ (w.heap.size+1) 40 40 #[.slice kN s.aJ.length k7,.int .i64 s.aV,S s.str] (0,0) _ (IK uB.O) Tryz.underlying40 rfl wR.O]
   ·rw[Hn.O];exact⟨_,J,rfl,((kV.setCell (p:=⟨w.heap.size+1,0,none⟩) (Nat.le_succ _) _).setCell (p:=⟨w.heap.size+1,1,none⟩) (Nat.le_succ _) _).setCell (p:=⟨w.heap.size+1,2,none⟩) (Nat.le_succ _) _,HJ.O.1,((HJ.O.2.1.setCell vQ _).setCell vQ _).setCell vQ _,HJ.O.2.2⟩
  have e1:decide (n<1)=false:=Qf h1;by_cases h2:255<n
  ·have e2:decide (255<n)=true:=Qt h2;have Hn:=Qh (show jE s n=(s,2) by rw[jE,if_pos (.inr h2)]);clear h1 h2;go_wp2;refine bodyPost_ret (v:= .tuple #[fH s (.slice kN s.aJ.length k7),.int .i64 2]) ?_ rfl ?_
   ·rw[results_cell_tmp rfl];simp[asAddr,run_loadVar_row _ (w.heap.size+1) 40 40 #[.slice kN s.aJ.length k7,.int .i64 s.aV,S s.str] (0,0) _ (IK uB.O) Tryz.underlying40 rfl wR.O]
   ·rw[Hn.O];exact⟨_,J,rfl,((kV.setCell (p:=⟨w.heap.size+1,0,none⟩) (Nat.le_succ _) _).setCell (p:=⟨w.heap.size+1,1,none⟩) (Nat.le_succ _) _).setCell (p:=⟨w.heap.size+1,2,none⟩) (Nat.le_succ _) _,HJ.O.1,((HJ.O.2.1.setCell vQ _).setCell vQ _).setCell vQ _,HJ.O.2.2⟩
  have e2:decide (255<n)=false:=Qf h2;by_cases h3:n≤s.aV
  ·have e3:decide (n≤s.aV)=true:=Qt h3;have Hn:=Qh (show jE s n=(s,14) by rw[jE,if_neg (by omega),if_pos h3]);clear h1 h2 h3;go_wp2;refine bodyPost_ret (v:= .tuple #[fH s (.slice kN s.aJ.length k7),.int .i64 14]) ?_ rfl ?_
   ·rw[results_cell_tmp rfl];simp[asAddr,run_loadVar_row _ (w.heap.size+1) 40 40 #[.slice kN s.aJ.length k7,.int .i64 s.aV,S s.str] (0,0) _ (IK uB.O) Tryz.underlying40 rfl wR.O]
   ·rw[Hn.O];exact⟨_,J,rfl,((kV.setCell (p:=⟨w.heap.size+1,0,none⟩) (Nat.le_succ _) _).setCell (p:=⟨w.heap.size+1,1,none⟩) (Nat.le_succ _) _).setCell (p:=⟨w.heap.size+1,2,none⟩) (Nat.le_succ _) _,HJ.O.1,((HJ.O.2.1.setCell vQ _).setCell vQ _).setCell vQ _,HJ.O.2.2⟩
  have e3:decide (n≤s.aV)=false:=Qf h3;have Hn:=Qh (show jE s n=(⟨s.aJ,n,[]⟩,0) by rw[jE,if_neg (by omega),if_neg h3]);clear h1 h2 h3;have Y3:=Qh (show((w8.setCell ⟨m,1,none⟩ (.int .i64 n)).setCell ⟨m,2,none⟩ (.string ⟨#[]⟩)).heap[w.heap.size+1]?=some (.cells #[.slice none 0 0,.int .i64 0,S []] 40 (0,0))from(heap_setCell_other _ ⟨m,2,none⟩ _ _ (by show w.heap.size+1≠m;omega)).trans ((heap_setCell_other _ ⟨m,1,none⟩ _ _ (by show w.heap.size+1≠m;omega)).trans uB.O));go_wp2;refine bodyPost_ret (v:= .tuple #[fH ⟨s.aJ,n,[]⟩ (.slice kN s.aJ.length k7),.int .i64 0]) ?_ rfl ?_
  ·rw[results_cell_tmp rfl];simp[asAddr,run_loadVar_row _ (w.heap.size+1) 40 40 #[.slice kN s.aJ.length k7,.int .i64 n,S []] (0,0) _ (IK Y3.O) Tryz.underlying40 rfl wR.O]
  ·rw[Hn.O];exact⟨_,J,rfl,((((kV.setCell (p:=⟨m,1,none⟩) (by show w.heap.size≤m;omega) _).setCell (p:=⟨m,2,none⟩) (by show w.heap.size≤m;omega) _).setCell (p:=⟨w.heap.size+1,0,none⟩) (Nat.le_succ _) _).setCell (p:=⟨w.heap.size+1,1,none⟩) (Nat.le_succ _) _).setCell (p:=⟨w.heap.size+1,2,none⟩) (Nat.le_succ _) _,HJ.O.1,((((HJ.O.2.1.setCell Fj _).setCell Fj _).setCell vQ _).setCell vQ _).setCell vQ _,HJ.O.2.2⟩
