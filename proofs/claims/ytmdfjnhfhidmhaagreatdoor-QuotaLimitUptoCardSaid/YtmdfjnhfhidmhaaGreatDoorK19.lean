/-
  Walks and laws that the claim's theorem uses: texts QuL CtA Mat FeA CtB RfD CtC, joined; comments out. Conditions: as each theorem says.
-/
import Derived.Test.YtmdfjnhfhidmhaaGreatDoorK18
import Derived.Maps.Own
import Derived.Maps.OwnOps
import Derived.Maps.OwnSet
import Derived.Maps.Views
import Derived.RangeFuncNested
import Derived.RangeFuncLeaves
import Derived.Shelf.Abstract
import Derived.OwnWalkIn
import Derived.TacticsInMore
import Derived.LoopNIn
import Derived.LoopIn
import Derived.Maps.OwnIn
set_option linter.all false
namespace Go.Proofs.YtmdfjnhfhidmhaaGreatDoor
open Go.RowKit
def annA:Acc:=⟨[97,110,110],10,2,0,0⟩
def fileR (p c:Bytes):Rqs:=⟨[97,110,110],⟨1,p,[],[],c⟩⟩
def awR:List Rqs:= [fileR [97] [49,50,51,52,53,54],fileR [98] [49,50,51,52],fileR [99] [],⟨[97,110,110],⟨4,[97],[],[],[]⟩⟩]
set_option maxRecDepth 1000000 in
theorem Xu5:(ingP (openP [] 1) [annA] awR).es= [0,0,16,0]:=by decide +kernel
theorem Xh2:(Tryz.prog.info? 156).map (fun i=>(i.zero,i.size,i.bytes))=some (some (.agg #[.string ⟨#[]⟩,.int .i64 0,.int .i64 0,.int .i64 0]),4,40):=by kernel_rfl
set_option maxRecDepth 100000 in
set_option maxHeartbeats 400000 in
theorem Xl2 (I:IH) (v:Value) (l:List _) (hv:RdS tCk I v l) (w:World) (hw:Ok I w) (hbig:l.length*40≤140737488355328):
 Calls Tryz.prog 105 #[v] w fun e w'=> ∃v',e= .returned v'∧OwnS tCk 156 I w' w.heap.size v' l∧Below w.heap.size w w':=by
 obtain ⟨i0,hi,hz0,hz1,hz2⟩:=info_parts Xh2
 have q22:∀(w:World) (a:Option Addr) (n c n' c':Nat),(binOp .eql 38 (.slice a n c) (.slice none n' c')).run Tryz.prog w= .ok (.bool a.isNone) w:=fun w a n c n' c'=>Lib.run_eql_slice_nil w _ _ a n c n' c' Tryz.underlying38
 obtain ⟨ao,cap,xs,rfl,hcap,hcm,hL,hx⟩:=hv.cells hw (by decide)
 have HL:=Qh hL
 have Hx:=Qh hx
 clear hL hx hv
 cases ao with
 |none=>
  have h0:l.length=0:=by
   rcases Nat.eq_zero_or_pos l.length with h|h
   ·exact h
   ·obtain ⟨b,off,arr,e,_⟩:=Hx.out h;cases e
  have:l= []:=List.eq_nil_of_length_eq_zero h0
  subst this
  go_enter Tryz.func105,Tryz.ntmps105
  go_wp2
  go_ret
  exact ⟨_,rfl,OwnS.nil _ _ _ _ _,Qb _ _⟩
 |some a=>
  go_enter Tryz.func105,Tryz.ntmps105
  go_wp2_with (at_builtin;refine wpList_append_own _ rfl _ _ 38 rfl w.heap.size 156 i0 _ 4 40 Tryz.underlying38 hi hz0 hz1 hz2 rfl (by decide) _ _ _ rfl (World.ownsRow_made w #[] 0 (Qn _) (Nat.zero_le _) (by simp)) a l.length cap xs rfl ?qc1 ?qc2 ?qc3 ?qc4 ?qc5 ?qc6 ?_)
  case qc1=>exact HL.out.1
  case qc2=>
   intro j u hj
   have hl:0<l.length:=by
    have:=(List.getElem?_eq_some_iff.1 hj).1
    rw [HL.out.1] at this
    rcases Nat.eq_zero_or_pos l.length with h|h
    ·rw [h] at this;omega
    ·exact h
   obtain ⟨b,off,arr,e,_,hb,hc⟩:=Hx.out hl
   cases e
   rw [Addr.add_lit]
   rw [World.cell?_alloc_lt _ _ _ hb]
   exact hc j u hj
  case qc3=>exact HL.out.oneCell
  case qc4=>rw [Nat.zero_add];omega
  case qc5=>rw [Nat.zero_add];exact hbig
  case qc6=>simp
  intro v' w1 hown hgrow _
  go_wp2
  go_ret
  refine ⟨v',rfl,⟨xs,(by have hq:=hown;first|exact hq|(simp at hq;exact hq)),HL.out⟩,?_⟩
  exact ((Qb _ w).alloc (Qn _) _).grown hgrow (by simp) (by intro k hk;simp [Value.ownBlock] at hk;omega)
theorem mlaw:Go.Maps.Keyed Tryz.prog 9:=Go.Maps.string_keyed Tryz.underlying9
theorem mkey (p:Bytes) (hp:p.length≤4294967280):keyOf Tryz.prog 9 (S p)=some (.string p):=by
 have h:=Go.WideMaps.keyOf_string_mk (P:=Tryz.prog) Tryz.underlying9 (s:=⟨p.toArray⟩) (by rw [ByteArray.size_mk',List.size_toArray];unfold maxLen;omega)
 simpa using h
def xDat (x:Xt):DataW Unit:= .agg [.lit (.int .i64 x.s),.lit (.int .i64 x.o),.lit (.int .i64 x.n)]
def xElem (v:Value):Option (DataW Unit × List MemPlace):=
 match v with
 | .agg a=>match a.toList with
   | [.int .i64 s,.int .i64 o,.int .i64 n]=>some (xDat ⟨s,o,n⟩,[])
   |_=>none
 |_=>none
theorem Xha (x:Xt):xElem (xtW x)=some (xDat x,[]):=rfl
theorem Xnk {v:Value} {z:DataW Unit × List MemPlace} (h:xElem v=some z):∃x,v=xtW x∧z=(xDat x,[]):=by
 unfold xElem at h
 split at h
 ·rename_i a
  split at h
  ·rename_i s o n e
   refine ⟨⟨s,o,n⟩,?_,(Option.some.inj h).symm⟩
   rw [←Array.toArray_toList (xs:=a),e]
  ·cases h
 ·cases h
theorem Xkz {x y:Xt} (h:xDat x=xDat y):x=y:=by
 unfold xDat at h
 cases x
 cases y
 simp at h
 obtain ⟨rfl,rfl,rfl⟩:=h
 rfl
def MapX (D:DataW Unit) (l:List Ck):Prop:= ∀p:Bytes,(findX l p=none→Go.Maps.has D (.string p)=false)∧ ∀x,findX l p=some x→Go.Maps.has D (.string p)=true∧ ∀z,D.atKey (.string p) z=xDat x
theorem Xqz:MapX (.map []) []:=fun _=>⟨fun _=>rfl,fun _ h=>(by cases h)⟩
theorem Xg1 (l:List Ck) (c:Ck) (p:Bytes):findX (l++ [c]) p=match findX l p with|some x=>some x|none=>if c.d=p then some c.x else none:=by
 induction l with
 |nil=>rfl
 |cons a l ih=>
  rw [List.cons_append,findX,findX]
  by_cases h:a.d=p
  ·rw [if_pos h,if_pos h]
  ·rw [if_neg h,if_neg h,ih]
theorem Xqy {D:DataW Unit} {l:List Ck} (h:MapX D l) {c:Ck} {y:Xt} (hc:findX l c.d=some y):MapX D (l++ [c]):=fun p=>by
 have hp:=h p
 rw [Xg1]
 cases hf:findX l p with
 |some x=>rw [hf] at hp;exact hp
 |none=>
  rw [hf] at hp
  have hne:c.d≠p:=fun e=>by rw [e,hf] at hc;cases hc
  dsimp only
  rw [if_neg hne]
  exact hp
theorem Xlf {D:DataW Unit} {l:List Ck} (h:MapX D l) (hD:Go.Maps.IsMap D) {c:Ck} (hc:findX l c.d=none):MapX (D.put (.string c.d) (xDat c.x)) (l++ [c]):=fun p=>by
 have hp:=h p
 rw [Xg1]
 by_cases hne:c.d=p
 ·subst hne
  rw [hc]
  dsimp only
  rw [if_pos rfl]
  refine ⟨fun e=>(by cases e),fun x hx=> ?_⟩
  cases hx
  exact ⟨Go.Maps.has_put_same hD (show WideAt.IsKeyLit (.string c.d) from trivial) _,fun z=>Go.Maps.atKey_put_same hD (show WideAt.IsKeyLit (.string c.d) from trivial) _ z⟩
 ·have hk:(Lit.string p)≠ .string c.d:=by intro e;cases e;exact hne rfl
  rw [Go.Maps.has_put_other hk]
  cases hf:findX l p with
  |some x=>
   rw [hf] at hp
   refine ⟨fun e=>(by cases e),fun y hy=>⟨(hp.2 y hy).1,fun z=> ?_⟩⟩
   rw [Go.Maps.atKey_put_other hk]
   exact (hp.2 y hy).2 z
  |none=>
   rw [hf] at hp
   dsimp only
   rw [if_neg hne]
   exact ⟨fun _=>hp.1 rfl,fun x hx=>(by cases hx)⟩
theorem Xuv (w:World):(zeroValue 109).run Tryz.prog w= .ok (xtW ⟨0,0,0⟩) w:=by kernel_rfl
theorem Xuf {W:World} {B n:Nat} {D:DataW Unit} {l:List Ck} (h:W.ownsMap Tryz.prog 9 xElem B n D) (hM:MapX D l) {p:Bytes} (hp:p.length≤4294967280):
 (Instr.lookup 195 (.map (some B)) (S p) true).run Tryz.prog W= .ok (.tuple #[xtW (findR l p).1,.bool (findR l p).2]) W:=by
 obtain ⟨v,ps,h1,h2⟩:=h.look_ok mlaw Tryz.underlying195 (Xuv W) (Xha ⟨0,0,0⟩) (mkey p hp)
 obtain ⟨x,rfl,hx⟩:=Xnk h2
 have hx:=(Prod.mk.inj hx).1
 rw [h1]
 unfold findR
 cases hf:findX l p with
 |none=>
  have k:=(hM p).1 hf
  rw [Go.Maps.atKey_of_not_has k] at hx
  rw [k,←Xkz hx]
 |some y=>
  obtain ⟨k1,k2⟩:=(hM p).2 y hf
  rw [k2] at hx
  rw [k1,←Xkz hx]
set_option maxRecDepth 100000 in
set_option maxHeartbeats 2000000 in
theorem Xrh (I:IH) (s:Sto) (vc:Value) (hv:RdS tCk I vc s.cks) (hn:s.cks.length≤10000000) (hd:∀c∈s.cks,c.d.length≤32) (w:World) (hw:Ok I w):
 Calls Tryz.prog 148 #[stoV s vc] w fun e w'=> ∃B D,e= .returned (.map (some B))∧w.heap.size≤B∧w'.ownsMap Tryz.prog 9 xElem B s.cks.length D∧MapX D s.cks∧Below w.heap.size w w':=by
 have hmm:= @run_makeMap Tryz.prog
 obtain ⟨ao,cap,rfl,_,_,_⟩:=id hv
 have Hv:=Qh hv
 have Hd:=Qh hd
 have b0:Below w.heap.size w (w.alloc (.cells #[.slice ao s.cks.length cap,.int .i64 s.ses,S s.str] 40)):=(Qb _ _).alloc (Qn _) _
 have Hm0:=Qh (show ((w.alloc (.cells #[.slice ao s.cks.length cap,.int .i64 s.ses,S s.str] 40)).alloc (.map #[] 0)).ownsMap Tryz.prog 9 xElem (w.heap.size+1) 0 (.map []) by
  have:=World.ownsMap_made (H:=Unit) (w.alloc (.cells #[.slice ao s.cks.length cap,.int .i64 s.ses,S s.str] 40)) Tryz.prog 9 xElem
  rwa [World.size_alloc] at this)
 have hb0:Below w.heap.size w ((w.alloc (.cells #[.slice ao s.cks.length cap,.int .i64 s.ses,S s.str] 40)).alloc (.map #[] 0)):=b0.alloc b0.size _
 have hok0:Ok I ((w.alloc (.cells #[.slice ao s.cks.length cap,.int .i64 s.ses,S s.str] 40)).alloc (.map #[] 0)):=(hw.alloc _).alloc _
 have hIB:I (w.heap.size+1)=none:=hw.fresh (by omega)
 obtain ⟨B,hB⟩:∃B,w.heap.size+1=B:=⟨_,rfl⟩
 clear hv hd b0
 go_enter Tryz.func148,Tryz.ntmps148
 go_wp2
 rw [hB] at Hm0 hIB
 generalize hW:((w.alloc (.cells #[.slice ao s.cks.length cap,.int .i64 s.ses,S s.str] 40)).alloc (.map #[] 0))=W0 at Hm0 hb0 hok0 ⊢
 clear hW hmm
 go_loopw [12] (fun s12 wr=> ∃(k:Nat) (D:DataW Unit),k≤s.cks.length∧s12= .int .i64 k∧wr.ownsMap Tryz.prog 9 xElem B k D∧MapX D (s.cks.take k)∧Ok I wr∧Below w.heap.size w wr) (fun i _=>s.cks.length-(intOf i).toNat)
 case atStart=>exact ⟨0,_,Nat.zero_le _,rfl,Hm0.out,Xqz,hok0,hb0⟩
 case round=>
  clear Hm0 hok0 hb0
  obtain ⟨k,D,hk,rfl,hown,hmap,hok,hb⟩:=hrel
  have Hown:=Qh hown
  have Hmap:=Qh hmap
  clear hown hmap
  by_cases hlt:k<s.cks.length
  ·obtain ⟨c,b,off,cap',hlc,hvv,x0,x1,x2,x3⟩:=ckAt Hv.out hok k hlt
   cases hvv
   have hcd:=Hd.out c (by rw [←hlc];exact List.getElem_mem hlt)
   have Htk:=Qh (show s.cks.take (k+1)=s.cks.take k++ [c] by rw [List.take_succ_eq_append_getElem hlt,hlc])
   have o1:=Hown.out.alloc (.cells #[S c.d,.int .i64 c.x.s,.int .i64 c.x.o,.int .i64 c.x.n] 156)
   have hlk:=Xuf o1 Hmap.out (p:=c.d) (by omega)
   have b1:=hb.alloc hb.size (.cells #[S c.d,.int .i64 c.x.s,.int .i64 c.x.o,.int .i64 c.x.n] 156)
   cases hf:findX (s.cks.take k) c.d with
   |some y=>
    have hfr:findR (s.cks.take k) c.d=(y,true):=by unfold findR;rw [hf]
    rw [hfr] at hlk
    have Hn:=Qh (show MapX D (s.cks.take (k+1)) by rw [Htk.out];exact Xqy Hmap.out hf)
    clear hf hfr hlc o1 Htk
    go_wp2
    go_roundw
    case rel=>exact ⟨k+1,D,by omega,by go_num,((Hown.out.alloc _).alloc _).mono (by omega),Hn.out,(hok.alloc _).alloc _,b1.alloc b1.size _⟩
    case measure=>simp [intOf];omega
   |none=>
    have hfr:findR (s.cks.take k) c.d=(⟨0,0,0⟩,false):=by unfold findR;rw [hf]
    rw [hfr] at hlk
    have o2:=o1.alloc (.cells #[.int .i64 0,.int .i64 0,.int .i64 0] 109)
    have Hn:=Qh (show MapX (D.put (.string c.d) (xDat c.x)) (s.cks.take (k+1)) by rw [Htk.out];exact Xlf Hmap.out Hown.out.isMap hf)
    have Hkey:=Qh (mkey c.d (by omega))
    have hok2:=(hok.alloc (.cells #[S c.d,.int .i64 c.x.s,.int .i64 c.x.o,.int .i64 c.x.n] 156)).alloc (.cells #[.int .i64 0,.int .i64 0,.int .i64 0] 109)
    have b2:=b1.alloc b1.size (.cells #[.int .i64 0,.int .i64 0,.int .i64 0] 109)
    have Ho2:=Qh o2
    clear hf hfr hlc o1 o2 Htk
    go_wp2_with (first
     |(at_mapUpdate;refine wpList_mapUpdate_own _ rfl _ _ _ 195 rfl 9 109 mlaw Tryz.underlying195 xElem B k D rfl Ho2.out (by unfold maxLen;omega) _ _ _ rfl rfl Hkey.out _ [] (Xha c.x) ?_)
     |go_in)
    intro w3 ho3 hg3
    go_wp2
    go_roundw
    case rel=>exact ⟨k+1,_,by omega,by go_num,ho3,Hn.out,hok2.grown hg3 (fun g e=>by cases e;exact hIB),b2.grown hg3 b2.size (fun g e=>by cases e;omega)⟩
    case measure=>simp [intOf];omega
  ·have Hn:=Qh (show MapX D s.cks by have:=Hmap.out;rwa [List.take_of_length_le (by omega)] at this)
   have hks:k=s.cks.length:=by omega
   subst hks
   go_wp2
   go_ret
   exact ⟨B,D,rfl,by omega,Hown.out,Hn.out,hb⟩
structure MAt (I:IH) (w0:World) (J:IH) (W:World):Prop where
 ok:Ok J W
 keep:∀b c,I b=some c→J b=some c
 bel:Below w0.heap.size w0 W
section
variable {I J J':IH} {w0 W W':World}
theorem MAt.start (h:Ok I w0):MAt I w0 I w0:=⟨h,fun _ _ h=>h,Qb _ _⟩
theorem MAt.quiet (h:MAt I w0 J W) (hb:Below W.heap.size W W'):MAt I w0 J W':=⟨h.ok.below (Qn _) hb,h.keep,h.bel.trans (hb.mono h.bel.size)⟩
theorem MAt.past (h:MAt I w0 J W) (o:Obj):MAt I w0 J (W.alloc o):=h.quiet ((Qb _ _).alloc (Qn _) o)
theorem MAt.ext (h:MAt I w0 J W) (hb:Below W.heap.size W W') (hx:Ext W.heap.size J J') (hok:Ok J' W'):MAt I w0 J' W':=
 ⟨hok,fun b c hc=>hx.keep h.ok (Qn _) b c (h.keep b c hc),h.bel.trans (hb.mono h.bel.size)⟩
theorem MAt.size (h:MAt I w0 J W):w0.heap.size≤W.heap.size:=h.bel.size
end
theorem Xl3 {W:World} {k:Nat} {c:Array Value} {e:TypeId} {f:Nat × Nat} {row:Option Nat} (hk:W.heap[k]? =some (.cells c e f)) (hr:∀r,row=some r→ ∃o:Obj,W.heap[r]? =some o∧o.isCells=false):row≠some k:=by
 intro e'
 obtain ⟨o,ho,hc⟩:=hr k e'
 rw [hk] at ho
 cases ho
 cases hc
theorem Below.turn {n:Nat} {w W W':World} {row:Option Nat} {B:Nat} (h:Below n w W) (hn:n≤w.heap.size) (hB:n≤B) (hg:W.grownBy W' row) (hr:∀r,row=some r→B≤r∧ ∃o:Obj,W.heap[r]? =some o∧o.isCells=false):Below n w W':=
 h.grown hg (Nat.le_trans hn h.size) (fun k e=>Nat.le_trans hB (hr k e).1)
theorem KeepsFrom.setCellK {B:Nat} (W:World) (p:Addr) (u:Value):KeepsFrom B W (W.setCell p u):=(KeepsOthers.setCell W p u).from B
theorem Xk6 {W W':World} {k:Nat} {c:Array Value} {e:TypeId} {f:Nat × Nat} {row:Option Nat} (h:W.heap[k]? =some (.cells c e f)) (hg:W.grownBy W' row) (hr:∀r,row=some r→ ∃o:Obj,W.heap[r]? =some o∧o.isCells=false):W'.heap[k]? =some (.cells c e f):=
 (hg.block k (Array.getElem?_eq_some_iff.1 h).1 (fun e'=>Xl3 h hr e'.symm)).trans h
theorem Xa1 {α:Type} {T:Ty α} {I:IH} {F:Fence} {nF:Nat} {P:Program} {ts te:TypeId} {bytes:Nat} (hE:ElemOk P ts te T bytes) {w0:World} {ops:Array Oper} {rest:List Oper} {o:Oper} {a:Act} {Q:Exit→Act→World→Prop} (hgd:o.guard=none) (s x:Operand)
 (ho:o.op= .call { callee:= .builtin .append,args:= #[s,x],argTypes:= #[ts,ts] }) (B:Nat) (v:Value) (l:List α) (hs:a.eval s=v) (hown:OwnS T te I w0 B v l)
 (y:α) (cs:List Value) (tb:TypeId) (hx:a.eval x= .slice (some ⟨w0.heap.size,0,none⟩) 1 1) (hy:T.rd I cs y) (hbig:(l.length+1)*bytes≤140737488355328) (hl:l.length+1≤9223372036854775807) (hB:B≤w0.heap.size)
 (h:∀v' w',OwnS T te I w' B v' (l++ [y])→w0.grownBy w' v.ownBlock→(∀g,v'.ownBlock=some g→v.ownBlock=some g∨w0.heap.size≤g)→wpListIn F nF P ops Q rest (a.put o.dst v') w'):wpListIn F nF P ops Q (o::rest) a (w0.alloc (.cells cs.toArray tb)):=by
 obtain ⟨i,z,h1,h2,h3,h4,h5,h6,h7⟩:=hE
 obtain ⟨xs,k1,k2⟩:=hown
 refine wpListIn_append_own_at (w0.alloc (.cells cs.toArray tb)) hgd s x ts ho B te i z T.size bytes h1 h2 h3 h4 h5 h6 h7 v l.length xs hs (k1.alloc _) ⟨w0.heap.size,0,none⟩ 1 1 cs hx (by rw [T.len hy,Nat.one_mul])
  (fun j u hu=>by rw [Addr.add_lit,Nat.zero_add,World.cell?_alloc_new];simpa using hu) (T.one hy) (by unfold maxLen;omega) hbig (by simp;omega) (fun v' w' r1 r2 _ r4=>h v' w' ⟨xs++cs,by rw [List.length_append];exact r1,k2.append (LiesL.one hy)⟩ ?_ ?_)
 ·exact ⟨r2.os,r2.tape,r2.output,by have:=r2.size;simp at this;omega,fun k hk hne=>(r2.block k (by simp;omega) hne).trans (Below.heap_alloc _ _ _ hk)⟩
 ·intro g hg
  rcases r4 with r4|r4
  ·exact .inl (r4▸hg)
  ·rw [r4] at hg
   simp at hg
   exact .inr (by omega)
theorem Xal {α:Type} {T:Ty α} {E:TypeId} {I:IH} {w:World} {B:Nat} {v:Value} {l:List α} (h:OwnS T E I w B v l) {g:Nat} (hg:v.ownBlock=some g):B≤g∧ ∃cur,w.heap[g]? =some (.cells cur E (0,0)):=by
 obtain ⟨xs,⟨_,h1⟩,_⟩:=h
 rcases h1 with ⟨h2,_⟩|⟨g',cap,cur,rfl,hB,hcur,_⟩
 ·rw [h2] at hg;cases hg
 ·have e:g'=g:=by simpa [Value.ownBlock] using hg
  subst e
  exact ⟨hB,cur,hcur⟩
theorem Xbg {α:Type} {T:Ty α} {E E':TypeId} {I:IH} {w:World} {B b:Nat} {v:Value} {l:List α} {c:Array Value} {f:Nat × Nat} (h:OwnS T E I w B v l) (hb:w.heap[b]? =some (.cells c E' f)) (hT:E'≠E):v.ownBlock≠some b:=fun e=>by
 obtain ⟨_,cur,hc⟩:=Xal h e
 rw [hb] at hc
 cases hc
 exact hT rfl
theorem KeepsFrom.own {α:Type} {T:Ty α} {E:TypeId} {I:IH} {W W':World} {B B':Nat} {v:Value} {l:List α} (h:OwnS T E I W B v l) (hg:W.grownBy W' v.ownBlock):KeepsFrom B' W W':=
 ⟨hg.size,fun k o _ hk ho=>(hg.block k (Array.getElem?_eq_some_iff.1 hk).1 (fun e=>by
   obtain ⟨_,cur,hc⟩:=Xal h e.symm
   rw [hk] at hc
   cases hc
   cases ho)).trans hk⟩
theorem OwnS.turn {α:Type} {T:Ty α} {E:TypeId} {I:IH} {W W':World} {B:Nat} {v:Value} {l:List α} {row:Option Nat} (h:OwnS T E I W B v l) (hg:W.grownBy W' row) (hr:∀r,row=some r→ ∃o:Obj,W.heap[r]? =some o∧o.isCells=false):OwnS T E I W' B v l:=by
 refine h.kept hg ?_
 cases hv:v.ownBlock with
 |none=>exact .inl rfl
 |some g=>
  obtain ⟨_,cur,hc⟩:=Xal h hv
  exact .inr fun e=>Xl3 hc hr e.symm
theorem Xcp {α:Type} {T:Ty α} {E:TypeId} {I:IH} {w:World} {B:Nat} {v:Value} {l:List α} (h:OwnS T E I w B v l):∃ao n cap,v= .slice ao n cap:=by
 obtain ⟨xs,h1,_⟩:=h
 rcases h1.2 with ⟨h,_⟩|⟨g,cap,cur,h,_⟩
 ·exact ⟨_,_,_,h⟩
 ·exact ⟨_,_,_,h⟩
theorem OwnS.stored {α:Type} {T:Ty α} {E:TypeId} {I:IH} {W:World} {B b:Nat} {v:Value} {l:List α} (h:OwnS T E I W B v l) (hv:v.ownBlock≠some b) (j:Nat) (u:Value):OwnS T E I (W.setCell ⟨b,j,none⟩ u) B v l:=
 h.kept (row:=some b) ⟨rfl,rfl,rfl,by simp,fun k _ hk=>heap_setCell_other W ⟨b,j,none⟩ k u (fun e=>hk (by simp [e]))⟩ (.inr hv)
def Feeds {α:Type} (F:Fence) (n:Nat) (P:Program) (g:Nat) (lb:Array Value) (encs:α→Array Value) (Bx:Nat) (Kp:World→World→Prop) (S:List α→Prop) (N:Nat) (w:World):Prop:=
 ∀(l:Nat) (J:List α→World→Prop) (W:World),Below w.heap.size w W→AbidesFrom W.heap.size J→(∀pre W' u,J pre W'→J pre (W'.setCell ⟨Bx,0,none⟩ u))→
  (∀pre x W1,J pre W1→pre.length<N→YieldAt F (n-1) P l (encs x) W1 fun e W'=>e= .returned (.bool true)∧J (pre++ [x]) W'∧Kp W1 W')→
  J [] W→CallsIn F n P g (#[.func (.yield l) #[] #[]]++lb) W fun e W'=>(∃v,e= .returned v)∧ ∃xs,S xs∧J xs W'
theorem Xnm {α:Type} {F:Fence} {n:Nat} {P:Program} {g:Operand} {ps:Array Tmp} {assign body:Code} {Q:Exit→Act→World→Prop} {a:Act} {w:World}
 (hro:F.round=none) (h1:1≤n) {gf:Nat} {lb:Array Value} (hg:a.eval g= .func (.func gf) #[] lb) (hFg:F.fn gf) (eg:∀args w,(callFunc gf args).run P w= .ok (.enter gf args) w)
 {encs:α→Array Value} {Bx:Nat} {Kp:World→World→Prop} {S:List α→Prop} {N:Nat} (hseq:Feeds F (n-1) P gf lb encs Bx Kp S N w) (hBx:Bx<w.heap.size)
 (hKt:∀ {A B C:World},Kp A B→Kp B C→Kp A C) (hKb:∀(W:World) (l:Nat) (o':Obj),w.heap.size≤l→Kp W (W.putObj l o')) (hps:∀x,(encs x).size=ps.size)
 (I:List α→World→Prop) (hI:OwnFrom w.heap.size I) (hIw:∀pre W u,I pre W→I pre (W.setCell ⟨Bx,0,none⟩ u)) (h0:I [] w) (a₁:α→Act)
 (hassign:∀(l:Nat) (x:α) (W:World) (K:Act→World→Prop),K (a₁ x) W→
   assign.wpIn (F.inRound l) (n-1-1) P (Exit.then K (fun _ _ _=>False)) { tmps:=(ps.zip (encs x)).foldl (fun t (p,v)=>t.setIfInBounds p v) a.tmps,defers:= [] } W)
 (hbody:∀(l:Nat) (pre:List α) (x:α) (W:World),I pre W→pre.length<N→body.wpIn (F.inRound l) (n-1-1) P (fun e _ W'=>e= .normal∧KeepsFrom w.heap.size W W'∧Kp W W'∧I (pre++ [x]) W') (a₁ x) W)
 (hdone:∀(D:Nat) (xs:List α) (W:World),w.heap.size≤D→S xs→I xs W→W.heap[D]? =some (.deferred (some []))→Q .normal { a with defers:= { target:= .collected D,args:= #[] }::a.defers } W):
 (Code.rangeFunc g ps assign body).wpIn F n P Q a w:=by
 refine wpIn_rangeFunc ?_
 intro fn hfn
 rw [hro]
 obtain ⟨rec,hrec⟩:∃rec:LoopState→Loop,rec=fun st=> { state:=st,pending:=none,fn,tmps:=a.tmps,params:=ps,assign,body,defers:=w.heap.size }:=⟨_,rfl⟩
 obtain ⟨L,hL⟩:∃L,w.heap.size+1=L:=⟨_,rfl⟩
 obtain ⟨W1,hW1⟩:∃W1,(w.alloc (.deferred (some []))).alloc (.loop (rec .ready))=W1:=⟨_,rfl⟩
 have hL1:W1.heap[L]? =some (.loop (rec .ready)):=by
  have:=World.alloc_heap_new (w.alloc (.deferred (some []))) (.loop (rec .ready))
  rw [World.size_alloc,hL,hW1] at this
  exact this
 have hD1:W1.heap[w.heap.size]? =some (.deferred (some [])):=by
  rw [←hW1]
  exact (Below.heap_alloc _ _ _ (by simp)).trans (World.alloc_heap_new w _)
 have hI1:I [] W1:=by rw [←hW1];exact hI.alloc _ (hI.alloc _ h0)
 have hb1:Below w.heap.size w W1:=by rw [←hW1];exact ((Qb _ w).alloc (Qn _) _).alloc (by simp) _
 have hz1:W1.heap.size=w.heap.size+2:=by rw [←hW1];simp
 refine ⟨L,[{ target:= .collected w.heap.size,args:= #[] }],W1,{ target:= .fn (.func gf) lb,args:= #[.func (.yield L) #[] #[]] },W1,gf,#[.func (.yield L) #[] #[]]++lb,W1,?_,?_,?_,?_,fun _=>h1,?_⟩
 ·rw [←hW1,←hL,hrec];exact run_enterLoop_outer _ _ _ _ _
 ·simp only [resolve,hg]
  simp [go_sem]
 ·intro f' hf'
  simp [Target.leads] at hf'
  subst hf'
  exact hFg
 ·simp [invoke,go_sem,eg]
 ·have hne:Bx≠L:=by omega
  have hne2:Bx≠w.heap.size:=by omega
  refine (hseq L (fun pre W=>I pre W∧W.heap[L]? =some (.loop (rec .ready))∧W.heap[w.heap.size]? =some (.deferred (some []))) W1 hb1 ?_ ?_ ?_ ⟨hI1,hL1,hD1⟩).mono ?_
  ·intro s A B row ⟨k1,k2,k3⟩ hg' hr
   have hr':∀r,row=some r→ ∃o:Obj,A.heap[r]? =some o∧o.isWalk=true:=fun r e=>(hr r e).2
   exact ⟨hI s A B row k1 hg' fun r e=>by obtain ⟨q1,o,q2,q3⟩:=hr r e;exact ⟨by omega,o,q2,Obj.not_cells_of_walk q3⟩,(grownBy_keeps hg' hr' k2 rfl).trans k2,(grownBy_keeps hg' hr' k3 rfl).trans k3⟩
  ·intro pre A u ⟨k1,k2,k3⟩
   exact ⟨hIw pre A u k1,(heap_setCell_other A ⟨Bx,0,none⟩ L u hne.symm).trans k2,(heap_setCell_other A ⟨Bx,0,none⟩ w.heap.size u hne2.symm).trans k3⟩
  ·rintro pre x W ⟨hi,hl,hk⟩ hlen
   have hlt:L<W.heap.size:=(Array.getElem?_eq_some_iff.1 hl).1
   have hy:=run_yield (P:=P) (args:=encs x) hl (by rw [hrec];exact hps x)
   rw [hrec] at hy
   have hb:=run_beginRound (P:=P) hl (by rw [hrec])
   obtain ⟨W2,hW2⟩:∃W2,W.putObj L (.loop { rec .ready with state:= .busy })=W2:=⟨_,rfl⟩
   rw [hW2] at hb
   have hl2:W2.heap[L]? =some (.loop { rec .ready with state:= .busy }):=by rw [←hW2];exact World.putObj_heap_same hlt
   have hk2:W2.heap[w.heap.size]? =some (.deferred (some [])):=by rw [←hW2];exact (World.putObj_heap_other (by omega)).trans hk
   have hp2:Kp W W2:=by rw [←hW2];exact hKb _ _ _ (by omega)
   have hi2:I pre W2:=by rw [←hW2];exact hI.putObj _ hi (by omega) hl rfl
   refine ⟨fn,_,assign,body,hy,roundIn_of_wpIn hfn (hassign _ x W _ ⟨_,hb,wpIn_mono (hbody L pre x W2 hi2 hlen) ?_⟩)⟩
   rintro e a3 W3 ⟨rfl,hk3,hp3,hi3⟩
   have hl3:=hk3.same _ _ (by omega) hl2 rfl
   have hd3:=hk3.same _ _ (Qn _) hk2 rfl
   have he:=run_endRound (P:=P) none hl3
   refine ⟨_,_,he,rfl,⟨hI.putObj _ hi3 (by omega) hl3 rfl,?_,(World.putObj_heap_other (by omega)).trans hd3⟩,hKt (hKt hp2 hp3) (hKb _ _ _ (by omega))⟩
   have:=World.putObj_heap_same (o:=Obj.loop { rec .ready with state:= .ready,pending:=none }) (Array.getElem?_eq_some_iff.1 hl3).1
   rw [hrec] at this ⊢
   exact this
  ·rintro e W2 ⟨⟨v,rfl⟩,xs,hS,hi,hl,hk⟩
   have he:=run_endLoop (P:=P) hl (by rw [hrec];simp)
   rw [hrec] at he
   exact ⟨none,_,he,hdone _ xs _ (Qn _) hS (hI.putObj _ hi (by omega) hl rfl) ((World.putObj_heap_other (by omega)).trans hk)⟩
structure Gr2 (w w':World) (row:Option Nat) (bo:Nat):Prop where
 os:w'.os=w.os
 tape:w'.tape=w.tape
 output:w'.output=w.output
 size:w.heap.size≤w'.heap.size
 block:∀k,k<w.heap.size→some k≠row→k≠bo→w'.heap[k]? =w.heap[k]?
section
variable {w w' w'':World} {row:Option Nat} {bo n:Nat}
theorem Gr2.of_grown (h:w.grownBy w' row) (bo:Nat):Gr2 w w' row bo:=⟨h.os,h.tape,h.output,h.size,fun k hk hr _=>h.block k hk hr⟩
theorem Gr2.set (h:Gr2 w w' row bo) (j:Nat) (u:Value):Gr2 w (w'.setCell ⟨bo,j,none⟩ u) row bo:=
 ⟨h.os,h.tape,h.output,by have:=h.size;simp;omega,fun k hk hr hb=>(heap_setCell_other w' ⟨bo,j,none⟩ k u hb).trans (h.block k hk hr hb)⟩
theorem Gr2.srow {g:Nat} (h:Gr2 w w' (some g) bo) (j:Nat) (u:Value):Gr2 w (w'.setCell ⟨g,j,none⟩ u) (some g) bo:=
 ⟨h.os,h.tape,h.output,by have:=h.size;simp;omega,fun k hk hr hb=>(heap_setCell_other w' ⟨g,j,none⟩ k u (fun e=>hr (by rw [show k=g from e]))).trans (h.block k hk hr hb)⟩
theorem Gr2.drew (h:Gr2 w w' row bo):Gr2 w w'.drew row bo:=⟨h.os,h.tape,h.output,h.size,h.block⟩
theorem Gr2.below (h:Gr2 w w' row bo) (hb:Below n w'' w) (hn:n≤w''.heap.size) (hr:∀g,row=some g→n≤g) (ho:n≤bo):Below n w'' w':=by
 have hg:∀k,k<n→w'.heap[k]? =w.heap[k]? :=fun k hk=>h.block k (by have:=hb.size;omega) (fun e=>by have:=hr k e.symm;omega) (by omega)
 exact ⟨h.os.trans hb.os,h.tape.trans hb.tape,h.output.trans hb.output,Nat.le_trans hb.size h.size,fun k hk=>(hg k hk).trans (hb.block k hk)⟩
end
def ColR (I:IH) (bo B:Nat) (w:World) (v:Value) (l:List Xt) (e:Ending) (w':World):Prop:=
 ∃u v',e= .returned u∧w'.heap[bo]? =some (.cells #[v'] 79 (0,0))∧OwnS tXt 109 I w' B v' l∧Gr2 w w' v.ownBlock bo∧ ∀g,v'.ownBlock=some g→v.ownBlock=some g∨w.heap.size≤g
set_option maxRecDepth 100000 in
set_option maxHeartbeats 2000000 in
theorem Xts (I:IH) (bo B:Nat) (v0:Value) (x:Xt) (w:World) (hv:OwnS tXt 109 I w B v0 []) (hbx:w.heap[bo]? =some (.cells #[v0] 79 (0,0))) (hB:B≤w.heap.size):
 Calls Tryz.prog 195 #[xtW x,.pointer (some ⟨bo,0,none⟩)] w (ColR I bo B w v0 (addX [] x)):=by
 have Hn:=Qh (Xl7 x)
 obtain ⟨ao,n,cap,hvv,hn0⟩:∃ao n cap,v0= .slice ao n cap∧n=0:=by
  obtain ⟨xs,h1,_⟩:=hv
  rcases h1.2 with ⟨h,_⟩|⟨g,cap,cur,h,_⟩
  ·exact ⟨_,_,_,h,rfl⟩
  ·exact ⟨_,_,_,h,rfl⟩
 subst hvv
 subst hn0
 have hbb:Below w.heap.size w (w.alloc (.cells #[.int .i64 x.s,.int .i64 x.o,.int .i64 x.n] 109)):=(Qb _ _).alloc (Qn _) _
 have c0:(w.alloc (.cells #[.int .i64 x.s,.int .i64 x.o,.int .i64 x.n] 109)).cell? ⟨w.heap.size,0,none⟩=some (.int .i64 x.s):=by simp
 have c1:(w.alloc (.cells #[.int .i64 x.s,.int .i64 x.o,.int .i64 x.n] 109)).cell? ⟨w.heap.size,1,none⟩=some (.int .i64 x.o):=by simp
 have c2:(w.alloc (.cells #[.int .i64 x.s,.int .i64 x.o,.int .i64 x.n] 109)).cell? ⟨w.heap.size,2,none⟩=some (.int .i64 x.n):=by simp
 have cb:(w.alloc (.cells #[.int .i64 x.s,.int .i64 x.o,.int .i64 x.n] 109)).cell? ⟨bo,0,none⟩=some (.slice ao 0 cap):=Xad _ ((cell_of_row w _ 0 _ _ _ hbx).trans rfl)
 have gb:=cell_regrown cb
 have Hbx:=Qh ((Below.heap_alloc w (.cells #[.int .i64 x.s,.int .i64 x.o,.int .i64 x.n] 109) _ (Array.getElem?_eq_some_iff.1 hbx).1).trans hbx)
 have Ha:=Qh (hv.alloc (.cells #[.int .i64 x.s,.int .i64 x.o,.int .i64 x.n] 109))
 clear hv hbx
 go_enter Tryz.func195,Tryz.ntmps195
 go_wp2_with fail
 generalize (w.alloc (.cells #[.int .i64 x.s,.int .i64 x.o,.int .i64 x.n] 109))=w1 at hbb c0 c1 c2 cb gb Ha Hbx ⊢
 refine wp_region_quiet_below (by kernel_rfl) (by kernel_rfl) ?_
 repeat (go_big_quiet_step ((fail)))
 refine wpQuiet_nil ?_
 intro w2 hwq
 have hb2:Below (w1).heap.size (w1) w2:=by
  obtain ⟨pq,rfl⟩:=hwq
  exact below_regrown _ _ _
 clear hwq
 have hbb2:=hbb.trans (hb2.mono hbb.size)
 replace Ha:=Qh (Ha.out.below hb2)
 replace Hbx:=Qh ((hb2.block _ (Array.getElem?_eq_some_iff.1 Hbx.out).1).trans Hbx.out)
 replace c0:=Xaa hb2 c0
 replace c1:=Xaa hb2 c1
 replace c2:=Xaa hb2 c2
 replace cb:=Xaa hb2 cb
 have fb:w2.frozen? ⟨bo,0,none⟩=false:=frozen_of_row w2 _ 0 _ _ Hbx.out
 have hB1:B≤w2.heap.size:=by have:=hbb2.size;omega
 have hne:(Value.slice ao 0 cap).ownBlock≠some bo:=fun e=>by
  obtain ⟨_,cur,hc⟩:=Xal Ha.out e
  rw [Hbx.out] at hc
  exact absurd (Obj.cells.inj (Option.some.inj hc)).2.1 (by decide)
 have hgr1:=Xbm hbb2 (Value.slice ao 0 cap).ownBlock
 go_wp2_with (at_builtin;refine Xa7 (w0:=w2) Xg9 rfl _ _ rfl B _ _ rfl Ha.out x (xtL x) _ rfl rfl (by (try simp only [List.length_nil]);omega) (by (try simp only [List.length_nil]);omega) hB1 ?_)
 intro v9 w9 hown9 hg9 hl9
 obtain ⟨a9,n9,k9,rfl⟩:=Xcp hown9
 have co9:=Xaf hg9 hne cb
 have fo9:=Xca hg9 hne cb fb
 have hgr:=Xb5 hgr1 hg9
 have hsz:=hgr1.size
 have hbx9:=(hg9.block _ (Array.getElem?_eq_some_iff.1 Hbx.out).1 (fun e=>hne e.symm)).trans Hbx.out
 go_wp2
 go_end0
 refine ⟨_,_,rfl,heap_setCell_same w9 bo 0 _ _ _ hbx9,(by rw [Hn.out];exact hown9.stored (Xbg hown9 hbx9 (by decide)) 0 _),(Gr2.of_grown hgr bo).set 0 _,fun g h=>(hl9 g h).imp id (fun h=>by omega)⟩
set_option maxRecDepth 100000 in
set_option maxHeartbeats 4000000 in
theorem Xtr (I:IH) (bo B:Nat) (v0:Value) (l:List Xt) (x:Xt) (w:World) (hv:OwnS tXt 109 I w B v0 l) (hbx:w.heap[bo]? =some (.cells #[v0] 79 (0,0))) (hB:B≤w.heap.size) (h0:0<l.length) (hn:l.length≤100000) (hl:∀z∈l,XB 1099511627776 z) (hx:XB 1099511627776 x):
 Calls Tryz.prog 195 #[xtW x,.pointer (some ⟨bo,0,none⟩)] w (ColR I bo B w v0 (addX l x)):=by
 have hbb:Below w.heap.size w (w.alloc (.cells #[.int .i64 x.s,.int .i64 x.o,.int .i64 x.n] 109)):=(Qb _ _).alloc (Qn _) _
 have c0:(w.alloc (.cells #[.int .i64 x.s,.int .i64 x.o,.int .i64 x.n] 109)).cell? ⟨w.heap.size,0,none⟩=some (.int .i64 x.s):=by simp
 have c1:(w.alloc (.cells #[.int .i64 x.s,.int .i64 x.o,.int .i64 x.n] 109)).cell? ⟨w.heap.size,1,none⟩=some (.int .i64 x.o):=by simp
 have c2:(w.alloc (.cells #[.int .i64 x.s,.int .i64 x.o,.int .i64 x.n] 109)).cell? ⟨w.heap.size,2,none⟩=some (.int .i64 x.n):=by simp
 have hv1:=hv.alloc (.cells #[.int .i64 x.s,.int .i64 x.o,.int .i64 x.n] 109)
 obtain ⟨g,cap,y,rfl,hcp,hy,hbg,hlt,y0,y1,y2,hfr⟩:=Xld hv1 h0
 have cb:(w.alloc (.cells #[.int .i64 x.s,.int .i64 x.o,.int .i64 x.n] 109)).cell? ⟨bo,0,none⟩=some (.slice (some ⟨g,0,none⟩) l.length cap):=Xad _ ((cell_of_row w _ 0 _ _ _ hbx).trans rfl)
 have gb:=cell_regrown cb
 have Hbx:=Qh ((Below.heap_alloc w (.cells #[.int .i64 x.s,.int .i64 x.o,.int .i64 x.n] 109) _ (Array.getElem?_eq_some_iff.1 hbx).1).trans hbx)
 have Ha:=Qh hv1
 have Happ:=Qh (fun h=>Xma (l:=l) (x:=x) hy h)
 have Hmrg:=Qh (fun h=>Xl8 (l:=l) (x:=x) hy h)
 have hyb:=hl y (Xek hy)
 unfold XB at hx hyb
 have Hy:=Qh hy
 clear hv hv1 hl hy hbx
 have i1:(0:Int)<(l.length:Int):=by omega
 have m1:IntKind.i64.wrap ((l.length:Int)-1)=((l.length-1:Nat):Int):=by rw [IntWalk.i64_in _ (by omega)];omega
 have m2:IntKind.i64.wrap (y.o+y.n)=y.o+y.n:=IntWalk.i64_in _ (by omega)
 have m3:(l.length:Int)-1=((l.length-1:Nat):Int):=by omega
 have i2:l.length-1<l.length:=by omega
 have i3:(0:Int)≤((l.length-1:Nat):Int):=by omega
 have g0:=cell_regrown y0
 have g1:=cell_regrown y1
 have g2:=cell_regrown y2
 have z0:=cell_regrown c0
 have z1:=cell_regrown c1
 have z2:=cell_regrown c2
 by_cases hs0:x.s=0
 ·have e1:(x.s != 0)=false:=by simpa using hs0
  have e2:(x.s==0)=true:=by simpa using hs0
  have Hn:=Qh (Happ.out (by rintro ⟨h,_⟩;exact h hs0))
  clear hs0 Happ Hmrg
  go_enter Tryz.func195,Tryz.ntmps195
  go_wp2_with fail
  generalize (w.alloc (.cells #[.int .i64 x.s,.int .i64 x.o,.int .i64 x.n] 109))=w1 at hbb c0 c1 c2 cb gb Ha Hbx y0 y1 y2 g0 g1 g2 z0 z1 z2 ⊢
  refine wp_region_quiet_below (by kernel_rfl) (by kernel_rfl) ?_
  repeat (go_big_quiet_step ((fail)))
  refine wpQuiet_nil ?_
  intro w2 hwq
  have hb2:Below (w1).heap.size (w1) w2:=by
   obtain ⟨pq,rfl⟩:=hwq
   exact below_regrown _ _ _
  clear hwq
  have hbb2:=hbb.trans (hb2.mono hbb.size)
  replace Ha:=Qh (Ha.out.below hb2)
  replace Hbx:=Qh ((hb2.block _ (Array.getElem?_eq_some_iff.1 Hbx.out).1).trans Hbx.out)
  replace c0:=Xaa hb2 c0
  replace c1:=Xaa hb2 c1
  replace c2:=Xaa hb2 c2
  replace cb:=Xaa hb2 cb
  have fb:w2.frozen? ⟨bo,0,none⟩=false:=frozen_of_row w2 _ 0 _ _ Hbx.out
  have hB1:B≤w2.heap.size:=by have:=hbb2.size;omega
  clear y0 y1 y2 g0 g1 g2 z0 z1 z2 gb
  have hne:(Value.slice (some ⟨g,0,none⟩) l.length cap).ownBlock≠some bo:=fun e=>by
   obtain ⟨_,cur,hc⟩:=Xal Ha.out e
   rw [Hbx.out] at hc
   exact absurd (Obj.cells.inj (Option.some.inj hc)).2.1 (by decide)
  have hgr1:=Xbm hbb2 (Value.slice (some ⟨g,0,none⟩) l.length cap).ownBlock
  go_wp2_with (at_builtin;refine Xa7 (w0:=w2) Xg9 rfl _ _ rfl B _ _ rfl Ha.out x (xtL x) _ rfl rfl (by (try simp only [List.length_nil]);omega) (by (try simp only [List.length_nil]);omega) hB1 ?_)
  intro v9 w9 hown9 hg9 hl9
  obtain ⟨a9,n9,k9,rfl⟩:=Xcp hown9
  have co9:=Xaf hg9 hne cb
  have fo9:=Xca hg9 hne cb fb
  have hgr:=Xb5 hgr1 hg9
  have hsz:=hgr1.size
  have hbx9:=(hg9.block _ (Array.getElem?_eq_some_iff.1 Hbx.out).1 (fun e=>hne e.symm)).trans Hbx.out
  go_wp2
  go_end0
  refine ⟨_,_,rfl,heap_setCell_same w9 bo 0 _ _ _ hbx9,(by rw [Hn.out];exact hown9.stored (Xbg hown9 hbx9 (by decide)) 0 _),(Gr2.of_grown hgr bo).set 0 _,fun g h=>(hl9 g h).imp id (fun h=>by omega)⟩
 have e1:(x.s != 0)=true:=by simpa using hs0
 have e2:(x.s==0)=false:=by simpa using hs0
 by_cases hss:y.s=x.s
 case neg=>
  have e3:(y.s==x.s)=false:=by simpa using hss
  have Hn:=Qh (Happ.out (by rintro ⟨_,h,_⟩;exact hss h))
  clear hs0 hss Happ Hmrg
  go_enter Tryz.func195,Tryz.ntmps195
  go_wp2_with fail
  generalize (w.alloc (.cells #[.int .i64 x.s,.int .i64 x.o,.int .i64 x.n] 109))=w1 at hbb c0 c1 c2 cb gb Ha Hbx y0 y1 y2 g0 g1 g2 z0 z1 z2 ⊢
  refine wp_region_quiet_below (by kernel_rfl) (by kernel_rfl) ?_
  repeat (go_big_quiet_step ((fail)))
  refine wpQuiet_nil ?_
  intro w2 hwq
  have hb2:Below (w1).heap.size (w1) w2:=by
   obtain ⟨pq,rfl⟩:=hwq
   exact below_regrown _ _ _
  clear hwq
  have hbb2:=hbb.trans (hb2.mono hbb.size)
  replace Ha:=Qh (Ha.out.below hb2)
  replace Hbx:=Qh ((hb2.block _ (Array.getElem?_eq_some_iff.1 Hbx.out).1).trans Hbx.out)
  replace c0:=Xaa hb2 c0
  replace c1:=Xaa hb2 c1
  replace c2:=Xaa hb2 c2
  replace cb:=Xaa hb2 cb
  have fb:w2.frozen? ⟨bo,0,none⟩=false:=frozen_of_row w2 _ 0 _ _ Hbx.out
  have hB1:B≤w2.heap.size:=by have:=hbb2.size;omega
  clear y0 y1 y2 g0 g1 g2 z0 z1 z2 gb
  have hne:(Value.slice (some ⟨g,0,none⟩) l.length cap).ownBlock≠some bo:=fun e=>by
   obtain ⟨_,cur,hc⟩:=Xal Ha.out e
   rw [Hbx.out] at hc
   exact absurd (Obj.cells.inj (Option.some.inj hc)).2.1 (by decide)
  have hgr1:=Xbm hbb2 (Value.slice (some ⟨g,0,none⟩) l.length cap).ownBlock
  go_wp2_with (at_builtin;refine Xa7 (w0:=w2) Xg9 rfl _ _ rfl B _ _ rfl Ha.out x (xtL x) _ rfl rfl (by (try simp only [List.length_nil]);omega) (by (try simp only [List.length_nil]);omega) hB1 ?_)
  intro v9 w9 hown9 hg9 hl9
  obtain ⟨a9,n9,k9,rfl⟩:=Xcp hown9
  have co9:=Xaf hg9 hne cb
  have fo9:=Xca hg9 hne cb fb
  have hgr:=Xb5 hgr1 hg9
  have hsz:=hgr1.size
  have hbx9:=(hg9.block _ (Array.getElem?_eq_some_iff.1 Hbx.out).1 (fun e=>hne e.symm)).trans Hbx.out
  go_wp2
  go_end0
  refine ⟨_,_,rfl,heap_setCell_same w9 bo 0 _ _ _ hbx9,(by rw [Hn.out];exact hown9.stored (Xbg hown9 hbx9 (by decide)) 0 _),(Gr2.of_grown hgr bo).set 0 _,fun g h=>(hl9 g h).imp id (fun h=>by omega)⟩
 have e3:(y.s==x.s)=true:=by simpa using hss
 by_cases hoo:y.o+y.n=x.o
 case neg=>
  have e4:(y.o+y.n==x.o)=false:=by simpa using hoo
  have Hn:=Qh (Happ.out (by rintro ⟨_,_,h⟩;exact hoo h))
  clear hs0 hss hoo Happ Hmrg
  go_enter Tryz.func195,Tryz.ntmps195
  go_wp2_with fail
  generalize (w.alloc (.cells #[.int .i64 x.s,.int .i64 x.o,.int .i64 x.n] 109))=w1 at hbb c0 c1 c2 cb gb Ha Hbx y0 y1 y2 g0 g1 g2 z0 z1 z2 ⊢
  refine wp_region_quiet_below (by kernel_rfl) (by kernel_rfl) ?_
  repeat (go_big_quiet_step ((fail)))
  refine wpQuiet_nil ?_
  intro w2 hwq
  have hb2:Below (w1).heap.size (w1) w2:=by
   obtain ⟨pq,rfl⟩:=hwq
   exact below_regrown _ _ _
  clear hwq
  have hbb2:=hbb.trans (hb2.mono hbb.size)
  replace Ha:=Qh (Ha.out.below hb2)
  replace Hbx:=Qh ((hb2.block _ (Array.getElem?_eq_some_iff.1 Hbx.out).1).trans Hbx.out)
  replace c0:=Xaa hb2 c0
  replace c1:=Xaa hb2 c1
  replace c2:=Xaa hb2 c2
  replace cb:=Xaa hb2 cb
  have fb:w2.frozen? ⟨bo,0,none⟩=false:=frozen_of_row w2 _ 0 _ _ Hbx.out
  have hB1:B≤w2.heap.size:=by have:=hbb2.size;omega
  clear y0 y1 y2 g0 g1 g2 z0 z1 z2 gb
  have hne:(Value.slice (some ⟨g,0,none⟩) l.length cap).ownBlock≠some bo:=fun e=>by
   obtain ⟨_,cur,hc⟩:=Xal Ha.out e
   rw [Hbx.out] at hc
   exact absurd (Obj.cells.inj (Option.some.inj hc)).2.1 (by decide)
  have hgr1:=Xbm hbb2 (Value.slice (some ⟨g,0,none⟩) l.length cap).ownBlock
  go_wp2_with (at_builtin;refine Xa7 (w0:=w2) Xg9 rfl _ _ rfl B _ _ rfl Ha.out x (xtL x) _ rfl rfl (by (try simp only [List.length_nil]);omega) (by (try simp only [List.length_nil]);omega) hB1 ?_)
  intro v9 w9 hown9 hg9 hl9
  obtain ⟨a9,n9,k9,rfl⟩:=Xcp hown9
  have co9:=Xaf hg9 hne cb
  have fo9:=Xca hg9 hne cb fb
  have hgr:=Xb5 hgr1 hg9
  have hsz:=hgr1.size
  have hbx9:=(hg9.block _ (Array.getElem?_eq_some_iff.1 Hbx.out).1 (fun e=>hne e.symm)).trans Hbx.out
  go_wp2
  go_end0
  refine ⟨_,_,rfl,heap_setCell_same w9 bo 0 _ _ _ hbx9,(by rw [Hn.out];exact hown9.stored (Xbg hown9 hbx9 (by decide)) 0 _),(Gr2.of_grown hgr bo).set 0 _,fun g h=>(hl9 g h).imp id (fun h=>by omega)⟩
 have e4:(y.o+y.n==x.o)=true:=by simpa using hoo
 have Hn:=Qh (Hmrg.out ⟨hs0,hss,hoo⟩)
 clear hs0 hss hoo Happ Hmrg
 go_enter Tryz.func195,Tryz.ntmps195
 go_wp2_with fail
 generalize (w.alloc (.cells #[.int .i64 x.s,.int .i64 x.o,.int .i64 x.n] 109))=w1 at hbb c0 c1 c2 cb gb Ha Hbx y0 y1 y2 g0 g1 g2 z0 z1 z2 ⊢
 refine wp_region_quiet_below (by kernel_rfl) (by kernel_rfl) ?_
 repeat (go_big_quiet_step ((fail)))
 refine wpQuiet_nil ?_
 intro w2 hwq
 have hb2:Below (w1).heap.size (w1) w2:=by
  obtain ⟨pq,rfl⟩:=hwq
  exact below_regrown _ _ _
 clear hwq
 have hbb2:=hbb.trans (hb2.mono hbb.size)
 replace Ha:=Qh (Ha.out.below hb2)
 replace Hbx:=Qh ((hb2.block _ (Array.getElem?_eq_some_iff.1 Hbx.out).1).trans Hbx.out)
 replace c0:=Xaa hb2 c0
 replace c1:=Xaa hb2 c1
 replace c2:=Xaa hb2 c2
 replace cb:=Xaa hb2 cb
 have fb:w2.frozen? ⟨bo,0,none⟩=false:=frozen_of_row w2 _ 0 _ _ Hbx.out
 have hB1:B≤w2.heap.size:=by have:=hbb2.size;omega
 replace y2:=Xaa hb2 y2
 obtain ⟨g',cap',y',hvv,_,hy',_,hlt',_,_,_,hfr'⟩:=Xld Ha.out h0
 cases hvv
 have hfr2:=hfr' ((l.length-1)*3+2)
 have m4:IntKind.i64.wrap (y.n+x.n)=y.n+x.n:=IntWalk.i64_in _ (by omega)
 have hgr1:=Xbm hbb2 (Value.slice (some ⟨g,0,none⟩) l.length cap).ownBlock
 clear y0 y1 g0 g1 g2 z0 z1 z2 gb hfr hfr' hy' hb2 c0 c1
 have hne:g≠bo:=fun e=>Xbg Ha.out Hbx.out (by decide) (by simp [Value.ownBlock,e])
 go_wp2_with fail
 go_big_region
 go_wp2
 refine bodyPost_ret (results_none rfl _ _ _) rfl ?_
 exact ⟨_,_,rfl,(heap_setCell_other _ ⟨g,(l.length-1)*3+2,none⟩ bo _ (by show bo≠g;omega)).trans Hbx.out,by rw [Hn.out];exact Xqv Ha.out Hy.out,(by first|exact (Gr2.of_grown hgr1 bo).srow _ _|exact ((Gr2.of_grown hgr1 bo).srow _ _).drew|exact (Gr2.of_grown hgr1 bo).drew.srow _ _),fun q hq=> .inl hq⟩
theorem Xpg (I:IH) (bo B:Nat) (v0:Value) (l:List Xt) (x:Xt) (w:World) (hv:OwnS tXt 109 I w B v0 l) (hbx:w.heap[bo]? =some (.cells #[v0] 79 (0,0))) (hB:B≤w.heap.size) (hn:l.length≤100000) (hl:∀z∈l,XB 1099511627776 z) (hx:XB 1099511627776 x):
 Calls Tryz.prog 195 #[xtW x,.pointer (some ⟨bo,0,none⟩)] w (ColR I bo B w v0 (addX l x)):=by
 cases l with
 |nil=>exact Xts I bo B v0 x w hv hbx hB
 |cons a l=>exact Xtr I bo B v0 (a::l) x w hv hbx hB (by simp) hn hl hx
set_option maxRecDepth 100000 in
theorem Xtq (bo:Nat) (v:Value) (w:World) (hc:w.cell? ⟨bo,0,none⟩=some v):Calls Tryz.prog 196 #[.pointer (some ⟨bo,0,none⟩)] w fun e w'=>e= .returned v∧w'=w:=by
 go_enter Tryz.func196,Tryz.ntmps196
 go_wp2
 go_ret
 exact ⟨rfl,rfl⟩
set_option maxRecDepth 100000 in
theorem Xjn (w:World):Calls Tryz.prog 149 #[] w fun e w'=>e= .returned (.tuple #[.func (.func 195) #[] #[.pointer (some ⟨w.heap.size,0,none⟩)],.func (.func 196) #[] #[.pointer (some ⟨w.heap.size,0,none⟩)]])∧w'=w.alloc (.cells #[.slice none 0 0] 79):=by
 go_enter Tryz.func149,Tryz.ntmps149
 go_wp2
 go_ret2
 exact ⟨rfl,rfl⟩
theorem Xag {P:Program} {o:Oper} {a:Act} {w:World} {K:Act→World→Prop} {Q:Exit→Act→World→Prop} (ty:TypeId) (x y:Operand) (ho:o.op= .store ty x y)
 (g off:Nat) (cs:List Value) (v:Value) (hx:a.eval x= .pointer (some ⟨g,off,none⟩)) (hy:a.eval y=v) (hv:v.cells=cs.toArray) (cur:Array Value) (tt:TypeId)
 (hg:w.heap[g]? =some (.cells cur tt (0,0))) (hfit:off+cs.length≤cur.size) (hi:(P.info? ty).map (·.size)=some cs.length) (h1:∀v∈cs,v.oneCell'=true)
 (h:K (a.put o.dst undef) (w.setRow g (over cur off cs))):o.wp P a w K Q:=by
 have hst:=run_storeCells_at (P:=P) g off tt cs 0 cur w hg (by simpa using hfit) h1
 have hsv:(storeVar ty ⟨g,off,none⟩ v).run P w= .ok () (w.setRow g (over cur off cs)):=by
  cases hq:P.info? ty with
  |none=>simp [hq] at hi
  |some i=>
   have hs:cs.length=i.size:=by simp [hq] at hi;omega
   simp only [Nat.add_zero] at hst
   simp [storeVar,sizeOf,typeInfo,hq,hv,hs,hst,over]
 unfold Oper.wp execOp
 simp only [ho,hx,hy,Instr.storeAt,Instr.sureAddr,Sem.run_bind,Sem.run_pure,Result.andThen_ok,hsv]
 exact h
theorem Xfq {w w' w'':World} {r:Option Nat} (h:w.grownBy w' r) (k:w'.grownBy w'' r):w.grownBy w'' r:=
 ⟨k.os.trans h.os,k.tape.trans h.tape,k.output.trans h.output,Nat.le_trans h.size k.size,fun i hi hr=>(k.block i (Nat.lt_of_lt_of_le hi h.size) hr).trans (h.block i hi hr)⟩
theorem Xan {s:Array Bool} {i:Nat} (h:s.size≤i):s.getD i false=false:=by
 rw [Array.getD_eq_getD_getElem?,Array.getElem?_eq_none h];rfl
theorem Xix {ops:Array Oper} {s:Array Bool} (h:Clo ops s) {k i:Nat} (hp:pathB ops [k,i]=true) (hun:s.getD i true=false):s.getD k false=false:=Xae h [i] hp rfl hun
theorem Xa3 {L M:List (Option Tmp × Value)} {s:Array Bool} {a:Act} (D:List Nat) (hl:L.length=M.length) (h:∀j,j ∉ D→L[j]? =M[j]?) (hoff:∀j∈D,s.getD j false=false):fillA L 0 s a=fillA M 0 s a:=
 Xc2 _ _ _ _ _ hl fun j hj=>by
  rw [Nat.zero_add] at hj
  exact h j (fun e=>by rw [hoff j e] at hj;cases hj)
theorem Xb9 {α:Type} {T:Ty α} {E:TypeId} {I:IH} {w:World} {B:Nat} {v:Value} {l:List α} (h:OwnS T E I w B v l):∃ao cap,v= .slice ao l.length cap:=by
 obtain ⟨xs,h1,_⟩:=h
 rcases h1.2 with ⟨h,h0⟩|⟨g,cap,cur,h,_⟩
 ·exact ⟨none,0,by rw [h,h0]⟩
 ·exact ⟨_,_,h⟩
structure RgC {Y:Type} (W:World) (jc ja:Nat) (Gc:Y→World→Prop) (Ga:Nat→World→Prop) (m:Nat × Y→Nat) (t:TypeId) (s1 s2 s3:Nat) (R1 R2 R3:Nat × Y→Array Value) (x:Nat × Y) (s:Array Bool) (w:World):Prop where
 off:s.getD s1 false=false→Below W.heap.size W w
 fc:s.getD jc false=true→s.getD s1 false=false→Gc x.2 w
 fa:s.getD ja false=true→s.getD s1 false=false→Ga x.1 w
 on:s.getD s1 false=true→ ∃wb,Below W.heap.size W wb∧Gc x.2 wb∧Ga x.1 wb∧wb.grownBy w (some (m x))∧
  w.heap[m x]? =some (.cells (if s.getD s3 false=true then R3 x else if s.getD s2 false=true then R2 x else R1 x) t (0,0))
section
variable {Y:Type} {W w w':World} {jc ja:Nat} {Gc:Y→World→Prop} {Ga:Nat→World→Prop} {m:Nat × Y→Nat} {t:TypeId} {s1 s2 s3:Nat} {R1 R2 R3:Nat × Y→Array Value} {x:Nat × Y} {s:Array Bool} {i:Nat}
theorem RgC.start (n:Nat) (x:Nat × Y):RgC W jc ja Gc Ga m t s1 s2 s3 R1 R2 R3 x (Array.replicate n false) { W with drawn:=W.drawn+1 }:=
 ⟨fun _=>(Qb _ _).drew,fun h=>(by rw [Xa5] at h;cases h),fun h=>(by rw [Xa5] at h;cases h),fun h=>(by rw [Xa5] at h;cases h)⟩
theorem RgC.pure (h:RgC W jc ja Gc Ga m t s1 s2 s3 R1 R2 R3 x s w) (hc:i≠jc) (ha:i≠ja) (h1:i≠s1) (h2:i≠s2) (h3:i≠s3):RgC W jc ja Gc Ga m t s1 s2 s3 R1 R2 R3 x (s.setIfInBounds i true) w:=by
 refine ⟨?_,?_,?_,?_⟩
 ·rw [getD_set_ne false h1];exact h.off
 ·rw [getD_set_ne false h1,getD_set_ne false hc];exact h.fc
 ·rw [getD_set_ne false h1,getD_set_ne false ha];exact h.fa
 ·rw [getD_set_ne false h1,getD_set_ne false h2,getD_set_ne false h3];exact h.on
theorem RgC.call (h:RgC W jc ja Gc Ga m t s1 s2 s3 R1 R2 R3 x s w) (hl:s.getD s1 false=false) (hb:Below w.heap.size w w') {y:Y} (hy:Gc y w') (hGa:∀k,Ga k w→Ga k w') (ha:jc≠ja) (h1:jc≠s1):
 RgC W jc ja Gc Ga m t s1 s2 s3 R1 R2 R3 (x.1,y) (s.setIfInBounds jc true) w':=by
 refine ⟨fun _=>(h.off hl).trans (hb.mono (h.off hl).size),fun _ _=>hy,?_,?_⟩
 ·rw [getD_set_ne false ha]
  exact fun q _=>hGa _ (h.fa q hl)
 ·rw [getD_set_ne false h1,hl]
  intro q
  cases q
theorem RgC.made (h:RgC W jc ja Gc Ga m t s1 s2 s3 R1 R2 R3 x s w) (hl:s.getD s1 false=false) (hb:Below w.heap.size w w') {k:Nat} (hk:Ga k w') (hGc:∀y,Gc y w→Gc y w') (hc:ja≠jc) (h1:ja≠s1):
 RgC W jc ja Gc Ga m t s1 s2 s3 R1 R2 R3 (k,x.2) (s.setIfInBounds ja true) w':=by
 refine ⟨fun _=>(h.off hl).trans (hb.mono (h.off hl).size),?_,fun _ _=>hk,?_⟩
 ·rw [getD_set_ne false hc]
  exact fun q _=>hGc _ (h.fc q hl)
 ·rw [getD_set_ne false h1,hl]
  intro q
  cases q
theorem RgC.put1 (h:RgC W jc ja Gc Ga m t s1 s2 s3 R1 R2 R3 x s w) (hun:s.getD s1 true=false) (hc:Gc x.2 w) (ha:Ga x.1 w) (h2:s.getD s2 false=false) (h3:s.getD s3 false=false) (hd:s1≠s2∧s1≠s3)
 {cur:Array Value} (hg:w.heap[m x]? =some (.cells cur t (0,0))) {R:Array Value} (hR:R=R1 x):RgC W jc ja Gc Ga m t s1 s2 s3 R1 R2 R3 x (s.setIfInBounds s1 true) (w.setRow (m x) R):=by
 have e:=Xaz (Xc9 hun)
 have hl:s.getD s1 false=false:=Xam hun
 refine ⟨fun q=>(by rw [e] at q;cases q),fun _ q=>(by rw [e] at q;cases q),fun _ q=>(by rw [e] at q;cases q),fun _=>⟨w,h.off hl,hc,ha,Xao,?_⟩⟩
 rw [getD_set_ne false hd.1,getD_set_ne false hd.2,h2,h3,hR]
 exact setRow_heap w (m x) cur _ t (0,0) hg
end
def RetQ (I:IH) (w:World) (q:Sto) (n:Int) (e:Ending) (w':World):Prop:=
 ∃vc' I',e= .returned (.tuple #[stoV q vc',.int .i64 n])∧Below w.heap.size w w'∧Ext w.heap.size I I'∧Ok I' w'∧RdS tCk I' vc' q.cks
abbrev bgL (n:Nat) (ao:Option Addr) (le cap:Nat) (ses:Int) (str:Bytes) (x:Nat × (Option Addr × Nat)):List (Option Tmp × Value):=
 [(some 7,.pointer (some ⟨n,0,none⟩)),(some 8,.slice ao le cap),(some 9,.slice x.2.1 le x.2.2),(some 10,.pointer (some ⟨n,1,none⟩)),(some 11,.int .i64 ses),(some 12,.pointer (some ⟨n,2,none⟩)),(some 13,S str),(some 14,.agg #[.slice x.2.1 le x.2.2,.int .i64 ses,S str]),(some 6,.pointer (some ⟨x.1,0,none⟩)),(none,undef)]
theorem Xav {n:Nat} {ao:Option Addr} {le cap:Nat} {ses:Int} {str:Bytes} {x:Nat × (Option Addr × Nat)}:ApartF (bgL n ao le cap ses str x):=by
 unfold ApartF
 simp
set_option maxRecDepth 100000 in
set_option maxHeartbeats 4000000 in
theorem Xly (I:IH) (s:Sto) (vc:Value) (hv:RdS tCk I vc s.cks) (hn:s.cks.length≤1000000000) (n:Int) (w:World) (hw:Ok I w):
 Calls Tryz.prog 62 #[stoV s vc,.int .i64 n] w (RetQ I w (beginP s n).1 (beginP s n).2):=by
 obtain ⟨ao,cap,rfl,_,_,_⟩:=id hv
 have Hcl:=Qh (fun w hw=>Xl2 I _ s.cks hv w hw (by omega))
 obtain ⟨W2,hW2⟩:∃W2,((w.alloc (.cells #[.slice ao s.cks.length cap,.int .i64 s.ses,S s.str] 40)).alloc (.cells #[.slice none 0 0,.int .i64 0,S []] 40))=W2:=⟨_,rfl⟩
 have hok2:Ok I W2:=by rw [←hW2];exact (hw.alloc _).alloc _
 have hsz2:W2.heap.size=w.heap.size+2:=by rw [←hW2];simp
 have Hr0:=Qh (show W2.heap[w.heap.size]? =some (.cells #[.slice ao s.cks.length cap,.int .i64 s.ses,S s.str] 40 (0,0)) by rw [←hW2];exact (Below.heap_alloc _ _ _ (by simp)).trans (heap_alloc_new w _))
 have Hr1:=Qh (show W2.heap[w.heap.size+1]? =some (.cells #[.slice none 0 0,.int .i64 0,S []] 40 (0,0)) by
  rw [←hW2]
  have h:=heap_alloc_new (w.alloc (.cells #[.slice ao s.cks.length cap,.int .i64 s.ses,S s.str] 40)) (.cells #[.slice none 0 0,.int .i64 0,S []] 40)
  simpa using h)
 have hb2:Below w.heap.size w W2:=by rw [←hW2];exact ((Qb _ _).alloc (Qn _) _).alloc (by simp) _
 have c0:W2.cell? ⟨w.heap.size,0,none⟩=some (.slice ao s.cks.length cap):=(cell_of_row _ _ 0 _ _ _ Hr0.out).trans rfl
 have c1:W2.cell? ⟨w.heap.size,1,none⟩=some (.int .i64 s.ses):=(cell_of_row _ _ 1 _ _ _ Hr0.out).trans rfl
 have c2:W2.cell? ⟨w.heap.size,2,none⟩=some (S s.str):=(cell_of_row _ _ 2 _ _ _ Hr0.out).trans rfl
 clear hv
 go_enter Tryz.func62,Tryz.ntmps62
 go_wp2_with fail
 refine Xak (X:=Nat × (Option Addr × Nat)) (bgL w.heap.size ao s.cks.length cap s.ses s.str) (RgC W2 2 8 (fun y w=>OwnS tCk 156 I w W2.heap.size (.slice y.1 s.cks.length y.2) s.cks) (fun k w=>w.heap[k]? =some (.cells #[.slice none 0 0,.int .i64 0,S []] 40 (0,0))∧W2.heap.size≤k) (fun x=>x.1) 40 9 211 212 (fun x=> #[.slice x.2.1 s.cks.length x.2.2,.int .i64 s.ses,S s.str]) (fun x=> #[.slice x.2.1 s.cks.length x.2.2,.int .i64 s.ses,S s.str]) (fun x=> #[.slice x.2.1 s.cks.length x.2.2,.int .i64 s.ses,S s.str])) (by kernel_rfl) (by kernel_rfl) ?_ ?_ ?_
 ·exact ⟨(0,default),RgC.start _ _⟩
 ·rintro x s' a' w' i hsz hcl ha hC hi
  obtain ⟨hun,oi,hoi,hall⟩:=mem_ready.1 hi
  rcases i with _|_|_|_|_|_|_|_|_|_|i
  rotate_left 10
  ·simp at hoi
  all_goals
   have hoj:=hoi
   simp at hoi
   subst hoi
   simp [Region.binds] at hall
  ·have e2:a'.tmps[2]?.getD undef= .pointer (some ⟨w.heap.size,0,none⟩):=Xbe ha (by simp)
   refine wpOp_step hoj (fun K' hK=> ?_)
   rw [if_pos (by rfl)]
   unfold Oper.wp
   simp [go_sem,e2,Oper.upon]
   exact hK _ _ ⟨x,Xac (d:=some 7) (v:= .pointer (some ⟨w.heap.size,0,none⟩)) Xav ha rfl hun,hC.pure (by decide) (by decide) (by decide) (by decide) (by decide)⟩
  ·have e7:a'.tmps[7]?.getD undef= .pointer (some ⟨w.heap.size,0,none⟩):=Xap (i:=0) Xav ha rfl (by first|simpa using hall|simp [hall]) (by simp)
   have hl:s'.getD 9 false=false:=Xae hcl [1] (by kernel_rfl) (by rfl) hun
   have cq:=Xaa (hC.off hl) c0
   refine wpOp_step hoj (fun K' hK=> ?_)
   rw [if_pos (by rfl)]
   unfold Oper.wp
   simp [go_sem,e7,cq,Oper.upon]
   exact hK _ _ ⟨x,Xac (d:=some 8) (v:= .slice ao s.cks.length cap) Xav ha rfl hun,hC.pure (by decide) (by decide) (by decide) (by decide) (by decide)⟩
  ·have e8:a'.tmps[8]?.getD undef= .slice ao s.cks.length cap:=Xap (i:=1) Xav ha rfl (by first|simpa using hall|simp [hall]) (by simp)
   have hl:s'.getD 9 false=false:=Xae hcl [2] (by kernel_rfl) (by rfl) hun
   have hokw:=hok2.below (Qn _) (hC.off hl)
   refine wpOp_step hoj (fun K' hK=> ?_)
   rw [if_pos (by rfl)]
   unfold Oper.wp
   simp [go_sem,e8,Oper.upon]
   refine (Hcl.out _ hokw).mono ?_
   rintro r4 w4 ⟨v7,rfl,ho,hb4⟩
   obtain ⟨a7,k7,rfl⟩:=Xb9 ho
   have ha:=ha.trans (Xa3 (L:=bgL w.heap.size ao s.cks.length cap s.ses s.str x) (M:=bgL w.heap.size ao s.cks.length cap s.ses s.str (x.1,(a7,k7))) [2,7] rfl (fun j hne=>by
    rcases j with _|_|_|_|_|_|_|_|_|_|j<;>first|rfl|(exact absurd (by decide) hne)|simp) (List.forall_mem_cons.2 ⟨Xam hun,List.forall_mem_cons.2 ⟨Xae hcl [2] (by kernel_rfl) (by rfl) hun,List.forall_mem_nil _⟩⟩))
   exact hK _ _ ⟨(x.1,(a7,k7)),Xac (d:=some 9) (v:= .slice (a7,k7).1 s.cks.length (a7,k7).2) Xav ha rfl hun,hC.call hl hb4 (ho.lower (hC.off hl).size) (fun k hk=>⟨(hb4.block _ (Array.getElem?_eq_some_iff.1 hk.1).1).trans hk.1,hk.2⟩) (by decide) (by decide)⟩
  ·have e2:a'.tmps[2]?.getD undef= .pointer (some ⟨w.heap.size,0,none⟩):=Xbe ha (by simp)
   refine wpOp_step hoj (fun K' hK=> ?_)
   rw [if_pos (by rfl)]
   unfold Oper.wp
   simp [go_sem,e2,Oper.upon]
   exact hK _ _ ⟨x,Xac (d:=some 10) (v:= .pointer (some ⟨w.heap.size,1,none⟩)) Xav ha rfl hun,hC.pure (by decide) (by decide) (by decide) (by decide) (by decide)⟩
  ·have e10:a'.tmps[10]?.getD undef= .pointer (some ⟨w.heap.size,1,none⟩):=Xap (i:=3) Xav ha rfl (by first|simpa using hall|simp [hall]) (by simp)
   have hl:s'.getD 9 false=false:=Xae hcl [4] (by kernel_rfl) (by rfl) hun
   have cq:=Xaa (hC.off hl) c1
   refine wpOp_step hoj (fun K' hK=> ?_)
   rw [if_pos (by rfl)]
   unfold Oper.wp
   simp [go_sem,e10,cq,Oper.upon]
   exact hK _ _ ⟨x,Xac (d:=some 11) (v:= .int .i64 s.ses) Xav ha rfl hun,hC.pure (by decide) (by decide) (by decide) (by decide) (by decide)⟩
  ·have e2:a'.tmps[2]?.getD undef= .pointer (some ⟨w.heap.size,0,none⟩):=Xbe ha (by simp)
   refine wpOp_step hoj (fun K' hK=> ?_)
   rw [if_pos (by rfl)]
   unfold Oper.wp
   simp [go_sem,e2,Oper.upon]
   exact hK _ _ ⟨x,Xac (d:=some 12) (v:= .pointer (some ⟨w.heap.size,2,none⟩)) Xav ha rfl hun,hC.pure (by decide) (by decide) (by decide) (by decide) (by decide)⟩
  ·have e12:a'.tmps[12]?.getD undef= .pointer (some ⟨w.heap.size,2,none⟩):=Xap (i:=5) Xav ha rfl (by first|simpa using hall|simp [hall]) (by simp)
   have hl:s'.getD 9 false=false:=Xae hcl [6] (by kernel_rfl) (by rfl) hun
   have cq:=Xaa (hC.off hl) c2
   refine wpOp_step hoj (fun K' hK=> ?_)
   rw [if_pos (by rfl)]
   unfold Oper.wp
   simp [go_sem,e12,cq,Oper.upon]
   exact hK _ _ ⟨x,Xac (d:=some 13) (v:=S s.str) Xav ha rfl hun,hC.pure (by decide) (by decide) (by decide) (by decide) (by decide)⟩
  ·have e9:a'.tmps[9]?.getD undef= .slice x.2.1 s.cks.length x.2.2:=Xap (i:=2) Xav ha rfl (by first|simpa using hall|simp [hall]) (by simp)
   have e11:a'.tmps[11]?.getD undef= .int .i64 s.ses:=Xap (i:=4) Xav ha rfl (by first|simpa using hall|simp [hall]) (by simp)
   have e13:a'.tmps[13]?.getD undef=S s.str:=Xap (i:=6) Xav ha rfl (by first|simpa using hall|simp [hall]) (by simp)
   refine wpOp_step hoj (fun K' hK=> ?_)
   rw [if_pos (by rfl)]
   unfold Oper.wp
   simp [go_sem,e9,e11,e13,Oper.upon]
   exact hK _ _ ⟨x,Xac (d:=some 14) (v:= .agg #[.slice x.2.1 s.cks.length x.2.2,.int .i64 s.ses,S s.str]) Xav ha rfl hun,hC.pure (by decide) (by decide) (by decide) (by decide) (by decide)⟩
  ·have hl:s'.getD 9 false=false:=Xae hcl [8] (by kernel_rfl) (by rfl) hun
   refine wpOp_step hoj (fun K' hK=> ?_)
   rw [if_pos (by rfl)]
   unfold Oper.wp
   simp [go_sem,Oper.upon]
   have ha:=ha.trans (Xa3 (L:=bgL w.heap.size ao s.cks.length cap s.ses s.str x) (M:=bgL w.heap.size ao s.cks.length cap s.ses s.str (w'.heap.size,x.2)) [8] rfl (fun j hne=>by
    rcases j with _|_|_|_|_|_|_|_|_|_|j<;>first|rfl|(exact absurd (by decide) hne)|simp) (List.forall_mem_cons.2 ⟨Xam hun,List.forall_mem_nil _⟩))
   exact hK _ _ ⟨(w'.heap.size,x.2),Xac (d:=some 6) (v:= .pointer (some ⟨w'.heap.size,0,none⟩)) Xav ha rfl hun,hC.made hl ((Qb _ _).alloc (Qn _) _) ⟨heap_alloc_new _ _,(hC.off hl).size⟩ (fun y hy=>hy.alloc _) (by decide) (by decide)⟩
  ·have e14:a'.tmps[14]?.getD undef= .agg #[.slice x.2.1 s.cks.length x.2.2,.int .i64 s.ses,S s.str]:=Xap (i:=7) Xav ha rfl (by first|simpa using hall|simp [hall]) (by simp)
   have e6:a'.tmps[6]?.getD undef= .pointer (some ⟨x.1,0,none⟩):=Xap (i:=8) Xav ha rfl (by first|simpa using hall|simp [hall]) (by simp)
   refine wpOp_step hoj (fun K' hK=> ?_)
   rw [if_pos (by rfl)]
   have hsc:s'.getD 2 false=true:=by first|simpa using hall|simp [hall]
   have hsa:s'.getD 8 false=true:=by first|simpa using hall|simp [hall]
   have hlo:s'.getD 9 false=false:=Xam hun
   have hrow:w'.heap[x.1]? =some (.cells _ 40 (0,0)):=(hC.fa hsa hlo).1
   refine Xag 40 _ _ rfl (x.1) 0 [.slice x.2.1 s.cks.length x.2.2,.int .i64 s.ses,S s.str] (.agg #[.slice x.2.1 s.cks.length x.2.2,.int .i64 s.ses,S s.str]) (by simp [Act.eval,e14,e6]) (by simp [Act.eval,e14,e6]) (by rfl) _ _ hrow (by simp) (by kernel_rfl) (by simp [Value.oneCell']) ?_
   exact hK _ _ ⟨x,Xac (d:=none) (v:=undef) Xav ha rfl hun,hC.put1 hun (hC.fc hsc hlo) (hC.fa hsa hlo) (Xan (by simp [hsz])) (Xan (by simp [hsz])) (by decide) hrow (by rfl)⟩
 ·rintro x s' a' w8 hup ha hC
  obtain ⟨wb,hbW,hGc,hGa,hgr,hrow⟩:=hC.on (hup 9 (by decide))
  simp only [ite_self] at hrow
  rw [Xa6 _ _ _ _ (fun i hi=>by rw [Nat.zero_add];exact hup i (by simpa using hi))] at ha
  subst ha
  simp only [fillAll,Act.put]
  obtain ⟨m,ao7,k7⟩:=x
  dsimp only at hGc hGa hgr hrow ⊢
  have hne:=Xbg hGc hGa.1 (by decide)
  have ho8:=hGc.kept hgr (.inr hne)
  have hm:w.heap.size+2≤m:=by have:=hGa.2;omega
  have hok8:Ok I w8:=(hok2.below (Qn _) hbW).grown hgr (fun g e=>by cases e;exact hw.fresh (by omega))
  have hbb:Below w.heap.size w w8:=(hb2.trans (hbW.mono hb2.size)).grown hgr (by have:=hbW.size;omega) (fun k e=>by cases e;omega)
  obtain ⟨J,hxJ,hokJ,hrJ,hJI⟩:=ho8.freeze hok8 (fun b hb=>hw.fresh (by omega))
  have HJ:=Qh (And.intro (hxJ.mono (show w.heap.size≤W2.heap.size by omega)) (And.intro hokJ hrJ))
  have hz:∀b,b<w.heap.size+2→w8.heap[b]? =W2.heap[b]? :=fun b hb=>(hgr.block _ (by have:=hbW.size;omega) (fun e=>by cases e;omega)).trans (hbW.block _ (by omega))
  have Hr8:=Qh ((hz (w.heap.size+1) (by omega)).trans Hr1.out)
  have hJm:J m=none:=by rw [hJI m hne];exact hw.fresh (by omega)
  have a1:w8.cell? ⟨w.heap.size,1,none⟩=some (.int .i64 s.ses):=(cell_of_row _ _ 1 _ _ _ ((hz w.heap.size (by omega)).trans Hr0.out)).trans rfl
  have d0:w8.cell? ⟨m,0,none⟩=some (.slice ao7 s.cks.length k7):=(cell_of_row _ _ 0 _ _ _ hrow).trans rfl
  have d1:w8.cell? ⟨m,1,none⟩=some (.int .i64 s.ses):=(cell_of_row _ _ 1 _ _ _ hrow).trans rfl
  have d2:w8.cell? ⟨m,2,none⟩=some (S s.str):=(cell_of_row _ _ 2 _ _ _ hrow).trans rfl
  have f0:=frozen_of_row w8 _ 0 _ _ hrow
  have f1:=frozen_of_row w8 _ 1 _ _ hrow
  have f2:=frozen_of_row w8 _ 2 _ _ hrow
  have g0:=frozen_of_row w8 _ 0 _ _ Hr8.out
  have g1:=frozen_of_row w8 _ 1 _ _ Hr8.out
  have g2:=frozen_of_row w8 _ 2 _ _ Hr8.out
  have k0:w8.cell? ⟨w.heap.size+1,0,none⟩=some (.slice none 0 0):=(cell_of_row _ _ 0 _ _ _ Hr8.out).trans rfl
  have k1:w8.cell? ⟨w.heap.size+1,1,none⟩=some (.int .i64 0):=(cell_of_row _ _ 1 _ _ _ Hr8.out).trans rfl
  have k2:w8.cell? ⟨w.heap.size+1,2,none⟩=some (S []):=(cell_of_row _ _ 2 _ _ _ Hr8.out).trans rfl
  have hne1:m≠w.heap.size+1:=by omega
  have hne2:w.heap.size+1≠m:=by omega
  have Hrm:=Qh hrow
  have Hi3:=Qh (show (Tryz.prog.info? 40).map (·.size)=some 3 by kernel_rfl)
  have hI1:I (w.heap.size+1)=none:=hw.fresh (by omega)
  have hJ1:J (w.heap.size+1)=none:=by rw [hxJ _ (by omega)];exact hI1
  clear hz hGc hGa hgr hrow hne ho8 hbW hC hup hxJ hokJ hrJ hJI c0 c1 c2 Hr0 Hr1 Hcl hok8
  by_cases h1:n<1
  ·have e1:decide (n<1)=true:=Qt h1
   have Hn:=Qh (show beginP s n=(s,2) by rw [beginP,if_pos (.inl h1)])
   clear h1
   go_wp2
   refine bodyPost_ret (v:= .tuple #[stoV s (.slice ao7 s.cks.length k7),.int .i64 2]) ?_ rfl ?_
   ·rw [results_cell_tmp rfl]
    simp [asAddr,run_loadVar_row _ (w.heap.size+1) 40 40 #[.slice ao7 s.cks.length k7,.int .i64 s.ses,S s.str] (0,0) _ (Xck Hr8.out) Tryz.underlying40 rfl Hi3.out]
   ·rw [Hn.out]
    exact ⟨_,J,rfl,((hbb.setCell (p:=⟨w.heap.size+1,0,none⟩) (Nat.le_succ _) _).setCell (p:=⟨w.heap.size+1,1,none⟩) (Nat.le_succ _) _).setCell (p:=⟨w.heap.size+1,2,none⟩) (Nat.le_succ _) _,HJ.out.1,((HJ.out.2.1.setCell hJ1 _).setCell hJ1 _).setCell hJ1 _,HJ.out.2.2⟩
  have e1:decide (n<1)=false:=Qf h1
  by_cases h2:255<n
  ·have e2:decide (255<n)=true:=Qt h2
   have Hn:=Qh (show beginP s n=(s,2) by rw [beginP,if_pos (.inr h2)])
   clear h1 h2
   go_wp2
   refine bodyPost_ret (v:= .tuple #[stoV s (.slice ao7 s.cks.length k7),.int .i64 2]) ?_ rfl ?_
   ·rw [results_cell_tmp rfl]
    simp [asAddr,run_loadVar_row _ (w.heap.size+1) 40 40 #[.slice ao7 s.cks.length k7,.int .i64 s.ses,S s.str] (0,0) _ (Xck Hr8.out) Tryz.underlying40 rfl Hi3.out]
   ·rw [Hn.out]
    exact ⟨_,J,rfl,((hbb.setCell (p:=⟨w.heap.size+1,0,none⟩) (Nat.le_succ _) _).setCell (p:=⟨w.heap.size+1,1,none⟩) (Nat.le_succ _) _).setCell (p:=⟨w.heap.size+1,2,none⟩) (Nat.le_succ _) _,HJ.out.1,((HJ.out.2.1.setCell hJ1 _).setCell hJ1 _).setCell hJ1 _,HJ.out.2.2⟩
  have e2:decide (255<n)=false:=Qf h2
  by_cases h3:n≤s.ses
  ·have e3:decide (n≤s.ses)=true:=Qt h3
   have Hn:=Qh (show beginP s n=(s,14) by rw [beginP,if_neg (by omega),if_pos h3])
   clear h1 h2 h3
   go_wp2
   refine bodyPost_ret (v:= .tuple #[stoV s (.slice ao7 s.cks.length k7),.int .i64 14]) ?_ rfl ?_
   ·rw [results_cell_tmp rfl]
    simp [asAddr,run_loadVar_row _ (w.heap.size+1) 40 40 #[.slice ao7 s.cks.length k7,.int .i64 s.ses,S s.str] (0,0) _ (Xck Hr8.out) Tryz.underlying40 rfl Hi3.out]
   ·rw [Hn.out]
    exact ⟨_,J,rfl,((hbb.setCell (p:=⟨w.heap.size+1,0,none⟩) (Nat.le_succ _) _).setCell (p:=⟨w.heap.size+1,1,none⟩) (Nat.le_succ _) _).setCell (p:=⟨w.heap.size+1,2,none⟩) (Nat.le_succ _) _,HJ.out.1,((HJ.out.2.1.setCell hJ1 _).setCell hJ1 _).setCell hJ1 _,HJ.out.2.2⟩
  have e3:decide (n≤s.ses)=false:=Qf h3
  have Hn:=Qh (show beginP s n=(⟨s.cks,n,[]⟩,0) by rw [beginP,if_neg (by omega),if_neg h3])
  clear h1 h2 h3
  have Hr8b:=Qh (show ((w8.setCell ⟨m,1,none⟩ (.int .i64 n)).setCell ⟨m,2,none⟩ (.string ⟨#[]⟩)).heap[w.heap.size+1]? =some (.cells #[.slice none 0 0,.int .i64 0,S []] 40 (0,0)) from (heap_setCell_other _ ⟨m,2,none⟩ _ _ (by show w.heap.size+1≠m;omega)).trans ((heap_setCell_other _ ⟨m,1,none⟩ _ _ (by show w.heap.size+1≠m;omega)).trans Hr8.out))
  go_wp2
  refine bodyPost_ret (v:= .tuple #[stoV ⟨s.cks,n,[]⟩ (.slice ao7 s.cks.length k7),.int .i64 0]) ?_ rfl ?_
  ·rw [results_cell_tmp rfl]
   simp [asAddr,run_loadVar_row _ (w.heap.size+1) 40 40 #[.slice ao7 s.cks.length k7,.int .i64 n,S []] (0,0) _ (Xck Hr8b.out) Tryz.underlying40 rfl Hi3.out]
  ·rw [Hn.out]
   exact ⟨_,J,rfl,((((hbb.setCell (p:=⟨m,1,none⟩) (by show w.heap.size≤m;omega) _).setCell (p:=⟨m,2,none⟩) (by show w.heap.size≤m;omega) _).setCell (p:=⟨w.heap.size+1,0,none⟩) (Nat.le_succ _) _).setCell (p:=⟨w.heap.size+1,1,none⟩) (Nat.le_succ _) _).setCell (p:=⟨w.heap.size+1,2,none⟩) (Nat.le_succ _) _,HJ.out.1,((((HJ.out.2.1.setCell hJm _).setCell hJm _).setCell hJ1 _).setCell hJ1 _).setCell hJ1 _,HJ.out.2.2⟩
end Go.Proofs.YtmdfjnhfhidmhaaGreatDoor
