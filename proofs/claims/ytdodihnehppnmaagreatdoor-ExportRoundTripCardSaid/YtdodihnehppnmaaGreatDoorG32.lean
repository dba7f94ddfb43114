/- Lemmas for the claim's theorem;conditions: as each says. -/
import Derived.Test.YtdodihnehppnmaaGreatDoorG31
import Derived.RangeFuncNested
import Derived.RangeFuncLeaves
import Derived.Shelf.Abstract
import Derived.OwnWalkIn
import Derived.TacticsInMore
import Derived.LoopNIn
import Derived.LoopIn
set_option maxHeartbeats 0
set_option maxRecDepth 100000
set_option linter.all false
namespace Go.Proofs.YtdodihnehppnmaaGreatDoor
open Go.RowKit
variable{W:World}{I:IH}{W':World}{L:List dm}{k n B:Nat}{c:Array Value}{f:Nat×Nat}{w:World}{x:dm}{e:ay}{b:Nat}{t:TypeId}
def QS(I:IH)(w:World)(s:kC)(e:Ending)(w':World):Prop:=
 ∃vt vh I',e= .returned (kS vt vh)∧Below w.heap.size w w'∧Ext w.heap.size I I'∧Ok I' w'∧bf bC I' vt s.aJ∧bf jq I' vh s.holds
structure ng (T:TypeId) (n:Nat) (J:IH) (W:World):Prop where
 row:W.heap[n]?=some (.cells #[.slice none 0 0,.slice none 0 0] T (0,0))
 free:J n=none
section
variable {T:TypeId} {n:Nat} {I J:IH} {W W':World}
theorem ng.lt(h:ng T n J W):n<W.heap.size:=(Qg h.row)
theorem ng.below(h:ng T n J W)(hb:Below W.heap.size W W'):ng T n J W':=⟨(hb.block _ h.lt).trans h.row,h.free⟩
theorem ng.past(h:ng T n J W)(o:Obj):ng T n J (W.alloc o):=h.below ((Qb _ _).alloc (Qn _) o)
theorem ng.ext(h:ng T n J W)(hb:Below W.heap.size W W')(hx:Ext W.heap.size J I):ng T n I W':=⟨(hb.block _ h.lt).trans h.row,(hx _ h.lt).trans h.free⟩
theorem ng.set2{m:Nat}{u v:Value}(h:ng T n J W)(hm:n≠m):ng T n J ((W.setCell ⟨m,0,none⟩ u).setCell ⟨m,1,none⟩ v):=
 ⟨(Below.heap_setCell _ _ _ _ hm).trans ((Below.heap_setCell _ _ _ _ hm).trans h.row),h.free⟩
end
def o8(l:List dm)(n:Int):List ay×Int:=if n<0∨(l.length:Int)<n then([],2)else((tY kZ (l.take n.toNat)).aJ,0)
def YT(l:List dm)(n:Int):List Ho:=if n<0∨(l.length:Int)<n then []else(tY kZ (l.take n.toNat)).holds
abbrev QT(x:Fp)(va vx:Value):List Value:=[.int .i64 x.s,.int .i64 x.d,.int .i64 x.e.ag,S x.e.af,va,S x.e.target,.int .i64 x.e.size,S x.e.aj,vx]
def anK:Ty Fp where
 size:=9
 rd:=fun I cs x=> ∃va vx,cs=QT x va vx∧bf kT I va x.e.ai∧bf mE I vx x.e.ak
 len:=fun⟨_,_,h,_⟩=>by rw[h];rfl
 one:=fun⟨va,vx,h,h1,h2⟩ u hu=>by
  rw[h]at hu;simp at hu;rcases hu with rfl|rfl|rfl|rfl|rfl|rfl|rfl|rfl|rfl<;>first|rfl|exact h1.one|exact h2.one
 mono:=fun hI ⟨va,vx,h,h1,h2⟩=>⟨va,vx,h,h1.mono hI,h2.mono hI⟩
section
variable {B nS:Nat} {J J':IH} {W W':World} {vo QU:Value} {out out':List Fp}
end
theorem YU{e:TypeId}{row:Option Nat}(hk:W.heap[k]?=some (.cells c e f))(hr:∀r,row=some r→ ∃o:Obj,W.heap[r]?=some o∧o.isCells=false):row≠some k:=by
 intro e';obtain⟨o,ho,hc⟩:=hr k e';rw[hk]at ho;cases ho;cases hc
theorem Ok.turn{row:Option Nat}(h:Ok I W)(hg:W.grownBy W' row)(hr:∀r,row=some r→ ∃o:Obj,W.heap[r]?=some o∧o.isCells=false):Ok I W':=fun b c hb=>by
 obtain⟨e,f,hh⟩:=h b c hb;exact⟨e,f,(hg.block b (Qg hh) (fun e'=>YU hh hr e'.symm)).trans hh⟩
theorem oN.turn{T:TypeId}{J:IH}{s:kC}{vt vh:Value}{row:Option Nat}(h:oN T n J W s vt vh)(hg:W.grownBy W' row)(hr:∀r,row=some r→ ∃o:Obj,W.heap[r]?=some o∧o.isCells=false):oN T n J W' s vt vh:=
 ⟨(hg.block n h.lt (fun e'=>YU h.row hr e'.symm)).trans h.row,h.aJ,h.holds,h.ok.turn hg hr,h.free⟩
theorem Below.turn{row:Option Nat}(h:Below n w W)(hn:n≤w.heap.size)(hB:n≤B)(hg:W.grownBy W' row)(hr:∀r,row=some r→B≤r∧ ∃o:Obj,W.heap[r]?=some o∧o.isCells=false):Below n w W':=
 h.grown hg (Nat.le_trans hn h.size) (fun k e=>Nat.le_trans hB (hr k e).1)
structure qI (n₀:Nat) (T:TypeId) (W W':World):Prop where
 below:Below n₀ W W'
 zh:∀(k:Nat) (c:Array Value) (f:Nat×Nat),W.heap[k]?=some (.cells c T f)→W'.heap[k]?=some (.cells c T f)
section
variable {n₀:Nat} {T:TypeId} {W W' W'':World}
theorem qI.refl(W:World):qI n₀ T W W:=⟨Qb _ _,fun _ _ _ h=>h⟩
theorem qI.trans(h:qI n₀ T W W')(k:qI n₀ T W' W''):qI n₀ T W W'':=⟨h.below.trans k.below,fun i c f hi=>k.zh i c f (h.zh i c f hi)⟩
theorem qI.of_below(hb:Below W.heap.size W W')(hn:n₀≤W.heap.size):qI n₀ T W W':=
 ⟨hb.mono hn,fun k _ _ h=>(hb.block k (Qg h)).trans h⟩
theorem qI.alloc(hn:n₀≤W.heap.size)(o:Obj):qI n₀ T W (W.alloc o):=qI.of_below ((Qb _ _).alloc (Qn _) o) hn
theorem qI.setCell{T':TypeId}(aZ:W.heap[n]?=some (.cells c T' f))(hT:T'≠T)(hn:n₀≤n)(j:Nat)(u:Value):qI n₀ T W (W.setCell ⟨n,j,none⟩ u):=
 ⟨(Qb n₀ W).setCell (p:=⟨n,j,none⟩) hn u,fun k c' f' h=>(Below.heap_setCell W ⟨n,j,none⟩ u k (fun e=>by
   have e':k=n:=by first|exact e|exact e.symm
   subst e';rw[aZ]at h;cases h;exact hT rfl)).trans h⟩
theorem qI.put(hn:n₀≤w.heap.size)(W:World)(l:Nat)(o o':Obj)(hl:w.heap.size≤l)(h:W.heap[l]?=some o)(hc:o.isCells=false)(hw:o.isWalk=false):qI n₀ T W (W.putObj l o'):=
 ⟨belowK_b hn W l o o' hl h hc hw,fun k c f hk=>by
   have cK:k≠l:=by
    intro e;subst e;rw[h]at hk;cases hk;cases hc
   exact(World.putObj_heap_other cK).trans hk⟩
end
theorem KeepsFrom.of_below(hb:Below W.heap.size W W'):KeepsFrom B W W':=⟨hb.size,fun k _ _ h _=>(hb.block k (Qg h)).trans h⟩
theorem KeepsFrom.yN(W:World)(p:Addr)(u:Value):KeepsFrom B W (W.setCell p u):=(KeepsOthers.setCell W p u).from B
structure YP where
 s:dm
 e:ay
 ve:Value
 va:Value
 vx:Value
structure YP.In (I:IH) (L:List dm) (y:YP):Prop where
 zh:y.s∈L
 g:kR y.s
 mem:y.e∈y.s.aH
 ve:bf bC I y.ve y.s.aH
 va:bf kT I y.va y.e.ai
 vx:bf mE I y.vx y.e.ak
abbrev YS(I:IH)(L:List dm):={y:YP // y.In I L}
def YS.key{I:IH}{L:List dm}(y:YS I L):dm×ay:=(y.1.s,y.1.e)
def YS.enc{I:IH}{L:List dm}(y:YS I L):Array Value:=#[uA y.1.s y.1.ve,eT y.1.e y.1.va y.1.vx]
def keys{I:IH}{L:List dm}(l:List (YS I L)):List (dm×ay):=l.map YS.key
theorem Xmw(l:List (YS I L))(y:YS I L):keys (l++[y])=keys l++[(y.1.s,y.1.e)]:=by simp[keys,YS.key]
theorem Xp2(l:List (YS I L)):(keys l).length=l.length:=by simp[keys]
theorem Xyx(l:List (YS I L)):∀q∈keys l,q.2.af.length≤300∧q.2.target.length≤300:=fun q hq=>by
 obtain⟨y,_,rfl⟩:=List.mem_map.1 hq;exact⟨y.2.g.af _ y.2.mem,y.2.g.target _ y.2.mem⟩
theorem Xrf{l:List dm}(hk:k<l.length)(hx:l[k]=x):pairs (l.take (k+1))=pairs (l.take k)++x.aH.map fun e=>(x,e):=by
 rw[List.take_succ_eq_append_getElem hk,hx];simp[pairs]
theorem Xwl(hk:k<x.aH.length)(he:x.aH[k]=e):(x.aH.take (k+1)).map (fun e=>(x,e))=(x.aH.take k).map (fun e=>(x,e))++[(x,e)]:=by
 rw[List.take_succ_eq_append_getElem hk,he];simp
theorem Xxz(l:List (YS I L)):zi l.length ((keys l).foldl A9 kZ):=by
 have:=Xqe (keys l) Ym (Xyx l);rw[Xp2,Nat.zero_add]at this;exact this
open Go.RowKit Go.Shelf
attribute [local go_sem] Oper.semAt_some
abbrev Ac(s:dm)(ve:Value):Array Value:=#[.int .i64 s.num,.int .i64 s.aT,S s.bP,ve,S s.aI,S s.sl]
theorem sesB_row{s:dm}{ve:Value}(h:W.heap[b]?=some (.cells (Ac s ve) t (0,0))):mY W b s ve:=
 ⟨(cell_of_row W _ 0 _ _ _ h).trans rfl,(cell_of_row W _ 1 _ _ _ h).trans rfl,(cell_of_row W _ 2 _ _ _ h).trans rfl,(cell_of_row W _ 3 _ _ _ h).trans rfl,(cell_of_row W _ 4 _ _ _ h).trans rfl,(cell_of_row W _ 5 _ _ _ h).trans rfl⟩
theorem entB_row{va vx:Value}(h:W.heap[b]?=some (.cells (aQ e va vx) t (0,0))):aW W b e va vx:=
 ⟨(cell_of_row W _ 0 _ _ _ h).trans rfl,(cell_of_row W _ 1 _ _ _ h).trans rfl,(cell_of_row W _ 2 _ _ _ h).trans rfl,(cell_of_row W _ 3 _ _ _ h).trans rfl,(cell_of_row W _ 4 _ _ _ h).trans rfl,(cell_of_row W _ 5 _ _ _ h).trans rfl,(cell_of_row W _ 6 _ _ _ h).trans rfl⟩
theorem Xov(n:Nat)(hn:1≤n)(I:IH)(v:Value)(L:List dm)(hv:bf oK I v L)(hg:∀x∈L,kR x)(hL:L.length≤1000)(l Bs n₀:Nat)(J Jx:List (YS I L)→World→Prop)
 (W:World) (hJ:AbidesFrom W.heap.size J)
 (hY:∀pre x W',J pre W'→pre.length<30000→YieldAt Fence.wide (n-1) Tryz.prog l x.enc W' fun e W''=>
   (e= .returned (.bool true)∧J (pre++[x]) W''∧qI n₀ 35 W' W'')∨(e= .returned (.bool false)∧Jx (pre++[x]) W''))
 (gK:Ok I W) (hI:∀b c,I b=some c→b<n₀) (eU:n₀≤W.heap.size) (qP:W.cell? ⟨Bs,0,none⟩=some v) (h0:J [] W):
 CallsIn Fence.wide n Tryz.prog 173 #[.func (.yield l) #[] #[],.pointer (some ⟨Bs,0,none⟩)] W fun e W'=>(∃v,e= .returned v)∧
  ((∃ys,keys ys=pairs L∧J ys W')∨(∃pre,True∧Jx pre W')):=by
 obtain⟨ao,cap,rfl,_,_,_⟩:=id hv;have Hv:=Qh hv;have Hg:=Qh hg;have HJ:=Qh hJ;have HY:=Qh hY;have kw:=Qh gK;have HI:=Qh hI;clear hv hg hJ hY gK hI;refine callsIn_of_wp Tryz.func173 rfl trivial ?_ rfl;simp only[Tryz.ntmps173,List.size_toArray,List.length_cons,List.length_nil,Nat.reduceAdd,Nat.reduceSub,Array.replicate_succ,Array.replicate_zero,List.push_toArray,List.append_toArray,List.nil_append,List.cons_append];gi_wp2
 gi_loopw [9] (fun s9 wr=> ∃(k:Nat) (pre:List (YS I L)),k≤L.length∧s9= .int .i64 k∧keys pre=pairs (L.take k)∧J pre wr∧qI n₀ 35 W wr) (fun i _=>L.length-(intOf i).toNat)
 case atStart=>exact⟨0,[],Nat.zero_le _,rfl,rfl,h0,qI.refl _⟩
 case round=>
  obtain⟨k,pre,hk,rfl,EW,hj,fE⟩:=hrel;have yO:=Qh EW;have Hj:=Qh hj;have Be:=Qh fE;have sW:Ok I wr:=kw.O.of_block fun b c hb=>fE.below.block b (HI.O b c hb);have Gt:W.heap.size≤wr.heap.size:=fE.below.size;clear EW hj fE;by_cases hlt:k<L.length
  ·obtain⟨x,ve,b,off,cap',bN,di,⟨c0,c1,c2,c3,c4,c5⟩,h1⟩:=Jc Hv.O sW k hlt;cases di;obtain⟨oe,ce,rfl,_,_,_⟩:=id h1;have QK:=Qh (show x∈L by rw[←bN];exact List.getElem_mem hlt);have Cb:=Qh (Hg.O x QK.O);have Li:=Qh h1;have Hpt:=Qh (Xrf hlt bN);have Lg:=Cb.O.qG;have Sc:=Qh (Xmk (l:=L.take k) fun y hy=>Hg.O y (List.mem_of_mem_take hy));have mh:=Qh (heap_alloc_new wr (.cells #[.int .i64 x.num,.int .i64 x.aT,S x.bP,.slice oe x.aH.length ce,S x.aI,S x.sl] 35));have Hj1:=Qh (HJ.O _ _ _ none Hj.O (World.grownBy_alloc wr (.cells #[.int .i64 x.num,.int .i64 x.aT,S x.bP,.slice oe x.aH.length ce,S x.aI,S x.sl] 35) none) (fun r h=>by cases h));have GZ:=Qh (Be.O.trans (qI.alloc (by omega) (.cells #[.int .i64 x.num,.int .i64 x.aT,S x.bP,.slice oe x.aH.length ce,S x.aI,S x.sl] 35)));have EX:wr.heap.size<(wr.alloc (.cells #[.int .i64 x.num,.int .i64 x.aT,S x.bP,.slice oe x.aH.length ce,S x.aI,S x.sl] 35)).heap.size:=by simp
   clear bN h1 Hj Be sW;gi_wp2
   clear c0 c1 c2 c3 c4 c5;generalize wr.heap.size=bx at mh EX Gt ⊢;gi_loopw [16] (fun s16 wq=> ∃(j:Nat) (pre:List (YS I L)),j≤x.aH.length∧s16= .int .i64 j∧keys pre=pairs (L.take k)++(x.aH.take j).map (fun e=>(x,e))∧J pre wq∧qI n₀ 35 W wq∧wq.heap[bx]?=some (.cells (Ac x (.slice oe x.aH.length ce)) 35 (0,0))) (fun i _=>x.aH.length-(intOf i).toNat)
   case atStart=>exact⟨0,pre,Nat.zero_le _,rfl,by rw[yO.O];simp,Hj1.O,GZ.O,mh.O⟩
   case round=>
    clear Hj1 GZ mh yO EX;obtain⟨j,pre',vX,rfl,EW,hj,fE,aZ⟩:=hrel;have yO:=Qh EW;have Hj:=Qh hj;have Be:=Qh fE;have mh:=Qh aZ;have sW:Ok I wr:=kw.O.of_block fun b c hb=>fE.below.block b (HI.O b c hb);have afy:W.heap.size≤wr.heap.size:=fE.below.size;clear EW hj fE aZ;by_cases Bi:j<x.aH.length
    ·obtain⟨y,YG,YH,b9,GX,Lj,iB,di,⟨x0,x1,x2,x3,x4,x5,x6⟩,h1,h2⟩:=oG Li.O sW j Bi;cases di;obtain⟨xa,xc,rfl,_,_,_⟩:=id h1;obtain⟨xx,xd,rfl,_,_,_⟩:=id h2;have Hmt:=Qh (Xwl (x:=x) Bi iB);have lW:YP.In I L ⟨x,y,.slice (some ⟨b9,GX,none⟩) x.aH.length ce,.slice xa y.ai.length xc,.slice xx y.ak.length xd⟩:=⟨QK.O,Cb.O,by rw[←iB];exact List.getElem_mem Bi,Li.O,h1,h2⟩;have mK:pre'.length<30000:=by
      have e1:=congrArg List.length yO.O;rw[Xp2,List.length_append,List.length_map,List.length_take]at e1;have e2:=Sc.O;rw[List.length_take]at e2;omega
     obtain⟨fn,tmps,assign,body,hy,hR⟩:=HY.O pre' ⟨_,lW⟩ (wr.alloc (.cells #[.int .i64 y.ag,S y.af,.slice xa y.ai.length xc,S y.target,.int .i64 y.size,S y.aj,.slice xx y.ak.length xd] 26)) (HJ.O _ _ _ none Hj.O (World.grownBy_alloc wr _ none) (fun r h=>by cases h)) mK;have NV:=Qh (show keys (pre'++[(⟨_,lW⟩:YS I L)])=pairs (L.take k)++(x.aH.take (j+1)).map (fun e=>(x,e)) by rw[Xmw,yO.O,Hmt.O,List.append_assoc]);dsimp only[YS.enc,uA,eT]at hy;generalize(⟨_,lW⟩:YS I L)=ys at hR NV;have Eo:(wr.alloc (.cells #[.int .i64 y.ag,S y.af,.slice xa y.ai.length xc,S y.target,.int .i64 y.size,S y.aj,.slice xx y.ak.length xd] 26)).heap[bx]?=_:=(Below.heap_alloc wr _ bx (Qg mh.O)).trans mh.O;have QV:=Qh Eo;obtain⟨c0,c1,c2,c3,c4,c5⟩:=sesB_row Eo;have GZ:=Qh (Be.O.trans (qI.alloc (by omega) (.cells #[.int .i64 y.ag,S y.af,.slice xa y.ai.length xc,S y.target,.int .i64 y.size,S y.aj,.slice xx y.ak.length xd] 26)));clear iB h1 h2 Eo lW mK yO Hj Be sW;gi_wp2
     refine hR.mono ?_;rintro e W3 (⟨rfl,hJ3,tL⟩|⟨rfl,aaG⟩)
     ·have HJ3:=Qh hJ3;have vO:=Qh (GZ.O.trans tL);have sD:=Qh (tL.zh _ _ _ QV.O);clear hJ3 tL hy c0 c1 c2 c3 c4 c5 x0 x1 x2 x3 x4 x5 x6;gi_wp2
      go_roundw;case rel=>exact⟨j+1,_,by omega,by go_num,NV.O,HJ3.O,vO.O,sD.O⟩
      case measure=>simp[intOf];omega
     ·gi_wp2
      refine bodyPost_ret (results_none rfl _ _ _) rfl ?_;exact⟨⟨_,rfl⟩,.inr ⟨_,trivial,aaG⟩⟩
    ·have NV:=Qh (show keys pre'=pairs (L.take (k+1)) by rw[yO.O,Hpt.O,List.take_of_length_le (show x.aH.length≤j by omega)]);gi_wp2
     go_roundw;case rel=>exact⟨k+1,_,by omega,by go_num,NV.O,Hj.O,Be.O⟩
     case measure=>simp[intOf];omega
  ·have NV:=Qh (show keys pre=pairs L by rw[yO.O,List.take_of_length_le (show L.length≤k by omega)]);gi_wp2
   go_end0
   exact⟨⟨_,rfl⟩,.inl ⟨_,NV.O,Hj.O⟩⟩
theorem Xrn(v:Value)(w:World)(h1:∃ao n c,v= .slice ao n c):
 Calls Tryz.prog 113 #[v] w fun e w'=>e= .returned (.func (.func 173) #[] #[.pointer (some ⟨w.heap.size,0,none⟩)])∧w'=w.alloc (.cells #[v] 22):=by
 obtain⟨ao,k,c,rfl⟩:=h1;go_enter Tryz.func113,Tryz.ntmps113
 go_wp2;go_ret;exact⟨rfl,rfl⟩
theorem Xwy(n:Nat)(hn:1≤n)(I:IH)(v:Value)(L:List dm)(hv:bf oK I v L)(hg:∀x∈L,kR x)(hL:L.length≤1000)(Bs n₀:Nat)(w:World)(gK:Ok I w)(hI:∀b c,I b=some c→b<n₀)(eU:n₀≤w.heap.size)(qP:w.cell? ⟨Bs,0,none⟩=some v):
 SeqStopsK Fence.wide n Tryz.prog 173 #[.pointer (some ⟨Bs,0,none⟩)] (fun x:YS I L=>x.enc) (qI n₀ 35) (fun ys=>keys ys=pairs L) (fun _=>True) 30000 w:=fun l J Jx W hW hJ _ hY h0=>
 Xov n hn I v L hv hg hL l Bs n₀ J Jx W hJ hY (gK.below (Qn _) hW) hI (Nat.le_trans eU hW.size) (dQ hW qP) h0
