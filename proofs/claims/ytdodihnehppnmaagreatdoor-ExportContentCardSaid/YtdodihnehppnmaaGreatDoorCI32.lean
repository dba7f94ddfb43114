/-
  Walks and laws that the claim's theorem uses: texts AfA AfC ItA ItB, joined; comments out. Conditions: as each theorem says.
-/
import Derived.Test.YtdodihnehppnmaaGreatDoorCI31
import Derived.RangeFuncNested
import Derived.RangeFuncLeaves
import Derived.Shelf.Abstract
import Derived.OwnWalkIn
import Derived.TacticsInMore
import Derived.LoopNIn
import Derived.LoopIn
set_option linter.all false
namespace Go.Proofs.YtdodihnehppnmaaGreatDoor
open Go.RowKit
def RetSt (I:IH) (w:World) (s:Stt) (e:Ending) (w':World):Prop:=
 ∃vt vh I',e= .returned (sttV vt vh)∧Below w.heap.size w w'∧Ext w.heap.size I I'∧Ok I' w'∧RdS tEnt I' vt s.tree∧RdS tHo I' vh s.holds
structure ResB (T:TypeId) (n:Nat) (J:IH) (W:World):Prop where
 row:W.heap[n]? =some (.cells #[.slice none 0 0,.slice none 0 0] T (0,0))
 free:J n=none
section
variable {T:TypeId} {n:Nat} {I J:IH} {W W':World}
theorem ResB.lt (h:ResB T n J W):n<W.heap.size:=(Array.getElem?_eq_some_iff.1 h.row).1
theorem ResB.below (h:ResB T n J W) (hb:Below W.heap.size W W'):ResB T n J W':=⟨(hb.block _ h.lt).trans h.row,h.free⟩
theorem ResB.past (h:ResB T n J W) (o:Obj):ResB T n J (W.alloc o):=h.below ((Qb _ _).alloc (Qn _) o)
theorem ResB.ext (h:ResB T n J W) (hb:Below W.heap.size W W') (hx:Ext W.heap.size J I):ResB T n I W':=⟨(hb.block _ h.lt).trans h.row,(hx _ h.lt).trans h.free⟩
theorem ResB.set2 {m:Nat} {u v:Value} (h:ResB T n J W) (hm:n≠m):ResB T n J ((W.setCell ⟨m,0,none⟩ u).setCell ⟨m,1,none⟩ v):=
 ⟨(Below.heap_setCell _ _ _ _ hm).trans ((Below.heap_setCell _ _ _ _ hm).trans h.row),h.free⟩
end
def treeR (l:List Ses) (n:Int):List Ent × Int:=if n<0∨(l.length:Int)<n then ([],2) else ((aftS nilS (l.take n.toNat)).tree,0)
def holdsR (l:List Ses) (n:Int):List Ho:=if n<0∨(l.length:Int)<n then [] else (aftS nilS (l.take n.toNat)).holds
abbrev verCs (x:Ver) (va vx:Value):List Value:= [.int .i64 x.s,.int .i64 x.d,.int .i64 x.e.kind,S x.e.path,va,S x.e.target,.int .i64 x.e.size,S x.e.digest,vx]
def tVer:Ty Ver where
 size:=9
 rd:=fun I cs x=> ∃va vx,cs=verCs x va vx∧RdS tAt I va x.e.attrs∧RdS tXt I vx x.e.exts
 len:=fun ⟨_,_,h,_⟩=>by rw [h];rfl
 one:=fun ⟨va,vx,h,h1,h2⟩ u hu=>by
  rw [h] at hu
  simp at hu
  rcases hu with rfl|rfl|rfl|rfl|rfl|rfl|rfl|rfl|rfl<;>first|rfl|exact h1.one|exact h2.one
 mono:=fun hI ⟨va,vx,h,h1,h2⟩=>⟨va,vx,h,h1.mono hI,h2.mono hI⟩
section
variable {B nS:Nat} {J J':IH} {W W':World} {vo vo':Value} {out out':List Ver}
end
theorem Xjs {W:World} {k:Nat} {c:Array Value} {e:TypeId} {f:Nat × Nat} {row:Option Nat} (hk:W.heap[k]? =some (.cells c e f)) (hr:∀r,row=some r→ ∃o:Obj,W.heap[r]? =some o∧o.isCells=false):row≠some k:=by
 intro e'
 obtain ⟨o,ho,hc⟩:=hr k e'
 rw [hk] at ho
 cases ho
 cases hc
theorem Ok.turn {I:IH} {W W':World} {row:Option Nat} (h:Ok I W) (hg:W.grownBy W' row) (hr:∀r,row=some r→ ∃o:Obj,W.heap[r]? =some o∧o.isCells=false):Ok I W':=fun b c hb=>by
 obtain ⟨e,f,hh⟩:=h b c hb
 exact ⟨e,f,(hg.block b (Array.getElem?_eq_some_iff.1 hh).1 (fun e'=>Xjs hh hr e'.symm)).trans hh⟩
theorem StM.turn {T:TypeId} {n:Nat} {J:IH} {W W':World} {s:Stt} {vt vh:Value} {row:Option Nat} (h:StM T n J W s vt vh) (hg:W.grownBy W' row) (hr:∀r,row=some r→ ∃o:Obj,W.heap[r]? =some o∧o.isCells=false):StM T n J W' s vt vh:=
 ⟨(hg.block n h.lt (fun e'=>Xjs h.row hr e'.symm)).trans h.row,h.tree,h.holds,h.ok.turn hg hr,h.free⟩
theorem Below.turn {n:Nat} {w W W':World} {row:Option Nat} {B:Nat} (h:Below n w W) (hn:n≤w.heap.size) (hB:n≤B) (hg:W.grownBy W' row) (hr:∀r,row=some r→B≤r∧ ∃o:Obj,W.heap[r]? =some o∧o.isCells=false):Below n w W':=
 h.grown hg (Nat.le_trans hn h.size) (fun k e=>Nat.le_trans hB (hr k e).1)
structure KpS (n₀:Nat) (T:TypeId) (W W':World):Prop where
 below:Below n₀ W W'
 ses:∀(k:Nat) (c:Array Value) (f:Nat × Nat),W.heap[k]? =some (.cells c T f)→W'.heap[k]? =some (.cells c T f)
section
variable {n₀:Nat} {T:TypeId} {W W' W'':World}
theorem KpS.refl (W:World):KpS n₀ T W W:=⟨Qb _ _,fun _ _ _ h=>h⟩
theorem KpS.trans (h:KpS n₀ T W W') (k:KpS n₀ T W' W''):KpS n₀ T W W'':=⟨h.below.trans k.below,fun i c f hi=>k.ses i c f (h.ses i c f hi)⟩
theorem KpS.of_below (hb:Below W.heap.size W W') (hn:n₀≤W.heap.size):KpS n₀ T W W':=
 ⟨hb.mono hn,fun k _ _ h=>(hb.block k (Array.getElem?_eq_some_iff.1 h).1).trans h⟩
theorem KpS.alloc (hn:n₀≤W.heap.size) (o:Obj):KpS n₀ T W (W.alloc o):=KpS.of_below ((Qb _ _).alloc (Qn _) o) hn
theorem KpS.setCell {n:Nat} {c:Array Value} {T':TypeId} {f:Nat × Nat} (hrow:W.heap[n]? =some (.cells c T' f)) (hT:T'≠T) (hn:n₀≤n) (j:Nat) (u:Value):KpS n₀ T W (W.setCell ⟨n,j,none⟩ u):=
 ⟨(Qb n₀ W).setCell (p:=⟨n,j,none⟩) hn u,fun k c' f' h=>(Below.heap_setCell W ⟨n,j,none⟩ u k (fun e=>by
   have e':k=n:=by first|exact e|exact e.symm
   subst e'
   rw [hrow] at h
   cases h
   exact hT rfl)).trans h⟩
theorem KpS.put {w:World} (hn:n₀≤w.heap.size) (W:World) (l:Nat) (o o':Obj) (hl:w.heap.size≤l) (h:W.heap[l]? =some o) (hc:o.isCells=false) (hw:o.isWalk=false):KpS n₀ T W (W.putObj l o'):=
 ⟨belowK_b hn W l o o' hl h hc hw,fun k c f hk=>by
   have hne:k≠l:=by
    intro e
    subst e
    rw [h] at hk
    cases hk
    cases hc
   exact (World.putObj_heap_other hne).trans hk⟩
end
theorem KeepsFrom.of_below {B:Nat} {W W':World} (hb:Below W.heap.size W W'):KeepsFrom B W W':=⟨hb.size,fun k _ _ h _=>(hb.block k (Array.getElem?_eq_some_iff.1 h).1).trans h⟩
theorem KeepsFrom.setCellK {B:Nat} (W:World) (p:Addr) (u:Value):KeepsFrom B W (W.setCell p u):=(KeepsOthers.setCell W p u).from B
structure YP where
 s:Ses
 e:Ent
 ve:Value
 va:Value
 vx:Value
structure YP.In (I:IH) (L:List Ses) (y:YP):Prop where
 ses:y.s∈L
 g:SesG y.s
 mem:y.e∈y.s.ents
 ve:RdS tEnt I y.ve y.s.ents
 va:RdS tAt I y.va y.e.attrs
 vx:RdS tXt I y.vx y.e.exts
abbrev YS (I:IH) (L:List Ses):= { y:YP // y.In I L }
def YS.key {I:IH} {L:List Ses} (y:YS I L):Ses × Ent:=(y.1.s,y.1.e)
def YS.enc {I:IH} {L:List Ses} (y:YS I L):Array Value:= #[sesV y.1.s y.1.ve,entV y.1.e y.1.va y.1.vx]
def keys {I:IH} {L:List Ses} (l:List (YS I L)):List (Ses × Ent):=l.map YS.key
theorem Xku {I:IH} {L:List Ses} (l:List (YS I L)) (y:YS I L):keys (l++ [y])=keys l++ [(y.1.s,y.1.e)]:=by simp [keys,YS.key]
theorem Xnt {I:IH} {L:List Ses} (l:List (YS I L)):(keys l).length=l.length:=by simp [keys]
theorem Xuy {I:IH} {L:List Ses} (l:List (YS I L)):∀q∈keys l,q.2.path.length≤300∧q.2.target.length≤300:=fun q hq=>by
 obtain ⟨y,_,rfl⟩:=List.mem_map.1 hq
 exact ⟨y.2.g.path _ y.2.mem,y.2.g.target _ y.2.mem⟩
theorem Xox {l:List Ses} {k:Nat} (hk:k<l.length) {x:Ses} (hx:l[k]=x):pairs (l.take (k+1))=pairs (l.take k)++x.ents.map fun e=>(x,e):=by
 rw [List.take_succ_eq_append_getElem hk,hx]
 simp [pairs]
theorem Xsv {x:Ses} {k:Nat} (hk:k<x.ents.length) {e:Ent} (he:x.ents[k]=e):(x.ents.take (k+1)).map (fun e=>(x,e))=(x.ents.take k).map (fun e=>(x,e))++ [(x,e)]:=by
 rw [List.take_succ_eq_append_getElem hk,he]
 simp
theorem Xtz {I:IH} {L:List Ses} (l:List (YS I L)):SIn l.length ((keys l).foldl stq nilS):=by
 have:=Xn4 (keys l) Xpq (Xuy l)
 rw [Xnt,Nat.zero_add] at this
 exact this
end Go.Proofs.YtdodihnehppnmaaGreatDoor
namespace Go.Proofs.YtdodihnehppnmaaGreatDoor
open Go.RowKit Go.Shelf
attribute [local go_sem] Oper.semAt_some
abbrev sesRow (s:Ses) (ve:Value):Array Value:= #[.int .i64 s.num,.int .i64 s.date,S s.prev,ve,S s.stream,S s.sl]
theorem sesB_row {W:World} {b:Nat} {s:Ses} {ve:Value} {t:TypeId} (h:W.heap[b]? =some (.cells (sesRow s ve) t (0,0))):SesB W b s ve:=
 ⟨(cell_of_row W _ 0 _ _ _ h).trans rfl,(cell_of_row W _ 1 _ _ _ h).trans rfl,(cell_of_row W _ 2 _ _ _ h).trans rfl,(cell_of_row W _ 3 _ _ _ h).trans rfl,(cell_of_row W _ 4 _ _ _ h).trans rfl,(cell_of_row W _ 5 _ _ _ h).trans rfl⟩
theorem entB_row {W:World} {b:Nat} {e:Ent} {va vx:Value} {t:TypeId} (h:W.heap[b]? =some (.cells (entRow e va vx) t (0,0))):EntB W b e va vx:=
 ⟨(cell_of_row W _ 0 _ _ _ h).trans rfl,(cell_of_row W _ 1 _ _ _ h).trans rfl,(cell_of_row W _ 2 _ _ _ h).trans rfl,(cell_of_row W _ 3 _ _ _ h).trans rfl,(cell_of_row W _ 4 _ _ _ h).trans rfl,(cell_of_row W _ 5 _ _ _ h).trans rfl,(cell_of_row W _ 6 _ _ _ h).trans rfl⟩
set_option maxRecDepth 100000 in
set_option maxHeartbeats 4000000 in
theorem Xmp (n:Nat) (hn:1≤n) (I:IH) (v:Value) (L:List Ses) (hv:RdS tSes I v L) (hg:∀x∈L,SesG x) (hL:L.length≤1000) (l Bs n₀:Nat) (J Jx:List (YS I L)→World→Prop)
 (W:World) (hJ:AbidesFrom W.heap.size J)
 (hY:∀pre x W',J pre W'→pre.length<30000→YieldAt Fence.wide (n-1) Tryz.prog l x.enc W' fun e W''=>
   (e= .returned (.bool true)∧J (pre++ [x]) W''∧KpS n₀ 35 W' W'')∨(e= .returned (.bool false)∧Jx (pre++ [x]) W''))
 (hok:Ok I W) (hI:∀b c,I b=some c→b<n₀) (hsz:n₀≤W.heap.size) (hBs:W.cell? ⟨Bs,0,none⟩=some v) (h0:J [] W):
 CallsIn Fence.wide n Tryz.prog 173 #[.func (.yield l) #[] #[],.pointer (some ⟨Bs,0,none⟩)] W fun e W'=>(∃v,e= .returned v)∧
  ((∃ys,keys ys=pairs L∧J ys W')∨(∃pre,True∧Jx pre W')):=by
 obtain ⟨ao,cap,rfl,_,_,_⟩:=id hv
 have Hv:=Qh hv
 have Hg:=Qh hg
 have HJ:=Qh hJ
 have HY:=Qh hY
 have Hok:=Qh hok
 have HI:=Qh hI
 clear hv hg hJ hY hok hI
 refine callsIn_of_wp Tryz.func173 rfl trivial ?_ rfl
 simp only [Tryz.ntmps173,List.size_toArray,List.length_cons,List.length_nil,Nat.reduceAdd,Nat.reduceSub,Array.replicate_succ,Array.replicate_zero,List.push_toArray,List.append_toArray,List.nil_append,List.cons_append]
 gi_wp2
 gi_loopw [9] (fun s9 wr=> ∃(k:Nat) (pre:List (YS I L)),k≤L.length∧s9= .int .i64 k∧keys pre=pairs (L.take k)∧J pre wr∧KpS n₀ 35 W wr) (fun i _=>L.length-(intOf i).toNat)
 case atStart=>exact ⟨0,[],Nat.zero_le _,rfl,rfl,h0,KpS.refl _⟩
 case round=>
  obtain ⟨k,pre,hk,rfl,hkey,hj,hkp⟩:=hrel
  have Hkey:=Qh hkey
  have Hj:=Qh hj
  have Hkp:=Qh hkp
  have hokr:Ok I wr:=Hok.out.of_block fun b c hb=>hkp.below.block b (HI.out b c hb)
  have hszr:W.heap.size≤wr.heap.size:=hkp.below.size
  clear hkey hj hkp
  by_cases hlt:k<L.length
  ·obtain ⟨x,ve,b,off,cap',hlx,hvv,⟨c0,c1,c2,c3,c4,c5⟩,h1⟩:=Xol Hv.out hokr k hlt
   cases hvv
   obtain ⟨oe,ce,rfl,_,_,_⟩:=id h1
   have Hxm:=Qh (show x∈L by rw [←hlx];exact List.getElem_mem hlt)
   have Hxg:=Qh (Hg.out x Hxm.out)
   have Hve:=Qh h1
   have Hpt:=Qh (Xox hlt hlx)
   have hn30:=Hxg.out.nents
   have Hpl:=Qh (Xkh (l:=L.take k) fun y hy=>Hg.out y (List.mem_of_mem_take hy))
   have Hrow:=Qh (heap_alloc_new wr (.cells #[.int .i64 x.num,.int .i64 x.date,S x.prev,.slice oe x.ents.length ce,S x.stream,S x.sl] 35))
   have Hj1:=Qh (HJ.out _ _ _ none Hj.out (World.grownBy_alloc wr (.cells #[.int .i64 x.num,.int .i64 x.date,S x.prev,.slice oe x.ents.length ce,S x.stream,S x.sl] 35) none) (fun r h=>by cases h))
   have Hkp1:=Qh (Hkp.out.trans (KpS.alloc (by omega) (.cells #[.int .i64 x.num,.int .i64 x.date,S x.prev,.slice oe x.ents.length ce,S x.stream,S x.sl] 35)))
   have hlt1:wr.heap.size<(wr.alloc (.cells #[.int .i64 x.num,.int .i64 x.date,S x.prev,.slice oe x.ents.length ce,S x.stream,S x.sl] 35)).heap.size:=by simp
   clear hlx h1 Hj Hkp hokr
   gi_wp2
   clear c0 c1 c2 c3 c4 c5
   generalize wr.heap.size=bx at Hrow hlt1 hszr ⊢
   gi_loopw [16] (fun s16 wq=> ∃(j:Nat) (pre:List (YS I L)),j≤x.ents.length∧s16= .int .i64 j∧keys pre=pairs (L.take k)++(x.ents.take j).map (fun e=>(x,e))∧J pre wq∧KpS n₀ 35 W wq∧wq.heap[bx]? =some (.cells (sesRow x (.slice oe x.ents.length ce)) 35 (0,0))) (fun i _=>x.ents.length-(intOf i).toNat)
   case atStart=>exact ⟨0,pre,Nat.zero_le _,rfl,by rw [Hkey.out];simp,Hj1.out,Hkp1.out,Hrow.out⟩
   case round=>
    clear Hj1 Hkp1 Hrow Hkey hlt1
    obtain ⟨j,pre',hjl,rfl,hkey,hj,hkp,hrow⟩:=hrel
    have Hkey:=Qh hkey
    have Hj:=Qh hj
    have Hkp:=Qh hkp
    have Hrow:=Qh hrow
    have hokr:Ok I wr:=Hok.out.of_block fun b c hb=>hkp.below.block b (HI.out b c hb)
    have hszr':W.heap.size≤wr.heap.size:=hkp.below.size
    clear hkey hj hkp hrow
    by_cases hjt:j<x.ents.length
    ·obtain ⟨y,vya,vyx,b9,off9,cap9,hly,hvv,⟨x0,x1,x2,x3,x4,x5,x6⟩,h1,h2⟩:=Xdu Hve.out hokr j hjt
     cases hvv
     obtain ⟨xa,xc,rfl,_,_,_⟩:=id h1
     obtain ⟨xx,xd,rfl,_,_,_⟩:=id h2
     have Hmt:=Qh (Xsv (x:=x) hjt hly)
     have hin:YP.In I L ⟨x,y,.slice (some ⟨b9,off9,none⟩) x.ents.length ce,.slice xa y.attrs.length xc,.slice xx y.exts.length xd⟩:=⟨Hxm.out,Hxg.out,by rw [←hly];exact List.getElem_mem hjt,Hve.out,h1,h2⟩
     have hpl:pre'.length<30000:=by
      have e1:=congrArg List.length Hkey.out
      rw [Xnt,List.length_append,List.length_map,List.length_take] at e1
      have e2:=Hpl.out
      rw [List.length_take] at e2
      omega
     obtain ⟨fn,tmps,assign,body,hy,hR⟩:=HY.out pre' ⟨_,hin⟩ (wr.alloc (.cells #[.int .i64 y.kind,S y.path,.slice xa y.attrs.length xc,S y.target,.int .i64 y.size,S y.digest,.slice xx y.exts.length xd] 26)) (HJ.out _ _ _ none Hj.out (World.grownBy_alloc wr _ none) (fun r h=>by cases h)) hpl
     have Hks:=Qh (show keys (pre'++ [(⟨_,hin⟩:YS I L)])=pairs (L.take k)++(x.ents.take (j+1)).map (fun e=>(x,e)) by rw [Xku,Hkey.out,Hmt.out,List.append_assoc])
     dsimp only [YS.enc,sesV,entV] at hy
     generalize (⟨_,hin⟩:YS I L)=ys at hR Hks
     have hrow1:(wr.alloc (.cells #[.int .i64 y.kind,S y.path,.slice xa y.attrs.length xc,S y.target,.int .i64 y.size,S y.digest,.slice xx y.exts.length xd] 26)).heap[bx]? =_:=(Below.heap_alloc wr _ bx (Array.getElem?_eq_some_iff.1 Hrow.out).1).trans Hrow.out
     have Hrow1:=Qh hrow1
     obtain ⟨c0,c1,c2,c3,c4,c5⟩:=sesB_row hrow1
     have Hkp1:=Qh (Hkp.out.trans (KpS.alloc (by omega) (.cells #[.int .i64 y.kind,S y.path,.slice xa y.attrs.length xc,S y.target,.int .i64 y.size,S y.digest,.slice xx y.exts.length xd] 26)))
     clear hly h1 h2 hrow1 hin hpl Hkey Hj Hkp hokr
     gi_wp2
     refine hR.mono ?_
     rintro e W3 (⟨rfl,hJ3,hk3⟩|⟨rfl,hJx3⟩)
     ·have HJ3:=Qh hJ3
      have Hk3:=Qh (Hkp1.out.trans hk3)
      have Hr3:=Qh (hk3.ses _ _ _ Hrow1.out)
      clear hJ3 hk3 hy c0 c1 c2 c3 c4 c5 x0 x1 x2 x3 x4 x5 x6
      gi_wp2
      go_roundw
      case rel=>exact ⟨j+1,_,by omega,by go_num,Hks.out,HJ3.out,Hk3.out,Hr3.out⟩
      case measure=>simp [intOf];omega
     ·gi_wp2
      refine bodyPost_ret (results_none rfl _ _ _) rfl ?_
      exact ⟨⟨_,rfl⟩,.inr ⟨_,trivial,hJx3⟩⟩
    ·have Hks:=Qh (show keys pre'=pairs (L.take (k+1)) by rw [Hkey.out,Hpt.out,List.take_of_length_le (show x.ents.length≤j by omega)])
     gi_wp2
     go_roundw
     case rel=>exact ⟨k+1,_,by omega,by go_num,Hks.out,Hj.out,Hkp.out⟩
     case measure=>simp [intOf];omega
  ·have Hks:=Qh (show keys pre=pairs L by rw [Hkey.out,List.take_of_length_le (show L.length≤k by omega)])
   gi_wp2
   go_end0
   exact ⟨⟨_,rfl⟩,.inl ⟨_,Hks.out,Hj.out⟩⟩
set_option maxRecDepth 100000 in
theorem Xo1 (v:Value) (w:World) (h1:∃ao n c,v= .slice ao n c):
 Calls Tryz.prog 113 #[v] w fun e w'=>e= .returned (.func (.func 173) #[] #[.pointer (some ⟨w.heap.size,0,none⟩)])∧w'=w.alloc (.cells #[v] 22):=by
 obtain ⟨ao,k,c,rfl⟩:=h1
 go_enter Tryz.func113,Tryz.ntmps113
 go_wp2
 go_ret
 exact ⟨rfl,rfl⟩
theorem Xs7 (n:Nat) (hn:1≤n) (I:IH) (v:Value) (L:List Ses) (hv:RdS tSes I v L) (hg:∀x∈L,SesG x) (hL:L.length≤1000) (Bs n₀:Nat) (w:World) (hok:Ok I w) (hI:∀b c,I b=some c→b<n₀) (hsz:n₀≤w.heap.size) (hBs:w.cell? ⟨Bs,0,none⟩=some v):
 SeqStopsK Fence.wide n Tryz.prog 173 #[.pointer (some ⟨Bs,0,none⟩)] (fun x:YS I L=>x.enc) (KpS n₀ 35) (fun ys=>keys ys=pairs L) (fun _=>True) 30000 w:=fun l J Jx W hW hJ _ hY h0=>
 Xmp n hn I v L hv hg hL l Bs n₀ J Jx W hJ hY (hok.below (Qn _) hW) hI (Nat.le_trans hsz hW.size) (Xaa hW hBs) h0
end Go.Proofs.YtdodihnehppnmaaGreatDoor
