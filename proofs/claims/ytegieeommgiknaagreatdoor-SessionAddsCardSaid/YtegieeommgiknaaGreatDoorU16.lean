/- Lemmas for the claim's theorem;conditions: as each says. -/
import Derived.Test.YtegieeommgiknaaGreatDoorU15
import Derived.RangeFuncNested
import Derived.RangeFuncLeaves
import Derived.Shelf.Abstract
import Derived.OwnWalkIn
import Derived.TacticsInMore
import Derived.LoopNIn
import Derived.LoopIn
import Derived.Maps.OwnIn
set_option maxHeartbeats 0
set_option maxRecDepth 100000
set_option linter.all false
namespace Go.Proofs.YtegieeommgiknaaGreatDoor
open Go.RowKit
variable{B:Nat}{α:Type}{E:TypeId}{T:Ty α}{I:IH}{w:World}{l:List α}{W:World}{v:Value}{s:ib}{c:af}{k n b L C m:Nat}{W':World}{a:Act}{x:Value}{g i:Nat}{f:Nat×Nat}{P:Program}{Q:Exit→Act→World→Prop}{w':World}{e:TypeId}{F:Fence}{ops:Array Oper}{o:Oper}
theorem LF{a b c y z:Value}{t:TypeId}(h:W.heap[n]?=some (.cells #[a,b,c] t (0,0))):(((W.setCell ⟨n,0,none⟩ x).setCell ⟨n,1,none⟩ y).setCell ⟨n,2,none⟩ z).heap[n]?=some (.cells #[x,y,z] t (0,0)):=by
 have:=heap_setCell_same _ n 2 _ _ z (heap_setCell_same _ n 1 _ _ y (heap_setCell_same W n 0 _ _ x h));simpa using this
abbrev apo(s:ib)(vc:Value):Array Value:=#[vc,.int .i64 s.bg,S s.str]
structure jd (n:Nat) (J:IH) (W:World) (s:ib) (l:List Xt) (vc vo:Value):Prop where
 row:W.heap[n]?=some (.cells #[vc,.int .i64 s.bg,S s.str] 43 (0,0))
 res:W.heap[n+1]?=some (.cells #[.slice none 0 0,.int .i64 0,S []] 43 (0,0))
 aJ:aZ si J vc s.aJ
 own:aQ mU 65 J W (n+2) vo l
 apart:∀g,vo.ownBlock=some g→J g=none
 ok:Ok J W
 free:J n=none
 BP:J (n+1)=none
section
variable {n:Nat} {I J J':IH} {W W':World} {s s':ib} {l l':List Xt} {vc yL vo vo':Value}
theorem jd.lt(h:jd n J W s l vc vo):n+1<W.heap.size:=(Qg h.res)
theorem jd.c0(h:jd n J W s l vc vo):W.cell? ⟨n,0,none⟩=some vc:=(cell_of_row W _ 0 _ _ _ h.row).trans rfl
theorem jd.c1(h:jd n J W s l vc vo):W.cell? ⟨n,1,none⟩=some (.int .i64 s.bg):=(cell_of_row W _ 1 _ _ _ h.row).trans rfl
theorem jd.c2(h:jd n J W s l vc vo):W.cell? ⟨n,2,none⟩=some (S s.str):=(cell_of_row W _ 2 _ _ _ h.row).trans rfl
theorem jd.fr(h:jd n J W s l vc vo)(j:Nat):W.frozen? ⟨n,j,none⟩=false:=frozen_of_row W _ j _ _ h.row
theorem jd.below(h:jd n J W s l vc vo)(hb:Below W.heap.size W W'):jd n J W' s l vc vo:=
 ⟨(hb.block _ (by have:=h.lt;omega)).trans h.row,(hb.block _ h.lt).trans h.res,h.aJ,h.own.below hb,h.apart,h.ok.below (Qn _) hb,h.free,h.BP⟩
theorem jd.past(h:jd n J W s l vc vo)(o:Obj):jd n J (W.alloc o) s l vc vo:=h.below ((Qb _ _).alloc (Qn _) o)
theorem Vl{T:Ty Xt}(h:aQ T E J W B vo l)(hg:vo.ownBlock=some g):B≤g∧g<W.heap.size:=by
 obtain⟨xs,h1,_⟩:=h;exact h1.lt g hg
theorem jd.ext(h:jd n J W s l vc vo)(hb:Below W.heap.size W W')(hx:Ext W.heap.size J J')(iZ:Ok J' W'):jd n J' W' s l vc vo:=
 ⟨(hb.block _ (by have:=h.lt;omega)).trans h.row,(hb.block _ h.lt).trans h.res,h.aJ.mono (hx.keep h.ok (Qn _)),(h.own.below hb).mono (hx.keep h.ok (Qn _)),fun g hg=>(hx g (Vl h.own hg).2).trans (h.apart g hg),iZ,
   (hx _ (by have:=h.lt;omega)).trans h.free,(hx _ h.lt).trans h.BP⟩
theorem jd.added(h:jd n J W s l vc vo)(ho:aQ mU 65 J W' (n+2) vo' l')(hg:W.grownBy W' vo.ownBlock)(hl:∀g,vo'.ownBlock=some g→vo.ownBlock=some g∨W.heap.size≤g):jd n J W' s l' vc vo':=by
 have bq:∀k,k<n+2→some k≠vo.ownBlock:=fun k hk e=>by have:=(Vl h.own e.symm).1;omega
 have hlt:=h.lt;refine⟨(hg.block _ (by omega) (bq _ (by omega))).trans h.row,(hg.block _ (by omega) (bq _ (by omega))).trans h.res,h.aJ,ho,fun g hk=> ?_,h.ok.grown hg fun g hk=>h.apart g hk,h.free,h.BP⟩;rcases hl g hk with h1|h1
 ·exact h.apart g h1
 ·exact h.ok.fresh h1
theorem jd.set0(h:jd n J W s l vc vo)(h1:aZ si J yL s'.aJ)(e1:s'.bg=s.bg)(e2:s'.str=s.str):jd n J (W.setCell ⟨n,0,none⟩ yL) s' l yL vo:=by
 have hlt:=h.lt;refine⟨by rw[e1,e2];exact heap_setCell_same W n 0 _ _ yL h.row,(heap_setCell_other W ⟨n,0,none⟩ (n+1) yL (by simp)).trans h.res,h1,?_,h.apart,h.ok.setCell h.free _,h.free,h.BP⟩;refine h.own.kept (row:=some n) ⟨rfl,rfl,rfl,by simp,fun k _ hk=>heap_setCell_other W ⟨n,0,none⟩ k yL (fun e=>hk (by simp[e]))⟩ (.inr fun e=> ?_);have:=(Vl h.own e).1;omega
theorem jd.set2(h:jd n J W s l vc vo)(b:af):jd n J (W.setCell ⟨n,2,none⟩ (S b)) ⟨s.aJ,s.bg,b⟩ l vc vo:=by
 have hlt:=h.lt;refine⟨heap_setCell_same W n 2 _ _ (S b) h.row,(heap_setCell_other W ⟨n,2,none⟩ (n+1) (S b) (by simp)).trans h.res,h.aJ,?_,h.apart,h.ok.setCell h.free _,h.free,h.BP⟩;refine h.own.kept (row:=some n) ⟨rfl,rfl,rfl,by simp,fun k _ hk=>heap_setCell_other W ⟨n,2,none⟩ k (S b) (fun e=>hk (by simp[e]))⟩ (.inr fun e=> ?_);have:=(Vl h.own e).1;omega
theorem jd.PI(h:jd n J W s l vc vo)(hb:n+2≤b)(hJ:J b=none)(hv:vo.ownBlock≠some b)(j:Nat)(u:Value):jd n J (W.setCell ⟨b,j,none⟩ u) s l vc vo:=by
 have hlt:=h.lt
 exact⟨(heap_setCell_other W ⟨b,j,none⟩ n u (by simp;omega)).trans h.row,(heap_setCell_other W ⟨b,j,none⟩ (n+1) u (by simp;omega)).trans h.res,h.aJ,
  h.own.kept (row:=some b) ⟨rfl,rfl,rfl,by simp,fun k _ hk=>heap_setCell_other W ⟨b,j,none⟩ k u (fun e=>hk (by simp[e]))⟩ (.inr hv),h.apart,h.ok.setCell hJ _,h.free,h.BP⟩
theorem jd.drew(h:jd n J W s l vc vo):jd n J W.drew s l vc vo:=⟨h.row,h.res,h.aJ,h.own,h.apart,h.ok,h.free,h.BP⟩
theorem jd.new(hw:Ok J W)(hv:aZ si J vc s.aJ):jd W.heap.size J (((W.alloc (.cells #[vc,.int .i64 s.bg,S s.str] 43)).alloc (.cells #[.slice none 0 0,.int .i64 0,S []] 43)).alloc (.cells #[] 65)) s [] vc (.slice (some ⟨W.heap.size+2,0,none⟩) 0 0):=by
 refine⟨?_,?_,hv,Xoj _ _ (by simp),fun g hg=> ?_,((hw.alloc _).alloc _).alloc _,hw.fresh (Qn _),hw.fresh (by omega)⟩
 ·rw[Below.heap_alloc _ _ _ (by simp;omega),Below.heap_alloc _ _ _ (by simp)];exact heap_alloc_new W _
 ·rw[Below.heap_alloc _ _ _ (by simp)];have:=heap_alloc_new (W.alloc (.cells #[vc,.int .i64 s.bg,S s.str] 43)) (.cells #[.slice none 0 0,.int .i64 0,S []] 43);simpa using this
 ·simp[Value.ownBlock]at hg;exact hw.fresh (by omega)
end
theorem JZ{a:Addr}{row:Option Nat}(hg:W.grownBy w' row)(bq:row≠some a.block)(h:W.cell? a=some x)(hf:W.frozen? a=false):w'.frozen? a=false:=
 (World.frozen?_of_block (hg.block _ (block_lt_of_cell h) (fun e=>bq e.symm))).trans hf
theorem aQ.zW(h:aQ T E I w B v l)(hw:Ok I w)(hI:∀g,v.ownBlock=some g→I g=none):∃I',(∀b c,I b=some c→I' b=some c)∧Ext B I I'∧Ok I' w∧aZ T I' v l∧ ∀b,v.ownBlock≠some b→I' b=I b:=by
 obtain⟨xs,⟨h1,Kk⟩,h2⟩:=h;rcases Kk with⟨rfl,h0⟩|⟨g,cap,cur,rfl,hb,hg,Kl,iv,jf,ht⟩
 ·refine⟨I,fun _ _ h=>h,Ext.refl _ _,hw,?_,fun _ _=>rfl⟩;have:l=[]:=List.eq_nil_of_length_eq_zero h0;subst this;exact aZ.nil T I
 ·have mM:∀b c,I b=some c→(I.add g cur) b=some c:=fun b c hc=>by
   unfold IH.add;by_cases e:b=g
   ·subst e;rw[hI _ rfl]at hc;cases hc
   ·rw[if_neg e];exact hc
  refine⟨I.add g cur,mM,Ext.add hb I cur,hw.add hg,⟨_,cap,rfl,Kl,iv,fun _=>⟨g,0,cur,rfl,by simp[IH.add],fun i hi=> ?_⟩⟩,fun b N8=> ?_⟩
  ·obtain⟨cs,k1,k2⟩:=h2.2 i hi;refine⟨cs,T.mono mM k1,fun j u hu=> ?_⟩;have hx:=k2 j u hu;rw[←ht,List.getElem?_take]at hx;split at hx
   ·rw[Nat.zero_add,←Array.getElem?_toList];exact hx
   ·cases hx
  ·have:b≠g:=fun e=>N8 (by simp[Value.ownBlock,e]);simp[IH.add,this]
theorem Xde:∀{l:List af} {c:af},c∈l→c.length≤l.flatten.length
 |x::l,c,h=>by
  rw[List.flatten_cons,List.length_append];rcases List.mem_cons.1 h with rfl|h
  ·omega
  ·have:=Xde h;omega
theorem Xkh{x:α}(h:aQ T E I w B v (l++[x])):∃g n cap,v= .slice (some ⟨g,0,none⟩) n cap:=by
 obtain⟨xs,h1,_⟩:=h;rcases h1.2 with⟨_,h0⟩|⟨g,cap,cur,h,_⟩
 ·simp at h0
 ·exact⟨_,_,_,h⟩
theorem Xiz{j:Nat}{u:Value}(h:W.cell? ⟨b,i,none⟩=some x)(bq:b≠n):(W.setCell ⟨n,j,none⟩ u).cell? ⟨b,i,none⟩=some x:=by
 rw[World.cell?_of_block (Below.heap_setCell W ⟨n,j,none⟩ u b bq)];exact h
structure Cs (L C:Nat) (m:Nat) (s:ib) (l:List Xt):Prop where
 s0:1≤s.bg
 s1:s.bg≤255
 str:s.str.length≤L+65536*m
 aJ:s.aJ.length≤C+m
 cx:∀c∈s.aJ,XB 65536 c.x
 len:l.length≤m
 xs:∀z∈l,XB (65536*m) z
theorem Cs.add{l:List Xt}(h:Cs L C m s l){x:Xt}(hx:XB 65536 x):Cs L C (m+1) s (kH l x):=
 ⟨h.s0,h.s1,by have:=h.str;omega,by have:=h.aJ;omega,h.cx,by have:=(Xpx l x).1;have:=h.len;omega,fun z hz=>(Xtv (by decide) h.xs hx (by omega) z hz).mono (by omega)⟩
theorem YQ:∀{l:List Ck} {d:af} {x:Xt},gZ l d=some x→ ∃c∈l,c.x=x
 |c::l,d,x,h=>by
  rw[gZ]at h;split at h
  ·exact⟨c,List.mem_cons_self ..,Option.some.inj h⟩
  ·obtain⟨c',h1,h2⟩:=YQ h;exact⟨c',List.mem_cons_of_mem _ h1,h2⟩
theorem Vm{l:List Xt}(h:Cs L C m s l)(hL:L≤4294967296)(hm:m≤65536)(hc:c.length≤65536):XB 65536 (nO s c):=by
 have:=h.s0;have:=h.s1;have:=h.str;unfold XB nO;simp only;omega
theorem Cs.grow{l:List Xt}(h:Cs L C m s l)(hL:L≤4294967296)(hm:m≤65536)(hc:c.length≤65536):
 Cs L C (m+1) ⟨s.aJ++[⟨dW c,nO s c⟩],s.bg,s.str++c⟩ (kH l (nO s c)):=by
 have ha:=h.add (Vm h hL hm hc);refine⟨h.s0,h.s1,?_,?_,fun k hk=> ?_,ha.len,ha.xs⟩
 ·have:=h.str;simp;omega
 ·have:=h.aJ;simp;omega
 ·rcases List.mem_append.1 hk with hk|hk
  ·exact h.cx k hk
  ·simp at hk;subst hk;exact Vm h hL hm hc
theorem Cs.grow'{l:List Xt}(h:Cs L C m s l)(hL:L≤4294967296)(hm:m≤65536){dg:af}(hc:c.length≤65536):
 Cs L C (m+1) ⟨s.aJ++[⟨dg,nO s c⟩],s.bg,s.str++c⟩ (kH l (nO s c)):=by
 have ha:=h.grow hL hm hc;refine⟨h.s0,h.s1,ha.str,by have:=ha.aJ;simpa using this,fun k hk=> ?_,ha.len,ha.xs⟩;rcases List.mem_append.1 hk with hk|hk
 ·exact h.cx k hk
 ·simp at hk;subst hk;exact Vm h hL hm hc
theorem Xny{l:List Xt}{x:Xt}(h:gZ s.aJ (dW c)=some x):pO (s,l) c=(s,kH l x):=by
 unfold pO Lv;simp only[h]
theorem Xnx{l:List Xt}(h:gZ s.aJ (dW c)=none):pO (s,l) c=(⟨s.aJ++[⟨dW c,nO s c⟩],s.bg,s.str++c⟩,kH l (nO s c)):=by
 unfold pO Lv;simp only[h]
theorem YR{β:Type}{f:β→α→β}{p R:β}(hk:k<l.length){x:α}(hx:l[k]=x)(h:(l.drop k).foldl f p=R):(l.drop (k+1)).foldl f (f p x)=R:=by
 rw[List.drop_eq_getElem_cons hk,hx,List.foldl_cons]at h;exact h
structure lJ (I:IH) (w0:World) (J:IH) (W:World):Prop where
 ok:Ok J W
 keep:∀b c,I b=some c→J b=some c
 eU:Below w0.heap.size w0 W
section
variable {I J J':IH} {w0 W W':World}
theorem lJ.start(h:Ok I w0):lJ I w0 I w0:=⟨h,fun _ _ h=>h,Qb _ _⟩
theorem lJ.quiet(h:lJ I w0 J W)(hb:Below W.heap.size W W'):lJ I w0 J W':=⟨h.ok.below (Qn _) hb,h.keep,h.eU.trans (hb.mono h.eU.size)⟩
theorem lJ.past(h:lJ I w0 J W)(o:Obj):lJ I w0 J (W.alloc o):=h.quiet ((Qb _ _).alloc (Qn _) o)
theorem lJ.ext(h:lJ I w0 J W)(hb:Below W.heap.size W W')(hx:Ext W.heap.size J J')(iZ:Ok J' W'):lJ I w0 J' W':=
 ⟨iZ,fun b c hc=>hx.keep h.ok (Qn _) b c (h.keep b c hc),h.eU.trans (hb.mono h.eU.size)⟩
theorem lJ.size(h:lJ I w0 J W):w0.heap.size≤W.heap.size:=h.eU.size
end
theorem Xpn{c:Array Value}{row:Option Nat}(hk:W.heap[k]?=some (.cells c e f))(hr:∀r,row=some r→ ∃o:Obj,W.heap[r]?=some o∧o.isCells=false):row≠some k:=by
 intro e';obtain⟨o,ho,hc⟩:=hr k e';rw[hk]at ho;cases ho;cases hc
theorem Below.turn{row:Option Nat}(h:Below n w W)(hn:n≤w.heap.size)(hB:n≤B)(hg:W.grownBy W' row)(hr:∀r,row=some r→B≤r∧ ∃o:Obj,W.heap[r]?=some o∧o.isCells=false):Below n w W':=
 h.grown hg (Nat.le_trans hn h.size) (fun k e=>Nat.le_trans hB (hr k e).1)
theorem KeepsFrom.BQ(W:World)(p:Addr)(u:Value):KeepsFrom B W (W.setCell p u):=(KeepsOthers.setCell W p u).from B
theorem Xox{c:Array Value}{row:Option Nat}(h:W.heap[k]?=some (.cells c e f))(hg:W.grownBy W' row)(hr:∀r,row=some r→ ∃o:Obj,W.heap[r]?=some o∧o.isCells=false):W'.heap[k]?=some (.cells c e f):=
 (hg.block k (Qg h) (fun e'=>Xpn h hr e'.symm)).trans h
theorem Vn{nF:Nat}{ts te:TypeId}{bytes:Nat}(hE:eZ P ts te T bytes){w0:World}{rest:List Oper}(Ak:o.guard=none)(s x:Operand)
 (ho:o.op= .call {callee:= .builtin .append,args:=#[s,x],argTypes:=#[ts,ts]}) (B:Nat) (v:Value) (l:List α) (hs:a.eval s=v) (bU:aQ T te I w0 B v l)
 (y:α) (cs:List Value) (tb:TypeId) (hx:a.eval x= .slice (some ⟨w0.heap.size,0,none⟩) 1 1) (hy:T.rd I cs y) (iw:(l.length+1)*bytes≤140737488355328) (hl:l.length+1≤9223372036854775807) (hB:B≤w0.heap.size)
 (h:∀v' w',aQ T te I w' B v' (l++[y])→w0.grownBy w' v.ownBlock→(∀g,v'.ownBlock=some g→v.ownBlock=some g∨w0.heap.size≤g)→wpListIn F nF P ops Q rest (a.put o.dst v') w'):wpListIn F nF P ops Q (o::rest) a (w0.alloc (.cells cs.toArray tb)):=by
 obtain⟨i,z,h1,h2,h3,h4,h5,h6,h7⟩:=hE;obtain⟨xs,k1,k2⟩:=bU
 refine wpListIn_append_own_at (w0.alloc (.cells cs.toArray tb)) Ak s x ts ho B te i z T.size bytes h1 h2 h3 h4 h5 h6 h7 v l.length xs hs (k1.alloc _) ⟨w0.heap.size,0,none⟩ 1 1 cs hx (by rw[T.len hy,Nat.one_mul])
  (fun j u hu=>by rw[Addr.add_lit,Nat.zero_add,World.cell?_alloc_new];simpa using hu) (T.one hy) (by unfold maxLen;omega) iw (by simp;omega) (fun v' w' r1 r2 _ r4=>h v' w' ⟨xs++cs,by rw[List.length_append];exact r1,k2.append (dF.one hy)⟩ ?_ ?_)
 ·exact⟨r2.os,r2.tape,r2.output,by have:=r2.size;simp at this;omega,fun k hk bq=>(r2.block k (by simp;omega) bq).trans (Below.heap_alloc _ _ _ hk)⟩
 ·intro g hg;rcases r4 with r4|r4
  ·exact .inl (r4▸hg)
  ·rw[r4]at hg;simp at hg;exact .inr (by omega)
theorem wy(h:aQ T E I w B v l)(hg:v.ownBlock=some g):B≤g∧ ∃cur,w.heap[g]?=some (.cells cur E (0,0)):=by
 obtain⟨xs,⟨_,h1⟩,_⟩:=h;rcases h1 with⟨h2,_⟩|⟨g',cap,cur,rfl,hB,vC,_⟩
 ·rw[h2]at hg;cases hg
 ·have e:g'=g:=by simpa[Value.ownBlock]using hg
  subst e;exact⟨hB,cur,vC⟩
theorem BR{E':TypeId}{c:Array Value}(h:aQ T E I w B v l)(hb:w.heap[b]?=some (.cells c E' f))(hT:E'≠E):v.ownBlock≠some b:=fun e=>by
 obtain⟨_,cur,hc⟩:=wy h e;rw[hb]at hc;cases hc;exact hT rfl
theorem KeepsFrom.own{B':Nat}(h:aQ T E I W B v l)(hg:W.grownBy W' v.ownBlock):KeepsFrom B' W W':=
 ⟨hg.size,fun k o _ hk ho=>(hg.block k (Qg hk) (fun e=>by
   obtain⟨_,cur,hc⟩:=wy h e.symm;rw[hk]at hc;cases hc;cases ho)).trans hk⟩
theorem aQ.turn{row:Option Nat}(h:aQ T E I W B v l)(hg:W.grownBy W' row)(hr:∀r,row=some r→ ∃o:Obj,W.heap[r]?=some o∧o.isCells=false):aQ T E I W' B v l:=by
 refine h.kept hg ?_;cases hv:v.ownBlock with
 |none=>exact .inl rfl
 |some g=>
  obtain⟨_,cur,hc⟩:=wy h hv;exact .inr fun e=>Xpn hc hr e.symm
theorem Jb(h:aQ T E I w B v l):∃ao n cap,v= .slice ao n cap:=by
 obtain⟨xs,h1,_⟩:=h;rcases h1.2 with⟨h,_⟩|⟨g,cap,cur,h,_⟩
 ·exact⟨_,_,_,h⟩
 ·exact⟨_,_,_,h⟩
theorem aQ.stored(h:aQ T E I W B v l)(hv:v.ownBlock≠some b)(j:Nat)(u:Value):aQ T E I (W.setCell ⟨b,j,none⟩ u) B v l:=
 h.kept (row:=some b) ⟨rfl,rfl,rfl,by simp,fun k _ hk=>heap_setCell_other W ⟨b,j,none⟩ k u (fun e=>hk (by simp[e]))⟩ (.inr hv)
def NF{α:Type}(F:Fence)(n:Nat)(P:Program)(g:Nat)(lb:Array Value)(encs:α→Array Value)(Bx:Nat)(Kp:World→World→Prop)(S:List α→Prop)(N:Nat)(w:World):Prop:=
 ∀(l:Nat) (J:List α→World→Prop) (W:World),Below w.heap.size w W→AbidesFrom W.heap.size J→(∀pre W' u,J pre W'→J pre (W'.setCell ⟨Bx,0,none⟩ u))→
  (∀pre x W1,J pre W1→pre.length<N→YieldAt F (n-1) P l (encs x) W1 fun e W'=>e= .returned (.bool true)∧J (pre++[x]) W'∧Kp W1 W')→
  J [] W→CallsIn F n P g (#[.func (.yield l) #[] #[]]++lb) W fun e W'=>(∃v,e= .returned v)∧ ∃xs,S xs∧J xs W'
theorem Xrb{g:Operand}{ps:Array Tmp}{assign body:Code}
 (hro:F.round=none) (h1:1≤n) {gf:Nat} {lb:Array Value} (hg:a.eval g= .func (.func gf) #[] lb) (hFg:F.fn gf) (eg:∀args w,(callFunc gf args).run P w= .ok (.enter gf args) w)
 {encs:α→Array Value} {Bx:Nat} {Kp:World→World→Prop} {S:List α→Prop} {N:Nat} (afs:NF F (n-1) P gf lb encs Bx Kp S N w) (hBx:Bx<w.heap.size)
 (hKt:∀{A B C:World},Kp A B→Kp B C→Kp A C) (hKb:∀(W:World) (l:Nat) (o':Obj),w.heap.size≤l→Kp W (W.putObj l o')) (hps:∀x,(encs x).size=ps.size)
 (I:List α→World→Prop) (hI:OwnFrom w.heap.size I) (hIw:∀pre W u,I pre W→I pre (W.setCell ⟨Bx,0,none⟩ u)) (h0:I [] w) (a₁:α→Act)
 (Mr:∀(l:Nat) (x:α) (W:World) (K:Act→World→Prop),K (a₁ x) W→
   assign.wpIn (F.inRound l) (n-1-1) P (Exit.then K (fun _ _ _=>False)) {tmps:=(ps.zip (encs x)).foldl (fun t (p,v)=>t.setIfInBounds p v) a.tmps,defers:=[]} W)
 (WY:∀(l:Nat) (pre:List α) (x:α) (W:World),I pre W→pre.length<N→body.wpIn (F.inRound l) (n-1-1) P (fun e _ W'=>e= .normal∧KeepsFrom w.heap.size W W'∧Kp W W'∧I (pre++[x]) W') (a₁ x) W)
 (WZ:∀(D:Nat) (xs:List α) (W:World),w.heap.size≤D→S xs→I xs W→W.heap[D]?=some (.deferred (some []))→Q .normal {a with defers:={target:= .collected D,args:=#[]}::a.defers} W):
 (Code.rangeFunc g ps assign body).wpIn F n P Q a w:=by
 refine wpIn_rangeFunc ?_;intro fn Ch;rw[hro];obtain⟨rec,rO⟩:∃rec:LoopState→Loop,rec=fun st=> {state:=st,pending:=none,fn,tmps:=a.tmps,params:=ps,assign,body,defers:=w.heap.size}:=⟨_,rfl⟩;obtain⟨L,hL⟩:∃L,w.heap.size+1=L:=⟨_,rfl⟩;obtain⟨W1,nW⟩:∃W1,(w.alloc (.deferred (some []))).alloc (.loop (rec .ready))=W1:=⟨_,rfl⟩;have hL1:W1.heap[L]?=some (.loop (rec .ready)):=by
  have:=World.alloc_heap_new (w.alloc (.deferred (some []))) (.loop (rec .ready));rw[World.size_alloc,hL,nW]at this;exact this
 have AL:W1.heap[w.heap.size]?=some (.deferred (some [])):=by
  rw[←nW];exact(Below.heap_alloc _ _ _ (by simp)).trans (World.alloc_heap_new w _)
 have kL:I [] W1:=by rw[←nW];exact hI.alloc _ (hI.alloc _ h0)
 have aG:Below w.heap.size w W1:=by rw[←nW];exact((Qb _ w).alloc (Qn _) _).alloc (by simp) _
 have qL:W1.heap.size=w.heap.size+2:=by rw[←nW];simp
 refine⟨L,[{target:= .collected w.heap.size,args:=#[]}],W1,{target:= .fn (.func gf) lb,args:=#[.func (.yield L) #[] #[]]},W1,gf,#[.func (.yield L) #[] #[]]++lb,W1,?_,?_,?_,?_,fun _=>h1,?_⟩
 ·rw[←nW,←hL,rO];exact run_enterLoop_outer _ _ _ _ _
 ·simp only[resolve,hg];simp[go_sem]
 ·intro f' hf';simp[Target.leads]at hf';subst hf';exact hFg
 ·simp[invoke,go_sem,eg]
 ·have bq:Bx≠L:=by omega
  have hne2:Bx≠w.heap.size:=by omega
  refine(afs L (fun pre W=>I pre W∧W.heap[L]?=some (.loop (rec .ready))∧W.heap[w.heap.size]?=some (.deferred (some []))) W1 aG ?_ ?_ ?_ ⟨kL,hL1,AL⟩).mono ?_
  ·intro s A B row ⟨k1,k2,k3⟩ Q4 hr;have hr':∀r,row=some r→ ∃o:Obj,A.heap[r]?=some o∧o.isWalk=true:=fun r e=>(hr r e).2;exact⟨hI s A B row k1 Q4 fun r e=>by obtain⟨q1,o,q2,q3⟩:=hr r e;exact⟨by omega,o,q2,Obj.not_cells_of_walk q3⟩,(grownBy_keeps Q4 hr' k2 rfl).trans k2,(grownBy_keeps Q4 hr' k3 rfl).trans k3⟩
  ·intro pre A u ⟨k1,k2,k3⟩;exact⟨hIw pre A u k1,(heap_setCell_other A ⟨Bx,0,none⟩ L u bq.symm).trans k2,(heap_setCell_other A ⟨Bx,0,none⟩ w.heap.size u hne2.symm).trans k3⟩
  ·rintro pre x W ⟨hi,hl,hk⟩ hlen;have hlt:L<W.heap.size:=(Qg hl);have hy:=run_yield (P:=P) (args:=encs x) hl (by rw[rO];exact hps x);rw[rO]at hy;have hb:=run_beginRound (P:=P) hl (by rw[rO]);obtain⟨W2,kU⟩:∃W2,W.putObj L (.loop {rec .ready with state:= .busy})=W2:=⟨_,rfl⟩;rw[kU]at hb;have DZ:W2.heap[L]?=some (.loop {rec .ready with state:= .busy}):=by rw[←kU];exact World.putObj_heap_same hlt
   have uV:W2.heap[w.heap.size]?=some (.deferred (some [])):=by rw[←kU];exact(World.putObj_heap_other (by omega)).trans hk
   have hp2:Kp W W2:=by rw[←kU];exact hKb _ _ _ (by omega)
   have Ml:I pre W2:=by rw[←kU];exact hI.putObj _ hi (by omega) hl rfl
   refine⟨fn,_,assign,body,hy,roundIn_of_wpIn Ch (Mr _ x W _ ⟨_,hb,wpIn_mono (WY L pre x W2 Ml hlen) ?_⟩)⟩;rintro e a3 W3 ⟨rfl,sJ,hp3,hi3⟩;have Og:=sJ.same _ _ (by omega) DZ rfl;have Ko:=sJ.same _ _ (Qn _) uV rfl;have he:=run_endRound (P:=P) none Og;refine⟨_,_,he,rfl,⟨hI.putObj _ hi3 (by omega) Og rfl,?_,(World.putObj_heap_other (by omega)).trans Ko⟩,hKt (hKt hp2 hp3) (hKb _ _ _ (by omega))⟩;have:=World.putObj_heap_same (o:=Obj.loop {rec .ready with state:= .ready,pending:=none}) (Qg Og);rw[rO]at this ⊢;exact this
  ·rintro e W2 ⟨⟨v,rfl⟩,xs,hS,hi,hl,hk⟩;have he:=run_endLoop (P:=P) hl (by rw[rO];simp);rw[rO]at he;exact⟨none,_,he,WZ _ xs _ (Qn _) hS (hI.putObj _ hi (by omega) hl rfl) ((World.putObj_heap_other (by omega)).trans hk)⟩
structure yj (w w':World) (row:Option Nat) (bo:Nat):Prop where
 os:w'.os=w.os
 tape:w'.tape=w.tape
 output:w'.output=w.output
 size:w.heap.size≤w'.heap.size
 block:∀k,k<w.heap.size→some k≠row→k≠bo→w'.heap[k]?=w.heap[k]?
section
variable {w w' w'':World} {row:Option Nat} {bo n:Nat}
theorem yj.nQ(h:w.grownBy w' row)(bo:Nat):yj w w' row bo:=⟨h.os,h.tape,h.output,h.size,fun k hk hr _=>h.block k hk hr⟩
theorem yj.set(h:yj w w' row bo)(j:Nat)(u:Value):yj w (w'.setCell ⟨bo,j,none⟩ u) row bo:=
 ⟨h.os,h.tape,h.output,by have:=h.size;simp;omega,fun k hk hr hb=>(heap_setCell_other w' ⟨bo,j,none⟩ k u hb).trans (h.block k hk hr hb)⟩
theorem yj.PK(h:yj w w' (some g) bo)(j:Nat)(u:Value):yj w (w'.setCell ⟨g,j,none⟩ u) (some g) bo:=
 ⟨h.os,h.tape,h.output,by have:=h.size;simp;omega,fun k hk hr hb=>(heap_setCell_other w' ⟨g,j,none⟩ k u (fun e=>hr (by rw[show k=g from e]))).trans (h.block k hk hr hb)⟩
theorem yj.drew(h:yj w w' row bo):yj w w'.drew row bo:=⟨h.os,h.tape,h.output,h.size,h.block⟩
theorem yj.below(h:yj w w' row bo)(hb:Below n w'' w)(hn:n≤w''.heap.size)(hr:∀g,row=some g→n≤g)(ho:n≤bo):Below n w'' w':=by
 have hg:∀k,k<n→w'.heap[k]?=w.heap[k]? :=fun k hk=>h.block k (by have:=hb.size;omega) (fun e=>by have:=hr k e.symm;omega) (by omega);exact⟨h.os.trans hb.os,h.tape.trans hb.tape,h.output.trans hb.output,Nat.le_trans hb.size h.size,fun k hk=>(hg k hk).trans (hb.block k hk)⟩
end
def PL(I:IH)(bo B:Nat)(w:World)(v:Value)(l:List Xt)(e:Ending)(w':World):Prop:=
 ∃u v',e= .returned u∧w'.heap[bo]?=some (.cells #[v'] 61 (0,0))∧aQ mU 65 I w' B v' l∧yj w w' v.ownBlock bo∧ ∀g,v'.ownBlock=some g→v.ownBlock=some g∨w.heap.size≤g
theorem Xw8(I:IH)(bo B:Nat)(v0:Value)(x:Xt)(w:World)(hv:aQ mU 65 I w B v0 [])(uY:w.heap[bo]?=some (.cells #[v0] 61 (0,0)))(hB:B≤w.heap.size):
 Calls Tryz.prog 144 #[FL x,.pointer (some ⟨bo,0,none⟩)] w (PL I bo B w v0 (kH [] x)):=by
 have Hn:=Qh (Xk6 x);obtain⟨ao,n,cap,dC,E9⟩:∃ao n cap,v0= .slice ao n cap∧n=0:=by
  obtain⟨xs,h1,_⟩:=hv;rcases h1.2 with⟨h,_⟩|⟨g,cap,cur,h,_⟩
  ·exact⟨_,_,_,h,rfl⟩
  ·exact⟨_,_,_,h,rfl⟩
 subst dC;subst E9;have nz:Below w.heap.size w (w.alloc (.cells #[.int .i64 x.s,.int .i64 x.o,.int .i64 x.n] 65)):=(Qb _ _).alloc (Qn _) _;have c0:(w.alloc (.cells #[.int .i64 x.s,.int .i64 x.o,.int .i64 x.n] 65)).cell? ⟨w.heap.size,0,none⟩=some (.int .i64 x.s):=by simp
 have c1:(w.alloc (.cells #[.int .i64 x.s,.int .i64 x.o,.int .i64 x.n] 65)).cell? ⟨w.heap.size,1,none⟩=some (.int .i64 x.o):=by simp
 have c2:(w.alloc (.cells #[.int .i64 x.s,.int .i64 x.o,.int .i64 x.n] 65)).cell? ⟨w.heap.size,2,none⟩=some (.int .i64 x.n):=by simp
 have cb:(w.alloc (.cells #[.int .i64 x.s,.int .i64 x.o,.int .i64 x.n] 65)).cell? ⟨bo,0,none⟩=some (.slice ao 0 cap):=kM _ ((cell_of_row w _ 0 _ _ _ uY).trans rfl);have gb:=cell_regrown cb;have pJ:=Qh ((Below.heap_alloc w (.cells #[.int .i64 x.s,.int .i64 x.o,.int .i64 x.n] 65) _ (Qg uY)).trans uY);have Ha:=Qh (hv.alloc (.cells #[.int .i64 x.s,.int .i64 x.o,.int .i64 x.n] 65));clear hv uY;go_enter Tryz.func144,Tryz.ntmps144
 go_wp2_with fail
 generalize(w.alloc (.cells #[.int .i64 x.s,.int .i64 x.o,.int .i64 x.n] 65))=w1 at nz c0 c1 c2 cb gb Ha pJ ⊢;refine wp_region_quiet_below (by kernel_rfl) (by kernel_rfl) ?_;repeat(go_big_quiet_step ((fail)))
 refine wpQuiet_nil ?_;intro w2 bJ;have aL:Below (w1).heap.size (w1) w2:=by
  obtain⟨pq,rfl⟩:=bJ;exact below_regrown _ _ _
 clear bJ;have nP:=nz.trans (aL.mono nz.size);replace Ha:=Qh (Ha.O.below aL);replace pJ:=Qh ((aL.block _ (Qg pJ.O)).trans pJ.O);replace c0:=aV aL c0;replace c1:=aV aL c1;replace c2:=aV aL c2;replace cb:=aV aL cb;have fb:w2.frozen? ⟨bo,0,none⟩=false:=frozen_of_row w2 _ 0 _ _ pJ.O;have qI:B≤w2.heap.size:=by have:=nP.size;omega
 have bq:(Value.slice ao 0 cap).ownBlock≠some bo:=fun e=>by
  obtain⟨_,cur,hc⟩:=wy Ha.O e;rw[pJ.O]at hc;exact absurd (Obj.cells.inj (Option.some.inj hc)).2.1 (by decide)
 have jF:=I8 nP (Value.slice ao 0 cap).ownBlock;go_wp2_with (at_builtin;refine Lx (w0:=w2) LB rfl _ _ rfl B _ _ rfl Ha.O x (ND x) _ rfl rfl (by(try simp only[List.length_nil]);omega) (by(try simp only[List.length_nil]);omega) qI ?_)
 intro v9 w9 bX bK l7;obtain⟨a9,n9,k9,rfl⟩:=Jb bX;have Vo:=fC bK bq cb;have Vp:=JZ bK bq cb fb;have dR:=LA jF bK;have bS:=jF.size;have xP:=(bK.block _ (Qg pJ.O) (fun e=>bq e.symm)).trans pJ.O;go_wp2;go_end0
 refine⟨_,_,rfl,heap_setCell_same w9 bo 0 _ _ _ xP,(by rw[Hn.O];exact bX.stored (BR bX xP (by decide)) 0 _),(yj.nQ dR bo).set 0 _,fun g h=>(l7 g h).imp id (fun h=>by omega)⟩
theorem Xw7(I:IH)(bo B:Nat)(v0:Value)(l:List Xt)(x:Xt)(w:World)(hv:aQ mU 65 I w B v0 l)(uY:w.heap[bo]?=some (.cells #[v0] 61 (0,0)))(hB:B≤w.heap.size)(h0:0<l.length)(hn:l.length≤100000)(hl:∀z∈l,XB 1099511627776 z)(hx:XB 1099511627776 x):
 Calls Tryz.prog 144 #[FL x,.pointer (some ⟨bo,0,none⟩)] w (PL I bo B w v0 (kH l x)):=by
 have nz:Below w.heap.size w (w.alloc (.cells #[.int .i64 x.s,.int .i64 x.o,.int .i64 x.n] 65)):=(Qb _ _).alloc (Qn _) _;have c0:(w.alloc (.cells #[.int .i64 x.s,.int .i64 x.o,.int .i64 x.n] 65)).cell? ⟨w.heap.size,0,none⟩=some (.int .i64 x.s):=by simp
 have c1:(w.alloc (.cells #[.int .i64 x.s,.int .i64 x.o,.int .i64 x.n] 65)).cell? ⟨w.heap.size,1,none⟩=some (.int .i64 x.o):=by simp
 have c2:(w.alloc (.cells #[.int .i64 x.s,.int .i64 x.o,.int .i64 x.n] 65)).cell? ⟨w.heap.size,2,none⟩=some (.int .i64 x.n):=by simp
 have ny:=hv.alloc (.cells #[.int .i64 x.s,.int .i64 x.o,.int .i64 x.n] 65);obtain⟨g,cap,y,rfl,Q7,hy,hbg,hlt,y0,y1,y2,jN⟩:=YP ny h0;have cb:(w.alloc (.cells #[.int .i64 x.s,.int .i64 x.o,.int .i64 x.n] 65)).cell? ⟨bo,0,none⟩=some (.slice (some ⟨g,0,none⟩) l.length cap):=kM _ ((cell_of_row w _ 0 _ _ _ uY).trans rfl);have gb:=cell_regrown cb;have pJ:=Qh ((Below.heap_alloc w (.cells #[.int .i64 x.s,.int .i64 x.o,.int .i64 x.n] 65) _ (Qg uY)).trans uY);have Ha:=Qh ny;have mQ:=Qh (fun h=>Xk8 (l:=l) (x:=x) hy h);have xO:=Qh (fun h=>Xk7 (l:=l) (x:=x) hy h);have Mo:=hl y (Xem hy);unfold XB at hx Mo;have Hy:=Qh hy;clear hv ny hl hy uY;have i1:(0:Int)<(l.length:Int):=by omega
 have m1:IntKind.i64.wrap ((l.length:Int)-1)=((l.length-1:Nat):Int):=by rw[IntWalk.i64_in _ (by omega)];omega
 have m2:IntKind.i64.wrap (y.o+y.n)=y.o+y.n:=IntWalk.i64_in _ (by omega);have m3:(l.length:Int)-1=((l.length-1:Nat):Int):=by omega
 have i2:l.length-1<l.length:=by omega
 have i3:(0:Int)≤((l.length-1:Nat):Int):=by omega
 have g0:=cell_regrown y0;have g1:=cell_regrown y1;have g2:=cell_regrown y2;have z0:=cell_regrown c0;have z1:=cell_regrown c1;have z2:=cell_regrown c2;by_cases ky:x.s=0
 ·have e1:(x.s !=0)=false:=by simpa using ky
  have e2:(x.s==0)=true:=by simpa using ky
  have Hn:=Qh (mQ.O (by rintro⟨h,_⟩;exact h ky));clear ky mQ xO;go_enter Tryz.func144,Tryz.ntmps144
  go_wp2_with fail
  generalize(w.alloc (.cells #[.int .i64 x.s,.int .i64 x.o,.int .i64 x.n] 65))=w1 at nz c0 c1 c2 cb gb Ha pJ y0 y1 y2 g0 g1 g2 z0 z1 z2 ⊢;refine wp_region_quiet_below (by kernel_rfl) (by kernel_rfl) ?_;repeat(go_big_quiet_step ((fail)))
  refine wpQuiet_nil ?_;intro w2 bJ;have aL:Below (w1).heap.size (w1) w2:=by
   obtain⟨pq,rfl⟩:=bJ;exact below_regrown _ _ _
  clear bJ;have nP:=nz.trans (aL.mono nz.size);replace Ha:=Qh (Ha.O.below aL);replace pJ:=Qh ((aL.block _ (Qg pJ.O)).trans pJ.O);replace c0:=aV aL c0;replace c1:=aV aL c1;replace c2:=aV aL c2;replace cb:=aV aL cb;have fb:w2.frozen? ⟨bo,0,none⟩=false:=frozen_of_row w2 _ 0 _ _ pJ.O;have qI:B≤w2.heap.size:=by have:=nP.size;omega
  clear y0 y1 y2 g0 g1 g2 z0 z1 z2 gb;have bq:(Value.slice (some ⟨g,0,none⟩) l.length cap).ownBlock≠some bo:=fun e=>by
   obtain⟨_,cur,hc⟩:=wy Ha.O e;rw[pJ.O]at hc;exact absurd (Obj.cells.inj (Option.some.inj hc)).2.1 (by decide)
  have jF:=I8 nP (Value.slice (some ⟨g,0,none⟩) l.length cap).ownBlock;go_wp2_with (at_builtin;refine Lx (w0:=w2) LB rfl _ _ rfl B _ _ rfl Ha.O x (ND x) _ rfl rfl (by(try simp only[List.length_nil]);omega) (by(try simp only[List.length_nil]);omega) qI ?_)
  intro v9 w9 bX bK l7;obtain⟨a9,n9,k9,rfl⟩:=Jb bX;have Vo:=fC bK bq cb;have Vp:=JZ bK bq cb fb;have dR:=LA jF bK;have bS:=jF.size;have xP:=(bK.block _ (Qg pJ.O) (fun e=>bq e.symm)).trans pJ.O;go_wp2;go_end0
  refine⟨_,_,rfl,heap_setCell_same w9 bo 0 _ _ _ xP,(by rw[Hn.O];exact bX.stored (BR bX xP (by decide)) 0 _),(yj.nQ dR bo).set 0 _,fun g h=>(l7 g h).imp id (fun h=>by omega)⟩
 have e1:(x.s !=0)=true:=by simpa using ky
 have e2:(x.s==0)=false:=by simpa using ky
 by_cases Ei:y.s=x.s;case neg=>
  have e3:(y.s==x.s)=false:=by simpa using Ei
  have Hn:=Qh (mQ.O (by rintro⟨_,h,_⟩;exact Ei h));clear ky Ei mQ xO;go_enter Tryz.func144,Tryz.ntmps144
  go_wp2_with fail
  generalize(w.alloc (.cells #[.int .i64 x.s,.int .i64 x.o,.int .i64 x.n] 65))=w1 at nz c0 c1 c2 cb gb Ha pJ y0 y1 y2 g0 g1 g2 z0 z1 z2 ⊢;refine wp_region_quiet_below (by kernel_rfl) (by kernel_rfl) ?_;repeat(go_big_quiet_step ((fail)))
  refine wpQuiet_nil ?_;intro w2 bJ;have aL:Below (w1).heap.size (w1) w2:=by
   obtain⟨pq,rfl⟩:=bJ;exact below_regrown _ _ _
  clear bJ;have nP:=nz.trans (aL.mono nz.size);replace Ha:=Qh (Ha.O.below aL);replace pJ:=Qh ((aL.block _ (Qg pJ.O)).trans pJ.O);replace c0:=aV aL c0;replace c1:=aV aL c1;replace c2:=aV aL c2;replace cb:=aV aL cb;have fb:w2.frozen? ⟨bo,0,none⟩=false:=frozen_of_row w2 _ 0 _ _ pJ.O;have qI:B≤w2.heap.size:=by have:=nP.size;omega
  clear y0 y1 y2 g0 g1 g2 z0 z1 z2 gb;have bq:(Value.slice (some ⟨g,0,none⟩) l.length cap).ownBlock≠some bo:=fun e=>by
   obtain⟨_,cur,hc⟩:=wy Ha.O e;rw[pJ.O]at hc;exact absurd (Obj.cells.inj (Option.some.inj hc)).2.1 (by decide)
  have jF:=I8 nP (Value.slice (some ⟨g,0,none⟩) l.length cap).ownBlock;go_wp2_with (at_builtin;refine Lx (w0:=w2) LB rfl _ _ rfl B _ _ rfl Ha.O x (ND x) _ rfl rfl (by(try simp only[List.length_nil]);omega) (by(try simp only[List.length_nil]);omega) qI ?_)
  intro v9 w9 bX bK l7;obtain⟨a9,n9,k9,rfl⟩:=Jb bX;have Vo:=fC bK bq cb;have Vp:=JZ bK bq cb fb;have dR:=LA jF bK;have bS:=jF.size;have xP:=(bK.block _ (Qg pJ.O) (fun e=>bq e.symm)).trans pJ.O;go_wp2;go_end0
  refine⟨_,_,rfl,heap_setCell_same w9 bo 0 _ _ _ xP,(by rw[Hn.O];exact bX.stored (BR bX xP (by decide)) 0 _),(yj.nQ dR bo).set 0 _,fun g h=>(l7 g h).imp id (fun h=>by omega)⟩
 have e3:(y.s==x.s)=true:=by simpa using Ei
 by_cases FM:y.o+y.n=x.o;case neg=>
  have e4:(y.o+y.n==x.o)=false:=by simpa using FM
  have Hn:=Qh (mQ.O (by rintro⟨_,_,h⟩;exact FM h));clear ky Ei FM mQ xO;go_enter Tryz.func144,Tryz.ntmps144
  go_wp2_with fail
  generalize(w.alloc (.cells #[.int .i64 x.s,.int .i64 x.o,.int .i64 x.n] 65))=w1 at nz c0 c1 c2 cb gb Ha pJ y0 y1 y2 g0 g1 g2 z0 z1 z2 ⊢;refine wp_region_quiet_below (by kernel_rfl) (by kernel_rfl) ?_;repeat(go_big_quiet_step ((fail)))
  refine wpQuiet_nil ?_;intro w2 bJ;have aL:Below (w1).heap.size (w1) w2:=by
   obtain⟨pq,rfl⟩:=bJ;exact below_regrown _ _ _
  clear bJ;have nP:=nz.trans (aL.mono nz.size);replace Ha:=Qh (Ha.O.below aL);replace pJ:=Qh ((aL.block _ (Qg pJ.O)).trans pJ.O);replace c0:=aV aL c0;replace c1:=aV aL c1;replace c2:=aV aL c2;replace cb:=aV aL cb;have fb:w2.frozen? ⟨bo,0,none⟩=false:=frozen_of_row w2 _ 0 _ _ pJ.O;have qI:B≤w2.heap.size:=by have:=nP.size;omega
  clear y0 y1 y2 g0 g1 g2 z0 z1 z2 gb;have bq:(Value.slice (some ⟨g,0,none⟩) l.length cap).ownBlock≠some bo:=fun e=>by
   obtain⟨_,cur,hc⟩:=wy Ha.O e;rw[pJ.O]at hc;exact absurd (Obj.cells.inj (Option.some.inj hc)).2.1 (by decide)
  have jF:=I8 nP (Value.slice (some ⟨g,0,none⟩) l.length cap).ownBlock;go_wp2_with (at_builtin;refine Lx (w0:=w2) LB rfl _ _ rfl B _ _ rfl Ha.O x (ND x) _ rfl rfl (by(try simp only[List.length_nil]);omega) (by(try simp only[List.length_nil]);omega) qI ?_)
  intro v9 w9 bX bK l7;obtain⟨a9,n9,k9,rfl⟩:=Jb bX;have Vo:=fC bK bq cb;have Vp:=JZ bK bq cb fb;have dR:=LA jF bK;have bS:=jF.size;have xP:=(bK.block _ (Qg pJ.O) (fun e=>bq e.symm)).trans pJ.O;go_wp2;go_end0
  refine⟨_,_,rfl,heap_setCell_same w9 bo 0 _ _ _ xP,(by rw[Hn.O];exact bX.stored (BR bX xP (by decide)) 0 _),(yj.nQ dR bo).set 0 _,fun g h=>(l7 g h).imp id (fun h=>by omega)⟩
 have e4:(y.o+y.n==x.o)=true:=by simpa using FM
 have Hn:=Qh (xO.O ⟨ky,Ei,FM⟩);clear ky Ei FM mQ xO;go_enter Tryz.func144,Tryz.ntmps144
 go_wp2_with fail
 generalize(w.alloc (.cells #[.int .i64 x.s,.int .i64 x.o,.int .i64 x.n] 65))=w1 at nz c0 c1 c2 cb gb Ha pJ y0 y1 y2 g0 g1 g2 z0 z1 z2 ⊢;refine wp_region_quiet_below (by kernel_rfl) (by kernel_rfl) ?_;repeat(go_big_quiet_step ((fail)))
 refine wpQuiet_nil ?_;intro w2 bJ;have aL:Below (w1).heap.size (w1) w2:=by
  obtain⟨pq,rfl⟩:=bJ;exact below_regrown _ _ _
 clear bJ;have nP:=nz.trans (aL.mono nz.size);replace Ha:=Qh (Ha.O.below aL);replace pJ:=Qh ((aL.block _ (Qg pJ.O)).trans pJ.O);replace c0:=aV aL c0;replace c1:=aV aL c1;replace c2:=aV aL c2;replace cb:=aV aL cb;have fb:w2.frozen? ⟨bo,0,none⟩=false:=frozen_of_row w2 _ 0 _ _ pJ.O;have qI:B≤w2.heap.size:=by have:=nP.size;omega
 replace y2:=aV aL y2;obtain⟨g',cap',y',dC,_,hy',_,atc,_,_,_,Vq⟩:=YP Ha.O h0;cases dC;have Wz:=Vq ((l.length-1)*3+2);have m4:IntKind.i64.wrap (y.n+x.n)=y.n+x.n:=IntWalk.i64_in _ (by omega);have jF:=I8 nP (Value.slice (some ⟨g,0,none⟩) l.length cap).ownBlock;clear y0 y1 g0 g1 g2 z0 z1 z2 gb jN Vq hy' aL c0 c1;have bq:g≠bo:=fun e=>BR Ha.O pJ.O (by decide) (by simp[Value.ownBlock,e]);go_wp2_with fail
 go_big_region
 go_wp2;refine bodyPost_ret (results_none rfl _ _ _) rfl ?_;exact⟨_,_,rfl,(heap_setCell_other _ ⟨g,(l.length-1)*3+2,none⟩ bo _ (by show bo≠g;omega)).trans pJ.O,by rw[Hn.O];exact Xo9 Ha.O Hy.O,(by first|exact(yj.nQ jF bo).PK _ _|exact((yj.nQ jF bo).PK _ _).drew|exact(yj.nQ jF bo).drew.PK _ _),fun q hq=> .inl hq⟩
theorem Xth(I:IH)(bo B:Nat)(v0:Value)(l:List Xt)(x:Xt)(w:World)(hv:aQ mU 65 I w B v0 l)(uY:w.heap[bo]?=some (.cells #[v0] 61 (0,0)))(hB:B≤w.heap.size)(hn:l.length≤100000)(hl:∀z∈l,XB 1099511627776 z)(hx:XB 1099511627776 x):
 Calls Tryz.prog 144 #[FL x,.pointer (some ⟨bo,0,none⟩)] w (PL I bo B w v0 (kH l x)):=by
 cases l with
 |nil=>exact Xw8 I bo B v0 x w hv uY hB
 |cons a l=>exact Xw7 I bo B v0 (a::l) x w hv uY hB (by simp) hn hl hx
theorem Xw6(bo:Nat)(v:Value)(w:World)(hc:w.cell? ⟨bo,0,none⟩=some v):Calls Tryz.prog 145 #[.pointer (some ⟨bo,0,none⟩)] w fun e w'=>e= .returned v∧w'=w:=by
 go_enter Tryz.func145,Tryz.ntmps145
 go_wp2;go_ret;exact⟨rfl,rfl⟩
theorem Xmy(w:World):Calls Tryz.prog 98 #[] w fun e w'=>e= .returned (.tuple #[.func (.func 144) #[] #[.pointer (some ⟨w.heap.size,0,none⟩)],.func (.func 145) #[] #[.pointer (some ⟨w.heap.size,0,none⟩)]])∧w'=w.alloc (.cells #[.slice none 0 0] 61):=by
 go_enter Tryz.func98,Tryz.ntmps98
 go_wp2;go_ret2;exact⟨rfl,rfl⟩
theorem oK{K:Act→World→Prop}(ty:TypeId)(x y:Operand)(ho:o.op= .store ty x y)
 (g off:Nat) (cs:List Value) (v:Value) (hx:a.eval x= .pointer (some ⟨g,off,none⟩)) (hy:a.eval y=v) (hv:v.cells=cs.toArray) (cur:Array Value) (tt:TypeId)
 (hg:w.heap[g]?=some (.cells cur tt (0,0))) (p9:off+cs.length≤cur.size) (hi:(P.info? ty).map (·.size)=some cs.length) (h1:∀v∈cs,v.oneCell'=true)
 (h:K (a.put o.dst undef) (w.setRow g (over cur off cs))):o.wp P a w K Q:=by
 have jO:=run_storeCells_at (P:=P) g off tt cs 0 cur w hg (by simpa using p9) h1;have hsv:(storeVar ty ⟨g,off,none⟩ v).run P w= .ok () (w.setRow g (over cur off cs)):=by
  cases hq:P.info? ty with
  |none=>simp[hq]at hi
  |some i=>
   have hs:cs.length=i.size:=by simp[hq]at hi;omega
   simp only[Nat.add_zero]at jO;simp[storeVar,sizeOf,typeInfo,hq,hv,hs,jO,over]
 unfold Oper.wp execOp;simp only[ho,hx,hy,Instr.storeAt,Instr.sureAddr,Sem.run_bind,Sem.run_pure,Result.andThen_ok,hsv];exact h
theorem Xin{w'':World}{r:Option Nat}(h:w.grownBy w' r)(k:w'.grownBy w'' r):w.grownBy w'' r:=
 ⟨k.os.trans h.os,k.tape.trans h.tape,k.output.trans h.output,Nat.le_trans h.size k.size,fun i hi hr=>(k.block i (Nat.lt_of_lt_of_le hi h.size) hr).trans (h.block i hi hr)⟩
theorem gX{s:Array Bool}(h:s.size≤i):s.getD i false=false:=by
 rw[Array.getD_eq_getD_getElem?,Array.getElem?_eq_none h];rfl
theorem Xma{s:Array Bool}(h:Lt ops s)(hp:BN ops [k,i]=true)(aH:s.getD i true=false):s.getD k false=false:=gU h [i] hp rfl aH
theorem lT{L M:List (Option Tmp×Value)}{s:Array Bool}(D:List Nat)(hl:L.length=M.length)(h:∀j,j ∉ D→L[j]?=M[j]?)(JK:∀j∈D,s.getD j false=false):dN L 0 s a=dN M 0 s a:=
 YG _ _ _ _ _ hl fun j hj=>by
  rw[Nat.zero_add]at hj;exact h j (fun e=>by rw[JK j e]at hj;cases hj)
theorem wT(h:aQ T E I w B v l):∃ao cap,v= .slice ao l.length cap:=by
 obtain⟨xs,h1,_⟩:=h;rcases h1.2 with⟨h,h0⟩|⟨g,cap,cur,h,_⟩
 ·exact⟨none,0,by rw[h,h0]⟩
 ·exact⟨_,_,h⟩
structure zh {Y:Type} (W:World) (jc ja:Nat) (Gc:Y→World→Prop) (Ga:Nat→World→Prop) (m:Nat×Y→Nat) (t:TypeId) (s1 s2 s3:Nat) (R1 R2 R3:Nat×Y→Array Value) (x:Nat×Y) (s:Array Bool) (w:World):Prop where
 off:s.getD s1 false=false→Below W.heap.size W w
 fc:s.getD jc false=true→s.getD s1 false=false→Gc x.2 w
 fa:s.getD ja false=true→s.getD s1 false=false→Ga x.1 w
 on:s.getD s1 false=true→ ∃wb,Below W.heap.size W wb∧Gc x.2 wb∧Ga x.1 wb∧wb.grownBy w (some (m x))∧
  w.heap[m x]?=some (.cells (if s.getD s3 false=true then R3 x else if s.getD s2 false=true then R2 x else R1 x) t (0,0))
section
variable {Y:Type} {W w w':World} {jc ja:Nat} {Gc:Y→World→Prop} {Ga:Nat→World→Prop} {m:Nat×Y→Nat} {t:TypeId} {s1 s2 s3:Nat} {R1 R2 R3:Nat×Y→Array Value} {x:Nat×Y} {s:Array Bool} {i:Nat}
theorem zh.start(n:Nat)(x:Nat×Y):zh W jc ja Gc Ga m t s1 s2 s3 R1 R2 R3 x (Array.replicate n false) {W with drawn:=W.drawn+1}:=
 ⟨fun _=>(Qb _ _).drew,fun h=>(by rw[wJ]at h;cases h),fun h=>(by rw[wJ]at h;cases h),fun h=>(by rw[wJ]at h;cases h)⟩
theorem zh.pure(h:zh W jc ja Gc Ga m t s1 s2 s3 R1 R2 R3 x s w)(hc:i≠jc)(ha:i≠ja)(h1:i≠s1)(h2:i≠s2)(h3:i≠s3):zh W jc ja Gc Ga m t s1 s2 s3 R1 R2 R3 x (s.setIfInBounds i true) w:=by
 refine⟨?_,?_,?_,?_⟩
 ·rw[getD_set_ne false h1];exact h.off
 ·rw[getD_set_ne false h1,getD_set_ne false hc];exact h.fc
 ·rw[getD_set_ne false h1,getD_set_ne false ha];exact h.fa
 ·rw[getD_set_ne false h1,getD_set_ne false h2,getD_set_ne false h3];exact h.on
theorem zh.call(h:zh W jc ja Gc Ga m t s1 s2 s3 R1 R2 R3 x s w)(hl:s.getD s1 false=false)(hb:Below w.heap.size w w'){y:Y}(hy:Gc y w')(yM:∀k,Ga k w→Ga k w')(ha:jc≠ja)(h1:jc≠s1):
 zh W jc ja Gc Ga m t s1 s2 s3 R1 R2 R3 (x.1,y) (s.setIfInBounds jc true) w':=by
 refine⟨fun _=>(h.off hl).trans (hb.mono (h.off hl).size),fun _ _=>hy,?_,?_⟩
 ·rw[getD_set_ne false ha];exact fun q _=>yM _ (h.fa q hl)
 ·rw[getD_set_ne false h1,hl];intro q;cases q
theorem zh.made(h:zh W jc ja Gc Ga m t s1 s2 s3 R1 R2 R3 x s w)(hl:s.getD s1 false=false)(hb:Below w.heap.size w w')(hk:Ga k w')(yN:∀y,Gc y w→Gc y w')(hc:ja≠jc)(h1:ja≠s1):
 zh W jc ja Gc Ga m t s1 s2 s3 R1 R2 R3 (k,x.2) (s.setIfInBounds ja true) w':=by
 refine⟨fun _=>(h.off hl).trans (hb.mono (h.off hl).size),?_,fun _ _=>hk,?_⟩
 ·rw[getD_set_ne false hc];exact fun q _=>yN _ (h.fc q hl)
 ·rw[getD_set_ne false h1,hl];intro q;cases q
theorem zh.jP(h:zh W jc ja Gc Ga m t s1 s2 s3 R1 R2 R3 x s w)(aH:s.getD s1 true=false)(hc:Gc x.2 w)(ha:Ga x.1 w)(h2:s.getD s2 false=false)(h3:s.getD s3 false=false)(hd:s1≠s2∧s1≠s3)
 {cur:Array Value} (hg:w.heap[m x]?=some (.cells cur t (0,0))) {R:Array Value} (hR:R=R1 x):zh W jc ja Gc Ga m t s1 s2 s3 R1 R2 R3 x (s.setIfInBounds s1 true) (w.setRow (m x) R):=by
 have e:=y9 (oO aH);have hl:s.getD s1 false=false:=gG aH;refine⟨fun q=>(by rw[e]at q;cases q),fun _ q=>(by rw[e]at q;cases q),fun _ q=>(by rw[e]at q;cases q),fun _=>⟨w,h.off hl,hc,ha,bA,?_⟩⟩;rw[getD_set_ne false hd.1,getD_set_ne false hd.2,h2,h3,hR];exact setRow_heap w (m x) cur _ t (0,0) hg
end
