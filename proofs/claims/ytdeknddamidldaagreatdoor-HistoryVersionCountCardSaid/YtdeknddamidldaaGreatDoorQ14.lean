/-
  Walks and laws that the claim's theorem uses: texts CkD CkE Inv Inw RfA RfC, joined; comments out. Conditions: as each theorem says.
-/
import Derived.Test.YtdeknddamidldaaGreatDoorQ13
namespace Go.Proofs.YtdeknddamidldaaGreatDoor
open Go.RowKit
def tCk:Ty Ck:=Ty.flat 4 (fun c=> [S c.d,.int .i64 c.x.s,.int .i64 c.x.o,.int .i64 c.x.n]) (fun _=>rfl) (fun _ u h=>by simp at h;rcases h with rfl|rfl|rfl|rfl<;>rfl)
theorem Xu6:(Tryz.prog.info? 146).map (fun i=>(i.zero,i.size,i.bytes))=some (some (.agg #[.string ⟨#[]⟩,.int .i64 0,.int .i64 0,.int .i64 0]),4,40):=by kernel_rfl
theorem Xse:ElemOk Tryz.prog 89 146 tCk 40:=ElemOk.of Tryz.underlying89 Xu6 rfl (by decide) rfl
theorem ckAt {I:IH} {v:Value} {l:List Ck} {w:World} (h:RdS tCk I v l) (hw:Ok I w) (i:Nat) (hi:i<l.length):∃x b off cap,l[i]=x∧v= .slice (some ⟨b,off,none⟩) l.length cap∧
 w.cell? ⟨b,off+i*4,none⟩=some (S x.d)∧w.cell? ⟨b,off+i*4+1,none⟩=some (.int .i64 x.x.s)∧w.cell? ⟨b,off+i*4+2,none⟩=some (.int .i64 x.x.o)∧w.cell? ⟨b,off+i*4+3,none⟩=some (.int .i64 x.x.n):=by
 obtain ⟨b,off,cap,cs,hv,hcs,hc⟩:=h.at_ hw hi
 have hcs':cs= [S l[i].d,.int .i64 l[i].x.s,.int .i64 l[i].x.o,.int .i64 l[i].x.n]:=hcs
 subst hcs'
 exact ⟨_,b,off,cap,rfl,hv,hc 0 _ rfl,hc 1 _ rfl,hc 2 _ rfl,hc 3 _ rfl⟩
abbrev stoV (s:Sto) (vc:Value):Value:= .agg #[vc,.int .i64 s.ses,S s.str]
def findR (l:List Ck) (d:Bytes):Xt × Bool:=match findX l d with|some x=>(x,true)|none=>(⟨0,0,0⟩,false)
theorem Xr0 {l:List Ck} {d:Bytes} {k:Nat} {N:Xt × Bool} (hk:k<l.length) {c:Ck} (hc:l[k]=c) (h:findR (l.drop k) d=N):(if c.d=d then (c.x,true) else findR (l.drop (k+1)) d)=N:=by
 rw [List.drop_eq_getElem_cons hk,hc] at h
 rw [←h]
 unfold findR
 rw [findX]
 split<;>rfl
set_option maxRecDepth 100000 in
set_option maxHeartbeats 1000000 in
theorem Xpg (I:IH) (s:Sto) (vc:Value) (hv:RdS tCk I vc s.cks) (d:Bytes) (w:World) (hw:Ok I w):
 Calls Tryz.prog 87 #[stoV s vc,S d] w fun e w'=>e= .returned (.tuple #[xtW (findR s.cks d).1,.bool (findR s.cks d).2])∧Below w.heap.size w w':=by
 have hln:=hv.len_le
 obtain ⟨ao,cap,rfl,_,_,_⟩:=id hv
 have Hv:=Qh hv
 obtain ⟨N,hN⟩:∃N,findR s.cks d=N:=⟨_,rfl⟩
 have HN:=Qh (show findR (s.cks.drop 0) d=N from hN)
 rw [hN]
 clear hv hN
 have b0:Below w.heap.size w (w.alloc (.cells #[.slice ao s.cks.length cap,.int .i64 s.ses,S s.str] 91)):=(Qb _ _).alloc (Qn _) _
 go_enter Tryz.func87,Tryz.ntmps87
 go_wp2_with fail
 have hok1:Ok I ((w.alloc (.cells #[.slice ao s.cks.length cap,.int .i64 s.ses,S s.str] 91)).alloc (.cells #[.int .i64 0,.int .i64 0,.int .i64 0] 73)):=(hw.alloc _).alloc _
 have Hi3:=Qh (show (Tryz.prog.info? 73).map (·.size)=some 3 by kernel_rfl)
 have Hrow:=Qh (fun c:Array Value=>show ((w.alloc (.cells #[.slice ao s.cks.length cap,.int .i64 s.ses,S s.str] 91)).alloc (.cells c 73)).heap[w.heap.size+1]? =some (.cells c 73 (0,0)) by have:=heap_alloc_new (w.alloc (.cells #[.slice ao s.cks.length cap,.int .i64 s.ses,S s.str] 91)) (.cells c 73);simpa using this)
 go_loop [6] (fun s6=> ∃k:Nat,k≤s.cks.length∧s6= .int .i64 k∧findR (s.cks.drop k) d=N) (fun i=>s.cks.length-(intOf i).toNat)
 case atStart=>exact ⟨0,Nat.zero_le _,rfl,HN.out⟩
 case round=>
  clear HN
  obtain ⟨k,hk,rfl,hr⟩:=hrel
  have Hr:=Qh hr
  clear hr
  by_cases hlt:k<s.cks.length
  ·obtain ⟨x,b,off,cap',hlx,hvv,x0,x1,x2,x3⟩:=ckAt Hv.out hok1 k hlt
   cases hvv
   have Hst:=Qh (Xr0 hlt hlx Hr.out)
   clear hlx Hr
   by_cases hd:x.d=d
   ·have Hn:=Qh (show N=(x.x,true) by have:=Hst.out;rw [if_pos hd] at this;exact this.symm)
    have hde:(x.d==d)=true:=by simpa using hd
    clear hd Hst
    go_wp2
    refine bodyPost_ret (v:= .tuple #[xtW x.x,.bool true]) ?_ rfl ?_
    ·rw [results_cell_tmp rfl]
     simp [asAddr,run_loadVar_row _ (w.heap.size+1) 73 73 #[.int .i64 x.x.s,.int .i64 x.x.o,.int .i64 x.x.n] (0,0) _ (Hrow.out _) Tryz.underlying73 rfl Hi3.out]
    ·rw [Hn.out]
     exact ⟨rfl,b0.alloc b0.size _⟩
   ·have Hn:=Qh (show findR (s.cks.drop (k+1)) d=N by have:=Hst.out;rwa [if_neg hd] at this)
    have hde:(x.d==d)=false:=by simpa using hd
    clear hd Hst
    go_wp2
    go_round
    case rel=>exact ⟨k+1,by omega,by go_num,Hn.out⟩
    case measure=>simp [intOf];omega
  ·have Hn:=Qh (show N=(⟨0,0,0⟩,false) by have:=Hr.out;rw [List.drop_of_length_le (by omega)] at this;exact this.symm)
   clear Hr
   go_wp2
   refine bodyPost_ret (v:= .tuple #[xtW ⟨0,0,0⟩,.bool false]) ?_ rfl ?_
   ·rw [results_cell_tmp rfl]
    simp [asAddr,run_loadVar_row _ (w.heap.size+1) 73 73 #[.int .i64 0,.int .i64 0,.int .i64 0] (0,0) _ (Hrow.out _) Tryz.underlying73 rfl Hi3.out]
   ·rw [Hn.out]
    exact ⟨rfl,b0.alloc b0.size _⟩
theorem Xe0 {W:World} {n:Nat} {a b c x y z:Value} {t:TypeId} (h:W.heap[n]? =some (.cells #[a,b,c] t (0,0))):(((W.setCell ⟨n,0,none⟩ x).setCell ⟨n,1,none⟩ y).setCell ⟨n,2,none⟩ z).heap[n]? =some (.cells #[x,y,z] t (0,0)):=by
 have:=heap_setCell_same _ n 2 _ _ z (heap_setCell_same _ n 1 _ _ y (heap_setCell_same W n 0 _ _ x h))
 simpa using this
abbrev stoC (s:Sto) (vc:Value):Array Value:= #[vc,.int .i64 s.ses,S s.str]
structure PutM (n:Nat) (J:IH) (W:World) (s:Sto) (l:List Xt) (vc vo:Value):Prop where
 row:W.heap[n]? =some (.cells #[vc,.int .i64 s.ses,S s.str] 91 (0,0))
 res:W.heap[n+1]? =some (.cells #[.slice none 0 0,.int .i64 0,S []] 91 (0,0))
 cks:RdS tCk J vc s.cks
 own:OwnS tXt 73 J W (n+2) vo l
 apart:∀g,vo.ownBlock=some g→J g=none
 ok:Ok J W
 free:J n=none
 freR:J (n+1)=none
section
variable {n:Nat} {I J J':IH} {W W':World} {s s':Sto} {l l':List Xt} {vc vc' vo vo':Value}
theorem PutM.lt (h:PutM n J W s l vc vo):n+1<W.heap.size:=(Array.getElem?_eq_some_iff.1 h.res).1
theorem PutM.c0 (h:PutM n J W s l vc vo):W.cell? ⟨n,0,none⟩=some vc:=(cell_of_row W _ 0 _ _ _ h.row).trans rfl
theorem PutM.c1 (h:PutM n J W s l vc vo):W.cell? ⟨n,1,none⟩=some (.int .i64 s.ses):=(cell_of_row W _ 1 _ _ _ h.row).trans rfl
theorem PutM.c2 (h:PutM n J W s l vc vo):W.cell? ⟨n,2,none⟩=some (S s.str):=(cell_of_row W _ 2 _ _ _ h.row).trans rfl
theorem PutM.fr (h:PutM n J W s l vc vo) (j:Nat):W.frozen? ⟨n,j,none⟩=false:=frozen_of_row W _ j _ _ h.row
theorem PutM.below (h:PutM n J W s l vc vo) (hb:Below W.heap.size W W'):PutM n J W' s l vc vo:=
 ⟨(hb.block _ (by have:=h.lt;omega)).trans h.row,(hb.block _ h.lt).trans h.res,h.cks,h.own.below hb,h.apart,h.ok.below (Qn _) hb,h.free,h.freR⟩
theorem PutM.past (h:PutM n J W s l vc vo) (o:Obj):PutM n J (W.alloc o) s l vc vo:=h.below ((Qb _ _).alloc (Qn _) o)
theorem Xk9 {T:Ty Xt} {E:TypeId} {B g:Nat} (h:OwnS T E J W B vo l) (hg:vo.ownBlock=some g):B≤g∧g<W.heap.size:=by
 obtain ⟨xs,h1,_⟩:=h
 exact h1.lt g hg
theorem PutM.ext (h:PutM n J W s l vc vo) (hb:Below W.heap.size W W') (hx:Ext W.heap.size J J') (hok:Ok J' W'):PutM n J' W' s l vc vo:=
 ⟨(hb.block _ (by have:=h.lt;omega)).trans h.row,(hb.block _ h.lt).trans h.res,h.cks.mono (hx.keep h.ok (Qn _)),(h.own.below hb).mono (hx.keep h.ok (Qn _)),fun g hg=>(hx g (Xk9 h.own hg).2).trans (h.apart g hg),hok,
   (hx _ (by have:=h.lt;omega)).trans h.free,(hx _ h.lt).trans h.freR⟩
theorem PutM.added (h:PutM n J W s l vc vo) (ho:OwnS tXt 73 J W' (n+2) vo' l') (hg:W.grownBy W' vo.ownBlock) (hl:∀g,vo'.ownBlock=some g→vo.ownBlock=some g∨W.heap.size≤g):PutM n J W' s l' vc vo':=by
 have hne:∀k,k<n+2→some k≠vo.ownBlock:=fun k hk e=>by have:=(Xk9 h.own e.symm).1;omega
 have hlt:=h.lt
 refine ⟨(hg.block _ (by omega) (hne _ (by omega))).trans h.row,(hg.block _ (by omega) (hne _ (by omega))).trans h.res,h.cks,ho,fun g hk=> ?_,h.ok.grown hg fun g hk=>h.apart g hk,h.free,h.freR⟩
 rcases hl g hk with h1|h1
 ·exact h.apart g h1
 ·exact h.ok.fresh h1
theorem PutM.set0 (h:PutM n J W s l vc vo) (h1:RdS tCk J vc' s'.cks) (e1:s'.ses=s.ses) (e2:s'.str=s.str):PutM n J (W.setCell ⟨n,0,none⟩ vc') s' l vc' vo:=by
 have hlt:=h.lt
 refine ⟨by rw [e1,e2];exact heap_setCell_same W n 0 _ _ vc' h.row,(heap_setCell_other W ⟨n,0,none⟩ (n+1) vc' (by simp)).trans h.res,h1,?_,h.apart,h.ok.setCell h.free _,h.free,h.freR⟩
 refine h.own.kept (row:=some n) ⟨rfl,rfl,rfl,by simp,fun k _ hk=>heap_setCell_other W ⟨n,0,none⟩ k vc' (fun e=>hk (by simp [e]))⟩ (.inr fun e=> ?_)
 have:=(Xk9 h.own e).1;omega
theorem PutM.set2 (h:PutM n J W s l vc vo) (b:Bytes):PutM n J (W.setCell ⟨n,2,none⟩ (S b)) ⟨s.cks,s.ses,b⟩ l vc vo:=by
 have hlt:=h.lt
 refine ⟨heap_setCell_same W n 2 _ _ (S b) h.row,(heap_setCell_other W ⟨n,2,none⟩ (n+1) (S b) (by simp)).trans h.res,h.cks,?_,h.apart,h.ok.setCell h.free _,h.free,h.freR⟩
 refine h.own.kept (row:=some n) ⟨rfl,rfl,rfl,by simp,fun k _ hk=>heap_setCell_other W ⟨n,2,none⟩ k (S b) (fun e=>hk (by simp [e]))⟩ (.inr fun e=> ?_)
 have:=(Xk9 h.own e).1;omega
theorem PutM.setO (h:PutM n J W s l vc vo) {b:Nat} (hb:n+2≤b) (hJ:J b=none) (hv:vo.ownBlock≠some b) (j:Nat) (u:Value):PutM n J (W.setCell ⟨b,j,none⟩ u) s l vc vo:=by
 have hlt:=h.lt
 exact ⟨(heap_setCell_other W ⟨b,j,none⟩ n u (by simp;omega)).trans h.row,(heap_setCell_other W ⟨b,j,none⟩ (n+1) u (by simp;omega)).trans h.res,h.cks,
  h.own.kept (row:=some b) ⟨rfl,rfl,rfl,by simp,fun k _ hk=>heap_setCell_other W ⟨b,j,none⟩ k u (fun e=>hk (by simp [e]))⟩ (.inr hv),h.apart,h.ok.setCell hJ _,h.free,h.freR⟩
theorem PutM.drew (h:PutM n J W s l vc vo):PutM n J W.drew s l vc vo:=⟨h.row,h.res,h.cks,h.own,h.apart,h.ok,h.free,h.freR⟩
theorem PutM.new (hw:Ok J W) (hv:RdS tCk J vc s.cks):PutM W.heap.size J (((W.alloc (.cells #[vc,.int .i64 s.ses,S s.str] 91)).alloc (.cells #[.slice none 0 0,.int .i64 0,S []] 91)).alloc (.cells #[] 73)) s [] vc (.slice (some ⟨W.heap.size+2,0,none⟩) 0 0):=by
 refine ⟨?_,?_,hv,Xn0 _ _ (by simp),fun g hg=> ?_,((hw.alloc _).alloc _).alloc _,hw.fresh (Qn _),hw.fresh (by omega)⟩
 ·rw [Below.heap_alloc _ _ _ (by simp;omega),Below.heap_alloc _ _ _ (by simp)];exact heap_alloc_new W _
 ·rw [Below.heap_alloc _ _ _ (by simp)]
  have:=heap_alloc_new (W.alloc (.cells #[vc,.int .i64 s.ses,S s.str] 91)) (.cells #[.slice none 0 0,.int .i64 0,S []] 91)
  simpa using this
 ·simp [Value.ownBlock] at hg
  exact hw.fresh (by omega)
end
theorem Xj4 {W w':World} {a:Addr} {x:Value} {row:Option Nat} (hg:W.grownBy w' row) (hne:row≠some a.block) (h:W.cell? a=some x) (hf:W.frozen? a=false):w'.frozen? a=false:=
 (World.frozen?_of_block (hg.block _ (block_lt_of_cell h) (fun e=>hne e.symm))).trans hf
theorem OwnS.freezeA {α:Type} {T:Ty α} {E:TypeId} {I:IH} {w:World} {B:Nat} {v:Value} {l:List α} (h:OwnS T E I w B v l) (hw:Ok I w) (hI:∀g,v.ownBlock=some g→I g=none):∃I',(∀b c,I b=some c→I' b=some c)∧Ext B I I'∧Ok I' w∧RdS T I' v l∧ ∀b,v.ownBlock≠some b→I' b=I b:=by
 obtain ⟨xs,⟨h1,h1'⟩,h2⟩:=h
 rcases h1' with ⟨rfl,h0⟩|⟨g,cap,cur,rfl,hb,hg,hnc,hcm,hcs,ht⟩
 ·refine ⟨I,fun _ _ h=>h,Ext.refl _ _,hw,?_,fun _ _=>rfl⟩
  have:l= []:=List.eq_nil_of_length_eq_zero h0
  subst this
  exact RdS.nil T I
 ·have hkeep:∀b c,I b=some c→(I.add g cur) b=some c:=fun b c hc=>by
   unfold IH.add
   by_cases e:b=g
   ·subst e;rw [hI _ rfl] at hc;cases hc
   ·rw [if_neg e];exact hc
  refine ⟨I.add g cur,hkeep,Ext.add hb I cur,hw.add hg,⟨_,cap,rfl,hnc,hcm,fun _=>⟨g,0,cur,rfl,by simp [IH.add],fun i hi=> ?_⟩⟩,fun b hbn=> ?_⟩
  ·obtain ⟨cs,k1,k2⟩:=h2.2 i hi
   refine ⟨cs,T.mono hkeep k1,fun j u hu=> ?_⟩
   have hx:=k2 j u hu
   rw [←ht,List.getElem?_take] at hx
   split at hx
   ·rw [Nat.zero_add,←Array.getElem?_toList];exact hx
   ·cases hx
  ·have:b≠g:=fun e=>hbn (by simp [Value.ownBlock,e])
   simp [IH.add,this]
theorem Xei:∀ {l:List Bytes} {c:Bytes},c∈l→c.length≤l.flatten.length
 |x::l,c,h=>by
  rw [List.flatten_cons,List.length_append]
  rcases List.mem_cons.1 h with rfl|h
  ·omega
  ·have:=Xei h;omega
theorem Xdz {α:Type} {T:Ty α} {E:TypeId} {I:IH} {w:World} {B:Nat} {v:Value} {l:List α} {x:α} (h:OwnS T E I w B v (l++ [x])):∃g n cap,v= .slice (some ⟨g,0,none⟩) n cap:=by
 obtain ⟨xs,h1,_⟩:=h
 rcases h1.2 with ⟨_,h0⟩|⟨g,cap,cur,h,_⟩
 ·simp at h0
 ·exact ⟨_,_,_,h⟩
theorem Xh9 {W:World} {n j i b:Nat} {u x:Value} (h:W.cell? ⟨b,i,none⟩=some x) (hne:b≠n):(W.setCell ⟨n,j,none⟩ u).cell? ⟨b,i,none⟩=some x:=by
 rw [World.cell?_of_block (Below.heap_setCell W ⟨n,j,none⟩ u b hne)];exact h
structure BdP (L C:Nat) (m:Nat) (s:Sto) (l:List Xt):Prop where
 s0:1≤s.ses
 s1:s.ses≤255
 str:s.str.length≤L+65536*m
 cks:s.cks.length≤C+m
 cx:∀c∈s.cks,XB 65536 c.x
 len:l.length≤m
 xs:∀z∈l,XB (65536*m) z
theorem BdP.add {L C m:Nat} {s:Sto} {l:List Xt} (h:BdP L C m s l) {x:Xt} (hx:XB 65536 x):BdP L C (m+1) s (addX l x):=
 ⟨h.s0,h.s1,by have:=h.str;omega,by have:=h.cks;omega,h.cx,by have:=(Xub l x).1;have:=h.len;omega,fun z hz=>(Xvl (by decide) h.xs hx (by omega) z hz).mono (by omega)⟩
theorem Xlv:∀ {l:List Ck} {d:Bytes} {x:Xt},findX l d=some x→ ∃c∈l,c.x=x
 |c::l,d,x,h=>by
  rw [findX] at h
  split at h
  ·exact ⟨c,List.mem_cons_self ..,Option.some.inj h⟩
  ·obtain ⟨c',h1,h2⟩:=Xlv h
   exact ⟨c',List.mem_cons_of_mem _ h1,h2⟩
theorem Xjs {L C m:Nat} {s:Sto} {l:List Xt} (h:BdP L C m s l) (hL:L≤4294967296) (hm:m≤65536) {c:Bytes} (hc:c.length≤65536):XB 65536 (newX s c):=by
 have:=h.s0;have:=h.s1;have:=h.str
 unfold XB newX
 simp only
 omega
theorem BdP.grow {L C m:Nat} {s:Sto} {l:List Xt} (h:BdP L C m s l) (hL:L≤4294967296) (hm:m≤65536) {c:Bytes} (hc:c.length≤65536):
 BdP L C (m+1) ⟨s.cks++ [⟨sumP c,newX s c⟩],s.ses,s.str++c⟩ (addX l (newX s c)):=by
 have ha:=h.add (Xjs h hL hm hc)
 refine ⟨h.s0,h.s1,?_,?_,fun k hk=> ?_,ha.len,ha.xs⟩
 ·have:=h.str;simp;omega
 ·have:=h.cks;simp;omega
 ·rcases List.mem_append.1 hk with hk|hk
  ·exact h.cx k hk
  ·simp at hk;subst hk;exact Xjs h hL hm hc
theorem BdP.grow' {L C m:Nat} {s:Sto} {l:List Xt} (h:BdP L C m s l) (hL:L≤4294967296) (hm:m≤65536) {c dg:Bytes} (hc:c.length≤65536):
 BdP L C (m+1) ⟨s.cks++ [⟨dg,newX s c⟩],s.ses,s.str++c⟩ (addX l (newX s c)):=by
 have ha:=h.grow hL hm hc
 refine ⟨h.s0,h.s1,ha.str,by have:=ha.cks;simpa using this,fun k hk=> ?_,ha.len,ha.xs⟩
 rcases List.mem_append.1 hk with hk|hk
 ·exact h.cx k hk
 ·simp at hk;subst hk;exact Xjs h hL hm hc
theorem Xur {s:Sto} {c:Bytes} {l:List Xt} {x:Xt} (h:findX s.cks (sumP c)=some x):putO (s,l) c=(s,addX l x):=by
 unfold putO putC;simp only [h]
theorem Xuq {s:Sto} {c:Bytes} {l:List Xt} (h:findX s.cks (sumP c)=none):putO (s,l) c=(⟨s.cks++ [⟨sumP c,newX s c⟩],s.ses,s.str++c⟩,addX l (newX s c)):=by
 unfold putO putC;simp only [h]
theorem Xlt {α β:Type} {f:β→α→β} {l:List α} {k:Nat} {p R:β} (hk:k<l.length) {x:α} (hx:l[k]=x) (h:(l.drop k).foldl f p=R):(l.drop (k+1)).foldl f (f p x)=R:=by
 rw [List.drop_eq_getElem_cons hk,hx,List.foldl_cons] at h;exact h
section
variable {P:Program} {ops:Array Oper} {md:Region.Mode} {Q:Exit→Act→World→Prop}
def leftN (s:Array Bool):Nat:=s.toList.countP (!·)
theorem Xi7:∀(l:List Bool) (i:Nat),l[i]? =some false→(l.set i true).countP (!·)+1=l.countP (!·)
 | [],_,h=>absurd h (by simp)
 |b::l,0,h=>by
  simp at h
  subst h
  simp
 |b::l,i+1,h=>by
  have:=Xi7 l i (by simpa using h)
  simp only [List.set_cons_succ,List.countP_cons]
  omega
theorem Xi3 {s:Array Bool} {i:Nat} (h:s.getD i true=false):s.toList[i]? =some false:=by
 rw [Array.getElem?_toList]
 rw [Array.getD_eq_getD_getElem?] at h
 cases hs:s[i]? with
 |none=>rw [hs] at h;simp at h
 |some b=>rw [hs] at h;simpa using h
theorem Xlg {s:Array Bool} {i:Nat} (h:s.getD i true=false):leftN (s.setIfInBounds i true)+1=leftN s:=by
 unfold leftN
 rw [Array.toList_setIfInBounds]
 exact Xi7 _ _ (Xi3 h)
theorem Xri {s:Array Bool} {i:Nat} (h:s.getD i true=false):0<leftN s:=by have:=Xlg h;omega
theorem Xqa {J:Array Bool→Act→World→Prop} (hstep:∀s a w i,J s a w→i∈Region.ready md ops s→wpOp P ops Q i (fun a' w'=>J (s.setIfInBounds i true) a' w') a w)
 (hend:∀s a w,J s a w→Region.ready md ops s= []→Q .normal a w):∀(f:Nat) (s:Array Bool) (a:Act) (w:World),leftN s≤f→J s a w→wpAny P md ops Q f s a w:=by
 intro f
 induction f with
 |zero=>
  intro s a w hf hJ
  have hr:Region.ready md ops s= []:=by
   cases h:Region.ready md ops s with
   |nil=>rfl
   |cons j l=>
    have:=Xri (mem_ready.1 (show j∈Region.ready md ops s by rw [h];exact List.mem_cons_self ..)).1
    omega
  exact ⟨hr,hend s a w hJ hr⟩
 |succ f ih=>
  intro s a w hf hJ
  refine ⟨hend s a w hJ,fun i hi=>wpOp_mono (fun a' w' h=>ih _ _ _ ?_ h) (hstep s a w i hJ hi)⟩
  have:=Xlg (mem_ready.1 hi).1
  omega
theorem Xnh (n:Nat):leftN (Array.replicate n false)=n:=by
 simp [leftN,List.countP_replicate]
theorem Xjb {id:Nat} {a:Act} {w:World} (J:Array Bool→Act→World→Prop) (hm:P.follows .mixedOrders=true) (h0:J (Array.replicate ops.size false) a { w with drawn:=w.drawn+1 })
 (hstep:∀s a w i,J s a w→i∈Region.ready .any ops s→wpOp P ops Q i (fun a' w'=>J (s.setIfInBounds i true) a' w') a w)
 (hend:∀s a w,J s a w→Region.ready .any ops s= []→Q .normal a w):(Code.region id ops true).wp P Q a w:=
 wp_region_any hm (Xqa hstep hend _ _ _ _ (by rw [Xnh];exact Qn _) h0)
def fillA:List (Option Tmp × Value)→Nat→Array Bool→Act→Act
 | [],_,_,a=>a
 |(d,v)::l,k,s,a=>fillA l (k+1) s (if s.getD k false then a.put d v else a)
theorem Xq1 (a:Act) {d e:Option Tmp} (u v:Value) (h:∀t,d=some t→e≠some t):(a.put d u).put e v=(a.put e v).put d u:=by
 cases d with
 |none=>rfl
 |some d=>
  cases e with
  |none=>rfl
  |some e=>
   have hne:d≠e:=fun h'=>h d rfl (by rw [h'])
   simp only [Act.put]
   rw [Array.setIfInBounds_comm _ _ hne]
def ApartF (l:List (Option Tmp × Value)):Prop:=l.Pairwise fun p q=> ∀t,p.1=some t→q.1≠some t
theorem Xj5:∀(l:List (Option Tmp × Value)) (k:Nat) (s:Array Bool) (a:Act) (d:Option Tmp) (v:Value),(∀p∈l,∀t,d=some t→p.1≠some t)→fillA l k s (a.put d v)=(fillA l k s a).put d v
 | [],_,_,_,_,_,_=>rfl
 |(e,u)::l,k,s,a,d,v,h=>by
  rw [fillA,fillA]
  split
  ·rw [Xq1 a v u (h (e,u) (List.mem_cons_self ..)),Xj5 l _ _ _ _ _ fun p hp=>h p (List.mem_cons_of_mem _ hp)]
  ·rw [Xj5 l _ _ _ _ _ fun p hp=>h p (List.mem_cons_of_mem _ hp)]
theorem Xi4:∀(l:List (Option Tmp × Value)) (k:Nat) (s:Array Bool) (a:Act) (i:Nat),i<k→fillA l k (s.setIfInBounds i true) a=fillA l k s a
 | [],_,_,_,_,_=>rfl
 |(e,u)::l,k,s,a,i,h=>by
  rw [fillA,fillA,getD_set_ne false (by omega),Xi4 l (k+1) s _ i (by omega)]
theorem Xol:∀(l:List (Option Tmp × Value)) (k i:Nat) (s:Array Bool) (a:Act) (d:Option Tmp) (v:Value),ApartF l→l[i]? =some (d,v)→s.getD (k+i) true=false→(fillA l k s a).put d v=fillA l k (s.setIfInBounds (k+i) true) a
 | [],_,_,_,_,_,_,_,h,_=>absurd h (by simp)
 |(e,u)::l,k,0,s,a,d,v,hp,h,hs=>by
  simp at h
  obtain ⟨rfl,rfl⟩:=h
  have hf:s.getD k false=false:=by
   rw [Nat.add_zero] at hs
   rw [Array.getD_eq_getD_getElem?] at hs ⊢
   cases hk:s[k]? with
   |none=>rw [hk] at hs;simp at hs
   |some b=>rw [hk] at hs;simpa using hs
  have ht:(s.setIfInBounds k true).getD k false=true:=by
   have hlt:k<s.size:=by
    rw [Nat.add_zero] at hs
    have:=Xi3 hs
    have:=(List.getElem?_eq_some_iff.1 this).1
    simpa using this
   simp [Array.getD_eq_getD_getElem?,hlt]
  simp only [Nat.add_zero]
  rw [fillA,fillA,ht,hf]
  simp only [Bool.false_eq_true,if_false,if_true]
  rw [Xi4 l (k+1) s _ k (by omega),Xj5]
  exact fun p hm t=>(List.pairwise_cons.1 hp).1 p hm t
 |(e,u)::l,k,i+1,s,a,d,v,hp,h,hs=>by
  rw [fillA,fillA,getD_set_ne false (by omega),show k+(i+1)=k+1+i by omega]
  exact Xol l (k+1) i s _ d v (List.pairwise_cons.1 hp).2 (by simpa using h) (by rw [←hs];congr 1;omega)
theorem Xnc (a:Act) {d:Option Tmp} {t:Tmp} (v:Value) (h:d≠some t):(a.put d v).eval (.tmp t)=a.eval (.tmp t):=
 Act.eval_put fun d' hd e=>h (by rw [hd];injection e with e;rw [e])
theorem Xtc (a:Act) (d:Option Tmp) (v:Value):(a.put d v).tmps.size=a.tmps.size:=by cases d<;>simp [Act.put]
theorem Xdq:∀(l:List (Option Tmp × Value)) (k:Nat) (s:Array Bool) (a:Act) (t:Tmp),(∀p∈l,p.1≠some t)→(fillA l k s a).eval (.tmp t)=a.eval (.tmp t)
 | [],_,_,_,_,_=>rfl
 |(e,u)::l,k,s,a,t,h=>by
  rw [fillA,Xdq l _ _ _ _ fun p hp=>h p (List.mem_cons_of_mem _ hp)]
  split
  ·exact Xnc a u (h (e,u) (List.mem_cons_self ..))
  ·rfl
theorem Xlw:∀(l:List (Option Tmp × Value)) (k i:Nat) (s:Array Bool) (a:Act) (t:Tmp) (v:Value),ApartF l→l[i]? =some (some t,v)→s.getD (k+i) false=true→t<a.tmps.size→(fillA l k s a).eval (.tmp t)=v
 | [],_,_,_,_,_,_,_,h,_,_=>absurd h (by simp)
 |(e,u)::l,k,0,s,a,t,v,hp,h,hs,ht=>by
  simp at h
  obtain ⟨rfl,rfl⟩:=h
  rw [Nat.add_zero] at hs
  rw [fillA,hs,if_pos rfl,Xdq l _ _ _ _ fun p hm e=>(List.pairwise_cons.1 hp).1 p hm t rfl e]
  simp [Act.put,Act.eval,Array.getD_eq_getD_getElem?,ht]
 |(e,u)::l,k,i+1,s,a,t,v,hp,h,hs,ht=>by
  rw [fillA]
  refine Xlw l (k+1) i s _ t v (List.pairwise_cons.1 hp).2 (by simpa using h) (by rw [←hs];congr 1;omega) ?_
  split
  ·rw [Xtc];exact ht
  ·exact ht
theorem Xfx:∀(l m:List (Option Tmp × Value)) (k:Nat) (s:Array Bool) (a:Act),l.length=m.length→(∀i,s.getD (k+i) false=true→l[i]? =m[i]?)→fillA l k s a=fillA m k s a
 | [],[],_,_,_,_,_=>rfl
 | [],_::_,_,_,_,h,_=>absurd h (by simp)
 |_::_,[],_,_,_,h,_=>absurd h (by simp)
 |(e,u)::l,(f,v)::m,k,s,a,hl,h=>by
  rw [fillA,fillA]
  have hrest:∀a',fillA l (k+1) s a'=fillA m (k+1) s a':=fun a'=>Xfx l m (k+1) s a' (by simpa using hl) fun i hi=>by
   have:=h (i+1) (by rw [←hi];congr 1;omega)
   simpa using this
  cases hk:s.getD k false
  ·simp only [Bool.false_eq_true,if_false];exact hrest a
  ·have:=h 0 hk
   simp at this
   obtain ⟨rfl,rfl⟩:=this
   simp only [if_true];exact hrest _
theorem Xr1 (l:List (Option Tmp × Value)) (a:Act):∀(k n:Nat),fillA l k (Array.replicate n false) a=a:=by
 induction l generalizing a with
 |nil=>intro k n;rfl
 |cons p l ih=>
  intro k n
  obtain ⟨d,v⟩:=p
  have:(Array.replicate n false).getD k false=false:=by
   rw [Array.getD_eq_getD_getElem?]
   rw [Array.getElem?_replicate]
   split<;>rfl
  rw [fillA,this]
  simp only [Bool.false_eq_true,if_false]
  exact ih a _ _
end
section
variable {P:Program} {ops:Array Oper} {Q:Exit→Act→World→Prop}
def backB (ops:Array Oper):Bool:=(List.range ops.size).all fun i=>((ops[i]?).map fun o=>o.after.all fun e=>decide (e.on<i)).getD true
def fillAll:List (Option Tmp × Value)→Act→Act
 | [],a=>a
 |(d,v)::l,a=>fillAll l (a.put d v)
theorem Xb8:∀(l:List (Option Tmp × Value)) (k:Nat) (s:Array Bool) (a:Act),(∀i,i<l.length→s.getD (k+i) false=true)→fillA l k s a=fillAll l a
 | [],_,_,_,_=>rfl
 |(d,v)::l,k,s,a,h=>by
  have h0:=h 0 (by simp)
  rw [Nat.add_zero] at h0
  rw [fillA,h0,if_pos rfl,fillAll]
  exact Xb8 l (k+1) s _ fun i hi=>by
   have:=h (i+1) (by simp;omega)
   rw [←this];congr 1;omega
end
theorem Xaf {L:List (Option Tmp × Value)} {s:Array Bool} {a a':Act} {i:Nat} {d:Option Tmp} {v:Value} (hp:ApartF L) (ha:a'=fillA L 0 s a) (hi:L[i]? =some (d,v)) (hun:s.getD i true=false):a'.put d v=fillA L 0 (s.setIfInBounds i true) a:=by
 have h:=Xol L 0 i s a d v hp hi (by rw [Nat.zero_add];exact hun)
 rw [ha,h,Nat.zero_add]
theorem Xaq {L:List (Option Tmp × Value)} {s:Array Bool} {a a':Act} {i:Nat} {t:Tmp} {v:Value} (hp:ApartF L) (ha:a'=fillA L 0 s a) (hi:L[i]? =some (some t,v)) (hs:s.getD i false=true) (ht:t<a.tmps.size):a'.tmps[t]?.getD undef=v:=by
 have h:=Xlw L 0 i s a t v hp hi (by rw [Nat.zero_add];exact hs) ht
 rw [←ha] at h
 simpa [Act.eval] using h
theorem Xbv {L:List (Option Tmp × Value)} {s:Array Bool} {a a':Act} {t:Tmp} (ha:a'=fillA L 0 s a) (h:∀p∈L,p.1≠some t):a'.tmps[t]?.getD undef=a.tmps[t]?.getD undef:=by
 have h:=Xdq L 0 s a t h
 rw [←ha] at h
 simpa [Act.eval] using h
theorem Xas {s:Array Bool} {i:Nat} (h:s.getD i true=false):s.getD i false=false:=by
 rw [Array.getD_eq_getD_getElem?] at h ⊢
 cases hs:s[i]? with
 |none=>rfl
 |some b=>rw [hs] at h;simpa using h
theorem Xgf {s:Array Bool} {i:Nat} (h:s.getD i true=false):i<s.size:=by
 rcases Nat.lt_or_ge i s.size with h'|h'
 ·exact h'
 ·rw [Array.getD_eq_getD_getElem?,Array.getElem?_eq_none h'] at h;simp at h
theorem Xbn (n i:Nat):(Array.replicate n false).getD i false=false:=by
 rw [Array.getD_eq_getD_getElem?,Array.getElem?_replicate]
 split<;>rfl
theorem Xav {s:Array Bool} {i:Nat} (h:i<s.size):(s.setIfInBounds i true).getD i false=true:=by
 rw [Array.getD_eq_getD_getElem?,Array.getElem?_setIfInBounds_self_of_lt h];rfl
theorem Xh1 {L M:List (Option Tmp × Value)} {s:Array Bool} {a:Act} (i:Nat) (hl:L.length=M.length) (h:∀j,j≠i→L[j]? =M[j]?) (hun:s.getD i true=false):fillA L 0 s a=fillA M 0 s a:=
 Xfx _ _ _ _ _ hl fun j hj=>by
  rw [Nat.zero_add] at hj
  exact h j fun e=>by rw [e,Xas hun] at hj;cases hj
def backB2 (ops:Array Oper):Bool:=(List.range ops.size).all fun i=>((ops[i]?).map fun o=>o.after.all fun e=> !(Region.binds .any e) || decide (e.on<i)).getD true
theorem Xvh {ops:Array Oper} {s:Array Bool} (hb:backB2 ops=true) (hr:Region.ready .any ops s= []) (hsz:s.size=ops.size):∀i,i<ops.size→s.getD i false=true:=by
 intro i
 induction i using Nat.strongRecOn with
 |_ i ih=>
  intro hi
  cases hs:s.getD i false with
  |true=>rfl
  |false=>
   exfalso
   have hs':s.getD i true=false:=by
    rw [Array.getD_eq_getD_getElem?] at hs ⊢
    have hlt:i<s.size:=by omega
    rw [Array.getElem?_eq_getElem hlt] at hs ⊢
    simpa using hs
   have:i∈Region.ready .any ops s:=mem_ready.2 ⟨hs',ops[i],Array.getElem?_eq_getElem hi,fun e he hbd=> ?_⟩
   ·rw [hr] at this;exact absurd this (by simp)
   ·have h:=List.all_eq_true.1 hb i (List.mem_range.2 hi)
    rw [Array.getElem?_eq_getElem hi] at h
    simp only [Option.map_some,Option.getD_some] at h
    obtain ⟨j,hj,rfl⟩:=Array.getElem_of_mem he
    have h2:=Array.all_eq_true.1 h j hj
    rw [hbd] at h2
    have h3:ops[i].after[j].on<i:=by simpa using h2
    exact ih _ h3 (by omega)
theorem Xa3 {P:Program} {ops:Array Oper} {Q:Exit→Act→World→Prop} {X:Type} {id:Nat} {a:Act} {w:World} (L:X→List (Option Tmp × Value)) (C:X→Array Bool→World→Prop) (hm:P.follows .mixedOrders=true) (hb:backB2 ops=true) (h0:∃x,C x (Array.replicate ops.size false) { w with drawn:=w.drawn+1 })
 (hstep:∀x s a' w' i,s.size=ops.size→a'=fillA (L x) 0 s a→C x s w'→i∈Region.ready .any ops s→wpOp P ops Q i (fun a'' w''=> ∃y,a''=fillA (L y) 0 (s.setIfInBounds i true) a∧C y (s.setIfInBounds i true) w'') a' w')
 (hend:∀x s a' w',(∀i,i<ops.size→s.getD i false=true)→a'=fillA (L x) 0 s a→C x s w'→Q .normal a' w'):(Code.region id ops true).wp P Q a w:=by
 refine Xjb (fun s a' w'=>s.size=ops.size∧ ∃x,a'=fillA (L x) 0 s a∧C x s w') hm ?_ ?_ ?_
 ·obtain ⟨x,hx⟩:=h0
  exact ⟨by simp,x,(Xr1 _ _ _ _).symm,hx⟩
 ·rintro s a' w' i ⟨hsz,x,ha,hx⟩ hi
  exact wpOp_mono (fun a'' w'' ⟨y,h1,h2⟩=>⟨by simpa using hsz,y,h1,h2⟩) (hstep x s a' w' i hsz ha hx hi)
 ·rintro s a' w' ⟨hsz,x,ha,hx⟩ hr
  exact hend x s a' w' (Xvh hb hr hsz) ha hx
theorem Xhc {P:Program} {α:Type} {T:Ty α} {I:IH} {ts te ty:TypeId} {bytes:Nat} (hE:ElemOk P ts te T bytes) {w:World} {B:Nat} {v:Value} {l:List α} (hown:OwnS T te I w B v l) {vx:Value} {ys:List α} (hy:SrcS T I w vx ys)
 (hbig:(l.length+ys.length)*bytes≤140737488355328) (hl:l.length+ys.length≤9223372036854775807) (hB:B≤w.heap.size):
 ∃v' w',(Builtin.append_ #[ts,ts] ty #[v,vx]).run P w= .ok v' w'∧OwnS T te I w' B v' (l++ys)∧w.grownBy w' v.ownBlock∧ ∀g,v'.ownBlock=some g→v.ownBlock=some g∨w.heap.size≤g:=by
 obtain ⟨i,z,h1,h2,h3,h4,h5,h6,h7⟩:=hE
 obtain ⟨ao,c,cs,rfl,k1,k2⟩:=hy
 obtain ⟨xs,k3,k4⟩:=hown
 rcases Nat.eq_zero_or_pos ys.length with h0|h0
 ·have:ys= []:=List.eq_nil_of_length_eq_zero h0
  subst this
  have hv:∃b n cap,v= .slice b n cap∧n≤cap:=by
   rcases k3.2 with ⟨h8,_⟩|⟨g,cap,cur,h8,_,_,h9,_⟩
   ·exact ⟨_,_,_,h8,Qn _⟩
   ·exact ⟨_,_,_,h8,h9⟩
  obtain ⟨b,n,cap,rfl,hn⟩:=hv
  refine ⟨_,w,Xde h1 h2 w b ao n cap c hn,⟨xs,by rw [List.append_nil];exact k3,by rw [List.append_nil];exact k4⟩,⟨rfl,rfl,rfl,Qn _,fun _ _ _=>rfl⟩,fun g hg=> .inl hg⟩
 ·obtain ⟨ad,rfl,hcs⟩:=k2 h0
  obtain ⟨v',w',hr,r1,r2,_,r4⟩:=run_append_own_at (P:=P) w B ts ty te i z T.size bytes h1 h2 h3 h4 h5 h6 h7 v l.length xs k3 ad ys.length c cs k1.1 hcs k1.oneCell (by unfold maxLen;omega) hbig hB
  refine ⟨v',w',hr,⟨xs++cs,by rw [List.length_append];exact r1,k4.append k1⟩,r2,fun g hg=> ?_⟩
  rcases r4 with r4|r4
  ·exact .inl (r4▸hg)
  ·rw [r4] at hg
   exact .inr (by cases hg;exact Qn _)
theorem Xbg {P:Program} {α:Type} {T:Ty α} {I:IH} {ts te:TypeId} {bytes:Nat} (hE:ElemOk P ts te T bytes) {w:World} {o:Oper} {a:Act} {K:Act→World→Prop} {Q:Exit→Act→World→Prop} (s x:Operand)
 (ho:o.op= .call { callee:= .builtin .append,args:= #[s,x],argTypes:= #[ts,ts] }) {B:Nat} {v:Value} {l:List α} (hs:a.eval s=v) (hown:OwnS T te I w B v l) {vx:Value} {ys:List α} (hx:a.eval x=vx) (hy:SrcS T I w vx ys)
 (hbig:(l.length+ys.length)*bytes≤140737488355328) (hl:l.length+ys.length≤9223372036854775807) (hB:B≤w.heap.size)
 (h:∀v' w',OwnS T te I w' B v' (l++ys)→w.grownBy w' v.ownBlock→(∀g,v'.ownBlock=some g→v.ownBlock=some g∨w.heap.size≤g)→K (a.put o.dst v') w'):Oper.wp P o a w K Q:=by
 obtain ⟨v',w',hr,h1,h2,h3⟩:=Xhc (ty:=o.type) hE hown hy hbig hl hB
 unfold Oper.wp execOp
 simp only [ho,resolve,invoke,builtin,Sem.run_bind,Sem.run_pure,Result.andThen_ok,List.map_toArray,List.map_cons,List.map_nil,hs,hx,hr]
 exact h v' w' h1 h2 h3
structure A2X where
 e:Nat
 b:Nat
 v1:Value
 v2:Value
structure A2C {α:Type} (T:Ty α) (E:TypeId) (I:IH) (w3:World) (l:List α) (y:α) (row:Array Value) (i0 i2 i4 i5:Nat) (x:A2X) (s:Array Bool) (w:World):Prop where
 bel:Below w3.heap.size w3 w
 p0:s.getD i0 false=true→s.getD i2 false=false→OwnS T E I w w3.heap.size (.slice (some ⟨x.e,0,none⟩) 0 0) []
 p2:s.getD i2 false=true→s.getD i5 false=false→OwnS T E I w w3.heap.size x.v1 l
 p4:s.getD i4 false=true→s.getD i5 false=false→w.heap[x.b]? =some (.cells row E (0,0))
 p5:s.getD i5 false=true→OwnS T E I w w3.heap.size x.v2 (l++ [y])
 n0:s.getD i0 false=true→s.getD i2 false=false→s.getD i4 false=true→x.e≠x.b
 n2:s.getD i2 false=true→s.getD i4 false=true→s.getD i5 false=false→x.v1.ownBlock≠some x.b
 o2:s.getD i2 false=true→s.getD i0 false=true
 o5:s.getD i5 false=true→s.getD i2 false=true∧s.getD i4 false=true
section
variable {α:Type} {T:Ty α} {E:TypeId} {I:IH} {w3 w w':World} {l:List α} {y:α} {row:Array Value} {i0 i2 i4 i5:Nat} {x:A2X} {s:Array Bool}
theorem A2C.start (n:Nat) (x:A2X):A2C T E I w3 l y row i0 i2 i4 i5 x (Array.replicate n false) { w3 with drawn:=w3.drawn+1 }:=by
 refine ⟨(Qb _ _).drew,?_,?_,?_,?_,?_,?_,?_,?_⟩<;>(intro h;rw [Xbn] at h;cases h)
theorem Xjr {v:Value} {l:List α} {B g:Nat} (h:OwnS T E I w B v l) (hg:v.ownBlock=some g):B≤g∧g<w.heap.size:=by
 obtain ⟨xs,h1,_⟩:=h
 exact h1.lt g hg
theorem A2C.step (h:A2C T E I w3 l y row i0 i2 i4 i5 x s w) (hb:Below w.heap.size w w') {i:Nat} (h0:i≠i0) (h2:i≠i2) (h4:i≠i4) (h5:i≠i5):A2C T E I w3 l y row i0 i2 i4 i5 x (s.setIfInBounds i true) w':=by
 have e0:(s.setIfInBounds i true).getD i0 false=s.getD i0 false:=getD_set_ne false h0
 have e2:(s.setIfInBounds i true).getD i2 false=s.getD i2 false:=getD_set_ne false h2
 have e4:(s.setIfInBounds i true).getD i4 false=s.getD i4 false:=getD_set_ne false h4
 have e5:(s.setIfInBounds i true).getD i5 false=s.getD i5 false:=getD_set_ne false h5
 refine ⟨h.bel.trans (hb.mono h.bel.size),?_,?_,?_,?_,?_,?_,?_,?_⟩<;>simp only [e0,e2,e4,e5]
 ·exact fun a b=>(h.p0 a b).below hb
 ·exact fun a b=>(h.p2 a b).below hb
 ·exact fun a b=>(hb.block _ (Array.getElem?_eq_some_iff.1 (h.p4 a b)).1).trans (h.p4 a b)
 ·exact fun a=>(h.p5 a).below hb
 ·exact h.n0
 ·exact h.n2
 ·exact h.o2
 ·exact h.o5
theorem A2C.at0 (h:A2C T E I w3 l y row i0 i2 i4 i5 x s w) (hun:s.getD i0 true=false) (hd:i0<i2∧i2<i4∧i4<i5):A2C T E I w3 l y row i0 i2 i4 i5 { x with e:=w.heap.size } (s.setIfInBounds i0 true) (w.alloc (.cells #[] E)):=by
 have u0:=Xas hun
 have e0:=Xav (Xgf hun)
 have e2:(s.setIfInBounds i0 true).getD i2 false=s.getD i2 false:=getD_set_ne false (by omega)
 have e4:(s.setIfInBounds i0 true).getD i4 false=s.getD i4 false:=getD_set_ne false (by omega)
 have e5:(s.setIfInBounds i0 true).getD i5 false=s.getD i5 false:=getD_set_ne false (by omega)
 have f2:s.getD i2 false=false:=by
  cases q:s.getD i2 false with
  |false=>rfl
  |true=>rw [h.o2 q] at u0;cases u0
 have f5:s.getD i5 false=false:=by
  cases q:s.getD i5 false with
  |false=>rfl
  |true=>rw [(h.o5 q).1] at f2;cases f2
 refine ⟨h.bel.alloc h.bel.size _,?_,?_,?_,?_,?_,?_,?_,?_⟩<;>simp only [e0,e2,e4,e5,f2,f5,Bool.false_eq_true,false_imp_iff,forall_const]
 ·have h7:=(World.ownsRow_made w #[] 0 (Qn _) (Nat.zero_le _) (e:=E) (size:=T.size) (by simp))
  exact OwnS.lower (show OwnS T E I _ w.heap.size _ [] from ⟨[],h7,LiesL.nil _ _⟩) h.bel.size
 ·exact fun a=>(Below.heap_alloc _ _ _ (Array.getElem?_eq_some_iff.1 (h.p4 a f5)).1).trans (h.p4 a f5)
 ·intro a
  have:=(Array.getElem?_eq_some_iff.1 (h.p4 a f5)).1
  show w.heap.size≠x.b
  omega
theorem A2C.at4 (h:A2C T E I w3 l y row i0 i2 i4 i5 x s w) (hun:s.getD i4 true=false) (hd:i0<i2∧i2<i4∧i4<i5):A2C T E I w3 l y row i0 i2 i4 i5 { x with b:=w.heap.size } (s.setIfInBounds i4 true) (w.alloc (.cells row E)):=by
 have u4:=Xas hun
 have e4:=Xav (Xgf hun)
 have e0:(s.setIfInBounds i4 true).getD i0 false=s.getD i0 false:=getD_set_ne false (by omega)
 have e2:(s.setIfInBounds i4 true).getD i2 false=s.getD i2 false:=getD_set_ne false (by omega)
 have e5:(s.setIfInBounds i4 true).getD i5 false=s.getD i5 false:=getD_set_ne false (by omega)
 have f5:s.getD i5 false=false:=by
  cases q:s.getD i5 false with
  |false=>rfl
  |true=>rw [(h.o5 q).2] at u4;cases u4
 refine ⟨h.bel.alloc h.bel.size _,?_,?_,?_,?_,?_,?_,?_,?_⟩<;>simp only [e0,e2,e4,e5,f5,Bool.false_eq_true,false_imp_iff,forall_const]
 ·exact fun a b=>(h.p0 a b).alloc _
 ·exact fun a=>(h.p2 a f5).alloc _
 ·exact heap_alloc_new w _
 ·intro a b
  have:=(Xjr (g:=x.e) (h.p0 a b) (by simp [Value.ownBlock])).2
  show x.e≠w.heap.size
  omega
 ·intro a q
  have:=(Xjr (h.p2 a f5) q).2
  have:w.heap.size<w.heap.size:=this
  omega
 ·exact h.o2
theorem A2C.at2 (h:A2C T E I w3 l y row i0 i2 i4 i5 x s w) (hun:s.getD i2 true=false) (h0:s.getD i0 false=true) (hd:i0<i2∧i2<i4∧i4<i5) {v:Value} (ho:OwnS T E I w' w3.heap.size v ([]++l)) (hg:w.grownBy w' (some x.e))
 (hl:∀g,v.ownBlock=some g→some x.e=some g∨w.heap.size≤g):A2C T E I w3 l y row i0 i2 i4 i5 { x with v1:=v } (s.setIfInBounds i2 true) w':=by
 have u2:=Xas hun
 have e2:=Xav (Xgf hun)
 have e0:(s.setIfInBounds i2 true).getD i0 false=s.getD i0 false:=getD_set_ne false (by omega)
 have e4:(s.setIfInBounds i2 true).getD i4 false=s.getD i4 false:=getD_set_ne false (by omega)
 have e5:(s.setIfInBounds i2 true).getD i5 false=s.getD i5 false:=getD_set_ne false (by omega)
 have f5:s.getD i5 false=false:=by
  cases q:s.getD i5 false with
  |false=>rfl
  |true=>rw [(h.o5 q).1] at u2;cases u2
 have he:=Xjr (g:=x.e) (h.p0 h0 u2) (by simp [Value.ownBlock])
 refine ⟨h.bel.grown hg h.bel.size (fun k e=>by cases e;exact he.1),?_,?_,?_,?_,?_,?_,?_,?_⟩<;>simp only [e0,e2,e4,e5,f5,h0,Bool.false_eq_true,Bool.true_eq_false,false_imp_iff,forall_const]
 ·simpa using ho
 ·intro a
  have hb:=h.p4 a f5
  exact (hg.block _ (Array.getElem?_eq_some_iff.1 hb).1 (fun q=>h.n0 h0 u2 a (Option.some.inj q).symm)).trans hb
 ·intro a q
  have hb:=(Array.getElem?_eq_some_iff.1 (h.p4 a f5)).1
  rcases hl _ q with q|q
  ·exact h.n0 h0 u2 a (Option.some.inj q)
  ·have:w.heap.size≤x.b:=q
   omega
theorem A2C.at5 (h:A2C T E I w3 l y row i0 i2 i4 i5 x s w) (hun:s.getD i5 true=false) (h2:s.getD i2 false=true) (h4:s.getD i4 false=true) (hd:i0<i2∧i2<i4∧i4<i5) {v:Value} (ho:OwnS T E I w' w3.heap.size v (l++ [y])) (hg:w.grownBy w' x.v1.ownBlock):
 A2C T E I w3 l y row i0 i2 i4 i5 { x with v2:=v } (s.setIfInBounds i5 true) w':=by
 have u5:=Xas hun
 have e5:=Xav (Xgf hun)
 have e0:(s.setIfInBounds i5 true).getD i0 false=s.getD i0 false:=getD_set_ne false (by omega)
 have e2:(s.setIfInBounds i5 true).getD i2 false=s.getD i2 false:=getD_set_ne false (by omega)
 have e4:(s.setIfInBounds i5 true).getD i4 false=s.getD i4 false:=getD_set_ne false (by omega)
 refine ⟨h.bel.grown hg h.bel.size (fun k e=>(Xjr (h.p2 h2 u5) e).1),?_,?_,?_,?_,?_,?_,?_,?_⟩<;>simp only [e0,e2,e4,e5,h2,h4,Bool.true_eq_false,false_imp_iff,forall_const,implies_true,and_self]
 ·exact ho
 ·exact h.o2 h2
end
structure QbC (W:World) (last j1 j2:Nat) (cs1 cs2:List (Nat × Value)) (fin:World→Prop) (x:Nat × Nat) (s:Array Bool) (w:World):Prop where
 bel:s.getD last false=false→Below W.heap.size W w
 f1:s.getD j1 false=true→s.getD last false=false→ ∀p∈cs1,w.cell? ⟨x.1,p.1,none⟩=some p.2
 f2:s.getD j2 false=true→s.getD last false=false→ ∀p∈cs2,w.cell? ⟨x.2,p.1,none⟩=some p.2
 fin:s.getD last false=true→fin w
section
variable {W w w':World} {last j1 j2:Nat} {cs1 cs2:List (Nat × Value)} {fin:World→Prop} {x:Nat × Nat} {s:Array Bool}
theorem QbC.start (n:Nat) (x:Nat × Nat):QbC W last j1 j2 cs1 cs2 fin x (Array.replicate n false) { W with drawn:=W.drawn+1 }:=
 ⟨fun _=>(Qb _ _).drew,fun h=>(by rw [Xbn] at h;cases h),fun h=>(by rw [Xbn] at h;cases h),fun h=>(by rw [Xbn] at h;cases h)⟩
theorem QbC.step (h:QbC W last j1 j2 cs1 cs2 fin x s w) (hl:s.getD last false=false) (hb:Below w.heap.size w w') {i:Nat} (h1:i≠j1) (h2:i≠j2) (h3:i≠last):QbC W last j1 j2 cs1 cs2 fin x (s.setIfInBounds i true) w':=by
 refine ⟨fun _=>(h.bel hl).trans (hb.mono (h.bel hl).size),?_,?_,?_⟩
 ·rw [getD_set_ne false h1]
  exact fun a _ p hp=>Xaa hb (h.f1 a hl p hp)
 ·rw [getD_set_ne false h2]
  exact fun a _ p hp=>Xaa hb (h.f2 a hl p hp)
 ·rw [getD_set_ne false h3,hl]
  intro q
  cases q
theorem QbC.at1 (h:QbC W last j1 j2 cs1 cs2 fin x s w) (hl:s.getD last false=false) (hb:Below w.heap.size w w') (h2:j1≠j2) (h3:j1≠last) {n:Nat} (hc:∀p∈cs1,w'.cell? ⟨n,p.1,none⟩=some p.2):QbC W last j1 j2 cs1 cs2 fin (n,x.2) (s.setIfInBounds j1 true) w':=by
 refine ⟨fun _=>(h.bel hl).trans (hb.mono (h.bel hl).size),fun _ _=>hc,?_,?_⟩
 ·rw [getD_set_ne false h2]
  exact fun a _ p hp=>Xaa hb (h.f2 a hl p hp)
 ·rw [getD_set_ne false h3,hl]
  intro q
  cases q
theorem QbC.at2 (h:QbC W last j1 j2 cs1 cs2 fin x s w) (hl:s.getD last false=false) (hb:Below w.heap.size w w') (h1:j2≠j1) (h3:j2≠last) {n:Nat} (hc:∀p∈cs2,w'.cell? ⟨n,p.1,none⟩=some p.2):QbC W last j1 j2 cs1 cs2 fin (x.1,n) (s.setIfInBounds j2 true) w':=by
 refine ⟨fun _=>(h.bel hl).trans (hb.mono (h.bel hl).size),?_,fun _ _=>hc,?_⟩
 ·rw [getD_set_ne false h1]
  exact fun a _ p hp=>Xaa hb (h.f1 a hl p hp)
 ·rw [getD_set_ne false h3,hl]
  intro q
  cases q
theorem QbC.end' (hun:s.getD last true=false) (hf:fin w'):QbC W last j1 j2 cs1 cs2 fin x (s.setIfInBounds last true) w':=by
 have e:=Xav (Xgf hun)
 exact ⟨fun q=>(by rw [e] at q;cases q),fun _ q=>(by rw [e] at q;cases q),fun _ q=>(by rw [e] at q;cases q),fun _=>hf⟩
end
def Clo (ops:Array Oper) (s:Array Bool):Prop:= ∀i o,ops[i]? =some o→s.getD i false=true→ ∀e∈o.after,Region.binds .any e=true→s.getD e.on false=true
def pathB (ops:Array Oper):List Nat→Bool
 |i::j::r=>(match ops[i]? with|some o=>o.after.any fun e=>Region.binds .any e&&e.on==j|none=>false)&&pathB ops (j::r)
 |_=>true
theorem Xkd {ops:Array Oper} {s:Array Bool} (h:Clo ops s):∀(p:List Nat) (k i:Nat),pathB ops (k::p)=true→(k::p).getLast? =some i→s.getD k false=true→s.getD i false=true
 | [],k,i,_,hl,hk=>by simp at hl;exact hl▸hk
 |j::r,k,i,hp,hl,hk=>by
  unfold pathB at hp
  rw [Bool.and_eq_true] at hp
  obtain ⟨h1,h2⟩:=hp
  cases ho:ops[k]? with
  |none=>rw [ho] at h1;simp at h1
  |some o=>
   rw [ho] at h1
   simp only [Array.any_eq_true,Bool.and_eq_true,beq_iff_eq] at h1
   obtain ⟨n,hn,h3,h4⟩:=h1
   exact Xkd h r j i h2 (by simpa using hl) (h4▸h k o ho hk _ (Array.getElem_mem hn) h3)
theorem Xai {ops:Array Oper} {s:Array Bool} (h:Clo ops s) (p:List Nat) {k i:Nat} (hp:pathB ops (k::p)=true) (hl:(k::p).getLast? =some i) (hun:s.getD i true=false):s.getD k false=false:=by
 cases hk:s.getD k false with
 |false=>rfl
 |true=>have:=Xkd h p k i hp hl hk;rw [Xas hun] at this;cases this
theorem Xu5 {ops:Array Oper} {s:Array Bool} (h:Clo ops s) {i:Nat} (hi:i∈Region.ready .any ops s):Clo ops (s.setIfInBounds i true):=by
 obtain ⟨hun,oi,hoi,hall⟩:=mem_ready.1 hi
 have up:∀j,s.getD j false=true→(s.setIfInBounds i true).getD j false=true:=fun j hj=>by
  by_cases e:i=j
  ·subst e;exact Xav (Xgf hun)
  ·rw [getD_set_ne false e];exact hj
 intro j o ho hj e he hb
 by_cases c:i=j
 ·subst c
  rw [hoi] at ho
  cases ho
  exact up _ (hall e he hb)
 ·rw [getD_set_ne false c] at hj
  exact up _ (h j o ho hj e he hb)
theorem Xtu {L M:List (Option Tmp × Value)} {s:Array Bool} {a:Act} (i k:Nat) (hl:L.length=M.length) (h:∀j,j≠i→j≠k→L[j]? =M[j]?) (hun:s.getD i true=false) (hk:s.getD k false=false):fillA L 0 s a=fillA M 0 s a:=
 Xfx _ _ _ _ _ hl fun j hj=>by
  rw [Nat.zero_add] at hj
  exact h j (fun e=>by rw [e,Xas hun] at hj;cases hj) (fun e=>by rw [e,hk] at hj;cases hj)
theorem Xcc {P:Program} {ops:Array Oper} {Q:Exit→Act→World→Prop} {X:Type} {id:Nat} {a:Act} {w:World} (L:X→List (Option Tmp × Value)) (C:X→Array Bool→World→Prop) (hm:P.follows .mixedOrders=true) (hb:backB2 ops=true) (h0:∃x,C x (Array.replicate ops.size false) { w with drawn:=w.drawn+1 })
 (hstep:∀x s a' w' i,s.size=ops.size→Clo ops s→a'=fillA (L x) 0 s a→C x s w'→i∈Region.ready .any ops s→wpOp P ops Q i (fun a'' w''=> ∃y,a''=fillA (L y) 0 (s.setIfInBounds i true) a∧C y (s.setIfInBounds i true) w'') a' w')
 (hend:∀x s a' w',(∀i,i<ops.size→s.getD i false=true)→a'=fillA (L x) 0 s a→C x s w'→Q .normal a' w'):(Code.region id ops true).wp P Q a w:=by
 refine Xa3 (X:=X) L (fun x s w'=>Clo ops s∧C x s w') hm hb ?_ ?_ ?_
 ·obtain ⟨x,hx⟩:=h0
  exact ⟨x,fun i _ _ q=>(by rw [Xbn] at q;cases q),hx⟩
 ·rintro x s a' w' i hsz ha ⟨hcl,hC⟩ hi
  exact wpOp_mono (fun a'' w'' ⟨y,h1,h2⟩=>⟨y,h1,Xu5 hcl hi,h2⟩) (hstep x s a' w' i hsz hcl ha hC hi)
 ·rintro x s a' w' hup ha ⟨_,hC⟩
  exact hend x s a' w' hup ha hC
end Go.Proofs.YtdeknddamidldaaGreatDoor
