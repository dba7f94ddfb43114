/- Lemmas for the claim's theorem;conditions: as each says. -/
import Derived.Test.YtmdfjnhfhidmhaaGreatDoorJ09
set_option maxHeartbeats 0
set_option maxRecDepth 100000
set_option linter.all false
namespace Go.Proofs.YtmdfjnhfhidmhaaGreatDoor
open Go.RowKit
variable{s:fM}{l:List Xt}{c:af}{L C m:Nat}{I:IH}{v:Value}{w W:World}{x:Value}{E:TypeId}{B:Nat}{α:Type}{k n b:Nat}{T:Ty α}
def qf:Ty Ck:=Ty.flat 4 (fun c=> [S c.d,.int .i64 c.x.s,.int .i64 c.x.o,.int .i64 c.x.n]) (fun _=>rfl) (fun _ u h=>by simp at h;rcases h with rfl|rfl|rfl|rfl<;>rfl)
theorem Xws:(Tryz.prog.info? 156).map (fun i=>(i.zero,i.size,i.bytes))=some (some (.agg #[.string ⟨#[]⟩,.int .i64 0,.int .i64 0,.int .i64 0]),4,40):=by kernel_rfl
theorem Ya:dS Tryz.prog 38 156 qf 40:=dS.of Tryz.underlying38 Xws rfl (by decide) rfl
theorem IJ{l:List Ck}(h:aZ qf I v l)(hw:Ok I w)(i:Nat)(hi:i<l.length):∃x b off cap,l[i]=x∧v= .slice (some ⟨b,off,none⟩) l.length cap∧
 w.cell? ⟨b,off+i*4,none⟩=some (S x.d)∧w.cell? ⟨b,off+i*4+1,none⟩=some (.int .i64 x.x.s)∧w.cell? ⟨b,off+i*4+2,none⟩=some (.int .i64 x.x.o)∧w.cell? ⟨b,off+i*4+3,none⟩=some (.int .i64 x.x.n):=by
 obtain⟨b,off,cap,cs,hv,fE,hc⟩:=h.at_ hw hi;have kI:cs=[S l[i].d,.int .i64 l[i].x.s,.int .i64 l[i].x.o,.int .i64 l[i].x.n]:=fE;subst kI;exact⟨_,b,off,cap,rfl,hv,hc 0 _ rfl,hc 1 _ rfl,hc 2 _ rfl,hc 3 _ rfl⟩
abbrev fH(s:fM)(vc:Value):Value:= .agg #[vc,.int .i64 s.aV,S s.str]
def kz(l:List Ck)(d:af):Xt×Bool:=match fB l d with|some x=>(x,true)|none=>(⟨0,0,0⟩,false)
theorem Xsc{l:List Ck}{d:af}{N:Xt×Bool}(hk:k<l.length){c:Ck}(hc:l[k]=c)(h:kz (l.drop k) d=N):(if c.d=d then(c.x,true)else kz (l.drop (k+1)) d)=N:=by
 rw[List.drop_eq_getElem_cons hk,hc]at h;rw[←h];unfold kz;rw[fB];split<;>rfl
theorem Xph(I:IH)(s:fM)(vc:Value)(hv:aZ qf I vc s.aJ)(d:af)(w:World)(hw:Ok I w):
 Calls Tryz.prog 117 #[fH s vc,S d] w fun e w'=>e= .returned (.tuple #[C9 (kz s.aJ d).1,.bool (kz s.aJ d).2])∧Below w.heap.size w w':=by
 have DV:=hv.bF;obtain⟨ao,cap,rfl,_,_,_⟩:=id hv;have Hv:=Qh hv;obtain⟨N,hN⟩:∃N,kz s.aJ d=N:=⟨_,rfl⟩;have HN:=Qh (show kz (s.aJ.drop 0) d=N from hN);rw[hN];clear hv hN;have b0:Below w.heap.size w (w.alloc (.cells #[.slice ao s.aJ.length cap,.int .i64 s.aV,S s.str] 40)):=(Qb _ _).alloc (Qn _) _;go_enter Tryz.func117,Tryz.ntmps117
 go_wp2_with fail
 have aM:Ok I ((w.alloc (.cells #[.slice ao s.aJ.length cap,.int .i64 s.aV,S s.str] 40)).alloc (.cells #[.int .i64 0,.int .i64 0,.int .i64 0] 109)):=(hw.alloc _).alloc _;have wR:=Qh (show(Tryz.prog.info? 109).map (·.size)=some 3 by kernel_rfl);have kg:=Qh (fun c:Array Value=>show((w.alloc (.cells #[.slice ao s.aJ.length cap,.int .i64 s.aV,S s.str] 40)).alloc (.cells c 109)).heap[w.heap.size+1]?=some (.cells c 109 (0,0)) by have:=heap_alloc_new (w.alloc (.cells #[.slice ao s.aJ.length cap,.int .i64 s.aV,S s.str] 40)) (.cells c 109);simpa using this);go_loop [6] (fun s6=> ∃k:Nat,k≤s.aJ.length∧s6= .int .i64 k∧kz (s.aJ.drop k) d=N) (fun i=>s.aJ.length-(intOf i).toNat)
 case atStart=>exact⟨0,Nat.zero_le _,rfl,HN.O⟩
 case round=>
  clear HN;obtain⟨k,hk,rfl,hr⟩:=hrel;have Hr:=Qh hr;clear hr;by_cases hlt:k<s.aJ.length
  ·obtain⟨x,b,off,cap',dA,cZ,x0,x1,x2,x3⟩:=IJ Hv.O aM k hlt;cases cZ;have bu:=Qh (Xsc hlt dA Hr.O);clear dA Hr;by_cases hd:x.d=d
   ·have Hn:=Qh (show N=(x.x,true) by have:=bu.O;rw[if_pos hd]at this;exact this.symm);have BB:(x.d==d)=true:=by simpa using hd
    clear hd bu;go_wp2;refine bodyPost_ret (v:= .tuple #[C9 x.x,.bool true]) ?_ rfl ?_
    ·rw[results_cell_tmp rfl];simp[asAddr,run_loadVar_row _ (w.heap.size+1) 109 109 #[.int .i64 x.x.s,.int .i64 x.x.o,.int .i64 x.x.n] (0,0) _ (kg.O _) Tryz.underlying109 rfl wR.O]
    ·rw[Hn.O];exact⟨rfl,b0.alloc b0.size _⟩
   ·have Hn:=Qh (show kz (s.aJ.drop (k+1)) d=N by have:=bu.O;rwa[if_neg hd]at this);have BB:(x.d==d)=false:=by simpa using hd
    clear hd bu;go_wp2;go_round;case rel=>exact⟨k+1,by omega,by go_num,Hn.O⟩
    case measure=>simp[intOf];omega
  ·have Hn:=Qh (show N=(⟨0,0,0⟩,false) by have:=Hr.O;rw[List.drop_of_length_le (by omega)]at this;exact this.symm);clear Hr;go_wp2;refine bodyPost_ret (v:= .tuple #[C9 ⟨0,0,0⟩,.bool false]) ?_ rfl ?_
   ·rw[results_cell_tmp rfl];simp[asAddr,run_loadVar_row _ (w.heap.size+1) 109 109 #[.int .i64 0,.int .i64 0,.int .i64 0] (0,0) _ (kg.O _) Tryz.underlying109 rfl wR.O]
   ·rw[Hn.O];exact⟨rfl,b0.alloc b0.size _⟩
theorem IK{a b c y z:Value}{t:TypeId}(h:W.heap[n]?=some (.cells #[a,b,c] t (0,0))):(((W.setCell ⟨n,0,none⟩ x).setCell ⟨n,1,none⟩ y).setCell ⟨n,2,none⟩ z).heap[n]?=some (.cells #[x,y,z] t (0,0)):=by
 have:=heap_setCell_same _ n 2 _ _ z (heap_setCell_same _ n 1 _ _ y (heap_setCell_same W n 0 _ _ x h));simpa using this
abbrev alv(s:fM)(vc:Value):Array Value:=#[vc,.int .i64 s.aV,S s.str]
structure gX (n:Nat) (J:IH) (W:World) (s:fM) (l:List Xt) (vc vo:Value):Prop where
 row:W.heap[n]?=some (.cells #[vc,.int .i64 s.aV,S s.str] 40 (0,0))
 res:W.heap[n+1]?=some (.cells #[.slice none 0 0,.int .i64 0,S []] 40 (0,0))
 aJ:aZ qf J vc s.aJ
 own:aK lY 109 J W (n+2) vo l
 apart:∀g,vo.ownBlock=some g→J g=none
 ok:Ok J W
 free:J n=none
 yT:J (n+1)=none
section
variable {n:Nat} {I J J':IH} {W W':World} {s s':fM} {l l':List Xt} {vc ww vo Yb:Value}
theorem gX.lt(h:gX n J W s l vc vo):n+1<W.heap.size:=(Qg h.res)
theorem gX.c0(h:gX n J W s l vc vo):W.cell? ⟨n,0,none⟩=some vc:=(cell_of_row W _ 0 _ _ _ h.row).trans rfl
theorem gX.c1(h:gX n J W s l vc vo):W.cell? ⟨n,1,none⟩=some (.int .i64 s.aV):=(cell_of_row W _ 1 _ _ _ h.row).trans rfl
theorem gX.c2(h:gX n J W s l vc vo):W.cell? ⟨n,2,none⟩=some (S s.str):=(cell_of_row W _ 2 _ _ _ h.row).trans rfl
theorem gX.fr(h:gX n J W s l vc vo)(j:Nat):W.frozen? ⟨n,j,none⟩=false:=frozen_of_row W _ j _ _ h.row
theorem gX.below(h:gX n J W s l vc vo)(hb:Below W.heap.size W W'):gX n J W' s l vc vo:=
 ⟨(hb.block _ (by have:=h.lt;omega)).trans h.row,(hb.block _ h.lt).trans h.res,h.aJ,h.own.below hb,h.apart,h.ok.below (Qn _) hb,h.free,h.yT⟩
theorem gX.past(h:gX n J W s l vc vo)(o:Obj):gX n J (W.alloc o) s l vc vo:=h.below ((Qb _ _).alloc (Qn _) o)
theorem QM{T:Ty Xt}{g:Nat}(h:aK T E J W B vo l)(hg:vo.ownBlock=some g):B≤g∧g<W.heap.size:=by
 obtain⟨xs,h1,_⟩:=h;exact h1.lt g hg
theorem gX.ext(h:gX n J W s l vc vo)(hb:Below W.heap.size W W')(hx:Ext W.heap.size J J')(iQ:Ok J' W'):gX n J' W' s l vc vo:=
 ⟨(hb.block _ (by have:=h.lt;omega)).trans h.row,(hb.block _ h.lt).trans h.res,h.aJ.mono (hx.keep h.ok (Qn _)),(h.own.below hb).mono (hx.keep h.ok (Qn _)),fun g hg=>(hx g (QM h.own hg).2).trans (h.apart g hg),iQ,
   (hx _ (by have:=h.lt;omega)).trans h.free,(hx _ h.lt).trans h.yT⟩
theorem gX.added(h:gX n J W s l vc vo)(ho:aK lY 109 J W' (n+2) Yb l')(hg:W.grownBy W' vo.ownBlock)(hl:∀g,Yb.ownBlock=some g→vo.ownBlock=some g∨W.heap.size≤g):gX n J W' s l' vc Yb:=by
 have bn:∀k,k<n+2→some k≠vo.ownBlock:=fun k hk e=>by have:=(QM h.own e.symm).1;omega
 have hlt:=h.lt;refine⟨(hg.block _ (by omega) (bn _ (by omega))).trans h.row,(hg.block _ (by omega) (bn _ (by omega))).trans h.res,h.aJ,ho,fun g hk=> ?_,h.ok.grown hg fun g hk=>h.apart g hk,h.free,h.yT⟩;rcases hl g hk with h1|h1
 ·exact h.apart g h1
 ·exact h.ok.fresh h1
theorem gX.set0(h:gX n J W s l vc vo)(h1:aZ qf J ww s'.aJ)(e1:s'.aV=s.aV)(e2:s'.str=s.str):gX n J (W.setCell ⟨n,0,none⟩ ww) s' l ww vo:=by
 have hlt:=h.lt;refine⟨by rw[e1,e2];exact heap_setCell_same W n 0 _ _ ww h.row,(heap_setCell_other W ⟨n,0,none⟩ (n+1) ww (by simp)).trans h.res,h1,?_,h.apart,h.ok.setCell h.free _,h.free,h.yT⟩;refine h.own.kept (row:=some n) ⟨rfl,rfl,rfl,by simp,fun k _ hk=>heap_setCell_other W ⟨n,0,none⟩ k ww (fun e=>hk (by simp[e]))⟩ (.inr fun e=> ?_);have:=(QM h.own e).1;omega
theorem gX.set2(h:gX n J W s l vc vo)(b:af):gX n J (W.setCell ⟨n,2,none⟩ (S b)) ⟨s.aJ,s.aV,b⟩ l vc vo:=by
 have hlt:=h.lt;refine⟨heap_setCell_same W n 2 _ _ (S b) h.row,(heap_setCell_other W ⟨n,2,none⟩ (n+1) (S b) (by simp)).trans h.res,h.aJ,?_,h.apart,h.ok.setCell h.free _,h.free,h.yT⟩;refine h.own.kept (row:=some n) ⟨rfl,rfl,rfl,by simp,fun k _ hk=>heap_setCell_other W ⟨n,2,none⟩ k (S b) (fun e=>hk (by simp[e]))⟩ (.inr fun e=> ?_);have:=(QM h.own e).1;omega
theorem gX.Mf(h:gX n J W s l vc vo)(hb:n+2≤b)(hJ:J b=none)(hv:vo.ownBlock≠some b)(j:Nat)(u:Value):gX n J (W.setCell ⟨b,j,none⟩ u) s l vc vo:=by
 have hlt:=h.lt
 exact⟨(heap_setCell_other W ⟨b,j,none⟩ n u (by simp;omega)).trans h.row,(heap_setCell_other W ⟨b,j,none⟩ (n+1) u (by simp;omega)).trans h.res,h.aJ,
  h.own.kept (row:=some b) ⟨rfl,rfl,rfl,by simp,fun k _ hk=>heap_setCell_other W ⟨b,j,none⟩ k u (fun e=>hk (by simp[e]))⟩ (.inr hv),h.apart,h.ok.setCell hJ _,h.free,h.yT⟩
theorem gX.drew(h:gX n J W s l vc vo):gX n J W.drew s l vc vo:=⟨h.row,h.res,h.aJ,h.own,h.apart,h.ok,h.free,h.yT⟩
theorem gX.new(hw:Ok J W)(hv:aZ qf J vc s.aJ):gX W.heap.size J (((W.alloc (.cells #[vc,.int .i64 s.aV,S s.str] 40)).alloc (.cells #[.slice none 0 0,.int .i64 0,S []] 40)).alloc (.cells #[] 109)) s [] vc (.slice (some ⟨W.heap.size+2,0,none⟩) 0 0):=by
 refine⟨?_,?_,hv,Xnp _ _ (by simp),fun g hg=> ?_,((hw.alloc _).alloc _).alloc _,hw.fresh (Qn _),hw.fresh (by omega)⟩
 ·rw[Below.heap_alloc _ _ _ (by simp;omega),Below.heap_alloc _ _ _ (by simp)];exact heap_alloc_new W _
 ·rw[Below.heap_alloc _ _ _ (by simp)];have:=heap_alloc_new (W.alloc (.cells #[vc,.int .i64 s.aV,S s.str] 40)) (.cells #[.slice none 0 0,.int .i64 0,S []] 40);simpa using this
 ·simp[Value.ownBlock]at hg;exact hw.fresh (by omega)
end
theorem Gr{w':World}{a:Addr}{row:Option Nat}(hg:W.grownBy w' row)(bn:row≠some a.block)(h:W.cell? a=some x)(hf:W.frozen? a=false):w'.frozen? a=false:=
 (World.frozen?_of_block (hg.block _ (block_lt_of_cell h) (fun e=>bn e.symm))).trans hf
theorem aK.uA{l:List α}(h:aK T E I w B v l)(hw:Ok I w)(hI:∀g,v.ownBlock=some g→I g=none):∃I',(∀b c,I b=some c→I' b=some c)∧Ext B I I'∧Ok I' w∧aZ T I' v l∧ ∀b,v.ownBlock≠some b→I' b=I b:=by
 obtain⟨xs,⟨h1,Ei⟩,h2⟩:=h;rcases Ei with⟨rfl,h0⟩|⟨g,cap,cur,rfl,hb,hg,Ej,fJ,fE,ht⟩
 ·refine⟨I,fun _ _ h=>h,Ext.refl _ _,hw,?_,fun _ _=>rfl⟩;have:l=[]:=List.eq_nil_of_length_eq_zero h0;subst this;exact aZ.nil T I
 ·have kY:∀b c,I b=some c→(I.add g cur) b=some c:=fun b c hc=>by
   unfold IH.add;by_cases e:b=g
   ·subst e;rw[hI _ rfl]at hc;cases hc
   ·rw[if_neg e];exact hc
  refine⟨I.add g cur,kY,Ext.add hb I cur,hw.add hg,⟨_,cap,rfl,Ej,fJ,fun _=>⟨g,0,cur,rfl,by simp[IH.add],fun i hi=> ?_⟩⟩,fun b K6=> ?_⟩
  ·obtain⟨cs,k1,k2⟩:=h2.2 i hi;refine⟨cs,T.mono kY k1,fun j u hu=> ?_⟩;have hx:=k2 j u hu;rw[←ht,List.getElem?_take]at hx;split at hx
   ·rw[Nat.zero_add,←Array.getElem?_toList];exact hx
   ·cases hx
  ·have:b≠g:=fun e=>K6 (by simp[Value.ownBlock,e]);simp[IH.add,this]
theorem Yc:∀{l:List af} {c:af},c∈l→c.length≤l.flatten.length
 |x::l,c,h=>by
  rw[List.flatten_cons,List.length_append];rcases List.mem_cons.1 h with rfl|h
  ·omega
  ·have:=Yc h;omega
theorem Yd{l:List α}{x:α}(h:aK T E I w B v (l++[x])):∃g n cap,v= .slice (some ⟨g,0,none⟩) n cap:=by
 obtain⟨xs,h1,_⟩:=h;rcases h1.2 with⟨_,h0⟩|⟨g,cap,cur,h,_⟩
 ·simp at h0
 ·exact⟨_,_,_,h⟩
theorem Ye{j i:Nat}{u:Value}(h:W.cell? ⟨b,i,none⟩=some x)(bn:b≠n):(W.setCell ⟨n,j,none⟩ u).cell? ⟨b,i,none⟩=some x:=by
 rw[World.cell?_of_block (Below.heap_setCell W ⟨n,j,none⟩ u b bn)];exact h
structure zW (L C:Nat) (m:Nat) (s:fM) (l:List Xt):Prop where
 s0:1≤s.aV
 s1:s.aV≤255
 str:s.str.length≤L+65536*m
 aJ:s.aJ.length≤C+m
 cx:∀c∈s.aJ,XB 65536 c.x
 len:l.length≤m
 xs:∀z∈l,XB (65536*m) z
theorem zW.add(h:zW L C m s l){x:Xt}(hx:XB 65536 x):zW L C (m+1) s (jr l x):=
 ⟨h.s0,h.s1,by have:=h.str;omega,by have:=h.aJ;omega,h.cx,by have:=(Xox l x).1;have:=h.len;omega,fun z hz=>(Xs7 (by decide) h.xs hx (by omega) z hz).mono (by omega)⟩
theorem U1:∀{l:List Ck} {d:af} {x:Xt},fB l d=some x→ ∃c∈l,c.x=x
 |c::l,d,x,h=>by
  rw[fB]at h;split at h
  ·exact⟨c,List.mem_cons_self ..,Option.some.inj h⟩
  ·obtain⟨c',h1,h2⟩:=U1 h;exact⟨c',List.mem_cons_of_mem _ h1,h2⟩
theorem QN(h:zW L C m s l)(hL:L≤4294967296)(hm:m≤65536)(hc:c.length≤65536):XB 65536 (lL s c):=by
 have:=h.s0;have:=h.s1;have:=h.str;unfold XB lL;simp only;omega
theorem zW.grow(h:zW L C m s l)(hL:L≤4294967296)(hm:m≤65536)(hc:c.length≤65536):
 zW L C (m+1) ⟨s.aJ++[⟨fA c,lL s c⟩],s.aV,s.str++c⟩ (jr l (lL s c)):=by
 have ha:=h.add (QN h hL hm hc);refine⟨h.s0,h.s1,?_,?_,fun k hk=> ?_,ha.len,ha.xs⟩
 ·have:=h.str;simp;omega
 ·have:=h.aJ;simp;omega
 ·rcases List.mem_append.1 hk with hk|hk
  ·exact h.cx k hk
  ·simp at hk;subst hk;exact QN h hL hm hc
theorem zW.grow'(h:zW L C m s l)(hL:L≤4294967296)(hm:m≤65536){dg:af}(hc:c.length≤65536):
 zW L C (m+1) ⟨s.aJ++[⟨dg,lL s c⟩],s.aV,s.str++c⟩ (jr l (lL s c)):=by
 have ha:=h.grow hL hm hc;refine⟨h.s0,h.s1,ha.str,by have:=ha.aJ;simpa using this,fun k hk=> ?_,ha.len,ha.xs⟩;rcases List.mem_append.1 hk with hk|hk
 ·exact h.cx k hk
 ·simp at hk;subst hk;exact QN h hL hm hc
theorem Yf{x:Xt}(h:fB s.aJ (fA c)=some x):oK (s,l) c=(s,jr l x):=by
 unfold oK IC;simp only[h]
theorem Yg(h:fB s.aJ (fA c)=none):oK (s,l) c=(⟨s.aJ++[⟨fA c,lL s c⟩],s.aV,s.str++c⟩,jr l (lL s c)):=by
 unfold oK IC;simp only[h]
theorem U2{β:Type}{f:β→α→β}{l:List α}{p R:β}(hk:k<l.length){x:α}(hx:l[k]=x)(h:(l.drop k).foldl f p=R):(l.drop (k+1)).foldl f (f p x)=R:=by
 rw[List.drop_eq_getElem_cons hk,hx,List.foldl_cons]at h;exact h
def meaning(x y:aT):Bool:=decide (x.au=y.au)&&decide (x.aj=y.aj)&&decide (x.target=y.target)&&decide (x.size=y.size)&&decide (x.av=y.av)
def wS:List aT→List aT→List af
 | [],[]=> []
 |x::a,[]=>x.ag::wS a []
 | [],y::b=>y.ag::wS [] b
 |x::a,y::b=>if mM x y then x.ag::wS a (y::b)else if mM y x then y.ag::wS (x::a) b else if meaning x y then wS a b else x.ag::wS a b
termination_by a b=>a.length+b.length
def alx(l:List af):Prop:=l.Pairwise fun p q=>jO (els p) (els q)=true
def Yh(a b:List aT)(p:af):Prop:=(∃x∈a,x.ag=p∧ ∀y∈b,y.ag=p→meaning x y=false)∨(∃y∈b,y.ag=p∧ ∀x∈a,x.ag≠p)
theorem Xqn{s:mG}{e:aT}{d:Int}(h:(gq s e d).2=0):bS s.aI e=((bS s.aI e).1,0)∧(gq s e d).1.aI=JS s.aI e∧aP e=0:=by
 unfold gq at*;split at h
 ·contradiction
 ·rename_i h1;have ha:=X0 (t:=s.aI) (e:=e) (by omega);obtain⟨hp,hx⟩:=qm.1 ha;split at h
  ·contradiction
  ·rename_i h2;split at h
   ·contradiction
   ·rename_i h3;rw[if_neg h1,if_neg h2,if_neg h3];exact⟨ha,hx,hp.Ls⟩
def adU(i:Option aT)(l:List Mc):Option aT:=l.foldl (fun _ v=>if v.e.au=4 then none else some v.e) i
def uQ(d:Int):mG→List aT→Prop
 |_,[]=>True
 |s,e::es=>(gq s e d).2=0∧uQ d (gq s e d).1 es
def Aw:mG→List dK→Prop
 |_,[]=>True
 |s,x::xs=>uQ x.aG s x.aB∧Aw (pK s x.aG x.aB) xs
structure adV (i:Nat) (bR:af) (aG:Int) (x:dK):Prop where
 dig:(xJ x).2=0
 num:x.num=i+1
 aG:aG≤x.aG
 bR:x.bR=bR
theorem Xp8(s:mG)(a b:List dK):bY s (a++b)=bY (bY s a) b:=List.foldl_append
def writes(p:af)(e:aT):Bool:=decide (e.au≤3)&&e.ag==p
def U3(p:af)(l:List dK):Nat:=(l.flatMap fun x=>x.aB.filter (writes p)).length
def keeps(v:Mc):Bool:=decide (v.e.au≠4)
def Km:Bool→List Mc→Prop
 |_,[]=>True
 |r,v::vs=>if v.e.au=4 then r=false∧Km true vs else Km false vs
