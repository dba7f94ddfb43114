/- Lemmas for the claim's theorem;conditions: as each says. -/
import Derived.Deep.RegionHeld3
import Derived.RangeFuncNested
import Derived.RangeFuncLeaves
import Derived.Shelf.Abstract
import Derived.OwnWalkIn
import Derived.TacticsInMore
import Derived.LoopNIn
import Derived.LoopIn
import Derived.Test.YtkipnpjagcfcpaaGreatDoorE09
import Derived.Shelf.Strings.BuilderK
set_option maxHeartbeats 0
set_option maxRecDepth 100000
set_option linter.all false
namespace Go.Proofs.YtkipnpjagcfcpaaGreatDoor
open Go.RowKit
variable{k:Nat}{W:World}{n:Nat}{W':World}{d:Int}{I:IH}{x:aG}{L:List bR}{e:aG}{b:Nat}{l:List Ho}{B:Nat}{s:jI}{p:ae}{m:Nat}{st:List ae}{vt vh va vx v:Value}{T:TypeId}{w:World}{t:List aG}{u:Value}{c:Array Value}{f:Nat×Nat}{es:List aG}{j:Nat}{ve:Value}{α:Type}{h:Ho}{J:IH}{N:ae×Int}
theorem Xni:∀{l:List bR},l.any (fun x=>decide (d<x.aN))=false→oZ d l=l.length
 | [],_=>rfl
 |x::l,h=>by
  rw[List.any_cons,Bool.or_eq_false_iff]at h;rw[oZ,if_neg (of_decide_eq_false h.1),Xni h.2];rfl
theorem Xnh:∀{l:List bR} {i:Nat} (hi:i<l.length),decide (d<l[i].aN)=true→(l.take i).any (fun x=>decide (d<x.aN))=false→oZ d l=i
 | [],_,hi,_,_=>absurd hi (by simp)
 |x::l,0,_,hp,_=>by
  have hp':d<x.aN:=of_decide_eq_true hp;rw[oZ,if_pos hp']
 |x::l,i+1,hi,hp,hn=>by
  rw[List.take_succ_cons,List.any_cons,Bool.or_eq_false_iff]at hn;rw[oZ,if_neg (of_decide_eq_false hn.1),Xnh (l:=l) (by simpa using hi) hp hn.2]
abbrev lh(vt vh:Value):Value:= .agg #[vt,vh]
theorem Y3(I:IH)(vt vh:Value)(t:List aG)(hs:List Ho)(uI:bf bG I vt t)(zF:bf jw I vh hs)(p:ae)(w:World)(hw:Ok I w):
 Calls Tryz.prog 219 #[lh vt vh,S p] w fun r w'=>r= .returned (.bool (kG t p).2)∧Below w.heap.size w w':=by
 have Hg:=Qh (fun w hw=>Xw1 I vt t uI p w hw);obtain⟨at',ct,rfl,_,_,_⟩:=id uI;obtain⟨ah,ch,rfl,_,_,_⟩:=id zF;obtain⟨⟨x,b⟩,hx⟩:∃q,kG t p=q:=⟨_,rfl⟩;rw[hx]at Hg ⊢;clear uI zF hx;go_enter Tryz.func219,Tryz.ntmps219
 go_wp2_with fail
 refine(Hg.O _ (hw.alloc _)).mono ?_;rintro e1 w1 ⟨va,vx,rfl,h1,h2,au⟩;obtain⟨oa,oc,rfl,_,_,_⟩:=id h1;obtain⟨ox,od,rfl,_,_,_⟩:=id h2;have av:=((Qb w.heap.size w).alloc (Qn _) (.cells #[.slice at' t.length ct,.slice ah hs.length ch] 154)).trans (au.mono (by simp));clear h1 h2 au;go_wp2;go_ret;exact⟨rfl,av.alloc av.size _⟩
theorem Rj(I:IH)(e:aG)(va vx:Value)(eP:bf lT I va e.ag)(eT:bf mr I vx e.ak)(w:World):
 Calls Tryz.prog 218 #[fB e va vx] w fun r w'=>r= .returned (.bool (e.ai==1 || e.ai==2 || e.ai==3))∧Below w.heap.size w w':=by
 obtain⟨aa,ca,rfl,_,_,_⟩:=id eP;obtain⟨ax,cx,rfl,_,_,_⟩:=id eT;clear eP eT;obtain⟨b1,h1⟩:∃b,(e.ai==1)=b:=⟨_,rfl⟩;obtain⟨b2,h2⟩:∃b,(e.ai==2)=b:=⟨_,rfl⟩;obtain⟨b3,h3⟩:∃b,(e.ai==3)=b:=⟨_,rfl⟩;have Hn:=Qh (show(e.ai==1 || e.ai==2 || e.ai==3)=(b1 || b2 || b3) by rw[h1,h2,h3]);cases b1
 ·cases b2
  ·cases b3
   ·go_enter Tryz.func218,Tryz.ntmps218
    go_wp2;go_ret;exact⟨iW Hn.O.symm,(Qb w.heap.size w).alloc (Qn _) _⟩
   ·go_enter Tryz.func218,Tryz.ntmps218
    go_wp2;go_ret;exact⟨iW Hn.O.symm,(Qb w.heap.size w).alloc (Qn _) _⟩
  ·go_enter Tryz.func218,Tryz.ntmps218
   go_wp2;go_ret;exact⟨iW Hn.O.symm,(Qb w.heap.size w).alloc (Qn _) _⟩
 ·go_enter Tryz.func218,Tryz.ntmps218
  go_wp2;go_ret;exact⟨iW Hn.O.symm,(Qb w.heap.size w).alloc (Qn _) _⟩
def Bz(I:IH)(g:Nat)(cb:Array Value)(l:List bR)(p:bR→Bool)(C:World→Prop):Prop:=
 ∀x∈l,∀(ve:Value) (W:World),bf bG I ve x.ay→C W→Calls Tryz.prog g (#[uC x ve]++cb) W fun e w'=>e= .returned (.bool (p x))∧Below W.heap.size W w'
theorem Xhf(I:IH)(v:Value)(l:List bR)(hv:bf lL I v l)(g:Nat)(cb:Array Value)(p:bR→Bool)(w:World)(hw:Ok I w)(eg:∀args w,(callFunc g args).run Tryz.prog w= .ok (.enter g args) w)(hp:Bz I g cb l p (Below w.heap.size w)):
 Calls Tryz.prog 96 #[v,.func (.func g) #[] cb] w fun e w'=>e= .returned (.int .i64 (nW l p))∧Below w.heap.size w w':=by
 have hlen:=hv.bW;obtain⟨ao,cap,rfl,dO,iR,_⟩:=id hv;have Hv:=Qh hv;clear hv;have Hp:=Qh hp;clear hp;go_enter Tryz.func96,Tryz.ntmps96
 go_wp2_with fail
 go_loopw [8] (fun s8 wr=> ∃k:Nat,k≤l.length∧s8= .int .i64 k∧(l.take k).any p=false∧Below w.heap.size w wr) (fun i _=>l.length-(intOf i).toNat)
 case atStart=>exact⟨0,Nat.zero_le _,rfl,rfl,Qb _ _⟩
 case round=>
  obtain⟨k,hk,rfl,hr,hb⟩:=hrel;have Hr:=Qh hr;clear hr;by_cases hlt:k<l.length
  ·have dA:Ok I wr:=hw.below (Qn _) hb;obtain⟨x,ve,b,off,cap',bH,dn,⟨c0,c1,c2,c3,c4,c5⟩,h1⟩:=Dl Hv.O dA k hlt;cases dn;have sF:=Qh bH;have kS:=Qh (Hp.O x (by rw[←bH];exact List.getElem_mem hlt) ve wr h1 hb);obtain⟨oe,ce,rfl,_,_,_⟩:=id h1;clear bH h1;go_wp2_with fail
   refine kS.O.mono ?_;rintro e w1 ⟨rfl,au⟩;have av:=hb.trans (au.mono hb.size);clear au kS c0 c1 c2 c3 c4 c5;cases hpx:p x
   ·have Hn:=Qh (show(l.take (k+1)).any p=false by rw[List.take_succ_eq_append_getElem hlt,List.any_append,Hr.O,sF.O];simp[hpx]);clear hpx;go_wp2;go_roundw;case rel=>exact⟨k+1,by omega,by go_num,Hn.O,av⟩
    case measure=>simp[intOf];omega
   ·have Hn:=Qh (TK (p:=p) hlt (by rw[sF.O];exact hpx) Hr.O);clear hpx;go_wp2;go_ret;exact⟨bP Hn.O.symm,av⟩
  ·have Hn:=Qh (show nW l p= -1 from TJ (by have:=Hr.O;rwa[List.take_of_length_le (by omega)]at this));go_wp2;go_ret;exact⟨bP Hn.O.symm,hb⟩
theorem Xvz(I:IH)(d:Int)(b:Nat)(l:List bR)(w:World)(hc:w.cell? ⟨b,0,none⟩=some (.int .i64 d)):Bz I 97 #[.pointer (some ⟨b,0,none⟩)] l (fun x=>decide (d<x.aN)) (Below w.heap.size w):=by
 intro x _ ve W h1 hW;obtain⟨oe,ce,rfl,_,_,_⟩:=id h1;have JX:=fP (.cells #[.int .i64 x.num,.int .i64 x.aN,S x.aW,.slice oe x.ay.length ce,S x.aH,S x.sl] 62) (dh hW hc);clear hc h1;show Calls Tryz.prog _ #[uC x (.slice oe x.ay.length ce),.pointer (some ⟨b,0,none⟩)] W _;go_enter Tryz.func97,Tryz.ntmps97
 go_wp2;go_ret;exact⟨rfl,(Qb _ _).alloc (Qn _) _⟩
theorem Xxn(I:IH)(v:Value)(l:List bR)(hv:bf lL I v l)(d:Int)(w:World)(hw:Ok I w):
 Calls Tryz.prog 49 #[v,.int .i64 d] w fun r w'=>r= .returned (.int .i64 (oZ d l))∧Below w.heap.size w w':=by
 have Hi:=Qh (Xhf I v l hv _ _ _ _ (hw.alloc (.cells #[.int .i64 d] 3)) (fun _ _=>by kernel_rfl) (Xvz I d w.heap.size l (w.alloc (.cells #[.int .i64 d] 3)) (by simp)));have hlen:=hv.bW;obtain⟨ao,cap,rfl,dO,iR,_⟩:=id hv;clear hv;rcases KC l (fun x=>decide (d<x.aN))with⟨i,hi,e1,e2,e3⟩|⟨e1,e2⟩
 ·have Hn:=Qh (show((oZ d l:Nat):Int)=(i:Int) by rw[Xnh hi e2 e3]);rw[e1]at Hi;clear e1 e2 e3;go_enter Tryz.func49,Tryz.ntmps49
  go_wp2_with fail
  refine Hi.O.mono ?_;rintro e w1 ⟨rfl,au⟩;go_wp2;go_ret;exact⟨bP Hn.O.symm,((Qb _ _).alloc (Qn _) _).trans (au.mono (by simp))⟩
 ·have Hn:=Qh (show((oZ d l:Nat):Int)=(l.length:Int) by rw[Xni e2]);rw[e1]at Hi;clear e1 e2;go_enter Tryz.func49,Tryz.ntmps49
  go_wp2_with fail
  refine Hi.O.mono ?_;rintro e w1 ⟨rfl,au⟩;go_wp2;go_ret;exact⟨bP Hn.O.symm,((Qb _ _).alloc (Qn _) _).trans (au.mono (by simp))⟩
abbrev xtV(x:Xt):Value:= .agg #[.int .i64 x.s,.int .i64 x.o,.int .i64 x.n]
def Y4(g:Nat)(cb:Array Value)(l:List Xt)(p:Xt→Bool)(C:World→Prop):Prop:=
 ∀x∈l,∀W:World,C W→Calls Tryz.prog g (#[xtV x]++cb) W fun e w'=>e= .returned (.bool (p x))∧Below W.heap.size W w'
def XtB(x:Xt):Prop:=0≤x.s∧x.s≤255∧0≤x.o∧x.o≤2147483647∧1≤x.n∧x.n≤65536
theorem Xlf{l:List bR}{x:Xt}(h:x.s=0):mU l x=true:=by simp[mU,h]
theorem Xup{l:List bR}{x:Xt}(h0:x.s≠0)(h:(l.length:Int)<x.s):mU l x=false:=by
 unfold mU;rw[Qf (show ¬x.s≤(l.length:Int) by omega)];simpa using h0
theorem Xw3{l:List bR}{x:Xt}(hk:k<l.length){y:bR}(hy:l[k]=y)(h:x.s=(k:Int)+1):mU l x=decide (x.o+x.n≤(y.aH.length:Int)):=by
 unfold mU;rw[Qt (show x.s≤(l.length:Int) by omega),show(x.s-1).toNat=k by omega,List.getElem?_eq_getElem hk,hy,show(x.s==0)=false by simp;omega];rfl
structure o9 (T:TypeId) (n:Nat) (I:IH) (W:World) (s:jI) (vt vh:Value):Prop where
 row:W.heap[n]?=some (.cells #[vt,vh] T (0,0))
 aI:bf bG I vt s.aI
 holds:bf jw I vh s.holds
 ok:Ok I W
 free:I n=none
section
variable {T:TypeId} {n:Nat} {I I':IH} {W W':World} {s s':jI} {vt vh Al Gl:Value}
theorem o9.c0(h:o9 T n I W s vt vh):W.cell? ⟨n,0,none⟩=some vt:=(cell_of_row W _ 0 _ _ _ h.row).trans rfl
theorem o9.c1(h:o9 T n I W s vt vh):W.cell? ⟨n,1,none⟩=some vh:=(cell_of_row W _ 1 _ _ _ h.row).trans rfl
theorem o9.f0(h:o9 T n I W s vt vh):W.frozen? ⟨n,0,none⟩=false:=frozen_of_row W _ 0 _ _ h.row
theorem o9.f1(h:o9 T n I W s vt vh):W.frozen? ⟨n,1,none⟩=false:=frozen_of_row W _ 1 _ _ h.row
theorem o9.lt(h:o9 T n I W s vt vh):n<W.heap.size:=(Qg h.row)
theorem o9.below(h:o9 T n I W s vt vh)(hb:Below W.heap.size W W'):o9 T n I W' s vt vh:=
 ⟨(hb.block _ h.lt).trans h.row,h.aI,h.holds,h.ok.below (Qn _) hb,h.free⟩
theorem o9.past(h:o9 T n I W s vt vh)(o:Obj):o9 T n I (W.alloc o) s vt vh:=h.below ((Qb _ _).alloc (Qn _) o)
theorem o9.ext(h:o9 T n I W s vt vh)(hb:Below W.heap.size W W')(hx:Ext W.heap.size I I')(gG:Ok I' W'):o9 T n I' W' s vt vh:=
 ⟨(hb.block _ h.lt).trans h.row,h.aI.mono (hx.keep h.ok (Qn _)),h.holds.mono (hx.keep h.ok (Qn _)),gG,(hx _ h.lt).trans h.free⟩
theorem o9.set(h:o9 T n I W s vt vh)(h1:bf bG I Al s'.aI)(h2:bf jw I Gl s'.holds):o9 T n I ((W.setCell ⟨n,0,none⟩ Al).setCell ⟨n,1,none⟩ Gl) s' Al Gl:=
 ⟨heap_setCell_same _ n 1 _ _ Gl (heap_setCell_same W n 0 _ _ Al h.row),h1,h2,(h.ok.setCell h.free _).setCell h.free _,h.free⟩
theorem o9.new(hw:Ok I W)(_:T=T):o9 T W.heap.size I (W.alloc (.cells #[.slice none 0 0,.slice none 0 0] T)) lF (.slice none 0 0) (.slice none 0 0):=
 ⟨heap_alloc_new W _,bf.nil _ _,bf.nil _ _,hw.alloc _,hw.fresh (Qn _)⟩
end
theorem Xy9{l0 l:List bR}{aW:ae}{aN:Int}(hk:k<l.length){x:bR}(hx:l[k]=x):eO l0 k s aW aN (l.drop k)=
 if(eD x).2≠0 then(eD x).2 else if x.num≠k+1∨x.aN<aN then 14 else if x.aW≠aW then 20
 else if(ib (l0.take (k+1)) x.aN s x.ay).2≠0 then(ib (l0.take (k+1)) x.aN s x.ay).2 else eO l0 (k+1) (ib (l0.take (k+1)) x.aN s x.ay).1 (eD x).1 x.aN (l.drop (k+1)):=by
 rw[List.drop_eq_getElem_cons hk,hx,eO]
theorem Xtp(hj:j<es.length){y:aG}(hy:es[j]=y):ib L d s (es.drop j)=
 if(dY s y d).2≠0 then((dY s y d).1,(dY s y d).2)else if gP L y=false then((dY s y d).1,2)else ib L d (dY s y d).1 (es.drop (j+1)):=by
 rw[List.drop_eq_getElem_cons hj,hy,ib]
def LH(I:IH)(w:World)(s:jI)(n:Int)(e:Ending)(w':World):Prop:=
 ∃vt vh I',e= .returned (.tuple #[lh vt vh,.int .i64 n])∧Below w.heap.size w w'∧Ext w.heap.size I I'∧Ok I' w'∧bf bG I' vt s.aI∧bf jw I' vh s.holds
theorem Xu0(h:(bM s.aI e).2≠0):dY s e d=(s,(bM s.aI e).2):=by rw[dY,if_pos h]
theorem Xmm(I:IH)(hI:dQ I)(s:jI)(vt vh:Value)(uI:bf bG I vt s.aI)(zF:bf jw I vh s.holds)(hs:vE s.aI)(El:iQ s.aI)(hn:s.aI.length≤100000)(e:aG)(va vx:Value)(eP:bf lT I va e.ag)(eT:bf mr I vx e.ak)(jh:e.Wf)(nH:e.af.length≤4294967280)(pF:e.target.length≤4294967280)(d:Int)(h:(bM s.aI e).2≠0)(w:World)(hw:Ok I w):
 Calls Tryz.prog 159 #[lh vt vh,fB e va vx,.int .i64 d] w (LH I w (dY s e d).1 (dY s e d).2):=by
 have Ha:=Qh (fun w hw=>Xqd I hI vt s.aI uI hs El hn e va vx eP eT jh nH pF w hw);rw[Xu0 h];have BA:=Qh uI;have BB:=Qh zF;obtain⟨at',ct,rfl,_,_,_⟩:=id uI;obtain⟨ah,ch,rfl,_,_,_⟩:=id zF;obtain⟨aa,ca,rfl,_,_,_⟩:=id eP;obtain⟨ax,cx,rfl,_,_,_⟩:=id eT;obtain⟨t2,n,hx⟩:∃t2 n,bM s.aI e=(t2,n):=⟨_,_,rfl⟩;rw[hx]at Ha h ⊢;have AL:(n !=0)=true:=by simpa using h
 clear uI zF eP eT h hx;have aQ:Ok I (((w.alloc (.cells #[.slice at' s.aI.length ct,.slice ah s.holds.length ch] 154)).alloc (.cells #[.int .i64 e.ai,S e.af,.slice aa e.ag.length ca,S e.target,.int .i64 e.size,S e.aj,.slice ax e.ak.length cx] 35)).alloc (.cells #[.slice none 0 0,.slice none 0 0] 154)):=((hw.alloc _).alloc _).alloc _;go_enter Tryz.func159,Tryz.ntmps159
 go_wp2_with fail
 refine(Ha.O _ aQ).mono ?_;rintro e1 w1 ⟨v2,I1,rfl,au,gK,aD,fT⟩;obtain⟨a2,c2',rfl,_,_,_⟩:=id fT;have s0:w1.cell? ⟨w.heap.size,0,none⟩=some (.slice at' s.aI.length ct):=dh au (fP _ (fP _ (by simp)));have s1:w1.cell? ⟨w.heap.size,1,none⟩=some (.slice ah s.holds.length ch):=dh au (fP _ (fP _ (by simp)));have bI:w1.heap[w.heap.size+1+1]?=some (.cells #[.slice none 0 0,.slice none 0 0] 154 (0,0)):=(au.block _ (by simp)).trans (by have:=heap_alloc_new ((w.alloc (.cells #[.slice at' s.aI.length ct,.slice ah s.holds.length ch] 154)).alloc (.cells #[.int .i64 e.ai,S e.af,.slice aa e.ag.length ca,S e.target,.int .i64 e.size,S e.aj,.slice ax e.ak.length cx] 35)) (.cells #[.slice none 0 0,.slice none 0 0] 154);simpa using this);have r0:w1.cell? ⟨w.heap.size+1+1,0,none⟩=some (.slice none 0 0):=(cell_of_row w1 _ 0 _ _ _ bI).trans rfl;have r1:w1.cell? ⟨w.heap.size+1+1,1,none⟩=some (.slice none 0 0):=(cell_of_row w1 _ 1 _ _ _ bI).trans rfl;have f0:=frozen_of_row w1 _ 0 _ _ bI;have f1:=frozen_of_row w1 _ 1 _ _ bI;have av:Below w.heap.size w w1:=((((Qb w.heap.size w).alloc (Qn _) (.cells #[.slice at' s.aI.length ct,.slice ah s.holds.length ch] 154)).alloc (by simp) (.cells #[.int .i64 e.ai,S e.af,.slice aa e.ag.length ca,S e.target,.int .i64 e.size,S e.aj,.slice ax e.ak.length cx] 35)).alloc (by simp;omega) (.cells #[.slice none 0 0,.slice none 0 0] 154)).trans (au.mono (by simp;omega));clear fT au aQ Ha;have uY:(Tryz.prog.info? 154).map (·.size)=some 2:=by kernel_rfl
 have qR:=Qh uY;have mJ:=Qh bI;have Y5:Ok I w1:=hw.below (Qn _) av;have eY:I (w.heap.size+1+1)=none:=hw.fresh (by omega);clear uY bI;go_wp2;have hW:=heap_setCell_same _ (w.heap.size+1+1) 1 _ _ (.slice ah s.holds.length ch) (heap_setCell_same w1 (w.heap.size+1+1) 0 _ _ (.slice at' s.aI.length ct) mJ.O);refine bodyPost_ret (v:= .tuple #[lh (.slice at' s.aI.length ct) (.slice ah s.holds.length ch),.int .i64 n]) ?_ rfl ?_
 ·rw[results_cell_tmp rfl];simp[asAddr,run_loadVar_row _ (w.heap.size+1+1) 154 154 #[.slice at' s.aI.length ct,.slice ah s.holds.length ch] (0,0) _ hW Tryz.underlying154 rfl qR.O]
 ·exact⟨_,_,I,rfl,(av.setCell (by simp;omega) _).setCell (by simp;omega) _,Ext.refl _ _,(Y5.setCell eY _).setCell eY _,BA.O,BB.O⟩
structure Cz (n:Nat) (W:World) (vt vh:Value) (e:aG) (va vx:Value):Prop where
 s0:W.cell? ⟨n,0,none⟩=some vt
 s1:W.cell? ⟨n,1,none⟩=some vh
 eb:bn W (n+1) e va vx
 row:W.heap[n+1+1]?=some (.cells #[.slice none 0 0,.slice none 0 0] 154 (0,0))
theorem Cz.aA(h:Cz n W vt vh e va vx)(hb:Below W.heap.size W W'):Cz n W' vt vh e va vx:=
 ⟨dh hb h.s0,dh hb h.s1,h.eb.aA hb,(hb.block _ (Qg h.row)).trans h.row⟩
theorem Xiu(t:List aG)(p:ae):(kG t p).2=(dS t p).isSome:=by
 unfold kG;cases dS t p<;>rfl
theorem Xvx(I:IH)(hI:dQ I)(s:jI)(vt vh:Value)(uI:bf bG I vt s.aI)(zF:bf jw I vh s.holds)(hs:vE s.aI)(El:iQ s.aI)(hn:s.aI.length≤100000)(hk:tN s.holds)(EM:s.holds.length≤100000)(e:aG)(va vx:Value)(eP:bf lT I va e.ag)(eT:bf mr I vx e.ak)(jh:e.Wf)(nH:e.af.length≤4294967280)(pF:e.target.length≤4294967280)(d:Int)(w:World)(hw:Ok I w):
 Calls Tryz.prog 159 #[lh vt vh,fB e va vx,.int .i64 d] w (LH I w (dY s e d).1 (dY s e d).2):=by
 by_cases h:(bM s.aI e).2=0;case neg=>exact Xmm I hI s vt vh uI zF hs El hn e va vx eP eT jh nH pF d h w hw
 have Ha:=Qh (fun w hw=>Xqd I hI vt s.aI uI hs El hn e va vx eP eT jh nH pF w hw);have he:az e=0:=(lv.1 (PI h)).1.dm;have nK:=FO he;have HG:=Qh hI;have Hk:=Qh hk;have BA:=Qh uI;have BB:=Qh zF;have zu:=Qh eP;have tT:=Qh eT;have iG:=Qh (fun I hI v va vx hv eP eT w hw=>Xu7 I hI v s.holds hv hk EM e va vx eP eT he d w hw);obtain⟨at',ct,rfl,_,_,_⟩:=id uI;obtain⟨ah,ch,rfl,_,_,_⟩:=id zF;obtain⟨aa,ca,rfl,_,_,_⟩:=id eP;obtain⟨ax,cx,rfl,_,_,_⟩:=id eT;have uY:(Tryz.prog.info? 154).map (·.size)=some 2:=by kernel_rfl
 have qR:=Qh uY;obtain⟨t2,ht2⟩:∃t2,(bM s.aI e).1=t2:=⟨_,rfl⟩;have hx:bM s.aI e=(t2,0):=by rw[←ht2,←h]
 obtain⟨h2,m,MX⟩:∃h2 m,appH s.holds e d=(h2,m):=⟨_,_,rfl⟩;obtain⟨al,nM⟩:∃al,kv s.holds e.ai e.af d=al:=⟨_,rfl⟩;obtain⟨hb,xN⟩:∃hb,(kG s.aI e.af).2=hb:=⟨_,rfl⟩;obtain⟨cr,hcr⟩:∃cr,(e.ai==1 || e.ai==2 || e.ai==3)=cr:=⟨_,rfl⟩;have LJ:(3<e.ai)↔cr=false:=by
  rw[←hcr];have e1:(e.ai==1)=decide (e.ai=1):=rfl;have e2:(e.ai==2)=decide (e.ai=2):=rfl;have e3:(e.ai==3)=decide (e.ai=3):=rfl;rw[e1,e2,e3];simp only[Bool.or_eq_false_iff,decide_eq_false_iff_not];omega
 have jP:mH s e d=if cr=false∨hb=true then al else 0:=by
  unfold mH;rw[nM,←Xiu,xN];by_cases q:3<e.ai∨hb=true
  ·rw[if_pos q,if_pos (q.imp LJ.1 id)]
  ·rw[if_neg q,if_neg fun k=>q (k.imp LJ.2 id)]
 have gB:dY s e d=if mH s e d≠0 then(s,mH s e d)else if m≠0 then(s,m)else(⟨t2,h2⟩,0):=by
  rw[dY,if_neg (by omega),MX,ht2]
 rw[hx]at Ha;rw[MX]at iG;have Rk:=Qh hcr;have zY:=Qh xN;have rH:=Qh nM;clear uI zF eP eT uY hx MX hcr xN nM LJ hI hk h ht2 hs El he nK hn jh pF;cases cr;case false=>
  by_cases ha:al=0
  ·have oF:=Qh (fun(hm:m=0)=>show dY s e d=(⟨t2,h2⟩,0) by rw[gB,(show mH s e d=al by rw[jP,if_pos (.inl rfl)]),if_neg (show ¬(al≠0) by omega),if_neg (show ¬(m≠0) by omega)]);have oG:=Qh (fun(hm:¬m=0)=>show dY s e d=(s,m) by rw[gB,(show mH s e d=al by rw[jP,if_pos (.inl rfl)]),if_neg (show ¬(al≠0) by omega),if_pos hm]);subst ha;clear gB jP;go_enter Tryz.func159,Tryz.ntmps159
   go_wp2_with fail
   refine(Ha.O _ (((hw.alloc _).alloc _).alloc _)).mono ?_;rintro e1 w1 ⟨v2,I1,rfl,au,gK,aD,fT⟩;have bI:w1.heap[w.heap.size+1+1]?=some (.cells #[.slice none 0 0,.slice none 0 0] 154 (0,0)):=(au.block _ (by simp)).trans (by have:=heap_alloc_new ((w.alloc (.cells #[.slice at' s.aI.length ct,.slice ah s.holds.length ch] 154)).alloc (.cells #[.int .i64 e.ai,S e.af,.slice aa e.ag.length ca,S e.target,.int .i64 e.size,S e.aj,.slice ax e.ak.length cx] 35)) (.cells #[.slice none 0 0,.slice none 0 0] 154);simpa using this);have mY:bn ((w.alloc (.cells #[.slice at' s.aI.length ct,.slice ah s.holds.length ch] 154)).alloc (.cells #[.int .i64 e.ai,S e.af,.slice aa e.ag.length ca,S e.target,.int .i64 e.size,S e.aj,.slice ax e.ak.length cx] 35)) (w.heap.size+1) e (.slice aa e.ag.length ca) (.slice ax e.ak.length cx):=cB (by simp) (Qb _ _);have AW1:=Qh (Cz.mk (dh au (fP _ (fP _ (by simp)))) (dh au (fP _ (fP _ (by simp)))) ((mY.past _).aA au) bI:Cz w.heap.size w1 (.slice at' s.aI.length ct) (.slice ah s.holds.length ch) e (.slice aa e.ag.length ca) (.slice ax e.ak.length cx));have av:Below w.heap.size w w1:=((((Qb w.heap.size w).alloc (Qn _) (.cells #[.slice at' s.aI.length ct,.slice ah s.holds.length ch] 154)).alloc (by simp) (.cells #[.int .i64 e.ai,S e.af,.slice aa e.ag.length ca,S e.target,.int .i64 e.size,S e.aj,.slice ax e.ak.length cx] 35)).alloc (by simp;omega) (.cells #[.slice none 0 0,.slice none 0 0] 154)).trans (au.mono (by simp;omega));have gF:Ext (w.heap.size+1+1+1) I I1:=gK.mono (by simp);have fJ:=(gF.mono (show w.heap.size≤_ by omega)).keep hw (Qn _);have mZ:=Qh gF;have oU:=Qh fT;have xe:=Qh (HG.O.mono fJ);have jQ:=Qh (BA.O.mono fJ);have gz:=Qh (BB.O.mono fJ);have iM:=Qh (zu.O.mono fJ);have iN:=Qh (tT.O.mono fJ);obtain⟨a2,c2',rfl,_,_,_⟩:=id fT;clear au bI mY gK gF fJ fT Ha;obtain⟨s0,s1,⟨c0,c1,c2,c3,c4,c5,c6⟩,_⟩:=AW1.O;go_wp2_with fail
   refine(Rj I1 e _ _ iM.O iN.O w1).mono ?_;rintro e2 w2 ⟨rfl,aF⟩;rw[Rk.O];have aQ:Ok I1 w2:=aD.below (Qn _) aF;have AW2:=Qh (AW1.O.aA aF);have aL:=av.trans (aF.mono av.size);clear aF av AW1 aD s0 s1 c0 c1 c2 c3 c4 c5 c6;obtain⟨s0,s1,⟨c0,c1,c2,c3,c4,c5,c6⟩,_⟩:=AW2.O;go_wp2_with fail
   refine(TV I1 xe.O _ s.holds gz.O Hk.O EM e _ _ iM.O iN.O nH d w2 aQ).mono ?_;rintro e4 w4 ⟨rfl,aM⟩;rw[rH.O];have bC:Ok I1 w4:=aQ.below (Qn _) aM;have jR:=Qh (AW2.O.aA aM);have aO:=aL.trans (aM.mono aL.size);clear aM aL AW2 aQ s0 s1 c0 c1 c2 c3 c4 c5 c6;obtain⟨s0,s1,⟨c0,c1,c2,c3,c4,c5,c6⟩,_⟩:=jR.O;by_cases hm:m=0
   ·have Hn:=Qh (oF.O hm);subst hm;go_wp2_with fail
    refine(iG.O I1 xe.O _ _ _ gz.O iM.O iN.O w4 bC).mono ?_;rintro e5 w5 ⟨EN,I2,rfl,bq,fM,df,gM⟩;obtain⟨a3,c3',rfl,_,_,_⟩:=id gM;have sD:=Qh gM;have gW:=Qh (jR.O.aA bq);have mK:=Qh (mZ.O.trans fM (by have:=(Qg jR.O.row);omega));have jS:=Qh (fM.keep bC (Qn _));have bT:=aO.trans (bq.mono aO.size);clear bq aO jR bC s0 s1 c0 c1 c2 c3 c4 c5 c6 gM fM;obtain⟨s0,s1,⟨c0,c1,c2,c3,c4,c5,c6⟩,_⟩:=gW.O;have r0:w5.cell? ⟨w.heap.size+1+1,0,none⟩=some (.slice none 0 0):=(cell_of_row w5 _ 0 _ _ _ gW.O.row).trans rfl;have r1:w5.cell? ⟨w.heap.size+1+1,1,none⟩=some (.slice none 0 0):=(cell_of_row w5 _ 1 _ _ _ gW.O.row).trans rfl;have f0:=frozen_of_row w5 _ 0 _ _ gW.O.row;have f1:=frozen_of_row w5 _ 1 _ _ gW.O.row;go_wp2;have hW:=heap_setCell_same _ (w.heap.size+1+1) 1 _ _ (.slice a3 h2.length c3') (heap_setCell_same w5 (w.heap.size+1+1) 0 _ _ (.slice a2 t2.length c2') gW.O.row);refine bodyPost_ret (v:= .tuple #[lh (.slice a2 t2.length c2') (.slice a3 h2.length c3'),.int .i64 0]) ?_ rfl ?_
    ·rw[results_cell_tmp rfl];simp[asAddr,run_loadVar_row _ (w.heap.size+1+1) 154 154 #[(.slice a2 t2.length c2'),(.slice a3 h2.length c3')] (0,0) _ hW Tryz.underlying154 rfl qR.O]
    ·rw[Hn.O];have eY:I2 (w.heap.size+1+1)=none:=(mK.O _ (by omega)).trans (hw.fresh (by omega));exact⟨_,_,I2,rfl,(bT.setCell (by simp;omega) _).setCell (by simp;omega) _,Ext.mono mK.O (by omega),(Ok.setCell df eY _).setCell eY _,(oU.O.mono jS.O),sD.O⟩
   ·have Hn:=Qh (oG.O hm);have JZ:(m !=0)=true:=by simpa using hm
    clear hm;go_wp2_with fail
    refine(iG.O I1 xe.O _ _ _ gz.O iM.O iN.O w4 bC).mono ?_;rintro e5 w5 ⟨EN,I2,rfl,bq,fM,df,gM⟩;obtain⟨a3,c3',rfl,_,_,_⟩:=id gM;have sD:=Qh gM;have gW:=Qh (jR.O.aA bq);have mK:=Qh (mZ.O.trans fM (by have:=(Qg jR.O.row);omega));have jS:=Qh (fM.keep bC (Qn _));have bT:=aO.trans (bq.mono aO.size);clear bq aO jR bC s0 s1 c0 c1 c2 c3 c4 c5 c6 gM fM;obtain⟨s0,s1,⟨c0,c1,c2,c3,c4,c5,c6⟩,_⟩:=gW.O;have r0:w5.cell? ⟨w.heap.size+1+1,0,none⟩=some (.slice none 0 0):=(cell_of_row w5 _ 0 _ _ _ gW.O.row).trans rfl;have r1:w5.cell? ⟨w.heap.size+1+1,1,none⟩=some (.slice none 0 0):=(cell_of_row w5 _ 1 _ _ _ gW.O.row).trans rfl;have f0:=frozen_of_row w5 _ 0 _ _ gW.O.row;have f1:=frozen_of_row w5 _ 1 _ _ gW.O.row;go_wp2;have hW:=heap_setCell_same _ (w.heap.size+1+1) 1 _ _ (.slice ah s.holds.length ch) (heap_setCell_same w5 (w.heap.size+1+1) 0 _ _ (.slice at' s.aI.length ct) gW.O.row);refine bodyPost_ret (v:= .tuple #[lh (.slice at' s.aI.length ct) (.slice ah s.holds.length ch),.int .i64 m]) ?_ rfl ?_
    ·rw[results_cell_tmp rfl];simp[asAddr,run_loadVar_row _ (w.heap.size+1+1) 154 154 #[(.slice at' s.aI.length ct),(.slice ah s.holds.length ch)] (0,0) _ hW Tryz.underlying154 rfl qR.O]
    ·rw[Hn.O];have eY:I2 (w.heap.size+1+1)=none:=(mK.O _ (by omega)).trans (hw.fresh (by omega));exact⟨_,_,I2,rfl,(bT.setCell (by simp;omega) _).setCell (by simp;omega) _,Ext.mono mK.O (by omega),(Ok.setCell df eY _).setCell eY _,(jQ.O.mono jS.O),(gz.O.mono jS.O)⟩
  ·have Hn:=Qh (show dY s e d=(s,al) by rw[gB,(show mH s e d=al by rw[jP,if_pos (.inl rfl)]),if_pos ha]);have ha0:(al !=0)=true:=by simpa using ha
   clear gB jP ha iG;go_enter Tryz.func159,Tryz.ntmps159
   go_wp2_with fail
   refine(Ha.O _ (((hw.alloc _).alloc _).alloc _)).mono ?_;rintro e1 w1 ⟨v2,I1,rfl,au,gK,aD,fT⟩;have bI:w1.heap[w.heap.size+1+1]?=some (.cells #[.slice none 0 0,.slice none 0 0] 154 (0,0)):=(au.block _ (by simp)).trans (by have:=heap_alloc_new ((w.alloc (.cells #[.slice at' s.aI.length ct,.slice ah s.holds.length ch] 154)).alloc (.cells #[.int .i64 e.ai,S e.af,.slice aa e.ag.length ca,S e.target,.int .i64 e.size,S e.aj,.slice ax e.ak.length cx] 35)) (.cells #[.slice none 0 0,.slice none 0 0] 154);simpa using this);have mY:bn ((w.alloc (.cells #[.slice at' s.aI.length ct,.slice ah s.holds.length ch] 154)).alloc (.cells #[.int .i64 e.ai,S e.af,.slice aa e.ag.length ca,S e.target,.int .i64 e.size,S e.aj,.slice ax e.ak.length cx] 35)) (w.heap.size+1) e (.slice aa e.ag.length ca) (.slice ax e.ak.length cx):=cB (by simp) (Qb _ _);have AW1:=Qh (Cz.mk (dh au (fP _ (fP _ (by simp)))) (dh au (fP _ (fP _ (by simp)))) ((mY.past _).aA au) bI:Cz w.heap.size w1 (.slice at' s.aI.length ct) (.slice ah s.holds.length ch) e (.slice aa e.ag.length ca) (.slice ax e.ak.length cx));have av:Below w.heap.size w w1:=((((Qb w.heap.size w).alloc (Qn _) (.cells #[.slice at' s.aI.length ct,.slice ah s.holds.length ch] 154)).alloc (by simp) (.cells #[.int .i64 e.ai,S e.af,.slice aa e.ag.length ca,S e.target,.int .i64 e.size,S e.aj,.slice ax e.ak.length cx] 35)).alloc (by simp;omega) (.cells #[.slice none 0 0,.slice none 0 0] 154)).trans (au.mono (by simp;omega));have gF:Ext (w.heap.size+1+1+1) I I1:=gK.mono (by simp);have fJ:=(gF.mono (show w.heap.size≤_ by omega)).keep hw (Qn _);have mZ:=Qh gF;have oU:=Qh fT;have xe:=Qh (HG.O.mono fJ);have jQ:=Qh (BA.O.mono fJ);have gz:=Qh (BB.O.mono fJ);have iM:=Qh (zu.O.mono fJ);have iN:=Qh (tT.O.mono fJ);obtain⟨a2,c2',rfl,_,_,_⟩:=id fT;clear au bI mY gK gF fJ fT Ha;obtain⟨s0,s1,⟨c0,c1,c2,c3,c4,c5,c6⟩,_⟩:=AW1.O;go_wp2_with fail
   refine(Rj I1 e _ _ iM.O iN.O w1).mono ?_;rintro e2 w2 ⟨rfl,aF⟩;rw[Rk.O];have aQ:Ok I1 w2:=aD.below (Qn _) aF;have AW2:=Qh (AW1.O.aA aF);have aL:=av.trans (aF.mono av.size);clear aF av AW1 aD s0 s1 c0 c1 c2 c3 c4 c5 c6;obtain⟨s0,s1,⟨c0,c1,c2,c3,c4,c5,c6⟩,_⟩:=AW2.O;go_wp2_with fail
   refine(TV I1 xe.O _ s.holds gz.O Hk.O EM e _ _ iM.O iN.O nH d w2 aQ).mono ?_;rintro e4 w4 ⟨rfl,aM⟩;rw[rH.O];have bC:Ok I1 w4:=aQ.below (Qn _) aM;have jR:=Qh (AW2.O.aA aM);have aO:=aL.trans (aM.mono aL.size);clear aM aL AW2 aQ s0 s1 c0 c1 c2 c3 c4 c5 c6;obtain⟨s0,s1,⟨c0,c1,c2,c3,c4,c5,c6⟩,_⟩:=jR.O;have r0:w4.cell? ⟨w.heap.size+1+1,0,none⟩=some (.slice none 0 0):=(cell_of_row w4 _ 0 _ _ _ jR.O.row).trans rfl;have r1:w4.cell? ⟨w.heap.size+1+1,1,none⟩=some (.slice none 0 0):=(cell_of_row w4 _ 1 _ _ _ jR.O.row).trans rfl;have f0:=frozen_of_row w4 _ 0 _ _ jR.O.row;have f1:=frozen_of_row w4 _ 1 _ _ jR.O.row;go_wp2;have hW:=heap_setCell_same _ (w.heap.size+1+1) 1 _ _ (.slice ah s.holds.length ch) (heap_setCell_same w4 (w.heap.size+1+1) 0 _ _ (.slice at' s.aI.length ct) jR.O.row);refine bodyPost_ret (v:= .tuple #[lh (.slice at' s.aI.length ct) (.slice ah s.holds.length ch),.int .i64 al]) ?_ rfl ?_
   ·rw[results_cell_tmp rfl];simp[asAddr,run_loadVar_row _ (w.heap.size+1+1) 154 154 #[(.slice at' s.aI.length ct),(.slice ah s.holds.length ch)] (0,0) _ hW Tryz.underlying154 rfl qR.O]
   ·rw[Hn.O];have eY:I1 (w.heap.size+1+1)=none:=(mZ.O _ (by omega)).trans (hw.fresh (by omega));exact⟨_,_,I1,rfl,(aO.setCell (by simp;omega) _).setCell (by simp;omega) _,Ext.mono mZ.O (by omega),(Ok.setCell bC eY _).setCell eY _,jQ.O,gz.O⟩
 case true=>
  cases hb;case false=>
   have oF:=Qh (fun(hm:m=0)=>show dY s e d=(⟨t2,h2⟩,0) by rw[gB,(show mH s e d=0 by rw[jP,if_neg (by simp)]),if_neg (show ¬((0:Int)≠0) by decide),if_neg (show ¬(m≠0) by omega)]);have oG:=Qh (fun(hm:¬m=0)=>show dY s e d=(s,m) by rw[gB,(show mH s e d=0 by rw[jP,if_neg (by simp)]),if_neg (show ¬((0:Int)≠0) by decide),if_pos hm]);clear gB jP;go_enter Tryz.func159,Tryz.ntmps159
   go_wp2_with fail
   refine(Ha.O _ (((hw.alloc _).alloc _).alloc _)).mono ?_;rintro e1 w1 ⟨v2,I1,rfl,au,gK,aD,fT⟩;have bI:w1.heap[w.heap.size+1+1]?=some (.cells #[.slice none 0 0,.slice none 0 0] 154 (0,0)):=(au.block _ (by simp)).trans (by have:=heap_alloc_new ((w.alloc (.cells #[.slice at' s.aI.length ct,.slice ah s.holds.length ch] 154)).alloc (.cells #[.int .i64 e.ai,S e.af,.slice aa e.ag.length ca,S e.target,.int .i64 e.size,S e.aj,.slice ax e.ak.length cx] 35)) (.cells #[.slice none 0 0,.slice none 0 0] 154);simpa using this);have mY:bn ((w.alloc (.cells #[.slice at' s.aI.length ct,.slice ah s.holds.length ch] 154)).alloc (.cells #[.int .i64 e.ai,S e.af,.slice aa e.ag.length ca,S e.target,.int .i64 e.size,S e.aj,.slice ax e.ak.length cx] 35)) (w.heap.size+1) e (.slice aa e.ag.length ca) (.slice ax e.ak.length cx):=cB (by simp) (Qb _ _);have AW1:=Qh (Cz.mk (dh au (fP _ (fP _ (by simp)))) (dh au (fP _ (fP _ (by simp)))) ((mY.past _).aA au) bI:Cz w.heap.size w1 (.slice at' s.aI.length ct) (.slice ah s.holds.length ch) e (.slice aa e.ag.length ca) (.slice ax e.ak.length cx));have av:Below w.heap.size w w1:=((((Qb w.heap.size w).alloc (Qn _) (.cells #[.slice at' s.aI.length ct,.slice ah s.holds.length ch] 154)).alloc (by simp) (.cells #[.int .i64 e.ai,S e.af,.slice aa e.ag.length ca,S e.target,.int .i64 e.size,S e.aj,.slice ax e.ak.length cx] 35)).alloc (by simp;omega) (.cells #[.slice none 0 0,.slice none 0 0] 154)).trans (au.mono (by simp;omega));have gF:Ext (w.heap.size+1+1+1) I I1:=gK.mono (by simp);have fJ:=(gF.mono (show w.heap.size≤_ by omega)).keep hw (Qn _);have mZ:=Qh gF;have oU:=Qh fT;have xe:=Qh (HG.O.mono fJ);have jQ:=Qh (BA.O.mono fJ);have gz:=Qh (BB.O.mono fJ);have iM:=Qh (zu.O.mono fJ);have iN:=Qh (tT.O.mono fJ);obtain⟨a2,c2',rfl,_,_,_⟩:=id fT;clear au bI mY gK gF fJ fT Ha;obtain⟨s0,s1,⟨c0,c1,c2,c3,c4,c5,c6⟩,_⟩:=AW1.O;go_wp2_with fail
   refine(Rj I1 e _ _ iM.O iN.O w1).mono ?_;rintro e2 w2 ⟨rfl,aF⟩;rw[Rk.O];have aQ:Ok I1 w2:=aD.below (Qn _) aF;have AW2:=Qh (AW1.O.aA aF);have aL:=av.trans (aF.mono av.size);clear aF av AW1 aD s0 s1 c0 c1 c2 c3 c4 c5 c6;obtain⟨s0,s1,⟨c0,c1,c2,c3,c4,c5,c6⟩,_⟩:=AW2.O;go_wp2_with fail
   refine(Y3 I1 _ _ s.aI s.holds jQ.O gz.O e.af w2 aQ).mono ?_;rintro e3 w3 ⟨rfl,cO⟩;rw[zY.O];have bN:Ok I1 w3:=aQ.below (Qn _) cO;have AW3:=Qh (AW2.O.aA cO);have dw:=aL.trans (cO.mono aL.size);clear cO aL AW2 aQ s0 s1 c0 c1 c2 c3 c4 c5 c6;obtain⟨s0,s1,⟨c0,c1,c2,c3,c4,c5,c6⟩,_⟩:=AW3.O;by_cases hm:m=0
   ·have Hn:=Qh (oF.O hm);subst hm;go_wp2_with fail
    refine(iG.O I1 xe.O _ _ _ gz.O iM.O iN.O w3 bN).mono ?_;rintro e5 w5 ⟨EN,I2,rfl,bq,fM,df,gM⟩;obtain⟨a3,c3',rfl,_,_,_⟩:=id gM;have sD:=Qh gM;have gW:=Qh (AW3.O.aA bq);have mK:=Qh (mZ.O.trans fM (by have:=(Qg AW3.O.row);omega));have jS:=Qh (fM.keep bN (Qn _));have bT:=dw.trans (bq.mono dw.size);clear bq dw AW3 bN s0 s1 c0 c1 c2 c3 c4 c5 c6 gM fM;obtain⟨s0,s1,⟨c0,c1,c2,c3,c4,c5,c6⟩,_⟩:=gW.O;have r0:w5.cell? ⟨w.heap.size+1+1,0,none⟩=some (.slice none 0 0):=(cell_of_row w5 _ 0 _ _ _ gW.O.row).trans rfl;have r1:w5.cell? ⟨w.heap.size+1+1,1,none⟩=some (.slice none 0 0):=(cell_of_row w5 _ 1 _ _ _ gW.O.row).trans rfl;have f0:=frozen_of_row w5 _ 0 _ _ gW.O.row;have f1:=frozen_of_row w5 _ 1 _ _ gW.O.row;go_wp2;have hW:=heap_setCell_same _ (w.heap.size+1+1) 1 _ _ (.slice a3 h2.length c3') (heap_setCell_same w5 (w.heap.size+1+1) 0 _ _ (.slice a2 t2.length c2') gW.O.row);refine bodyPost_ret (v:= .tuple #[lh (.slice a2 t2.length c2') (.slice a3 h2.length c3'),.int .i64 0]) ?_ rfl ?_
    ·rw[results_cell_tmp rfl];simp[asAddr,run_loadVar_row _ (w.heap.size+1+1) 154 154 #[(.slice a2 t2.length c2'),(.slice a3 h2.length c3')] (0,0) _ hW Tryz.underlying154 rfl qR.O]
    ·rw[Hn.O];have eY:I2 (w.heap.size+1+1)=none:=(mK.O _ (by omega)).trans (hw.fresh (by omega));exact⟨_,_,I2,rfl,(bT.setCell (by simp;omega) _).setCell (by simp;omega) _,Ext.mono mK.O (by omega),(Ok.setCell df eY _).setCell eY _,(oU.O.mono jS.O),sD.O⟩
   ·have Hn:=Qh (oG.O hm);have JZ:(m !=0)=true:=by simpa using hm
    clear hm;go_wp2_with fail
    refine(iG.O I1 xe.O _ _ _ gz.O iM.O iN.O w3 bN).mono ?_;rintro e5 w5 ⟨EN,I2,rfl,bq,fM,df,gM⟩;obtain⟨a3,c3',rfl,_,_,_⟩:=id gM;have sD:=Qh gM;have gW:=Qh (AW3.O.aA bq);have mK:=Qh (mZ.O.trans fM (by have:=(Qg AW3.O.row);omega));have jS:=Qh (fM.keep bN (Qn _));have bT:=dw.trans (bq.mono dw.size);clear bq dw AW3 bN s0 s1 c0 c1 c2 c3 c4 c5 c6 gM fM;obtain⟨s0,s1,⟨c0,c1,c2,c3,c4,c5,c6⟩,_⟩:=gW.O;have r0:w5.cell? ⟨w.heap.size+1+1,0,none⟩=some (.slice none 0 0):=(cell_of_row w5 _ 0 _ _ _ gW.O.row).trans rfl;have r1:w5.cell? ⟨w.heap.size+1+1,1,none⟩=some (.slice none 0 0):=(cell_of_row w5 _ 1 _ _ _ gW.O.row).trans rfl;have f0:=frozen_of_row w5 _ 0 _ _ gW.O.row;have f1:=frozen_of_row w5 _ 1 _ _ gW.O.row;go_wp2;have hW:=heap_setCell_same _ (w.heap.size+1+1) 1 _ _ (.slice ah s.holds.length ch) (heap_setCell_same w5 (w.heap.size+1+1) 0 _ _ (.slice at' s.aI.length ct) gW.O.row);refine bodyPost_ret (v:= .tuple #[lh (.slice at' s.aI.length ct) (.slice ah s.holds.length ch),.int .i64 m]) ?_ rfl ?_
    ·rw[results_cell_tmp rfl];simp[asAddr,run_loadVar_row _ (w.heap.size+1+1) 154 154 #[(.slice at' s.aI.length ct),(.slice ah s.holds.length ch)] (0,0) _ hW Tryz.underlying154 rfl qR.O]
    ·rw[Hn.O];have eY:I2 (w.heap.size+1+1)=none:=(mK.O _ (by omega)).trans (hw.fresh (by omega));exact⟨_,_,I2,rfl,(bT.setCell (by simp;omega) _).setCell (by simp;omega) _,Ext.mono mK.O (by omega),(Ok.setCell df eY _).setCell eY _,(jQ.O.mono jS.O),(gz.O.mono jS.O)⟩
  case true=>
   by_cases ha:al=0
   ·have oF:=Qh (fun(hm:m=0)=>show dY s e d=(⟨t2,h2⟩,0) by rw[gB,(show mH s e d=al by rw[jP,if_pos (.inr rfl)]),if_neg (show ¬(al≠0) by omega),if_neg (show ¬(m≠0) by omega)]);have oG:=Qh (fun(hm:¬m=0)=>show dY s e d=(s,m) by rw[gB,(show mH s e d=al by rw[jP,if_pos (.inr rfl)]),if_neg (show ¬(al≠0) by omega),if_pos hm]);subst ha;clear gB jP;go_enter Tryz.func159,Tryz.ntmps159
    go_wp2_with fail
    refine(Ha.O _ (((hw.alloc _).alloc _).alloc _)).mono ?_;rintro e1 w1 ⟨v2,I1,rfl,au,gK,aD,fT⟩;have bI:w1.heap[w.heap.size+1+1]?=some (.cells #[.slice none 0 0,.slice none 0 0] 154 (0,0)):=(au.block _ (by simp)).trans (by have:=heap_alloc_new ((w.alloc (.cells #[.slice at' s.aI.length ct,.slice ah s.holds.length ch] 154)).alloc (.cells #[.int .i64 e.ai,S e.af,.slice aa e.ag.length ca,S e.target,.int .i64 e.size,S e.aj,.slice ax e.ak.length cx] 35)) (.cells #[.slice none 0 0,.slice none 0 0] 154);simpa using this);have mY:bn ((w.alloc (.cells #[.slice at' s.aI.length ct,.slice ah s.holds.length ch] 154)).alloc (.cells #[.int .i64 e.ai,S e.af,.slice aa e.ag.length ca,S e.target,.int .i64 e.size,S e.aj,.slice ax e.ak.length cx] 35)) (w.heap.size+1) e (.slice aa e.ag.length ca) (.slice ax e.ak.length cx):=cB (by simp) (Qb _ _);have AW1:=Qh (Cz.mk (dh au (fP _ (fP _ (by simp)))) (dh au (fP _ (fP _ (by simp)))) ((mY.past _).aA au) bI:Cz w.heap.size w1 (.slice at' s.aI.length ct) (.slice ah s.holds.length ch) e (.slice aa e.ag.length ca) (.slice ax e.ak.length cx));have av:Below w.heap.size w w1:=((((Qb w.heap.size w).alloc (Qn _) (.cells #[.slice at' s.aI.length ct,.slice ah s.holds.length ch] 154)).alloc (by simp) (.cells #[.int .i64 e.ai,S e.af,.slice aa e.ag.length ca,S e.target,.int .i64 e.size,S e.aj,.slice ax e.ak.length cx] 35)).alloc (by simp;omega) (.cells #[.slice none 0 0,.slice none 0 0] 154)).trans (au.mono (by simp;omega));have gF:Ext (w.heap.size+1+1+1) I I1:=gK.mono (by simp);have fJ:=(gF.mono (show w.heap.size≤_ by omega)).keep hw (Qn _);have mZ:=Qh gF;have oU:=Qh fT;have xe:=Qh (HG.O.mono fJ);have jQ:=Qh (BA.O.mono fJ);have gz:=Qh (BB.O.mono fJ);have iM:=Qh (zu.O.mono fJ);have iN:=Qh (tT.O.mono fJ);obtain⟨a2,c2',rfl,_,_,_⟩:=id fT;clear au bI mY gK gF fJ fT Ha;obtain⟨s0,s1,⟨c0,c1,c2,c3,c4,c5,c6⟩,_⟩:=AW1.O;go_wp2_with fail
    refine(Rj I1 e _ _ iM.O iN.O w1).mono ?_;rintro e2 w2 ⟨rfl,aF⟩;rw[Rk.O];have aQ:Ok I1 w2:=aD.below (Qn _) aF;have AW2:=Qh (AW1.O.aA aF);have aL:=av.trans (aF.mono av.size);clear aF av AW1 aD s0 s1 c0 c1 c2 c3 c4 c5 c6;obtain⟨s0,s1,⟨c0,c1,c2,c3,c4,c5,c6⟩,_⟩:=AW2.O;go_wp2_with fail
    refine(Y3 I1 _ _ s.aI s.holds jQ.O gz.O e.af w2 aQ).mono ?_;rintro e3 w3 ⟨rfl,cO⟩;rw[zY.O];have bN:Ok I1 w3:=aQ.below (Qn _) cO;have AW3:=Qh (AW2.O.aA cO);have dw:=aL.trans (cO.mono aL.size);clear cO aL AW2 aQ s0 s1 c0 c1 c2 c3 c4 c5 c6;obtain⟨s0,s1,⟨c0,c1,c2,c3,c4,c5,c6⟩,_⟩:=AW3.O;go_wp2_with fail
    refine(TV I1 xe.O _ s.holds gz.O Hk.O EM e _ _ iM.O iN.O nH d w3 bN).mono ?_;rintro e4 w4 ⟨rfl,aM⟩;rw[rH.O];have bC:Ok I1 w4:=bN.below (Qn _) aM;have jR:=Qh (AW3.O.aA aM);have aO:=dw.trans (aM.mono dw.size);clear aM dw AW3 bN s0 s1 c0 c1 c2 c3 c4 c5 c6;obtain⟨s0,s1,⟨c0,c1,c2,c3,c4,c5,c6⟩,_⟩:=jR.O;by_cases hm:m=0
    ·have Hn:=Qh (oF.O hm);subst hm;go_wp2_with fail
     refine(iG.O I1 xe.O _ _ _ gz.O iM.O iN.O w4 bC).mono ?_;rintro e5 w5 ⟨EN,I2,rfl,bq,fM,df,gM⟩;obtain⟨a3,c3',rfl,_,_,_⟩:=id gM;have sD:=Qh gM;have gW:=Qh (jR.O.aA bq);have mK:=Qh (mZ.O.trans fM (by have:=(Qg jR.O.row);omega));have jS:=Qh (fM.keep bC (Qn _));have bT:=aO.trans (bq.mono aO.size);clear bq aO jR bC s0 s1 c0 c1 c2 c3 c4 c5 c6 gM fM;obtain⟨s0,s1,⟨c0,c1,c2,c3,c4,c5,c6⟩,_⟩:=gW.O;have r0:w5.cell? ⟨w.heap.size+1+1,0,none⟩=some (.slice none 0 0):=(cell_of_row w5 _ 0 _ _ _ gW.O.row).trans rfl;have r1:w5.cell? ⟨w.heap.size+1+1,1,none⟩=some (.slice none 0 0):=(cell_of_row w5 _ 1 _ _ _ gW.O.row).trans rfl;have f0:=frozen_of_row w5 _ 0 _ _ gW.O.row;have f1:=frozen_of_row w5 _ 1 _ _ gW.O.row;go_wp2;have hW:=heap_setCell_same _ (w.heap.size+1+1) 1 _ _ (.slice a3 h2.length c3') (heap_setCell_same w5 (w.heap.size+1+1) 0 _ _ (.slice a2 t2.length c2') gW.O.row);refine bodyPost_ret (v:= .tuple #[lh (.slice a2 t2.length c2') (.slice a3 h2.length c3'),.int .i64 0]) ?_ rfl ?_
     ·rw[results_cell_tmp rfl];simp[asAddr,run_loadVar_row _ (w.heap.size+1+1) 154 154 #[(.slice a2 t2.length c2'),(.slice a3 h2.length c3')] (0,0) _ hW Tryz.underlying154 rfl qR.O]
     ·rw[Hn.O];have eY:I2 (w.heap.size+1+1)=none:=(mK.O _ (by omega)).trans (hw.fresh (by omega));exact⟨_,_,I2,rfl,(bT.setCell (by simp;omega) _).setCell (by simp;omega) _,Ext.mono mK.O (by omega),(Ok.setCell df eY _).setCell eY _,(oU.O.mono jS.O),sD.O⟩
    ·have Hn:=Qh (oG.O hm);have JZ:(m !=0)=true:=by simpa using hm
     clear hm;go_wp2_with fail
     refine(iG.O I1 xe.O _ _ _ gz.O iM.O iN.O w4 bC).mono ?_;rintro e5 w5 ⟨EN,I2,rfl,bq,fM,df,gM⟩;obtain⟨a3,c3',rfl,_,_,_⟩:=id gM;have sD:=Qh gM;have gW:=Qh (jR.O.aA bq);have mK:=Qh (mZ.O.trans fM (by have:=(Qg jR.O.row);omega));have jS:=Qh (fM.keep bC (Qn _));have bT:=aO.trans (bq.mono aO.size);clear bq aO jR bC s0 s1 c0 c1 c2 c3 c4 c5 c6 gM fM;obtain⟨s0,s1,⟨c0,c1,c2,c3,c4,c5,c6⟩,_⟩:=gW.O;have r0:w5.cell? ⟨w.heap.size+1+1,0,none⟩=some (.slice none 0 0):=(cell_of_row w5 _ 0 _ _ _ gW.O.row).trans rfl;have r1:w5.cell? ⟨w.heap.size+1+1,1,none⟩=some (.slice none 0 0):=(cell_of_row w5 _ 1 _ _ _ gW.O.row).trans rfl;have f0:=frozen_of_row w5 _ 0 _ _ gW.O.row;have f1:=frozen_of_row w5 _ 1 _ _ gW.O.row;go_wp2;have hW:=heap_setCell_same _ (w.heap.size+1+1) 1 _ _ (.slice ah s.holds.length ch) (heap_setCell_same w5 (w.heap.size+1+1) 0 _ _ (.slice at' s.aI.length ct) gW.O.row);refine bodyPost_ret (v:= .tuple #[lh (.slice at' s.aI.length ct) (.slice ah s.holds.length ch),.int .i64 m]) ?_ rfl ?_
     ·rw[results_cell_tmp rfl];simp[asAddr,run_loadVar_row _ (w.heap.size+1+1) 154 154 #[(.slice at' s.aI.length ct),(.slice ah s.holds.length ch)] (0,0) _ hW Tryz.underlying154 rfl qR.O]
     ·rw[Hn.O];have eY:I2 (w.heap.size+1+1)=none:=(mK.O _ (by omega)).trans (hw.fresh (by omega));exact⟨_,_,I2,rfl,(bT.setCell (by simp;omega) _).setCell (by simp;omega) _,Ext.mono mK.O (by omega),(Ok.setCell df eY _).setCell eY _,(jQ.O.mono jS.O),(gz.O.mono jS.O)⟩
   ·have Hn:=Qh (show dY s e d=(s,al) by rw[gB,(show mH s e d=al by rw[jP,if_pos (.inr rfl)]),if_pos ha]);have ha0:(al !=0)=true:=by simpa using ha
    clear gB jP ha iG;go_enter Tryz.func159,Tryz.ntmps159
    go_wp2_with fail
    refine(Ha.O _ (((hw.alloc _).alloc _).alloc _)).mono ?_;rintro e1 w1 ⟨v2,I1,rfl,au,gK,aD,fT⟩;have bI:w1.heap[w.heap.size+1+1]?=some (.cells #[.slice none 0 0,.slice none 0 0] 154 (0,0)):=(au.block _ (by simp)).trans (by have:=heap_alloc_new ((w.alloc (.cells #[.slice at' s.aI.length ct,.slice ah s.holds.length ch] 154)).alloc (.cells #[.int .i64 e.ai,S e.af,.slice aa e.ag.length ca,S e.target,.int .i64 e.size,S e.aj,.slice ax e.ak.length cx] 35)) (.cells #[.slice none 0 0,.slice none 0 0] 154);simpa using this);have mY:bn ((w.alloc (.cells #[.slice at' s.aI.length ct,.slice ah s.holds.length ch] 154)).alloc (.cells #[.int .i64 e.ai,S e.af,.slice aa e.ag.length ca,S e.target,.int .i64 e.size,S e.aj,.slice ax e.ak.length cx] 35)) (w.heap.size+1) e (.slice aa e.ag.length ca) (.slice ax e.ak.length cx):=cB (by simp) (Qb _ _);have AW1:=Qh (Cz.mk (dh au (fP _ (fP _ (by simp)))) (dh au (fP _ (fP _ (by simp)))) ((mY.past _).aA au) bI:Cz w.heap.size w1 (.slice at' s.aI.length ct) (.slice ah s.holds.length ch) e (.slice aa e.ag.length ca) (.slice ax e.ak.length cx));have av:Below w.heap.size w w1:=((((Qb w.heap.size w).alloc (Qn _) (.cells #[.slice at' s.aI.length ct,.slice ah s.holds.length ch] 154)).alloc (by simp) (.cells #[.int .i64 e.ai,S e.af,.slice aa e.ag.length ca,S e.target,.int .i64 e.size,S e.aj,.slice ax e.ak.length cx] 35)).alloc (by simp;omega) (.cells #[.slice none 0 0,.slice none 0 0] 154)).trans (au.mono (by simp;omega));have gF:Ext (w.heap.size+1+1+1) I I1:=gK.mono (by simp);have fJ:=(gF.mono (show w.heap.size≤_ by omega)).keep hw (Qn _);have mZ:=Qh gF;have oU:=Qh fT;have xe:=Qh (HG.O.mono fJ);have jQ:=Qh (BA.O.mono fJ);have gz:=Qh (BB.O.mono fJ);have iM:=Qh (zu.O.mono fJ);have iN:=Qh (tT.O.mono fJ);obtain⟨a2,c2',rfl,_,_,_⟩:=id fT;clear au bI mY gK gF fJ fT Ha;obtain⟨s0,s1,⟨c0,c1,c2,c3,c4,c5,c6⟩,_⟩:=AW1.O;go_wp2_with fail
    refine(Rj I1 e _ _ iM.O iN.O w1).mono ?_;rintro e2 w2 ⟨rfl,aF⟩;rw[Rk.O];have aQ:Ok I1 w2:=aD.below (Qn _) aF;have AW2:=Qh (AW1.O.aA aF);have aL:=av.trans (aF.mono av.size);clear aF av AW1 aD s0 s1 c0 c1 c2 c3 c4 c5 c6;obtain⟨s0,s1,⟨c0,c1,c2,c3,c4,c5,c6⟩,_⟩:=AW2.O;go_wp2_with fail
    refine(Y3 I1 _ _ s.aI s.holds jQ.O gz.O e.af w2 aQ).mono ?_;rintro e3 w3 ⟨rfl,cO⟩;rw[zY.O];have bN:Ok I1 w3:=aQ.below (Qn _) cO;have AW3:=Qh (AW2.O.aA cO);have dw:=aL.trans (cO.mono aL.size);clear cO aL AW2 aQ s0 s1 c0 c1 c2 c3 c4 c5 c6;obtain⟨s0,s1,⟨c0,c1,c2,c3,c4,c5,c6⟩,_⟩:=AW3.O;go_wp2_with fail
    refine(TV I1 xe.O _ s.holds gz.O Hk.O EM e _ _ iM.O iN.O nH d w3 bN).mono ?_;rintro e4 w4 ⟨rfl,aM⟩;rw[rH.O];have bC:Ok I1 w4:=bN.below (Qn _) aM;have jR:=Qh (AW3.O.aA aM);have aO:=dw.trans (aM.mono dw.size);clear aM dw AW3 bN s0 s1 c0 c1 c2 c3 c4 c5 c6;obtain⟨s0,s1,⟨c0,c1,c2,c3,c4,c5,c6⟩,_⟩:=jR.O;have r0:w4.cell? ⟨w.heap.size+1+1,0,none⟩=some (.slice none 0 0):=(cell_of_row w4 _ 0 _ _ _ jR.O.row).trans rfl;have r1:w4.cell? ⟨w.heap.size+1+1,1,none⟩=some (.slice none 0 0):=(cell_of_row w4 _ 1 _ _ _ jR.O.row).trans rfl;have f0:=frozen_of_row w4 _ 0 _ _ jR.O.row;have f1:=frozen_of_row w4 _ 1 _ _ jR.O.row;go_wp2;have hW:=heap_setCell_same _ (w.heap.size+1+1) 1 _ _ (.slice ah s.holds.length ch) (heap_setCell_same w4 (w.heap.size+1+1) 0 _ _ (.slice at' s.aI.length ct) jR.O.row);refine bodyPost_ret (v:= .tuple #[lh (.slice at' s.aI.length ct) (.slice ah s.holds.length ch),.int .i64 al]) ?_ rfl ?_
    ·rw[results_cell_tmp rfl];simp[asAddr,run_loadVar_row _ (w.heap.size+1+1) 154 154 #[(.slice at' s.aI.length ct),(.slice ah s.holds.length ch)] (0,0) _ hW Tryz.underlying154 rfl qR.O]
    ·rw[Hn.O];have eY:I1 (w.heap.size+1+1)=none:=(mZ.O _ (by omega)).trans (hw.fresh (by omega));exact⟨_,_,I1,rfl,(aO.setCell (by simp;omega) _).setCell (by simp;omega) _,Ext.mono mZ.O (by omega),(Ok.setCell bC eY _).setCell eY _,jQ.O,gz.O⟩
theorem Oo{x:Value}{a:Addr}(h:W.cell? a=some x)(bZ:a.block≠n):((W.setCell ⟨n,0,none⟩ u).setCell ⟨n,1,none⟩ v).cell? a=some x:=by
 rw[World.cell?_of_block (Below.heap_setCell _ _ _ _ bZ),World.cell?_of_block (Below.heap_setCell _ _ _ _ bZ)];exact h
theorem nC.set2{s:bR}(h:nC W b s ve)(bZ:b≠n):nC ((W.setCell ⟨n,0,none⟩ u).setCell ⟨n,1,none⟩ v) b s ve:=
 ⟨Oo h.c0 bZ,Oo h.c1 bZ,Oo h.c2 bZ,Oo h.c3 bZ,Oo h.c4 bZ,Oo h.c5 bZ⟩
theorem Xwv(h:(dY s e d).2=0):∀x∈e.ak,XtB x:=(Bn (step_ok h).2.2).NS
theorem Oq(W:World)(n:Nat)(hn:n=W.heap.size):aP jw 184 I (W.alloc (.cells #[] 184)) n (.slice (some ⟨n,0,none⟩) 0 0) []:=by
 subst hn;exact⟨[],World.ownsRow_made W #[] 0 (Qn _) (Nat.zero_le _) (by simp),bS.nil _ _⟩
theorem Xq8(hk:k<l.length){x:Ho}(hx:l[k]=x):gy (l.take (k+1)) p d=(gy (l.take k) p d || (decide (d≤x.u)&&under p x.p)):=by
 rw[List.take_succ_eq_append_getElem hk,hx];simp[gy,fF]
theorem Xo3(hk:k<l.length){x:Ho}(hx:l[k]=x):ku (l.take (k+1)) p d=(ku (l.take k) p d || (decide (d≤x.u)&&under x.p p)):=by
 rw[List.take_succ_eq_append_getElem hk,hx];simp[ku,fF]
theorem Xs4(hk:k<l.length){x:Ho}(hx:l[k]=x)(h1:decide (d≤x.u)=true)(h2:under p x.p=true):gy l p d=true:=by
 unfold gy;rw[List.any_eq_true];exact⟨x,List.mem_filter.2 ⟨by rw[←hx];exact List.getElem_mem hk,h1⟩,h2⟩
theorem Xrj(hk:k<l.length){x:Ho}(hx:l[k]=x)(h1:decide (d≤x.u)=true)(h2:under x.p p=true):ku l p d=true:=by
 unfold ku;rw[List.any_eq_true];exact⟨x,List.mem_filter.2 ⟨by rw[←hx];exact List.getElem_mem hk,h1⟩,h2⟩
theorem Xro{u U:Int}{x:Ho}(hk:k<l.length)(hx:l[k]=x)(h:mD p (l.drop k) u=U):mD p (l.drop (k+1)) (if x.p=p then x.u else u)=U:=by
 rw[List.drop_eq_getElem_cons hk,hx,mD]at h;exact h
theorem Xlr(I:IH)(v:Value)(l:List Ho)(hv:bf jw I v l)(hn:l.length≤100000)(d:Int)(w:World)(hw:Ok I w):
 Calls Tryz.prog 154 #[v,.int .i64 d] w fun e w'=> ∃v',e= .returned v'∧aP jw 184 I w' w.heap.size v' (fF l d)∧Below w.heap.size w w':=by
 obtain⟨ao,cap,rfl,dO,iR,_⟩:=id hv;have Hv:=Qh hv;clear hv;have H0:=Qh (Oq (I:=I) w w.heap.size rfl);go_enter Tryz.func154,Tryz.ntmps154
 go_wp2_with fail
 go_loopw [5,6] (fun s5 s6 wr=> ∃k:Nat,k≤l.length∧s6= .int .i64 k∧aP jw 184 I wr w.heap.size s5 (fF (l.take k) d)∧Below w.heap.size w wr) (fun _ i _=>l.length-(intOf i).toNat)
 case atStart=>exact⟨0,Nat.zero_le _,rfl,H0.O,(Qb _ _).alloc (Qn _) _⟩
 case round=>
  clear H0;obtain⟨k,hk,rfl,bE,hb⟩:=hrel;have bQ:=Qh bE;clear bE;have ol:(fF (l.take k) d).length≤k:=Nat.le_trans (List.length_filter_le _ _) (by simp;omega);by_cases hlt:k<l.length
  ·obtain⟨x,b,off,cap',bH,dn,c0,c1⟩:=yE Hv.O (hw.below (Qn _) hb) k hlt;cases dn;have bB:=Qh (WO (fun h=>decide (d≤h.u)) hlt bH);clear bH;cases hq:decide (d≤x.u)
   ·have Hn:=Qh (show fF (l.take (k+1)) d=fF (l.take k) d from WR bB.O hq);go_wp2;go_roundw;case rel=>exact⟨k+1,by omega,by go_num,bQ.O.rY Hn.O.symm,hb⟩
    case measure=>simp[intOf];omega
   ·have Hn:=Qh (show fF (l.take (k+1)) d=fF (l.take k) d++[x]from WQ bB.O hq);have pG:=hb.size;go_wp2_with (at_builtin;refine oK (w0:=wr) Bi rfl _ _ rfl _ _ _ rfl bQ.O x [S x.p,.int .i64 x.u] _ rfl rfl (by omega) (by omega) pG ?_)
    intro v9 w9 ek eQ;have ig:=Below.own hb eQ bQ.O (Qn _) pG;go_wp2;go_roundw;case rel=>exact⟨k+1,by omega,by go_num,ek.rY Hn.O.symm,ig⟩
    case measure=>simp[intOf];omega
  ·have aB:l.take k=l:=List.take_of_length_le (by omega);rw[aB]at bQ;clear aB ol;go_wp2;go_ret;exact⟨_,rfl,bQ.O,hb⟩
theorem Xqr(I:IH)(v:Value)(l:List Ho)(hv:bf jw I v l)(hn:l.length≤100000)(p:ae)(d:Int)(w:World)(hw:Ok I w):
 Calls Tryz.prog 153 #[v,S p,.int .i64 d] w fun e w'=>e= .returned (.bool (gy l p d))∧Below w.heap.size w w':=by
 obtain⟨ao,cap,rfl,dO,iR,_⟩:=id hv;have Hv:=Qh hv;clear hv;go_enter Tryz.func153,Tryz.ntmps153
 go_wp2_with fail
 go_loopw [7] (fun s7 wr=> ∃k:Nat,k≤l.length∧s7= .int .i64 k∧gy (l.take k) p d=false∧Below w.heap.size w wr) (fun i _=>l.length-(intOf i).toNat)
 case atStart=>exact⟨0,Nat.zero_le _,rfl,rfl,Qb _ _⟩
 case round=>
  obtain⟨k,hk,rfl,hr,hb⟩:=hrel;have Hr:=Qh hr;clear hr;have dA:Ok I wr:=hw.below (Qn _) hb;by_cases hlt:k<l.length
  ·obtain⟨x,b,off,cap',bH,dn,c0,c1⟩:=yE Hv.O dA k hlt;cases dn;have bB:=Qh (Xq8 (p:=p) (d:=d) hlt bH);have sF:=Qh bH;have KR:=Qh (fun w hw=>Tq I p x.p w hw);clear bH;cases hq:decide (d≤x.u)
   ·have Hn:=Qh (show gy (l.take (k+1)) p d=false by rw[bB.O,Hr.O,hq];rfl);go_wp2;go_roundw;case rel=>exact⟨k+1,by omega,by go_num,Hn.O,hb⟩
    case measure=>simp[intOf];omega
   ·go_wp2_with fail
    refine(KR.O _ dA).mono ?_;rintro e1 w1 ⟨rfl,au⟩;have av:=hb.trans (au.mono hb.size);clear au;cases hu:under p x.p
    ·have Hn:=Qh (show gy (l.take (k+1)) p d=false by rw[bB.O,Hr.O,hq,hu];rfl);go_wp2;go_roundw;case rel=>exact⟨k+1,by omega,by go_num,Hn.O,av⟩
     case measure=>simp[intOf];omega
    ·have Hn:=Qh (Xs4 (p:=p) (d:=d) hlt sF.O hq hu);go_wp2;go_ret;exact⟨iW Hn.O.symm,av⟩
  ·have Hn:=Qh (show gy l p d=false by have:=Hr.O;rwa[List.take_of_length_le (by omega)]at this);go_wp2;go_ret;exact⟨iW Hn.O.symm,hb⟩
theorem UO(I:IH)(v:Value)(l:List Ho)(hv:bf jw I v l)(hn:l.length≤100000)(e:aG)(va vx:Value)(eP:bf lT I va e.ag)(eT:bf mr I vx e.ak)(d:Int)(w:World)(hw:Ok I w):
 Calls Tryz.prog 93 #[v,fB e va vx,.int .i64 d] w fun r w'=>r= .returned (.int .i64 (kv l e.ai e.af d))∧Below w.heap.size w w':=by
 have Hh:=Qh (fun w hw=>Xqr I v l hv hn e.af d w hw);obtain⟨ao,cap,rfl,dO,iR,_⟩:=id hv;obtain⟨aa,ca,rfl,_,_,_⟩:=id eP;obtain⟨ax,cx,rfl,_,_,_⟩:=id eT;have Hv:=Qh hv;clear hv eP eT;by_cases h1:e.ai=1
 ·have k1:((e.ai:Int)==1)=true:=by simpa using h1
  have k4:((e.ai:Int)==4)=false:=by have:e.ai≠4:=by omega
                                    simpa using this
  have Hn:=Qh (show kv l e.ai e.af d=if gy l e.af d then 15 else 0 by rw[kv,if_pos (.inl h1)]);generalize gy l e.af d=b at Hh Hn;clear h1;go_enter Tryz.func93,Tryz.ntmps93
  go_wp2_with fail
  refine(Hh.O _ (hw.alloc _)).mono ?_;rintro e1 w1 ⟨rfl,au⟩;have iq:=Qh (cB (e:=e) rfl au);have aD:Ok I w1:=(hw.alloc _).below (Qn _) au;have av:=((Qb w.heap.size w).alloc (Qn _) (.cells #[.int .i64 e.ai,S e.af,.slice aa e.ag.length ca,S e.target,.int .i64 e.size,S e.aj,.slice ax e.ak.length cx] 35)).trans (au.mono (by simp));clear au;obtain⟨c0,c1,c2,c3,c4,c5,c6⟩:=iq.O;cases b
  ·go_wp2;go_ret;exact⟨bP Hn.O.symm,av⟩
  ·go_wp2;go_ret;exact⟨bP Hn.O.symm,av⟩
 have k1:((e.ai:Int)==1)=false:=by simpa using h1
 by_cases h2:e.ai=2
 ·have k2:((e.ai:Int)==2)=true:=by simpa using h2
  have k4:((e.ai:Int)==4)=false:=by have:e.ai≠4:=by omega
                                    simpa using this
  have Hn:=Qh (show kv l e.ai e.af d=if gy l e.af d then 15 else 0 by rw[kv,if_pos (.inr (.inl h2))]);generalize gy l e.af d=b at Hh Hn;clear h1 h2;go_enter Tryz.func93,Tryz.ntmps93
  go_wp2_with fail
  refine(Hh.O _ (hw.alloc _)).mono ?_;rintro e1 w1 ⟨rfl,au⟩;have iq:=Qh (cB (e:=e) rfl au);have aD:Ok I w1:=(hw.alloc _).below (Qn _) au;have av:=((Qb w.heap.size w).alloc (Qn _) (.cells #[.int .i64 e.ai,S e.af,.slice aa e.ag.length ca,S e.target,.int .i64 e.size,S e.aj,.slice ax e.ak.length cx] 35)).trans (au.mono (by simp));clear au;obtain⟨c0,c1,c2,c3,c4,c5,c6⟩:=iq.O;cases b
  ·go_wp2;go_ret;exact⟨bP Hn.O.symm,av⟩
  ·go_wp2;go_ret;exact⟨bP Hn.O.symm,av⟩
 have k2:((e.ai:Int)==2)=false:=by simpa using h2
 by_cases h3:e.ai=3
 ·have k3:((e.ai:Int)==3)=true:=by simpa using h3
  have k4:((e.ai:Int)==4)=false:=by have:e.ai≠4:=by omega
                                    simpa using this
  have Hn:=Qh (show kv l e.ai e.af d=if gy l e.af d then 15 else 0 by rw[kv,if_pos (.inr (.inr h3))]);generalize gy l e.af d=b at Hh Hn;clear h1 h2 h3;go_enter Tryz.func93,Tryz.ntmps93
  go_wp2_with fail
  refine(Hh.O _ (hw.alloc _)).mono ?_;rintro e1 w1 ⟨rfl,au⟩;have iq:=Qh (cB (e:=e) rfl au);have aD:Ok I w1:=(hw.alloc _).below (Qn _) au;have av:=((Qb w.heap.size w).alloc (Qn _) (.cells #[.int .i64 e.ai,S e.af,.slice aa e.ag.length ca,S e.target,.int .i64 e.size,S e.aj,.slice ax e.ak.length cx] 35)).trans (au.mono (by simp));clear au;obtain⟨c0,c1,c2,c3,c4,c5,c6⟩:=iq.O;cases b
  ·go_wp2;go_ret;exact⟨bP Hn.O.symm,av⟩
  ·go_wp2;go_ret;exact⟨bP Hn.O.symm,av⟩
 have k3:((e.ai:Int)==3)=false:=by simpa using h3
 have zh:¬(e.ai=1∨e.ai=2∨e.ai=3):=fun q=>by omega
 by_cases h4:e.ai=4;case neg=>
  have k4:((e.ai:Int)==4)=false:=by simpa using h4
  have Hn:=Qh (show kv l e.ai e.af d=0 by rw[kv,if_neg zh,if_neg h4]);clear h1 h2 h3 h4 zh;go_enter Tryz.func93,Tryz.ntmps93
  go_wp2;go_ret;exact⟨bP Hn.O.symm,(Qb w.heap.size w).alloc (Qn _) _⟩
 have k4:((e.ai:Int)==4)=true:=by simpa using h4
 have Hn:=Qh (show kv l e.ai e.af d=if gy l e.af d || ku l e.af d then 15 else 0 by rw[kv,if_neg zh,if_pos h4]);clear h1 h2 h3 h4 zh;generalize gy l e.af d=b at Hh Hn;go_enter Tryz.func93,Tryz.ntmps93
 go_wp2_with fail
 refine(Hh.O _ (hw.alloc _)).mono ?_;rintro e1 w1 ⟨rfl,au⟩;have iq:=Qh (cB (e:=e) rfl au);have aD:Ok I w1:=(hw.alloc _).below (Qn _) au;have av:=((Qb w.heap.size w).alloc (Qn _) (.cells #[.int .i64 e.ai,S e.af,.slice aa e.ag.length ca,S e.target,.int .i64 e.size,S e.aj,.slice ax e.ak.length cx] 35)).trans (au.mono (by simp));clear au;obtain⟨c0,c1,c2,c3,c4,c5,c6⟩:=iq.O;cases b;case true=>
  go_wp2;go_ret;exact⟨bP Hn.O.symm,av⟩
 go_wp2_with fail
 clear c0 c1 c2 c3 c4 c5 c6;go_loopw [8] (fun s8 wr=> ∃k:Nat,k≤l.length∧s8= .int .i64 k∧ku (l.take k) e.af d=false∧Below w1.heap.size w1 wr) (fun i _=>l.length-(intOf i).toNat)
 case atStart=>exact⟨0,Nat.zero_le _,rfl,rfl,Qb _ _⟩
 case round=>
  obtain⟨k,hk,rfl,hr,hb⟩:=hrel;have Hr:=Qh hr;clear hr;have dA:Ok I wr:=aD.below (Qn _) hb;have sS:=av.trans (hb.mono av.size);by_cases hlt:k<l.length
  ·obtain⟨x,b,off,cap',bH,dn,x0,x1⟩:=yE Hv.O dA k hlt;cases dn;have bB:=Qh (Xo3 (p:=e.af) (d:=d) hlt bH);have sF:=Qh bH;have KR:=Qh (fun w hw=>Tq I x.p e.af w hw);obtain⟨c0,c1,c2,c3,c4,c5,c6⟩:=iq.O.aA hb;have g1:=cell_regrown c1;have y0:=cell_regrown x0;have y1:=cell_regrown x1;clear bH c0 c1 c2 c3 c4 c5 c6 x0 x1;cases hq:decide (d≤x.u)
   ·have jF:=Qh (show ku (l.take (k+1)) e.af d=false by rw[bB.O,Hr.O,hq];rfl);go_wp2_with fail
    refine wp_region_quiet_below (by kernel_rfl) (by kernel_rfl) ?_;repeat(go_big_quiet_step ((fail)))
    refine wpQuiet_nil ?_;intro w2 bg;have aF:Below (wr).heap.size (wr) w2:=by
     obtain⟨pq,rfl⟩:=bg;exact below_regrown _ _ _
    clear bg;go_wp2;go_roundw;case rel=>exact⟨k+1,by omega,by go_num,jF.O,hb.trans (aF.mono hb.size)⟩
    case measure=>simp[intOf];omega
   ·go_wp2_with fail
    refine wp_region_quiet_below (by kernel_rfl) (by kernel_rfl) ?_;repeat(go_big_quiet_step ((with_reducible exact Calls.regrown_of (KR.O _ (dA.below (Qn _) (below_regrown _ _ _))))))
    refine wpQuiet_nil ?_;intro w2 bg;have aF:Below (wr).heap.size (wr) w2:=by
     obtain⟨pq,rfl⟩:=bg;exact below_regrown _ _ _
    clear bg;have aL:=hb.trans (aF.mono hb.size);cases hu:under x.p e.af
    ·have jF:=Qh (show ku (l.take (k+1)) e.af d=false by rw[bB.O,Hr.O,hq,hu];rfl);go_wp2;go_roundw;case rel=>exact⟨k+1,by omega,by go_num,jF.O,aL⟩
     case measure=>simp[intOf];omega
    ·have jF:=Qh (show kv l e.ai e.af d=15 by rw[Hn.O,Xrj hlt sF.O hq hu];rfl);go_wp2;go_ret;exact⟨bP jF.O.symm,sS.trans (aF.mono sS.size)⟩
  ·have jF:=Qh (show kv l e.ai e.af d=0 by
    have:=Hr.O;rw[List.take_of_length_le (by omega)]at this;rw[Hn.O,this];rfl)
   go_wp2;go_ret;exact⟨bP jF.O.symm,sS⟩
theorem Xfp(I:IH)(v:Value)(l:List Ho)(hv:bf jw I v l)(hn:l.length≤100000)(p:ae)(w:World)(hw:Ok I w):
 Calls Tryz.prog 156 #[v,S p] w fun e w'=> ∃v',e= .returned (.tuple #[v',.int .i64 (mD p l (-1))])∧aP jw 184 I w' w.heap.size v' (ii l p)∧Below w.heap.size w w':=by
 obtain⟨ao,cap,rfl,dO,iR,_⟩:=id hv;have Hv:=Qh hv;clear hv;have H0:=Qh (Oq (I:=I) w w.heap.size rfl);obtain⟨U,hU⟩:∃U,mD p l (-1)=U:=⟨_,rfl⟩;rw[hU];have HU:=Qh hU;clear hU;go_enter Tryz.func156,Tryz.ntmps156
 go_wp2_with fail
 go_loopw [6,7,8] (fun s6 s7 s8 wr=> ∃(k:Nat) (u:Int),k≤l.length∧s8= .int .i64 k∧s7= .int .i64 u∧mD p (l.drop k) u=U∧aP jw 184 I wr w.heap.size s6 (ii (l.take k) p)∧Below w.heap.size w wr) (fun _ _ i _=>l.length-(intOf i).toNat)
 case atStart=>exact⟨0,-1,Nat.zero_le _,rfl,rfl,HU.O,H0.O,(Qb _ _).alloc (Qn _) _⟩
 case round=>
  clear H0;obtain⟨k,u,hk,rfl,rfl,hu,bE,hb⟩:=hrel;have bQ:=Qh bE;have Hu:=Qh hu;clear bE hu;have ol:(ii (l.take k) p).length≤k:=Nat.le_trans (List.length_filter_le _ _) (by simp;omega);by_cases hlt:k<l.length
  ·obtain⟨x,b,off,cap',bH,dn,c0,c1⟩:=yE Hv.O (hw.below (Qn _) hb) k hlt;cases dn;have bB:=Qh (WO (fun h=> !(h.p==p)) hlt bH);have Lu:=Qh (Xro hlt bH Hu.O);clear bH Hu;cases hq:(x.p==p)
   ·have Hn:=Qh (show ii (l.take (k+1)) p=ii (l.take k) p++[x]from WQ bB.O (by rw[hq];rfl));have jF:=Qh (show mD p (l.drop (k+1)) u=U by have:=Lu.O;rwa[if_neg (by simpa using hq)]at this);have pG:=hb.size;go_wp2_with (at_builtin;refine oK (w0:=wr) Bi rfl _ _ rfl _ _ _ rfl bQ.O x [S x.p,.int .i64 x.u] _ rfl rfl (by omega) (by omega) pG ?_)
    intro v9 w9 ek eQ;have ig:=Below.own hb eQ bQ.O (Qn _) pG;go_wp2;go_roundw;case rel=>exact⟨k+1,u,by omega,by go_num,rfl,jF.O,ek.rY Hn.O.symm,ig⟩
    case measure=>simp[intOf];omega
   ·have Hn:=Qh (show ii (l.take (k+1)) p=ii (l.take k) p from WR bB.O (by rw[hq];rfl));have jF:=Qh (show mD p (l.drop (k+1)) x.u=U by have:=Lu.O;rwa[if_pos (by simpa using hq)]at this);go_wp2;go_roundw;case rel=>exact⟨k+1,x.u,by omega,by go_num,rfl,jF.O,bQ.O.rY Hn.O.symm,hb⟩
    case measure=>simp[intOf];omega
  ·have aB:l.take k=l:=List.take_of_length_le (by omega);have jf:u=U:=by have:=Hu.O;rwa[List.drop_of_length_le (by omega)]at this
   rw[aB]at bQ;subst jf;clear aB ol;go_wp2;go_ret2;exact⟨_,rfl,bQ.O,hb⟩
theorem Xqs(s:ae)(hd:fU s=true)(w:World):
 Calls Tryz.prog 155 #[S s] w fun e w'=>e= .returned (.int .i64 (digits s))∧Below w.heap.size w w':=by
 obtain⟨ha,bZ,aB,hz⟩:=WT hd;have tH:=(Tv hd).2;have hlen:=List.length_pos_iff.2 bZ;obtain⟨p1,p2,p3,p4⟩:=Bc bZ;have JU:=Xd hd;have d10:decide (10<s.length)=false:=Qf (by omega);have hx0:=gQ (P:=Tryz.prog) Tryz.underlying9 s 0 0 rfl hlen;have kW:=Qh aB;have jU:(¬1<s.length∧decide (1<s.length)=false)∨(1<s.length∧decide (1<s.length)=true∧(((s.getD 0 0).toNat:Int)==48)=false):=by
  by_cases h5:1<s.length
  ·right;refine⟨h5,Qt h5,?_⟩;have:((s.getD 0 0).toNat:Int)≠48:=fun e=>by
    have:=hz (by omega);rw[this]at h5;simp at h5
   simpa using this
  ·exact .inl ⟨h5,Qf h5⟩
 obtain⟨U,hU⟩:∃U,digits s=U:=⟨_,rfl⟩;have HU:=Qh hU;rw[hU]at tH ⊢;have dU:decide (1000000000<U)=false:=Qf (by omega);generalize(s.getD 0 0).toNat=c0 at hx0 jU;clear ha bZ aB hz hd hU;rcases jU with⟨h5,Fp⟩|⟨h5,Fp,he3⟩
 all_goals
  go_enter Tryz.func155,Tryz.ntmps155
  go_wp2_with fail
  go_loop [3,4] (fun s3 s4=> ∃k:Nat,k≤s.length∧s4= .int .i64 k∧s3= .int .i64 (digits (s.take k))) (fun _ i=>s.length-(intOf i).toNat)
  case atStart=>exact⟨0,Nat.zero_le _,rfl,rfl⟩
  case round=>
   obtain⟨k,hk,rfl,rfl⟩:=hrel;have BO:=Xm5 k (s.take k) (by rw[List.length_take];omega) (List.all_eq_true.2 fun c hc=>List.all_eq_true.1 kW.O c (List.mem_of_mem_take hc));by_cases hlt:k<s.length
   ·have hx:=gQ (P:=Tryz.prog) Tryz.underlying9 s (k:Int) k rfl hlt;have Z9:(10:Int)^k≤10000000000:=by
     have:(10:Nat)^k≤10^10:=Nat.pow_le_pow_right (by decide) (by omega);have h2:((10^k:Nat):Int)≤((10^10:Nat):Int):=by exact_mod_cast this
     simpa using h2
    have qJ:s.take (k+1)=s.take k++[s.getD k 0]:=by rw[List.take_succ_eq_append_getElem hlt];simp[List.getD,hlt]
    have Gq:digits (s.take (k+1))=10*digits (s.take k)+(((s.getD k 0).toNat:Int)-48):=by rw[qJ,VM]
    have gX:s.getD k 0∈s:=by simp[List.getD,hlt]
    obtain⟨b1,b2⟩:=FN (List.all_eq_true.1 kW.O _ gX);clear qJ gX;generalize(s.getD k 0).toNat=c at hx Gq b1 b2;generalize digits (s.take k)=n at BO Gq ⊢;generalize((10:Int)^k)=p10 at BO Z9;have VN:=Qh Gq;have e48:decide ((c:Int)<48)=false:=Qf (by omega);have e57:decide (57<(c:Int))=false:=Qf (by omega);have m1:IntKind.u8.wrap ((c:Int)-48)=(c:Int)-48:=IntWalk.u8_in _ (by omega);have m2:IntKind.i64.wrap ((c:Int)-48)=(c:Int)-48:=IntWalk.i64_in _ (by omega);clear Gq;go_wp2;go_round;case rel=>exact⟨k+1,by omega,by go_num,by rw[VN.O]⟩
    case measure=>simp[intOf];omega
   ·have jf:digits (s.take k)=U:=by rw[List.take_of_length_le (by omega)];exact HU.O
    rw[jf];clear jf BO;go_wp2;go_ret;exact⟨rfl,Qb _ _⟩
theorem bf.JK{T:Ty α}{l:List α}{off cap:Nat}(h:bf T I (.slice (some ⟨b,off,none⟩) m cap) l)(hn:n≤l.length):bf T I (.slice (some ⟨b,off+n*T.size,none⟩) (m-n) (cap-n)) (l.drop n):=by
 obtain⟨ao,c,e,h1,h2,h3⟩:=h;cases e;refine⟨_,_,by rw[List.length_drop],by rw[List.length_drop];omega,by omega,fun hl=> ?_⟩;rw[List.length_drop]at hl;obtain⟨b',off',arr,e1,e2,e3⟩:=h3 (by omega);cases e1;refine⟨_,_,_,rfl,e2,fun i hi=> ?_⟩;rw[List.length_drop]at hi;obtain⟨cs,k1,k2⟩:=e3 (n+i) (by omega);refine⟨cs,by rw[List.getElem_drop];exact k1,fun j u hu=> ?_⟩;have:=k2 j u hu;rw[Nat.add_mul]at this;rw[←this];congr 1;omega
theorem Xs0(hk:k<l.length){x:Ho}(hx:l[k]=x)(hc:¬iP h.p x.p<0)(hr:jk h l=l.take k++jk h (l.drop k)):jk h l=l.take (k+1)++jk h (l.drop (k+1)):=by
 have hlt:ji (els h.p) (els x.p)=false:=by
  cases q:ji (els h.p) (els x.p)with
  |false=>rfl
  |true=>exact absurd (by unfold iP;rw[q];simp) hc
 rw[hr,List.drop_eq_getElem_cons hk,hx,jk,if_neg (by simp[hlt]),List.take_succ_eq_append_getElem hk,hx];simp
theorem Xvr(hk:k<l.length){x:Ho}(hx:l[k]=x)(hc:iP h.p x.p<0)(hr:jk h l=l.take k++jk h (l.drop k)):jk h l=(([]++l.take k)++[h])++l.drop k:=by
 have hlt:ji (els h.p) (els x.p)=true:=by
  cases q:ji (els h.p) (els x.p)with
  |true=>rfl
  |false=>
   exfalso;unfold iP at hc;rw[q]at hc;simp only[Bool.false_eq_true,if_false]at hc;split at hc<;>omega
 rw[hr];conv=>lhs;rw[List.drop_eq_getElem_cons hk,hx,jk,if_pos hlt]
 rw[List.drop_eq_getElem_cons hk,hx];simp
theorem Ot(W:World)(a b:Value)(t:TypeId):∀(j:Nat) (u:Value),[a,b][j]?=some u→(W.alloc (.cells #[a,b] t)).cell? ⟨W.heap.size,j,none⟩=some u:=fun j u hu=>by
 rw[World.cell?_alloc_new];simpa using hu
theorem Xgx(I:IH)(v:Value)(l:List Ho)(hv:bf jw I v l)(hk:∀x∈l,x.p.length≤4294967280)(hn:l.length≤100000)(h:Ho)(hp:h.p.length≤4294967280)(w:World)(hw:Ok I w):
 Calls Tryz.prog 157 #[v,KD h] w fun e w'=> ∃v',e= .returned v'∧aP jw 184 I w' w.heap.size v' (jk h l)∧Below w.heap.size w w':=by
 obtain⟨ao,cap,rfl,dO,iR,_⟩:=id hv;have Hv:=Qh hv;have Hk:=Qh hk;clear hv hk;have uN:Ok I (w.alloc (.cells #[S h.p,.int .i64 h.u] 184)):=hw.alloc _;go_enter Tryz.func157,Tryz.ntmps157
 go_wp2_with fail
 go_loopw [5] (fun s5 wr=> ∃k:Nat,k≤l.length∧s5= .int .i64 k∧jk h l=l.take k++jk h (l.drop k)∧Below (w.alloc (.cells #[S h.p,.int .i64 h.u] 184)).heap.size (w.alloc (.cells #[S h.p,.int .i64 h.u] 184)) wr) (fun i _=>l.length-(intOf i).toNat)
 case atStart=>exact⟨0,Nat.zero_le _,rfl,by simp,Qb _ _⟩
 case round=>
  obtain⟨k,hk,rfl,hr,hb⟩:=hrel;have Hr:=Qh hr;clear hr;have dA:Ok I wr:=uN.below (Qn _) hb;have dH:Below w.heap.size w wr:=((Qb w.heap.size w).alloc (Qn _) _).trans (hb.mono (by simp));have G5:w.heap.size<wr.heap.size:=by have:=hb.size;simp at this;omega
  have k0:wr.cell? ⟨w.heap.size,0,none⟩=some (S h.p):=dh hb (by simp);have k1:wr.cell? ⟨w.heap.size,1,none⟩=some (.int .i64 h.u):=dh hb (by simp);by_cases hlt:k<l.length
  ·obtain⟨x,b,off,cap',bH,dn,x0,x1⟩:=yE Hv.O dA k hlt;cases dn;have uw:=Qh (fun w hw=>Tt I h.p x.p hp (Hk.O x (by rw[←bH];exact List.getElem_mem hlt)) w hw);have g0:=cell_regrown k0;have y0:=cell_regrown x0;have zm:=Qh (fun hc=>Xs0 hlt bH hc Hr.O);have nZ:=Qh (fun hc=>Xvr hlt bH hc Hr.O);obtain⟨c,hc⟩:∃c,iP h.p x.p=c:=⟨_,rfl⟩;rw[hc]at uw zm nZ;clear bH hc Hr;go_wp2_with fail
   refine wp_region_quiet_below (by kernel_rfl) (by kernel_rfl) ?_;repeat(go_big_quiet_step ((with_reducible exact Calls.regrown_of (uw.O _ (dA.below (Qn _) (below_regrown _ _ _))))))
   refine wpQuiet_nil ?_;intro w2 bg;have aF:Below (wr).heap.size (wr) w2:=by
    obtain⟨pq,rfl⟩:=bg;exact below_regrown _ _ _
   clear bg;have aL:=hb.trans (aF.mono hb.size);have I5:=dH.trans (aF.mono dH.size);have aQ:Ok I w2:=dA.below (Qn _) aF;have k0:=dh aF k0;have k1:=dh aF k1;have fO:w.heap.size<w2.heap.size:=by have:=aF.size;omega
   clear aF hb dH g0 y0 x0 x1 dA;by_cases nk:c<0
   ·have Hn:=Qh (nZ.O nk);have hci:c<(0:Int):=nk;have Cu:=Qh (fun(W:World) (hW:Ok I W)=>rq.Ee (T:=jw) (Hv.O.rR (n:=k) (by omega)) hW (by decide));have Hs3:=Qh (fun(W:World) (hW:Ok I W)=>rq.Ee (T:=jw) (Hv.O.JK (n:=k) (by omega)) hW (by decide));clear nZ zm nk;have eY:∀b,w.heap.size+1≤b→I b=none:=fun b hb=>hw.fresh (by omega);have FC:aP jw 184 I (w2.drew.alloc (.cells #[] 184)) (w.heap.size+1) (.slice (some ⟨w2.heap.size,0,none⟩) 0 0) []:=(Oq w2.drew w2.heap.size rfl).lower (by omega);have Ja:aP jw 184 I ((w2.drew.alloc (.cells #[] 184)).alloc (.cells #[S h.p,.int .i64 h.u] 184)) (w.heap.size+1) (.slice (some ⟨w2.heap.size,0,none⟩) 0 0) []:=FC.alloc _;have Iz:aP jw 184 I ((w2.drew.alloc (.cells #[S h.p,.int .i64 h.u] 184)).alloc (.cells #[] 184)) (w.heap.size+1) (.slice (some ⟨w2.heap.size+1,0,none⟩) 0 0) []:=(Oq (w2.drew.alloc (.cells #[S h.p,.int .i64 h.u] 184)) (w2.heap.size+1) (by simp)).lower (by omega);have hD:Below w.heap.size w w2.drew:=I5.drew;have Gr:Below w.heap.size w (w2.drew.alloc (.cells #[] 184)):=hD.alloc hD.size _;have OE:Below w.heap.size w ((w2.drew.alloc (.cells #[] 184)).alloc (.cells #[S h.p,.int .i64 h.u] 184)):=Gr.alloc Gr.size _;have hD3:Below w.heap.size w ((w2.drew.alloc (.cells #[S h.p,.int .i64 h.u] 184)).alloc (.cells #[] 184)):=(hD.alloc hD.size (.cells #[S h.p,.int .i64 h.u] 184)).alloc (hD.alloc hD.size (.cells #[S h.p,.int .i64 h.u] 184)).size _;have LK:Ok I (w2.drew.alloc (.cells #[] 184)):=aQ.drew.alloc _;have SX:Ok I ((w2.drew.alloc (.cells #[] 184)).alloc (.cells #[S h.p,.int .i64 h.u] 184)):=LK.alloc _;have SY:Ok I ((w2.drew.alloc (.cells #[S h.p,.int .i64 h.u] 184)).alloc (.cells #[] 184)):=(aQ.drew.alloc _).alloc _;have IV:∀(j:Nat) (u:Value),[S h.p,.int .i64 h.u][j]?=some u→((w2.drew.alloc (.cells #[] 184)).alloc (.cells #[S h.p,.int .i64 h.u] 184)).cell? ⟨w2.heap.size+1,j,none⟩=some u:=by simpa using Ot (w2.drew.alloc (.cells #[] 184)) (S h.p) (.int .i64 h.u) 184
    have Y6:∀(j:Nat) (u:Value),[S h.p,.int .i64 h.u][j]?=some u→((w2.drew.alloc (.cells #[S h.p,.int .i64 h.u] 184)).alloc (.cells #[] 184)).cell? ⟨w2.heap.size,j,none⟩=some u:=fun j u hu=>fP _ (Ot w2.drew (S h.p) (.int .i64 h.u) 184 j u hu);have Y7:=fun W=>Ot W (S h.p) (.int .i64 h.u) 184;have i0:(0:Int)≤k:=by omega
    have i1:(k:Int)≤l.length:=by omega
    have i2:(l.length:Int)≤cap:=by omega
    have i3:(k:Int)≤cap:=by omega
    have hck:¬cap=k:=by omega
    have jd:l.length≤100000:=hn;go_wp2_with fail
    go_region_held3 (fun W=>W.cell? ⟨w.heap.size,0,none⟩=some (S h.p)∧W.cell? ⟨w.heap.size,1,none⟩=some (.int .i64 h.u))
    (first
      |go_keep
      |(go_split_ands;refine⟨?_,?_⟩<;>(refine xP hg1 hne1 ?_;assumption))
      |(go_split_ands;refine⟨?_,?_⟩<;>(refine xP hg2 hne2 ?_;assumption))
      |(go_split_ands;refine⟨?_,?_⟩<;>(refine xP hg5 hne5 ?_;assumption)))
    (first
      |(refine Ef (w:=w2.drew.alloc (.cells #[] 184)) Bi (by rfl) _ _ (by rfl) (by rfl) FC (by rfl) (Cu.O _ LK) (by simp;omega) (by simp;omega) (by simp;omega) ?_
        intro v1 w3 dz hg1;have hne1:=FC.dx (show w.heap.size<w.heap.size+1 by omega);have cO:=Below.own Gr hg1 FC (by omega) (by simp;omega);have bN:=Ok.own LK hg1 FC eY;have AU:=hg1.size;simp at AU)
      |(refine Ef (w:=(w2.drew.alloc (.cells #[] 184)).alloc (.cells #[S h.p,.int .i64 h.u] 184)) Bi (by rfl) _ _ (by rfl) (by rfl) Ja (by rfl) (Cu.O _ SX) (by simp;omega) (by simp;omega) (by simp;omega) ?_
        intro v1 w3 dz hg1;have hne1:=Ja.dx (show w.heap.size<w.heap.size+1 by omega);have cO:=Below.own OE hg1 Ja (by omega) (by simp;omega);have bN:=Ok.own SX hg1 Ja eY;have AU:=hg1.size;simp at AU;have ML:∀(j:Nat) (u:Value),[S h.p,.int .i64 h.u][j]?=some u→w3.cell? ⟨w2.heap.size+1,j,none⟩=some u:=fun j u hu=>xP hg1 (by simp[Value.ownBlock]) (IV j u hu))
      |(refine Ef (w:=(w2.drew.alloc (.cells #[S h.p,.int .i64 h.u] 184)).alloc (.cells #[] 184)) Bi (by rfl) _ _ (by rfl) (by rfl) Iz (by rfl) (Cu.O _ SY) (by simp;omega) (by simp;omega) (by simp;omega) ?_
        intro v1 w3 dz hg1;have hne1:=Iz.dx (show w.heap.size<w.heap.size+1 by omega);have cO:=Below.own hD3 hg1 Iz (by omega) (by simp;omega);have bN:=Ok.own SY hg1 Iz eY;have AU:=hg1.size;simp at AU;have ML:∀(j:Nat) (u:Value),[S h.p,.int .i64 h.u][j]?=some u→w3.cell? ⟨w2.heap.size,j,none⟩=some u:=fun j u hu=>xP hg1 (by simp[Value.ownBlock]) (Y6 j u hu))
      |(refine Ef (w:=w3.alloc (.cells #[S h.p,.int .i64 h.u] 184)) Bi (by rfl) _ _ (by rfl) (by rfl) (dz.alloc (.cells #[S h.p,.int .i64 h.u] 184)) (by rfl) (rq.wZ (x:=h) (cs:=[S h.p,.int .i64 h.u]) rfl (Y7 w3)) (by simp;omega) (by simp;omega) (by(try simp);omega) ?_
        intro v2 w4 fE hg2;have hne2:=aP.dx (dz.alloc (.cells #[S h.p,.int .i64 h.u] 184)) (show w.heap.size<w.heap.size+1 by omega);have aM:=Below.own (cO.alloc cO.size (.cells #[S h.p,.int .i64 h.u] 184)) hg2 (dz.alloc (.cells #[S h.p,.int .i64 h.u] 184)) (by omega) (by(try simp);omega);have bC:=Ok.own (bN.alloc (.cells #[S h.p,.int .i64 h.u] 184)) hg2 (dz.alloc (.cells #[S h.p,.int .i64 h.u] 184)) eY;have MZ:=hg2.size
        (try simp at MZ))
      |(refine Ef (w:=w3) Bi (by rfl) _ _ (by rfl) (by rfl) dz (by rfl) (rq.wZ (x:=h) (cs:=[S h.p,.int .i64 h.u]) rfl ML) (by simp;omega) (by simp;omega) (by(try simp);omega) ?_
        intro v2 w4 fE hg2;have hne2:=aP.dx dz (show w.heap.size<w.heap.size+1 by omega);have aM:=Below.own cO hg2 dz (by omega) (by(try simp);omega);have bC:=Ok.own bN hg2 dz eY;have MZ:=hg2.size
        (try simp at MZ))
      |(refine Ef (w:=w4) Bi (by rfl) _ _ (by rfl) (by rfl) fE (by rfl) (Hs3.O _ bC) (by simp;omega) (by simp;omega) (by omega) ?_
        intro v5 w5 gY hg5;have hne5:=fE.dx (show w.heap.size<w.heap.size+1 by omega);have bq:=Below.own aM hg5 fE (by omega) (by omega)))
    all_goals
     go_wp2;go_ret;exact⟨v5,rfl,(gY.lower (by omega)).rY (by rw[Hn.O]),bq⟩
   ·have Hn:=Qh (zm.O (by omega));have hci:¬c<(0:Int):=nk;clear nZ zm nk;go_wp2;go_roundw;case rel=>exact⟨k+1,by omega,by go_num,Hn.O,aL⟩
    case measure=>simp[intOf];omega
  ·have kW:=Qh (show jk h l=([]++l)++[h] by
    rw[Hr.O,List.drop_of_length_le (by omega),List.take_of_length_le (by omega),jk];simp)
   have Cu:=Qh (fun(W:World) (hW:Ok I W)=>rq.Ee (T:=jw) Hv.O hW (by decide));have fO:=G5;have eY:∀b,w.heap.size+1≤b→I b=none:=fun b hb=>hw.fresh (by omega);have FC:aP jw 184 I (wr.drew.alloc (.cells #[] 184)) (w.heap.size+1) (.slice (some ⟨wr.heap.size,0,none⟩) 0 0) []:=(Oq wr.drew wr.heap.size rfl).lower (by omega);have Ja:aP jw 184 I ((wr.drew.alloc (.cells #[] 184)).alloc (.cells #[S h.p,.int .i64 h.u] 184)) (w.heap.size+1) (.slice (some ⟨wr.heap.size,0,none⟩) 0 0) []:=FC.alloc _;have Iz:aP jw 184 I ((wr.drew.alloc (.cells #[S h.p,.int .i64 h.u] 184)).alloc (.cells #[] 184)) (w.heap.size+1) (.slice (some ⟨wr.heap.size+1,0,none⟩) 0 0) []:=(Oq (wr.drew.alloc (.cells #[S h.p,.int .i64 h.u] 184)) (wr.heap.size+1) (by simp)).lower (by omega);have hD:Below w.heap.size w wr.drew:=dH.drew;have Gr:Below w.heap.size w (wr.drew.alloc (.cells #[] 184)):=hD.alloc hD.size _;have OE:Below w.heap.size w ((wr.drew.alloc (.cells #[] 184)).alloc (.cells #[S h.p,.int .i64 h.u] 184)):=Gr.alloc Gr.size _;have hD3:Below w.heap.size w ((wr.drew.alloc (.cells #[S h.p,.int .i64 h.u] 184)).alloc (.cells #[] 184)):=(hD.alloc hD.size (.cells #[S h.p,.int .i64 h.u] 184)).alloc (hD.alloc hD.size (.cells #[S h.p,.int .i64 h.u] 184)).size _;have LK:Ok I (wr.drew.alloc (.cells #[] 184)):=dA.drew.alloc _;have SX:Ok I ((wr.drew.alloc (.cells #[] 184)).alloc (.cells #[S h.p,.int .i64 h.u] 184)):=LK.alloc _;have SY:Ok I ((wr.drew.alloc (.cells #[S h.p,.int .i64 h.u] 184)).alloc (.cells #[] 184)):=(dA.drew.alloc _).alloc _;have IV:∀(j:Nat) (u:Value),[S h.p,.int .i64 h.u][j]?=some u→((wr.drew.alloc (.cells #[] 184)).alloc (.cells #[S h.p,.int .i64 h.u] 184)).cell? ⟨wr.heap.size+1,j,none⟩=some u:=by simpa using Ot (wr.drew.alloc (.cells #[] 184)) (S h.p) (.int .i64 h.u) 184
   have Y6:∀(j:Nat) (u:Value),[S h.p,.int .i64 h.u][j]?=some u→((wr.drew.alloc (.cells #[S h.p,.int .i64 h.u] 184)).alloc (.cells #[] 184)).cell? ⟨wr.heap.size,j,none⟩=some u:=fun j u hu=>fP _ (Ot wr.drew (S h.p) (.int .i64 h.u) 184 j u hu);have Y7:=fun W=>Ot W (S h.p) (.int .i64 h.u) 184;have i0:(0:Int)≤k:=by omega
   have i1:(k:Int)≤l.length:=by omega
   have i2:(l.length:Int)≤cap:=by omega
   have i3:(k:Int)≤cap:=by omega
   go_wp2_with fail
   go_region_held3 (fun W=>W.cell? ⟨w.heap.size,0,none⟩=some (S h.p)∧W.cell? ⟨w.heap.size,1,none⟩=some (.int .i64 h.u))
   (first
     |go_keep
     |(go_split_ands;refine⟨?_,?_⟩<;>(refine xP hg1 hne1 ?_;assumption))
     |(go_split_ands;refine⟨?_,?_⟩<;>(refine xP hg2 hne2 ?_;assumption))
     |(go_split_ands;refine⟨?_,?_⟩<;>(refine xP hg5 hne5 ?_;assumption)))
   (first
     |(refine Ef (w:=wr.drew.alloc (.cells #[] 184)) Bi (by rfl) _ _ (by rfl) (by rfl) FC (by rfl) (Cu.O _ LK) (by simp;omega) (by simp;omega) (by simp;omega) ?_
       intro v1 w3 dz hg1;have hne1:=FC.dx (show w.heap.size<w.heap.size+1 by omega);have cO:=Below.own Gr hg1 FC (by omega) (by simp;omega);have bN:=Ok.own LK hg1 FC eY;have AU:=hg1.size;simp at AU)
     |(refine Ef (w:=(wr.drew.alloc (.cells #[] 184)).alloc (.cells #[S h.p,.int .i64 h.u] 184)) Bi (by rfl) _ _ (by rfl) (by rfl) Ja (by rfl) (Cu.O _ SX) (by simp;omega) (by simp;omega) (by simp;omega) ?_
       intro v1 w3 dz hg1;have hne1:=Ja.dx (show w.heap.size<w.heap.size+1 by omega);have cO:=Below.own OE hg1 Ja (by omega) (by simp;omega);have bN:=Ok.own SX hg1 Ja eY;have AU:=hg1.size;simp at AU;have ML:∀(j:Nat) (u:Value),[S h.p,.int .i64 h.u][j]?=some u→w3.cell? ⟨wr.heap.size+1,j,none⟩=some u:=fun j u hu=>xP hg1 (by simp[Value.ownBlock]) (IV j u hu))
     |(refine Ef (w:=(wr.drew.alloc (.cells #[S h.p,.int .i64 h.u] 184)).alloc (.cells #[] 184)) Bi (by rfl) _ _ (by rfl) (by rfl) Iz (by rfl) (Cu.O _ SY) (by simp;omega) (by simp;omega) (by simp;omega) ?_
       intro v1 w3 dz hg1;have hne1:=Iz.dx (show w.heap.size<w.heap.size+1 by omega);have cO:=Below.own hD3 hg1 Iz (by omega) (by simp;omega);have bN:=Ok.own SY hg1 Iz eY;have AU:=hg1.size;simp at AU;have ML:∀(j:Nat) (u:Value),[S h.p,.int .i64 h.u][j]?=some u→w3.cell? ⟨wr.heap.size,j,none⟩=some u:=fun j u hu=>xP hg1 (by simp[Value.ownBlock]) (Y6 j u hu))
     |(refine Ef (w:=w3.alloc (.cells #[S h.p,.int .i64 h.u] 184)) Bi (by rfl) _ _ (by rfl) (by rfl) (dz.alloc (.cells #[S h.p,.int .i64 h.u] 184)) (by rfl) (rq.wZ (x:=h) (cs:=[S h.p,.int .i64 h.u]) rfl (Y7 w3)) (by simp;omega) (by simp;omega) (by(try simp);omega) ?_
       intro v2 w4 fE hg2;have hne2:=aP.dx (dz.alloc (.cells #[S h.p,.int .i64 h.u] 184)) (show w.heap.size<w.heap.size+1 by omega);have aM:=Below.own (cO.alloc cO.size (.cells #[S h.p,.int .i64 h.u] 184)) hg2 (dz.alloc (.cells #[S h.p,.int .i64 h.u] 184)) (by omega) (by(try simp);omega);have bC:=Ok.own (bN.alloc (.cells #[S h.p,.int .i64 h.u] 184)) hg2 (dz.alloc (.cells #[S h.p,.int .i64 h.u] 184)) eY;have MZ:=hg2.size
       (try simp at MZ))
     |(refine Ef (w:=w3) Bi (by rfl) _ _ (by rfl) (by rfl) dz (by rfl) (rq.wZ (x:=h) (cs:=[S h.p,.int .i64 h.u]) rfl ML) (by simp;omega) (by simp;omega) (by(try simp);omega) ?_
       intro v2 w4 fE hg2;have hne2:=aP.dx dz (show w.heap.size<w.heap.size+1 by omega);have aM:=Below.own cO hg2 dz (by omega) (by(try simp);omega);have bC:=Ok.own bN hg2 dz eY;have MZ:=hg2.size
       (try simp at MZ)))
   all_goals
    go_wp2;go_ret;exact⟨v2,rfl,(fE.lower (by omega)).rY (by rw[kW.O]),aM⟩
theorem Xn3(I:IH)(v:Value)(l:List Ho)(hv:bf jw I v l)(hk:tN l)(hn:l.length≤100000)(e:aG)(va vx:Value)(eP:bf lT I va e.ag)(eT:bf mr I vx e.ak)(he:az e=0)(d:Int)(w:World)(hw:Ok I w):
 Calls Tryz.prog 94 #[v,fB e va vx,.int .i64 d] w (yh jw I w (appH l e d).1 (appH l e d).2):=by
 have Ha:=Qh (fun w hw=>Xlr I v l hv hn d w hw);have nH:e.af.length≤4294967280:=by have:=(BL (FO he).2.2.1).1;omega
 have Hd:=Qh (fun h5=>VT he h5);have nM:(fF l d).length≤100000:=Nat.le_trans (List.length_filter_le _ _) hn;have PU:=Qh (hk.act d);have Mv:(ii (fF l d) e.af).length≤(fF l d).length:=List.length_filter_le _ _;have KJ:=Qh ((hk.act d).rest e.af);have OU:e.ai=5→appH l e d=(jk ⟨e.af,gT e.af (fF l d) (digits e.target)⟩ (ii (fF l d) e.af),0):=fun h=>Xnj h;have Ou:e.ai=6→appH l e d=if wN (fF l d) e.af then(ii (fF l d) e.af,0)else([],9):=fun h=>by rw[appH,if_neg (by omega),if_pos h]
 have nI:= @Xql l e d;obtain⟨ao,cap,rfl,dO,iR,_⟩:=id hv;obtain⟨aa,ca,rfl,_,_,_⟩:=id eP;obtain⟨ax,cx,rfl,_,_,_⟩:=id eT;clear hv eP eT hk he;obtain⟨act,Ta⟩:∃act,fF l d=act:=⟨_,rfl⟩;rw[Ta]at Ha nM PU Mv KJ OU Ou nI;obtain⟨rest,iV⟩:∃rest,ii act e.af=rest:=⟨_,rfl⟩;rw[iV]at Mv KJ OU Ou;obtain⟨U,hU⟩:∃U,mD e.af act (-1)=U:=⟨_,rfl⟩;have HU:=Qh hU;have Hh:=Qh (Xrn (p:=e.af) PU.O);have Hw:=Qh (fun u h=>Xlh (p:=e.af) (u:=u) PU.O h);rw[hU]at Hh Hw;have lH:=Qh iV;clear Ta hU iV;have iV:=lH;by_cases h5:e.ai=5;case neg=>
  have k5:((e.ai:Int)==5)=false:=by simpa using h5
  by_cases h6:e.ai=6;case neg=>
   have k6:((e.ai:Int)==6)=false:=by simpa using h6
   have Hn:=Qh (nI h5 h6);clear h5 h6 OU Ou nI;go_enter Tryz.func94,Tryz.ntmps94
   go_wp2_with fail
   refine(Ha.O _ (hw.alloc _)).mono ?_;rintro e1 w1 ⟨v1,rfl,dz,au⟩;have iq:=Qh (cB (e:=e) rfl au);have jG:Ok I w1:=(hw.alloc _).below (Qn _) au;have bY:w.heap.size<w1.heap.size:=by have:=au.size;simp at this;omega
   have av:=((Qb w.heap.size w).alloc (Qn _) (.cells #[.int .i64 e.ai,S e.af,.slice aa e.ag.length ca,S e.target,.int .i64 e.size,S e.aj,.slice ax e.ak.length cx] 35)).trans (au.mono (by simp));obtain⟨I1,gK,aD,jy,_⟩:=(dz.lower (show w.heap.size≤_ by simp)).freeze jG (fun b hb=>hw.fresh hb);have mZ:=Qh gK;have uk:=Qh jy;obtain⟨a1,NP,rfl,_,_,_⟩:=id jy;clear dz au jy gK jG Ha;obtain⟨c0,c1,c2,c3,c4,c5,c6⟩:=iq.O;go_wp2;go_ret2;rw[Hn.O];exact⟨_,I1,rfl,av,mZ.O,aD,uk.O⟩
  have k6:((e.ai:Int)==6)=true:=by simpa using h6
  have qV:=Qh (Ou h6);clear h5 h6 OU Ou nI;go_enter Tryz.func94,Tryz.ntmps94
  go_wp2_with fail
  refine(Ha.O _ (hw.alloc _)).mono ?_;rintro e1 w1 ⟨v1,rfl,dz,au⟩;have iq:=Qh (cB (e:=e) rfl au);have jG:Ok I w1:=(hw.alloc _).below (Qn _) au;have bY:w.heap.size<w1.heap.size:=by have:=au.size;simp at this;omega
  have av:=((Qb w.heap.size w).alloc (Qn _) (.cells #[.int .i64 e.ai,S e.af,.slice aa e.ag.length ca,S e.target,.int .i64 e.size,S e.aj,.slice ax e.ak.length cx] 35)).trans (au.mono (by simp));obtain⟨I1,gK,aD,jy,_⟩:=(dz.lower (show w.heap.size≤_ by simp)).freeze jG (fun b hb=>hw.fresh hb);have mZ:=Qh gK;have uk:=Qh jy;obtain⟨a1,NP,rfl,_,_,_⟩:=id jy;clear dz au jy gK jG Ha;obtain⟨c0,c1,c2,c3,c4,c5,c6⟩:=iq.O;replace iV:=iV.O;go_wp2_with fail
  refine(Xfp I1 _ act uk.O nM e.af w1 aD).mono ?_;rw[HU.O,iV];rintro e2 w2 ⟨v2,rfl,fE,aF⟩;have qC:Ok I1 w2:=aD.below (Qn _) aF;have oh:=Qh (iq.O.aA aF);have aL:=av.trans (aF.mono av.size);obtain⟨I2,fM,aQ,lI,_⟩:=fE.freeze qC (fun b hb=>aD.fresh hb);have mK:=Qh (mZ.O.trans fM av.size);have vD:=Qh lI;obtain⟨a2,cp2,rfl,_,_,_⟩:=id lI;clear fE lI fM qC aF av iq c0 c1 c2 c3 c4 c5 c6 aD;obtain⟨c0,c1,c2,c3,c4,c5,c6⟩:=oh.O;by_cases Vs:U<0
  ·have Hn:=Qh (show appH l e d=([],9) by
    have h:=Hh.O;rw[Qt Vs]at h;rw[qV.O,if_neg (by rw[show wN act e.af=false by simpa using h.symm];simp)])
   have hi:U<(0:Int):=Vs;go_wp2;go_ret2;rw[Hn.O];exact⟨_,I2,rfl,aL.alloc aL.size _,mK.O,aQ.alloc _,⟨_,_,rfl,Qn _,Nat.zero_le _,fun h=>absurd h (by simp)⟩⟩
  ·have Hn:=Qh (show appH l e d=(rest,0) by
    have h:=Hh.O;rw[Qf Vs]at h;rw[qV.O,if_pos (by simpa using h)])
   have hi:¬U<(0:Int):=Vs;go_wp2;go_ret2;rw[Hn.O];exact⟨_,I2,rfl,aL,mK.O,aQ,vD.O⟩
 have k5:((e.ai:Int)==5)=true:=by simpa using h5
 have PV:=Qh (fun w=>Xqs e.target (Hd.O h5) w);have BO:=Tv (Hd.O h5);have qV:=Qh (OU h5);clear h5 OU Ou nI Hh;obtain⟨u,hu⟩:∃u,digits e.target=u:=⟨_,rfl⟩;rw[hu]at PV BO qV;have Hwu:=Qh (Hw.O u BO.1);rw[←Hwu.O]at qV;have h0u:=BO.1;have I8:=BO.2;have hi0:¬u<(0:Int):=by omega
 clear hu BO Hwu Hw;go_enter Tryz.func94,Tryz.ntmps94
 go_wp2_with fail
 refine(Ha.O _ (hw.alloc _)).mono ?_;rintro e1 w1 ⟨v1,rfl,dz,au⟩;have iq:=Qh (cB (e:=e) rfl au);have jG:Ok I w1:=(hw.alloc _).below (Qn _) au;have bY:w.heap.size<w1.heap.size:=by have:=au.size;simp at this;omega
 have av:=((Qb w.heap.size w).alloc (Qn _) (.cells #[.int .i64 e.ai,S e.af,.slice aa e.ag.length ca,S e.target,.int .i64 e.size,S e.aj,.slice ax e.ak.length cx] 35)).trans (au.mono (by simp));obtain⟨I1,gK,aD,jy,_⟩:=(dz.lower (show w.heap.size≤_ by simp)).freeze jG (fun b hb=>hw.fresh hb);have mZ:=Qh gK;have uk:=Qh jy;obtain⟨a1,NP,rfl,_,_,_⟩:=id jy;clear dz au jy gK jG Ha;obtain⟨c0,c1,c2,c3,c4,c5,c6⟩:=iq.O;go_wp2_with fail
 refine(PV.O _).mono ?_;rintro e2 w2 ⟨rfl,aF⟩;have aQ:Ok I1 w2:=aD.below (Qn _) aF;have oh:=Qh (iq.O.aA aF);have aL:=av.trans (aF.mono av.size);clear aF av iq c0 c1 c2 c3 c4 c5 c6 aD;obtain⟨c0,c1,c2,c3,c4,c5,c6⟩:=oh.O;replace iV:=iV.O;go_wp2_with fail
 refine(Xfp I1 _ act uk.O nM e.af w2 aQ).mono ?_;rw[HU.O,iV];rintro e3 w3 ⟨v2,rfl,fE,cO⟩;have yK:Ok I1 w3:=aQ.below (Qn _) cO;have ng:=Qh (oh.O.aA cO);have dw:=aL.trans (cO.mono aL.size);obtain⟨I2,fM,bN,lI,_⟩:=fE.freeze yK (fun b hb=>aQ.fresh hb);have mK:=Qh (mZ.O.trans fM aL.size);have vD:=Qh lI;obtain⟨a2,cp2,rfl,_,_,_⟩:=id lI;clear fE lI fM yK cO aL oh c0 c1 c2 c3 c4 c5 c6 aQ;obtain⟨c0,c1,c2,c3,c4,c5,c6⟩:=ng.O;by_cases xN:u<U
 ·have Hn:=Qh (show appH l e d=(jk ⟨e.af,U⟩ rest,0) by rw[qV.O,if_pos xN]);go_wp2_with fail
  refine(Xgx I2 _ rest vD.O KJ.O.short (by omega) ⟨e.af,U⟩ nH w3 bN).mono ?_;rintro e4 w4 ⟨v4,rfl,ow,aM⟩;have yY:Ok I2 w4:=bN.below (Qn _) aM;have aO:=dw.trans (aM.mono dw.size);obtain⟨I4,Fj,bC,Am,_⟩:=ow.freeze yY (fun b hb=>bN.fresh hb);have Y8:=Qh (mK.O.trans Fj dw.size);have LM:=Qh Am;obtain⟨a4,cp4,rfl,_,_,_⟩:=id Am;clear ow Am Fj yY aM;go_wp2;go_ret2;rw[Hn.O];exact⟨_,I4,rfl,aO,Y8.O,bC,LM.O⟩
 ·have Hn:=Qh (show appH l e d=(jk ⟨e.af,u⟩ rest,0) by rw[qV.O,if_neg xN]);go_wp2_with fail
  refine(Xgx I2 _ rest vD.O KJ.O.short (by omega) ⟨e.af,u⟩ nH w3 bN).mono ?_;rintro e4 w4 ⟨v4,rfl,ow,aM⟩;have yY:Ok I2 w4:=bN.below (Qn _) aM;have aO:=dw.trans (aM.mono dw.size);obtain⟨I4,Fj,bC,Am,_⟩:=ow.freeze yY (fun b hb=>bN.fresh hb);have Y8:=Qh (mK.O.trans Fj dw.size);have LM:=Qh Am;obtain⟨a4,cp4,rfl,_,_,_⟩:=id Am;clear ow Am Fj yY aM;go_wp2;go_ret2;rw[Hn.O];exact⟨_,I4,rfl,aO,Y8.O,bC,LM.O⟩
structure xZ (n:Nat) (W:World) (vt vh:Value) (e:aG) (va vx:Value):Prop where
 s0:W.cell? ⟨n,0,none⟩=some vt
 s1:W.cell? ⟨n,1,none⟩=some vh
 eb:bn W (n+1) e va vx
 row:W.heap[n+1+1]?=some (.cells #[.slice none 0 0,.slice none 0 0] 106 (0,0))
theorem xZ.aA(h:xZ n W vt vh e va vx)(hb:Below W.heap.size W W'):xZ n W' vt vh e va vx:=
 ⟨dh hb h.s0,dh hb h.s1,h.eb.aA hb,(hb.block _ (Qg h.row)).trans h.row⟩
theorem xZ.past(h:xZ n W vt vh e va vx)(o:Obj):xZ n (W.alloc o) vt vh e va vx:=h.aA ((Qb _ _).alloc (Qn _) o)
theorem Xjq(I:IH)(s:jI)(vt vh:Value)(uI:bf bG I vt s.aI)(zF:bf jw I vh s.holds)(hs:vE s.aI)(hn:s.aI.length≤100000)(hk:tN s.holds)(EM:s.holds.length≤100000)(e:aG)(va vx:Value)(eP:bf lT I va e.ag)(eT:bf mr I vx e.ak)(jh:e.Wf)(nH:e.af.length≤4294967280)(nL:e.ak.length≤1000000)(d:Int)(w:World)(hw:Ok I w):
 Calls Tryz.prog 47 #[lh vt vh,fB e va vx,.int .i64 d] w (LH I w (dY s e d).1 (dY s e d).2):=by
 have Ha:=Qh (fun w hw=>Xn4 I vt s.aI uI hs hn e va vx eP eT jh nH nL w hw);have BA:=Qh uI;have BB:=Qh zF;have zu:=Qh eP;have tT:=Qh eT;have LP:=Qh (fun(he:az e=0) I v va vx hv eP eT w hw=>Xn3 I v s.holds hv hk EM e va vx eP eT he d w hw);obtain⟨at',ct,rfl,_,_,_⟩:=id uI;obtain⟨ah,ch,rfl,_,_,_⟩:=id zF;obtain⟨aa,ca,rfl,_,_,_⟩:=id eP;obtain⟨ax,cx,rfl,_,_,_⟩:=id eT;have uY:(Tryz.prog.info? 106).map (·.size)=some 2:=by kernel_rfl
 have qR:=Qh uY;obtain⟨t2,n,hx⟩:∃t2 n,bM s.aI e=(t2,n):=⟨_,_,rfl⟩;by_cases h:n=0;case neg=>
  have Hn:=Qh (show dY s e d=(s,n) by rw[dY,hx,if_pos h]);rw[hx]at Ha;have AL:(n !=0)=true:=by simpa using h
  clear uI zF eP eT uY hx hk h hs hn jh LP;go_enter Tryz.func47,Tryz.ntmps47
  go_wp2_with fail
  refine(Ha.O _ (((hw.alloc _).alloc _).alloc _)).mono ?_;rintro e1 w1 ⟨v2,I1,rfl,au,gK,aD,fT⟩;have bI:w1.heap[w.heap.size+1+1]?=some (.cells #[.slice none 0 0,.slice none 0 0] 106 (0,0)):=(au.block _ (by simp)).trans (by have:=heap_alloc_new ((w.alloc (.cells #[.slice at' s.aI.length ct,.slice ah s.holds.length ch] 106)).alloc (.cells #[.int .i64 e.ai,S e.af,.slice aa e.ag.length ca,S e.target,.int .i64 e.size,S e.aj,.slice ax e.ak.length cx] 35)) (.cells #[.slice none 0 0,.slice none 0 0] 106);simpa using this);have mY:bn ((w.alloc (.cells #[.slice at' s.aI.length ct,.slice ah s.holds.length ch] 106)).alloc (.cells #[.int .i64 e.ai,S e.af,.slice aa e.ag.length ca,S e.target,.int .i64 e.size,S e.aj,.slice ax e.ak.length cx] 35)) (w.heap.size+1) e (.slice aa e.ag.length ca) (.slice ax e.ak.length cx):=cB (by simp) (Qb _ _);have AW1:=Qh (xZ.mk (dh au (fP _ (fP _ (by simp)))) (dh au (fP _ (fP _ (by simp)))) ((mY.past _).aA au) bI:xZ w.heap.size w1 (.slice at' s.aI.length ct) (.slice ah s.holds.length ch) e (.slice aa e.ag.length ca) (.slice ax e.ak.length cx));have av:Below w.heap.size w w1:=((((Qb w.heap.size w).alloc (Qn _) (.cells #[.slice at' s.aI.length ct,.slice ah s.holds.length ch] 106)).alloc (by simp) (.cells #[.int .i64 e.ai,S e.af,.slice aa e.ag.length ca,S e.target,.int .i64 e.size,S e.aj,.slice ax e.ak.length cx] 35)).alloc (by simp;omega) (.cells #[.slice none 0 0,.slice none 0 0] 106)).trans (au.mono (by simp;omega));have gF:Ext (w.heap.size+1+1+1) I I1:=gK.mono (by simp);have fJ:=(gF.mono (show w.heap.size≤_ by omega)).keep hw (Qn _);have mZ:=Qh gF;have oU:=Qh fT;have jQ:=Qh (BA.O.mono fJ);have gz:=Qh (BB.O.mono fJ);have iM:=Qh (zu.O.mono fJ);have iN:=Qh (tT.O.mono fJ);obtain⟨a2,c2',rfl,_,_,_⟩:=id fT;clear au bI mY gK gF fJ fT Ha;obtain⟨s0,s1,⟨c0,c1,c2,c3,c4,c5,c6⟩,_⟩:=AW1.O;have r0:w1.cell? ⟨w.heap.size+1+1,0,none⟩=some (.slice none 0 0):=(cell_of_row w1 _ 0 _ _ _ AW1.O.row).trans rfl;have r1:w1.cell? ⟨w.heap.size+1+1,1,none⟩=some (.slice none 0 0):=(cell_of_row w1 _ 1 _ _ _ AW1.O.row).trans rfl;have f0:=frozen_of_row w1 _ 0 _ _ AW1.O.row;have f1:=frozen_of_row w1 _ 1 _ _ AW1.O.row;go_wp2;have hW:=heap_setCell_same _ (w.heap.size+1+1) 1 _ _ (.slice ah s.holds.length ch) (heap_setCell_same w1 (w.heap.size+1+1) 0 _ _ (.slice at' s.aI.length ct) AW1.O.row);refine bodyPost_ret (v:= .tuple #[lh (.slice at' s.aI.length ct) (.slice ah s.holds.length ch),.int .i64 n]) ?_ rfl ?_
  ·rw[results_cell_tmp rfl];simp[asAddr,run_loadVar_row _ (w.heap.size+1+1) 106 106 #[(.slice at' s.aI.length ct),(.slice ah s.holds.length ch)] (0,0) _ hW Tryz.underlying106 rfl qR.O]
  ·rw[Hn.O];have eY:I1 (w.heap.size+1+1)=none:=(mZ.O _ (by omega)).trans (hw.fresh (by omega));exact⟨_,_,I1,rfl,(av.setCell (by simp;omega) _).setCell (by simp;omega) _,Ext.mono mZ.O (by omega),(Ok.setCell aD eY _).setCell eY _,jQ.O,gz.O⟩
 subst h;have he:az e=0:=(lv.1 (PI (by rw[hx]))).1.dm;have iG:=Qh (LP.O he);obtain⟨h2,m,MX⟩:∃h2 m,appH s.holds e d=(h2,m):=⟨_,_,rfl⟩;obtain⟨al,nM⟩:∃al,kv s.holds e.ai e.af d=al:=⟨_,rfl⟩;obtain⟨gx,hb,AB⟩:∃gx hb,kG s.aI e.af=(gx,hb):=⟨_,_,rfl⟩;have xN:(dS s.aI e.af).isSome=hb:=by rw[←Xiu,AB]
 have gB:dY s e d=if mH s e d≠0 then(s,mH s e d)else if m≠0 then(s,m)else(⟨t2,h2⟩,0):=by
  rw[dY,if_neg (by rw[hx];simp),MX,hx]
 have ww:mH s e d=if 3<e.ai∨hb=true then al else 0:=by rw[mH,xN,nM]
 rw[hx]at Ha;rw[MX]at iG;have Rl:=Qh AB;have rH:=Qh nM;clear uI zF eP eT uY hx MX AB nM xN hk hs hn jh he LP;cases hb;case true=>
  have jP:mH s e d=al:=by rw[ww,if_pos (.inr rfl)]
  clear ww;by_cases ha:al=0
  ·have oF:=Qh (fun(hm:m=0)=>show dY s e d=(⟨t2,h2⟩,0) by rw[gB,jP,if_neg (show ¬(al≠0) by omega),if_neg (show ¬(m≠0) by omega)]);have oG:=Qh (fun(hm:¬m=0)=>show dY s e d=(s,m) by rw[gB,jP,if_neg (show ¬(al≠0) by omega),if_pos hm]);subst ha;clear gB jP;go_enter Tryz.func47,Tryz.ntmps47
   go_wp2_with fail
   refine(Ha.O _ (((hw.alloc _).alloc _).alloc _)).mono ?_;rintro e1 w1 ⟨v2,I1,rfl,au,gK,aD,fT⟩;have bI:w1.heap[w.heap.size+1+1]?=some (.cells #[.slice none 0 0,.slice none 0 0] 106 (0,0)):=(au.block _ (by simp)).trans (by have:=heap_alloc_new ((w.alloc (.cells #[.slice at' s.aI.length ct,.slice ah s.holds.length ch] 106)).alloc (.cells #[.int .i64 e.ai,S e.af,.slice aa e.ag.length ca,S e.target,.int .i64 e.size,S e.aj,.slice ax e.ak.length cx] 35)) (.cells #[.slice none 0 0,.slice none 0 0] 106);simpa using this);have mY:bn ((w.alloc (.cells #[.slice at' s.aI.length ct,.slice ah s.holds.length ch] 106)).alloc (.cells #[.int .i64 e.ai,S e.af,.slice aa e.ag.length ca,S e.target,.int .i64 e.size,S e.aj,.slice ax e.ak.length cx] 35)) (w.heap.size+1) e (.slice aa e.ag.length ca) (.slice ax e.ak.length cx):=cB (by simp) (Qb _ _);have AW1:=Qh (xZ.mk (dh au (fP _ (fP _ (by simp)))) (dh au (fP _ (fP _ (by simp)))) ((mY.past _).aA au) bI:xZ w.heap.size w1 (.slice at' s.aI.length ct) (.slice ah s.holds.length ch) e (.slice aa e.ag.length ca) (.slice ax e.ak.length cx));have av:Below w.heap.size w w1:=((((Qb w.heap.size w).alloc (Qn _) (.cells #[.slice at' s.aI.length ct,.slice ah s.holds.length ch] 106)).alloc (by simp) (.cells #[.int .i64 e.ai,S e.af,.slice aa e.ag.length ca,S e.target,.int .i64 e.size,S e.aj,.slice ax e.ak.length cx] 35)).alloc (by simp;omega) (.cells #[.slice none 0 0,.slice none 0 0] 106)).trans (au.mono (by simp;omega));have gF:Ext (w.heap.size+1+1+1) I I1:=gK.mono (by simp);have fJ:=(gF.mono (show w.heap.size≤_ by omega)).keep hw (Qn _);have mZ:=Qh gF;have oU:=Qh fT;have jQ:=Qh (BA.O.mono fJ);have gz:=Qh (BB.O.mono fJ);have iM:=Qh (zu.O.mono fJ);have iN:=Qh (tT.O.mono fJ);obtain⟨a2,c2',rfl,_,_,_⟩:=id fT;clear au bI mY gK gF fJ fT Ha;obtain⟨s0,s1,⟨c0,c1,c2,c3,c4,c5,c6⟩,_⟩:=AW1.O;go_wp2_with fail
   refine(KA I1 _ s.aI jQ.O e.af w1 aD).mono ?_;rw[Rl.O];rintro e2 w2 ⟨ga,gv,rfl,hg1,hg2,aF⟩;obtain⟨oa,oc,rfl,_,_,_⟩:=id hg1;obtain⟨ox,od,rfl,_,_,_⟩:=id hg2;have aL:=av.trans (aF.mono av.size);have dw:=aL.alloc aL.size (.cells #[.int .i64 gx.ai,S gx.af,.slice oa gx.ag.length oc,S gx.target,.int .i64 gx.size,S gx.aj,.slice ox gx.ak.length od] 35);have bN:Ok I1 (w2.alloc (.cells #[.int .i64 gx.ai,S gx.af,.slice oa gx.ag.length oc,S gx.target,.int .i64 gx.size,S gx.aj,.slice ox gx.ak.length od] 35)):=(aD.below (Qn _) aF).alloc _;have AW3:=Qh ((AW1.O.aA aF).past (.cells #[.int .i64 gx.ai,S gx.af,.slice oa gx.ag.length oc,S gx.target,.int .i64 gx.size,S gx.aj,.slice ox gx.ak.length od] 35));clear aF av aL AW1 aD s0 s1 c0 c1 c2 c3 c4 c5 c6 hg1 hg2;obtain⟨s0,s1,⟨c0,c1,c2,c3,c4,c5,c6⟩,_⟩:=AW3.O;obtain⟨w3,oP⟩:∃w3,w2.alloc (.cells #[.int .i64 gx.ai,S gx.af,.slice oa gx.ag.length oc,S gx.target,.int .i64 gx.size,S gx.aj,.slice ox gx.ak.length od] 35)=w3:=⟨_,rfl⟩;rw[oP]at bN AW3 dw s0 s1 c0 c1 c2 c3 c4 c5 c6;go_wp2_with fail
   refine(UO I1 _ s.holds gz.O EM e _ _ iM.O iN.O d w3 bN).mono ?_;rintro e4 w4 ⟨rfl,aM⟩;rw[rH.O];have bC:Ok I1 w4:=bN.below (Qn _) aM;have jR:=Qh (AW3.O.aA aM);have aO:=dw.trans (aM.mono dw.size);clear aM dw AW3 bN oP s0 s1 c0 c1 c2 c3 c4 c5 c6;obtain⟨s0,s1,⟨c0,c1,c2,c3,c4,c5,c6⟩,_⟩:=jR.O;by_cases hm:m=0
   ·have Hn:=Qh (oF.O hm);subst hm;go_wp2_with fail
    refine(iG.O I1 _ _ _ gz.O iM.O iN.O w4 bC).mono ?_;rintro e5 w5 ⟨EN,I2,rfl,bq,fM,df,gM⟩;obtain⟨a3,c3',rfl,_,_,_⟩:=id gM;have sD:=Qh gM;have gW:=Qh (jR.O.aA bq);have mK:=Qh (mZ.O.trans fM (by have:=(Qg jR.O.row);omega));have jS:=Qh (fM.keep bC (Qn _));have bT:=aO.trans (bq.mono aO.size);clear bq aO jR bC s0 s1 c0 c1 c2 c3 c4 c5 c6 gM fM;obtain⟨s0,s1,⟨c0,c1,c2,c3,c4,c5,c6⟩,_⟩:=gW.O;have r0:w5.cell? ⟨w.heap.size+1+1,0,none⟩=some (.slice none 0 0):=(cell_of_row w5 _ 0 _ _ _ gW.O.row).trans rfl;have r1:w5.cell? ⟨w.heap.size+1+1,1,none⟩=some (.slice none 0 0):=(cell_of_row w5 _ 1 _ _ _ gW.O.row).trans rfl;have f0:=frozen_of_row w5 _ 0 _ _ gW.O.row;have f1:=frozen_of_row w5 _ 1 _ _ gW.O.row;go_wp2;have hW:=heap_setCell_same _ (w.heap.size+1+1) 1 _ _ (.slice a3 h2.length c3') (heap_setCell_same w5 (w.heap.size+1+1) 0 _ _ (.slice a2 t2.length c2') gW.O.row);refine bodyPost_ret (v:= .tuple #[lh (.slice a2 t2.length c2') (.slice a3 h2.length c3'),.int .i64 0]) ?_ rfl ?_
    ·rw[results_cell_tmp rfl];simp[asAddr,run_loadVar_row _ (w.heap.size+1+1) 106 106 #[(.slice a2 t2.length c2'),(.slice a3 h2.length c3')] (0,0) _ hW Tryz.underlying106 rfl qR.O]
    ·rw[Hn.O];have eY:I2 (w.heap.size+1+1)=none:=(mK.O _ (by omega)).trans (hw.fresh (by omega));exact⟨_,_,I2,rfl,(bT.setCell (by simp;omega) _).setCell (by simp;omega) _,Ext.mono mK.O (by omega),(Ok.setCell df eY _).setCell eY _,(oU.O.mono jS.O),sD.O⟩
   ·have Hn:=Qh (oG.O hm);have JZ:(m !=0)=true:=by simpa using hm
    clear hm;go_wp2_with fail
    refine(iG.O I1 _ _ _ gz.O iM.O iN.O w4 bC).mono ?_;rintro e5 w5 ⟨EN,I2,rfl,bq,fM,df,gM⟩;obtain⟨a3,c3',rfl,_,_,_⟩:=id gM;have sD:=Qh gM;have gW:=Qh (jR.O.aA bq);have mK:=Qh (mZ.O.trans fM (by have:=(Qg jR.O.row);omega));have jS:=Qh (fM.keep bC (Qn _));have bT:=aO.trans (bq.mono aO.size);clear bq aO jR bC s0 s1 c0 c1 c2 c3 c4 c5 c6 gM fM;obtain⟨s0,s1,⟨c0,c1,c2,c3,c4,c5,c6⟩,_⟩:=gW.O;have r0:w5.cell? ⟨w.heap.size+1+1,0,none⟩=some (.slice none 0 0):=(cell_of_row w5 _ 0 _ _ _ gW.O.row).trans rfl;have r1:w5.cell? ⟨w.heap.size+1+1,1,none⟩=some (.slice none 0 0):=(cell_of_row w5 _ 1 _ _ _ gW.O.row).trans rfl;have f0:=frozen_of_row w5 _ 0 _ _ gW.O.row;have f1:=frozen_of_row w5 _ 1 _ _ gW.O.row;go_wp2;have hW:=heap_setCell_same _ (w.heap.size+1+1) 1 _ _ (.slice ah s.holds.length ch) (heap_setCell_same w5 (w.heap.size+1+1) 0 _ _ (.slice at' s.aI.length ct) gW.O.row);refine bodyPost_ret (v:= .tuple #[lh (.slice at' s.aI.length ct) (.slice ah s.holds.length ch),.int .i64 m]) ?_ rfl ?_
    ·rw[results_cell_tmp rfl];simp[asAddr,run_loadVar_row _ (w.heap.size+1+1) 106 106 #[(.slice at' s.aI.length ct),(.slice ah s.holds.length ch)] (0,0) _ hW Tryz.underlying106 rfl qR.O]
    ·rw[Hn.O];have eY:I2 (w.heap.size+1+1)=none:=(mK.O _ (by omega)).trans (hw.fresh (by omega));exact⟨_,_,I2,rfl,(bT.setCell (by simp;omega) _).setCell (by simp;omega) _,Ext.mono mK.O (by omega),(Ok.setCell df eY _).setCell eY _,(jQ.O.mono jS.O),(gz.O.mono jS.O)⟩
  ·have Hn:=Qh (show dY s e d=(s,al) by rw[gB,jP,if_pos ha]);have ha0:(al !=0)=true:=by simpa using ha
   clear gB jP ha iG;go_enter Tryz.func47,Tryz.ntmps47
   go_wp2_with fail
   refine(Ha.O _ (((hw.alloc _).alloc _).alloc _)).mono ?_;rintro e1 w1 ⟨v2,I1,rfl,au,gK,aD,fT⟩;have bI:w1.heap[w.heap.size+1+1]?=some (.cells #[.slice none 0 0,.slice none 0 0] 106 (0,0)):=(au.block _ (by simp)).trans (by have:=heap_alloc_new ((w.alloc (.cells #[.slice at' s.aI.length ct,.slice ah s.holds.length ch] 106)).alloc (.cells #[.int .i64 e.ai,S e.af,.slice aa e.ag.length ca,S e.target,.int .i64 e.size,S e.aj,.slice ax e.ak.length cx] 35)) (.cells #[.slice none 0 0,.slice none 0 0] 106);simpa using this);have mY:bn ((w.alloc (.cells #[.slice at' s.aI.length ct,.slice ah s.holds.length ch] 106)).alloc (.cells #[.int .i64 e.ai,S e.af,.slice aa e.ag.length ca,S e.target,.int .i64 e.size,S e.aj,.slice ax e.ak.length cx] 35)) (w.heap.size+1) e (.slice aa e.ag.length ca) (.slice ax e.ak.length cx):=cB (by simp) (Qb _ _);have AW1:=Qh (xZ.mk (dh au (fP _ (fP _ (by simp)))) (dh au (fP _ (fP _ (by simp)))) ((mY.past _).aA au) bI:xZ w.heap.size w1 (.slice at' s.aI.length ct) (.slice ah s.holds.length ch) e (.slice aa e.ag.length ca) (.slice ax e.ak.length cx));have av:Below w.heap.size w w1:=((((Qb w.heap.size w).alloc (Qn _) (.cells #[.slice at' s.aI.length ct,.slice ah s.holds.length ch] 106)).alloc (by simp) (.cells #[.int .i64 e.ai,S e.af,.slice aa e.ag.length ca,S e.target,.int .i64 e.size,S e.aj,.slice ax e.ak.length cx] 35)).alloc (by simp;omega) (.cells #[.slice none 0 0,.slice none 0 0] 106)).trans (au.mono (by simp;omega));have gF:Ext (w.heap.size+1+1+1) I I1:=gK.mono (by simp);have fJ:=(gF.mono (show w.heap.size≤_ by omega)).keep hw (Qn _);have mZ:=Qh gF;have oU:=Qh fT;have jQ:=Qh (BA.O.mono fJ);have gz:=Qh (BB.O.mono fJ);have iM:=Qh (zu.O.mono fJ);have iN:=Qh (tT.O.mono fJ);obtain⟨a2,c2',rfl,_,_,_⟩:=id fT;clear au bI mY gK gF fJ fT Ha;obtain⟨s0,s1,⟨c0,c1,c2,c3,c4,c5,c6⟩,_⟩:=AW1.O;go_wp2_with fail
   refine(KA I1 _ s.aI jQ.O e.af w1 aD).mono ?_;rw[Rl.O];rintro e2 w2 ⟨ga,gv,rfl,hg1,hg2,aF⟩;obtain⟨oa,oc,rfl,_,_,_⟩:=id hg1;obtain⟨ox,od,rfl,_,_,_⟩:=id hg2;have aL:=av.trans (aF.mono av.size);have dw:=aL.alloc aL.size (.cells #[.int .i64 gx.ai,S gx.af,.slice oa gx.ag.length oc,S gx.target,.int .i64 gx.size,S gx.aj,.slice ox gx.ak.length od] 35);have bN:Ok I1 (w2.alloc (.cells #[.int .i64 gx.ai,S gx.af,.slice oa gx.ag.length oc,S gx.target,.int .i64 gx.size,S gx.aj,.slice ox gx.ak.length od] 35)):=(aD.below (Qn _) aF).alloc _;have AW3:=Qh ((AW1.O.aA aF).past (.cells #[.int .i64 gx.ai,S gx.af,.slice oa gx.ag.length oc,S gx.target,.int .i64 gx.size,S gx.aj,.slice ox gx.ak.length od] 35));clear aF av aL AW1 aD s0 s1 c0 c1 c2 c3 c4 c5 c6 hg1 hg2;obtain⟨s0,s1,⟨c0,c1,c2,c3,c4,c5,c6⟩,_⟩:=AW3.O;obtain⟨w3,oP⟩:∃w3,w2.alloc (.cells #[.int .i64 gx.ai,S gx.af,.slice oa gx.ag.length oc,S gx.target,.int .i64 gx.size,S gx.aj,.slice ox gx.ak.length od] 35)=w3:=⟨_,rfl⟩;rw[oP]at bN AW3 dw s0 s1 c0 c1 c2 c3 c4 c5 c6;go_wp2_with fail
   refine(UO I1 _ s.holds gz.O EM e _ _ iM.O iN.O d w3 bN).mono ?_;rintro e4 w4 ⟨rfl,aM⟩;rw[rH.O];have bC:Ok I1 w4:=bN.below (Qn _) aM;have jR:=Qh (AW3.O.aA aM);have aO:=dw.trans (aM.mono dw.size);clear aM dw AW3 bN oP s0 s1 c0 c1 c2 c3 c4 c5 c6;obtain⟨s0,s1,⟨c0,c1,c2,c3,c4,c5,c6⟩,_⟩:=jR.O;have r0:w4.cell? ⟨w.heap.size+1+1,0,none⟩=some (.slice none 0 0):=(cell_of_row w4 _ 0 _ _ _ jR.O.row).trans rfl;have r1:w4.cell? ⟨w.heap.size+1+1,1,none⟩=some (.slice none 0 0):=(cell_of_row w4 _ 1 _ _ _ jR.O.row).trans rfl;have f0:=frozen_of_row w4 _ 0 _ _ jR.O.row;have f1:=frozen_of_row w4 _ 1 _ _ jR.O.row;go_wp2;have hW:=heap_setCell_same _ (w.heap.size+1+1) 1 _ _ (.slice ah s.holds.length ch) (heap_setCell_same w4 (w.heap.size+1+1) 0 _ _ (.slice at' s.aI.length ct) jR.O.row);refine bodyPost_ret (v:= .tuple #[lh (.slice at' s.aI.length ct) (.slice ah s.holds.length ch),.int .i64 al]) ?_ rfl ?_
   ·rw[results_cell_tmp rfl];simp[asAddr,run_loadVar_row _ (w.heap.size+1+1) 106 106 #[(.slice at' s.aI.length ct),(.slice ah s.holds.length ch)] (0,0) _ hW Tryz.underlying106 rfl qR.O]
   ·rw[Hn.O];have eY:I1 (w.heap.size+1+1)=none:=(mZ.O _ (by omega)).trans (hw.fresh (by omega));exact⟨_,_,I1,rfl,(aO.setCell (by simp;omega) _).setCell (by simp;omega) _,Ext.mono mZ.O (by omega),(Ok.setCell bC eY _).setCell eY _,jQ.O,gz.O⟩
 case false=>
  by_cases tL:3<e.ai
  ·have jP:mH s e d=al:=by rw[ww,if_pos (.inl tL)]
   have d3:decide (3<e.ai)=true:=Qt tL;clear ww tL;by_cases ha:al=0
   ·have oF:=Qh (fun(hm:m=0)=>show dY s e d=(⟨t2,h2⟩,0) by rw[gB,jP,if_neg (show ¬(al≠0) by omega),if_neg (show ¬(m≠0) by omega)]);have oG:=Qh (fun(hm:¬m=0)=>show dY s e d=(s,m) by rw[gB,jP,if_neg (show ¬(al≠0) by omega),if_pos hm]);subst ha;clear gB jP;go_enter Tryz.func47,Tryz.ntmps47
    go_wp2_with fail
    refine(Ha.O _ (((hw.alloc _).alloc _).alloc _)).mono ?_;rintro e1 w1 ⟨v2,I1,rfl,au,gK,aD,fT⟩;have bI:w1.heap[w.heap.size+1+1]?=some (.cells #[.slice none 0 0,.slice none 0 0] 106 (0,0)):=(au.block _ (by simp)).trans (by have:=heap_alloc_new ((w.alloc (.cells #[.slice at' s.aI.length ct,.slice ah s.holds.length ch] 106)).alloc (.cells #[.int .i64 e.ai,S e.af,.slice aa e.ag.length ca,S e.target,.int .i64 e.size,S e.aj,.slice ax e.ak.length cx] 35)) (.cells #[.slice none 0 0,.slice none 0 0] 106);simpa using this);have mY:bn ((w.alloc (.cells #[.slice at' s.aI.length ct,.slice ah s.holds.length ch] 106)).alloc (.cells #[.int .i64 e.ai,S e.af,.slice aa e.ag.length ca,S e.target,.int .i64 e.size,S e.aj,.slice ax e.ak.length cx] 35)) (w.heap.size+1) e (.slice aa e.ag.length ca) (.slice ax e.ak.length cx):=cB (by simp) (Qb _ _);have AW1:=Qh (xZ.mk (dh au (fP _ (fP _ (by simp)))) (dh au (fP _ (fP _ (by simp)))) ((mY.past _).aA au) bI:xZ w.heap.size w1 (.slice at' s.aI.length ct) (.slice ah s.holds.length ch) e (.slice aa e.ag.length ca) (.slice ax e.ak.length cx));have av:Below w.heap.size w w1:=((((Qb w.heap.size w).alloc (Qn _) (.cells #[.slice at' s.aI.length ct,.slice ah s.holds.length ch] 106)).alloc (by simp) (.cells #[.int .i64 e.ai,S e.af,.slice aa e.ag.length ca,S e.target,.int .i64 e.size,S e.aj,.slice ax e.ak.length cx] 35)).alloc (by simp;omega) (.cells #[.slice none 0 0,.slice none 0 0] 106)).trans (au.mono (by simp;omega));have gF:Ext (w.heap.size+1+1+1) I I1:=gK.mono (by simp);have fJ:=(gF.mono (show w.heap.size≤_ by omega)).keep hw (Qn _);have mZ:=Qh gF;have oU:=Qh fT;have jQ:=Qh (BA.O.mono fJ);have gz:=Qh (BB.O.mono fJ);have iM:=Qh (zu.O.mono fJ);have iN:=Qh (tT.O.mono fJ);obtain⟨a2,c2',rfl,_,_,_⟩:=id fT;clear au bI mY gK gF fJ fT Ha;obtain⟨s0,s1,⟨c0,c1,c2,c3,c4,c5,c6⟩,_⟩:=AW1.O;go_wp2_with fail
    refine(KA I1 _ s.aI jQ.O e.af w1 aD).mono ?_;rw[Rl.O];rintro e2 w2 ⟨ga,gv,rfl,hg1,hg2,aF⟩;obtain⟨oa,oc,rfl,_,_,_⟩:=id hg1;obtain⟨ox,od,rfl,_,_,_⟩:=id hg2;have aL:=av.trans (aF.mono av.size);have dw:=aL.alloc aL.size (.cells #[.int .i64 gx.ai,S gx.af,.slice oa gx.ag.length oc,S gx.target,.int .i64 gx.size,S gx.aj,.slice ox gx.ak.length od] 35);have bN:Ok I1 (w2.alloc (.cells #[.int .i64 gx.ai,S gx.af,.slice oa gx.ag.length oc,S gx.target,.int .i64 gx.size,S gx.aj,.slice ox gx.ak.length od] 35)):=(aD.below (Qn _) aF).alloc _;have AW3:=Qh ((AW1.O.aA aF).past (.cells #[.int .i64 gx.ai,S gx.af,.slice oa gx.ag.length oc,S gx.target,.int .i64 gx.size,S gx.aj,.slice ox gx.ak.length od] 35));clear aF av aL AW1 aD s0 s1 c0 c1 c2 c3 c4 c5 c6 hg1 hg2;obtain⟨s0,s1,⟨c0,c1,c2,c3,c4,c5,c6⟩,_⟩:=AW3.O;obtain⟨w3,oP⟩:∃w3,w2.alloc (.cells #[.int .i64 gx.ai,S gx.af,.slice oa gx.ag.length oc,S gx.target,.int .i64 gx.size,S gx.aj,.slice ox gx.ak.length od] 35)=w3:=⟨_,rfl⟩;rw[oP]at bN AW3 dw s0 s1 c0 c1 c2 c3 c4 c5 c6;go_wp2_with fail
    refine(UO I1 _ s.holds gz.O EM e _ _ iM.O iN.O d w3 bN).mono ?_;rintro e4 w4 ⟨rfl,aM⟩;rw[rH.O];have bC:Ok I1 w4:=bN.below (Qn _) aM;have jR:=Qh (AW3.O.aA aM);have aO:=dw.trans (aM.mono dw.size);clear aM dw AW3 bN oP s0 s1 c0 c1 c2 c3 c4 c5 c6;obtain⟨s0,s1,⟨c0,c1,c2,c3,c4,c5,c6⟩,_⟩:=jR.O;by_cases hm:m=0
    ·have Hn:=Qh (oF.O hm);subst hm;go_wp2_with fail
     refine(iG.O I1 _ _ _ gz.O iM.O iN.O w4 bC).mono ?_;rintro e5 w5 ⟨EN,I2,rfl,bq,fM,df,gM⟩;obtain⟨a3,c3',rfl,_,_,_⟩:=id gM;have sD:=Qh gM;have gW:=Qh (jR.O.aA bq);have mK:=Qh (mZ.O.trans fM (by have:=(Qg jR.O.row);omega));have jS:=Qh (fM.keep bC (Qn _));have bT:=aO.trans (bq.mono aO.size);clear bq aO jR bC s0 s1 c0 c1 c2 c3 c4 c5 c6 gM fM;obtain⟨s0,s1,⟨c0,c1,c2,c3,c4,c5,c6⟩,_⟩:=gW.O;have r0:w5.cell? ⟨w.heap.size+1+1,0,none⟩=some (.slice none 0 0):=(cell_of_row w5 _ 0 _ _ _ gW.O.row).trans rfl;have r1:w5.cell? ⟨w.heap.size+1+1,1,none⟩=some (.slice none 0 0):=(cell_of_row w5 _ 1 _ _ _ gW.O.row).trans rfl;have f0:=frozen_of_row w5 _ 0 _ _ gW.O.row;have f1:=frozen_of_row w5 _ 1 _ _ gW.O.row;go_wp2;have hW:=heap_setCell_same _ (w.heap.size+1+1) 1 _ _ (.slice a3 h2.length c3') (heap_setCell_same w5 (w.heap.size+1+1) 0 _ _ (.slice a2 t2.length c2') gW.O.row);refine bodyPost_ret (v:= .tuple #[lh (.slice a2 t2.length c2') (.slice a3 h2.length c3'),.int .i64 0]) ?_ rfl ?_
     ·rw[results_cell_tmp rfl];simp[asAddr,run_loadVar_row _ (w.heap.size+1+1) 106 106 #[(.slice a2 t2.length c2'),(.slice a3 h2.length c3')] (0,0) _ hW Tryz.underlying106 rfl qR.O]
     ·rw[Hn.O];have eY:I2 (w.heap.size+1+1)=none:=(mK.O _ (by omega)).trans (hw.fresh (by omega));exact⟨_,_,I2,rfl,(bT.setCell (by simp;omega) _).setCell (by simp;omega) _,Ext.mono mK.O (by omega),(Ok.setCell df eY _).setCell eY _,(oU.O.mono jS.O),sD.O⟩
    ·have Hn:=Qh (oG.O hm);have JZ:(m !=0)=true:=by simpa using hm
     clear hm;go_wp2_with fail
     refine(iG.O I1 _ _ _ gz.O iM.O iN.O w4 bC).mono ?_;rintro e5 w5 ⟨EN,I2,rfl,bq,fM,df,gM⟩;obtain⟨a3,c3',rfl,_,_,_⟩:=id gM;have sD:=Qh gM;have gW:=Qh (jR.O.aA bq);have mK:=Qh (mZ.O.trans fM (by have:=(Qg jR.O.row);omega));have jS:=Qh (fM.keep bC (Qn _));have bT:=aO.trans (bq.mono aO.size);clear bq aO jR bC s0 s1 c0 c1 c2 c3 c4 c5 c6 gM fM;obtain⟨s0,s1,⟨c0,c1,c2,c3,c4,c5,c6⟩,_⟩:=gW.O;have r0:w5.cell? ⟨w.heap.size+1+1,0,none⟩=some (.slice none 0 0):=(cell_of_row w5 _ 0 _ _ _ gW.O.row).trans rfl;have r1:w5.cell? ⟨w.heap.size+1+1,1,none⟩=some (.slice none 0 0):=(cell_of_row w5 _ 1 _ _ _ gW.O.row).trans rfl;have f0:=frozen_of_row w5 _ 0 _ _ gW.O.row;have f1:=frozen_of_row w5 _ 1 _ _ gW.O.row;go_wp2;have hW:=heap_setCell_same _ (w.heap.size+1+1) 1 _ _ (.slice ah s.holds.length ch) (heap_setCell_same w5 (w.heap.size+1+1) 0 _ _ (.slice at' s.aI.length ct) gW.O.row);refine bodyPost_ret (v:= .tuple #[lh (.slice at' s.aI.length ct) (.slice ah s.holds.length ch),.int .i64 m]) ?_ rfl ?_
     ·rw[results_cell_tmp rfl];simp[asAddr,run_loadVar_row _ (w.heap.size+1+1) 106 106 #[(.slice at' s.aI.length ct),(.slice ah s.holds.length ch)] (0,0) _ hW Tryz.underlying106 rfl qR.O]
     ·rw[Hn.O];have eY:I2 (w.heap.size+1+1)=none:=(mK.O _ (by omega)).trans (hw.fresh (by omega));exact⟨_,_,I2,rfl,(bT.setCell (by simp;omega) _).setCell (by simp;omega) _,Ext.mono mK.O (by omega),(Ok.setCell df eY _).setCell eY _,(jQ.O.mono jS.O),(gz.O.mono jS.O)⟩
   ·have Hn:=Qh (show dY s e d=(s,al) by rw[gB,jP,if_pos ha]);have ha0:(al !=0)=true:=by simpa using ha
    clear gB jP ha iG;go_enter Tryz.func47,Tryz.ntmps47
    go_wp2_with fail
    refine(Ha.O _ (((hw.alloc _).alloc _).alloc _)).mono ?_;rintro e1 w1 ⟨v2,I1,rfl,au,gK,aD,fT⟩;have bI:w1.heap[w.heap.size+1+1]?=some (.cells #[.slice none 0 0,.slice none 0 0] 106 (0,0)):=(au.block _ (by simp)).trans (by have:=heap_alloc_new ((w.alloc (.cells #[.slice at' s.aI.length ct,.slice ah s.holds.length ch] 106)).alloc (.cells #[.int .i64 e.ai,S e.af,.slice aa e.ag.length ca,S e.target,.int .i64 e.size,S e.aj,.slice ax e.ak.length cx] 35)) (.cells #[.slice none 0 0,.slice none 0 0] 106);simpa using this);have mY:bn ((w.alloc (.cells #[.slice at' s.aI.length ct,.slice ah s.holds.length ch] 106)).alloc (.cells #[.int .i64 e.ai,S e.af,.slice aa e.ag.length ca,S e.target,.int .i64 e.size,S e.aj,.slice ax e.ak.length cx] 35)) (w.heap.size+1) e (.slice aa e.ag.length ca) (.slice ax e.ak.length cx):=cB (by simp) (Qb _ _);have AW1:=Qh (xZ.mk (dh au (fP _ (fP _ (by simp)))) (dh au (fP _ (fP _ (by simp)))) ((mY.past _).aA au) bI:xZ w.heap.size w1 (.slice at' s.aI.length ct) (.slice ah s.holds.length ch) e (.slice aa e.ag.length ca) (.slice ax e.ak.length cx));have av:Below w.heap.size w w1:=((((Qb w.heap.size w).alloc (Qn _) (.cells #[.slice at' s.aI.length ct,.slice ah s.holds.length ch] 106)).alloc (by simp) (.cells #[.int .i64 e.ai,S e.af,.slice aa e.ag.length ca,S e.target,.int .i64 e.size,S e.aj,.slice ax e.ak.length cx] 35)).alloc (by simp;omega) (.cells #[.slice none 0 0,.slice none 0 0] 106)).trans (au.mono (by simp;omega));have gF:Ext (w.heap.size+1+1+1) I I1:=gK.mono (by simp);have fJ:=(gF.mono (show w.heap.size≤_ by omega)).keep hw (Qn _);have mZ:=Qh gF;have oU:=Qh fT;have jQ:=Qh (BA.O.mono fJ);have gz:=Qh (BB.O.mono fJ);have iM:=Qh (zu.O.mono fJ);have iN:=Qh (tT.O.mono fJ);obtain⟨a2,c2',rfl,_,_,_⟩:=id fT;clear au bI mY gK gF fJ fT Ha;obtain⟨s0,s1,⟨c0,c1,c2,c3,c4,c5,c6⟩,_⟩:=AW1.O;go_wp2_with fail
    refine(KA I1 _ s.aI jQ.O e.af w1 aD).mono ?_;rw[Rl.O];rintro e2 w2 ⟨ga,gv,rfl,hg1,hg2,aF⟩;obtain⟨oa,oc,rfl,_,_,_⟩:=id hg1;obtain⟨ox,od,rfl,_,_,_⟩:=id hg2;have aL:=av.trans (aF.mono av.size);have dw:=aL.alloc aL.size (.cells #[.int .i64 gx.ai,S gx.af,.slice oa gx.ag.length oc,S gx.target,.int .i64 gx.size,S gx.aj,.slice ox gx.ak.length od] 35);have bN:Ok I1 (w2.alloc (.cells #[.int .i64 gx.ai,S gx.af,.slice oa gx.ag.length oc,S gx.target,.int .i64 gx.size,S gx.aj,.slice ox gx.ak.length od] 35)):=(aD.below (Qn _) aF).alloc _;have AW3:=Qh ((AW1.O.aA aF).past (.cells #[.int .i64 gx.ai,S gx.af,.slice oa gx.ag.length oc,S gx.target,.int .i64 gx.size,S gx.aj,.slice ox gx.ak.length od] 35));clear aF av aL AW1 aD s0 s1 c0 c1 c2 c3 c4 c5 c6 hg1 hg2;obtain⟨s0,s1,⟨c0,c1,c2,c3,c4,c5,c6⟩,_⟩:=AW3.O;obtain⟨w3,oP⟩:∃w3,w2.alloc (.cells #[.int .i64 gx.ai,S gx.af,.slice oa gx.ag.length oc,S gx.target,.int .i64 gx.size,S gx.aj,.slice ox gx.ak.length od] 35)=w3:=⟨_,rfl⟩;rw[oP]at bN AW3 dw s0 s1 c0 c1 c2 c3 c4 c5 c6;go_wp2_with fail
    refine(UO I1 _ s.holds gz.O EM e _ _ iM.O iN.O d w3 bN).mono ?_;rintro e4 w4 ⟨rfl,aM⟩;rw[rH.O];have bC:Ok I1 w4:=bN.below (Qn _) aM;have jR:=Qh (AW3.O.aA aM);have aO:=dw.trans (aM.mono dw.size);clear aM dw AW3 bN oP s0 s1 c0 c1 c2 c3 c4 c5 c6;obtain⟨s0,s1,⟨c0,c1,c2,c3,c4,c5,c6⟩,_⟩:=jR.O;have r0:w4.cell? ⟨w.heap.size+1+1,0,none⟩=some (.slice none 0 0):=(cell_of_row w4 _ 0 _ _ _ jR.O.row).trans rfl;have r1:w4.cell? ⟨w.heap.size+1+1,1,none⟩=some (.slice none 0 0):=(cell_of_row w4 _ 1 _ _ _ jR.O.row).trans rfl;have f0:=frozen_of_row w4 _ 0 _ _ jR.O.row;have f1:=frozen_of_row w4 _ 1 _ _ jR.O.row;go_wp2;have hW:=heap_setCell_same _ (w.heap.size+1+1) 1 _ _ (.slice ah s.holds.length ch) (heap_setCell_same w4 (w.heap.size+1+1) 0 _ _ (.slice at' s.aI.length ct) jR.O.row);refine bodyPost_ret (v:= .tuple #[lh (.slice at' s.aI.length ct) (.slice ah s.holds.length ch),.int .i64 al]) ?_ rfl ?_
    ·rw[results_cell_tmp rfl];simp[asAddr,run_loadVar_row _ (w.heap.size+1+1) 106 106 #[(.slice at' s.aI.length ct),(.slice ah s.holds.length ch)] (0,0) _ hW Tryz.underlying106 rfl qR.O]
    ·rw[Hn.O];have eY:I1 (w.heap.size+1+1)=none:=(mZ.O _ (by omega)).trans (hw.fresh (by omega));exact⟨_,_,I1,rfl,(aO.setCell (by simp;omega) _).setCell (by simp;omega) _,Ext.mono mZ.O (by omega),(Ok.setCell bC eY _).setCell eY _,jQ.O,gz.O⟩
  ·have jP:mH s e d=0:=by rw[ww,if_neg (by rintro(q|q);exact tL q;cases q)]
   have d3:decide (3<e.ai)=false:=Qf tL;have oF:=Qh (fun(hm:m=0)=>show dY s e d=(⟨t2,h2⟩,0) by rw[gB,jP,if_neg (show ¬((0:Int)≠0) by decide),if_neg (show ¬(m≠0) by omega)]);have oG:=Qh (fun(hm:¬m=0)=>show dY s e d=(s,m) by rw[gB,jP,if_neg (show ¬((0:Int)≠0) by decide),if_pos hm]);clear gB jP ww tL;go_enter Tryz.func47,Tryz.ntmps47
   go_wp2_with fail
   refine(Ha.O _ (((hw.alloc _).alloc _).alloc _)).mono ?_;rintro e1 w1 ⟨v2,I1,rfl,au,gK,aD,fT⟩;have bI:w1.heap[w.heap.size+1+1]?=some (.cells #[.slice none 0 0,.slice none 0 0] 106 (0,0)):=(au.block _ (by simp)).trans (by have:=heap_alloc_new ((w.alloc (.cells #[.slice at' s.aI.length ct,.slice ah s.holds.length ch] 106)).alloc (.cells #[.int .i64 e.ai,S e.af,.slice aa e.ag.length ca,S e.target,.int .i64 e.size,S e.aj,.slice ax e.ak.length cx] 35)) (.cells #[.slice none 0 0,.slice none 0 0] 106);simpa using this);have mY:bn ((w.alloc (.cells #[.slice at' s.aI.length ct,.slice ah s.holds.length ch] 106)).alloc (.cells #[.int .i64 e.ai,S e.af,.slice aa e.ag.length ca,S e.target,.int .i64 e.size,S e.aj,.slice ax e.ak.length cx] 35)) (w.heap.size+1) e (.slice aa e.ag.length ca) (.slice ax e.ak.length cx):=cB (by simp) (Qb _ _);have AW1:=Qh (xZ.mk (dh au (fP _ (fP _ (by simp)))) (dh au (fP _ (fP _ (by simp)))) ((mY.past _).aA au) bI:xZ w.heap.size w1 (.slice at' s.aI.length ct) (.slice ah s.holds.length ch) e (.slice aa e.ag.length ca) (.slice ax e.ak.length cx));have av:Below w.heap.size w w1:=((((Qb w.heap.size w).alloc (Qn _) (.cells #[.slice at' s.aI.length ct,.slice ah s.holds.length ch] 106)).alloc (by simp) (.cells #[.int .i64 e.ai,S e.af,.slice aa e.ag.length ca,S e.target,.int .i64 e.size,S e.aj,.slice ax e.ak.length cx] 35)).alloc (by simp;omega) (.cells #[.slice none 0 0,.slice none 0 0] 106)).trans (au.mono (by simp;omega));have gF:Ext (w.heap.size+1+1+1) I I1:=gK.mono (by simp);have fJ:=(gF.mono (show w.heap.size≤_ by omega)).keep hw (Qn _);have mZ:=Qh gF;have oU:=Qh fT;have jQ:=Qh (BA.O.mono fJ);have gz:=Qh (BB.O.mono fJ);have iM:=Qh (zu.O.mono fJ);have iN:=Qh (tT.O.mono fJ);obtain⟨a2,c2',rfl,_,_,_⟩:=id fT;clear au bI mY gK gF fJ fT Ha;obtain⟨s0,s1,⟨c0,c1,c2,c3,c4,c5,c6⟩,_⟩:=AW1.O;go_wp2_with fail
   refine(KA I1 _ s.aI jQ.O e.af w1 aD).mono ?_;rw[Rl.O];rintro e2 w2 ⟨ga,gv,rfl,hg1,hg2,aF⟩;obtain⟨oa,oc,rfl,_,_,_⟩:=id hg1;obtain⟨ox,od,rfl,_,_,_⟩:=id hg2;have aL:=av.trans (aF.mono av.size);have dw:=aL.alloc aL.size (.cells #[.int .i64 gx.ai,S gx.af,.slice oa gx.ag.length oc,S gx.target,.int .i64 gx.size,S gx.aj,.slice ox gx.ak.length od] 35);have bN:Ok I1 (w2.alloc (.cells #[.int .i64 gx.ai,S gx.af,.slice oa gx.ag.length oc,S gx.target,.int .i64 gx.size,S gx.aj,.slice ox gx.ak.length od] 35)):=(aD.below (Qn _) aF).alloc _;have AW3:=Qh ((AW1.O.aA aF).past (.cells #[.int .i64 gx.ai,S gx.af,.slice oa gx.ag.length oc,S gx.target,.int .i64 gx.size,S gx.aj,.slice ox gx.ak.length od] 35));clear aF av aL AW1 aD s0 s1 c0 c1 c2 c3 c4 c5 c6 hg1 hg2;obtain⟨s0,s1,⟨c0,c1,c2,c3,c4,c5,c6⟩,_⟩:=AW3.O;obtain⟨w3,oP⟩:∃w3,w2.alloc (.cells #[.int .i64 gx.ai,S gx.af,.slice oa gx.ag.length oc,S gx.target,.int .i64 gx.size,S gx.aj,.slice ox gx.ak.length od] 35)=w3:=⟨_,rfl⟩;rw[oP]at bN AW3 dw s0 s1 c0 c1 c2 c3 c4 c5 c6;by_cases hm:m=0
   ·have Hn:=Qh (oF.O hm);subst hm;go_wp2_with fail
    refine(iG.O I1 _ _ _ gz.O iM.O iN.O w3 bN).mono ?_;rintro e5 w5 ⟨EN,I2,rfl,bq,fM,df,gM⟩;obtain⟨a3,c3',rfl,_,_,_⟩:=id gM;have sD:=Qh gM;have gW:=Qh (AW3.O.aA bq);have mK:=Qh (mZ.O.trans fM (by have:=(Qg AW3.O.row);omega));have jS:=Qh (fM.keep bN (Qn _));have bT:=dw.trans (bq.mono dw.size);clear bq dw AW3 bN s0 s1 c0 c1 c2 c3 c4 c5 c6 gM fM;obtain⟨s0,s1,⟨c0,c1,c2,c3,c4,c5,c6⟩,_⟩:=gW.O;have r0:w5.cell? ⟨w.heap.size+1+1,0,none⟩=some (.slice none 0 0):=(cell_of_row w5 _ 0 _ _ _ gW.O.row).trans rfl;have r1:w5.cell? ⟨w.heap.size+1+1,1,none⟩=some (.slice none 0 0):=(cell_of_row w5 _ 1 _ _ _ gW.O.row).trans rfl;have f0:=frozen_of_row w5 _ 0 _ _ gW.O.row;have f1:=frozen_of_row w5 _ 1 _ _ gW.O.row;go_wp2;have hW:=heap_setCell_same _ (w.heap.size+1+1) 1 _ _ (.slice a3 h2.length c3') (heap_setCell_same w5 (w.heap.size+1+1) 0 _ _ (.slice a2 t2.length c2') gW.O.row);refine bodyPost_ret (v:= .tuple #[lh (.slice a2 t2.length c2') (.slice a3 h2.length c3'),.int .i64 0]) ?_ rfl ?_
    ·rw[results_cell_tmp rfl];simp[asAddr,run_loadVar_row _ (w.heap.size+1+1) 106 106 #[(.slice a2 t2.length c2'),(.slice a3 h2.length c3')] (0,0) _ hW Tryz.underlying106 rfl qR.O]
    ·rw[Hn.O];have eY:I2 (w.heap.size+1+1)=none:=(mK.O _ (by omega)).trans (hw.fresh (by omega));exact⟨_,_,I2,rfl,(bT.setCell (by simp;omega) _).setCell (by simp;omega) _,Ext.mono mK.O (by omega),(Ok.setCell df eY _).setCell eY _,(oU.O.mono jS.O),sD.O⟩
   ·have Hn:=Qh (oG.O hm);have JZ:(m !=0)=true:=by simpa using hm
    clear hm;go_wp2_with fail
    refine(iG.O I1 _ _ _ gz.O iM.O iN.O w3 bN).mono ?_;rintro e5 w5 ⟨EN,I2,rfl,bq,fM,df,gM⟩;obtain⟨a3,c3',rfl,_,_,_⟩:=id gM;have sD:=Qh gM;have gW:=Qh (AW3.O.aA bq);have mK:=Qh (mZ.O.trans fM (by have:=(Qg AW3.O.row);omega));have jS:=Qh (fM.keep bN (Qn _));have bT:=dw.trans (bq.mono dw.size);clear bq dw AW3 bN s0 s1 c0 c1 c2 c3 c4 c5 c6 gM fM;obtain⟨s0,s1,⟨c0,c1,c2,c3,c4,c5,c6⟩,_⟩:=gW.O;have r0:w5.cell? ⟨w.heap.size+1+1,0,none⟩=some (.slice none 0 0):=(cell_of_row w5 _ 0 _ _ _ gW.O.row).trans rfl;have r1:w5.cell? ⟨w.heap.size+1+1,1,none⟩=some (.slice none 0 0):=(cell_of_row w5 _ 1 _ _ _ gW.O.row).trans rfl;have f0:=frozen_of_row w5 _ 0 _ _ gW.O.row;have f1:=frozen_of_row w5 _ 1 _ _ gW.O.row;go_wp2;have hW:=heap_setCell_same _ (w.heap.size+1+1) 1 _ _ (.slice ah s.holds.length ch) (heap_setCell_same w5 (w.heap.size+1+1) 0 _ _ (.slice at' s.aI.length ct) gW.O.row);refine bodyPost_ret (v:= .tuple #[lh (.slice at' s.aI.length ct) (.slice ah s.holds.length ch),.int .i64 m]) ?_ rfl ?_
    ·rw[results_cell_tmp rfl];simp[asAddr,run_loadVar_row _ (w.heap.size+1+1) 106 106 #[(.slice at' s.aI.length ct),(.slice ah s.holds.length ch)] (0,0) _ hW Tryz.underlying106 rfl qR.O]
    ·rw[Hn.O];have eY:I2 (w.heap.size+1+1)=none:=(mK.O _ (by omega)).trans (hw.fresh (by omega));exact⟨_,_,I2,rfl,(bT.setCell (by simp;omega) _).setCell (by simp;omega) _,Ext.mono mK.O (by omega),(Ok.setCell df eY _).setCell eY _,(jQ.O.mono jS.O),(gz.O.mono jS.O)⟩
def Rn(I:IH)(w:World)(s:jI)(e:Ending)(w':World):Prop:=
 ∃vt vh I',e= .returned (lh vt vh)∧Below w.heap.size w w'∧Ext w.heap.size I I'∧Ok I' w'∧bf bG I' vt s.aI∧bf jw I' vh s.holds
structure nG (T:TypeId) (n:Nat) (J:IH) (W:World):Prop where
 row:W.heap[n]?=some (.cells #[.slice none 0 0,.slice none 0 0] T (0,0))
 free:J n=none
section
variable {T:TypeId} {n:Nat} {I J:IH} {W W':World}
theorem nG.lt(h:nG T n J W):n<W.heap.size:=(Qg h.row)
theorem nG.below(h:nG T n J W)(hb:Below W.heap.size W W'):nG T n J W':=⟨(hb.block _ h.lt).trans h.row,h.free⟩
theorem nG.past(h:nG T n J W)(o:Obj):nG T n J (W.alloc o):=h.below ((Qb _ _).alloc (Qn _) o)
theorem nG.ext(h:nG T n J W)(hb:Below W.heap.size W W')(hx:Ext W.heap.size J I):nG T n I W':=⟨(hb.block _ h.lt).trans h.row,(hx _ h.lt).trans h.free⟩
theorem nG.set2(h:nG T n J W)(hm:n≠m):nG T n J ((W.setCell ⟨m,0,none⟩ u).setCell ⟨m,1,none⟩ v):=
 ⟨(Below.heap_setCell _ _ _ _ hm).trans ((Below.heap_setCell _ _ _ _ hm).trans h.row),h.free⟩
end
def pE(l:List bR)(n:Int):List aG×Int:=if n<0∨(l.length:Int)<n then([],2)else((rf lF (l.take n.toNat)).aI,0)
def Y9(l:List bR)(n:Int):List Ho:=if n<0∨(l.length:Int)<n then []else(rf lF (l.take n.toNat)).holds
abbrev Ro(x:FT)(va vx:Value):List Value:=[.int .i64 x.s,.int .i64 x.d,.int .i64 x.e.ai,S x.e.af,va,S x.e.target,.int .i64 x.e.size,S x.e.aj,vx]
def anO:Ty FT where
 size:=9
 rd:=fun I cs x=> ∃va vx,cs=Ro x va vx∧bf lT I va x.e.ag∧bf mr I vx x.e.ak
 len:=fun⟨_,_,h,_⟩=>by rw[h];rfl
 one:=fun⟨va,vx,h,h1,h2⟩ u hu=>by
  rw[h]at hu;simp at hu;rcases hu with rfl|rfl|rfl|rfl|rfl|rfl|rfl|rfl|rfl<;>first|rfl|exact h1.one|exact h2.one
 mono:=fun hI ⟨va,vx,h,h1,h2⟩=>⟨va,vx,h,h1.mono hI,h2.mono hI⟩
section
variable {B nS:Nat} {J J':IH} {W W':World} {vo Rp:Value} {out out':List FT}
end
theorem Za{e:TypeId}{row:Option Nat}(hk:W.heap[k]?=some (.cells c e f))(hr:∀r,row=some r→ ∃o:Obj,W.heap[r]?=some o∧o.isCells=false):row≠some k:=by
 intro e';obtain⟨o,ho,hc⟩:=hr k e';rw[hk]at ho;cases ho;cases hc
theorem Ok.turn{row:Option Nat}(h:Ok I W)(hg:W.grownBy W' row)(hr:∀r,row=some r→ ∃o:Obj,W.heap[r]?=some o∧o.isCells=false):Ok I W':=fun b c hb=>by
 obtain⟨e,f,hh⟩:=h b c hb;exact⟨e,f,(hg.block b (Qg hh) (fun e'=>Za hh hr e'.symm)).trans hh⟩
theorem o9.turn{row:Option Nat}(h:o9 T n J W s vt vh)(hg:W.grownBy W' row)(hr:∀r,row=some r→ ∃o:Obj,W.heap[r]?=some o∧o.isCells=false):o9 T n J W' s vt vh:=
 ⟨(hg.block n h.lt (fun e'=>Za h.row hr e'.symm)).trans h.row,h.aI,h.holds,h.ok.turn hg hr,h.free⟩
theorem Below.turn{row:Option Nat}(h:Below n w W)(hn:n≤w.heap.size)(hB:n≤B)(hg:W.grownBy W' row)(hr:∀r,row=some r→B≤r∧ ∃o:Obj,W.heap[r]?=some o∧o.isCells=false):Below n w W':=
 h.grown hg (Nat.le_trans hn h.size) (fun k e=>Nat.le_trans hB (hr k e).1)
structure qH (n₀:Nat) (T:TypeId) (W W':World):Prop where
 below:Below n₀ W W'
 mh:∀(k:Nat) (c:Array Value) (f:Nat×Nat),W.heap[k]?=some (.cells c T f)→W'.heap[k]?=some (.cells c T f)
section
variable {n₀:Nat} {T:TypeId} {W W' W'':World}
theorem qH.refl(W:World):qH n₀ T W W:=⟨Qb _ _,fun _ _ _ h=>h⟩
theorem qH.trans(h:qH n₀ T W W')(k:qH n₀ T W' W''):qH n₀ T W W'':=⟨h.below.trans k.below,fun i c f hi=>k.mh i c f (h.mh i c f hi)⟩
theorem qH.of_below(hb:Below W.heap.size W W')(hn:n₀≤W.heap.size):qH n₀ T W W':=
 ⟨hb.mono hn,fun k _ _ h=>(hb.block k (Qg h)).trans h⟩
theorem qH.alloc(hn:n₀≤W.heap.size)(o:Obj):qH n₀ T W (W.alloc o):=qH.of_below ((Qb _ _).alloc (Qn _) o) hn
theorem qH.setCell{T':TypeId}(bI:W.heap[n]?=some (.cells c T' f))(hT:T'≠T)(hn:n₀≤n)(j:Nat)(u:Value):qH n₀ T W (W.setCell ⟨n,j,none⟩ u):=
 ⟨(Qb n₀ W).setCell (p:=⟨n,j,none⟩) hn u,fun k c' f' h=>(Below.heap_setCell W ⟨n,j,none⟩ u k (fun e=>by
   have e':k=n:=by first|exact e|exact e.symm
   subst e';rw[bI]at h;cases h;exact hT rfl)).trans h⟩
theorem qH.put(hn:n₀≤w.heap.size)(W:World)(l:Nat)(o o':Obj)(hl:w.heap.size≤l)(h:W.heap[l]?=some o)(hc:o.isCells=false)(hw:o.isWalk=false):qH n₀ T W (W.putObj l o'):=
 ⟨belowK_b hn W l o o' hl h hc hw,fun k c f hk=>by
   have bZ:k≠l:=by
    intro e;subst e;rw[h]at hk;cases hk;cases hc
   exact(World.putObj_heap_other bZ).trans hk⟩
end
theorem KeepsFrom.of_below(hb:Below W.heap.size W W'):KeepsFrom B W W':=⟨hb.size,fun k _ _ h _=>(hb.block k (Qg h)).trans h⟩
theorem KeepsFrom.yZ(W:World)(p:Addr)(u:Value):KeepsFrom B W (W.setCell p u):=(KeepsOthers.setCell W p u).from B
structure YP where
 s:bR
 e:aG
 ve:Value
 va:Value
 vx:Value
structure YP.In (I:IH) (L:List bR) (y:YP):Prop where
 mh:y.s∈L
 g:jA y.s
 mem:y.e∈y.s.ay
 ve:bf bG I y.ve y.s.ay
 va:bf lT I y.va y.e.ag
 vx:bf mr I y.vx y.e.ak
abbrev YS(I:IH)(L:List bR):={y:YP // y.In I L}
def YS.key{I:IH}{L:List bR}(y:YS I L):bR×aG:=(y.1.s,y.1.e)
def YS.enc{I:IH}{L:List bR}(y:YS I L):Array Value:=#[uC y.1.s y.1.ve,fB y.1.e y.1.va y.1.vx]
def keys{I:IH}{L:List bR}(l:List (YS I L)):List (bR×aG):=l.map YS.key
theorem Xmh(l:List (YS I L))(y:YS I L):keys (l++[y])=keys l++[(y.1.s,y.1.e)]:=by simp[keys,YS.key]
theorem Xpt(l:List (YS I L)):(keys l).length=l.length:=by simp[keys]
theorem Xxk(l:List (YS I L)):∀q∈keys l,q.2.af.length≤300∧q.2.target.length≤300:=fun q hq=>by
 obtain⟨y,_,rfl⟩:=List.mem_map.1 hq;exact⟨y.2.g.af _ y.2.mem,y.2.g.target _ y.2.mem⟩
theorem Xq3{l:List bR}(hk:k<l.length){x:bR}(hx:l[k]=x):pairs (l.take (k+1))=pairs (l.take k)++x.ay.map fun e=>(x,e):=by
 rw[List.take_succ_eq_append_getElem hk,hx];simp[pairs]
theorem Xvk{x:bR}(hk:k<x.ay.length)(he:x.ay[k]=e):(x.ay.take (k+1)).map (fun e=>(x,e))=(x.ay.take k).map (fun e=>(x,e))++[(x,e)]:=by
 rw[List.take_succ_eq_append_getElem hk,he];simp
theorem Xws(l:List (YS I L)):zD l.length ((keys l).foldl Bv lF):=by
 have:=Xp3 (keys l) YA (Xxk l);rw[Xpt,Nat.zero_add]at this;exact this
open Go.RowKit Go.Shelf
attribute [local go_sem] Oper.semAt_some
abbrev Ao(s:bR)(ve:Value):Array Value:=#[.int .i64 s.num,.int .i64 s.aN,S s.aW,ve,S s.aH,S s.sl]
theorem sesB_row{s:bR}{t:TypeId}(h:W.heap[b]?=some (.cells (Ao s ve) t (0,0))):nC W b s ve:=
 ⟨(cell_of_row W _ 0 _ _ _ h).trans rfl,(cell_of_row W _ 1 _ _ _ h).trans rfl,(cell_of_row W _ 2 _ _ _ h).trans rfl,(cell_of_row W _ 3 _ _ _ h).trans rfl,(cell_of_row W _ 4 _ _ _ h).trans rfl,(cell_of_row W _ 5 _ _ _ h).trans rfl⟩
theorem entB_row{t:TypeId}(h:W.heap[b]?=some (.cells (aZ e va vx) t (0,0))):bn W b e va vx:=
 ⟨(cell_of_row W _ 0 _ _ _ h).trans rfl,(cell_of_row W _ 1 _ _ _ h).trans rfl,(cell_of_row W _ 2 _ _ _ h).trans rfl,(cell_of_row W _ 3 _ _ _ h).trans rfl,(cell_of_row W _ 4 _ _ _ h).trans rfl,(cell_of_row W _ 5 _ _ _ h).trans rfl,(cell_of_row W _ 6 _ _ _ h).trans rfl⟩
theorem Xoj(n:Nat)(hn:1≤n)(I:IH)(v:Value)(L:List bR)(hv:bf lL I v L)(hg:∀x∈L,jA x)(hL:L.length≤1000)(l Bs n₀:Nat)(J Jx:List (YS I L)→World→Prop)
 (W:World) (hJ:AbidesFrom W.heap.size J)
 (hY:∀pre x W',J pre W'→pre.length<30000→YieldAt Fence.wide (n-1) Tryz.prog l x.enc W' fun e W''=>
   (e= .returned (.bool true)∧J (pre++[x]) W''∧qH n₀ 62 W' W'')∨(e= .returned (.bool false)∧Jx (pre++[x]) W''))
 (gG:Ok I W) (hI:∀b c,I b=some c→b<n₀) (eU:n₀≤W.heap.size) (qQ:W.cell? ⟨Bs,0,none⟩=some v) (h0:J [] W):
 CallsIn Fence.wide n Tryz.prog 217 #[.func (.yield l) #[] #[],.pointer (some ⟨Bs,0,none⟩)] W fun e W'=>(∃v,e= .returned v)∧
  ((∃ys,keys ys=pairs L∧J ys W')∨(∃pre,True∧Jx pre W')):=by
 obtain⟨ao,cap,rfl,_,_,_⟩:=id hv;have Hv:=Qh hv;have Hg:=Qh hg;have HJ:=Qh hJ;have HY:=Qh hY;have lX:=Qh gG;have HI:=Qh hI;clear hv hg hJ hY gG hI;refine callsIn_of_wp Tryz.func217 rfl trivial ?_ rfl;simp only[Tryz.ntmps217,List.size_toArray,List.length_cons,List.length_nil,Nat.reduceAdd,Nat.reduceSub,Array.replicate_succ,Array.replicate_zero,List.push_toArray,List.append_toArray,List.nil_append,List.cons_append];gi_wp2
 gi_loopw [9] (fun s9 wr=> ∃(k:Nat) (pre:List (YS I L)),k≤L.length∧s9= .int .i64 k∧keys pre=pairs (L.take k)∧J pre wr∧qH n₀ 62 W wr) (fun i _=>L.length-(intOf i).toNat)
 case atStart=>exact⟨0,[],Nat.zero_le _,rfl,rfl,h0,qH.refl _⟩
 case round=>
  obtain⟨k,pre,hk,rfl,FD,hj,fJ⟩:=hrel;have y8:=Qh FD;have Hj:=Qh hj;have BC:=Qh fJ;have sW:Ok I wr:=lX.O.of_block fun b c hb=>fJ.below.block b (HI.O b c hb);have G5:W.heap.size≤wr.heap.size:=fJ.below.size;clear FD hj fJ;by_cases hlt:k<L.length
  ·obtain⟨x,ve,b,off,cap',bH,dn,⟨c0,c1,c2,c3,c4,c5⟩,h1⟩:=Dl Hv.O sW k hlt;cases dn;obtain⟨oe,ce,rfl,_,_,_⟩:=id h1;have Q4:=Qh (show x∈L by rw[←bH];exact List.getElem_mem hlt);have CB:=Qh (Hg.O x Q4.O);have LD:=Qh h1;have Hpt:=Qh (Xq3 hlt bH);have LB:=CB.O.mi;have Hpl:=Qh (Xl5 (l:=L.take k) fun y hy=>Hg.O y (List.mem_of_mem_take hy));have mJ:=Qh (heap_alloc_new wr (.cells #[.int .i64 x.num,.int .i64 x.aN,S x.aW,.slice oe x.ay.length ce,S x.aH,S x.sl] 62));have Hj1:=Qh (HJ.O _ _ _ none Hj.O (World.grownBy_alloc wr (.cells #[.int .i64 x.num,.int .i64 x.aN,S x.aW,.slice oe x.ay.length ce,S x.aH,S x.sl] 62) none) (fun r h=>by cases h));have IA:=Qh (BC.O.trans (qH.alloc (by omega) (.cells #[.int .i64 x.num,.int .i64 x.aN,S x.aW,.slice oe x.ay.length ce,S x.aH,S x.sl] 62)));have FE:wr.heap.size<(wr.alloc (.cells #[.int .i64 x.num,.int .i64 x.aN,S x.aW,.slice oe x.ay.length ce,S x.aH,S x.sl] 62)).heap.size:=by simp
   clear bH h1 Hj BC sW;gi_wp2
   clear c0 c1 c2 c3 c4 c5;generalize wr.heap.size=bx at mJ FE G5 ⊢;gi_loopw [16] (fun s16 wq=> ∃(j:Nat) (pre:List (YS I L)),j≤x.ay.length∧s16= .int .i64 j∧keys pre=pairs (L.take k)++(x.ay.take j).map (fun e=>(x,e))∧J pre wq∧qH n₀ 62 W wq∧wq.heap[bx]?=some (.cells (Ao x (.slice oe x.ay.length ce)) 62 (0,0))) (fun i _=>x.ay.length-(intOf i).toNat)
   case atStart=>exact⟨0,pre,Nat.zero_le _,rfl,by rw[y8.O];simp,Hj1.O,IA.O,mJ.O⟩
   case round=>
    clear Hj1 IA mJ y8 FE;obtain⟨j,pre',uO,rfl,FD,hj,fJ,bI⟩:=hrel;have y8:=Qh FD;have Hj:=Qh hj;have BC:=Qh fJ;have mJ:=Qh bI;have sW:Ok I wr:=lX.O.of_block fun b c hb=>fJ.below.block b (HI.O b c hb);have afU:W.heap.size≤wr.heap.size:=fJ.below.size;clear FD hj fJ bI;by_cases tq:j<x.ay.length
    ·obtain⟨y,YY,YZ,b9,Iy,LF,iH,dn,⟨x0,x1,x2,x3,x4,x5,x6⟩,h1,h2⟩:=qi LD.O sW j tq;cases dn;obtain⟨xa,xc,rfl,_,_,_⟩:=id h1;obtain⟨xx,xd,rfl,_,_,_⟩:=id h2;have Hmt:=Qh (Xvk (x:=x) tq iH);have kD:YP.In I L ⟨x,y,.slice (some ⟨b9,Iy,none⟩) x.ay.length ce,.slice xa y.ag.length xc,.slice xx y.ak.length xd⟩:=⟨Q4.O,CB.O,by rw[←iH];exact List.getElem_mem tq,LD.O,h1,h2⟩;have nH:pre'.length<30000:=by
      have e1:=congrArg List.length y8.O;rw[Xpt,List.length_append,List.length_map,List.length_take]at e1;have e2:=Hpl.O;rw[List.length_take]at e2;omega
     obtain⟨fn,tmps,assign,body,hy,hR⟩:=HY.O pre' ⟨_,kD⟩ (wr.alloc (.cells #[.int .i64 y.ai,S y.af,.slice xa y.ag.length xc,S y.target,.int .i64 y.size,S y.aj,.slice xx y.ak.length xd] 35)) (HJ.O _ _ _ none Hj.O (World.grownBy_alloc wr _ none) (fun r h=>by cases h)) nH;have Ov:=Qh (show keys (pre'++[(⟨_,kD⟩:YS I L)])=pairs (L.take k)++(x.ay.take (j+1)).map (fun e=>(x,e)) by rw[Xmh,y8.O,Hmt.O,List.append_assoc]);dsimp only[YS.enc,uC,fB]at hy;generalize(⟨_,kD⟩:YS I L)=ys at hR Ov;have EO:(wr.alloc (.cells #[.int .i64 y.ai,S y.af,.slice xa y.ag.length xc,S y.target,.int .i64 y.size,S y.aj,.slice xx y.ak.length xd] 35)).heap[bx]?=_:=(Below.heap_alloc wr _ bx (Qg mJ.O)).trans mJ.O;have Rq:=Qh EO;obtain⟨c0,c1,c2,c3,c4,c5⟩:=sesB_row EO;have IA:=Qh (BC.O.trans (qH.alloc (by omega) (.cells #[.int .i64 y.ai,S y.af,.slice xa y.ag.length xc,S y.target,.int .i64 y.size,S y.aj,.slice xx y.ak.length xd] 35)));clear iH h1 h2 EO kD nH y8 Hj BC sW;gi_wp2
     refine hR.mono ?_;rintro e W3 (⟨rfl,hJ3,tL⟩|⟨rfl,aaO⟩)
     ·have HJ3:=Qh hJ3;have vV:=Qh (IA.O.trans tL);have sD:=Qh (tL.mh _ _ _ Rq.O);clear hJ3 tL hy c0 c1 c2 c3 c4 c5 x0 x1 x2 x3 x4 x5 x6;gi_wp2
      go_roundw;case rel=>exact⟨j+1,_,by omega,by go_num,Ov.O,HJ3.O,vV.O,sD.O⟩
      case measure=>simp[intOf];omega
     ·gi_wp2
      refine bodyPost_ret (results_none rfl _ _ _) rfl ?_;exact⟨⟨_,rfl⟩,.inr ⟨_,trivial,aaO⟩⟩
    ·have Ov:=Qh (show keys pre'=pairs (L.take (k+1)) by rw[y8.O,Hpt.O,List.take_of_length_le (show x.ay.length≤j by omega)]);gi_wp2
     go_roundw;case rel=>exact⟨k+1,_,by omega,by go_num,Ov.O,Hj.O,BC.O⟩
     case measure=>simp[intOf];omega
  ·have Ov:=Qh (show keys pre=pairs L by rw[y8.O,List.take_of_length_le (show L.length≤k by omega)]);gi_wp2
   go_end0
   exact⟨⟨_,rfl⟩,.inl ⟨_,Ov.O,Hj.O⟩⟩
theorem Xq7(v:Value)(w:World)(h1:∃ao n c,v= .slice ao n c):
 Calls Tryz.prog 158 #[v] w fun e w'=>e= .returned (.func (.func 217) #[] #[.pointer (some ⟨w.heap.size,0,none⟩)])∧w'=w.alloc (.cells #[v] 22):=by
 obtain⟨ao,k,c,rfl⟩:=h1;go_enter Tryz.func158,Tryz.ntmps158
 go_wp2;go_ret;exact⟨rfl,rfl⟩
theorem Xvw(n:Nat)(hn:1≤n)(I:IH)(v:Value)(L:List bR)(hv:bf lL I v L)(hg:∀x∈L,jA x)(hL:L.length≤1000)(Bs n₀:Nat)(w:World)(gG:Ok I w)(hI:∀b c,I b=some c→b<n₀)(eU:n₀≤w.heap.size)(qQ:w.cell? ⟨Bs,0,none⟩=some v):
 SeqStopsK Fence.wide n Tryz.prog 217 #[.pointer (some ⟨Bs,0,none⟩)] (fun x:YS I L=>x.enc) (qH n₀ 62) (fun ys=>keys ys=pairs L) (fun _=>True) 30000 w:=fun l J Jx W hW hJ _ hY h0=>
 Xoj n hn I v L hv hg hL l Bs n₀ J Jx W hJ hY (gG.below (Qn _) hW) hI (Nat.le_trans eU hW.size) (dh hW qQ) h0
attribute [local go_sem] Oper.semAt_some
theorem Zb{e:TypeId}{row:Option Nat}(h:W.heap[k]?=some (.cells c e f))(hg:W.grownBy W' row)(hr:∀r,row=some r→ ∃o:Obj,W.heap[r]?=some o∧o.isCells=false):W'.heap[k]?=some (.cells c e f):=
 (hg.block k (Qg h) (fun e'=>Za h hr e'.symm)).trans h
theorem nG.turn{row:Option Nat}(h:nG T n J W)(hg:W.grownBy W' row)(hr:∀r,row=some r→ ∃o:Obj,W.heap[r]?=some o∧o.isCells=false):nG T n J W':=⟨Zb h.row hg hr,h.free⟩
def IB(T:TypeId)(m:Nat)(I:IH)(w:World)(s:jI)(W:World):Prop:=∃vt vh J,o9 T (m+1) J W s vt vh∧nG T m J W∧Ext m I J∧Below m w W
theorem Xwt{β:Type}(f:β→jI)(hm:m≤w.heap.size)(hB:m≤B):OwnFrom B (fun b W=>IB T m I w (f b) W):=by
 intro b W W' row ⟨vt,vh,J,h1,h2,h3,h4⟩ hg hr;exact⟨vt,vh,J,h1.turn hg fun r e=>(hr r e).2,h2.turn hg fun r e=>(hr r e).2,h3,Below.turn h4 hm hB hg hr⟩
structure UQ (T1 T2:TypeId) (m:Nat) (y:YP) (b:Nat) (W:World):Prop where
 lt:m<b
 s:W.heap[b]?=some (.cells (Ao y.s y.ve) T1 (0,0))
 e:W.heap[b+1]?=some (.cells (aZ y.e y.va y.vx) T2 (0,0))
theorem UQ.turn{T1 T2:TypeId}{y:YP}{row:Option Nat}(h:UQ T1 T2 m y b W)(hg:W.grownBy W' row)(hr:∀r,row=some r→ ∃o:Obj,W.heap[r]?=some o∧o.isCells=false):UQ T1 T2 m y b W':=
 ⟨h.lt,Zb h.s hg hr,Zb h.e hg hr⟩
theorem Xvy(I:IH)(hI:dQ I)(v:Value)(L:List bR)(hv:bf lL I v L)(hg:∀x∈L,jA x)(hL:L.length≤1000)(w:World)(hw:Ok I w):
 Calls Tryz.prog 95 #[v] w (Rn I w (rf lF L)):=by
 obtain⟨ao,cap,rfl,_,_,_⟩:=id hv;have Hv:=Qh hv;have Hg:=Qh hg;have HI:=Qh hI;have H0:=Qh (o9.new (T:=154) (hw.alloc (.cells #[.slice none 0 0,.slice none 0 0] 154)) rfl);have HR0:=Qh (show nG 154 w.heap.size I (w.alloc (.cells #[.slice none 0 0,.slice none 0 0] 154))from⟨heap_alloc_new w _,hw.fresh (Qn _)⟩);rw[World.size_alloc]at H0;have vW:Below w.heap.size w (w.alloc (.cells #[.slice none 0 0,.slice none 0 0] 154)):=(Qb _ _).alloc (Qn _) _;have Di:=vW.alloc vW.size (.cells #[.slice none 0 0,.slice none 0 0] 154);clear hv hg hI;refine(callsIn_wide (n:=3)).1 ?_;refine callsIn_of_wp_marks Tryz.func95 rfl trivial ?_ rfl;simp only[Tryz.ntmps95,List.size_toArray,List.length_cons,List.length_nil,Nat.reduceAdd,Nat.reduceSub,Array.replicate_succ,Array.replicate_zero,List.push_toArray,List.append_toArray,List.nil_append,List.cons_append];gi_wp2_with (refine⟨trivial,?_⟩;gi_at_call 158;refine(callsIn_wide.2 (Xq7 _ _ ⟨_,_,_,rfl⟩)).mono ?_;rintro e w' ⟨rfl,rfl⟩)
 have xJ:(((w.alloc (.cells #[.slice none 0 0,.slice none 0 0] 154)).alloc (.cells #[.slice none 0 0,.slice none 0 0] 154)).alloc (.cells #[.slice ao L.length cap] 22)).cell? ⟨w.heap.size+1+1,0,none⟩=some (.slice ao L.length cap):=
  (cell_of_row _ (w.heap.size+1+1) 0 _ _ _ (by have h:=heap_alloc_new ((w.alloc (.cells #[.slice none 0 0,.slice none 0 0] 154)).alloc (.cells #[.slice none 0 0,.slice none 0 0] 154)) (.cells #[.slice ao L.length cap] 22);simpa using h)).trans rfl
 have aQ:Ok I (((w.alloc (.cells #[.slice none 0 0,.slice none 0 0] 154)).alloc (.cells #[.slice none 0 0,.slice none 0 0] 154)).alloc (.cells #[.slice ao L.length cap] 22)):=((hw.alloc _).alloc _).alloc _;have H2:=Qh (H0.O.past (.cells #[.slice ao L.length cap] 22));have Jb:=Qh ((HR0.O.past (.cells #[.slice none 0 0,.slice none 0 0] 154)).past (.cells #[.slice ao L.length cap] 22));have aF:=Di.alloc Di.size (.cells #[.slice ao L.length cap] 22);have eU:(((w.alloc (.cells #[.slice none 0 0,.slice none 0 0] 154)).alloc (.cells #[.slice none 0 0,.slice none 0 0] 154)).alloc (.cells #[.slice ao L.length cap] 22)).heap.size=w.heap.size+3:=by simp
 clear H0 HR0 vW Di;obtain⟨W0,hW0⟩:∃W0,(((w.alloc (.cells #[.slice none 0 0,.slice none 0 0] 154)).alloc (.cells #[.slice none 0 0,.slice none 0 0] 154)).alloc (.cells #[.slice ao L.length cap] 22))=W0:=⟨_,rfl⟩;rw[hW0]at xJ aQ H2 Jb aF eU ⊢;clear hW0
 refine wpIn_rangeFunc_ownH rfl (by decide) (gf:=217) (lb:=#[.pointer (some ⟨w.heap.size+1+1,0,none⟩)]) rfl trivial (enters_of Tryz.func217 (by kernel_rfl) rfl)
  (Xvw _ (by decide) I _ L Hv.O Hg.O hL (w.heap.size+1+1) w.heap.size W0 aQ (fun b c h=>hw.lt h) (by omega) xJ) qH.trans (qH.put (by omega)) (Qb _ _) (fun _=>rfl)
  (fun pre W=>IB 154 w.heap.size I w ((keys pre).foldl Bv lF) W)
  (fun _ _ _=>False)
  (Xwt _ (Qn _) (by omega))
  (fun _ _ _ _ _ hs _ _=>hs)
  ⟨_,_,I,H2.O,Jb.O,Ext.refl _ _,aF⟩
  (fun x a' W=> ∃Bx,UQ 62 35 (w.heap.size+1) x.1 Bx W∧a'={tmps:=#[.slice ao L.length cap,undef,.pointer (some ⟨w.heap.size,0,none⟩),.pointer (some ⟨w.heap.size+1,0,none⟩),.pointer (some ⟨Bx,0,none⟩),.pointer (some ⟨Bx+1,0,none⟩),.slice ao L.length cap,.func (.func 217) #[] #[.pointer (some ⟨w.heap.size+1+1,0,none⟩)],uC x.1.s x.1.ve,fB x.1.e x.1.va x.1.vx,undef,undef,undef,undef,undef,undef,undef,undef,undef],defers:=[]})
  (fun x a' _ X Y row hs hg hr=>by obtain⟨Bx,h1,h2⟩:=hs;exact⟨Bx,h1.turn hg (fun r e=>(hr r e).2),h2⟩)
  ?assign ?body ?done ?stop
 case assign=>
  rintro l pre x W K ⟨vt,vh,J,h1,h2,h3,h4⟩ hK;obtain⟨⟨s,e,ve,va,vx⟩,hx⟩:=x;have g1:=hx.ve;have g2:=hx.va;have g3:=hx.vx;dsimp only at g1 g2 g3;obtain⟨oe,ce,rfl,_,_,_⟩:=id g1;obtain⟨oa,ca,rfl,_,_,_⟩:=id g2;obtain⟨ox,cx,rfl,_,_,_⟩:=id g3;clear g1 g2 g3;dsimp only[YS.enc,uC,fB];gi_wp2
  have bY:=h4.size;have hlt:=h1.lt;refine hK _ _ (KeepsFrom.of_below (((Qb _ W).alloc (Qn _) _).alloc (by simp) _)) ((qH.alloc bY _).trans (qH.alloc (by simp;omega) _)) ⟨_,_,J,(h1.past _).past _,(h2.past _).past _,h3,(h4.alloc bY _).alloc (by simp;omega) _⟩ ⟨W.heap.size,⟨hlt,(Below.heap_alloc _ _ _ (by simp)).trans (heap_alloc_new W _),?_⟩,rfl⟩;have h:=heap_alloc_new (W.alloc (.cells #[.int .i64 s.num,.int .i64 s.aN,S s.aW,.slice oe s.ay.length ce,S s.aH,S s.sl] 62)) (.cells #[.int .i64 e.ai,S e.af,.slice oa e.ag.length ca,S e.target,.int .i64 e.size,S e.aj,.slice ox e.ak.length cx] 35);simpa using h
 case body=>
  rintro l pre x a' W _ _ ⟨vt,vh,J,h1,h2,h3,h4⟩ ⟨Bx,BK,rfl⟩ nH;obtain⟨⟨s,e,ve,va,vx⟩,hx⟩:=x;have g1:=hx.ve;have g2:=hx.va;have g3:=hx.vx;have gg:=hx.g;have gm:=hx.mem;have Zc:=Xmh pre ⟨_,hx⟩;dsimp only at g1 g2 g3 gg gm Zc BK;obtain⟨oe,ce,rfl,_,_,_⟩:=id g1;obtain⟨oa,ca,rfl,_,_,_⟩:=id g2;obtain⟨ox,cx,rfl,_,_,_⟩:=id g3;obtain⟨t1,JL,rfl,_,_,_⟩:=id h1.aI;obtain⟨u1,JM,rfl,_,_,_⟩:=id h1.holds;have Na:=Xws pre;have fJ:=h3.keep hw (Qn _);have pF:=Na.ok.BX;have Cx:=Na.ok.hlen;have MN:=gg.af e gm;have Vt:=gg.target e gm;have Ow:=Qh (show(keys (pre++[⟨_,hx⟩])).foldl Bv lF=(dY ((keys pre).foldl Bv lF) e s.aN).1 by rw[Zc,Xti]);have iG:=Qh (Xvx J (HI.O.mono fJ) ((keys pre).foldl Bv lF) _ _ h1.aI h1.holds Na.JH Na.ok.aI.DF (by omega) Na.ok.holds (by omega) e _ _ (g2.mono fJ) (g3.mono fJ) (gg.wf e gm) (by omega) (by omega) s.aN W h1.ok);generalize(keys pre).foldl Bv lF=s0 at h1 Na pF Cx iG Ow;obtain⟨s2,zG,pX⟩:∃s2 zG,dY s0 e s.aN=(s2,zG):=⟨_,_,rfl⟩;rw[pX]at iG Ow;have H1:=Qh h1;have H2:=Qh h2;have H3:=Qh h3;have c0:=h1.c0;have c1:=h1.c1;obtain⟨b0,b1,b2,b3,b4,b5⟩:=sesB_row BK.s;obtain⟨x0,x1,x2,x3,x4,x5,x6⟩:=entB_row BK.e;clear g1 g2 g3 gg gm Zc h1 h2 h3 Na fJ pX pF Cx;gi_wp2_with fail
  refine⟨trivial,(CallsIn.inRound l (callsIn_wide.2 iG.O)).mono ?_⟩;rintro e3 W3 ⟨v3,v4,J3,rfl,cO,rO,bN,FH,FI⟩;obtain⟨a3,d3,rfl,_,_,_⟩:=id FH;obtain⟨a4,d4,rfl,_,_,_⟩:=id FI;have S3:=H1.O.ext cO rO bN;have R3:=H2.O.ext cO rO;have r0:=S3.c0;have r1:=S3.c1;have f0:=S3.f0;have f1:=S3.f1;have bY:=h4.size;have hf:=(KeepsFrom.of_below (B:=W0.heap.size) cO).trans ((KeepsFrom.yZ W3 ⟨w.heap.size+1,0,none⟩ (.slice a3 s2.aI.length d3)).trans (KeepsFrom.yZ _ ⟨w.heap.size+1,1,none⟩ (.slice a4 s2.holds.length d4)));have hk:=(qH.of_below (n₀:=w.heap.size) (T:=62) cO bY).trans ((qH.setCell S3.row (by decide) (Nat.le_succ _) 0 (.slice a3 s2.aI.length d3)).trans (qH.setCell (heap_setCell_same W3 (w.heap.size+1) 0 _ _ (.slice a3 s2.aI.length d3) S3.row) (by decide) (Nat.le_succ _) 1 (.slice a4 s2.holds.length d4)));have hi:IB 154 w.heap.size I w s2 ((W3.setCell ⟨w.heap.size+1,0,none⟩ (.slice a3 s2.aI.length d3)).setCell ⟨w.heap.size+1,1,none⟩ (.slice a4 s2.holds.length d4)):=
   ⟨_,_,J3,S3.set (s':=s2) FH FI,R3.set2 (by omega),H3.O.trans rO bY,((h4.trans (cO.mono bY)).setCell (p:=⟨w.heap.size+1,0,none⟩) (Nat.le_succ _) _).setCell (p:=⟨w.heap.size+1,1,none⟩) (Nat.le_succ _) _⟩
  have EP:=Qh (And.intro hf (And.intro hk hi));clear FH FI cO rO bN S3 R3 hf hk hi c0 c1 b0 b1 b2 b3 b4 b5 x0 x1 x2 x3 x4 x5 x6 BK;gi_wp2
  refine⟨EP.O.1,EP.O.2.1,?_⟩;show IB _ _ _ _ _ _;rw[Ow.O];exact EP.O.2.2
 case done=>
  rintro D ys W hD hS ⟨vt,vh,J,h1,h2,h3,h4⟩ hK;have gB:(keys ys).foldl Bv lF=rf lF L:=by rw[hS,Xnl]
  obtain⟨s0,mq⟩:∃s0,rf lF L=s0:=⟨_,rfl⟩;rw[gB,mq]at h1;have Yu:=Qh mq;have qR:=Qh (show(Tryz.prog.info? 154).map (·.size)=some 2 by kernel_rfl);clear gB mq;obtain⟨t1,JL,rfl,_,_,_⟩:=id h1.aI;obtain⟨u1,JM,rfl,_,_,_⟩:=id h1.holds;have c0:=h1.c0;have c1:=h1.c1;have q0:W.cell? ⟨w.heap.size,0,none⟩=some (.slice none 0 0):=(cell_of_row W _ 0 _ _ _ h2.row).trans rfl;have q1:W.cell? ⟨w.heap.size,1,none⟩=some (.slice none 0 0):=(cell_of_row W _ 1 _ _ _ h2.row).trans rfl;have f0:=frozen_of_row W _ 0 _ _ h2.row;have f1:=frozen_of_row W _ 1 _ _ h2.row;have hlt:=h1.lt;have bZ:w.heap.size≠D:=by omega
  have hK2:((W.setCell ⟨w.heap.size,0,none⟩ (.slice t1 s0.aI.length JL)).setCell ⟨w.heap.size,1,none⟩ (.slice u1 s0.holds.length JM)).heap[D]?=some (.deferred (some [])):=
   (Below.heap_setCell _ ⟨w.heap.size,1,none⟩ _ D bZ.symm).trans ((Below.heap_setCell _ ⟨w.heap.size,0,none⟩ _ D bZ.symm).trans hK)
  have hW:=heap_setCell_same _ w.heap.size 1 _ _ (.slice u1 s0.holds.length JM) (heap_setCell_same W w.heap.size 0 _ _ (.slice t1 s0.aI.length JL) h2.row);have gG:=(h1.ok.setCell (a:=⟨w.heap.size,0,none⟩) h2.free (.slice t1 s0.aI.length JL)).setCell (a:=⟨w.heap.size,1,none⟩) h2.free (.slice u1 s0.holds.length JM);have OQ:=(h4.setCell (p:=⟨w.heap.size,0,none⟩) (Qn _) (.slice t1 s0.aI.length JL)).setCell (p:=⟨w.heap.size,1,none⟩) (Qn _) (.slice u1 s0.holds.length JM);have fO:=h4.size;gi_wp2
  refine⟨by simp,.inl ⟨_,_,rfl,run_takeDeferred hK2,?_⟩⟩;refine⟨_,results_cell_row rfl _ _ w.heap.size _ #[.slice t1 s0.aI.length JL,.slice u1 s0.holds.length JM] (0,0) _ rfl ((World.putObj_heap_other bZ).trans hW) Tryz.underlying154 rfl qR.O,?_⟩;rw[Yu.O];exact⟨_,_,J,rfl,Below.turn OQ (Qn _) (Qn _) (grownBy_putObj' _ D _) (fun r e=>by cases e;exact⟨by omega,_,hK2,rfl⟩),h3,gG.turn (grownBy_putObj' _ D _) (fun r e=>by cases e;exact⟨_,hK2,rfl⟩),h1.aI,h1.holds⟩
 case stop=>
  rintro D c pre W _ _ h _;exact h.elim
theorem Xxm(I:IH)(hI:dQ I)(v:Value)(l:List bR)(hv:bf lL I v l)(hg:∀x∈l,jA x)(hn:l.length≤1000)(n:Int)(w:World)(hw:Ok I w):
 Calls Tryz.prog 48 #[v,.int .i64 n] w (yh bG I w (pE l n).1 (pE l n).2):=by
 obtain⟨ao,cap,rfl,dO,_,_⟩:=id hv;have Ha:=Qh (fun(m:Nat) (hm:m≤l.length) w hw=>Xvy I hI (.slice ao m cap) (l.take m) (hv.rR hm) (fun x hx=>hg x (List.mem_of_mem_take hx)) (by rw[List.length_take];omega) w hw);clear hv hg;by_cases h1:n<0
 ·have Hn:=Qh (show pE l n=([],2) by rw[pE,if_pos (.inl h1)]);have d1:decide (n<0)=true:=Qt h1;clear h1;go_enter Tryz.func48,Tryz.ntmps48
  go_wp2;go_ret2;rw[Hn.O];exact⟨_,I,rfl,Qb _ _,Ext.refl _ _,hw,bf.nil _ _⟩
 have d1:decide (n<0)=false:=Qf h1;by_cases h2:(l.length:Int)<n
 ·have Hn:=Qh (show pE l n=([],2) by rw[pE,if_pos (.inr h2)]);have d2:decide ((l.length:Int)<n)=true:=Qt h2;clear h1 h2;go_enter Tryz.func48,Tryz.ntmps48
  go_wp2;go_ret2;rw[Hn.O];exact⟨_,I,rfl,Qb _ _,Ext.refl _ _,hw,bf.nil _ _⟩
 have d2:decide ((l.length:Int)<n)=false:=Qf h2;obtain⟨m,rfl⟩:∃m:Nat,n=(m:Int):=⟨n.toNat,by omega⟩;have Hn:=Qh (show pE l (m:Int)=((rf lF (l.take m)).aI,0) by rw[pE,if_neg (by omega)];rfl);have uU:m≤l.length:=by omega
 have hi0:(0:Int)≤(m:Int):=by omega
 have Dw:(m:Int)≤(l.length:Int):=by omega
 have uY:(m:Int)≤(cap:Int):=by omega
 have Zd:∀(a b:Value) (w:World),(Instr.field 154 (.agg #[a,b]) 0).run Tryz.prog w= .ok a w:=fun _ _ _=>by kernel_rfl
 clear h1 h2;go_enter Tryz.func48,Tryz.ntmps48
 go_wp2_with fail
 refine(Ha.O m uU w hw).mono ?_;rintro e1 w1 ⟨vt,vh,J,rfl,hb,hx,gG,ht,hh⟩;have Ht:=Qh ht;clear ht hh;go_wp2;go_ret2;rw[Hn.O];exact⟨_,J,rfl,hb,hx,gG,Ht.O⟩
theorem kT.wf(h:kT x):x.Wf:=by
 have a1:=h.k1;have a2:=h.k6;have a3:=h.af;have a4:=h.target;have a5:=h.s0;have a6:=h.s1;have a7:=h.aj;refine⟨by omega,by omega,by omega,fun y hy=> ?_,by omega,by omega,by omega,by omega,fun y hy=> ?_⟩
 ·have:=h.Pf y hy;exact⟨by omega,by omega⟩
 ·have:=h.NS y hy;exact⟨⟨by omega,by omega⟩,⟨by omega,by omega⟩,⟨by omega,by omega⟩⟩
theorem Xuw(L:List bR)(d:Int):pE L (oZ d L:Nat)=(jB L d,0):=by
 have:=YI d L;rw[pE,if_neg (by omega)];rfl
theorem Xuv(hg:∀x∈L,jA x)(d:Int):(jB L d).length≤30*L.length:=by
 have h:=(Xun (L.take (oZ d L)) YA fun x hx=>hg x (List.mem_of_mem_take hx)).ok.BX;rw[List.length_take]at h;have:=YI d L;unfold jB;omega
theorem Xli(L:List bR)(d:Int):∀x∈jB L d,az x=0:=(Xrr (l:=L) (oZ d L)).dm
def wy(st:List ae)(t:List aG)(k:Nat):ae:=aY t.length++(t.take k).flatMap (piece st)
theorem Xo7(hk:k<t.length)(hx:t[k]=x):wy st t (k+1)=wy st t k++piece st x:=by
 rw[wy,wy,List.take_succ_eq_append_getElem hk,hx,List.flatMap_append,←List.append_assoc];simp
theorem Xux(hk:k<t.length)(hx:t[k]=x)(h:Ak st (t.drop k) (wy st t k)=N):
 if(cZ st x).2≠0 then N=([],(cZ st x).2)else Ak st (t.drop (k+1)) (wy st t (k+1))=N:=by
 rw[List.drop_eq_getElem_cons hk,hx,Ak]at h;split
 ·rename_i q;rw[if_pos q]at h;exact h.symm
 ·rename_i q;rw[if_neg q]at h;rw[Xo7 hk hx];exact h
theorem Xw5(hk:t.length≤k)(h:Ak st (t.drop k) (wy st t k)=N):N=(wy st t k,0):=by
 rw[List.drop_of_length_le hk,Ak]at h;exact h.symm
theorem Xl3(hx:kT x):(piece st x).length≤68300∧(aS (dD x)).length≤2720∧(aS (cZ st x).1).length≤65560:=by
 have h1:=KS hx;have h2:=UG st x;have h3:=pY (dD x) (by omega);have h4:=pY (cZ st x).1 (by omega);unfold piece;rw[List.length_append];omega
theorem Xw4(ht:∀x∈t,kT x)(hl:t.length≤100000):∀k,(wy st t k).length≤17+68300*t.length:=by
 have key:∀(u:List aG),(∀x∈u,kT x)→(u.flatMap (piece st)).length≤68300*u.length:=by
  intro u;induction u with
  |nil=>intro _;simp
  |cons x u ih=>
   intro h;have h1:=(Xl3 (st:=st) (h x (by simp))).1;have h2:=ih fun y hy=>h y (by simp[hy]);rw[List.flatMap_cons,List.length_append,List.length_cons];omega
 intro k;have h1:=key (t.take k) fun x hx=>ht x (List.mem_of_mem_take hx);have h2:=qP t.length (by omega);have h3:(t.take k).length≤t.length:=by rw[List.length_take];omega
 unfold wy;rw[List.length_append];have:=Nat.mul_le_mul_left 68300 h3;omega
theorem Xza(n:Nat)(l s:ae)(w:World)(h:Lib.IsBuilder 71 5 n n (Lib.byteCells l) w)(hl:l.length+s.length≤140737488355328)(hn:n<w.heap.size):
 Calls Tryz.prog 23 #[.pointer (some ⟨n,0,none⟩),S s] w fun e w'=>e= .returned (.tuple #[.int .i64 (s.length:Int),.nilIface])∧Lib.IsBuilder 71 5 n n (Lib.byteCells (l++s)) w'∧Below n w w'∧n<w'.heap.size:=by
 refine(Tryz.Builder_WriteString n n _ _ _ h (by rw[ByteArray.size_mk',List.size_toArray];simp[Lib.byteCells];omega) (Nat.le_of_lt hn)).mono ?_;rintro e w2 ⟨rfl,tH,hb⟩;refine⟨by rw[ByteArray.size_mk',List.size_toArray],.inr ?_,hb,tH.lt⟩;have:=tH;rw[Lib.strCells_toArray,Lib.byteCells,Lib.byteCells,←List.map_append]at this;exact this
theorem Xuh(W:World):Lib.IsBuilder 71 5 W.heap.size W.heap.size (Lib.byteCells []) (W.alloc (.cells #[.pointer none,.slice none 0 0] 71)):=Lib.fresh_isBuilder _ _ W
structure Dp (I:IH) (w:World) (b:Nat) (J:IH) (l:ae) (W:World):Prop where
 mt:lY I w J W
 bd:Lib.IsBuilder 71 5 b b (Lib.byteCells l) W
 fr:∀g,b≤g→J g=none
 ge:w.heap.size≤b
 lt:b<W.heap.size
section
variable {I J:IH} {w W W':World} {b:Nat} {l l':ae}
theorem Dp.aA(h:Dp I w b J l W)(hb:Below W.heap.size W W'):Dp I w b J l W':=⟨h.mt.quiet hb,NH h.bd hb,h.fr,h.ge,Nat.lt_of_lt_of_le h.lt hb.size⟩
theorem Dp.past(h:Dp I w b J l W)(o:Obj):Dp I w b J l (W.alloc o):=h.aA ((Qb _ _).alloc (Qn _) o)
theorem Dp.put(h:Dp I w b J l W)(tH:Lib.IsBuilder 71 5 b b (Lib.byteCells l') W')(hb:Below b W W')(hlt:b<W'.heap.size):Dp I w b J l' W':=
 ⟨⟨h.mt.ok.of_block fun k c hc=>hb.block k (Nat.lt_of_not_le fun q=>by rw[h.fr k q]at hc;cases hc),h.mt.keep,h.mt.dE.trans (hb.mono h.ge)⟩,tH,h.fr,h.ge,hlt⟩
end
theorem Xxq(I:IH)(hI:dQ I)(v:Value)(L:List bR)(hv:bf lL I v L)(hg:∀x∈L,jA x)(hn:L.length≤1000)(d:Int)(w:World)(hw:Ok I w):
 Calls Tryz.prog 20 #[v,.int .i64 d] w fun r w'=>r= .returned (.tuple #[S (Cw L d).1,.int .i64 (Cw L d).2])∧Below w.heap.size w w':=by
 have Has:=Qh (fun w hw=>Xxn I v L hv d w hw);have yC:=Qh (fun w hw=>Xxm I hI v L hv hg hn (oZ d L:Nat) w hw);rw[Xuw]at yC;have JW:=hv.bW;have BJ:=Xuv hg d;have qf:=Qh (fun x hx=>Bn (Xli L d x hx));have Her:=Qh (Xli L d);have Hv:=Qh hv;have Hg:=Qh hg;unfold Cw;unfold Ir;obtain⟨N,hN⟩:∃N,Ak (aK L) (jB L d) (aY (jB L d).length)=N:=⟨_,rfl⟩;rw[hN];have HN:=Qh (show Ak (aK L) ((jB L d).drop 0) (wy (aK L) (jB L d) 0)=N by rw[List.drop_zero,wy,List.take_zero,List.flatMap_nil,List.append_nil];exact hN);have Hz:=Qh (show aY (jB L d).length=wy (aK L) (jB L d) 0 by rw[wy,List.take_zero,List.flatMap_nil,List.append_nil]);obtain⟨so,sc,rfl,_,_,_⟩:=id hv;clear hv hg hN;generalize jB L d=t at*;have sU:=Qh (Xw4 (st:=aK L) qf.O (by omega));have oO:=sU.O 0;go_enter Tryz.func20,Tryz.ntmps20
 go_wp2_with fail
 refine(Has.O _ hw).mono ?_;rintro e1 w1 ⟨rfl,au⟩;go_wp2_with fail
 refine(yC.O _ (hw.below (Qn _) au)).mono ?_;rintro e2 w2 ⟨vt,J,rfl,aF,fM,aQ,fT⟩;try dsimp only at fT
 have Hk:=Qh (show ∀b c,I b=some c→J b=some c from fM.keep (hw.below (Qn _) au) (Qn _));have A2:=Qh (show lY I w J w2 from⟨aQ,Hk.O,au.trans (aF.mono au.size)⟩);have Ht:=Qh fT;obtain⟨ta,tc,rfl,_,_,_⟩:=id fT
 have M3:=Qh (show Dp I w w2.heap.size J [] (w2.alloc (.cells #[.pointer none,.slice none 0 0] 71))from
  ⟨A2.O.past _,Xuh w2,fun g hg=>aQ.fresh hg,A2.O.dE.size,by simp⟩)
 have KT:=Qh (fun w hw=>NJ J (hI.mono Hk.O) t.length (by omega) w hw);rw[Hz.O]at KT;clear fT au aF fM aQ A2 Has yC Hz;go_wp2_with fail
 refine(KT.O _ M3.O.mt.ok).mono ?_;rintro e4 w4 ⟨rfl,aM⟩;have M4:=Qh (M3.O.aA aM);clear M3 aM KT;go_wp2_with fail
 refine(Xza _ [] (wy (aK L) t 0) _ M4.O.bd (by first|omega|(simp;omega)) M4.O.lt).mono ?_;rintro e5 w5 ⟨rfl,sJ,Rs,Rt⟩;have M5:=Qh (M4.O.put sJ Rs Rt);rw[List.nil_append]at M5;clear M4 sJ Rs Rt;go_wp2_with fail
 go_loopw [10,33] (fun _ s33 wr=> ∃k:Nat,k≤t.length∧s33= .int .i64 k∧Dp I w w2.heap.size J (wy (aK L) t k) wr∧Ak (aK L) (t.drop k) (wy (aK L) t k)=N) (fun _ i _=>t.length-(intOf i).toNat)
 case atStart=>exact⟨0,Nat.zero_le _,rfl,M5.O,HN.O⟩
 case round=>
  clear M5 HN oO;obtain⟨k,hk,rfl,hM,hr⟩:=hrel;have M:=Qh hM;have Hr:=Qh hr;have CX:=sU.O k;clear hM hr;by_cases hlt:k<t.length
  ·obtain⟨x,va,vx,b,off,cap',bH,dn,⟨c0,c1,c2,c3,c4,c5,c6⟩,eP,eT⟩:=qi Ht.O M.O.mt.ok k hlt;cases dn;have Hx:=Qh (qf.O x (by rw[←bH];exact List.getElem_mem hlt));have He:=Qh (Her.O x (by rw[←bH];exact List.getElem_mem hlt));have bB:=Qh (Xux hlt bH Hr.O);have Lu:=Qh (Xo7 (st:=aK L) hlt bH);have hp3:=Xl3 (st:=aK L) Hx.O;have gK:=Hx.O.af;have fM:=Hx.O.target;have Cx:=KS Hx.O;have gI:=UG (aK L) x;have Ox:=Qh (fun w hw=>Xrb J _ L (Hv.O.mono Hk.O) Hg.O hn x va vx eP eT w hw);have Bp:=Qh (fun w hw=>Xtx J (hI.mono Hk.O) x va vx eP eT Hx.O.wf (by omega) (by omega) Hx.O He.O w hw);obtain⟨xa,xc,rfl,_,_,_⟩:=id eP;obtain⟨xx,xd,rfl,_,_,_⟩:=id eT;have M1:=Qh (M.O.past (.cells #[.int .i64 x.ai,S x.af,.slice xa x.ag.length xc,S x.target,.int .i64 x.size,S x.aj,.slice xx x.ak.length xd] 35));have EB:=Qh (cB (W:=wr) (e:=x) (va:= .slice xa x.ag.length xc) (vx:= .slice xx x.ak.length xd) (t:=35) rfl (Qb _ _));clear bH eP eT M;obtain⟨ct,er,hcc⟩:∃ct er,cZ (aK L) x=(ct,er):=⟨_,_,rfl⟩;have yo:=Qh (show piece (aK L) x=gJ [dD x,ct] by simp[piece,gJ,hcc]);rw[hcc]at bB gI;dsimp only at bB gI;have IC:=Qh hcc;clear hcc;go_upto_if 39 with fail
   clear c0 c1 c2 c3 c4 c5 c6;obtain⟨y0,y1,y2,y3,y4,y5,y6⟩:=EB.O;go_cut [11,12,13] (fun s11 _ _ wx=>s11=S ct∧er=0∧Dp I w w2.heap.size J (wy (aK L) t k) wx∧bn wx wr.heap.size x (.slice xa x.ag.length xc) (.slice xx x.ak.length xd))
   case first=>
    by_cases mo:x.ai=1
    ·have k1:(x.ai==1)=true:=by simpa using mo
     rw[show jr (aK L) x=(ct,er) by rw[←IC.O];unfold cZ;rw[if_pos mo]]at Ox;dsimp only at Ox;clear mo IC;go_wp2_with fail
     refine(Ox.O _ M1.O.mt.ok).mono ?_;rintro e6 w6 ⟨rfl,gp⟩;have M6:=Qh (M1.O.aA gp);have UR:=Qh (EB.O.aA gp);clear M1 EB gp y0 y1 y2 y3 y4 y5 y6;by_cases hz:er=0
     ·subst hz;go_wp2_with fail
      go_meet;case rel=>exact⟨by first|rfl|trivial,by first|rfl|trivial,M6.O,UR.O⟩
     ·have k2:(er !=0)=true:=by simpa using hz
      have Hn:=Qh (show N=([],er) by have:=bB.O;rw[if_pos hz]at this;exact this);clear hz;go_wp2;go_ret2;rw[Hn.O];exact⟨rfl,M6.O.mt.dE⟩
    ·have k1:(x.ai==1)=false:=by simpa using mo
     have hcc:=IC.O;unfold cZ at hcc;rw[if_neg mo]at hcc;injection hcc with h1 h2
     subst h1 h2;clear mo IC;go_wp2_with fail
     go_meet;case rel=>exact⟨by first|rfl|trivial,by first|rfl|trivial,M1.O,EB.O⟩
   case rest=>
    clear M1 EB y0 y1 y2 y3 y4 y5 y6 IC;obtain⟨rfl,nk,hM,hE⟩:=hcut;have M6:=Qh hM;have UR:=Qh hE;have iD:=Qh (show Ak (aK L) (t.drop (k+1)) (wy (aK L) t (k+1))=N by have:=bB.O;rw[if_neg (by omega)]at this;exact this);clear hM hE nk bB;have nH:(gJ [dD x,ct]).length≤68300:=by rw[←yo.O];exact hp3.1
    rw[yo.O]at Lu;clear hp3;have IE:=Qh (fun b w hv hw=>WV J (hI.mono Hk.O) b 0 2 2 [dD x,ct] rfl (Qn _) (by unfold maxLen;omega) w hv (by omega) hw);obtain⟨y0,y1,y2,y3,y4,y5,y6⟩:=UR.O;go_wp2_with fail
    refine(Bp.O _ M6.O.mt.ok).mono ?_;rintro e7 w7 ⟨rfl,jC⟩;have M7:=Qh (M6.O.aA jC);have HS:=Qh (WU w7 [dD x,ct] 9);clear M6 UR jC y0 y1 y2 y3 y4 y5 y6 Bp Ox yo;generalize dD x=hd at*;go_wp2_with fail
    refine(IE.O _ _ HS.O (M7.O.past _).mt.ok).mono ?_;rintro e8 w8 ⟨rfl,oN⟩;have M8:=Qh ((M7.O.past (.cells #[S hd,S ct] 9)).aA oN);clear M7 oN HS IE;generalize gJ [hd,ct]=pc at*;go_wp2_with fail
    refine(Xza _ (wy (aK L) t k) pc _ M8.O.bd (by first|omega|(simp;omega)) M8.O.lt).mono ?_;rintro e9 w9 ⟨rfl,y9,Ru,Rv⟩;have M9:=Qh (M8.O.put y9 Ru Rv);rw[←Lu.O]at M9;clear M8 y9 Ru Rv;go_wp2;go_roundw;case rel=>exact⟨k+1,by omega,by go_num,M9.O,iD.O⟩
    case measure=>simp[intOf];omega
  ·have Hn:=Qh (Xw5 (by omega) Hr.O);go_wp2_with fail
   refine(Tryz.Builder_String_any _ _ _ _ M.O.bd (Nat.le_of_lt M.O.lt)).mono ?_;rintro e1 w9 ⟨rfl,ig⟩;go_wp2;go_ret2;rw[Hn.O];exact⟨rfl,M.O.mt.dE.trans (ig.mono M.O.ge)⟩
end Go.Proofs.YtkipnpjagcfcpaaGreatDoor
namespace Go.Proofs
open Go.Shelf
open Go.RowKit in
theorem Tryz.Builder_String_any_k(B b:Nat)(l:List UInt8)(w:World)(h:Lib.IsBuilderF 71 5 B b (Lib.byteCells l) w)(wK:B≤w.heap.size):
 Calls Tryz.prog 28 #[.pointer (some ⟨b,0,none⟩)] w fun e w'=>e= .returned (.string ⟨l.toArray⟩)∧(Lib.IsBuilderF 71 5 B b (Lib.byteCells l) w'∧Below B w w'∧Lib.OthersKept 5 (some b) w w'):=Any.Builder_String_any_k Tryz.Bf Tryz.ma B b l w h wK
theorem Tryz.Builder_WriteString_k(B b:Nat)(bs:List Value)(s:ByteArray)(w:World)(h:Lib.IsBuilderF 71 5 B b bs w)(hlen:bs.length+s.size≤140737488355328)(wK:B≤w.heap.size):
 Calls Tryz.prog 23 #[.pointer (some ⟨b,0,none⟩),.string s] w fun e w'=>e= .returned (.tuple #[.int .i64 s.size,.nilIface])∧(Lib.BuilderAtF 71 5 B b (.pointer (some ⟨b,0,none⟩)) (bs++Lib.strCells s) w'∧RowKit.Below B w w'∧Lib.OthersKept 5 (some b) w w'):=Any.Builder_WriteString_k Tryz.Bg Tryz.mf B b bs s w h hlen wK
end Go.Proofs
namespace Go.Proofs.YtkipnpjagcfcpaaGreatDoor
open Go.RowKit
theorem Xjk{T e:TypeId}{B b:Nat}{bs:List Value}{w w':World}(h:Lib.IsBuilderF T e B b bs w)(hb:Below w.heap.size w w'):Lib.IsBuilderF T e B b bs w':=by
 have key:∀p,Lib.BuilderAtF T e B b p bs w→Lib.BuilderAtF T e B b p bs w':=fun p h=>by
  have hlt:=h.lt;obtain⟨hB,v,hv,bE,bZ⟩:=h;exact⟨hB,v,(hb.block b hlt).trans hv,bE.kept (row:=none) ⟨hb.os,hb.tape,hb.output,hb.size,fun k hk _=>hb.block k hk⟩ (Classical.em _),bZ⟩
 exact h.elim (fun x=> .inl (key _ x)) (fun x=> .inr (key _ x))
structure IG (b:Nat) (l:ae) (W:World):Prop where
 bd:Lib.IsBuilderF 71 5 b b (Lib.byteCells l) W
 lt:b<W.heap.size
theorem IG.aA{b:Nat}{l:ae}{W W':World}(h:IG b l W)(hb:Below W.heap.size W W'):IG b l W':=⟨Xjk h.bd hb,Nat.lt_of_lt_of_le h.lt hb.size⟩
structure Wk (b:Nat) (W W':World):Prop where
 dE:Below b W W'
 UT:Lib.OthersKept 5 (some b) W W'
section
variable {b g:Nat} {W W' W2:World} {cs:Array Value} {t:TypeId}
theorem Wk.trans(h:Wk b W W')(k:Wk b W' W2):Wk b W W2:=⟨h.dE.trans k.dE,h.UT.trans k.UT⟩
theorem Wk.of(hb:Below W.heap.size W W')(h:b≤W.heap.size):Wk b W W':=⟨hb.mono h,fun k _ hk _ _=>(hb.block k (Qg hk)).trans hk⟩
theorem Wk.row(h:Wk b W W')(hr:W.heap[g]?=some (.cells cs t (0,0)))(hg:g≠b)(ht:t≠5):W'.heap[g]?=some (.cells cs t (0,0)):=
 h.UT g _ hr (fun e=>hg (Option.some.inj e)) (fun _ _ e=>ht (by injection e))
theorem Wk.own{α:Type}{T:Ty α}{E:TypeId}{I:IH}{B:Nat}{v:Value}{l:List α}(h:Wk b W W')(ho:aP T E I W B v l)(hB:b<B)(hE:E≠5):aP T E I W' B v l:=by
 obtain⟨xs,⟨h1,Gp⟩,h2⟩:=ho;refine⟨xs,⟨h1,?_⟩,h2⟩;rcases Gp with h0|⟨g,cap,cur,a,hb,hg,r⟩
 ·exact .inl h0
 ·exact .inr ⟨g,cap,cur,a,hb,h.UT g _ hg (fun e=>by have:=Option.some.inj e;omega) (fun _ _ e=>hE (by injection e)),r⟩
end
theorem Oy(b:Nat)(l s:ae)(w:World)(h:IG b l w)(hl:l.length+s.length≤140737488355328):
 Calls Tryz.prog 23 #[.pointer (some ⟨b,0,none⟩),S s] w fun e w'=>e= .returned (.tuple #[.int .i64 (s.length:Int),.nilIface])∧IG b (l++s) w'∧Wk b w w':=by
 refine(Tryz.Builder_WriteString_k b b _ _ _ h.bd (by rw[ByteArray.size_mk',List.size_toArray];simp[Lib.byteCells];omega) (Nat.le_of_lt h.lt)).mono ?_;rintro e w2 ⟨rfl,tH,hb,ho⟩;refine⟨by rw[ByteArray.size_mk',List.size_toArray],⟨.inr ?_,tH.lt⟩,hb,ho⟩;have:=tH;rw[Lib.strCells_toArray,Lib.byteCells,Lib.byteCells,←List.map_append]at this;exact this
structure pR (W:World) (z:Nat) (P:World→Prop) (x:Unit) (s:Array Bool) (w:World):Prop where
 off:s.getD z false=false→Below W.heap.size W w
 on:s.getD z false=true→P w
section
variable {W w w':World} {z i:Nat} {P:World→Prop} {x:Unit} {s:Array Bool}
theorem pR.start(n:Nat)(x:Unit):pR W z P x (Array.replicate n false) {W with drawn:=W.drawn+1}:=⟨fun _=>(Below.refl _ _).drew,fun h=>(by rw[xR]at h;cases h)⟩
theorem pR.pure(h:pR W z P x s w)(hd:i≠z):pR W z P x (s.setIfInBounds i true) w:=by
 refine⟨?_,?_⟩
 ·rw[mW hd];exact h.off
 ·rw[mW hd];exact h.on
theorem pR.call(_:pR W z P x s w)(hd:i≠z)(hl:s.getD z false=false)(hb:Below W.heap.size W w'):pR W z P x (s.setIfInBounds i true) w':=by
 refine⟨fun _=>hb,fun q=> ?_⟩;rw[mW hd,hl]at q;cases q
theorem pR.last(hp:P w')(hlt:z<s.size):pR W z P x (s.setIfInBounds z true) w':=by
 refine⟨fun q=> ?_,fun _=>hp⟩;rw[KF hlt]at q;cases q
end
structure EQ (x:bR):Prop where
 n0:0≤x.num
 n1:x.num≤140737488355200
 d0:0≤x.aN
 d1:x.aN≤140737488355200
theorem Xj6{fs:List Rec}{es:List aG}{j:Nat}(hj:j<es.length){x:aG}(hx:es[j]=x):fu fs (es.drop j)=nE fs x++fu (kU fs x) (es.drop (j+1)):=by
 rw[List.drop_eq_getElem_cons hj,hx,fu]
theorem Xpb{F:List Rec}{L:List bR}{k:Nat}(hk:k<L.length){x:bR}(hx:L[k]=x):(L.drop k).flatMap (kP F)=kP F x++(L.drop (k+1)).flatMap (kP F):=by
 rw[List.drop_eq_getElem_cons hk,hx,List.flatMap_cons]
theorem Xtq{fs:List Rec}{x:aG}(h:x.ai≠1):nE fs x=aS (dD x)++([43]++aY 0)∧kU fs x=fs:=by
 rw[nE,kU,if_pos h,if_pos h];exact⟨rfl,rfl⟩
theorem Xp7{x:aG}(h:x.ai=1):nE [] x=aS (dD x)++[45]∧kU [] x=[]:=by
 rw[nE,kU,if_neg (by omega),if_neg (by omega)];exact⟨rfl,rfl⟩
theorem Xmx{fs:List Rec}{f:Rec}{x:aG}(h:x.ai=1)(he:f.err≠0):nE (f::fs) x=aS (dD x)++[45]∧kU (f::fs) x=fs:=by
 rw[nE,kU,if_neg (by omega),if_neg (by omega),yU,if_pos he];exact⟨rfl,rfl⟩
theorem Xmy{fs:List Rec}{f:Rec}{x:aG}(h:x.ai=1)(he:f.err=0):nE (f::fs) x=aS (dD x)++([43]++aY f.aU.length++f.aU)∧kU (f::fs) x=fs:=by
 rw[nE,kU,if_neg (by omega),if_neg (by omega),yU,if_neg (by omega)];exact⟨rfl,rfl⟩
theorem Xix{F:List Rec}{n:Int}{f:Rec}(h:f∈di F n):f∈F:=(List.mem_filter.1 h).1
def FV(v0:Value)(fs:List Rec)(m:Nat)(v:Value):Prop:=∃ao c,v= .slice ao (fs.drop m).length c∧ ∀J,bf nY J v0 fs→bf nY J v (fs.drop m)
theorem FV.start{v0:Value}{fs:List Rec}{ao:Option Addr}{c:Nat}(h:v0= .slice ao fs.length c):FV v0 fs 0 v0:=⟨ao,c,h,fun _ hr=>hr⟩
theorem FV.next{v0:Value}{fs:List Rec}{m g o c:Nat}{ax:Option Addr}(h:FV v0 fs m (.slice (some ⟨g,o,none⟩) (fs.drop m).length c))(hm:m<fs.length)(hc:(fs.drop m).length≤c)(BK:(if c=1 then some ⟨g,o,none⟩else some ⟨g,o+10,none⟩)=ax):FV v0 fs (m+1) (.slice ax ((fs.drop m).length-1) (c-1)):=by
 obtain⟨_,_,_,h2⟩:=h;have e:(fs.drop m).drop 1=fs.drop (m+1):=by rw[List.drop_drop]
 refine⟨_,_,by rw[←e,List.length_drop (i:=1)],fun J hJ=> ?_⟩;by_cases qW:c=1
 ·have hn:fs.drop (m+1)=[]:=List.drop_of_length_le (by rw[List.length_drop]at hc;omega);rw[hn];have hz:(fs.drop m).length-1=0:=by omega
  rw[hz];exact⟨_,_,rfl,Nat.zero_le _,by rw[qW];exact Nat.zero_le _,fun q=>absurd q (by simp)⟩
 ·rw[if_neg qW]at BK;subst BK;have:=(h2 J hJ).JK (n:=1) (by rw[List.length_drop];omega);rw[e]at this;exact this
