/- Lemmas for the claim's theorem;conditions: as each says. -/
import Derived.Test.YtdodihnehppnmaaGreatDoorG23
set_option maxHeartbeats 0
set_option maxRecDepth 100000
set_option linter.all false
namespace Go.Proofs.YtdodihnehppnmaaGreatDoor
open Go.RowKit
variable{d:Int}{k:Nat}{l:List Ho}{p:ae}{x:Ho}{s:kC}{e:ay}{n:Nat}{W:World}{u v:Value}
theorem Xnu:∀{l:List dm},l.any (fun x=>decide (d<x.aT))=false→lJ d l=l.length
 | [],_=>rfl
 |x::l,h=>by
  rw[List.any_cons,Bool.or_eq_false_iff]at h;rw[lJ,if_neg (of_decide_eq_false h.1),Xnu h.2];rfl
theorem Xnt:∀{l:List dm} {i:Nat} (hi:i<l.length),decide (d<l[i].aT)=true→(l.take i).any (fun x=>decide (d<x.aT))=false→lJ d l=i
 | [],_,hi,_,_=>absurd hi (by simp)
 |x::l,0,_,hp,_=>by
  have Ou:d<x.aT:=of_decide_eq_true hp;rw[lJ,if_pos Ou]
 |x::l,i+1,hi,hp,hn=>by
  rw[List.take_succ_cons,List.any_cons,Bool.or_eq_false_iff]at hn;rw[lJ,if_neg (of_decide_eq_false hn.1),Xnt (l:=l) (by simpa using hi) hp hn.2]
abbrev kS(vt vh:Value):Value:= .agg #[vt,vh]
theorem YL(I:IH)(vt vh:Value)(t:List ay)(hs:List Ho)(uB:bf bC I vt t)(zk:bf jq I vh hs)(p:ae)(w:World)(hw:Ok I w):
 Calls Tryz.prog 175 #[kS vt vh,S p] w fun r w'=>r= .returned (.bool (jf t p).2)∧Below w.heap.size w w':=by
 have Hg:=Qh (fun w hw=>TC I vt t uB p w hw);obtain⟨at',ct,rfl,_,_,_⟩:=id uB;obtain⟨ah,ch,rfl,_,_,_⟩:=id zk;obtain⟨⟨x,b⟩,hx⟩:∃q,jf t p=q:=⟨_,rfl⟩;rw[hx]at Hg ⊢;clear uB zk hx;go_enter Tryz.func175,Tryz.ntmps175
 go_wp2_with fail
 refine(Hg.O _ (hw.alloc _)).mono ?_;rintro e1 w1 ⟨va,vx,rfl,h1,h2,au⟩;obtain⟨oa,oc,rfl,_,_,_⟩:=id h1;obtain⟨ox,od,rfl,_,_,_⟩:=id h2;have av:=((Qb w.heap.size w).alloc (Qn _) (.cells #[.slice at' t.length ct,.slice ah hs.length ch] 103)).trans (au.mono (by simp));clear h1 h2 au;go_wp2;go_ret;exact⟨rfl,av.alloc av.size _⟩
theorem QP(I:IH)(e:ay)(va vx:Value)(dV:bf kT I va e.ai)(dX:bf mE I vx e.ak)(w:World):
 Calls Tryz.prog 174 #[eT e va vx] w fun r w'=>r= .returned (.bool (e.ag==1 || e.ag==2 || e.ag==3))∧Below w.heap.size w w':=by
 obtain⟨aa,ca,rfl,_,_,_⟩:=id dV;obtain⟨ax,cx,rfl,_,_,_⟩:=id dX;clear dV dX;obtain⟨b1,h1⟩:∃b,(e.ag==1)=b:=⟨_,rfl⟩;obtain⟨b2,h2⟩:∃b,(e.ag==2)=b:=⟨_,rfl⟩;obtain⟨b3,h3⟩:∃b,(e.ag==3)=b:=⟨_,rfl⟩;have Hn:=Qh (show(e.ag==1 || e.ag==2 || e.ag==3)=(b1 || b2 || b3) by rw[h1,h2,h3]);cases b1
 ·cases b2
  ·cases b3
   ·go_enter Tryz.func174,Tryz.ntmps174
    go_wp2;go_ret;exact⟨gZ Hn.O.symm,(Qb w.heap.size w).alloc (Qn _) _⟩
   ·go_enter Tryz.func174,Tryz.ntmps174
    go_wp2;go_ret;exact⟨gZ Hn.O.symm,(Qb w.heap.size w).alloc (Qn _) _⟩
  ·go_enter Tryz.func174,Tryz.ntmps174
   go_wp2;go_ret;exact⟨gZ Hn.O.symm,(Qb w.heap.size w).alloc (Qn _) _⟩
 ·go_enter Tryz.func174,Tryz.ntmps174
  go_wp2;go_ret;exact⟨gZ Hn.O.symm,(Qb w.heap.size w).alloc (Qn _) _⟩
def Bb(I:IH)(g:Nat)(cb:Array Value)(l:List dm)(p:dm→Bool)(C:World→Prop):Prop:=
 ∀x∈l,∀(ve:Value) (W:World),bf bC I ve x.aH→C W→Calls Tryz.prog g (#[uA x ve]++cb) W fun e w'=>e= .returned (.bool (p x))∧Below W.heap.size W w'
theorem Xhd(I:IH)(v:Value)(l:List dm)(hv:bf oK I v l)(g:Nat)(cb:Array Value)(p:dm→Bool)(w:World)(hw:Ok I w)(eg:∀args w,(callFunc g args).run Tryz.prog w= .ok (.enter g args) w)(hp:Bb I g cb l p (Below w.heap.size w)):
 Calls Tryz.prog 59 #[v,.func (.func g) #[] cb] w fun e w'=>e= .returned (.int .i64 (l9 l p))∧Below w.heap.size w w':=by
 have hlen:=hv.dh;obtain⟨ao,cap,rfl,dD,il,_⟩:=id hv;have Hv:=Qh hv;clear hv;have Hp:=Qh hp;clear hp;go_enter Tryz.func59,Tryz.ntmps59
 go_wp2_with fail
 go_loopw [8] (fun s8 wr=> ∃k:Nat,k≤l.length∧s8= .int .i64 k∧(l.take k).any p=false∧Below w.heap.size w wr) (fun i _=>l.length-(intOf i).toNat)
 case atStart=>exact⟨0,Nat.zero_le _,rfl,rfl,Qb _ _⟩
 case round=>
  obtain⟨k,hk,rfl,hr,hb⟩:=hrel;have Hr:=Qh hr;clear hr;by_cases hlt:k<l.length
  ·have dz:Ok I wr:=hw.below (Qn _) hb;obtain⟨x,ve,b,off,cap',bN,di,⟨c0,c1,c2,c3,c4,c5⟩,h1⟩:=Jc Hv.O dz k hlt;cases di;have sF:=Qh bN;have kJ:=Qh (Hp.O x (by rw[←bN];exact List.getElem_mem hlt) ve wr h1 hb);obtain⟨oe,ce,rfl,_,_,_⟩:=id h1;clear bN h1;go_wp2_with fail
   refine kJ.O.mono ?_;rintro e w1 ⟨rfl,au⟩;have av:=hb.trans (au.mono hb.size);clear au kJ c0 c1 c2 c3 c4 c5;cases hpx:p x
   ·have Hn:=Qh (show(l.take (k+1)).any p=false by rw[List.take_succ_eq_append_getElem hlt,List.any_append,Hr.O,sF.O];simp[hpx]);clear hpx;go_wp2;go_roundw;case rel=>exact⟨k+1,by omega,by go_num,Hn.O,av⟩
    case measure=>simp[intOf];omega
   ·have Hn:=Qh (S9 (p:=p) hlt (by rw[sF.O];exact hpx) Hr.O);clear hpx;go_wp2;go_ret;exact⟨bT Hn.O.symm,av⟩
  ·have Hn:=Qh (show l9 l p= -1 from SY (by have:=Hr.O;rwa[List.take_of_length_le (by omega)]at this));go_wp2;go_ret;exact⟨bT Hn.O.symm,hb⟩
theorem Xw1(I:IH)(d:Int)(b:Nat)(l:List dm)(w:World)(hc:w.cell? ⟨b,0,none⟩=some (.int .i64 d)):Bb I 60 #[.pointer (some ⟨b,0,none⟩)] l (fun x=>decide (d<x.aT)) (Below w.heap.size w):=by
 intro x _ ve W h1 hW;obtain⟨oe,ce,rfl,_,_,_⟩:=id h1;have JH:=gD (.cells #[.int .i64 x.num,.int .i64 x.aT,S x.bP,.slice oe x.aH.length ce,S x.aI,S x.sl] 35) (dQ hW hc);clear hc h1;show Calls Tryz.prog _ #[uA x (.slice oe x.aH.length ce),.pointer (some ⟨b,0,none⟩)] W _;go_enter Tryz.func60,Tryz.ntmps60
 go_wp2;go_ret;exact⟨rfl,(Qb _ _).alloc (Qn _) _⟩
theorem Uj(I:IH)(v:Value)(l:List dm)(hv:bf oK I v l)(d:Int)(w:World)(hw:Ok I w):
 Calls Tryz.prog 22 #[v,.int .i64 d] w fun r w'=>r= .returned (.int .i64 (lJ d l))∧Below w.heap.size w w':=by
 have Hi:=Qh (Xhd I v l hv _ _ _ _ (hw.alloc (.cells #[.int .i64 d] 3)) (fun _ _=>by kernel_rfl) (Xw1 I d w.heap.size l (w.alloc (.cells #[.int .i64 d] 3)) (by simp)));have hlen:=hv.dh;obtain⟨ao,cap,rfl,dD,il,_⟩:=id hv;clear hv;rcases IE l (fun x=>decide (d<x.aT))with⟨i,hi,e1,e2,e3⟩|⟨e1,e2⟩
 ·have Hn:=Qh (show((lJ d l:Nat):Int)=(i:Int) by rw[Xnt hi e2 e3]);rw[e1]at Hi;clear e1 e2 e3;go_enter Tryz.func22,Tryz.ntmps22
  go_wp2_with fail
  refine Hi.O.mono ?_;rintro e w1 ⟨rfl,au⟩;go_wp2;go_ret;exact⟨bT Hn.O.symm,((Qb _ _).alloc (Qn _) _).trans (au.mono (by simp))⟩
 ·have Hn:=Qh (show((lJ d l:Nat):Int)=(l.length:Int) by rw[Xnu e2]);rw[e1]at Hi;clear e1 e2;go_enter Tryz.func22,Tryz.ntmps22
  go_wp2_with fail
  refine Hi.O.mono ?_;rintro e w1 ⟨rfl,au⟩;go_wp2;go_ret;exact⟨bT Hn.O.symm,((Qb _ _).alloc (Qn _) _).trans (au.mono (by simp))⟩
abbrev xtV(x:Xt):Value:= .agg #[.int .i64 x.s,.int .i64 x.o,.int .i64 x.n]
def YM(g:Nat)(cb:Array Value)(l:List Xt)(p:Xt→Bool)(C:World→Prop):Prop:=
 ∀x∈l,∀W:World,C W→Calls Tryz.prog g (#[xtV x]++cb) W fun e w'=>e= .returned (.bool (p x))∧Below W.heap.size W w'
def XtB(x:Xt):Prop:=0≤x.s∧x.s≤255∧0≤x.o∧x.o≤2147483647∧1≤x.n∧x.n≤65536
theorem Xlr{l:List dm}{x:Xt}(h:x.s=0):pE l x=true:=by simp[pE,h]
theorem Xvm{l:List dm}{x:Xt}(h0:x.s≠0)(h:(l.length:Int)<x.s):pE l x=false:=by
 unfold pE;rw[Qf (show ¬x.s≤(l.length:Int) by omega)];simpa using h0
theorem Xyb{l:List dm}{x:Xt}(hk:k<l.length){y:dm}(hy:l[k]=y)(h:x.s=(k:Int)+1):pE l x=decide (x.o+x.n≤(y.aI.length:Int)):=by
 unfold pE;rw[Qt (show x.s≤(l.length:Int) by omega),show(x.s-1).toNat=k by omega,List.getElem?_eq_getElem hk,hy,show(x.s==0)=false by simp;omega];rfl
structure oN (T:TypeId) (n:Nat) (I:IH) (W:World) (s:kC) (vt vh:Value):Prop where
 row:W.heap[n]?=some (.cells #[vt,vh] T (0,0))
 aJ:bf bC I vt s.aJ
 holds:bf jq I vh s.holds
 ok:Ok I W
 free:I n=none
section
variable {T:TypeId} {n:Nat} {I I':IH} {W W':World} {s s':kC} {vt vh Aa FL:Value}
theorem oN.c0(h:oN T n I W s vt vh):W.cell? ⟨n,0,none⟩=some vt:=(cell_of_row W _ 0 _ _ _ h.row).trans rfl
theorem oN.c1(h:oN T n I W s vt vh):W.cell? ⟨n,1,none⟩=some vh:=(cell_of_row W _ 1 _ _ _ h.row).trans rfl
theorem oN.f0(h:oN T n I W s vt vh):W.frozen? ⟨n,0,none⟩=false:=frozen_of_row W _ 0 _ _ h.row
theorem oN.f1(h:oN T n I W s vt vh):W.frozen? ⟨n,1,none⟩=false:=frozen_of_row W _ 1 _ _ h.row
theorem oN.lt(h:oN T n I W s vt vh):n<W.heap.size:=(Qg h.row)
theorem oN.below(h:oN T n I W s vt vh)(hb:Below W.heap.size W W'):oN T n I W' s vt vh:=
 ⟨(hb.block _ h.lt).trans h.row,h.aJ,h.holds,h.ok.below (Qn _) hb,h.free⟩
theorem oN.past(h:oN T n I W s vt vh)(o:Obj):oN T n I (W.alloc o) s vt vh:=h.below ((Qb _ _).alloc (Qn _) o)
theorem oN.ext(h:oN T n I W s vt vh)(hb:Below W.heap.size W W')(hx:Ext W.heap.size I I')(gK:Ok I' W'):oN T n I' W' s vt vh:=
 ⟨(hb.block _ h.lt).trans h.row,h.aJ.mono (hx.keep h.ok (Qn _)),h.holds.mono (hx.keep h.ok (Qn _)),gK,(hx _ h.lt).trans h.free⟩
theorem oN.set(h:oN T n I W s vt vh)(h1:bf bC I Aa s'.aJ)(h2:bf jq I FL s'.holds):oN T n I ((W.setCell ⟨n,0,none⟩ Aa).setCell ⟨n,1,none⟩ FL) s' Aa FL:=
 ⟨heap_setCell_same _ n 1 _ _ FL (heap_setCell_same W n 0 _ _ Aa h.row),h1,h2,(h.ok.setCell h.free _).setCell h.free _,h.free⟩
theorem oN.new(hw:Ok I W)(_:T=T):oN T W.heap.size I (W.alloc (.cells #[.slice none 0 0,.slice none 0 0] T)) kZ (.slice none 0 0) (.slice none 0 0):=
 ⟨heap_alloc_new W _,bf.nil _ _,bf.nil _ _,hw.alloc _,hw.fresh (Qn _)⟩
end
theorem X0s{l0 l:List dm}{bP:ae}{aT:Int}(hk:k<l.length){x:dm}(hx:l[k]=x):iH l0 k s bP aT (l.drop k)=
 if(eO x).2≠0 then(eO x).2 else if x.num≠k+1∨x.aT<aT then 14 else if x.bP≠bP then 20
 else if(iO (l0.take (k+1)) x.aT s x.aH).2≠0 then(iO (l0.take (k+1)) x.aT s x.aH).2 else iH l0 (k+1) (iO (l0.take (k+1)) x.aT s x.aH).1 (eO x).1 x.aT (l.drop (k+1)):=by
 rw[List.drop_eq_getElem_cons hk,hx,iH]
theorem Xug{L:List dm}{es:List ay}{j:Nat}(hj:j<es.length){y:ay}(hy:es[j]=y):iO L d s (es.drop j)=
 if(dY s y d).2≠0 then((dY s y d).1,(dY s y d).2)else if lS L y=false then((dY s y d).1,2)else iO L d (dY s y d).1 (es.drop (j+1)):=by
 rw[List.drop_eq_getElem_cons hj,hy,iO]
def Ll(I:IH)(w:World)(s:kC)(n:Int)(e:Ending)(w':World):Prop:=
 ∃vt vh I',e= .returned (.tuple #[kS vt vh,.int .i64 n])∧Below w.heap.size w w'∧Ext w.heap.size I I'∧Ok I' w'∧bf bC I' vt s.aJ∧bf jq I' vh s.holds
theorem Xvx(h:(bL s.aJ e).2≠0):dY s e d=(s,(bL s.aJ e).2):=by rw[dY,if_pos h]
theorem Xm1(I:IH)(hI:dG I)(s:kC)(vt vh:Value)(uB:bf bC I vt s.aJ)(zk:bf jq I vh s.holds)(hs:pJ s.aJ)(IW:fC s.aJ)(hn:s.aJ.length≤100000)(e:ay)(va vx:Value)(dV:bf kT I va e.ai)(dX:bf mE I vx e.ak)(iZ:e.Wf)(mK:e.af.length≤4294967280)(o9:e.target.length≤4294967280)(d:Int)(h:(bL s.aJ e).2≠0)(w:World)(hw:Ok I w):
 Calls Tryz.prog 114 #[kS vt vh,eT e va vx,.int .i64 d] w (Ll I w (dY s e d).1 (dY s e d).2):=by
 have Ha:=Qh (fun w hw=>WZ I hI vt s.aJ uB hs IW hn e va vx dV dX iZ mK o9 w hw);rw[Xvx h];have Bc:=Qh uB;have Bd:=Qh zk;obtain⟨at',ct,rfl,_,_,_⟩:=id uB;obtain⟨ah,ch,rfl,_,_,_⟩:=id zk;obtain⟨aa,ca,rfl,_,_,_⟩:=id dV;obtain⟨ax,cx,rfl,_,_,_⟩:=id dX;obtain⟨t2,n,hx⟩:∃t2 n,bL s.aJ e=(t2,n):=⟨_,_,rfl⟩;rw[hx]at Ha h ⊢;have Ao:(n !=0)=true:=by simpa using h
 clear uB zk dV dX h hx;have aP:Ok I (((w.alloc (.cells #[.slice at' s.aJ.length ct,.slice ah s.holds.length ch] 103)).alloc (.cells #[.int .i64 e.ag,S e.af,.slice aa e.ai.length ca,S e.target,.int .i64 e.size,S e.aj,.slice ax e.ak.length cx] 26)).alloc (.cells #[.slice none 0 0,.slice none 0 0] 103)):=((hw.alloc _).alloc _).alloc _;go_enter Tryz.func114,Tryz.ntmps114
 go_wp2_with fail
 refine(Ha.O _ aP).mono ?_;rintro e1 w1 ⟨v2,I1,rfl,au,fP,aB,fQ⟩;obtain⟨a2,c2',rfl,_,_,_⟩:=id fQ;have s0:w1.cell? ⟨w.heap.size,0,none⟩=some (.slice at' s.aJ.length ct):=dQ au (gD _ (gD _ (by simp)));have s1:w1.cell? ⟨w.heap.size,1,none⟩=some (.slice ah s.holds.length ch):=dQ au (gD _ (gD _ (by simp)));have aZ:w1.heap[w.heap.size+1+1]?=some (.cells #[.slice none 0 0,.slice none 0 0] 103 (0,0)):=(au.block _ (by simp)).trans (by have:=heap_alloc_new ((w.alloc (.cells #[.slice at' s.aJ.length ct,.slice ah s.holds.length ch] 103)).alloc (.cells #[.int .i64 e.ag,S e.af,.slice aa e.ai.length ca,S e.target,.int .i64 e.size,S e.aj,.slice ax e.ak.length cx] 26)) (.cells #[.slice none 0 0,.slice none 0 0] 103);simpa using this);have r0:w1.cell? ⟨w.heap.size+1+1,0,none⟩=some (.slice none 0 0):=(cell_of_row w1 _ 0 _ _ _ aZ).trans rfl;have r1:w1.cell? ⟨w.heap.size+1+1,1,none⟩=some (.slice none 0 0):=(cell_of_row w1 _ 1 _ _ _ aZ).trans rfl;have f0:=frozen_of_row w1 _ 0 _ _ aZ;have f1:=frozen_of_row w1 _ 1 _ _ aZ;have av:Below w.heap.size w w1:=((((Qb w.heap.size w).alloc (Qn _) (.cells #[.slice at' s.aJ.length ct,.slice ah s.holds.length ch] 103)).alloc (by simp) (.cells #[.int .i64 e.ag,S e.af,.slice aa e.ai.length ca,S e.target,.int .i64 e.size,S e.aj,.slice ax e.ak.length cx] 26)).alloc (by simp;omega) (.cells #[.slice none 0 0,.slice none 0 0] 103)).trans (au.mono (by simp;omega));clear fQ au aP Ha;have yV:(Tryz.prog.info? 103).map (·.size)=some 2:=by kernel_rfl
 have qQ:=Qh yV;have mh:=Qh aZ;have YN:Ok I w1:=hw.below (Qn _) av;have eG:I (w.heap.size+1+1)=none:=hw.fresh (by omega);clear yV aZ;go_wp2;have hW:=heap_setCell_same _ (w.heap.size+1+1) 1 _ _ (.slice ah s.holds.length ch) (heap_setCell_same w1 (w.heap.size+1+1) 0 _ _ (.slice at' s.aJ.length ct) mh.O);refine bodyPost_ret (v:= .tuple #[kS (.slice at' s.aJ.length ct) (.slice ah s.holds.length ch),.int .i64 n]) ?_ rfl ?_
 ·rw[results_cell_tmp rfl];simp[asAddr,run_loadVar_row _ (w.heap.size+1+1) 103 103 #[.slice at' s.aJ.length ct,.slice ah s.holds.length ch] (0,0) _ hW Tryz.underlying103 rfl qQ.O]
 ·exact⟨_,_,I,rfl,(av.setCell (by simp;omega) _).setCell (by simp;omega) _,Ext.refl _ _,(YN.setCell eG _).setCell eG _,Bc.O,Bd.O⟩
structure Ca (n:Nat) (W:World) (vt vh:Value) (e:ay) (va vx:Value):Prop where
 s0:W.cell? ⟨n,0,none⟩=some vt
 s1:W.cell? ⟨n,1,none⟩=some vh
 eb:aW W (n+1) e va vx
 row:W.heap[n+1+1]?=some (.cells #[.slice none 0 0,.slice none 0 0] 103 (0,0))
theorem Ca.aA{W':World}{vt vh:Value}{va vx:Value}(h:Ca n W vt vh e va vx)(hb:Below W.heap.size W W'):Ca n W' vt vh e va vx:=
 ⟨dQ hb h.s0,dQ hb h.s1,h.eb.aA hb,(hb.block _ (Qg h.row)).trans h.row⟩
theorem Xir(t:List ay)(p:ae):(jf t p).2=(dC t p).isSome:=by
 unfold jf;cases dC t p<;>rfl
theorem Xwz(I:IH)(hI:dG I)(s:kC)(vt vh:Value)(uB:bf bC I vt s.aJ)(zk:bf jq I vh s.holds)(hs:pJ s.aJ)(IW:fC s.aJ)(hn:s.aJ.length≤100000)(hk:tQ s.holds)(Em:s.holds.length≤100000)(e:ay)(va vx:Value)(dV:bf kT I va e.ai)(dX:bf mE I vx e.ak)(iZ:e.Wf)(mK:e.af.length≤4294967280)(o9:e.target.length≤4294967280)(d:Int)(w:World)(hw:Ok I w):
 Calls Tryz.prog 114 #[kS vt vh,eT e va vx,.int .i64 d] w (Ll I w (dY s e d).1 (dY s e d).2):=by
 by_cases h:(bL s.aJ e).2=0;case neg=>exact Xm1 I hI s vt vh uB zk hs IW hn e va vx dV dX iZ mK o9 d h w hw
 have Ha:=Qh (fun w hw=>WZ I hI vt s.aJ uB hs IW hn e va vx dV dX iZ mK o9 w hw);have he:az e=0:=(jR.1 (Pb h)).1.mr;have nu:=CF he;have HG:=Qh hI;have Hk:=Qh hk;have Bc:=Qh uB;have Bd:=Qh zk;have za:=Qh dV;have uY:=Qh dX;have ik:=Qh (fun I hI v va vx hv dV dX w hw=>Xv5 I hI v s.holds hv hk Em e va vx dV dX he d w hw);obtain⟨at',ct,rfl,_,_,_⟩:=id uB;obtain⟨ah,ch,rfl,_,_,_⟩:=id zk;obtain⟨aa,ca,rfl,_,_,_⟩:=id dV;obtain⟨ax,cx,rfl,_,_,_⟩:=id dX;have yV:(Tryz.prog.info? 103).map (·.size)=some 2:=by kernel_rfl
 have qQ:=Qh yV;obtain⟨t2,ht2⟩:∃t2,(bL s.aJ e).1=t2:=⟨_,rfl⟩;have hx:bL s.aJ e=(t2,0):=by rw[←ht2,←h]
 obtain⟨h2,m,Mw⟩:∃h2 m,appH s.holds e d=(h2,m):=⟨_,_,rfl⟩;obtain⟨al,oW⟩:∃al,jT s.holds e.ag e.af d=al:=⟨_,rfl⟩;obtain⟨hb,xu⟩:∃hb,(jf s.aJ e.af).2=hb:=⟨_,rfl⟩;obtain⟨cr,hcr⟩:∃cr,(e.ag==1 || e.ag==2 || e.ag==3)=cr:=⟨_,rfl⟩;have Lm:(3<e.ag)↔cr=false:=by
  rw[←hcr];have e1:(e.ag==1)=decide (e.ag=1):=rfl;have e2:(e.ag==2)=decide (e.ag=2):=rfl;have e3:(e.ag==3)=decide (e.ag=3):=rfl;rw[e1,e2,e3];simp only[Bool.or_eq_false_iff,decide_eq_false_iff_not];omega
 have jD:mf s e d=if cr=false∨hb=true then al else 0:=by
  unfold mf;rw[oW,←Xir,xu];by_cases q:3<e.ag∨hb=true
  ·rw[if_pos q,if_pos (q.imp Lm.1 id)]
  ·rw[if_neg q,if_neg fun k=>q (k.imp Lm.2 id)]
 have fO:dY s e d=if mf s e d≠0 then(s,mf s e d)else if m≠0 then(s,m)else(⟨t2,h2⟩,0):=by
  rw[dY,if_neg (by omega),Mw,ht2]
 rw[hx]at Ha;rw[Mw]at ik;have Jm:=Qh hcr;have wS:=Qh xu;have vQ:=Qh oW;clear uB zk dV dX yV hx Mw hcr xu oW Lm hI hk h ht2 hs IW he nu hn iZ o9;cases cr;case false=>
  by_cases ha:al=0
  ·have nZ:=Qh (fun(hm:m=0)=>show dY s e d=(⟨t2,h2⟩,0) by rw[fO,(show mf s e d=al by rw[jD,if_pos (.inl rfl)]),if_neg (show ¬(al≠0) by omega),if_neg (show ¬(m≠0) by omega)]);have og:=Qh (fun(hm:¬m=0)=>show dY s e d=(s,m) by rw[fO,(show mf s e d=al by rw[jD,if_pos (.inl rfl)]),if_neg (show ¬(al≠0) by omega),if_pos hm]);subst ha;clear fO jD;go_enter Tryz.func114,Tryz.ntmps114
   go_wp2_with fail
   refine(Ha.O _ (((hw.alloc _).alloc _).alloc _)).mono ?_;rintro e1 w1 ⟨v2,I1,rfl,au,fP,aB,fQ⟩;have aZ:w1.heap[w.heap.size+1+1]?=some (.cells #[.slice none 0 0,.slice none 0 0] 103 (0,0)):=(au.block _ (by simp)).trans (by have:=heap_alloc_new ((w.alloc (.cells #[.slice at' s.aJ.length ct,.slice ah s.holds.length ch] 103)).alloc (.cells #[.int .i64 e.ag,S e.af,.slice aa e.ai.length ca,S e.target,.int .i64 e.size,S e.aj,.slice ax e.ak.length cx] 26)) (.cells #[.slice none 0 0,.slice none 0 0] 103);simpa using this);have o7:aW ((w.alloc (.cells #[.slice at' s.aJ.length ct,.slice ah s.holds.length ch] 103)).alloc (.cells #[.int .i64 e.ag,S e.af,.slice aa e.ai.length ca,S e.target,.int .i64 e.size,S e.aj,.slice ax e.ak.length cx] 26)) (w.heap.size+1) e (.slice aa e.ai.length ca) (.slice ax e.ak.length cx):=bS (by simp) (Qb _ _);have AW1:=Qh (Ca.mk (dQ au (gD _ (gD _ (by simp)))) (dQ au (gD _ (gD _ (by simp)))) ((o7.past _).aA au) aZ:Ca w.heap.size w1 (.slice at' s.aJ.length ct) (.slice ah s.holds.length ch) e (.slice aa e.ai.length ca) (.slice ax e.ak.length cx));have av:Below w.heap.size w w1:=((((Qb w.heap.size w).alloc (Qn _) (.cells #[.slice at' s.aJ.length ct,.slice ah s.holds.length ch] 103)).alloc (by simp) (.cells #[.int .i64 e.ag,S e.af,.slice aa e.ai.length ca,S e.target,.int .i64 e.size,S e.aj,.slice ax e.ak.length cx] 26)).alloc (by simp;omega) (.cells #[.slice none 0 0,.slice none 0 0] 103)).trans (au.mono (by simp;omega));have fU:Ext (w.heap.size+1+1+1) I I1:=fP.mono (by simp);have fE:=(fU.mono (show w.heap.size≤_ by omega)).keep hw (Qn _);have mJ:=Qh fU;have uN:=Qh fQ;have wQ:=Qh (HG.O.mono fE);have jE:=Qh (Bc.O.mono fE);have fM:=Qh (Bd.O.mono fE);have iI:=Qh (za.O.mono fE);have iJ:=Qh (uY.O.mono fE);obtain⟨a2,c2',rfl,_,_,_⟩:=id fQ;clear au aZ o7 fP fU fE fQ Ha;obtain⟨s0,s1,⟨c0,c1,c2,c3,c4,c5,c6⟩,_⟩:=AW1.O;go_wp2_with fail
   refine(QP I1 e _ _ iI.O iJ.O w1).mono ?_;rintro e2 w2 ⟨rfl,aD⟩;rw[Jm.O];have aP:Ok I1 w2:=aB.below (Qn _) aD;have AW2:=Qh (AW1.O.aA aD);have aK:=av.trans (aD.mono av.size);clear aD av AW1 aB s0 s1 c0 c1 c2 c3 c4 c5 c6;obtain⟨s0,s1,⟨c0,c1,c2,c3,c4,c5,c6⟩,_⟩:=AW2.O;go_wp2_with fail
   refine(Tk I1 wQ.O _ s.holds fM.O Hk.O Em e _ _ iI.O iJ.O mK d w2 aP).mono ?_;rintro e4 w4 ⟨rfl,aL⟩;rw[vQ.O];have bA:Ok I1 w4:=aP.below (Qn _) aL;have jF:=Qh (AW2.O.aA aL);have aO:=aK.trans (aL.mono aK.size);clear aL aK AW2 aP s0 s1 c0 c1 c2 c3 c4 c5 c6;obtain⟨s0,s1,⟨c0,c1,c2,c3,c4,c5,c6⟩,_⟩:=jF.O;by_cases hm:m=0
   ·have Hn:=Qh (nZ.O hm);subst hm;go_wp2_with fail
    refine(ik.O I1 wQ.O _ _ _ fM.O iI.O iJ.O w4 bA).mono ?_;rintro e5 w5 ⟨En,I2,rfl,aY,eZ,bX,gB⟩;obtain⟨a3,c3',rfl,_,_,_⟩:=id gB;have sD:=Qh gB;have gJ:=Qh (jF.O.aA aY);have mi:=Qh (mJ.O.trans eZ (by have:=(Qg jF.O.row);omega));have jG:=Qh (eZ.keep bA (Qn _));have bV:=aO.trans (aY.mono aO.size);clear aY aO jF bA s0 s1 c0 c1 c2 c3 c4 c5 c6 gB eZ;obtain⟨s0,s1,⟨c0,c1,c2,c3,c4,c5,c6⟩,_⟩:=gJ.O;have r0:w5.cell? ⟨w.heap.size+1+1,0,none⟩=some (.slice none 0 0):=(cell_of_row w5 _ 0 _ _ _ gJ.O.row).trans rfl;have r1:w5.cell? ⟨w.heap.size+1+1,1,none⟩=some (.slice none 0 0):=(cell_of_row w5 _ 1 _ _ _ gJ.O.row).trans rfl;have f0:=frozen_of_row w5 _ 0 _ _ gJ.O.row;have f1:=frozen_of_row w5 _ 1 _ _ gJ.O.row;go_wp2;have hW:=heap_setCell_same _ (w.heap.size+1+1) 1 _ _ (.slice a3 h2.length c3') (heap_setCell_same w5 (w.heap.size+1+1) 0 _ _ (.slice a2 t2.length c2') gJ.O.row);refine bodyPost_ret (v:= .tuple #[kS (.slice a2 t2.length c2') (.slice a3 h2.length c3'),.int .i64 0]) ?_ rfl ?_
    ·rw[results_cell_tmp rfl];simp[asAddr,run_loadVar_row _ (w.heap.size+1+1) 103 103 #[(.slice a2 t2.length c2'),(.slice a3 h2.length c3')] (0,0) _ hW Tryz.underlying103 rfl qQ.O]
    ·rw[Hn.O];have eG:I2 (w.heap.size+1+1)=none:=(mi.O _ (by omega)).trans (hw.fresh (by omega));exact⟨_,_,I2,rfl,(bV.setCell (by simp;omega) _).setCell (by simp;omega) _,Ext.mono mi.O (by omega),(Ok.setCell bX eG _).setCell eG _,(uN.O.mono jG.O),sD.O⟩
   ·have Hn:=Qh (og.O hm);have JJ:(m !=0)=true:=by simpa using hm
    clear hm;go_wp2_with fail
    refine(ik.O I1 wQ.O _ _ _ fM.O iI.O iJ.O w4 bA).mono ?_;rintro e5 w5 ⟨En,I2,rfl,aY,eZ,bX,gB⟩;obtain⟨a3,c3',rfl,_,_,_⟩:=id gB;have sD:=Qh gB;have gJ:=Qh (jF.O.aA aY);have mi:=Qh (mJ.O.trans eZ (by have:=(Qg jF.O.row);omega));have jG:=Qh (eZ.keep bA (Qn _));have bV:=aO.trans (aY.mono aO.size);clear aY aO jF bA s0 s1 c0 c1 c2 c3 c4 c5 c6 gB eZ;obtain⟨s0,s1,⟨c0,c1,c2,c3,c4,c5,c6⟩,_⟩:=gJ.O;have r0:w5.cell? ⟨w.heap.size+1+1,0,none⟩=some (.slice none 0 0):=(cell_of_row w5 _ 0 _ _ _ gJ.O.row).trans rfl;have r1:w5.cell? ⟨w.heap.size+1+1,1,none⟩=some (.slice none 0 0):=(cell_of_row w5 _ 1 _ _ _ gJ.O.row).trans rfl;have f0:=frozen_of_row w5 _ 0 _ _ gJ.O.row;have f1:=frozen_of_row w5 _ 1 _ _ gJ.O.row;go_wp2;have hW:=heap_setCell_same _ (w.heap.size+1+1) 1 _ _ (.slice ah s.holds.length ch) (heap_setCell_same w5 (w.heap.size+1+1) 0 _ _ (.slice at' s.aJ.length ct) gJ.O.row);refine bodyPost_ret (v:= .tuple #[kS (.slice at' s.aJ.length ct) (.slice ah s.holds.length ch),.int .i64 m]) ?_ rfl ?_
    ·rw[results_cell_tmp rfl];simp[asAddr,run_loadVar_row _ (w.heap.size+1+1) 103 103 #[(.slice at' s.aJ.length ct),(.slice ah s.holds.length ch)] (0,0) _ hW Tryz.underlying103 rfl qQ.O]
    ·rw[Hn.O];have eG:I2 (w.heap.size+1+1)=none:=(mi.O _ (by omega)).trans (hw.fresh (by omega));exact⟨_,_,I2,rfl,(bV.setCell (by simp;omega) _).setCell (by simp;omega) _,Ext.mono mi.O (by omega),(Ok.setCell bX eG _).setCell eG _,(jE.O.mono jG.O),(fM.O.mono jG.O)⟩
  ·have Hn:=Qh (show dY s e d=(s,al) by rw[fO,(show mf s e d=al by rw[jD,if_pos (.inl rfl)]),if_pos ha]);have ha0:(al !=0)=true:=by simpa using ha
   clear fO jD ha ik;go_enter Tryz.func114,Tryz.ntmps114
   go_wp2_with fail
   refine(Ha.O _ (((hw.alloc _).alloc _).alloc _)).mono ?_;rintro e1 w1 ⟨v2,I1,rfl,au,fP,aB,fQ⟩;have aZ:w1.heap[w.heap.size+1+1]?=some (.cells #[.slice none 0 0,.slice none 0 0] 103 (0,0)):=(au.block _ (by simp)).trans (by have:=heap_alloc_new ((w.alloc (.cells #[.slice at' s.aJ.length ct,.slice ah s.holds.length ch] 103)).alloc (.cells #[.int .i64 e.ag,S e.af,.slice aa e.ai.length ca,S e.target,.int .i64 e.size,S e.aj,.slice ax e.ak.length cx] 26)) (.cells #[.slice none 0 0,.slice none 0 0] 103);simpa using this);have o7:aW ((w.alloc (.cells #[.slice at' s.aJ.length ct,.slice ah s.holds.length ch] 103)).alloc (.cells #[.int .i64 e.ag,S e.af,.slice aa e.ai.length ca,S e.target,.int .i64 e.size,S e.aj,.slice ax e.ak.length cx] 26)) (w.heap.size+1) e (.slice aa e.ai.length ca) (.slice ax e.ak.length cx):=bS (by simp) (Qb _ _);have AW1:=Qh (Ca.mk (dQ au (gD _ (gD _ (by simp)))) (dQ au (gD _ (gD _ (by simp)))) ((o7.past _).aA au) aZ:Ca w.heap.size w1 (.slice at' s.aJ.length ct) (.slice ah s.holds.length ch) e (.slice aa e.ai.length ca) (.slice ax e.ak.length cx));have av:Below w.heap.size w w1:=((((Qb w.heap.size w).alloc (Qn _) (.cells #[.slice at' s.aJ.length ct,.slice ah s.holds.length ch] 103)).alloc (by simp) (.cells #[.int .i64 e.ag,S e.af,.slice aa e.ai.length ca,S e.target,.int .i64 e.size,S e.aj,.slice ax e.ak.length cx] 26)).alloc (by simp;omega) (.cells #[.slice none 0 0,.slice none 0 0] 103)).trans (au.mono (by simp;omega));have fU:Ext (w.heap.size+1+1+1) I I1:=fP.mono (by simp);have fE:=(fU.mono (show w.heap.size≤_ by omega)).keep hw (Qn _);have mJ:=Qh fU;have uN:=Qh fQ;have wQ:=Qh (HG.O.mono fE);have jE:=Qh (Bc.O.mono fE);have fM:=Qh (Bd.O.mono fE);have iI:=Qh (za.O.mono fE);have iJ:=Qh (uY.O.mono fE);obtain⟨a2,c2',rfl,_,_,_⟩:=id fQ;clear au aZ o7 fP fU fE fQ Ha;obtain⟨s0,s1,⟨c0,c1,c2,c3,c4,c5,c6⟩,_⟩:=AW1.O;go_wp2_with fail
   refine(QP I1 e _ _ iI.O iJ.O w1).mono ?_;rintro e2 w2 ⟨rfl,aD⟩;rw[Jm.O];have aP:Ok I1 w2:=aB.below (Qn _) aD;have AW2:=Qh (AW1.O.aA aD);have aK:=av.trans (aD.mono av.size);clear aD av AW1 aB s0 s1 c0 c1 c2 c3 c4 c5 c6;obtain⟨s0,s1,⟨c0,c1,c2,c3,c4,c5,c6⟩,_⟩:=AW2.O;go_wp2_with fail
   refine(Tk I1 wQ.O _ s.holds fM.O Hk.O Em e _ _ iI.O iJ.O mK d w2 aP).mono ?_;rintro e4 w4 ⟨rfl,aL⟩;rw[vQ.O];have bA:Ok I1 w4:=aP.below (Qn _) aL;have jF:=Qh (AW2.O.aA aL);have aO:=aK.trans (aL.mono aK.size);clear aL aK AW2 aP s0 s1 c0 c1 c2 c3 c4 c5 c6;obtain⟨s0,s1,⟨c0,c1,c2,c3,c4,c5,c6⟩,_⟩:=jF.O;have r0:w4.cell? ⟨w.heap.size+1+1,0,none⟩=some (.slice none 0 0):=(cell_of_row w4 _ 0 _ _ _ jF.O.row).trans rfl;have r1:w4.cell? ⟨w.heap.size+1+1,1,none⟩=some (.slice none 0 0):=(cell_of_row w4 _ 1 _ _ _ jF.O.row).trans rfl;have f0:=frozen_of_row w4 _ 0 _ _ jF.O.row;have f1:=frozen_of_row w4 _ 1 _ _ jF.O.row;go_wp2;have hW:=heap_setCell_same _ (w.heap.size+1+1) 1 _ _ (.slice ah s.holds.length ch) (heap_setCell_same w4 (w.heap.size+1+1) 0 _ _ (.slice at' s.aJ.length ct) jF.O.row);refine bodyPost_ret (v:= .tuple #[kS (.slice at' s.aJ.length ct) (.slice ah s.holds.length ch),.int .i64 al]) ?_ rfl ?_
   ·rw[results_cell_tmp rfl];simp[asAddr,run_loadVar_row _ (w.heap.size+1+1) 103 103 #[(.slice at' s.aJ.length ct),(.slice ah s.holds.length ch)] (0,0) _ hW Tryz.underlying103 rfl qQ.O]
   ·rw[Hn.O];have eG:I1 (w.heap.size+1+1)=none:=(mJ.O _ (by omega)).trans (hw.fresh (by omega));exact⟨_,_,I1,rfl,(aO.setCell (by simp;omega) _).setCell (by simp;omega) _,Ext.mono mJ.O (by omega),(Ok.setCell bA eG _).setCell eG _,jE.O,fM.O⟩
 case true=>
  cases hb;case false=>
   have nZ:=Qh (fun(hm:m=0)=>show dY s e d=(⟨t2,h2⟩,0) by rw[fO,(show mf s e d=0 by rw[jD,if_neg (by simp)]),if_neg (show ¬((0:Int)≠0) by decide),if_neg (show ¬(m≠0) by omega)]);have og:=Qh (fun(hm:¬m=0)=>show dY s e d=(s,m) by rw[fO,(show mf s e d=0 by rw[jD,if_neg (by simp)]),if_neg (show ¬((0:Int)≠0) by decide),if_pos hm]);clear fO jD;go_enter Tryz.func114,Tryz.ntmps114
   go_wp2_with fail
   refine(Ha.O _ (((hw.alloc _).alloc _).alloc _)).mono ?_;rintro e1 w1 ⟨v2,I1,rfl,au,fP,aB,fQ⟩;have aZ:w1.heap[w.heap.size+1+1]?=some (.cells #[.slice none 0 0,.slice none 0 0] 103 (0,0)):=(au.block _ (by simp)).trans (by have:=heap_alloc_new ((w.alloc (.cells #[.slice at' s.aJ.length ct,.slice ah s.holds.length ch] 103)).alloc (.cells #[.int .i64 e.ag,S e.af,.slice aa e.ai.length ca,S e.target,.int .i64 e.size,S e.aj,.slice ax e.ak.length cx] 26)) (.cells #[.slice none 0 0,.slice none 0 0] 103);simpa using this);have o7:aW ((w.alloc (.cells #[.slice at' s.aJ.length ct,.slice ah s.holds.length ch] 103)).alloc (.cells #[.int .i64 e.ag,S e.af,.slice aa e.ai.length ca,S e.target,.int .i64 e.size,S e.aj,.slice ax e.ak.length cx] 26)) (w.heap.size+1) e (.slice aa e.ai.length ca) (.slice ax e.ak.length cx):=bS (by simp) (Qb _ _);have AW1:=Qh (Ca.mk (dQ au (gD _ (gD _ (by simp)))) (dQ au (gD _ (gD _ (by simp)))) ((o7.past _).aA au) aZ:Ca w.heap.size w1 (.slice at' s.aJ.length ct) (.slice ah s.holds.length ch) e (.slice aa e.ai.length ca) (.slice ax e.ak.length cx));have av:Below w.heap.size w w1:=((((Qb w.heap.size w).alloc (Qn _) (.cells #[.slice at' s.aJ.length ct,.slice ah s.holds.length ch] 103)).alloc (by simp) (.cells #[.int .i64 e.ag,S e.af,.slice aa e.ai.length ca,S e.target,.int .i64 e.size,S e.aj,.slice ax e.ak.length cx] 26)).alloc (by simp;omega) (.cells #[.slice none 0 0,.slice none 0 0] 103)).trans (au.mono (by simp;omega));have fU:Ext (w.heap.size+1+1+1) I I1:=fP.mono (by simp);have fE:=(fU.mono (show w.heap.size≤_ by omega)).keep hw (Qn _);have mJ:=Qh fU;have uN:=Qh fQ;have wQ:=Qh (HG.O.mono fE);have jE:=Qh (Bc.O.mono fE);have fM:=Qh (Bd.O.mono fE);have iI:=Qh (za.O.mono fE);have iJ:=Qh (uY.O.mono fE);obtain⟨a2,c2',rfl,_,_,_⟩:=id fQ;clear au aZ o7 fP fU fE fQ Ha;obtain⟨s0,s1,⟨c0,c1,c2,c3,c4,c5,c6⟩,_⟩:=AW1.O;go_wp2_with fail
   refine(QP I1 e _ _ iI.O iJ.O w1).mono ?_;rintro e2 w2 ⟨rfl,aD⟩;rw[Jm.O];have aP:Ok I1 w2:=aB.below (Qn _) aD;have AW2:=Qh (AW1.O.aA aD);have aK:=av.trans (aD.mono av.size);clear aD av AW1 aB s0 s1 c0 c1 c2 c3 c4 c5 c6;obtain⟨s0,s1,⟨c0,c1,c2,c3,c4,c5,c6⟩,_⟩:=AW2.O;go_wp2_with fail
   refine(YL I1 _ _ s.aJ s.holds jE.O fM.O e.af w2 aP).mono ?_;rintro e3 w3 ⟨rfl,bU⟩;rw[wS.O];have bQ:Ok I1 w3:=aP.below (Qn _) bU;have AW3:=Qh (AW2.O.aA bU);have df:=aK.trans (bU.mono aK.size);clear bU aK AW2 aP s0 s1 c0 c1 c2 c3 c4 c5 c6;obtain⟨s0,s1,⟨c0,c1,c2,c3,c4,c5,c6⟩,_⟩:=AW3.O;by_cases hm:m=0
   ·have Hn:=Qh (nZ.O hm);subst hm;go_wp2_with fail
    refine(ik.O I1 wQ.O _ _ _ fM.O iI.O iJ.O w3 bQ).mono ?_;rintro e5 w5 ⟨En,I2,rfl,aY,eZ,bX,gB⟩;obtain⟨a3,c3',rfl,_,_,_⟩:=id gB;have sD:=Qh gB;have gJ:=Qh (AW3.O.aA aY);have mi:=Qh (mJ.O.trans eZ (by have:=(Qg AW3.O.row);omega));have jG:=Qh (eZ.keep bQ (Qn _));have bV:=df.trans (aY.mono df.size);clear aY df AW3 bQ s0 s1 c0 c1 c2 c3 c4 c5 c6 gB eZ;obtain⟨s0,s1,⟨c0,c1,c2,c3,c4,c5,c6⟩,_⟩:=gJ.O;have r0:w5.cell? ⟨w.heap.size+1+1,0,none⟩=some (.slice none 0 0):=(cell_of_row w5 _ 0 _ _ _ gJ.O.row).trans rfl;have r1:w5.cell? ⟨w.heap.size+1+1,1,none⟩=some (.slice none 0 0):=(cell_of_row w5 _ 1 _ _ _ gJ.O.row).trans rfl;have f0:=frozen_of_row w5 _ 0 _ _ gJ.O.row;have f1:=frozen_of_row w5 _ 1 _ _ gJ.O.row;go_wp2;have hW:=heap_setCell_same _ (w.heap.size+1+1) 1 _ _ (.slice a3 h2.length c3') (heap_setCell_same w5 (w.heap.size+1+1) 0 _ _ (.slice a2 t2.length c2') gJ.O.row);refine bodyPost_ret (v:= .tuple #[kS (.slice a2 t2.length c2') (.slice a3 h2.length c3'),.int .i64 0]) ?_ rfl ?_
    ·rw[results_cell_tmp rfl];simp[asAddr,run_loadVar_row _ (w.heap.size+1+1) 103 103 #[(.slice a2 t2.length c2'),(.slice a3 h2.length c3')] (0,0) _ hW Tryz.underlying103 rfl qQ.O]
    ·rw[Hn.O];have eG:I2 (w.heap.size+1+1)=none:=(mi.O _ (by omega)).trans (hw.fresh (by omega));exact⟨_,_,I2,rfl,(bV.setCell (by simp;omega) _).setCell (by simp;omega) _,Ext.mono mi.O (by omega),(Ok.setCell bX eG _).setCell eG _,(uN.O.mono jG.O),sD.O⟩
   ·have Hn:=Qh (og.O hm);have JJ:(m !=0)=true:=by simpa using hm
    clear hm;go_wp2_with fail
    refine(ik.O I1 wQ.O _ _ _ fM.O iI.O iJ.O w3 bQ).mono ?_;rintro e5 w5 ⟨En,I2,rfl,aY,eZ,bX,gB⟩;obtain⟨a3,c3',rfl,_,_,_⟩:=id gB;have sD:=Qh gB;have gJ:=Qh (AW3.O.aA aY);have mi:=Qh (mJ.O.trans eZ (by have:=(Qg AW3.O.row);omega));have jG:=Qh (eZ.keep bQ (Qn _));have bV:=df.trans (aY.mono df.size);clear aY df AW3 bQ s0 s1 c0 c1 c2 c3 c4 c5 c6 gB eZ;obtain⟨s0,s1,⟨c0,c1,c2,c3,c4,c5,c6⟩,_⟩:=gJ.O;have r0:w5.cell? ⟨w.heap.size+1+1,0,none⟩=some (.slice none 0 0):=(cell_of_row w5 _ 0 _ _ _ gJ.O.row).trans rfl;have r1:w5.cell? ⟨w.heap.size+1+1,1,none⟩=some (.slice none 0 0):=(cell_of_row w5 _ 1 _ _ _ gJ.O.row).trans rfl;have f0:=frozen_of_row w5 _ 0 _ _ gJ.O.row;have f1:=frozen_of_row w5 _ 1 _ _ gJ.O.row;go_wp2;have hW:=heap_setCell_same _ (w.heap.size+1+1) 1 _ _ (.slice ah s.holds.length ch) (heap_setCell_same w5 (w.heap.size+1+1) 0 _ _ (.slice at' s.aJ.length ct) gJ.O.row);refine bodyPost_ret (v:= .tuple #[kS (.slice at' s.aJ.length ct) (.slice ah s.holds.length ch),.int .i64 m]) ?_ rfl ?_
    ·rw[results_cell_tmp rfl];simp[asAddr,run_loadVar_row _ (w.heap.size+1+1) 103 103 #[(.slice at' s.aJ.length ct),(.slice ah s.holds.length ch)] (0,0) _ hW Tryz.underlying103 rfl qQ.O]
    ·rw[Hn.O];have eG:I2 (w.heap.size+1+1)=none:=(mi.O _ (by omega)).trans (hw.fresh (by omega));exact⟨_,_,I2,rfl,(bV.setCell (by simp;omega) _).setCell (by simp;omega) _,Ext.mono mi.O (by omega),(Ok.setCell bX eG _).setCell eG _,(jE.O.mono jG.O),(fM.O.mono jG.O)⟩
  case true=>
   by_cases ha:al=0
   ·have nZ:=Qh (fun(hm:m=0)=>show dY s e d=(⟨t2,h2⟩,0) by rw[fO,(show mf s e d=al by rw[jD,if_pos (.inr rfl)]),if_neg (show ¬(al≠0) by omega),if_neg (show ¬(m≠0) by omega)]);have og:=Qh (fun(hm:¬m=0)=>show dY s e d=(s,m) by rw[fO,(show mf s e d=al by rw[jD,if_pos (.inr rfl)]),if_neg (show ¬(al≠0) by omega),if_pos hm]);subst ha;clear fO jD;go_enter Tryz.func114,Tryz.ntmps114
    go_wp2_with fail
    refine(Ha.O _ (((hw.alloc _).alloc _).alloc _)).mono ?_;rintro e1 w1 ⟨v2,I1,rfl,au,fP,aB,fQ⟩;have aZ:w1.heap[w.heap.size+1+1]?=some (.cells #[.slice none 0 0,.slice none 0 0] 103 (0,0)):=(au.block _ (by simp)).trans (by have:=heap_alloc_new ((w.alloc (.cells #[.slice at' s.aJ.length ct,.slice ah s.holds.length ch] 103)).alloc (.cells #[.int .i64 e.ag,S e.af,.slice aa e.ai.length ca,S e.target,.int .i64 e.size,S e.aj,.slice ax e.ak.length cx] 26)) (.cells #[.slice none 0 0,.slice none 0 0] 103);simpa using this);have o7:aW ((w.alloc (.cells #[.slice at' s.aJ.length ct,.slice ah s.holds.length ch] 103)).alloc (.cells #[.int .i64 e.ag,S e.af,.slice aa e.ai.length ca,S e.target,.int .i64 e.size,S e.aj,.slice ax e.ak.length cx] 26)) (w.heap.size+1) e (.slice aa e.ai.length ca) (.slice ax e.ak.length cx):=bS (by simp) (Qb _ _);have AW1:=Qh (Ca.mk (dQ au (gD _ (gD _ (by simp)))) (dQ au (gD _ (gD _ (by simp)))) ((o7.past _).aA au) aZ:Ca w.heap.size w1 (.slice at' s.aJ.length ct) (.slice ah s.holds.length ch) e (.slice aa e.ai.length ca) (.slice ax e.ak.length cx));have av:Below w.heap.size w w1:=((((Qb w.heap.size w).alloc (Qn _) (.cells #[.slice at' s.aJ.length ct,.slice ah s.holds.length ch] 103)).alloc (by simp) (.cells #[.int .i64 e.ag,S e.af,.slice aa e.ai.length ca,S e.target,.int .i64 e.size,S e.aj,.slice ax e.ak.length cx] 26)).alloc (by simp;omega) (.cells #[.slice none 0 0,.slice none 0 0] 103)).trans (au.mono (by simp;omega));have fU:Ext (w.heap.size+1+1+1) I I1:=fP.mono (by simp);have fE:=(fU.mono (show w.heap.size≤_ by omega)).keep hw (Qn _);have mJ:=Qh fU;have uN:=Qh fQ;have wQ:=Qh (HG.O.mono fE);have jE:=Qh (Bc.O.mono fE);have fM:=Qh (Bd.O.mono fE);have iI:=Qh (za.O.mono fE);have iJ:=Qh (uY.O.mono fE);obtain⟨a2,c2',rfl,_,_,_⟩:=id fQ;clear au aZ o7 fP fU fE fQ Ha;obtain⟨s0,s1,⟨c0,c1,c2,c3,c4,c5,c6⟩,_⟩:=AW1.O;go_wp2_with fail
    refine(QP I1 e _ _ iI.O iJ.O w1).mono ?_;rintro e2 w2 ⟨rfl,aD⟩;rw[Jm.O];have aP:Ok I1 w2:=aB.below (Qn _) aD;have AW2:=Qh (AW1.O.aA aD);have aK:=av.trans (aD.mono av.size);clear aD av AW1 aB s0 s1 c0 c1 c2 c3 c4 c5 c6;obtain⟨s0,s1,⟨c0,c1,c2,c3,c4,c5,c6⟩,_⟩:=AW2.O;go_wp2_with fail
    refine(YL I1 _ _ s.aJ s.holds jE.O fM.O e.af w2 aP).mono ?_;rintro e3 w3 ⟨rfl,bU⟩;rw[wS.O];have bQ:Ok I1 w3:=aP.below (Qn _) bU;have AW3:=Qh (AW2.O.aA bU);have df:=aK.trans (bU.mono aK.size);clear bU aK AW2 aP s0 s1 c0 c1 c2 c3 c4 c5 c6;obtain⟨s0,s1,⟨c0,c1,c2,c3,c4,c5,c6⟩,_⟩:=AW3.O;go_wp2_with fail
    refine(Tk I1 wQ.O _ s.holds fM.O Hk.O Em e _ _ iI.O iJ.O mK d w3 bQ).mono ?_;rintro e4 w4 ⟨rfl,aL⟩;rw[vQ.O];have bA:Ok I1 w4:=bQ.below (Qn _) aL;have jF:=Qh (AW3.O.aA aL);have aO:=df.trans (aL.mono df.size);clear aL df AW3 bQ s0 s1 c0 c1 c2 c3 c4 c5 c6;obtain⟨s0,s1,⟨c0,c1,c2,c3,c4,c5,c6⟩,_⟩:=jF.O;by_cases hm:m=0
    ·have Hn:=Qh (nZ.O hm);subst hm;go_wp2_with fail
     refine(ik.O I1 wQ.O _ _ _ fM.O iI.O iJ.O w4 bA).mono ?_;rintro e5 w5 ⟨En,I2,rfl,aY,eZ,bX,gB⟩;obtain⟨a3,c3',rfl,_,_,_⟩:=id gB;have sD:=Qh gB;have gJ:=Qh (jF.O.aA aY);have mi:=Qh (mJ.O.trans eZ (by have:=(Qg jF.O.row);omega));have jG:=Qh (eZ.keep bA (Qn _));have bV:=aO.trans (aY.mono aO.size);clear aY aO jF bA s0 s1 c0 c1 c2 c3 c4 c5 c6 gB eZ;obtain⟨s0,s1,⟨c0,c1,c2,c3,c4,c5,c6⟩,_⟩:=gJ.O;have r0:w5.cell? ⟨w.heap.size+1+1,0,none⟩=some (.slice none 0 0):=(cell_of_row w5 _ 0 _ _ _ gJ.O.row).trans rfl;have r1:w5.cell? ⟨w.heap.size+1+1,1,none⟩=some (.slice none 0 0):=(cell_of_row w5 _ 1 _ _ _ gJ.O.row).trans rfl;have f0:=frozen_of_row w5 _ 0 _ _ gJ.O.row;have f1:=frozen_of_row w5 _ 1 _ _ gJ.O.row;go_wp2;have hW:=heap_setCell_same _ (w.heap.size+1+1) 1 _ _ (.slice a3 h2.length c3') (heap_setCell_same w5 (w.heap.size+1+1) 0 _ _ (.slice a2 t2.length c2') gJ.O.row);refine bodyPost_ret (v:= .tuple #[kS (.slice a2 t2.length c2') (.slice a3 h2.length c3'),.int .i64 0]) ?_ rfl ?_
     ·rw[results_cell_tmp rfl];simp[asAddr,run_loadVar_row _ (w.heap.size+1+1) 103 103 #[(.slice a2 t2.length c2'),(.slice a3 h2.length c3')] (0,0) _ hW Tryz.underlying103 rfl qQ.O]
     ·rw[Hn.O];have eG:I2 (w.heap.size+1+1)=none:=(mi.O _ (by omega)).trans (hw.fresh (by omega));exact⟨_,_,I2,rfl,(bV.setCell (by simp;omega) _).setCell (by simp;omega) _,Ext.mono mi.O (by omega),(Ok.setCell bX eG _).setCell eG _,(uN.O.mono jG.O),sD.O⟩
    ·have Hn:=Qh (og.O hm);have JJ:(m !=0)=true:=by simpa using hm
     clear hm;go_wp2_with fail
     refine(ik.O I1 wQ.O _ _ _ fM.O iI.O iJ.O w4 bA).mono ?_;rintro e5 w5 ⟨En,I2,rfl,aY,eZ,bX,gB⟩;obtain⟨a3,c3',rfl,_,_,_⟩:=id gB;have sD:=Qh gB;have gJ:=Qh (jF.O.aA aY);have mi:=Qh (mJ.O.trans eZ (by have:=(Qg jF.O.row);omega));have jG:=Qh (eZ.keep bA (Qn _));have bV:=aO.trans (aY.mono aO.size);clear aY aO jF bA s0 s1 c0 c1 c2 c3 c4 c5 c6 gB eZ;obtain⟨s0,s1,⟨c0,c1,c2,c3,c4,c5,c6⟩,_⟩:=gJ.O;have r0:w5.cell? ⟨w.heap.size+1+1,0,none⟩=some (.slice none 0 0):=(cell_of_row w5 _ 0 _ _ _ gJ.O.row).trans rfl;have r1:w5.cell? ⟨w.heap.size+1+1,1,none⟩=some (.slice none 0 0):=(cell_of_row w5 _ 1 _ _ _ gJ.O.row).trans rfl;have f0:=frozen_of_row w5 _ 0 _ _ gJ.O.row;have f1:=frozen_of_row w5 _ 1 _ _ gJ.O.row;go_wp2;have hW:=heap_setCell_same _ (w.heap.size+1+1) 1 _ _ (.slice ah s.holds.length ch) (heap_setCell_same w5 (w.heap.size+1+1) 0 _ _ (.slice at' s.aJ.length ct) gJ.O.row);refine bodyPost_ret (v:= .tuple #[kS (.slice at' s.aJ.length ct) (.slice ah s.holds.length ch),.int .i64 m]) ?_ rfl ?_
     ·rw[results_cell_tmp rfl];simp[asAddr,run_loadVar_row _ (w.heap.size+1+1) 103 103 #[(.slice at' s.aJ.length ct),(.slice ah s.holds.length ch)] (0,0) _ hW Tryz.underlying103 rfl qQ.O]
     ·rw[Hn.O];have eG:I2 (w.heap.size+1+1)=none:=(mi.O _ (by omega)).trans (hw.fresh (by omega));exact⟨_,_,I2,rfl,(bV.setCell (by simp;omega) _).setCell (by simp;omega) _,Ext.mono mi.O (by omega),(Ok.setCell bX eG _).setCell eG _,(jE.O.mono jG.O),(fM.O.mono jG.O)⟩
   ·have Hn:=Qh (show dY s e d=(s,al) by rw[fO,(show mf s e d=al by rw[jD,if_pos (.inr rfl)]),if_pos ha]);have ha0:(al !=0)=true:=by simpa using ha
    clear fO jD ha ik;go_enter Tryz.func114,Tryz.ntmps114
    go_wp2_with fail
    refine(Ha.O _ (((hw.alloc _).alloc _).alloc _)).mono ?_;rintro e1 w1 ⟨v2,I1,rfl,au,fP,aB,fQ⟩;have aZ:w1.heap[w.heap.size+1+1]?=some (.cells #[.slice none 0 0,.slice none 0 0] 103 (0,0)):=(au.block _ (by simp)).trans (by have:=heap_alloc_new ((w.alloc (.cells #[.slice at' s.aJ.length ct,.slice ah s.holds.length ch] 103)).alloc (.cells #[.int .i64 e.ag,S e.af,.slice aa e.ai.length ca,S e.target,.int .i64 e.size,S e.aj,.slice ax e.ak.length cx] 26)) (.cells #[.slice none 0 0,.slice none 0 0] 103);simpa using this);have o7:aW ((w.alloc (.cells #[.slice at' s.aJ.length ct,.slice ah s.holds.length ch] 103)).alloc (.cells #[.int .i64 e.ag,S e.af,.slice aa e.ai.length ca,S e.target,.int .i64 e.size,S e.aj,.slice ax e.ak.length cx] 26)) (w.heap.size+1) e (.slice aa e.ai.length ca) (.slice ax e.ak.length cx):=bS (by simp) (Qb _ _);have AW1:=Qh (Ca.mk (dQ au (gD _ (gD _ (by simp)))) (dQ au (gD _ (gD _ (by simp)))) ((o7.past _).aA au) aZ:Ca w.heap.size w1 (.slice at' s.aJ.length ct) (.slice ah s.holds.length ch) e (.slice aa e.ai.length ca) (.slice ax e.ak.length cx));have av:Below w.heap.size w w1:=((((Qb w.heap.size w).alloc (Qn _) (.cells #[.slice at' s.aJ.length ct,.slice ah s.holds.length ch] 103)).alloc (by simp) (.cells #[.int .i64 e.ag,S e.af,.slice aa e.ai.length ca,S e.target,.int .i64 e.size,S e.aj,.slice ax e.ak.length cx] 26)).alloc (by simp;omega) (.cells #[.slice none 0 0,.slice none 0 0] 103)).trans (au.mono (by simp;omega));have fU:Ext (w.heap.size+1+1+1) I I1:=fP.mono (by simp);have fE:=(fU.mono (show w.heap.size≤_ by omega)).keep hw (Qn _);have mJ:=Qh fU;have uN:=Qh fQ;have wQ:=Qh (HG.O.mono fE);have jE:=Qh (Bc.O.mono fE);have fM:=Qh (Bd.O.mono fE);have iI:=Qh (za.O.mono fE);have iJ:=Qh (uY.O.mono fE);obtain⟨a2,c2',rfl,_,_,_⟩:=id fQ;clear au aZ o7 fP fU fE fQ Ha;obtain⟨s0,s1,⟨c0,c1,c2,c3,c4,c5,c6⟩,_⟩:=AW1.O;go_wp2_with fail
    refine(QP I1 e _ _ iI.O iJ.O w1).mono ?_;rintro e2 w2 ⟨rfl,aD⟩;rw[Jm.O];have aP:Ok I1 w2:=aB.below (Qn _) aD;have AW2:=Qh (AW1.O.aA aD);have aK:=av.trans (aD.mono av.size);clear aD av AW1 aB s0 s1 c0 c1 c2 c3 c4 c5 c6;obtain⟨s0,s1,⟨c0,c1,c2,c3,c4,c5,c6⟩,_⟩:=AW2.O;go_wp2_with fail
    refine(YL I1 _ _ s.aJ s.holds jE.O fM.O e.af w2 aP).mono ?_;rintro e3 w3 ⟨rfl,bU⟩;rw[wS.O];have bQ:Ok I1 w3:=aP.below (Qn _) bU;have AW3:=Qh (AW2.O.aA bU);have df:=aK.trans (bU.mono aK.size);clear bU aK AW2 aP s0 s1 c0 c1 c2 c3 c4 c5 c6;obtain⟨s0,s1,⟨c0,c1,c2,c3,c4,c5,c6⟩,_⟩:=AW3.O;go_wp2_with fail
    refine(Tk I1 wQ.O _ s.holds fM.O Hk.O Em e _ _ iI.O iJ.O mK d w3 bQ).mono ?_;rintro e4 w4 ⟨rfl,aL⟩;rw[vQ.O];have bA:Ok I1 w4:=bQ.below (Qn _) aL;have jF:=Qh (AW3.O.aA aL);have aO:=df.trans (aL.mono df.size);clear aL df AW3 bQ s0 s1 c0 c1 c2 c3 c4 c5 c6;obtain⟨s0,s1,⟨c0,c1,c2,c3,c4,c5,c6⟩,_⟩:=jF.O;have r0:w4.cell? ⟨w.heap.size+1+1,0,none⟩=some (.slice none 0 0):=(cell_of_row w4 _ 0 _ _ _ jF.O.row).trans rfl;have r1:w4.cell? ⟨w.heap.size+1+1,1,none⟩=some (.slice none 0 0):=(cell_of_row w4 _ 1 _ _ _ jF.O.row).trans rfl;have f0:=frozen_of_row w4 _ 0 _ _ jF.O.row;have f1:=frozen_of_row w4 _ 1 _ _ jF.O.row;go_wp2;have hW:=heap_setCell_same _ (w.heap.size+1+1) 1 _ _ (.slice ah s.holds.length ch) (heap_setCell_same w4 (w.heap.size+1+1) 0 _ _ (.slice at' s.aJ.length ct) jF.O.row);refine bodyPost_ret (v:= .tuple #[kS (.slice at' s.aJ.length ct) (.slice ah s.holds.length ch),.int .i64 al]) ?_ rfl ?_
    ·rw[results_cell_tmp rfl];simp[asAddr,run_loadVar_row _ (w.heap.size+1+1) 103 103 #[(.slice at' s.aJ.length ct),(.slice ah s.holds.length ch)] (0,0) _ hW Tryz.underlying103 rfl qQ.O]
    ·rw[Hn.O];have eG:I1 (w.heap.size+1+1)=none:=(mJ.O _ (by omega)).trans (hw.fresh (by omega));exact⟨_,_,I1,rfl,(aO.setCell (by simp;omega) _).setCell (by simp;omega) _,Ext.mono mJ.O (by omega),(Ok.setCell bA eG _).setCell eG _,jE.O,fM.O⟩
theorem NR{x:Value}{a:Addr}(h:W.cell? a=some x)(cK:a.block≠n):((W.setCell ⟨n,0,none⟩ u).setCell ⟨n,1,none⟩ v).cell? a=some x:=by
 rw[World.cell?_of_block (Below.heap_setCell _ _ _ _ cK),World.cell?_of_block (Below.heap_setCell _ _ _ _ cK)];exact h
theorem mY.set2{b:Nat}{s:dm}{ve:Value}(h:mY W b s ve)(cK:b≠n):mY ((W.setCell ⟨n,0,none⟩ u).setCell ⟨n,1,none⟩ v) b s ve:=
 ⟨NR h.c0 cK,NR h.c1 cK,NR h.c2 cK,NR h.c3 cK,NR h.c4 cK,NR h.c5 cK⟩
theorem Xx2(h:(dY s e d).2=0):∀x∈e.ak,XtB x:=(CS (step_ok h).2.2).TF
theorem NS{I:IH}(W:World)(n:Nat)(hn:n=W.heap.size):aM jq 227 I (W.alloc (.cells #[] 227)) n (.slice (some ⟨n,0,none⟩) 0 0) []:=by
 subst hn;exact⟨[],World.ownsRow_made W #[] 0 (Qn _) (Nat.zero_le _) (by simp),bR.nil _ _⟩
theorem Xro(hk:k<l.length)(hx:l[k]=x):fK (l.take (k+1)) p d=(fK (l.take k) p d || (decide (d≤x.u)&&under p x.p)):=by
 rw[List.take_succ_eq_append_getElem hk,hx];simp[fK,fu]
theorem Xpf(hk:k<l.length)(hx:l[k]=x):jS (l.take (k+1)) p d=(jS (l.take k) p d || (decide (d≤x.u)&&under x.p p)):=by
 rw[List.take_succ_eq_append_getElem hk,hx];simp[jS,fu]
theorem Xtv(hk:k<l.length)(hx:l[k]=x)(h1:decide (d≤x.u)=true)(h2:under p x.p=true):fK l p d=true:=by
 unfold fK;rw[List.any_eq_true];exact⟨x,List.mem_filter.2 ⟨by rw[←hx];exact List.getElem_mem hk,h1⟩,h2⟩
theorem Xr2(hk:k<l.length)(hx:l[k]=x)(h1:decide (d≤x.u)=true)(h2:under x.p p=true):jS l p d=true:=by
 unfold jS;rw[List.any_eq_true];exact⟨x,List.mem_filter.2 ⟨by rw[←hx];exact List.getElem_mem hk,h1⟩,h2⟩
theorem Xr8{u U:Int}(hk:k<l.length)(hx:l[k]=x)(h:lY p (l.drop k) u=U):lY p (l.drop (k+1)) (if x.p=p then x.u else u)=U:=by
 rw[List.drop_eq_getElem_cons hk,hx,lY]at h;exact h
theorem Xl7(I:IH)(v:Value)(l:List Ho)(hv:bf jq I v l)(hn:l.length≤100000)(d:Int)(w:World)(hw:Ok I w):
 Calls Tryz.prog 211 #[v,.int .i64 d] w fun e w'=> ∃v',e= .returned v'∧aM jq 227 I w' w.heap.size v' (fu l d)∧Below w.heap.size w w':=by
 obtain⟨ao,cap,rfl,dD,il,_⟩:=id hv;have Hv:=Qh hv;clear hv;have H0:=Qh (NS (I:=I) w w.heap.size rfl);go_enter Tryz.func211,Tryz.ntmps211
 go_wp2_with fail
 go_loopw [5,6] (fun s5 s6 wr=> ∃k:Nat,k≤l.length∧s6= .int .i64 k∧aM jq 227 I wr w.heap.size s5 (fu (l.take k) d)∧Below w.heap.size w wr) (fun _ i _=>l.length-(intOf i).toNat)
 case atStart=>exact⟨0,Nat.zero_le _,rfl,H0.O,(Qb _ _).alloc (Qn _) _⟩
 case round=>
  clear H0;obtain⟨k,hk,rfl,bJ,hb⟩:=hrel;have bD:=Qh bJ;clear bJ;have mO:(fu (l.take k) d).length≤k:=Nat.le_trans (List.length_filter_le _ _) (by simp;omega);by_cases hlt:k<l.length
  ·obtain⟨x,b,off,cap',bN,di,c0,c1⟩:=yj Hv.O (hw.below (Qn _) hb) k hlt;cases di;have bB:=Qh (Wt (fun h=>decide (d≤h.u)) hlt bN);clear bN;cases hq:decide (d≤x.u)
   ·have Hn:=Qh (show fu (l.take (k+1)) d=fu (l.take k) d from Wv bB.O hq);go_wp2;go_roundw;case rel=>exact⟨k+1,by omega,by go_num,bD.O.rW Hn.O.symm,hb⟩
    case measure=>simp[intOf];omega
   ·have Hn:=Qh (show fu (l.take (k+1)) d=fu (l.take k) d++[x]from Wu bB.O hq);have oD:=hb.size;go_wp2_with (at_builtin;refine oq (w0:=wr) AQ rfl _ _ rfl _ _ _ rfl bD.O x [S x.p,.int .i64 x.u] _ rfl rfl (by omega) (by omega) oD ?_)
    intro v9 w9 dF fw;have iq:=Below.own hb fw bD.O (Qn _) oD;go_wp2;go_roundw;case rel=>exact⟨k+1,by omega,by go_num,dF.rW Hn.O.symm,iq⟩
    case measure=>simp[intOf];omega
  ·have aG:l.take k=l:=List.take_of_length_le (by omega);rw[aG]at bD;clear aG mO;go_wp2;go_ret;exact⟨_,rfl,bD.O,hb⟩
theorem Xq7(I:IH)(v:Value)(l:List Ho)(hv:bf jq I v l)(hn:l.length≤100000)(p:ae)(d:Int)(w:World)(hw:Ok I w):
 Calls Tryz.prog 210 #[v,S p,.int .i64 d] w fun e w'=>e= .returned (.bool (fK l p d))∧Below w.heap.size w w':=by
 obtain⟨ao,cap,rfl,dD,il,_⟩:=id hv;have Hv:=Qh hv;clear hv;go_enter Tryz.func210,Tryz.ntmps210
 go_wp2_with fail
 go_loopw [7] (fun s7 wr=> ∃k:Nat,k≤l.length∧s7= .int .i64 k∧fK (l.take k) p d=false∧Below w.heap.size w wr) (fun i _=>l.length-(intOf i).toNat)
 case atStart=>exact⟨0,Nat.zero_le _,rfl,rfl,Qb _ _⟩
 case round=>
  obtain⟨k,hk,rfl,hr,hb⟩:=hrel;have Hr:=Qh hr;clear hr;have dz:Ok I wr:=hw.below (Qn _) hb;by_cases hlt:k<l.length
  ·obtain⟨x,b,off,cap',bN,di,c0,c1⟩:=yj Hv.O dz k hlt;cases di;have bB:=Qh (Xro (p:=p) (d:=d) hlt bN);have sF:=Qh bN;have KG:=Qh (fun w hw=>SA I p x.p w hw);clear bN;cases hq:decide (d≤x.u)
   ·have Hn:=Qh (show fK (l.take (k+1)) p d=false by rw[bB.O,Hr.O,hq];rfl);go_wp2;go_roundw;case rel=>exact⟨k+1,by omega,by go_num,Hn.O,hb⟩
    case measure=>simp[intOf];omega
   ·go_wp2_with fail
    refine(KG.O _ dz).mono ?_;rintro e1 w1 ⟨rfl,au⟩;have av:=hb.trans (au.mono hb.size);clear au;cases hu:under p x.p
    ·have Hn:=Qh (show fK (l.take (k+1)) p d=false by rw[bB.O,Hr.O,hq,hu];rfl);go_wp2;go_roundw;case rel=>exact⟨k+1,by omega,by go_num,Hn.O,av⟩
     case measure=>simp[intOf];omega
    ·have Hn:=Qh (Xtv (p:=p) (d:=d) hlt sF.O hq hu);go_wp2;go_ret;exact⟨gZ Hn.O.symm,av⟩
  ·have Hn:=Qh (show fK l p d=false by have:=Hr.O;rwa[List.take_of_length_le (by omega)]at this);go_wp2;go_ret;exact⟨gZ Hn.O.symm,hb⟩
theorem Uk(I:IH)(v:Value)(l:List Ho)(hv:bf jq I v l)(hn:l.length≤100000)(e:ay)(va vx:Value)(dV:bf kT I va e.ai)(dX:bf mE I vx e.ak)(d:Int)(w:World)(hw:Ok I w):
 Calls Tryz.prog 145 #[v,eT e va vx,.int .i64 d] w fun r w'=>r= .returned (.int .i64 (jT l e.ag e.af d))∧Below w.heap.size w w':=by
 have Hh:=Qh (fun w hw=>Xq7 I v l hv hn e.af d w hw);obtain⟨ao,cap,rfl,dD,il,_⟩:=id hv;obtain⟨aa,ca,rfl,_,_,_⟩:=id dV;obtain⟨ax,cx,rfl,_,_,_⟩:=id dX;have Hv:=Qh hv;clear hv dV dX;by_cases h1:e.ag=1
 ·have k1:((e.ag:Int)==1)=true:=by simpa using h1
  have k4:((e.ag:Int)==4)=false:=by have:e.ag≠4:=by omega
                                    simpa using this
  have Hn:=Qh (show jT l e.ag e.af d=if fK l e.af d then 15 else 0 by rw[jT,if_pos (.inl h1)]);generalize fK l e.af d=b at Hh Hn;clear h1;go_enter Tryz.func145,Tryz.ntmps145
  go_wp2_with fail
  refine(Hh.O _ (hw.alloc _)).mono ?_;rintro e1 w1 ⟨rfl,au⟩;have gT:=Qh (bS (e:=e) rfl au);have aB:Ok I w1:=(hw.alloc _).below (Qn _) au;have av:=((Qb w.heap.size w).alloc (Qn _) (.cells #[.int .i64 e.ag,S e.af,.slice aa e.ai.length ca,S e.target,.int .i64 e.size,S e.aj,.slice ax e.ak.length cx] 26)).trans (au.mono (by simp));clear au;obtain⟨c0,c1,c2,c3,c4,c5,c6⟩:=gT.O;cases b
  ·go_wp2;go_ret;exact⟨bT Hn.O.symm,av⟩
  ·go_wp2;go_ret;exact⟨bT Hn.O.symm,av⟩
 have k1:((e.ag:Int)==1)=false:=by simpa using h1
 by_cases h2:e.ag=2
 ·have k2:((e.ag:Int)==2)=true:=by simpa using h2
  have k4:((e.ag:Int)==4)=false:=by have:e.ag≠4:=by omega
                                    simpa using this
  have Hn:=Qh (show jT l e.ag e.af d=if fK l e.af d then 15 else 0 by rw[jT,if_pos (.inr (.inl h2))]);generalize fK l e.af d=b at Hh Hn;clear h1 h2;go_enter Tryz.func145,Tryz.ntmps145
  go_wp2_with fail
  refine(Hh.O _ (hw.alloc _)).mono ?_;rintro e1 w1 ⟨rfl,au⟩;have gT:=Qh (bS (e:=e) rfl au);have aB:Ok I w1:=(hw.alloc _).below (Qn _) au;have av:=((Qb w.heap.size w).alloc (Qn _) (.cells #[.int .i64 e.ag,S e.af,.slice aa e.ai.length ca,S e.target,.int .i64 e.size,S e.aj,.slice ax e.ak.length cx] 26)).trans (au.mono (by simp));clear au;obtain⟨c0,c1,c2,c3,c4,c5,c6⟩:=gT.O;cases b
  ·go_wp2;go_ret;exact⟨bT Hn.O.symm,av⟩
  ·go_wp2;go_ret;exact⟨bT Hn.O.symm,av⟩
 have k2:((e.ag:Int)==2)=false:=by simpa using h2
 by_cases h3:e.ag=3
 ·have k3:((e.ag:Int)==3)=true:=by simpa using h3
  have k4:((e.ag:Int)==4)=false:=by have:e.ag≠4:=by omega
                                    simpa using this
  have Hn:=Qh (show jT l e.ag e.af d=if fK l e.af d then 15 else 0 by rw[jT,if_pos (.inr (.inr h3))]);generalize fK l e.af d=b at Hh Hn;clear h1 h2 h3;go_enter Tryz.func145,Tryz.ntmps145
  go_wp2_with fail
  refine(Hh.O _ (hw.alloc _)).mono ?_;rintro e1 w1 ⟨rfl,au⟩;have gT:=Qh (bS (e:=e) rfl au);have aB:Ok I w1:=(hw.alloc _).below (Qn _) au;have av:=((Qb w.heap.size w).alloc (Qn _) (.cells #[.int .i64 e.ag,S e.af,.slice aa e.ai.length ca,S e.target,.int .i64 e.size,S e.aj,.slice ax e.ak.length cx] 26)).trans (au.mono (by simp));clear au;obtain⟨c0,c1,c2,c3,c4,c5,c6⟩:=gT.O;cases b
  ·go_wp2;go_ret;exact⟨bT Hn.O.symm,av⟩
  ·go_wp2;go_ret;exact⟨bT Hn.O.symm,av⟩
 have k3:((e.ag:Int)==3)=false:=by simpa using h3
 have xn:¬(e.ag=1∨e.ag=2∨e.ag=3):=fun q=>by omega
 by_cases h4:e.ag=4;case neg=>
  have k4:((e.ag:Int)==4)=false:=by simpa using h4
  have Hn:=Qh (show jT l e.ag e.af d=0 by rw[jT,if_neg xn,if_neg h4]);clear h1 h2 h3 h4 xn;go_enter Tryz.func145,Tryz.ntmps145
  go_wp2;go_ret;exact⟨bT Hn.O.symm,(Qb w.heap.size w).alloc (Qn _) _⟩
 have k4:((e.ag:Int)==4)=true:=by simpa using h4
 have Hn:=Qh (show jT l e.ag e.af d=if fK l e.af d || jS l e.af d then 15 else 0 by rw[jT,if_neg xn,if_pos h4]);clear h1 h2 h3 h4 xn;generalize fK l e.af d=b at Hh Hn;go_enter Tryz.func145,Tryz.ntmps145
 go_wp2_with fail
 refine(Hh.O _ (hw.alloc _)).mono ?_;rintro e1 w1 ⟨rfl,au⟩;have gT:=Qh (bS (e:=e) rfl au);have aB:Ok I w1:=(hw.alloc _).below (Qn _) au;have av:=((Qb w.heap.size w).alloc (Qn _) (.cells #[.int .i64 e.ag,S e.af,.slice aa e.ai.length ca,S e.target,.int .i64 e.size,S e.aj,.slice ax e.ak.length cx] 26)).trans (au.mono (by simp));clear au;obtain⟨c0,c1,c2,c3,c4,c5,c6⟩:=gT.O;cases b;case true=>
  go_wp2;go_ret;exact⟨bT Hn.O.symm,av⟩
 go_wp2_with fail
 clear c0 c1 c2 c3 c4 c5 c6;go_loopw [8] (fun s8 wr=> ∃k:Nat,k≤l.length∧s8= .int .i64 k∧jS (l.take k) e.af d=false∧Below w1.heap.size w1 wr) (fun i _=>l.length-(intOf i).toNat)
 case atStart=>exact⟨0,Nat.zero_le _,rfl,rfl,Qb _ _⟩
 case round=>
  obtain⟨k,hk,rfl,hr,hb⟩:=hrel;have Hr:=Qh hr;clear hr;have dz:Ok I wr:=aB.below (Qn _) hb;have sS:=av.trans (hb.mono av.size);by_cases hlt:k<l.length
  ·obtain⟨x,b,off,cap',bN,di,x0,x1⟩:=yj Hv.O dz k hlt;cases di;have bB:=Qh (Xpf (p:=e.af) (d:=d) hlt bN);have sF:=Qh bN;have KG:=Qh (fun w hw=>SA I x.p e.af w hw);obtain⟨c0,c1,c2,c3,c4,c5,c6⟩:=gT.O.aA hb;have g1:=cell_regrown c1;have y0:=cell_regrown x0;have y1:=cell_regrown x1;clear bN c0 c1 c2 c3 c4 c5 c6 x0 x1;cases hq:decide (d≤x.u)
   ·have iQ:=Qh (show jS (l.take (k+1)) e.af d=false by rw[bB.O,Hr.O,hq];rfl);go_wp2_with fail
    refine wp_region_quiet_below (by kernel_rfl) (by kernel_rfl) ?_;repeat(go_big_quiet_step ((fail)))
    refine wpQuiet_nil ?_;intro w2 bg;have aD:Below (wr).heap.size (wr) w2:=by
     obtain⟨pq,rfl⟩:=bg;exact below_regrown _ _ _
    clear bg;go_wp2;go_roundw;case rel=>exact⟨k+1,by omega,by go_num,iQ.O,hb.trans (aD.mono hb.size)⟩
    case measure=>simp[intOf];omega
   ·go_wp2_with fail
    refine wp_region_quiet_below (by kernel_rfl) (by kernel_rfl) ?_;repeat(go_big_quiet_step ((with_reducible exact Calls.regrown_of (KG.O _ (dz.below (Qn _) (below_regrown _ _ _))))))
    refine wpQuiet_nil ?_;intro w2 bg;have aD:Below (wr).heap.size (wr) w2:=by
     obtain⟨pq,rfl⟩:=bg;exact below_regrown _ _ _
    clear bg;have aK:=hb.trans (aD.mono hb.size);cases hu:under x.p e.af
    ·have iQ:=Qh (show jS (l.take (k+1)) e.af d=false by rw[bB.O,Hr.O,hq,hu];rfl);go_wp2;go_roundw;case rel=>exact⟨k+1,by omega,by go_num,iQ.O,aK⟩
     case measure=>simp[intOf];omega
    ·have iQ:=Qh (show jT l e.ag e.af d=15 by rw[Hn.O,Xr2 hlt sF.O hq hu];rfl);go_wp2;go_ret;exact⟨bT iQ.O.symm,sS.trans (aD.mono sS.size)⟩
  ·have iQ:=Qh (show jT l e.ag e.af d=0 by
    have:=Hr.O;rw[List.take_of_length_le (by omega)]at this;rw[Hn.O,this];rfl)
   go_wp2;go_ret;exact⟨bT iQ.O.symm,sS⟩
theorem Xfr(I:IH)(v:Value)(l:List Ho)(hv:bf jq I v l)(hn:l.length≤100000)(p:ae)(w:World)(hw:Ok I w):
 Calls Tryz.prog 213 #[v,S p] w fun e w'=> ∃v',e= .returned (.tuple #[v',.int .i64 (lY p l (-1))])∧aM jq 227 I w' w.heap.size v' (gV l p)∧Below w.heap.size w w':=by
 obtain⟨ao,cap,rfl,dD,il,_⟩:=id hv;have Hv:=Qh hv;clear hv;have H0:=Qh (NS (I:=I) w w.heap.size rfl);obtain⟨U,hU⟩:∃U,lY p l (-1)=U:=⟨_,rfl⟩;rw[hU];have HU:=Qh hU;clear hU;go_enter Tryz.func213,Tryz.ntmps213
 go_wp2_with fail
 go_loopw [6,7,8] (fun s6 s7 s8 wr=> ∃(k:Nat) (u:Int),k≤l.length∧s8= .int .i64 k∧s7= .int .i64 u∧lY p (l.drop k) u=U∧aM jq 227 I wr w.heap.size s6 (gV (l.take k) p)∧Below w.heap.size w wr) (fun _ _ i _=>l.length-(intOf i).toNat)
 case atStart=>exact⟨0,-1,Nat.zero_le _,rfl,rfl,HU.O,H0.O,(Qb _ _).alloc (Qn _) _⟩
 case round=>
  clear H0;obtain⟨k,u,hk,rfl,rfl,hu,bJ,hb⟩:=hrel;have bD:=Qh bJ;have Hu:=Qh hu;clear bJ hu;have mO:(gV (l.take k) p).length≤k:=Nat.le_trans (List.length_filter_le _ _) (by simp;omega);by_cases hlt:k<l.length
  ·obtain⟨x,b,off,cap',bN,di,c0,c1⟩:=yj Hv.O (hw.below (Qn _) hb) k hlt;cases di;have bB:=Qh (Wt (fun h=> !(h.p==p)) hlt bN);have GQ:=Qh (Xr8 hlt bN Hu.O);clear bN Hu;cases hq:(x.p==p)
   ·have Hn:=Qh (show gV (l.take (k+1)) p=gV (l.take k) p++[x]from Wu bB.O (by rw[hq];rfl));have iQ:=Qh (show lY p (l.drop (k+1)) u=U by have:=GQ.O;rwa[if_neg (by simpa using hq)]at this);have oD:=hb.size;go_wp2_with (at_builtin;refine oq (w0:=wr) AQ rfl _ _ rfl _ _ _ rfl bD.O x [S x.p,.int .i64 x.u] _ rfl rfl (by omega) (by omega) oD ?_)
    intro v9 w9 dF fw;have iq:=Below.own hb fw bD.O (Qn _) oD;go_wp2;go_roundw;case rel=>exact⟨k+1,u,by omega,by go_num,rfl,iQ.O,dF.rW Hn.O.symm,iq⟩
    case measure=>simp[intOf];omega
   ·have Hn:=Qh (show gV (l.take (k+1)) p=gV (l.take k) p from Wv bB.O (by rw[hq];rfl));have iQ:=Qh (show lY p (l.drop (k+1)) x.u=U by have:=GQ.O;rwa[if_pos (by simpa using hq)]at this);go_wp2;go_roundw;case rel=>exact⟨k+1,x.u,by omega,by go_num,rfl,iQ.O,bD.O.rW Hn.O.symm,hb⟩
    case measure=>simp[intOf];omega
  ·have aG:l.take k=l:=List.take_of_length_le (by omega);have lF:u=U:=by have:=Hu.O;rwa[List.drop_of_length_le (by omega)]at this
   rw[aG]at bD;subst lF;clear aG mO;go_wp2;go_ret2;exact⟨_,rfl,bD.O,hb⟩
theorem Xq8(s:ae)(hd:fH s=true)(w:World):
 Calls Tryz.prog 212 #[S s] w fun e w'=>e= .returned (.int .i64 (digits s))∧Below w.heap.size w w':=by
 obtain⟨ha,cK,aG,hz⟩:=Wx hd;have tJ:=(SE hd).2;have hlen:=List.length_pos_iff.2 cK;obtain⟨p1,p2,p3,p4⟩:=zC cK;have JB:=WI hd;have d10:decide (10<s.length)=false:=Qf (by omega);have hx0:=gG (P:=Tryz.prog) Tryz.underlying9 s 0 0 rfl hlen;have kK:=Qh aG;have jI:(¬1<s.length∧decide (1<s.length)=false)∨(1<s.length∧decide (1<s.length)=true∧(((s.getD 0 0).toNat:Int)==48)=false):=by
  by_cases h5:1<s.length
  ·right;refine⟨h5,Qt h5,?_⟩;have:((s.getD 0 0).toNat:Int)≠48:=fun e=>by
    have:=hz (by omega);rw[this]at h5;simp at h5
   simpa using this
  ·exact .inl ⟨h5,Qf h5⟩
 obtain⟨U,hU⟩:∃U,digits s=U:=⟨_,rfl⟩;have HU:=Qh hU;rw[hU]at tJ ⊢;have dU:decide (1000000000<U)=false:=Qf (by omega);generalize(s.getD 0 0).toNat=c0 at hx0 jI;clear ha cK aG hz hd hU;rcases jI with⟨h5,EI⟩|⟨h5,EI,he3⟩
 all_goals
  go_enter Tryz.func212,Tryz.ntmps212
  go_wp2_with fail
  go_loop [3,4] (fun s3 s4=> ∃k:Nat,k≤s.length∧s4= .int .i64 k∧s3= .int .i64 (digits (s.take k))) (fun _ i=>s.length-(intOf i).toNat)
  case atStart=>exact⟨0,Nat.zero_le _,rfl,rfl⟩
  case round=>
   obtain⟨k,hk,rfl,rfl⟩:=hrel;have Bo:=Xni k (s.take k) (by rw[List.length_take];omega) (List.all_eq_true.2 fun c hc=>List.all_eq_true.1 kK.O c (List.mem_of_mem_take hc));by_cases hlt:k<s.length
   ·have hx:=gG (P:=Tryz.prog) Tryz.underlying9 s (k:Int) k rfl hlt;have ZT:(10:Int)^k≤10000000000:=by
     have:(10:Nat)^k≤10^10:=Nat.pow_le_pow_right (by decide) (by omega);have h2:((10^k:Nat):Int)≤((10^10:Nat):Int):=by exact_mod_cast this
     simpa using h2
    have qJ:s.take (k+1)=s.take k++[s.getD k 0]:=by rw[List.take_succ_eq_append_getElem hlt];simp[List.getD,hlt]
    have FN:digits (s.take (k+1))=10*digits (s.take k)+(((s.getD k 0).toNat:Int)-48):=by rw[qJ,Vl]
    have gL:s.getD k 0∈s:=by simp[List.getD,hlt]
    obtain⟨b1,b2⟩:=Fe (List.all_eq_true.1 kK.O _ gL);clear qJ gL;generalize(s.getD k 0).toNat=c at hx FN b1 b2;generalize digits (s.take k)=n at Bo FN ⊢;generalize((10:Int)^k)=p10 at Bo ZT;have Vm:=Qh FN;have e48:decide ((c:Int)<48)=false:=Qf (by omega);have e57:decide (57<(c:Int))=false:=Qf (by omega);have m1:IntKind.u8.wrap ((c:Int)-48)=(c:Int)-48:=IntWalk.u8_in _ (by omega);have m2:IntKind.i64.wrap ((c:Int)-48)=(c:Int)-48:=IntWalk.i64_in _ (by omega);clear FN;go_wp2;go_round;case rel=>exact⟨k+1,by omega,by go_num,by rw[Vm.O]⟩
    case measure=>simp[intOf];omega
   ·have lF:digits (s.take k)=U:=by rw[List.take_of_length_le (by omega)];exact HU.O
    rw[lF];clear lF Bo;go_wp2;go_ret;exact⟨rfl,Qb _ _⟩
