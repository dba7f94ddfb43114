/- Lemmas for the claim's theorem;conditions: as each says. -/
import Derived.Test.YtmdfjnhfhidmhaaGreatDoorQ05
import Derived.Lib.AtoiAll
import Derived.Lib.ItoaNum
import Derived.Shelf.Strings.SlTrimAscii
import Derived.Test.YtmdfjnhfhidmhaaGreatDoorProg
import Derived.Lib.SmallJoins
import Derived.Lib.AppendIntMem
import Derived.Shelf.Spec.SlicesInsert
import Derived.Lib.AppendZerosOnto
set_option maxHeartbeats 0
set_option maxRecDepth 100000
set_option linter.all false
namespace Go.Proofs.YtmdfjnhfhidmhaaGreatDoor
open Go.RowKit
variable{w:World}{I:IH}{α:Type}{v:Value}{l:List Ho}{T U:List α}{c:Bool}{p:α}{n:Nat}
def jh:Ty Ho:=Ty.flat 2 (fun x=> [S x.p,.int .i64 x.u]) (fun _=>rfl) (fun _ u h=>by simp at h;rcases h with rfl|rfl<;>rfl)
theorem yZ(h:aY jh I v l)(hw:Ok I w)(i:Nat)(hi:i<l.length):∃x b off cap,l[i]=x∧v= .slice (some ⟨b,off,none⟩) l.length cap∧
 w.cell? ⟨b,off+i*2,none⟩=some (S x.p)∧w.cell? ⟨b,off+i*2+1,none⟩=some (.int .i64 x.u):=by
 obtain⟨b,off,cap,cs,hv,fK,hc⟩:=h.at_ hw hi;have iw:cs=[S l[i].p,.int .i64 l[i].u]:=fK;subst iw;exact⟨_,b,off,cap,rfl,hv,hc 0 _ rfl,hc 1 _ rfl⟩
theorem Nq:(Tryz.prog.info? 148).map (fun i=>(i.zero,i.size,i.bytes))=some (some (.agg #[.string ⟨#[]⟩,.int .i64 0]),2,24):=by kernel_rfl
theorem Xsa:dx Tryz.prog 41 148 jh 24:=dx.of Tryz.underlying41 Nq rfl (by decide) rfl
abbrev GU(x:Ho):Value:= .agg #[S x.p,.int .i64 x.u]
def om(g:Nat)(cb:Array Value)(l:List Ho)(p:Ho→Bool)(C:World→Prop):Prop:=
 ∀x∈l,∀W:World,C W→Calls Tryz.prog g (#[GU x]++cb) W fun e w'=>e= .returned (.bool (p x))∧Below W.heap.size W w'
theorem Xmg(f:Ho→Bool){a:List Ho}{k:Nat}(hk:k<a.length){x:Ho}(hx:a[k]=x):(a.take (k+1)).filter f=(a.take k).filter f++(if f x=true then [x]else []):=by
 rw[List.take_succ_eq_append_getElem hk,hx,List.filter_append];cases h:f x<;>simp[h]
theorem Xp9(h:T=U++(if c=true then [p]else []))(hc:c=true):T=U++[p]:=by rw[h,if_pos hc]
theorem Xr8(h:T=U++(if c=true then [p]else []))(hc:c=false):T=U:=by rw[h,hc,if_neg (by simp),List.append_nil]
theorem aN.Di{T:Ty α}{E:TypeId}{B:Nat}{l l':List α}(h:aN T E I w B v l)(e:l=l'):aN T E I w B v l':=e▸h
theorem JB(I:IH)(v:Value)(l:List Ho)(hv:aY jh I v l)(hn:l.length≤100000)(g:Nat)(cb:Array Value)(p:Ho→Bool)(w:World)(hw:Ok I w)(eg:∀args w,(callFunc g args).run Tryz.prog w= .ok (.enter g args) w)(hp:om g cb l p (Below w.heap.size w)):
 Calls Tryz.prog 89 #[v,.func (.func g) #[] cb] w fun e w'=> ∃v',e= .returned v'∧aN jh 148 I w' w.heap.size v' (l.filter p)∧Below w.heap.size w w':=by
 obtain⟨ao,cap,rfl,dM,gV,_⟩:=id hv;have Hv:=Qh hv;clear hv;have Hp:=Qh hp;clear hp;go_enter Tryz.func89,Tryz.ntmps89
 go_wp2_with fail
 go_loopw [5,10] (fun s5 s10 wr=> ∃k:Nat,k≤l.length∧s10= .int .i64 k∧aN jh 148 I wr w.heap.size s5 ((l.take k).filter p)∧Below w.heap.size w wr) (fun _ i _=>l.length-(intOf i).toNat)
 case atStart=>exact⟨0,Nat.zero_le _,rfl,aN.nil _ _ _ _ _,Qb _ _⟩
 case round=>
  obtain⟨k,hk,rfl,bM,hb⟩:=hrel;have nQ:=Qh bM;clear bM;have gZ:Ok I wr:=hw.below (Qn _) hb;have ru:((l.take k).filter p).length≤k:=Nat.le_trans (List.length_filter_le _ _) (by simp;omega);by_cases hlt:k<l.length
  ·obtain⟨x,b,off,cap',dz,dC,c0,c1⟩:=yZ Hv.q gZ k hlt;cases dC;have bT:=Qh (Xmg p hlt dz);have jI:=Qh (Hp.q x (by rw[←dz];exact List.getElem_mem hlt) (wr.alloc (.cells #[S x.p,.int .i64 x.u] 148)) (hb.alloc hb.size _));clear dz;go_wp2_with fail
   refine jI.q.mono ?_;rintro e w1 ⟨rfl,aG⟩;have x0:=bI aG (show(wr.alloc (.cells #[S x.p,.int .i64 x.u] 148)).cell? ⟨wr.heap.size,0,none⟩=some (S x.p) by simp);have x1:=bI aG (show(wr.alloc (.cells #[S x.p,.int .i64 x.u] 148)).cell? ⟨wr.heap.size,1,none⟩=some (.int .i64 x.u) by simp);have aO:=(hb.alloc hb.size (.cells #[S x.p,.int .i64 x.u] 148)).trans (aG.mono (by have:=hb.size;simp;omega));have y9:=Qh ((nQ.q.alloc (.cells #[S x.p,.int .i64 x.u] 148)).below aG);have xu:=aO.size;clear aG jI c0 c1 nQ;cases hpx:p x
   ·have Hn:=Qh (Xr8 bT.q hpx);clear hpx;go_wp2;go_roundw;case rel=>exact⟨k+1,by omega,by go_num,y9.q.Di Hn.q.symm,aO⟩
    case measure=>simp[intOf];omega
   ·have Hn:=Qh (Xp9 bT.q hpx);clear hpx;go_wp2_with (at_builtin;refine Xgb (w0:=w1) Xsa rfl _ _ rfl _ _ _ rfl y9.q x [S x.p,.int .i64 x.u] _ rfl rfl (by omega) (by omega) xu ?_)
    intro v9 w9 fV dY;have JC:=Below.own aO dY y9.q (Qn _) xu;go_wp2;go_roundw;case rel=>exact⟨k+1,by omega,by go_num,fV.Di Hn.q.symm,JC⟩
    case measure=>simp[intOf];omega
  ·have aA:l.take k=l:=List.take_of_length_le (by omega);rw[aA]at nQ;clear aA ru;go_wp2;go_ret;exact⟨_,rfl,nQ.q,hb⟩
theorem Wl(I:IH)(v:Value)(l:List Ho)(hv:aY jh I v l)(g:Nat)(cb:Array Value)(p:Ho→Bool)(w:World)(hw:Ok I w)(eg:∀args w,(callFunc g args).run Tryz.prog w= .ok (.enter g args) w)(hp:om g cb l p (Below w.heap.size w)):
 Calls Tryz.prog 92 #[v,.func (.func g) #[] cb] w fun e w'=>e= .returned (.int .i64 (lC l p))∧Below w.heap.size w w':=by
 have hlen:=hv.bK;obtain⟨ao,cap,rfl,dM,gV,_⟩:=id hv;have Hv:=Qh hv;clear hv;have Hp:=Qh hp;clear hp;go_enter Tryz.func92,Tryz.ntmps92
 go_wp2_with fail
 go_loopw [8] (fun s8 wr=> ∃k:Nat,k≤l.length∧s8= .int .i64 k∧(l.take k).any p=false∧Below w.heap.size w wr) (fun i _=>l.length-(intOf i).toNat)
 case atStart=>exact⟨0,Nat.zero_le _,rfl,rfl,Qb _ _⟩
 case round=>
  obtain⟨k,hk,rfl,hr,hb⟩:=hrel;have Hr:=Qh hr;clear hr;by_cases hlt:k<l.length
  ·have gZ:Ok I wr:=hw.below (Qn _) hb;obtain⟨x,b,off,cap',dz,dC,c0,c1⟩:=yZ Hv.q gZ k hlt;cases dC;have nP:=Qh dz;have jI:=Qh (Hp.q x (by rw[←dz];exact List.getElem_mem hlt) wr hb);clear dz;go_wp2_with fail
   refine jI.q.mono ?_;rintro e w1 ⟨rfl,aG⟩;have aO:=hb.trans (aG.mono hb.size);clear aG jI c0 c1;cases hpx:p x
   ·have Hn:=Qh (show(l.take (k+1)).any p=false by rw[List.take_succ_eq_append_getElem hlt,List.any_append,Hr.q,nP.q];simp[hpx]);clear hpx;go_wp2;go_roundw;case rel=>exact⟨k+1,by omega,by go_num,Hn.q,aO⟩
    case measure=>simp[intOf];omega
   ·have Hn:=Qh (PT (p:=p) hlt (by rw[nP.q];exact hpx) Hr.q);clear hpx;go_wp2;go_ret;exact⟨dK Hn.q.symm,aO⟩
  ·have Hn:=Qh (show lC l p= -1 from PS (by have:=Hr.q;rwa[List.take_of_length_le (by omega)]at this));go_wp2;go_ret;exact⟨dK Hn.q.symm,hb⟩
theorem Wm(I:IH)(v:Value)(l:List Ho)(hv:aY jh I v l)(g:Nat)(cb:Array Value)(p:Ho→Bool)(w:World)(hw:Ok I w)(eg:∀args w,(callFunc g args).run Tryz.prog w= .ok (.enter g args) w)(hp:om g cb l p (Below w.heap.size w)):
 Calls Tryz.prog 165 #[v,.func (.func g) #[] cb] w fun e w'=>e= .returned (.bool (l.any p))∧Below w.heap.size w w':=by
 have Hi:=Qh (Wl I v l hv g cb p w hw eg hp);obtain⟨ao,cap,rfl,dM,gV,_⟩:=id hv;clear hv hp eg;rcases GQ l p with⟨i,hi,e1,e2,_⟩|⟨e1,e2⟩
 ·have Ha:=Qh (show l.any p=true from List.any_eq_true.2 ⟨l[i],List.getElem_mem hi,e2⟩);have hd:decide ((0:Int)≤(i:Int))=true:=Qt (by omega);rw[e1]at Hi;clear e1 e2;go_enter Tryz.func165,Tryz.ntmps165
  go_wp2_with fail
  refine Hi.q.mono ?_;rintro e w1 ⟨rfl,aG⟩;go_wp2;go_ret;exact⟨iG Ha.q.symm,aG⟩
 ·have Ha:=Qh e2;rw[e1]at Hi;clear e1 e2;go_enter Tryz.func165,Tryz.ntmps165
  go_wp2_with fail
  refine Hi.q.mono ?_;rintro e w1 ⟨rfl,aG⟩;go_wp2;go_ret;exact⟨iG Ha.q.symm,aG⟩
theorem Xl5(d:Int)(b:Nat)(l:List Ho)(w:World)(hc:w.cell? ⟨b,0,none⟩=some (.int .i64 d)):om 95 #[.pointer (some ⟨b,0,none⟩)] l (fun h=>decide (d≤h.u)) (Below w.heap.size w):=by
 intro x _ W hW;have Gg:=jH (.cells #[S x.p,.int .i64 x.u] 148) (bI hW hc);clear hc;show Calls Tryz.prog _ #[GU x,.pointer (some ⟨b,0,none⟩)] W _;go_enter Tryz.func95,Tryz.ntmps95
 go_wp2;go_ret;exact⟨rfl,(Qb _ _).alloc (Qn _) _⟩
theorem JD(I:IH)(v:Value)(l:List Ho)(hv:aY jh I v l)(hn:l.length≤100000)(d:Int)(w:World)(hw:Ok I w):
 Calls Tryz.prog 42 #[v,.int .i64 d] w fun e w'=> ∃v',e= .returned v'∧aN jh 148 I w' w.heap.size v' (bO l d)∧Below w.heap.size w w':=by
 have Hp:=Qh (Xl5 d w.heap.size l (w.alloc (.cells #[.int .i64 d] 3)) (by simp));have Hs:=Qh (JB I v l hv hn _ _ _ _ (hw.alloc (.cells #[.int .i64 d] 3)) (fun _ _=>by kernel_rfl) Hp.q);obtain⟨ao,cap,rfl,dM,gV,_⟩:=id hv;clear hv Hp;go_enter Tryz.func42,Tryz.ntmps42
 go_wp2_with fail
 refine Hs.q.mono ?_;rintro e w1 ⟨v1,rfl,bM,hb⟩;go_wp2;go_ret;exact⟨_,rfl,bM.lower (by simp),((Qb _ _).alloc (Qn _) _).trans (hb.mono (by simp))⟩
theorem Xpr(I:IH)(hI:cB I)(p:af)(hp:p.length≤4294967280)(b:Nat)(l:List Ho)(hl:∀h∈l,h.p.length≤4294967280)(w:World)(hw:Ok I w)(hc:w.cell? ⟨b,0,none⟩=some (S p)):om 211 #[.pointer (some ⟨b,0,none⟩)] l (fun h=>under p h.p) (Below w.heap.size w):=by
 intro x hx W hW;have Hu:=Qh (PV I hI p x.p hp (hl x hx) (W.alloc (.cells #[S x.p,.int .i64 x.u] 148)) ((hw.below (Qn _) hW).alloc _));have Gg:=jH (.cells #[S x.p,.int .i64 x.u] 148) (bI hW hc);clear hc;show Calls Tryz.prog _ #[GU x,.pointer (some ⟨b,0,none⟩)] W _;go_enter Tryz.func211,Tryz.ntmps211
 go_wp2_with fail
 refine Hu.q.mono ?_;rintro e w1 ⟨rfl,aG⟩;go_wp2;go_ret;exact⟨rfl,((Qb _ _).alloc (Qn _) _).trans (aG.mono (by simp))⟩
theorem rU.short(h:rU l):∀x∈l,x.p.length≤4294967280:=fun x hx=>by have:=(CY (h.ag x hx)).1;omega
theorem Xrx(I:IH)(hI:cB I)(v:Value)(l:List Ho)(hv:aY jh I v l)(hk:rU l)(hn:l.length≤100000)(p:af)(hp:p.length≤4294967280)(d:Int)(w:World)(hw:Ok I w):
 Calls Tryz.prog 163 #[v,S p,.int .i64 d] w fun e w'=>e= .returned (.bool (kg l p d))∧Below w.heap.size w w':=by
 have Ha:=Qh (JD I v l hv hn d (w.alloc (.cells #[S p] 9)) (hw.alloc _));have Hk:=Qh (hk.act d);have ma:=Qh (fun b (hb:(w.alloc (.cells #[S p] 9)).heap.size≤b)=>(hw.alloc (.cells #[S p] 9)).fresh (b:=b) hb);have HI:=Qh hI;obtain⟨ao,cap,rfl,dM,gV,_⟩:=id hv;clear hv hk hI;go_enter Tryz.func163,Tryz.ntmps163
 go_wp2_with fail
 refine Ha.q.mono ?_;rintro e w1 ⟨v1,rfl,bM,hb⟩;have aS:Ok I w1:=(hw.alloc _).below (Qn _) hb;obtain⟨I1,jA,kL,oo,_⟩:=bM.freeze aS ma.q;have sP:w1.cell? ⟨w.heap.size,0,none⟩=some (S p):=bI hb (by simp);have Hp:=Qh (Xpr I1 (HI.q.mono (jA.keep (hw.alloc (.cells #[S p] 9)) (Qn _))) p hp w.heap.size (bO l d) Hk.q.short w1 kL sP);have Hc:=Qh (Wm I1 _ _ oo _ _ _ w1 kL (fun _ _=>by kernel_rfl) Hp.q);have qm:=((Qb w.heap.size w).alloc (Qn _) (.cells #[S p] 9)).trans (hb.mono (by simp));obtain⟨a1,c1,rfl,_,_,_⟩:=id oo;clear hb bM oo kL jA sP Ha Hp;go_wp2_with fail
 refine Hc.q.mono ?_;rintro e w2 ⟨rfl,aP⟩;go_wp2;go_ret;exact⟨rfl,qm.trans (aP.mono qm.size)⟩
def iM(acc:Nat)(l:af):Nat:=l.foldl (fun n c=>10*n+(c.toNat-48)) acc
theorem Wn(acc:Nat)(l:af)(c:UInt8):iM acc (l++[c])=10*iM acc l+(c.toNat-48):=by simp[iM,List.foldl_append]
theorem GV{c:UInt8}(h:jW c=true):48≤c.toNat∧c.toNat≤57:=by
 rw[VI,Bool.and_eq_true,decide_eq_true_iff,decide_eq_true_iff]at h;exact h
theorem Wo:∀(l:af),l.all jW=true→ ∀(a:Nat),l.foldl (fun(n:Int) c=>10*n+((c.toNat:Int)-48)) (a:Int)=(iM a l:Nat)
 | [],_,_=>rfl
 |c::l,h,a=>by
  rw[List.all_cons,Bool.and_eq_true]at h;have hc:=GV h.1;have:=Wo l h.2 (10*a+(c.toNat-48));rw[List.foldl_cons,show(10*(a:Int)+((c.toNat:Int)-48))=((10*a+(c.toNat-48):Nat):Int) by omega,this];rfl
theorem P6{l:af}(h:l.all jW=true):digits l=(iM 0 l:Nat):=Wo l h 0
theorem Wp:∀(l:af) (acc:Nat),l.all jW=true→(acc+1)*10^l.length≤100000000000→Lib.parseUint10 acc l= .ok (iM acc l)
 | [],_,_,_=>rfl
 |c::l,acc,h,hb=>by
  rw[List.all_cons,Bool.and_eq_true]at h;have hc:=GV h.1;rw[List.length_cons,Nat.pow_succ]at hb;have O6:1≤10^l.length:=Nat.pos_of_ne_zero (by simp);have ajU:(acc+1)*10≤100000000000:=by
   have:(acc+1)*10*1≤(acc+1)*10*10^l.length:=Nat.mul_le_mul_left _ O6;rw[Nat.mul_comm (10^l.length) 10,←Nat.mul_assoc]at hb;omega
  have hn:(acc*10+(c.toNat-48)+1)*10^l.length≤100000000000:=by
   refine Nat.le_trans (Nat.mul_le_mul_right _ (show acc*10+(c.toNat-48)+1≤(acc+1)*10 by omega)) ?_;rw[Nat.mul_assoc,Nat.mul_comm 10 (10^l.length)];exact hb
  rw[Lib.parseUint10,if_pos hc,if_neg (by omega),if_neg (by omega),Wp l _ h.2 hn];show Lib.NumEnd.ok (iM _ l)=Lib.NumEnd.ok (iM (10*acc+(c.toNat-48)) l);rw[Nat.mul_comm acc 10]
theorem Wq{c:UInt8}{l:af}(h:(c::l).all jW=true)(hc:c≠48):10^l.length≤iM 0 (c::l):=by
 have key:∀(n:Nat) (l:af),l.length=n→ ∀a,a*10^n≤iM a l:=by
  intro n;induction n with
  |zero=>intro l h a;rw[List.eq_nil_of_length_eq_zero h];simp[iM]
  |succ n ih=>
   intro l h a;cases l with
   |nil=>simp at h
   |cons c l=>
    have:=ih l (by simpa using h) (10*a+(c.toNat-48));refine Nat.le_trans ?_ this;rw[Nat.pow_succ,Nat.mul_comm (10^n) 10,←Nat.mul_assoc];exact Nat.mul_le_mul_right _ (by omega)
 rw[List.all_cons,Bool.and_eq_true]at h;have hb:=GV h.1;have aZ:c.toNat≠48:=fun e=>hc (by
  have:c=UInt8.ofNat c.toNat:=by simp
  rw[this,e];rfl)
 have:=key l.length l rfl (10*0+(c.toNat-48));refine Nat.le_trans ?_ this;have h1:1≤10*0+(c.toNat-48):=by omega
 simpa using Nat.mul_le_mul_right (10^l.length) h1
def Ws(s:af):Prop:=s.length=1∨s.head?≠some 48
theorem Xql:∀(n:Nat) (s:af),s.length=n→s≠[]→s.all jW=true→Ws s→Lib.decDigits (iM 0 s)=s:=by
 intro n;induction n with
 |zero=>intro s h h0;exact absurd (List.eq_nil_of_length_eq_zero h) h0
 |succ n ih=>
  intro s h h0 ha hz;have e:s=s.dropLast++[s.getLast h0]:=(List.dropLast_concat_getLast h0).symm;have hl:s.dropLast.length=n:=by rw[List.length_dropLast,h];omega
  have Am:=ha;rw[e,List.all_append,Bool.and_eq_true]at Am;have hc:jW (s.getLast h0)=true:=by simpa using Am.2
  have hb:=GV hc;have hoc:UInt8.ofNat (48+((s.getLast h0).toNat-48))=s.getLast h0:=by
   rw[show 48+((s.getLast h0).toNat-48)=(s.getLast h0).toNat by omega];simp
  by_cases hn:n=0
  ·have ht:s.dropLast=[]:=List.eq_nil_of_length_eq_zero (by omega);rw[e,ht,List.nil_append];have:iM 0 [s.getLast h0]=(s.getLast h0).toNat-48:=by simp[iM]
   rw[this,Lib.decDigits,dif_pos (by omega),hoc]
  ·have Mk:s.dropLast≠[]:=by intro e2;rw[e2]at hl;simp at hl;omega
   have hh:s.head?≠some 48:=by
    rcases hz with hz|hz
    ·omega
    ·exact hz
   have Ml:s.dropLast.head?=s.head? :=by
    cases hd:s.dropLast with
    |nil=>exact absurd hd Mk
    |cons a t=>rw[e,hd];rfl
   have i1:=ih s.dropLast hl Mk Am.1 (.inr (by rw[Ml];exact hh));have hge:1≤iM 0 s.dropLast:=by
    cases hd:s.dropLast with
    |nil=>exact absurd hd Mk
    |cons a t=>
     have EA:(a::t).all jW=true:=by rw[←hd];exact Am.1
     have:10^t.length≤iM 0 (a::t):=Wq EA (fun e3=>hh (by rw[←Ml,hd,e3];rfl));have O6:1≤10^t.length:=Nat.pos_of_ne_zero (by simp);omega
   have hs:iM 0 s=10*iM 0 s.dropLast+((s.getLast h0).toNat-48):=by
    conv=>lhs;rw[e]
    exact Wn _ _ _
   rw[hs,Lib.decDigits,dif_neg (by omega),show(10*iM 0 s.dropLast+((s.getLast h0).toNat-48)) / 10=iM 0 s.dropLast by omega,show(10*iM 0 s.dropLast+((s.getLast h0).toNat-48))%10=(s.getLast h0).toNat-48 by omega,i1,hoc];exact e.symm
theorem Wt(h:n<10):jW (UInt8.ofNat (48+n))=true:=by
 rw[VI];simp;omega
theorem Wu:∀(u:Nat),(Lib.decDigits u).all jW=true∧Lib.decDigits u≠[]∧iM 0 (Lib.decDigits u)=u∧(10≤u→(Lib.decDigits u).head?≠some 48)∧(1≤u→(Lib.decDigits u).head?≠some 48):=by
 intro u;induction u using Nat.strongRecOn with
 |_ u ih=>
  by_cases h:u<10
  ·have e:Lib.decDigits u=[UInt8.ofNat (48+u)]:=by rw[Lib.decDigits,dif_pos h]
   have hd:=Wt h;have ht:(UInt8.ofNat (48+u)).toNat=48+u:=by simp;omega
   rw[e];refine⟨by rw[List.all_cons,hd];rfl,by simp,by simp only[iM,List.foldl_cons,List.foldl_nil,ht];omega,fun h2=>by omega,fun h2 he=> ?_⟩;simp only[List.head?_cons,Option.some.injEq]at he;have:=congrArg UInt8.toNat he;rw[ht]at this;have h48:(48:UInt8).toNat=48:=rfl;omega
  ·have e:Lib.decDigits u=Lib.decDigits (u / 10)++[UInt8.ofNat (48+u%10)]:=by rw[Lib.decDigits,dif_neg h]
   obtain⟨i1,i2,i3,i4,i5⟩:=ih (u / 10) (by omega);have hd:=Wt (n:=u%10) (by omega);have ht:(UInt8.ofNat (48+u%10)).toNat=48+u%10:=by simp;omega
   have Ml:(Lib.decDigits u).head?≠some 48:=by
    rw[e];cases hc:Lib.decDigits (u / 10)with
    |nil=>exact absurd hc i2
    |cons a t=>
     have:=i5 (by omega);rw[hc]at this;exact this
   refine⟨?_,?_,?_,fun _=>Ml,fun _=>Ml⟩
   ·rw[e,List.all_append,i1,List.all_cons,hd];rfl
   ·rw[e];simp
   ·rw[e,Wn,i3,ht];omega
theorem Wv(s:af):eH s=true↔ ∃n:Int,Lib.atoiAll s= .ok n∧0≤n∧n≤1000000000∧Lib.itoa n=s:=by
 have hd:(fun c:UInt8=>decide (48≤c)&&decide (c≤57))=jW:=rfl;constructor
 ·intro h;unfold eH at h;rw[hd]at h;simp only[Bool.and_eq_true,decide_eq_true_eq]at h;obtain⟨⟨⟨⟨h1,h2⟩,h3⟩,h4⟩,h5⟩:=h;have h0:s≠[]:=by intro e;rw[e]at h1;simp at h1
  have hz:Ws s:=by
   by_cases hl:s.length=1
   ·exact .inl hl
   ·right;intro e;rw[e,Qt (show 1<s.length by omega)]at h3;simp at h3
  rw[P6 h4]at h5;refine⟨(iM 0 s:Nat),?_,by omega,h5,?_⟩
  ·cases hs:s with
   |nil=>exact absurd hs h0
   |cons c r=>
    have ha:(c::r).all jW=true:=by rw[←hs];exact h4
    have hc:jW c=true:=by rw[List.all_cons,Bool.and_eq_true]at ha;exact ha.1
    have hb:=GV hc;have hlen:(c::r).length≤10:=by rw[←hs];exact h2
    have hp:=Wp (c::r) 0 ha (by
     have:10^(c::r).length≤10^10:=Nat.pow_le_pow_right (by decide) hlen;omega)
    rw[Lib.atoiAll];rw[if_neg (by omega),Lib.parseMag,if_neg (by simp),hp];rw[hs]at h5;simp only;rw[if_neg (by omega),if_neg (by omega),if_neg (by omega)]
  ·rw[Lib.itoa,if_neg (by omega),Int.toNat_natCast];exact Xql _ s rfl h0 h4 hz
 ·rintro⟨n,_,h0,h1,h2⟩;obtain⟨u,rfl⟩:=Int.eq_ofNat_of_zero_le h0;rw[Lib.itoa,if_neg (by omega),Int.toNat_natCast]at h2;obtain⟨f1,f2,f3,f4,f5⟩:=Wu u;rw[h2]at f1 f2 f3 f4 f5;have IV:digits s=u:=by rw[P6 f1,f3]
  unfold eH;rw[hd,f1,IV,Qt h1];have yO:1≤s.length:=List.length_pos_iff.2 f2;have hz:(decide (1<s.length)&&s.head?==some 48)=false:=by
   cases hb:(decide (1<s.length)&&s.head?==some 48)with
   |false=>rfl
   |true=>
    rw[Bool.and_eq_true,decide_eq_true_iff,beq_iff_eq]at hb;by_cases hu:1≤u
    ·exact absurd hb.2 (f5 hu)
    ·have:u=0:=by omega
     subst this;have:s=[48]:=by rw[←h2,Lib.decDigits,dif_pos (by decide)];rfl
     rw[this]at hb;simp at hb
  have P7:s.length≤10:=by
   cases hs:s with
   |nil=>simp
   |cons c r=>
    by_cases hu:1≤u
    ·have hc:c≠48:=fun e=>f5 hu (by rw[hs,e];rfl);have:=Wq (c:=c) (l:=r) (by rw[←hs];exact f1) hc;rw[←hs,f3]at this;have hlt:¬10≤r.length:=by
      intro O6;have:10^10≤10^r.length:=Nat.pow_le_pow_right (by decide) O6;omega
     simp only[List.length_cons];omega
    ·have:u=0:=by omega
     subst this;have:s=[48]:=by rw[←h2,Lib.decDigits,dif_pos (by decide)];rfl
     rw[hs]at this;rw[this];simp
  rw[hz,Qt yO,Qt P7];rfl
theorem P8{W w1:World}{x:At}{T:TypeId}(hn:n=W.heap.size)(hb:Below (W.alloc (.cells #[S x.k,S x.v] T)).heap.size (W.alloc (.cells #[S x.k,S x.v] T)) w1):
 w1.cell? ⟨n,0,none⟩=some (S x.k)∧w1.cell? ⟨n,1,none⟩=some (S x.v):=by
 subst hn;refine⟨?_,?_⟩<;>(rw[hb.cell (by simp)];simp)
end Go.Proofs.YtmdfjnhfhidmhaaGreatDoor
namespace Go.Proofs
open Go.Shelf
def Tryz.uj:Go.Shelf.Ren:=⟨fun|160=>144|232=>186|231=>185|227=>187|234=>189|233=>188|236=>191|235=>190|228=>225|271=>228|151=>227|197=>226|120=>258|152=>257|260=>256|137=>267|119=>268|224=>269|225=>270|217=>277|266=>284|n=>n,fun|9=>9|4=>4|3=>3|5=>5|117=>221|116=>220|0=>0|124=>224|21=>21|105=>256|46=>186|119=>290|139=>293|138=>292|n=>n,fun|3=>3|4=>4|n=>n⟩
theorem Tryz.Bw:Go.Proofs.Lays.n160 Tryz.prog Tryz.uj:={
 mixed:=by kernel_rfl
 f119:=Tryz.func268.trans (congrArg some (by kernel_rfl))
 f120:=Tryz.func258.trans (congrArg some (by kernel_rfl))
 f137:=Tryz.func267.trans (congrArg some (by kernel_rfl))
 f151:=Tryz.func227.trans (congrArg some (by kernel_rfl))
 f152:=Tryz.func257.trans (congrArg some (by kernel_rfl))
 f160:=Tryz.func144.trans (congrArg some (by kernel_rfl))
 f197:=Tryz.func226.trans (congrArg some (by kernel_rfl))
 f217:=Tryz.func277.trans (congrArg some (by kernel_rfl))
 f224:=Tryz.func269.trans (congrArg some (by kernel_rfl))
 f225:=Tryz.func270.trans (congrArg some (by kernel_rfl))
 f227:=Tryz.func187.trans (congrArg some (by kernel_rfl))
 f228:=Tryz.func225.trans (congrArg some (by kernel_rfl))
 f231:=Tryz.func185.trans (congrArg some (by kernel_rfl))
 f232:=Tryz.func186.trans (congrArg some (by kernel_rfl))
 f233:=Tryz.func188.trans (congrArg some (by kernel_rfl))
 f234:=Tryz.func189.trans (congrArg some (by kernel_rfl))
 f235:=Tryz.func190.trans (congrArg some (by kernel_rfl))
 f236:=Tryz.func191.trans (congrArg some (by kernel_rfl))
 f260:=Tryz.func256.trans (congrArg some (by kernel_rfl))
 f266:=Tryz.func284.trans (congrArg some (by kernel_rfl))
 f271:=Tryz.func228.trans (congrArg some (by kernel_rfl))
 t0:=Tryz.underlying0
 a0:=Tryz.isAgg0
 z0:=Tryz.sizeOf0
 v0:=Tryz.zeroValue0
 t3:=Tryz.underlying3
 a3:=Tryz.isAgg3
 z3:=Tryz.sizeOf3
 v3:=Tryz.zeroValue3
 t4:=Tryz.underlying4
 a4:=Tryz.isAgg4
 z4:=Tryz.sizeOf4
 v4:=Tryz.zeroValue4
 t5:=Tryz.underlying5
 a5:=Tryz.isAgg5
 z5:=Tryz.sizeOf5
 v5:=Tryz.zeroValue5
 t9:=Tryz.underlying9
 a9:=Tryz.isAgg9
 z9:=Tryz.sizeOf9
 v9:=Tryz.zeroValue9
 t21:=Tryz.underlying21
 a21:=Tryz.isAgg21
 z21:=Tryz.sizeOf21
 v21:=Tryz.zeroValue21
 t46:=Tryz.underlying186
 a46:=Tryz.isAgg186
 z46:=Tryz.sizeOf186
 v46:=Tryz.zeroValue186
 t105:=Tryz.underlying256
 a105:=Tryz.isAgg256
 z105:=Tryz.sizeOf256
 v105:=Tryz.zeroValue256
 t116:=Tryz.underlying220
 a116:=Tryz.isAgg220
 z116:=Tryz.sizeOf220
 t117:=Tryz.underlying221
 a117:=Tryz.isAgg221
 z117:=Tryz.sizeOf221
 v117:=Tryz.zeroValue221
 t119:=Tryz.underlying290
 a119:=Tryz.isAgg290
 z119:=Tryz.sizeOf290
 t124:=Tryz.underlying224
 a124:=Tryz.isAgg224
 z124:=Tryz.sizeOf224
 v124:=Tryz.zeroValue224
 t138:=Tryz.underlying292
 a138:=Tryz.isAgg292
 z138:=Tryz.sizeOf292
 v138:=Tryz.zeroValue292
 t139:=Tryz.underlying293
 a139:=Tryz.isAgg293
 z139:=Tryz.sizeOf293
 v139:=Tryz.zeroValue293
 g3:=by kernel_rfl
 g4:=by kernel_rfl}
open Go.RowKit in
theorem Tryz.mQ(s cutset:ByteArray)(w:World)(hs:s.size≤9223372036854775807)(fK:cutset.size<4294967281)(Gh:∀(j:Nat) b,cutset.data.toList[j]?=some b→b.toNat<128):
 Calls Tryz.prog 144 #[.string s,.string cutset] w fun e w'=>e= .returned (.string ⟨(Lib.trimS s.data.toList cutset.data.toList).toArray⟩)∧RowKit.Below w.heap.size w w':=Any.strings_Trim_laid Tryz.Bw (by kernel_rfl) s cutset w hs fK Gh
end Go.Proofs
namespace Go.Proofs.YtmdfjnhfhidmhaaGreatDoor
open Go.RowKit
abbrev iN:af:=[97,98,99,100,101,102,103,104,105,106,107,108,109,110,111,112,113,114,115,116,117,118,119,120,121,122,48,49,50,51,52,53,54,55,56,57,46,95,45]
theorem Xjb(c:UInt8):iN.contains c=iL c:=by
 have h:∀n:Fin 256,iN.contains (UInt8.ofNat n.1)=iL (UInt8.ofNat n.1):=by decide
 have:=h ⟨c.toNat,c.toNat_lt⟩;simpa using this
theorem Ww(s cs:af):Lib.trimS s cs=[]↔s.all (cs.contains ·)=true:=by
 have hd:∀l:af,l.dropWhile (cs.contains ·)=[]↔l.all (cs.contains ·)=true:=by
  intro l;induction l with
  |nil=>simp
  |cons x l ih=>
   rw[List.dropWhile_cons,List.all_cons];cases h:cs.contains x
   ·simp
   ·simp only[if_true,Bool.true_and];exact ih
 have Bh:∀l:af,(l.dropWhile (cs.contains ·)).all (cs.contains ·)=l.all (cs.contains ·):=by
  intro l;induction l with
  |nil=>rfl
  |cons x l ih=>
   rw[List.dropWhile_cons];cases h:cs.contains x
   ·rfl
   ·simp only[if_true];rw[ih,List.all_cons,h,Bool.true_and]
 unfold Lib.trimS Lib.trimLeftS Lib.trimRightS;rw[hd,List.all_reverse,Bh,List.all_reverse]
theorem Xp5(s:af)(hs:s.length≤9223372036854775807)(w:World):
 Calls Tryz.prog 144 #[S s,S iN] w fun e w'=>e= .returned (S (Lib.trimS s iN))∧Below w.heap.size w w':=by
 have h:=Tryz.mQ ⟨s.toArray⟩ ⟨iN.toArray⟩ w (by rw[ByteArray.size_mk',List.size_toArray];exact hs) (by decide) (ascii_of_all (by decide));exact h
def iH(s:af):Int:=if o7 s then 0 else 7
theorem P9(s:af)(hs:s.length≤9223372036854775807)(w:World):
 Calls Tryz.prog 220 #[S s] w fun e w'=>e= .returned (.int .i64 (iH s))∧Below w.heap.size w w':=by
 by_cases h1:s=[]
 ·have hE:iH s=7:=by rw[h1];rfl
  have HE:=Qh hE;have f1:(s==[])=true:=by rw[h1];rfl
  have f2:s.isEmpty=true:=by rw[h1];rfl
  have f3:(!s.isEmpty)=false:=by rw[h1];rfl
  clear hE h1;go_enter Tryz.func220,Tryz.ntmps220
  go_wp2;go_ret;exact⟨dK HE.q.symm,Qb _ _⟩
 ·have hlen:1≤s.length:=by cases s<;>simp_all
  have f1:(s==[])=false:=by simpa using h1
  have f2:s.isEmpty=false:=by cases s<;>simp_all
  have f3:(!s.isEmpty)=true:=by rw[f2];rfl
  clear h1;by_cases rf:s.length≤32
  ·have xq:decide (32<s.length)=false:=Qf (by omega);have hk:o7 s=s.all (iN.contains ·):=by
    have:(fun c=>iN.contains c)=iL:=funext Xjb;rw[this];simp[o7,rf,hlen]
   have ht:=Ww s iN;have Qa:=Qh (Xp5 s hs);generalize hT:Lib.trimS s iN=T at ht Qa;by_cases Dj:T=[]
   ·have HE:=Qh (show iH s=0 by rw[iH,hk,if_pos (ht.1 Dj)]);have g1:(T==[])=true:=by rw[Dj];rfl
    have g2:T.isEmpty=true:=by rw[Dj];rfl
    have g3:(!T.isEmpty)=false:=by rw[Dj];rfl
    clear Dj ht hk hT;go_enter Tryz.func220,Tryz.ntmps220
    go_wp2_with fail
    refine(Qa.q _).mono ?_;rintro e w1 ⟨rfl,aG⟩;go_wp2;go_ret;exact⟨dK HE.q.symm,aG⟩
   ·have HE:=Qh (show iH s=7 by rw[iH,hk,if_neg (fun h=>Dj (ht.2 h))]);have g1:(T==[])=false:=by simpa using Dj
    have g2:T.isEmpty=false:=by cases T<;>simp_all
    have g3:(!T.isEmpty)=true:=by rw[g2];rfl
    clear Dj ht hk hT;go_enter Tryz.func220,Tryz.ntmps220
    go_wp2_with fail
    refine(Qa.q _).mono ?_;rintro e w1 ⟨rfl,aG⟩;go_wp2;go_ret;exact⟨dK HE.q.symm,aG⟩
  ·have xq:decide (32<s.length)=true:=Qt (by omega);have HE:=Qh (show iH s=7 by rw[iH,if_neg (by simp[o7,rf])]);go_enter Tryz.func220,Tryz.ntmps220
   go_wp2;go_ret;exact⟨dK HE.q.symm,Qb _ _⟩
theorem Xsy(x:At)(hx:x.Wf)(w:World):
 Calls Tryz.prog 178 #[x.val] w fun e w'=>e= .returned (.int .i64 (fQ x))∧Below w.heap.size w w':=by
 obtain⟨kM,rO⟩:=hx;cases hk:o7 x.k
 ·have HE:=Qh (show iH x.k=7 by rw[iH,hk];rfl);have HA:=Qh (show fQ x=7 by rw[fQ,if_pos hk]);clear hk;go_enter Tryz.func178,Tryz.ntmps178
  go_wp2_with fail
  refine(P9 x.k kM _).mono ?_;rintro e w1 ⟨rfl,aG⟩;rw[HE.q];go_wp2;go_ret;exact⟨dK HA.q.symm,((Qb _ _).alloc (Qn _) _).trans (aG.mono (by simp))⟩
 ·have HE:=Qh (show iH x.k=0 by rw[iH,hk];rfl);have Hk:=Qh hk;clear hk;by_cases h64:x.v.length≤64
  ·have hd:decide (64<x.v.length)=false:=Qf (by omega);have HA:=Qh (show fQ x=0 by rw[fQ,if_neg (by rw[Hk.q];simp),if_neg (by omega)]);go_enter Tryz.func178,Tryz.ntmps178
   go_wp2_with fail
   refine(P9 x.k kM _).mono ?_;rintro e w1 ⟨rfl,aG⟩;rw[HE.q];obtain⟨yP,sP⟩:=P8 rfl aG;go_wp2;go_ret;exact⟨dK HA.q.symm,((Qb _ _).alloc (Qn _) _).trans (aG.mono (by simp))⟩
  ·have hd:decide (64<x.v.length)=true:=Qt (by omega);have HA:=Qh (show fQ x=6 by rw[fQ,if_neg (by rw[Hk.q];simp),if_pos (by omega)]);go_enter Tryz.func178,Tryz.ntmps178
   go_wp2_with fail
   refine(P9 x.k kM _).mono ?_;rintro e w1 ⟨rfl,aG⟩;rw[HE.q];obtain⟨yP,sP⟩:=P8 rfl aG;go_wp2;go_ret;exact⟨dK HA.q.symm,((Qb _ _).alloc (Qn _) _).trans (aG.mono (by simp))⟩
theorem Wx:∀(a b:af),Lib.compareBytes a b=if Op.bytesLess a b then -1 else if a==b then 0 else 1
 | [],[]=>rfl
 | [],_::_=>rfl
 |_::_,[]=>rfl
 |x::a,y::b=>by
  rw[Lib.compareBytes,Wx a b,Op.bytesLess];by_cases h1:x<y
  ·simp[h1]
  ·by_cases h2:y<x
   ·have:¬x=y:=fun e=>by subst e;exact UInt8.lt_irrefl _ h2
    simp[h1,h2,this]
   ·have e:x=y:=UInt8.le_antisymm (UInt8.not_lt.1 h2) (UInt8.not_lt.1 h1);subst e;simp
theorem Xj5(a b:af)(w:World):Calls Tryz.prog 179 #[S a,S b] w fun e w'=>e= .returned (.int .i64 (Lib.compareBytes a b))∧Below w.heap.size w w':=
 (Tryz.strings_Compare ⟨a.toArray⟩ ⟨b.toArray⟩ w).mono fun _ _ ⟨h1,h2⟩=>⟨h1,by rw[h2];exact Qb _ _⟩
theorem Xqv(I:IH)(v:Value)(l:List At)(hv:aY lv I v l)(hl:∀x∈l,x.Wf)(w:World)(hw:Ok I w):
 Calls Tryz.prog 131 #[v] w fun e w'=>e= .returned (.int .i64 (nK l))∧Below w.heap.size w w':=by
 have hlen:=hv.bK;obtain⟨ao,cap,rfl,dM,gV,_⟩:=id hv;have Hv:=Qh hv;clear hv;have Hl:=Qh hl;clear hl;by_cases Mm:l.length≤16
 ·have hd:decide (16<l.length)=false:=Qf (by omega);have uk:=Qh (show nK l=eG none l by rw[nK,if_neg (by omega)]);go_enter Tryz.func131,Tryz.ntmps131
  go_wp2_with fail
  go_loopw [11] (fun s11 wr=> ∃k:Nat,k≤l.length∧s11= .int .i64 k∧eG (if k=0 then none else l[k-1]?) (l.drop k)=eG none l∧Below w.heap.size w wr) (fun i _=>l.length-(intOf i).toNat)
  case atStart=>exact⟨0,Nat.zero_le _,rfl,rfl,Qb _ _⟩
  case round=>
   obtain⟨k,hk,rfl,hr,hb⟩:=hrel;have Hr:=Qh hr;clear hr;by_cases hlt:k<l.length
   ·have gZ:Ok I wr:=hw.below (Qn _) hb;obtain⟨x,b,off,cap',dz,dC,yP,sP⟩:=xE Hv.q gZ k hlt;cases dC;have Eh:x∈l:=by rw[←dz];exact List.getElem_mem hlt
    have Qc:=Qh (Hl.q x Eh);have bT:=Qh (show nK l=if fQ x≠0 then fQ x else if((if k=0 then none else l[k-1]?).any fun q=>q.k==x.k)then 8 else if((if k=0 then none else l[k-1]?).any fun q=>Op.bytesLess x.k q.k)then 14 else eG (some x) (l.drop (k+1)) by
     rw[uk.q,←Hr.q,List.drop_eq_getElem_cons hlt,dz,Xji])
    have JE:=Qh (show l[k]?=some x by rw[List.getElem?_eq_getElem hlt,dz]);clear dz Eh;go_wp2_with fail
    refine(Xsy x Qc.q _).mono ?_;rintro e w1 ⟨rfl,aG⟩;obtain⟨uP,kM⟩:=P8 rfl aG;have aO:=(hb.alloc hb.size _).trans (aG.mono (by have:=hb.size;simp;omega));have Ei:Ok I w1:=hw.below (Qn _) aO;clear aG yP sP;by_cases h0:fQ x=0
    ·have H0:=Qh h0;rw[h0];clear h0;by_cases Bi:k=0
     ·have UI:((k:Int)==0)=true:=by rw[Bi];rfl
      have qM:=Qh (show eG (if k+1=0 then none else l[k+1-1]?) (l.drop (k+1))=eG none l by
       rw[←uk.q,bT.q,H0.q,if_neg (by omega),Nat.add_sub_cancel,JE.q];simp[Bi])
      clear Bi;go_wp2;go_roundw;case rel=>exact⟨k+1,by omega,by go_num,qM.q,aO⟩
      case measure=>simp[intOf];omega
     ·obtain⟨q,b',off',wF,hlq,dC,UB,hp1⟩:=xE Hv.q Ei (k-1) (by omega);cases dC;have vD:=Qh (show nK l=if(q.k==x.k)then 8 else if Op.bytesLess x.k q.k then 14 else eG (some x) (l.drop (k+1)) by
       rw[bT.q,H0.q,if_neg (by omega),if_neg Bi,List.getElem?_eq_getElem (by omega),hlq];rfl)
      have UI:((k:Int)==0)=false:=by rw[beq_eq_false_iff_ne];omega
      have hi:IntKind.i64.wrap ((k:Int)-1)=(k:Int)-1:=IntWalk.i64_in _ (by omega);have hj:0≤(k:Int)-1:=by omega
      have hm:((k:Int)-1).toNat=k-1:=by omega
      have O3:=cell_regrown uP;have UC:=cell_regrown UB;have wo:=Wx q.k x.k;have rV:=Qh (fun W=>Xj5 q.k x.k W);generalize Lib.compareBytes q.k x.k=r at wo rV;clear hlq;rcases Jj q.k x.k with ht|ht|ht
      ·have fE:r= -1:=by rw[wo,ht];rfl
       have qM:=Qh (show eG (if k+1=0 then none else l[k+1-1]?) (l.drop (k+1))=eG none l by
        have Ej:(q.k==x.k)=false:=by simpa using Jl ht
        rw[←uk.q,vD.q,Jk ht,Ej,Nat.add_sub_cancel,JE.q];simp)
       subst fE;clear ht wo;go_wp2_with fail
       refine wp_region_quiet_below (by kernel_rfl) (by kernel_rfl) ?_;repeat(go_big_quiet_step ((with_reducible exact Calls.regrown_of (rV.q _))))
       refine wpQuiet_nil ?_;intro w2 dD;have aP:Below (w1).heap.size (w1) w2:=by
        obtain⟨pq,rfl⟩:=dD;exact below_regrown _ _ _
       clear dD;go_wp2;go_roundw;case rel=>exact⟨k+1,by omega,by go_num,qM.q,aO.trans (aP.mono aO.size)⟩
       case measure=>simp[intOf];omega
      ·have Ej:(q.k==x.k)=true:=by rw[ht];exact beq_self_eq_true _
       have yl:Op.bytesLess q.k x.k=false:=by rw[ht];exact Bn _
       have fE:r=0:=by rw[wo,yl,Ej];rfl
       have qM:=Qh (show nK l=8 by rw[vD.q,if_pos Ej]);subst fE;clear ht wo Ej yl;go_wp2_with fail
       refine wp_region_quiet_below (by kernel_rfl) (by kernel_rfl) ?_;repeat(go_big_quiet_step ((with_reducible exact Calls.regrown_of (rV.q _))))
       refine wpQuiet_nil ?_;intro w2 dD;have aP:Below (w1).heap.size (w1) w2:=by
        obtain⟨pq,rfl⟩:=dD;exact below_regrown _ _ _
       clear dD;go_wp2;go_ret;exact⟨dK qM.q.symm,aO.trans (aP.mono aO.size)⟩
      ·have aZ:(q.k==x.k)=false:=by simpa using(Jl ht).symm
       have fE:r=1:=by rw[wo,Jk ht,aZ];rfl
       have qM:=Qh (show nK l=14 by rw[vD.q,if_neg (by rw[aZ];simp),if_pos ht]);subst fE;clear ht wo aZ;go_wp2_with fail
       refine wp_region_quiet_below (by kernel_rfl) (by kernel_rfl) ?_;repeat(go_big_quiet_step ((with_reducible exact Calls.regrown_of (rV.q _))))
       refine wpQuiet_nil ?_;intro w2 dD;have aP:Below (w1).heap.size (w1) w2:=by
        obtain⟨pq,rfl⟩:=dD;exact below_regrown _ _ _
       clear dD;go_wp2;go_ret;exact⟨dK qM.q.symm,aO.trans (aP.mono aO.size)⟩
    ·obtain⟨q,hq⟩:∃q,fQ x=q:=⟨_,rfl⟩;have Gi:(q !=0)=true:=by rw[←hq];simpa using h0
     have Hs:=Qh (show nK l=q by rw[bT.q,if_pos h0,hq]);rw[hq];clear hq h0;go_wp2;go_ret;exact⟨dK Hs.q.symm,aO⟩
   ·go_wp2;go_ret;refine⟨dK ?_,hb⟩;rw[uk.q,←Hr.q,List.drop_of_length_le (by omega)];rfl
 ·have hd:decide (16<l.length)=true:=Qt (by omega);go_enter Tryz.func131,Tryz.ntmps131
  go_wp2;go_ret;exact⟨dK (by rw[nK,if_pos (by omega)]),Qb _ _⟩
theorem cB.tab{I : IH}{w : World}(h : cB I)(hw : Ok I w) : Lib.TabIs Tryz.prog w "internal/strconv.uint64pow10" .u64 Lib.pow10Tab :=by
 obtain⟨e,f,hh⟩:=hw _ _ h.pow;unfold Lib.TabIs World.var?;have hg : Tryz.prog.globalNamed "internal/strconv.uint64pow10" =some 5 :=by kernel_rfl
 simp[hg,hh]
theorem cB.Qd{I : IH}{w : World}(h : cB I)(hw : Ok I w) : ∃tp p,w.var? Tryz.prog "strconv.ErrSyntax" =some #[.iface tp p] :=by
 obtain⟨tp,p,h1⟩:=h.VS;obtain⟨e,f,hh⟩:=hw _ _ h1;refine⟨tp,p,?_⟩;unfold World.var?;have hg : Tryz.prog.globalNamed "strconv.ErrSyntax" =some 1 :=by kernel_rfl
 simp[hg,hh]
theorem cB.Qe{I : IH}{w : World}(h : cB I)(hw : Ok I w) : ∃tp p,w.var? Tryz.prog "strconv.ErrRange" =some #[.iface tp p] :=by
 obtain⟨tp,p,h1⟩:=h.VT;obtain⟨e,f,hh⟩:=hw _ _ h1;refine⟨tp,p,?_⟩;unfold World.var?;have hg : Tryz.prog.globalNamed "strconv.ErrRange" =some 2 :=by kernel_rfl
 simp[hg,hh]
theorem Qj(I:IH)(hI:cB I)(n:Int)(w:World)(hw:Ok I w)(h0: -9223372036854775808≤n)(h1:n≤9223372036854775807):
 Calls Tryz.prog 201 #[.int .i64 n] w fun e w'=>e= .returned (S (Lib.itoa n))∧Below w.heap.size w w':=
 (Tryz.strconv_Itoa n h0 h1 w (hI.tab hw)).mono fun e w' ⟨he,k,os,hq⟩=>⟨he,by rw[hq];exact Lib.below_grow _ _ (Qn _) _ _⟩
def Bz(w:World)(e:Ending)(w':World):Prop:=∃n N,e= .returned (.tuple #[.int .i64 n,.iface 262 (.pointer (some ⟨N,0,none⟩))])∧Below w.heap.size w w'
theorem Wy(s:af)(hs:s.length≤4294967280)(n:Int)(h:Lib.atoiAll s= .ok n)(w:World):
 Calls Tryz.prog 145 #[S s] w fun e w'=>e= .returned (.tuple #[.int .i64 n,.nilIface])∧Below w.heap.size w w':=by
 have cu:(⟨s.toArray⟩:ByteArray).size=s.length:=by simp[ByteArray.size]
 refine(Tryz.strconv_Atoi_ok ⟨s.toArray⟩ (by omega) n h w).mono fun e w' ⟨h1,h2⟩=>⟨h1,?_⟩;rcases h2 with h2|⟨t,h2⟩
 ·rw[h2];exact Qb _ _
 ·rw[h2];exact Joins.below_bytesWorld _ _ _ _ (Qn _)
theorem Xio(I:IH)(hI:cB I)(s:af)(hs:s.length≤4294967280)(h:∀n,Lib.atoiAll s≠ .ok n)(w:World)(hw:Ok I w):
 Calls Tryz.prog 145 #[S s] w (Bz w):=by
 have cu:(⟨s.toArray⟩:ByteArray).size=s.length:=by simp[ByteArray.size]
 by_cases hr:Lib.atoiAll s= .range
 ·obtain⟨tp,p,hv⟩:=hI.Qe hw;exact(Tryz.strconv_Atoi_range_var ⟨s.toArray⟩ (by omega) hr tp p w hv).mono fun e w' ⟨N,h1,_,_,h4⟩=>⟨_,N,h1,h4⟩
 ·obtain⟨tp,p,hv⟩:=hI.Qd hw;exact(Tryz.strconv_Atoi_syntax_var ⟨s.toArray⟩ (by omega) h hr tp p w hv).mono fun e w' ⟨N,h1,_,_,h4⟩=>⟨0,N,h1,h4⟩
theorem Xog(I:IH)(hI:cB I)(s:af)(hs:s.length≤4294967280)(w:World)(hw:Ok I w):
 Calls Tryz.prog 180 #[S s] w fun e w'=>e= .returned (.bool (eH s))∧Below w.heap.size w w':=by
 have O7:=Wv s;by_cases iU:∃n,Lib.atoiAll s= .ok n;case neg=>
  have Hn:=Qh (show eH s=false by
   cases h:eH s with
   |false=>rfl
   |true=>obtain⟨n,h1,_⟩:=O7.1 h;exact absurd ⟨n,h1⟩ iU)
  have Dk:=Qh (Xio I hI s hs (fun n h=>iU ⟨n,h⟩) w hw);clear O7 iU;go_enter Tryz.func180,Tryz.ntmps180
  go_wp2_with fail
  refine Dk.q.mono ?_;rintro e w1 ⟨n,N,rfl,aG⟩;go_wp2;go_ret;exact⟨iG Hn.q.symm,aG⟩
 obtain⟨n,hn⟩:=iU;have Dk:=Qh (Wy s hs n hn w);have Hd:=Qh (show eH s=(decide (0≤n)&&decide (n≤1000000000)&&decide (Lib.itoa n=s)) by
  rw[Bool.eq_iff_iff,O7];simp only[Bool.and_eq_true,decide_eq_true_eq];constructor
  ·rintro⟨m,h1,h2,h3,h4⟩;rw[hn]at h1;injection h1 with h1
   subst h1;exact⟨⟨h2,h3⟩,h4⟩
  ·rintro⟨⟨h2,h3⟩,h4⟩;exact⟨n,hn,h2,h3,h4⟩)
 clear O7 hn;by_cases h0:0≤n;case neg=>
  have Hn:=Qh (show eH s=false by rw[Hd.q,Qf h0];rfl);go_enter Tryz.func180,Tryz.ntmps180
  go_wp2_with fail
  refine Dk.q.mono ?_;rintro e w1 ⟨rfl,aG⟩;go_wp2;go_ret;exact⟨(by first|exact iG Hn.q.symm|(rw[Hn.q];congr 1;simp;omega)),aG⟩
 by_cases h1:n≤1000000000;case neg=>
  have Hn:=Qh (show eH s=false by rw[Hd.q,Qf h1,Bool.and_false];rfl);go_enter Tryz.func180,Tryz.ntmps180
  go_wp2_with fail
  refine Dk.q.mono ?_;rintro e w1 ⟨rfl,aG⟩;go_wp2;go_ret;exact⟨(by first|exact iG Hn.q.symm|(rw[Hn.q];congr 1;simp;omega)),aG⟩
 have Hn:=Qh (show eH s=(Lib.itoa n==s) by
  rw[Hd.q,Qt h0,Qt h1];by_cases h:Lib.itoa n=s<;>simp[h])
 have qN:=Qh (fun w hw=>Qj I hI n w hw (by omega) (by omega));obtain⟨t,ht⟩:∃t,Lib.itoa n=t:=⟨_,rfl⟩;rw[ht]at qN Hn;clear ht;go_enter Tryz.func180,Tryz.ntmps180
 go_wp2_with fail
 refine Dk.q.mono ?_;rintro e w1 ⟨rfl,aG⟩;go_wp2_with fail
 refine(qN.q _ (hw.below (Qn _) aG)).mono ?_;rintro e w2 ⟨rfl,aP⟩;go_wp2;go_ret;exact⟨iG Hn.q.symm,aG.trans (aP.mono aG.size)⟩
theorem Xof(I:IH)(hI:cB I)(x:aQ)(hx:x.av.length≤4294967280)(va vx:Value)(w:World)(hw:Ok I w):
 Calls Tryz.prog 132 #[fG x va vx] w fun e w'=>e= .returned (.bool (bR x))∧Below w.heap.size w w':=by
 by_cases h3:x.aj=3
 ·have f3:((x.aj:Int)==3)=true:=by simpa using h3
  by_cases h1:x.av=[]
  ·have Ht:=Qh (show bR x=false by rw[bR,if_pos h3,h1];rfl);obtain⟨p1,p2,p3,p4⟩:=Bp h1;clear h3 h1;go_enter Tryz.func132,Tryz.ntmps132
   go_wp2;go_ret;exact⟨iG Ht.q.symm,(Qb _ _).alloc (Qn _) _⟩
  have yO:1≤x.av.length:=List.length_pos_iff.2 h1;have Ht:=Qh (show bR x=decide (x.av.length≤200) by rw[bR,if_pos h3,Qt yO];rfl);obtain⟨p1,p2,p3,p4⟩:=Bo h1;clear h3 h1;go_enter Tryz.func132,Tryz.ntmps132
  go_wp2;go_ret;exact⟨iG (by rw[Ht.q,decide_eq_decide];omega),(Qb _ _).alloc (Qn _) _⟩
 have f3:((x.aj:Int)==3)=false:=by simpa using h3
 by_cases h5:x.aj=5
 ·have f5:((x.aj:Int)==5)=true:=by simpa using h5
  have Ht:=Qh (show bR x=eH x.av by rw[bR,if_neg h3,if_pos h5]);clear h3 h5;go_enter Tryz.func132,Tryz.ntmps132
  go_wp2_with fail
  refine(Xog I hI x.av hx _ (hw.alloc _)).mono ?_;rintro e w1 ⟨rfl,aG⟩;go_wp2;go_ret;exact⟨iG Ht.q.symm,((Qb _ _).alloc (Qn _) _).trans (aG.mono (by simp))⟩
 have f5:((x.aj:Int)==5)=false:=by simpa using h5
 have Ht:=Qh (show bR x=x.av.isEmpty by rw[bR,if_neg h3,if_neg h5]);clear h3 h5;go_enter Tryz.func132,Tryz.ntmps132
 go_wp2;go_ret;exact⟨iG (by rw[Ht.q]),(Qb _ _).alloc (Qn _) _⟩
theorem AC{P:Program}(w:World)(dT sT ty elem:TypeId)(size g o dLen dCap:Nat)(a:Addr)(sLen sCap:Nat)(cur:Array Value)(t:TypeId)(cs:List Value)
 (hu:P.underlying dT=some (.slice elem)) (hs:(P.info? elem).map (·.size)=some size)
 (hg:w.heap[g]?=some (.cells cur t (0,0))) (hn:cs.length=Nat.min sLen dLen*size)
 (UJ:∀j v,cs[j]?=some v→w.cell? (a.add j)=some v) (j5:o+cs.length≤cur.size) (h1:∀v∈cs,v.oneCell'=true):
 (Builtin.copy_ #[dT,sT] ty #[.slice (some ⟨g,o,none⟩) dLen dCap,.slice (some a) sLen sCap]).run P w=
   .ok (goInt (Nat.min sLen dLen)) (w.setRow g (cur.toList.take o++cs++cur.toList.drop (o+cs.length)).toArray):=by
 have kN:=run_storeCells_at P g o t cs 0 cur w hg (by simpa using j5) h1;cases hq:P.info? elem with
 |none=>simp[hq]at hs
 |some i=>
  have hi:i.size=size:=by simpa[hq]using hs
  have hf:=run_firstCells_some (P:=P) w i.size (Nat.min sLen dLen) a sLen sCap cs (by rw[hi];exact hn) UJ;simp only[Nat.min_def]at hf ⊢;simp[Builtin.copy_,run_underlying hu,Builtin.lenOf,sizeOf,typeInfo,hq,Nat.min_def,hf,kN]
def over(cur:Array Value)(o:Nat)(cs:List Value):Array Value:=(cur.toList.take o++cs++cur.toList.drop (o+cs.length)).toArray
theorem yx(cur:Array Value)(o:Nat)(cs:List Value)(h:o+cs.length≤cur.size):(over cur o cs).size=cur.size:=by
 simp[over];omega
theorem Qk(cur:Array Value)(o:Nat)(cs:List Value)(h:o≤cur.size):(over cur o cs).toList.take (o+cs.length)=cur.toList.take o++cs:=by
 simp only[over];rw[List.take_append_of_le_length (by simp;omega)];rw[List.take_of_length_le (by simp;omega)]
theorem insert_row(cur:Array Value)(xs news:List Value)(p k:Nat)(hp:p≤xs.length)(hx:cur.toList.take xs.length=xs)(hk:news.length=k)(cu:xs.length+k≤cur.size):
 (over (over cur (p+k) (xs.drop p)) p news).toList.take (xs.length+k)=xs.take p++news++xs.drop p:=by
 have bU:cur.toList.length=cur.size:=by simp
 have h1:(over cur (p+k) (xs.drop p)).toList=cur.toList.take (p+k)++xs.drop p++cur.toList.drop (p+k+(xs.drop p).length):=rfl;have h2:∀c:Array Value,(over c p news).toList=c.toList.take p++news++c.toList.drop (p+k):=fun c=>by simp[over,hk]
 rw[h2,h1];have e1:(cur.toList.take (p+k)++xs.drop p++cur.toList.drop (p+k+(xs.drop p).length)).take p=xs.take p:=by
  rw[List.append_assoc,List.take_append_of_le_length (by simp;omega),List.take_take,Nat.min_eq_left (by omega)];conv=>rhs;rw[←hx]
  rw[List.take_take,Nat.min_eq_left hp]
 have e2:(cur.toList.take (p+k)++xs.drop p++cur.toList.drop (p+k+(xs.drop p).length)).drop (p+k)=xs.drop p++cur.toList.drop (p+k+(xs.drop p).length):=by
  rw[List.append_assoc,List.drop_append_of_le_length (by simp;omega)];rw[List.drop_eq_nil_of_le (by simp;omega),List.nil_append]
 rw[e1,e2,←List.append_assoc,List.take_append_of_le_length (by simp;omega),List.take_of_length_le (by simp;omega)]
theorem Wz(cur:Array Value)(xs news:List Value)(p k:Nat)(hp:p≤xs.length)(hx:cur.toList.take p=xs.take p)(hk:news.length=k)(cu:xs.length+k≤cur.size):
 (over (over cur p news) (p+k) (xs.drop p)).toList.take (xs.length+k)=xs.take p++news++xs.drop p:=by
 have h1:=Qk cur p news (by omega);rw[hk,hx]at h1;have h2:=Qk (over cur p news) (p+k) (xs.drop p) (by rw[yx _ _ _ (by omega)];omega);rw[h1,List.length_drop,show p+k+(xs.length-p)=xs.length+k by omega]at h2;exact h2
theorem vE{w:World}{g:Nat}{cur:Array Value}:w.grownBy (w.setRow g cur) (some g):=
 ⟨rfl,rfl,rfl,by simp,fun k _ hk=>setRow_other w g k _ (fun e=>hk (by rw[e]))⟩
theorem GX{a b c:World}{row:Option Nat}(h:a.grownBy b row)(k:b.grownBy c row):a.grownBy c row:=
 ⟨k.os.trans h.os,k.tape.trans h.tape,k.output.trans h.output,Nat.le_trans h.size k.size,fun j hj aZ=>(k.block j (Nat.lt_of_lt_of_le hj h.size) aZ).trans (h.block j hj aZ)⟩
