/- Lemmas for the claim's theorem;conditions: as each says. -/
import Derived.Test.YtdodihnehppnmaaGreatDoorG20
import Derived.Laws.OwnMore
set_option maxHeartbeats 0
set_option maxRecDepth 100000
set_option linter.all false
namespace Go.Proofs.YtdodihnehppnmaaGreatDoor
variable{st:List ae}{x:ay}{l:List dm}{k:Nat}{α:Type}{e y:ay}{t:List ay}{n:Nat}{s:kC}{p:α→Bool}{r q:ae}{I:IH}
theorem Yl(h:fI x=false):x.af.length≤300∧x.target.length≤300∧x.aj.length≤100∧x.ak.length≤30:=by
 simp[fI]at h;omega
structure zi (n:Nat) (s:kC):Prop where
 ok:Dv n s
 FH:pJ s.aJ
theorem Ym:zi 0 kZ:=⟨Xsh,fun _ h=>(by cases h)⟩
theorem zi.mono{m:Nat}(h:zi n s)(hm:n≤m):zi m s:=⟨h.ok.mono hm,h.FH⟩
theorem Ud(h:zi n s)(e:ay)(d:Int)(hp:e.af.length≤300)(ht:e.target.length≤300):zi (n+1) (dY s e d).1:=by
 refine⟨Xpm h.ok e d,?_⟩;unfold dY;split
 ·exact h.FH
 ·rename_i h1;split
  ·exact h.FH
  ·split
   ·exact h.FH
   ·have ha:=Pb (t:=s.aJ) (e:=e) (by omega);obtain⟨_,hx⟩:=jR.1 ha;intro z hz;rw[hx]at hz;rcases(Xyr h.ok.aJ.vI e z).1 hz with⟨_,rfl⟩|⟨hz,_⟩
    ·omega
    ·exact h.FH z hz
theorem Xsp:∀(l:List ay) {n:Nat} {s:kC} (_:zi n s) (d:Int),(∀e∈l,e.af.length≤300∧e.target.length≤300)→zi (n+l.length) (Bw s d l)
 | [],_,_,h,_,_=>h
 |e::l,n,s,h,d,hl=>by
  have he:=hl e (List.mem_cons_self ..);have:=Xsp l (Ud h e d he.1 he.2) d fun x hx=>hl x (List.mem_cons_of_mem _ hx);exact this.mono (by simp;omega)
theorem Xvk:∀(l:List dm) {n:Nat} {s:kC} (_:zi n s),(∀x∈l,kR x)→zi (n+30*l.length) (tY s l)
 | [],_,_,h,_=>h
 |x::l,n,s,h,hl=>by
  have hx:=hl x (List.mem_cons_self ..);have h1:=Xsp x.aH h x.aT fun e he=>⟨hx.af e he,hx.target e he⟩;have:=Xvk l h1 fun y hy=>hl y (List.mem_cons_of_mem _ hy);have hn:=hx.qG;exact this.mono (by simp only[List.length_cons];omega)
def pairs(l:List dm):List (dm×ay):=l.flatMap fun s=>s.aH.map fun e=>(s,e)
def A9(s:kC)(q:dm×ay):kC:=(dY s q.2 q.1.aT).1
theorem Xl2(x:dm):∀(l:List ay) (s:kC),Bw s x.aT l=(l.map fun e=>(x,e)).foldl A9 s
 | [],_=>rfl
 |e::l,s=>by
  rw[List.map_cons,List.foldl_cons];exact Xl2 x l _
theorem Xnw:∀(l:List dm) (s:kC),tY s l=(pairs l).foldl A9 s
 | [],_=>rfl
 |x::l,s=>by
  rw[pairs,List.flatMap_cons,List.foldl_append,←Xl2];exact Xnw l _
def Yn(p:ae):kC→List (dm×ay)→List Fp
 |_,[]=> []
 |s,q::r=>(if Dw s p q.2 then [⟨q.1.num,q.1.aT,q.2⟩]else [])++Yn p (A9 s q) r
theorem Xmk:∀{l:List dm},(∀x∈l,kR x)→(pairs l).length≤30*l.length
 | [],_=>Qn _
 |x::l,h=>by
  have h1:=(h x (List.mem_cons_self ..)).qG;have h2:=Xmk (l:=l) fun y hy=>h y (List.mem_cons_of_mem _ hy);rw[pairs,List.flatMap_cons,List.length_append,List.length_map,List.length_cons];have:(List.flatMap (fun s:dm=>List.map (fun e=>(s,e)) s.aH) l).length≤30*l.length:=h2;omega
theorem Xqe:∀(l:List (dm×ay)) {n:Nat} {s:kC} (_:zi n s),(∀q∈l,q.2.af.length≤300∧q.2.target.length≤300)→zi (n+l.length) (l.foldl A9 s)
 | [],_,_,h,_=>h
 |q::l,n,s,h,hl=>by
  have he:=hl q (List.mem_cons_self ..);have:=Xqe l (Ud h q.2 q.1.aT he.1 he.2) fun x hx=>hl x (List.mem_cons_of_mem _ hx);exact this.mono (by simp;omega)
theorem Xub(l:List (dm×ay))(q:dm×ay)(s:kC):(l++[q]).foldl A9 s=(dY (l.foldl A9 s) q.2 q.1.aT).1:=by simp[A9]
def sJ(s:dm):Bool:=decide (100<s.bP.length) || (decide (1000<s.aI.length) || (decide (2100<s.sl.length) || ((decide (12<s.aH.length)&&decide (s.aH.length≠401)) || s.aH.any fI)))
def nY(s:dm):Bool:=decide (30<s.aH.length) || sJ s
def Ue(s:dm):Nat:=s.aI.length+10*s.aH.length
def xI(l:List dm):Nat:=(l.map Ue).sum
def vD(l:List dm):Bool:=decide (8<l.length) || (l.any nY || decide (20000<xI l))
structure dm.Wf (s:dm):Prop where
 num: -9223372036854775808≤s.num∧s.num≤9223372036854775807
 aT: -9223372036854775808≤s.aT∧s.aT≤9223372036854775807
 aH:∀e∈s.aH,e.Wf
theorem Yo{s:dm}(h:sJ s=false):s.bP.length≤100∧s.aI.length≤1000∧s.sl.length≤2100∧(s.aH.length≤12∨s.aH.length=401)∧ ∀e∈s.aH,fI e=false:=by
 unfold sJ at h;simp only[Bool.or_eq_false_iff,Bool.and_eq_false_iff,decide_eq_false_iff_not]at h;obtain⟨h1,h2,h3,h4,h5⟩:=h;refine⟨by omega,by omega,by omega,by omega,fun e he=> ?_⟩;have:=List.any_eq_false.1 h5 e he;simpa using this
theorem Xqc{s:dm}(hw:s.Wf)(h:nY s=false):kR s:=by
 unfold nY at h;simp only[Bool.or_eq_false_iff,decide_eq_false_iff_not]at h;obtain⟨h1,h2,h3,h4,h5⟩:=And.intro h.1 (Yo h.2);exact⟨by omega,h3,h2,h4,hw.aH,fun e he=>(Yl (h5.2 e he)).1,fun e he=>(Yl (h5.2 e he)).2.1,fun e he=>(Yl (h5.2 e he)).2.2.2,hw.num,hw.aT⟩
theorem Yp(hw:∀x∈l,x.Wf)(h:vD l=false):l.length≤8∧(∀x∈l,kR x)∧xI l≤20000:=by
 unfold vD at h;simp only[Bool.or_eq_false_iff,decide_eq_false_iff_not]at h;obtain⟨h1,h2,h3⟩:=h;refine⟨by omega,fun x hx=>Xqc (hw x hx) ?_,by omega⟩;have:=List.any_eq_false.1 h2 x hx;simpa using this
theorem Xvo(hk:k<l.length){x:dm}(hx:l[k]=x):xI (l.take (k+1))=xI (l.take k)+Ue x:=by
 unfold xI;rw[List.take_succ_eq_append_getElem hk,hx];simp
theorem any_take_succ{l:List α}(hk:k<l.length){x:α}(hx:l[k]=x)(h1:(l.take k).any p=false)(h2:p x=false):(l.take (k+1)).any p=false:=by
 rw[List.take_succ_eq_append_getElem hk,hx,List.any_append,h1];simp[h2]
theorem Yq{l:List α}(hk:k<l.length){x:α}(hx:l[k]=x)(h:p x=true):l.any p=true:=
 List.any_eq_true.2 ⟨x,by rw[←hx];exact List.getElem_mem hk,h⟩
theorem X0x(h:∀x∈l,x.aI.length≤1000∧x.aH.length≤30):xI l≤1300*l.length:=by
 unfold xI;induction l with
 |nil=>simp
 |cons x l ih=>
  have h1:=h x (List.mem_cons_self ..);have h2:=ih fun y hy=>h y (List.mem_cons_of_mem _ hy);rw[List.map_cons,List.sum_cons,List.length_cons];have:Ue x≤1300:=by unfold Ue;omega
  omega
def Eh(x y:ay):Prop:=x.af=y.af∧meaning x y=true
def yK:List ay→List ay→Prop
 | [],[]=>True
 |x::a,y::b=>Eh x y∧yK a b
 |_,_=>False
theorem Xnl:∀(a b:List ay),gp a b=[]→yK a b
 | [],[],_=>trivial
 |x::a,[],h=>by rw[gp]at h;cases h
 | [],y::b,h=>by rw[gp]at h;cases h
 |x::a,y::b,h=>by
  rw[gp]at h;by_cases h1:kr x y=true
  ·rw[if_pos h1]at h;cases h
  ·rw[if_neg h1]at h;by_cases h2:kr y x=true
   ·rw[if_pos h2]at h;cases h
   ·rw[if_neg h2]at h;by_cases h3:meaning x y=true
    ·rw[if_pos h3]at h;refine⟨⟨?_,h3⟩,Xnl a b h⟩;rcases OI x y with k|k|k
     ·exact absurd k h1
     ·exact k
     ·exact absurd k h2
    ·rw[if_neg h3]at h;cases h
theorem yK.length:∀{a b:List ay},yK a b→a.length=b.length
 | [],[],_=>rfl
 |_::_,[],h=>h.elim
 | [],_::_,h=>h.elim
 |_::_,_::_,h=>by rw[List.length_cons,List.length_cons,yK.length h.2]
def aS(L:List dm):List ae:=L.map dm.aI
def gI(st:List ae)(e:ay):ae×Int:=
 if e.ag≠1 then([],10)
 else if(qF st e.ak).2≠0 then([],(qF st e.ak).2)
 else if((qF st e.ak).1.length:Int)≠e.size∨bE (qF st e.ak).1≠e.aj then([],5)
 else((qF st e.ak).1,0)
theorem Ld(h:(gI st e).2=0):e.ag=1∧((gI st e).1.length:Int)=e.size∧bE (gI st e).1=e.aj:=by
 unfold gI at*;split at h
 ·cases h
 ·rename_i k1;split at h
  ·contradiction
  ·rename_i k2;split at h
   ·cases h
   ·rename_i k3;rw[if_neg k1,if_neg k2,if_neg k3];have h1:((qF st e.ak).1.length:Int)=e.size:=Classical.byContradiction fun q=>k3 (.inl q);have h2:bE (qF st e.ak).1=e.aj:=Classical.byContradiction fun q=>k3 (.inr q);exact⟨by omega,h1,h2⟩
theorem Xt5(st:List ae):∀(l:List Xt) (out:ae),out.length≤65536→(qE st l out).1.length≤65536
 | [],out,h=>h
 |x::l,out,h=>by
  rw[qE];split
  ·simp
  ·split
   ·simp
   ·split
    ·simp
    ·rename_i k3;apply Xt5 st l;rw[List.length_append];split
     ·rw[List.length_replicate];omega
     ·rw[List.length_take];omega
theorem Xt3(st:List ae)(l:List Xt):(qF st l).1.length≤65536:=Xt5 st l [] (by simp)
theorem Yr(st:List ae)(e:ay):(gI st e).1.length≤65536:=by
 unfold gI;split
 ·simp
 ·split
  ·simp
  ·split
   ·simp
   ·exact Xt3 _ _
def bF(st:List ae)(x:ay):ae×Int:=if x.ag=1 then gI st x else([],0)
def piece(st:List ae)(x:ay):ae:=aN (dR x)++aN (bF st x).1
def xJ(st:List ae):List ay→ae→ae×Int
 | [],out=>(out,0)
 |x::l,out=>if(bF st x).2≠0 then([],(bF st x).2)else xJ st l (out++piece st x)
def BZ(st:List ae)(t:List ay):ae×Int:=xJ st t (bq t.length)
def bZ(L:List dm)(aT:Int):List ay:=(tY kZ (L.take (lJ aT L))).aJ
def jk(L:List dm)(aT:Int):ae×Int:=BZ (aS L) (bZ L aT)
theorem Uf(st:List ae)(x:ay):(bF st x).1.length≤65536:=by
 unfold bF;split
 ·exact Yr _ _
 ·simp
theorem NM(st:List ae):∀(t:List ay) (out:ae),(xJ st t out).2=0→(∀x∈t,(bF st x).2=0)∧(xJ st t out).1=out++t.flatMap (piece st)
 | [],out,_=>⟨fun _ h=>(by cases h),by simp[xJ]⟩
 |x::t,out,h=>by
  rw[xJ]at h ⊢;split at h
  ·contradiction
  ·rename_i k;rw[if_neg k];obtain⟨h1,h2⟩:=NM st t _ h;refine⟨fun y hy=> ?_,by rw[h2];simp⟩;rcases List.mem_cons.1 hy with rfl|hy
   ·omega
   ·exact h1 y hy
theorem Xsd(st:List ae):∀(t:List ay) (out:ae),(xJ st t out).2≠0→(xJ st t out).1=[]
 | [],_,h=>absurd rfl h
 |x::t,out,h=>by
  rw[xJ]at h ⊢;split
  ·rfl
  ·rename_i k;rw[if_neg k]at h;exact Xsd st t _ h
theorem Ji(n:Nat):xR (tY kZ (l.take n)).aJ:=by
 have key:∀(xs:List dm) (m:Nat) (s:kC),Dv m s→ ∃k,Dv k (tY s xs):=by
  intro xs;induction xs with
  |nil=>intro m s h;exact⟨m,h⟩
  |cons x xs ih=>intro m s h;exact ih _ _ (Xso x.aH h x.aT)
 obtain⟨k,hk⟩:=key (l.take n) 0 kZ Xsh;exact hk.aJ
theorem Yt(d:Int):∀(l:List dm),lJ d l≤l.length
 | []=>Qn _
 |x::l=>by
  rw[lJ];split
  ·omega
  ·have:=Yt d l;simp;omega
theorem Xty(hx:az x=0)(hy:az y=0)(h:dR x=dR y):x.ag=y.ag∧x.af=y.af∧x.ai=y.ai∧x.target=y.target:=by
 have kx:=CS hx;have ky:=CS hy;have h1:=XO kx.k1 kx.k6 (by have:=kx.uW;omega);have h2:=XO ky.k1 ky.k6 (by have:=ky.uW;omega);rw[h,h2]at h1;injection h1 with h1
 unfold bW at h1;injection h1 with a b c d
 exact⟨a.symm,b.symm,c.symm,d.symm⟩
theorem Xtc{a b:ae}(h:aN a++r=aN b++q):a=b∧r=q:=by
 have h1:=Wq [] a r;have h2:=Wq [] b q;rw[h]at h1;rw[h1]at h2;injection h2 with h2
 injection h2 with h2
 subst h2;exact⟨rfl,List.append_cancel_left h⟩
theorem Xs4(hx:az x=0)(hy:az y=0)(cx:(bF st x).2=0)(cy:(bF st y).2=0)(h:piece st x++r=piece st y++q):Eh x y∧r=q:=by
 unfold piece at h;rw[List.append_assoc,List.append_assoc]at h;obtain⟨h1,h2⟩:=Xtc h;obtain⟨h3,h4⟩:=Xtc h2;obtain⟨k1,k2,k3,k4⟩:=Xty hx hy h1;refine⟨⟨k2,?_⟩,h4⟩;have eU:x.size=y.size∧x.aj=y.aj:=by
  by_cases hk:x.ag=1
  ·have UX:y.ag=1:=by omega
   unfold bF at*;rw[if_pos hk]at cx h3;rw[if_pos UX]at cy h3;obtain⟨_,a1,a2⟩:=Ld cx;obtain⟨_,b1,b2⟩:=Ld cy;rw[←a1,←a2,←b1,←b2,h3];exact⟨rfl,rfl⟩
  ·have UX:¬y.ag=1:=by omega
   have zz:∀{e:ay},az e=0→ ¬e.ag=1→e.size=0∧e.aj=[]:=by
    intro e h0 cK;unfold az at h0;split at h0
    ·omega
    split at h0
    ·contradiction
    split at h0
    ·omega
    split at h0
    ·contradiction
    split at h0
    ·omega
    split at h0
    ·omega
    rename_i q1;split at h0
    ·omega
    rename_i q2;exact⟨by omega,Classical.byContradiction fun q=>q2 (.inr ⟨cK,q⟩)⟩
   rw[(zz hx hk).1,(zz hx hk).2,(zz hy UX).1,(zz hy UX).2];exact⟨rfl,rfl⟩
 unfold meaning;simp[k1,k3,k4,eU.1,eU.2]
theorem Xj2:∀{t u:List ay},(∀x∈t,az x=0∧(bF st x).2=0)→(∀x∈u,az x=0∧(bF st x).2=0)→t.length=u.length→t.flatMap (piece st)=u.flatMap (piece st)→yK t u
 | [],[],_,_,_,_=>trivial
 | [],_::_,_,_,h,_=>by simp at h
 |_::_,[],_,_,h,_=>by simp at h
 |x::t,y::u,ht,hu,hl,h=>by
  obtain⟨a1,a2⟩:=ht x (by simp);obtain⟨b1,b2⟩:=hu y (by simp);rw[List.flatMap_cons,List.flatMap_cons]at h;obtain⟨h1,h2⟩:=Xs4 a1 b1 a2 b2 h;exact⟨h1,Xj2 (fun z hz=>ht z (by simp[hz])) (fun z hz=>hu z (by simp[hz])) (by simpa using hl) h2⟩
theorem Yu:∀{a b:List ay},fC a→fC b→yK a b→gp a b=[]
 | [],[],_,_,_=>by rw[gp]
 | [],_::_,_,_,h=>h.elim
 |_::_,[],_,_,h=>h.elim
 |x::a,y::b,ha,hb,h=>by
  have cK:∀{u v:ay},u.af=v.af→kr u v≠true:=fun e k=>ww k e;rw[gp,if_neg (cK h.1.1),if_neg (cK h.1.1.symm),if_pos h.1.2,Yu (List.pairwise_cons.1 ha).2 (List.pairwise_cons.1 hb).2 h.2]
theorem Xsn(h:Eh x y):dR x=dR y∧x.ag=y.ag∧x.aj=y.aj:=by
 obtain⟨h1,h2⟩:=h;unfold meaning at h2;simp only[Bool.and_eq_true,decide_eq_true_iff]at h2;obtain⟨⟨⟨⟨k1,k2⟩,k3⟩,k4⟩,k5⟩:=h2;refine⟨?_,k1,k5⟩;unfold dR;rw[k1,h1,k2,k3]
theorem pieces_eq:∀{t u:List ay},yK t u→(∀x∈t,(bF st x).2=0)→(∀x∈u,(bF st x).2=0)→
 (∀(i:Nat) x y,t[i]?=some x→u[i]?=some y→(gI st x).1≠(gI st y).1→bE (gI st x).1≠bE (gI st y).1)→t.flatMap (piece st)=u.flatMap (piece st)
 | [],[],_,_,_,_=>rfl
 | [],_::_,h,_,_,_=>h.elim
 |_::_,[],h,_,_,_=>h.elim
 |x::t,y::u,h,ht,hu,hc=>by
  obtain⟨k1,k2,k3⟩:=Xsn h.1;have a1:=ht x (by simp);have b1:=hu y (by simp);rw[List.flatMap_cons,List.flatMap_cons,pieces_eq h.2 (fun z hz=>ht z (by simp[hz])) (fun z hz=>hu z (by simp[hz])) (fun i a b ha hb=>hc (i+1) a b (by simpa using ha) (by simpa using hb))];congr 1;unfold piece;rw[k1];congr 2;unfold bF at*;by_cases hk:x.ag=1
  ·rw[if_pos hk]at a1 ⊢;rw[if_pos (k2▸hk)]at b1 ⊢;have e1:=(Ld a1).2.2;have e2:=(Ld b1).2.2;exact Classical.byContradiction fun q=>hc 0 x y rfl rfl q (by rw[e1,e2,k3])
  ·rw[if_neg hk,if_neg (k2▸hk)]
theorem Xw4(d d':Int)(h1:(jk l d).2=0)(h2:(jk l d').2=0)(hlen:l.length≤100000∧(bZ l d).length≤100000∧(bZ l d').length≤100000):
 ((jk l d).1=(jk l d').1→gp (bZ l d) (bZ l d')=[])∧
 (gp (bZ l d) (bZ l d')=[]→(bZ l d).length=(bZ l d').length∧((∀(i:Nat) x y,(bZ l d)[i]?=some x→(bZ l d')[i]?=some y→(gI (aS l) x).1≠(gI (aS l) y).1→bE (gI (aS l) x).1≠bE (gI (aS l) y).1)→(jk l d).1=(jk l d').1)):=by
 have ok1:xR (bZ l d):=Ji _;have ok2:xR (bZ l d'):=Ji _;unfold jk at*;unfold BZ at*;generalize bZ l d=t at*;generalize bZ l d'=u at*;obtain⟨a1,a2⟩:=NM _ _ _ h1;obtain⟨b1,b2⟩:=NM _ _ _ h2;rw[a2,b2];constructor
 ·intro h;have r1:=Ws [] (t.flatMap (piece (aS l))) t.length (by omega) (by omega);have r2:=Ws [] (u.flatMap (piece (aS l))) u.length (by omega) (by omega);rw[List.nil_append]at r1 r2;rw[h,r2]at r1;injection r1 with r1
  injection r1 with r1 _
  have hl:t.length=u.length:=by omega
  rw[hl]at h;exact Yu ok1.vI ok2.vI (Xj2 (fun x hx=>⟨ok1.mr x hx,a1 x hx⟩) (fun x hx=>⟨ok2.mr x hx,b1 x hx⟩) hl (List.append_cancel_left h))
 ·intro h;have aG:=Xnl _ _ h;have hl:=aG.length;refine⟨hl,fun hc=> ?_⟩;rw[hl];congr 1;exact pieces_eq aG a1 b1 hc
structure Rec where
 zh:Int
 mr:ay
 iM:ae
 err:Int
structure Res where
 Yv:List dm
 files:List Rec
def GV(fs:List Rec)(n:Int):List Rec:=fs.filter fun f=>f.zh==n
def Qw(fs:List Rec):ae:=match fs with
 | []=> [45]
 |f::_=>if f.err≠0 then [45]else [43]++bq f.iM.length++f.iM
def Yw(fs:List Rec)(e:ay):ae:=aN (dR e)++(if e.ag≠1 then [43]++bq 0 else Qw fs)
def Qx(fs:List Rec)(e:ay):List Rec:=if e.ag≠1 then fs else fs.tail
def Jj:List Rec→List ay→ae
 |_,[]=> []
 |fs,e::es=>Yw fs e++Jj (Qx fs e) es
def Yx(fs:List Rec)(s:dm):ae:=bq s.num++bq s.aT++bq s.aH.length++Jj (GV fs s.num) s.aH
def amj(r:Res):ae:=r.Yv.flatMap (Yx r.files)
def Qy(m n:Nat):Bool:=(m >>> (n%64))%2==1
def Qz(st:List ae)(m:Nat)(num:Int)(e:ay)(n:Nat):Rec:=
 if(gI st e).2≠0∨Qy m n=true then⟨num,e,[],19⟩else⟨num,e,(gI st e).1,0⟩
def Ei(st:List ae)(m:Nat)(num:Int):List ay→Nat→List Rec
 | [],_=> []
 |e::es,n=>if e.ag≠1 then Ei st m num es n else Qz st m num e n::Ei st m num es (n+1)
def Le(l:List ay):Nat:=(l.filter fun e=>e.ag==1).length
def Jk(st:List ae)(m:Nat):List dm→Nat→List Rec
 | [],_=> []
 |s::l,n=>Ei st m s.num s.aH n++Jk st m l (n+Le s.aH)
def ae2(L:List dm)(m:Nat):Res:=⟨L,Jk (aS L) m L 0⟩
def Within(c s:ae):Prop:=∃a b,s=a++(c++b)
def Yy(L:List dm):Prop:=L.Pairwise fun a b=>a.num≠b.num
section
variable (name:ae)
def shP(p:ae):ae:=name++47::p
def shE(x:ay):ay:={x with af:=shP name x.af}
def shD(name q:ae):ae:=if q=[]then name else shP name q
end
theorem Xs2{M:List ay}(hM:fC M)(hl:∀a∈M,kr a e=true):eF M e=M++[e]:=by
 refine(MW hM e).ext (List.pairwise_append.2 ⟨hM,List.pairwise_singleton _ _,fun a ha b hb=> ?_⟩) fun z=> ?_
 ·rw[List.mem_singleton]at hb;subst hb;exact hl a ha
 ·rw[Ff hM,List.mem_append,List.mem_singleton];constructor
  ·rintro(k|⟨k,_⟩)
   ·exact .inr k
   ·exact .inl k
  ·rintro(k|k)
   ·exact .inr ⟨k,ww (hl z k)⟩
   ·exact .inl k
def rY(x:ay)(c:ae):ay:=if x.ag=1 then bW x (c.length:Nat) (bE c) (eY 0 c)else x
theorem Yz(h0:az e=0)(cK:¬e.ag=1):e.size=0∧e.aj=[]∧e.ak=[]:=by
 unfold az at h0;split at h0
 ·omega
 split at h0
 ·contradiction
 split at h0
 ·omega
 split at h0
 ·contradiction
 split at h0
 ·omega
 split at h0
 ·omega
 rename_i q1;split at h0
 ·omega
 rename_i q2;split at h0
 ·contradiction
 rename_i q3;refine⟨by omega,Classical.byContradiction fun q=>q2 (.inr ⟨cK,q⟩),?_⟩;have hf:(e.ag==1)=false:=by simpa using cK
 rw[hf]at q3;cases hx:e.ak with
 |nil=>rfl
 |cons y l=>rw[hx,bM,if_pos rfl]at q3;exact absurd (by decide:(1:Int)≠0) q3
theorem Xiy(h:az x=0)(hk:x.ag=1){c:ae}(h1:((c.length:Nat):Int)=x.size)(h2:bE c=x.aj):az (bW x (c.length:Nat) (bE c) (eY 0 c))=0:=by
 have eU:=(TQ h hk).2;have e1:bM (x.ag==1) (eY 0 c)=0:=by
  unfold eY;rw[hk];split
  ·rfl
  ·rename_i hc;have:0<c.length:=List.length_pos_iff.2 hc;have hb:cB ⟨0,0,(c.length:Nat)⟩=false:=by
    unfold cB;dsimp only;rw[Qf (show ¬((c.length:Int)<1) by omega),Qf (show ¬(65536<(c.length:Int)) by omega)];rfl
   rw[bM,if_neg (by simp),hb];rfl
 have e2:fV (eY 0 c)=(c.length:Nat):=by
  unfold eY;split
  ·rename_i hc;rw[hc];rfl
  ·simp[fV]
 unfold az bW at*;dsimp only at*;rw[h1,h2,e1,e2,h1];split at h
 ·omega
 rename_i q1;rw[if_neg q1];split at h
 ·contradiction
 rename_i q2;rw[if_neg q2];split at h
 ·omega
 rename_i q3;rw[if_neg q3];split at h
 ·contradiction
 rename_i q4;rw[if_neg q4];split at h
 ·omega
 rename_i q5;rw[if_neg (by exact q5)];split at h
 ·omega
 rename_i q6;rw[if_neg q6];split at h
 ·omega
 rename_i q7;rw[if_neg q7];simp
theorem Xru(h:az x=0)(hk:x.ag=1∨x.ag=2∨x.ag=3)(hc:(bF st x).2=0):
 fZ (dR x) (bF st x).1=(rY x (bF st x).1,true):=by
 have hx:=CS h;have hh:=XO hx.k1 hx.k6 (by have:=hx.uW;omega);have H8:=Uf st x;unfold fZ;rw[NF,NG 0 (.inl rfl) _ _ (by omega),hh];simp only[aR,jV];have ee:∀a b c,bW (bW x 0 [] []) a b c=bW x a b c:=fun _ _ _=>rfl;rw[ee,ee];by_cases h1:x.ag=1
 ·have hcc:=hc;unfold bF at hcc;rw[if_pos h1]at hcc;have Cv:(bF st x).1=(gI st x).1:=by unfold bF;rw[if_pos h1]
  obtain⟨_,a1,a2⟩:=Ld hcc;rw[←Cv]at a1 a2;have cK:az (bW x 0 [] [])≠0:=fun h0=>by
   have:=(TQ h0 h1).1;simp[bW]at this
  rw[if_pos cK];dsimp only;rw[if_neg (by omega),Xiy h h1 a1 a2];simp only[ne_eq,not_true_eq_false,if_false];unfold rY;rw[if_pos h1];have:((bW x ((bF st x).1.length:Nat) (bE (bF st x).1) (eY 0 (bF st x).1)).ag==1)=true:=by simp[bW,h1]
  rw[this]
 ·obtain⟨z1,z2,z3⟩:=Yz h h1;have hz:bW x 0 [] []=x:=by unfold bW;rw[←z1,←z2,←z3]
  have UM:(bF st x).1=[]:=by unfold bF;rw[if_neg h1]
  rw[hz,h,UM];simp only[ne_eq,not_true_eq_false,if_false];unfold rY;rw[if_neg h1];have:(x.ag==2 || x.ag==3)=true:=by
   rcases hk with k|k|k
   ·exact absurd k h1
   ·rw[k];rfl
   ·rw[k];rfl
  rw[this];rfl
theorem Xxu(h:az x=0)(hc:(bF st x).2=0):KU x (rY x (bF st x).1):=by
 unfold rY;split
 ·rename_i h1;have hcc:=hc;unfold bF at hcc;rw[if_pos h1]at hcc;have Cv:(bF st x).1=(gI st x).1:=by unfold bF;rw[if_pos h1]
  obtain⟨_,a1,a2⟩:=Ld hcc;rw[←Cv]at a1 a2;exact⟨rfl,rfl,rfl,rfl,h,Xiy h h1 a1 a2⟩
 ·exact⟨rfl,rfl,rfl,rfl,h,h⟩
def qH(st:List ae)(t:List ay):List tC:=t.map fun x=>nW x (bF st x).1
def yL(st:List ae)(t:List ay):List ay:=t.map fun x=>rY x (bF st x).1
theorem Xl0:∀{t:List ay},(∀x∈t,az x=0∧(bF st x).2=0)→BQ t (yL st t)
 | [],_=>trivial
 |x::t,h=>⟨Xxu (h x (by simp)).1 (h x (by simp)).2,Xl0 fun y hy=>h y (by simp[hy])⟩
theorem Xm0(s:ae):∀(t:List ay) (p:ae) (A:List ay) (O:List tC),(∀x∈t,az x=0∧(x.ag=1∨x.ag=2∨x.ag=3)∧(bF st x).2=0)→s=p++t.flatMap (piece st)→
 wY fZ s t.length p.length A O= .ok (A++yL st t,O++qH st t,s.length)
 | [],p,A,O,_,hs=>by
   rw[List.length_nil,wY,hs];simp[yL,qH]
 |x::t,p,A,O,h,hs=>by
  obtain⟨h1,h2,h3⟩:=h x (by simp);rw[List.flatMap_cons]at hs;unfold piece at hs;have e1:rdStr s p.length= .ok (dR x,p.length+(aN (dR x)).length):=FE (x:=p) (y:=dR x) (by rw[hs];simp[List.append_assoc];rfl) rfl;have e2:rdStr s (p.length+(aN (dR x)).length)= .ok ((bF st x).1,(p++aN (dR x)++aN (bF st x).1).length):=by
   rw[FE (x:=p++aN (dR x)) (y:=(bF st x).1) (r:=t.flatMap (piece st)) (by rw[hs];simp[List.append_assoc];rfl) (by simp)];simp[Nat.add_assoc]
  have hb:=Xru h1 h2 h3;rw[List.length_cons,wY,e1,aR,e2,aR];dsimp only;rw[hb];simp only[Bool.true_eq_false,if_false];rw[Xm0 s t _ _ _ (fun y hy=>h y (by simp[hy])) (by rw[hs];simp[List.append_assoc];rfl)];have hcg:nW (rY x (bF st x).1) (bF st x).1=nW x (bF st x).1:=by unfold rY;split<;>rfl
  rw[hcg];simp[yL,qH]
theorem Xp7(ht:xR t)(hl:t.length≤5000)(h:(BZ st t).2=0):yH fZ (BZ st t).1= .ok (qH st t):=by
 obtain⟨a1,a2⟩:=NM _ _ _ h;have hn:rdNum (BZ st t).1 0= .ok ((t.length:Int),(bq t.length).length):=by
  unfold BZ;rw[a2,NE (x:=[]) (a:=0) (n:=t.length) (by omega) (by omega) (by rw[List.nil_append]) rfl];simp
 have hg:=Xm0 (st:=st) (BZ st t).1 t (bq t.length) [] [] (fun x hx=>⟨ht.mr x hx,ht.ag x hx,a1 x hx⟩) (by unfold BZ;exact a2);unfold yH;rw[hn,aR];unfold GK;dsimp only;rw[if_neg (by omega),Int.toNat_natCast,hg,aR];unfold BR;dsimp only;rw[if_neg (by simp)];have hs:=Xl0 (st:=st) (t:=t) fun x hx=>⟨ht.mr x hx,a1 x hx⟩;have hc:kv ([]++yL st t)=0:=by
  rw[List.nil_append];have:=Xsl hs hs none none rfl;have h0:=(Xvc t).2 ht;unfold kv at*;omega
 rw[if_neg (by omega),List.nil_append]
def zX(c:tC)(xs:List Xt):ay:=if c.ag=1 then⟨c.ag,c.af,c.ai,c.target,(c.iM.length:Nat),bE c.iM,xs⟩else⟨c.ag,c.af,c.ai,c.target,0,[],[]⟩
theorem Xxy(h:az x=0)(hc:(bF st x).2=0):zX (nW x (bF st x).1) x.ak=x:=by
 unfold zX nW;dsimp only;by_cases h1:x.ag=1
 ·rw[if_pos h1];have hcc:=hc;unfold bF at hcc;rw[if_pos h1]at hcc;have Cv:(bF st x).1=(gI st x).1:=by unfold bF;rw[if_pos h1]
  obtain⟨_,a1,a2⟩:=Ld hcc;rw[Cv,a1,a2]
 ·rw[if_neg h1];obtain⟨z1,z2,z3⟩:=Yz h h1;rw[←z1,←z2,←z3]
theorem Xr4{A B:List ay}(ht:xR (A++x::B))(hl:(A++x::B).length≤5000):bL A x=(A++[x],0):=by
 have hp:∀z∈A++x::B,z.af≠[]:=fun z hz k=>by
  have a:=(CF (ht.mr z hz)).2.2.2 k;have b:=ht.ag z hz;omega
 have uS:x∈A++x::B:=by simp
 obtain⟨s1,s2,s3⟩:=List.pairwise_append.1 ht.vI;have hlt:∀a∈A,kr a x=true:=fun a ha=>s3 a ha x (List.mem_cons_self ..);have qW:x.ag≤3:=by have:=ht.ag x uS;omega
 have hv:=(CF (ht.mr x uS)).2.2.1;have RZ:dC A x.af=none:=Vb fun z hz k=>ww (hlt z hz) k;refine jR.2 ⟨⟨ht.mr x uS,fun k=>absurd k (by omega),fun _=> ?_,fun _ y hy=>(by rw[RZ]at hy;cases hy),fun _ _=> ?_⟩,?_⟩
 ·rw[oz];rcases oz.1 (ht.up x uS)with k|⟨y,k,k'⟩
  ·exact .inl k
  ·obtain⟨hy,hyp⟩:=Sv k;have UY:kr y x=true:=by
    show gU (els y.af) (els x.af)=true;rw[hyp,Vq hv];have cK:els x.af≠[]:=fun q=>hp x uS (wm.1 q);have:=Xj6 (els x.af).dropLast [(els x.af).getLast cK] (by simp);rwa[List.dropLast_concat_getLast cK]at this
   have hyA:y∈A:=by
    rcases List.mem_append.1 hy with q|q
    ·exact q
    ·rcases List.mem_cons.1 q with q|q
     ·rw[q]at UY;exact absurd rfl (ww UY)
     ·have:=(List.pairwise_cons.1 s2).1 y q;have q2:kr y x=false:=MO this;rw[q2]at UY;exact absurd UY (by simp)
   refine .inr ⟨y,?_,k'⟩;rw[←hyp];exact FU s1 hyA
 ·rw[List.length_append,List.length_cons]at hl;omega
 ·rw[FY,if_neg (by omega),Xs2 s1 hlt]
theorem Xr3(ht:xR t)(hl:t.length≤5000){i:Nat}(hi:i<t.length):bL (t.take i) t[i]=(t.take (i+1),0):=by
 have e:t=t.take i++t[i]::t.drop (i+1):=by rw[List.getElem_cons_drop,List.take_append_drop]
 have h1:xR (t.take i++t[i]::t.drop (i+1)):=by rw[←e];exact ht
 rw[Xr4 h1 (by rw[←e];exact hl),List.take_succ_eq_append_getElem hi]
theorem Xu1(ht:fC t):gp t t=[]:=by
 refine Yu ht ht ?_;clear ht;induction t with
 |nil=>trivial
 |cons x t ih=>exact⟨⟨rfl,by simp[meaning]⟩,ih⟩
open Go.RowKit
abbrev QA(c:tC)(va:Value):List Value:=[.int .i64 c.ag,S c.af,va,S c.target,S c.iM]
abbrev QB(c:tC)(va:Value):Value:= .agg #[.int .i64 c.ag,S c.af,va,S c.target,S c.iM]
def xg:Ty tC where
 size:=5
 rd:=fun I cs c=> ∃va,cs=QA c va∧bf kT I va c.ai
 len:=fun⟨_,h,_⟩=>by rw[h];rfl
 one:=fun⟨va,h,h1⟩ u hu=>by
  rw[h]at hu;simp at hu;rcases hu with rfl|rfl|rfl|rfl|rfl<;>first|rfl|exact h1.one
 mono:=fun hI ⟨va,h,h1⟩=>⟨va,h,h1.mono hI⟩
structure QC (w:World) (b o:Nat) (c:tC) (va:Value):Prop where
 c0:w.cell? ⟨b,o,none⟩=some (.int .i64 c.ag)
 c1:w.cell? ⟨b,o+1,none⟩=some (S c.af)
 c2:w.cell? ⟨b,o+2,none⟩=some va
 c3:w.cell? ⟨b,o+3,none⟩=some (S c.target)
 c4:w.cell? ⟨b,o+4,none⟩=some (S c.iM)
theorem X0t{v:Value}{l:List tC}{w:World}(h:bf xg I v l)(hw:Ok I w)(i:Nat)(hi:i<l.length):∃x va b off cap,l[i]=x∧v= .slice (some ⟨b,off,none⟩) l.length cap∧
 QC w b (off+i*5) x va∧bf kT I va x.ai:=by
 obtain⟨b,off,cap,cs,hv,⟨va,iY,h1⟩,hc⟩:=h.at_ hw hi;subst iY;exact⟨_,va,b,off,cap,rfl,hv,⟨hc 0 _ rfl,hc 1 _ rfl,hc 2 _ rfl,hc 3 _ rfl,hc 4 _ rfl⟩,h1⟩
structure amt (w:World) (n:Nat) (c:tC) (va:Value):Prop where
 c0:w.cell? ⟨n,0,none⟩=some (.int .i64 c.ag)
 c1:w.cell? ⟨n,1,none⟩=some (S c.af)
 c2:w.cell? ⟨n,2,none⟩=some va
 c3:w.cell? ⟨n,3,none⟩=some (S c.target)
 c4:w.cell? ⟨n,4,none⟩=some (S c.iM)
abbrev QD(r:Rec)(va vx:Value):List Value:=[.int .i64 r.zh,.int .i64 r.mr.ag,S r.mr.af,va,S r.mr.target,.int .i64 r.mr.size,S r.mr.aj,vx,S r.iM,.int .i64 r.err]
abbrev amu(r:Rec)(va vx:Value):Value:= .agg #[.int .i64 r.zh,.int .i64 r.mr.ag,S r.mr.af,va,S r.mr.target,.int .i64 r.mr.size,S r.mr.aj,vx,S r.iM,.int .i64 r.err]
def amv:Ty Rec where
 size:=10
 rd:=fun I cs r=> ∃va vx,cs=QD r va vx∧bf kT I va r.mr.ai∧bf mE I vx r.mr.ak
 len:=fun⟨_,_,h,_⟩=>by rw[h];rfl
 one:=fun⟨va,vx,h,h1,h2⟩ u hu=>by
  rw[h]at hu;simp at hu;rcases hu with rfl|rfl|rfl|rfl|rfl|rfl|rfl|rfl|rfl|rfl<;>first|rfl|exact h1.one|exact h2.one
 mono:=fun hI ⟨va,vx,h,h1,h2⟩=>⟨va,vx,h,h1.mono hI,h2.mono hI⟩
structure ae9 (w:World) (b o:Nat) (r:Rec) (va vx:Value):Prop where
 c0:w.cell? ⟨b,o,none⟩=some (.int .i64 r.zh)
 c1:w.cell? ⟨b,o+1,none⟩=some (.int .i64 r.mr.ag)
 c2:w.cell? ⟨b,o+2,none⟩=some (S r.mr.af)
 c3:w.cell? ⟨b,o+3,none⟩=some va
 c4:w.cell? ⟨b,o+4,none⟩=some (S r.mr.target)
 c5:w.cell? ⟨b,o+5,none⟩=some (.int .i64 r.mr.size)
 c6:w.cell? ⟨b,o+6,none⟩=some (S r.mr.aj)
 c7:w.cell? ⟨b,o+7,none⟩=some vx
 c8:w.cell? ⟨b,o+8,none⟩=some (S r.iM)
 c9:w.cell? ⟨b,o+9,none⟩=some (.int .i64 r.err)
structure amw (w:World) (n:Nat) (r:Rec) (va vx:Value):Prop where
 c0:w.cell? ⟨n,0,none⟩=some (.int .i64 r.zh)
 c1:w.cell? ⟨n,1,none⟩=some (.int .i64 r.mr.ag)
 c2:w.cell? ⟨n,2,none⟩=some (S r.mr.af)
 c3:w.cell? ⟨n,3,none⟩=some va
 c4:w.cell? ⟨n,4,none⟩=some (S r.mr.target)
 c5:w.cell? ⟨n,5,none⟩=some (.int .i64 r.mr.size)
 c6:w.cell? ⟨n,6,none⟩=some (S r.mr.aj)
 c7:w.cell? ⟨n,7,none⟩=some vx
 c8:w.cell? ⟨n,8,none⟩=some (S r.iM)
 c9:w.cell? ⟨n,9,none⟩=some (.int .i64 r.err)
abbrev amx(vs vf:Value):Value:= .agg #[vs,vf]
theorem Xd6{T:Ty α}{P:Program}{ts te:TypeId}{bytes:Nat}(hE:fq P ts te T bytes){w0:World}{ops:Array Oper}{rest:List Oper}{o:Oper}{a:Act}{Q:Exit→Act→World→Prop}(Cj:o.guard=none)(s x:Operand)
 (ho:o.op= .call {callee:= .builtin .append,args:=#[s,x],argTypes:=#[ts,ts]}) (B:Nat) (v:Value) (l:List α) (hs:a.eval s=v) (bJ:aM T te I w0 B v l)
 (y:α) (cs:List Value) (tb:TypeId) (hx:a.eval x= .slice (some ⟨w0.heap.size,0,none⟩) 1 1) (hy:T.rd I cs y) (iW:(l.length+1)*bytes≤140737488355328) (hl:l.length+1≤9223372036854775807) (hB:B≤w0.heap.size)
 (h:∀v' w',aM T te I w' B v' (l++[y])→w0.grownBy w' v.ownBlock→(∀g,v'.ownBlock=some g→v.ownBlock=some g∨w0.heap.size≤g)→wpList P ops Q rest (a.put o.dst v') w'):wpList P ops Q (o::rest) a (w0.alloc (.cells cs.toArray tb)):=by
 obtain⟨i,z,h1,h2,h3,h4,h5,h6,h7⟩:=hE;obtain⟨xs,k1,k2⟩:=bJ
 refine wpList_append_own_at (w0.alloc (.cells cs.toArray tb)) Cj s x ts ho B te i z T.size bytes h1 h2 h3 h4 h5 h6 h7 v l.length xs hs (k1.alloc _) ⟨w0.heap.size,0,none⟩ 1 1 cs hx (by rw[T.len hy,Nat.one_mul])
  (fun j u hu=>by rw[Addr.add_lit,Nat.zero_add,World.cell?_alloc_new];simpa using hu) (T.one hy) (by unfold maxLen;omega) iW (by simp;omega) (fun v' w' r1 r2 _ r4=>h v' w' ⟨xs++cs,by rw[List.length_append];exact r1,k2.append (bR.one hy)⟩ ?_ ?_)
 ·exact⟨r2.os,r2.tape,r2.output,by have:=r2.size;simp at this;omega,fun k hk cK=>(r2.block k (by simp;omega) cK).trans (Below.heap_alloc _ _ _ hk)⟩
 ·intro g hg;rcases r4 with r4|r4
  ·exact .inl (r4▸hg)
  ·rw[r4]at hg;simp at hg;exact .inr (by omega)
def XB(n:Int)(x:Xt):Prop:=0≤x.s∧x.s≤255∧0≤x.o∧x.o≤1099511627776∧0≤x.n∧x.n≤n
section
variable {I:IH} {W:World} {B:Nat} {v:Value} {l:List Xt}
end
abbrev xtW(x:Xt):Value:= .agg #[.int .i64 x.s,.int .i64 x.o,.int .i64 x.n]
abbrev xtL(x:Xt):List Value:=[.int .i64 x.s,.int .i64 x.o,.int .i64 x.n]
def amy(I:IH)(B:Nat)(w:World)(v:Value)(l:List Xt)(e:Ending)(w':World):Prop:=
 ∃v',e= .returned v'∧aM mE 134 I w' B v' l∧w.grownBy w' v.ownBlock∧ ∀g,v'.ownBlock=some g→v.ownBlock=some g∨w.heap.size≤g
theorem Xxg(I:IH)(v:Value)(t:List ay)(hv:bf bC I v t)(hI:dG I)(ht:OT t)(hs:pJ t)(w:World)(hw:Ok I w):
 Calls Tryz.prog 54 #[v] w fun e w'=>e= .returned (.int .i64 (kv t))∧Below w.heap.size w w':=by
 have hlen:=hv.dh;obtain⟨ao,cap,rfl,dD,il,_⟩:=id hv;have Hv:=Qh hv;clear hv;have Ht:=Qh ht;clear ht;have Hs:=Qh hs;clear hs;have QE:=Qh (fun p w hw=>WM I _ t Hv.O p w hw);go_enter Tryz.func54,Tryz.ntmps54
 go_wp2_with fail
 go_loopw [11] (fun s11 wr=> ∃k:Nat,k≤t.length∧s11= .int .i64 k∧eH t (if k=0 then none else t[k-1]?) (t.drop k)=kv t∧(∀y∈t.take k,aF y.af=0)∧Below w.heap.size w wr) (fun i _=>t.length-(intOf i).toNat)
 case atStart=>exact⟨0,Nat.zero_le _,rfl,rfl,by simp,Qb _ _⟩
 case round=>
  obtain⟨k,hk,rfl,hr,gK,hb⟩:=hrel;have Hr:=Qh hr;have kw:=Qh gK;clear hr gK;have dz:Ok I wr:=hw.below (Qn _) hb;by_cases hlt:k<t.length;case neg=>
   have Hn:=Qh (show kv t=0 by rw[←Hr.O,List.drop_of_length_le (by omega)];rfl);go_wp2;go_ret;exact⟨bT Hn.O.symm,hb⟩
  obtain⟨x,va,vx,b,off,cap',bN,di,⟨c0,c1,c2,c3,c4,c5,c6⟩,h1,h2⟩:=oG Hv.O dz k hlt;cases di;have bB:=Qh (show kv t=if az x≠0 then az x else if x.ag≠1∧x.ag≠2∧x.ag≠3 then 10 else if((if k=0 then none else t[k-1]?).any fun y=> !(gU (els y.af) (els x.af)))then 14 else if aU t (jO x.af)≠0 then aU t (jO x.af)else eH t (some x) (t.drop (k+1)) by
   rw[←Hr.O,List.drop_eq_getElem_cons hlt,bN,Xlk])
  have IC:=Qh (show t[k]?=some x by rw[List.getElem?_eq_getElem hlt,bN]);have sF:=Qh bN;have OX:=Qh (Ht.O x (by rw[←bN];exact List.getElem_mem hlt));have Ox:=Qh (Hs.O x (by rw[←bN];exact List.getElem_mem hlt));have j6:=Qh (fun w hw=>TA I hI x va vx h1 h2 OX.O Ox.O.1 Ox.O.2 w hw);obtain⟨aa,ca,rfl,_,_,_⟩:=id h1;obtain⟨ax,cx,rfl,_,_,_⟩:=id h2;clear bN h1 h2;go_wp2_with fail
  refine(j6.O _ (dz.alloc _)).mono ?_;rintro e w1 ⟨rfl,au⟩;obtain⟨d0,d1,d2,d3,d4,d5,d6⟩:=bS rfl au;have av:=(hb.alloc hb.size _).trans (au.mono (by have:=hb.size;simp;omega));have aB:Ok I w1:=(dz.alloc _).below (Qn _) au;clear au c0 c1 c2 c3 c4 c5 c6;by_cases h0:az x=0;case neg=>
   obtain⟨q,hq⟩:∃q,az x=q:=⟨_,rfl⟩;have hn:(q !=0)=true:=by rw[←hq];simpa using h0
   have Hn:=Qh (show kv t=q by rw[bB.O,if_pos h0,hq]);rw[hq];clear hq h0;go_wp2;go_ret;exact⟨bT Hn.O.symm,av⟩
  replace bB:=Qh (show kv t=_ by rw[bB.O,if_neg (show ¬az x≠0 by omega)]);have QF:=Qh (Xo5 h0);have mP:x.af.length≤200:=(Bj QF.O.1).1;rw[h0];clear h0;by_cases FQ:x.ag≠1∧x.ag≠2∧x.ag≠3;case pos=>
   have Hn:=Qh (show kv t=10 by rw[bB.O,if_pos FQ]);have uZ:=Qh (WN x.ag);have lW:inT x.ag=false:=by
    cases h:inT x.ag with
    |false=>rfl
    |true=>have:=lU.1 h;omega
   rw[lW]at uZ;clear FQ lW;go_wp2_with fail
   refine(uZ.O _).mono ?_;rintro e w2 ⟨rfl,rfl⟩;go_wp2;go_ret;exact⟨bT Hn.O.symm,av⟩
  replace bB:=Qh (show kv t=_ by rw[bB.O,if_neg FQ]);have vO:=Qh (show x.ag=1∨x.ag=2∨x.ag=3 by omega);have yT:x.af≠[]:=by
   rcases QF.O.2 with h|h
   ·exact h
   ·have:=vO.O;omega
  have ll:=Qh (fun w hw=>VV I hI x.af (by omega) w hw);have Jl:=Qh (VR QF.O.1 yT);have lK:=Qh (fun w hw=>QE.O (jO x.af) w hw);clear FQ yT;have uZ:=Qh (WN x.ag);rw[lU.2 vO.O]at uZ;go_wp2_with fail
  refine(uZ.O _).mono ?_;rintro e w2 ⟨rfl,rfl⟩;by_cases qV:k=0
  ·have hd:decide (0<k)=false:=Qf (by omega);have pg:k<1:=by omega
   replace bB:=Qh (show kv t=if aU t (jO x.af)≠0 then aU t (jO x.af)else eH t (some x) (t.drop (k+1)) by rw[bB.O,if_pos qV];rfl);clear qV;have g0:=cell_regrown d0;have g1:=cell_regrown d1;go_wp2_with fail
   refine wp_region_quiet_below (by kernel_rfl) (by kernel_rfl) ?_;repeat(go_big_quiet_step ((fail)))
   refine wpQuiet_nil ?_;intro w4 bg;have aL:Below (w1).heap.size (w1) w4:=by
    obtain⟨pq,rfl⟩:=bg;exact below_regrown _ _ _
   clear bg;have aO:=av.trans (aL.mono av.size);have bA:Ok I w4:=aB.below (Qn _) aL;have d1:=dQ aL d1;clear aL g0 g1;go_wp2_with fail
   refine(ll.O _ bA).mono ?_;rw[Jl.O];rintro e w5 ⟨rfl,aY⟩;have bV:=aO.trans (aY.mono aO.size);have bX:Ok I w5:=Ok.below bA (Qn _) aY;go_wp2_with fail
   refine(lK.O _ bX).mono ?_;rintro e w6 ⟨rfl,fF⟩;have iT:=bV.trans (fF.mono bV.size);by_cases tq:aU t (jO x.af)=0
   ·have Hn:=Qh (show eH t (if k+1=0 then none else t[k+1-1]?) (t.drop (k+1))=kv t by
     rw[bB.O,if_neg (show ¬aU t (jO x.af)≠0 by omega),Nat.add_sub_cancel,IC.O];simp)
    rw[tq];clear tq;go_wp2;go_roundw;case rel=>exact⟨k+1,by omega,by go_num,Hn.O,Xp0 kw.O hlt sF.O QF.O.1,iT⟩
    case measure=>simp[intOf];omega
   ·obtain⟨q,hq⟩:∃q,aU t (jO x.af)=q:=⟨_,rfl⟩;have hn:(q !=0)=true:=by rw[←hq];simpa using tq
    have Hn:=Qh (show kv t=q by rw[bB.O,if_pos tq,hq]);rw[hq];clear hq tq;go_wp2;go_ret;exact⟨bT Hn.O.symm,iT⟩
  ·obtain⟨y,vb,vy,b',off',tO,iB,di,⟨_,e1,_,_,_,_,_⟩,_,_⟩:=oG Hv.O aB (k-1) (by omega);cases di;have hd:decide (0<k)=true:=Qt (by omega);have fE:0<k:=by omega
   have hi:IntKind.i64.wrap ((k:Int)-1)=(k:Int)-1:=IntWalk.i64_in _ (by omega);have hj:0≤(k:Int)-1:=by omega
   have hm:((k:Int)-1).toNat=k-1:=by omega
   have UO:y.af.length≤200:=(Bj (kw.O y (by
    rw[←iB];have:(t.take k)[k-1]'(by simp;omega)=t[k-1]:=List.getElem_take;rw[←this];exact List.getElem_mem _))).1
   replace bB:=Qh (show kv t=if !(gU (els y.af) (els x.af))then 14 else if aU t (jO x.af)≠0 then aU t (jO x.af)else eH t (some x) (t.drop (k+1)) by
    rw[bB.O,if_neg qV,List.getElem?_eq_getElem (by omega),iB];rfl)
   have wL:=Qh (fun w hw=>Td I hI y.af x.af (by omega) (by omega) w hw);clear iB qV;have g1:=cell_regrown d1;have f1:=cell_regrown e1;cases hl:gU (els y.af) (els x.af)
   ·have Hn:=Qh (show kv t=14 by rw[bB.O,hl];rfl);have hc:=Xqs hl;rcases hc with hc|hc
    all_goals
     rw[hc]at wL;clear hc;go_wp2_with fail
     refine wp_region_quiet_below (by kernel_rfl) (by kernel_rfl) ?_;repeat(go_big_quiet_step ((with_reducible exact Calls.regrown_of (wL.O _ (aB.below (Qn _) (below_regrown _ _ _))))))
     refine wpQuiet_nil ?_;intro w4 bg;have aL:Below (w1).heap.size (w1) w4:=by
      obtain⟨pq,rfl⟩:=bg;exact below_regrown _ _ _
     clear bg;go_wp2;go_ret;exact⟨bT Hn.O.symm,av.trans (aL.mono av.size)⟩
   ·replace bB:=Qh (show kv t=if aU t (jO x.af)≠0 then aU t (jO x.af)else eH t (some x) (t.drop (k+1)) by rw[bB.O,hl];rfl);rw[Xqr hl]at wL;clear hl;go_wp2_with fail
    refine wp_region_quiet_below (by kernel_rfl) (by kernel_rfl) ?_;repeat(go_big_quiet_step ((with_reducible exact Calls.regrown_of (wL.O _ (aB.below (Qn _) (below_regrown _ _ _))))))
    refine wpQuiet_nil ?_;intro w4 bg;have aL:Below (w1).heap.size (w1) w4:=by
     obtain⟨pq,rfl⟩:=bg;exact below_regrown _ _ _
    clear bg;have aO:=av.trans (aL.mono av.size);have bA:Ok I w4:=aB.below (Qn _) aL;have d1:=dQ aL d1;clear aL g1 f1;go_wp2_with fail
    refine(ll.O _ bA).mono ?_;rw[Jl.O];rintro e w5 ⟨rfl,aY⟩;have bV:=aO.trans (aY.mono aO.size);have bX:Ok I w5:=Ok.below bA (Qn _) aY;go_wp2_with fail
    refine(lK.O _ bX).mono ?_;rintro e w6 ⟨rfl,fF⟩;have iT:=bV.trans (fF.mono bV.size);by_cases tq:aU t (jO x.af)=0
    ·have Hn:=Qh (show eH t (if k+1=0 then none else t[k+1-1]?) (t.drop (k+1))=kv t by
      rw[bB.O,if_neg (show ¬aU t (jO x.af)≠0 by omega),Nat.add_sub_cancel,IC.O];simp)
     rw[tq];clear tq;go_wp2;go_roundw;case rel=>exact⟨k+1,by omega,by go_num,Hn.O,Xp0 kw.O hlt sF.O QF.O.1,iT⟩
     case measure=>simp[intOf];omega
    ·obtain⟨q,hq⟩:∃q,aU t (jO x.af)=q:=⟨_,rfl⟩;have hn:(q !=0)=true:=by rw[←hq];simpa using tq
     have Hn:=Qh (show kv t=q by rw[bB.O,if_pos tq,hq]);rw[hq];clear hq tq;go_wp2;go_ret;exact⟨bT Hn.O.symm,iT⟩
