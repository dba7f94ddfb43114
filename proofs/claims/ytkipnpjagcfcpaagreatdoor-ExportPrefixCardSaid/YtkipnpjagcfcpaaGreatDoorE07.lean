/- Lemmas for the claim's theorem;conditions: as each says. -/
import Derived.Test.YtkipnpjagcfcpaaGreatDoorE06
set_option maxHeartbeats 0
set_option maxRecDepth 100000
set_option linter.all false
namespace Go.Proofs.YtkipnpjagcfcpaaGreatDoor
variable{e:aG}{h:ae}{s:bR}{c:ae}{w:World}{a:Nat}{x:ae}{n:Nat}{ve:Value}{k:Nat}{l:List Int}{r:ae}{w':World}{b B i:Nat}{d:Int}{X:World}
theorem Gf{s y:ae}(hs:s=x++(aS y++r))(ha:a=x.length):rdStr s a= .ok (y,a+(aS y).length):=by
 subst hs;subst ha;exact Xsf x y r
theorem Oa{s:ae}{n:Int}(h0: -2147483648≤n)(h1:n≤2147483647)(hs:s=x++(aY n++r))(ha:a=x.length):rdNum s a= .ok (n,a+(aY n).length):=by
 subst hs;subst ha;exact Xsh x r n h0 h1
theorem Xpl{s:ae}{n most:Int}(h0:0≤n)(h1:n≤most)(h2:most≤2147483647)(hs:s=x++(aY n++r))(ha:a=x.length):ik most s a= .ok (n,a+(aY n).length):=by
 rw[ik,Oa (by omega) (by omega) hs ha,aR,if_neg (by show ¬(n<0∨most<n);omega)]
def Uq(y:Xt):Prop:=(-2147483648≤y.s∧y.s≤2147483647)∧(-2147483648≤y.o∧y.o≤2147483647)∧(-2147483648≤y.n∧y.n≤2147483647)
theorem Xpj:∀(l:List Xt) (s x r:ae) (a:Nat) (acc:List Xt),(∀y∈l,Uq y)→s=x++(vT l++r)→a=x.length→jq s l.length a acc= .ok (acc++l,a+(vT l).length)
 | [],s,x,r,a,acc,_,_,_=>by simp[jq,vT]
 |y::l,s,x,r,a,acc,h,hs,ha=>by
  obtain⟨⟨a1,a2⟩,⟨b1,b2⟩,c1,c2⟩:=h y (by simp);have e:vT (y::l)=aY y.s++(aY y.o++(aY y.n++vT l)):=by simp[vT]
  rw[e]at hs ⊢
  rw[List.length_cons,jq,Oa a1 a2 (by rw[hs];simp[List.append_assoc];rfl) ha,aR,
   Oa (x:=x++aY y.s) b1 b2 (by rw[hs];simp[List.append_assoc];rfl) (by rw[ha];simp),aR,
   Oa (x:=x++aY y.s++aY y.o) c1 c2 (by rw[hs];simp[List.append_assoc];rfl) (by rw[ha];simp[Nat.add_assoc]),aR,
   Xpj l s (x++aY y.s++aY y.o++aY y.n) r _ _ (fun z hz=>h z (by simp[hz])) (by rw[hs];simp[List.append_assoc]) (by rw[ha];simp[Nat.add_assoc])]
  simp[Nat.add_assoc]
theorem Xpm:∀(l:List At) (s x r:ae) (a:Nat) (acc:List At),s=x++((l.flatMap fun a=>aS a.k++aS a.v)++r)→a=x.length→jo s l.length a acc= .ok (acc++l,a+(l.flatMap fun a=>aS a.k++aS a.v).length)
 | [],s,x,r,a,acc,_,_=>by simp[jo]
 |y::l,s,x,r,a,acc,hs,ha=>by
  have e:((y::l).flatMap fun a=>aS a.k++aS a.v)=aS y.k++(aS y.v++l.flatMap fun a=>aS a.k++aS a.v):=by simp
  rw[e]at hs ⊢
  rw[List.length_cons,jo,Gf (x:=x) (y:=y.k) (by rw[hs];simp[List.append_assoc];rfl) ha,aR,
   Gf (x:=x++aS y.k) (y:=y.v) (by rw[hs];simp[List.append_assoc];rfl) (by rw[ha];simp),aR,
   Xpm l s (x++aS y.k++aS y.v) r _ _ (by rw[hs];simp[List.append_assoc]) (by rw[ha];simp[Nat.add_assoc])]
  simp[Nat.add_assoc]
def uB(h:ae)(z:Int)(dg:ae)(l:List Xt):ae:=aS h++(aY z++(aS dg++(aY l.length++vT l)))
theorem Xpk(h:ae)(z:Int)(dg:ae)(l:List Xt)(jY: -2147483648≤z)(qX:z≤2147483647)(hl:l.length≤65536)(hx:∀y∈l,Uq y):
 jJ (uB h z dg l) 0=Rb (eF h) fun e=>kz (bU e z dg l) (uB h z dg l).length:=by
 have hs:uB h z dg l=[]++(aS h++(aY z++(aS dg++(aY l.length++(vT l++[]))))):=by simp[uB]
 have hlen:(uB h z dg l).length=(aS h).length+((aY z).length+((aS dg).length+((aY l.length).length+(vT l).length))):=by simp[uB]
 rw[jJ,Gf (x:=[]) (y:=h) (a:=0) hs rfl,aR];congr 1;funext e
 rw[Oa (x:=aS h) jY qX (by rw[hs];simp;rfl) (by simp),aR,
  Gf (x:=aS h++aY z) (y:=dg) (by rw[hs];simp;rfl) (by simp),aR,
  Xpl (x:=aS h++aY z++aS dg) (n:=l.length) (most:=65536) (by omega) (by omega) (by omega) (by rw[hs];simp;rfl) (by simp[Nat.add_assoc]),aR]
 dsimp only;rw[Int.toNat_natCast,Xpj l _ (aS h++aY z++aS dg++aY l.length) [] _ _ hx (by rw[hs];simp) (by simp[Nat.add_assoc]),aR,hlen];simp[Nat.add_assoc]
theorem Xsj(mo:1≤e.ai)(hk6:e.ai≤6)(hl:e.ag.length≤400):eF (dD e)= .ok (bU e 0 [] []):=by
 have hk:kindOf (bO e.ai)=e.ai:=by
  have:e.ai=1∨e.ai=2∨e.ai=3∨e.ai=4∨e.ai=5∨e.ai=6:=by omega
  rcases this with k|k|k|k|k|k<;>rw[k]<;>decide
 have hs:dD e=[]++(aS (bO e.ai)++(aS e.af++(aY e.ag.length++((e.ag.flatMap fun a=>aS a.k++aS a.v)++(aS e.target++[]))))):=by simp[dD,u7]
 have hlen:(dD e).length=(aS (bO e.ai)).length+((aS e.af).length+((aY e.ag.length).length+((e.ag.flatMap fun a=>aS a.k++aS a.v).length+(aS e.target).length))):=by rw[hs];simp
 rw[eF,Gf (x:=[]) (y:=bO e.ai) (a:=0) hs rfl,aR];dsimp only
 rw[if_neg (by rw[hk];omega),Gf (x:=aS (bO e.ai)) (y:=e.af) (by rw[hs];simp;rfl) (by simp),aR,
  Xpl (x:=aS (bO e.ai)++aS e.af) (n:=e.ag.length) (most:=400) (by omega) (by omega) (by omega) (by rw[hs];simp;rfl) (by simp),aR]
 dsimp only
 rw[Int.toNat_natCast,Xpm e.ag _ (aS (bO e.ai)++aS e.af++aY e.ag.length) (aS e.target) _ _ (by rw[hs];simp) (by simp[Nat.add_assoc]),aR,
  Gf (x:=aS (bO e.ai)++aS e.af++aY e.ag.length++e.ag.flatMap fun a=>aS a.k++aS a.v) (y:=e.target) (r:=[]) (by rw[hs];simp) (by simp[Nat.add_assoc]),aR]
 dsimp only;rw[if_neg (by rw[hlen];simp[Nat.add_assoc])];simp[Ea,bU,hk]
theorem Xs7(he:eF h= .ok e):e.size=0∧e.aj=[]∧e.ak=[]∧1≤e.ai∧e.ai≤6∧ ∃nm a,rdStr h 0= .ok (nm,a)∧kindOf nm=e.ai:=by
 unfold eF at he;cases h1:rdStr h 0 with
 |error x=>rw[h1]at he;cases he
 |ok nm=>
  rw[h1,aR]at he;by_cases hk:kindOf nm.1=0
  ·rw[if_pos hk]at he;cases he
  rw[if_neg hk]at he;cases h2:rdStr h nm.2 with
  |error x=>rw[h2]at he;cases he
  |ok p=>
   rw[h2,aR]at he;cases h3:ik 400 h p.2 with
   |error x=>rw[h3]at he;cases he
   |ok n=>
    rw[h3,aR]at he;cases h4:jo h n.1.toNat n.2 []with
    |error x=>rw[h4]at he;cases he
    |ok l=>
     rw[h4,aR]at he;cases h5:rdStr h l.2 with
     |error x=>rw[h5]at he;cases he
     |ok t=>
      rw[h5,aR]at he;split at he
      ·cases he
      ·injection he with he
       subst he;refine⟨rfl,rfl,rfl,?_,?_,nm.1,nm.2,(by first|rfl|rw[h1]),rfl⟩
       ·show 1≤kindOf nm.1;revert hk;unfold kindOf;repeat' split
        all_goals omega
       ·show kindOf nm.1≤6;unfold kindOf;repeat' split
        all_goals omega
theorem Xxg{t:ae}(h:jm t=true):Lib.decDigits (dW 0 t)=t:=by
 have h':=h;unfold jm at h';simp only[Bool.and_eq_true,Bool.or_eq_true]at h';refine Xqe t.length t rfl (by have:=h'.1.1;cases t<;>simp_all) h'.1.2 ?_;rcases h'.2 with k|k
 ·exact .inl (by simpa using k)
 ·exact .inr (by simpa using k)
theorem Xqp{s:ae}{c:UInt8}(h:a+(upTo s a c).length<s.length):s.drop a=upTo s a c++c::s.drop (a+(upTo s a c).length+1):=by
 have key:∀(l:ae),(l.takeWhile (fun x=>x !=c)).length<l.length→l=l.takeWhile (fun x=>x !=c)++c::l.drop ((l.takeWhile (fun x=>x !=c)).length+1):=by
  intro l;induction l with
  |nil=>intro h;simp at h
  |cons x l ih=>
   intro h;rw[List.takeWhile_cons]at h ⊢;by_cases hx:x=c
   ·subst hx;simp
   ·rw[if_pos (by simpa using hx)]at h ⊢;have:=ih (by simpa using h);rw[List.cons_append,List.length_cons,List.drop_succ_cons,←this]
 have:=key (s.drop a) (by show(upTo s a c).length<_;rw[List.length_drop];omega);rw[List.drop_drop]at this;rw[Nat.add_assoc];exact this
theorem Xsg{s:ae}(h:rdStr s a= .ok (x,n)):s.drop a=aS x++s.drop n:=by
 unfold rdStr at h;cases hu:dK s a 58 with
 |error e=>rw[hu]at h;cases h
 |ok p=>
  obtain⟨t,m⟩:=p;rw[hu,aR]at h;obtain⟨q1,q2,q3,q4,q5⟩:=PL hu;have hsp:=Xqp (s:=s) (a:=a) (c:=58) (by rw[←q4];omega);rw[←q4,←q5]at hsp;unfold strOf at h;split at h
  ·cases h
  ·rename_i k1;split at h
   ·cases h
   ·rename_i k2;split at h
    ·cases h
    ·rename_i k3;injection h with h
     injection h with h1 h2
     dsimp only at*;have k1:jm t=true:=by simpa using k1
     have hd:=Xxg k1;have nL:x.length=dW 0 t:=by rw[←h1,List.length_take,List.length_drop];omega
     have hlt:m+dW 0 t<s.length:=by omega
     have hn:s.getD (m+dW 0 t) 0=44:=by simpa using k3
     have h44:(s.drop m).drop (dW 0 t)=44::s.drop n:=by
      rw[List.drop_drop,List.drop_eq_getElem_cons hlt,←h2];congr 1;rw[List.getD_eq_getElem?_getD,List.getElem?_eq_getElem hlt]at hn;simpa using hn
     have hm:s.drop m=x++44::s.drop n:=by
      rw[←h44,←h1];exact(List.take_append_drop _ _).symm
     rw[hsp,hm];simp[aS,Lib.itoa,nL,hd]
def zE:aG:=⟨0,[],[],[],0,[],[]⟩
def oC(h:ae):ae:=uB h 0 [] []
def fC(k:Int)(c:ae):List Xt:=if c=[]then []else [⟨k,0,(c.length:Nat)⟩]
def nP(k:Int)(h c:ae):ae:=uB h (c.length:Nat) (dM c) (fC k c)
def gU(h c:ae):aG×Bool:=
 match jJ (oC h) 0 with
 | .ok p=>(p.1,c.isEmpty&&(p.1.ai==2 || p.1.ai==3))
 | .error _=>if 65536<c.length then(zE,false)else match jJ (nP 0 h c) 0 with
   | .ok p=>(p.1,p.1.ai==1)
   | .error _=>(zE,false)
def nA(h:ae):Bool:=decide (7≤h.length)&&h.take 7==[52,58,102,105,108,101,44]
def yS(h c:ae):aG×Bool:=
 if nA h=false∧c≠[]then(zE,false)else match jJ (if nA h=true then nP 1 h c else oC h) 0 with
  | .ok p=>(p.1,p.1.ai==1 || p.1.ai==2 || p.1.ai==3)
  | .error _=>(zE,false)
theorem Xp6(k:Int)(hk:k=0∨k=1)(c:ae)(hc:c.length≤100000000):(fC k c).length≤65536∧ ∀y∈fC k c,Uq y:=by
 unfold fC;split
 ·simp
 ·refine⟨by simp,fun y hy=> ?_⟩;rw[List.mem_singleton]at hy;subst hy;unfold Uq;dsimp only;omega
theorem Ob(h:ae):jJ (oC h) 0=Rb (eF h) fun e=>kz (bU e 0 [] []) (oC h).length:=
 Xpk h 0 [] [] (by omega) (by omega) (by simp) (by simp)
theorem Oc(k:Int)(hk:k=0∨k=1)(h c:ae)(hc:c.length≤100000000):jJ (nP k h c) 0=Rb (eF h) fun e=>kz (bU e (c.length:Nat) (dM c) (fC k c)) (nP k h c).length:=
 Xpk h _ _ _ (by omega) (by omega) (Xp6 k hk c hc).1 (Xp6 k hk c hc).2
theorem Ur(h:az e=0)(hk:e.ai=1):e.aj.length=32∧e.size≤65536:=by
 unfold az at h;split at h
 ·omega
 split at h
 ·contradiction
 split at h
 ·omega
 split at h
 ·contradiction
 split at h
 ·omega
 split at h
 ·omega
 rename_i k1;split at h
 ·omega
 rename_i k2;constructor<;>omega
theorem Xox(e:aG)(c:ae)(d:ae):az (bU e (c.length:Nat) d (fC 0 c))=az (bU e (c.length:Nat) d (fC 1 c)):=by
 have h1:bK (e.ai==1) (fC 0 c)=bK (e.ai==1) (fC 1 c):=by
  unfold fC;split
  ·rfl
  ·simp[bK,bX]
 have h2:fH (fC 0 c)=fH (fC 1 c):=by
  unfold fC;split
  ·rfl
  ·simp[fH]
 unfold az bU;dsimp only;rw[h1,h2];rfl
theorem Xmu(he:eF h= .ok e):nA h=(e.ai==1):=by
 obtain⟨_,_,_,_,_,nm,a,hr,hk⟩:=Xs7 he;rw[←hk];have kD:=Xsg hr;rw[List.drop_zero]at kD;have hf:aS (bO 1)=[52,58,102,105,108,101,44]:=by
  show Lib.itoa 4++[58]++[102,105,108,101]++[44]=_;rw[Lib.itoa,if_neg (by omega),Lib.decDigits,dif_pos (by decide)];rfl
 by_cases hn:nm=bO 1
 ·have:kindOf nm=1:=by unfold kindOf;rw[if_pos hn]
  rw[this];subst hn;rw[hf]at kD;rw[kD];unfold nA;simp
 ·have mo:(kindOf nm==1)=false:=by
   unfold kindOf;rw[if_neg hn];repeat' split
   all_goals rfl
  rw[mo];unfold nA;rw[Bool.and_eq_false_iff];by_cases hl:7≤h.length
  ·right;cases hh:(h.take 7==[52,58,102,105,108,101,44])with
   |false=>rfl
   |true=>
    have h7:h=[]++(aS (bO 1)++h.drop 7):=by
     have:=List.take_append_drop 7 h;rw[hf,List.nil_append,←(by simpa using hh:h.take 7=[52,58,102,105,108,101,44])];exact this.symm
    have:=Gf (a:=0) h7 rfl;rw[hr]at this;injection this with this
    injection this with this
    exact absurd this hn
  ·exact .inl (Qf hl)
structure Lh (x y:aG):Prop where
 ai:x.ai=y.ai
 af:x.af=y.af
 ag:x.ag=y.ag
 target:x.target=y.target
 ex:az x=0
 ey:az y=0
theorem QG(h:az e=0):kz e n= .ok (e,n):=by unfold kz;rw[if_neg (by omega)]
theorem Od(h:az e≠0):kz e n= .error (az e):=if_pos h
theorem Xtr{x:Int}(hc:c.length≤100000000)(hh:eF h= .error x):(gU h c).2=false:=by
 unfold gU;rw[Ob,Oc 0 (.inl rfl) h c hc,hh,dJ,dJ];dsimp only;split<;>rfl
theorem Xwc{x:Int}(hc:c.length≤100000000)(hh:eF h= .error x):(yS h c).2=false:=by
 unfold yS;split
 ·rfl
 ·cases nA h
  ·rw[if_neg (by simp),Ob,hh,dJ]
  ·rw[if_pos rfl,Oc 1 (.inr rfl) h c hc,hh,dJ]
theorem Xrd(hc:c.length≤100000000)(hh:eF h= .ok e)(hk:e.ai=1):
 gU h c=if 65536<c.length∨az (bU e (c.length:Nat) (dM c) (fC 0 c))≠0 then(zE,false)else(bU e (c.length:Nat) (dM c) (fC 0 c),true):=by
 have bZ:az (bU e 0 [] [])≠0:=fun h0=>by
  have:=(Ur h0 hk).1;simp[bU]at this
 unfold gU;rw[Ob,Oc 0 (.inl rfl) h c hc,hh,aR,aR,Od bZ];dsimp only;by_cases h1:65536<c.length
 ·rw[if_pos h1,if_pos (.inl h1)]
 ·rw[if_neg h1];by_cases h2:az (bU e (c.length:Nat) (dM c) (fC 0 c))=0
  ·rw[if_neg (by omega),QG h2];dsimp only;rw[show((bU e (c.length:Nat) (dM c) (fC 0 c)).ai==1)=true by simp[bU,hk]]
  ·rw[if_pos (.inr h2),Od h2]
theorem Xt9(hc:c.length≤100000000)(hh:eF h= .ok e)(hk:e.ai=1):
 yS h c=if az (bU e (c.length:Nat) (dM c) (fC 1 c))≠0 then(zE,false)else(bU e (c.length:Nat) (dM c) (fC 1 c),true):=by
 have CV:nA h=true:=by rw[Xmu hh,hk];rfl
 unfold yS;rw[CV,if_neg (by simp),if_pos rfl,Oc 1 (.inr rfl) h c hc,hh,aR];by_cases h2:az (bU e (c.length:Nat) (dM c) (fC 1 c))=0
 ·rw[if_neg (by omega),QG h2];dsimp only;rw[show((bU e (c.length:Nat) (dM c) (fC 1 c)).ai==1)=true by simp[bU,hk]];rfl
 ·rw[if_pos h2,Od h2]
theorem Xov(hc:c.length≤100000000)(hh:eF h= .ok e)(hk:e.ai≠1):
 if az (bU e 0 [] [])=0 then gU h c=(bU e 0 [] [],c.isEmpty&&(e.ai==2 || e.ai==3))else(gU h c).2=false:=by
 unfold gU;rw[Ob,Oc 0 (.inl rfl) h c hc,hh,aR,aR];by_cases h0:az (bU e 0 [] [])=0
 ·rw[if_pos h0,QG h0];rfl
 ·rw[if_neg h0,Od h0];dsimp only;split
  ·rfl
  ·by_cases h2:az (bU e (c.length:Nat) (dM c) (fC 0 c))=0
   ·rw[QG h2];show(e.ai==1)=false;simpa using hk
   ·rw[Od h2]
theorem Xrg(hh:eF h= .ok e)(hk:e.ai≠1):
 yS h c=if c≠[]∨az (bU e 0 [] [])≠0 then(zE,false)else(bU e 0 [] [],e.ai==2 || e.ai==3):=by
 have CV:nA h=false:=by rw[Xmu hh];simpa using hk
 unfold yS;rw[CV];by_cases h1:c=[]
 ·rw[if_neg (by simp[h1]),if_neg (by simp),Ob,hh,aR];by_cases h0:az (bU e 0 [] [])=0
  ·rw[if_neg (by simp[h1,h0]),QG h0];show(bU e 0 [] [],e.ai==1 || e.ai==2 || e.ai==3)=_;rw[show(e.ai==1)=false by simpa using hk];rfl
  ·rw[if_pos (.inr h0),Od h0]
 ·rw[if_pos ⟨rfl,h1⟩,if_pos (.inl h1)]
theorem Xx9(h c:ae)(hc:c.length≤100000000):(gU h c).2=(yS h c).2∧((gU h c).2=true→Lh (gU h c).1 (yS h c).1):=by
 cases hh:eF h with
 |error x=>
  rw[Xtr hc hh,Xwc hc hh];exact⟨rfl,fun h=>by cases h⟩
 |ok e=>
  by_cases hk:e.ai=1
  ·rw[Xrd hc hh hk,Xt9 hc hh hk];have hh0:=Xox e c (dM c);by_cases h1:az (bU e (c.length:Nat) (dM c) (fC 1 c))=0
   ·have hs:=(Ur h1 hk).2;have Us:¬65536<c.length:=by
     simp only[bU]at hs;omega
    rw[if_neg (by omega),if_neg (by omega)];exact⟨rfl,fun _=>⟨rfl,rfl,rfl,rfl,by show az (bU e (c.length:Nat) (dM c) (fC 0 c))=0;omega,h1⟩⟩
   ·rw[if_pos (.inr (by omega)),if_pos h1];exact⟨rfl,fun h=>by cases h⟩
  ·have ho:=Xov hc hh hk;rw[Xrg hh hk];by_cases h0:az (bU e 0 [] [])=0
   ·rw[if_pos h0]at ho;rw[ho];by_cases h1:c=[]
    ·rw[if_neg (by simp[h1,h0]),h1];exact⟨rfl,fun _=>⟨rfl,rfl,rfl,rfl,h0,h0⟩⟩
    ·rw[if_pos (.inl h1),show c.isEmpty=false by cases c<;>simp_all];exact⟨rfl,fun h=>by cases h⟩
   ·rw[if_neg h0]at ho;rw[if_pos (.inr h0),ho];exact⟨rfl,fun h=>by cases h⟩
def Cr:List aG→List aG→Prop
 | [],[]=>True
 |x::a,y::b=>Lh x y∧Cr a b
 |_,_=>False
theorem Xrx(p:ae):∀{a b:List aG},Cr a b→(dS a p).map aG.ai=(dS b p).map aG.ai
 | [],[],_=>rfl
 | [],_::_,h=>h.elim
 |_::_,[],h=>h.elim
 |x::a,y::b,h=>by
  unfold dS;rw[List.find?_cons,List.find?_cons,h.1.af];split
  ·simp[h.1.ai]
  ·exact Xrx p h.2
theorem Xw7{a b:List aG}(h:Cr a b)(p:ae):bA a p=bA b p:=by
 have hg:=Xrx p h;unfold bA;split
 ·rfl
 ·cases ha:dS a p<;>cases hb:dS b p<;>rw[ha,hb]at hg<;>simp_all
theorem Xry{t u:List aG}(htu:Cr t u):∀{a b:List aG},Cr a b→ ∀q r:Option aG,q.map aG.af=r.map aG.af→fe t q a=fe u r b
 | [],[],_,_,_,_=>rfl
 | [],_::_,h,_,_,_=>h.elim
 |_::_,[],h,_,_,_=>h.elim
 |x::a,y::b,h,q,r,hq=>by
  have aaE:(q.any fun z=> !(ji (els z.af) (els x.af)))=(r.any fun z=> !(ji (els z.af) (els y.af))):=by
   rw[h.1.af];cases q<;>cases r<;>simp_all
  unfold fe;rw[if_neg (by rw[h.1.ex];omega),if_neg (c:=az y≠0) (by rw[h.1.ey];omega),aaE,h.1.ai,h.1.af,Xw7 htu,Xry htu h.2 (some x) (some y) (by simp[h.1.af])]
structure tF where
 ai:Int
 af:ae
 ag:List At
 target:ae
 aU:ae
def vY(x:aG)(c:ae):tF:=⟨x.ai,x.af,x.ag,x.target,c⟩
def xy(f:ae→ae→aG×Bool)(s:ae):Nat→Nat→List aG→List tF→Except Int (List aG×List tF×Nat)
 |0,a,t,o=> .ok (t,o,a)
 |n+1,a,t,o=>Rb (rdStr s a) fun h=>Rb (rdStr s h.2) fun c=>if(f h.1 c.1).2=false then .error 3 else xy f s n c.2 (t++[(f h.1 c.1).1]) (o++[vY (f h.1 c.1).1 c.1])
def Cs(s:ae)(r:List aG×List tF×Nat):Except Int (List tF):=if r.2.2≠s.length then .error 3 else if kK r.1≠0 then .error (kK r.1)else .ok r.2.1
def Ik(f:ae→ae→aG×Bool)(s:ae)(n:Int×Nat):Except Int (List tF):=if n.1<0∨5000<n.1 then .error 2 else Rb (xy f s n.1.toNat n.2 [] []) (Cs s)
def Ac(f:ae→ae→aG×Bool)(s:ae):Except Int (List tF):=Rb (rdNum s 0) (Ik f s)
open Go.RowKit
abbrev EC(s:bR)(ve:Value):List Value:=[.int .i64 s.num,.int .i64 s.aN,S s.aW,ve,S s.aH,S s.sl]
abbrev uC(s:bR)(ve:Value):Value:= .agg #[.int .i64 s.num,.int .i64 s.aN,S s.aW,ve,S s.aH,S s.sl]
def lL:Ty bR where
 size:=6
 rd:=fun I cs s=> ∃ve,cs=EC s ve∧bf bG I ve s.ay
 len:=fun⟨_,h,_⟩=>by rw[h];rfl
 one:=fun⟨ve,h,h1⟩ u hu=>by
  rw[h]at hu;simp at hu;rcases hu with rfl|rfl|rfl|rfl|rfl|rfl<;>first|rfl|exact h1.one
 mono:=fun hI ⟨ve,h,h1⟩=>⟨ve,h,h1.mono hI⟩
structure Bt (w:World) (b o:Nat) (s:bR) (ve:Value):Prop where
 c0:w.cell? ⟨b,o,none⟩=some (.int .i64 s.num)
 c1:w.cell? ⟨b,o+1,none⟩=some (.int .i64 s.aN)
 c2:w.cell? ⟨b,o+2,none⟩=some (S s.aW)
 c3:w.cell? ⟨b,o+3,none⟩=some ve
 c4:w.cell? ⟨b,o+4,none⟩=some (S s.aH)
 c5:w.cell? ⟨b,o+5,none⟩=some (S s.sl)
theorem Bt.far{o:Nat}(h:Bt w b o s ve)(hb:Below B w w')(hn:b<B):Bt w' b o s ve:=
 ⟨(hb.cell hn).trans h.c0,(hb.cell hn).trans h.c1,(hb.cell hn).trans h.c2,(hb.cell hn).trans h.c3,(hb.cell hn).trans h.c4,(hb.cell hn).trans h.c5⟩
structure nC (w:World) (n:Nat) (s:bR) (ve:Value):Prop where
 c0:w.cell? ⟨n,0,none⟩=some (.int .i64 s.num)
 c1:w.cell? ⟨n,1,none⟩=some (.int .i64 s.aN)
 c2:w.cell? ⟨n,2,none⟩=some (S s.aW)
 c3:w.cell? ⟨n,3,none⟩=some ve
 c4:w.cell? ⟨n,4,none⟩=some (S s.aH)
 c5:w.cell? ⟨n,5,none⟩=some (S s.sl)
theorem nC.aA(h:nC w b s ve)(hb:Below w.heap.size w w'):nC w' b s ve:=
 ⟨dh hb h.c0,dh hb h.c1,dh hb h.c2,dh hb h.c3,dh hb h.c4,dh hb h.c5⟩
theorem nC.past(h:nC w b s ve)(x:Obj):nC (w.alloc x) b s ve:=
 ⟨fP x h.c0,fP x h.c1,fP x h.c2,fP x h.c3,fP x h.c4,fP x h.c5⟩
theorem xz{W:World}{t:TypeId}(hn:n=W.heap.size)(hb:Below (W.alloc (.cells #[.int .i64 s.num,.int .i64 s.aN,S s.aW,ve,S s.aH,S s.sl] t)).heap.size (W.alloc (.cells #[.int .i64 s.num,.int .i64 s.aN,S s.aW,ve,S s.aH,S s.sl] t)) w'):nC w' n s ve:=by
 subst hn;exact nC.aA ⟨by simp,by simp,by simp,by simp,by simp,by simp⟩ hb
theorem Dl{I:IH}{v:Value}{l:List bR}(h:bf lL I v l)(hw:Ok I w)(i:Nat)(hi:i<l.length):∃x ve b off cap,l[i]=x∧v= .slice (some ⟨b,off,none⟩) l.length cap∧
 Bt w b (off+i*6) x ve∧bf bG I ve x.ay:=by
 obtain⟨b,off,cap,cs,hv,⟨ve,iU,h1⟩,hc⟩:=h.at_ hw hi;subst iU;exact⟨_,ve,b,off,cap,rfl,hv,⟨hc 0 _ rfl,hc 1 _ rfl,hc 2 _ rfl,hc 3 _ rfl,hc 4 _ rfl,hc 5 _ rfl⟩,h1⟩
structure jA (s:bR):Prop where
 mi:s.ay.length≤30
 aH:s.aH.length≤1000
 aW:s.aW.length≤100
 sl:s.sl.length≤2100
 wf:∀e∈s.ay,e.Wf
 af:∀e∈s.ay,e.af.length≤300
 target:∀e∈s.ay,e.target.length≤300
 ak:∀e∈s.ay,e.ak.length≤30
 num: -9223372036854775808≤s.num∧s.num≤9223372036854775807
 aN: -9223372036854775808≤s.aN∧s.aN≤9223372036854775807
def pO(s:bR)(k:Nat):ae:=qz s++(s.ay.take k).flatMap yD
theorem Xr0(hk:k<s.ay.length){x:aG}(hx:s.ay[k]=x):pO s (k+1)=pO s k++yD x:=by
 rw[pO,pO,List.take_succ_eq_append_getElem hk,hx,List.flatMap_append,←List.append_assoc];simp
theorem Xu3(s:bR)(h:s.ay.length≤k):pO s k=kY s:=by rw[pO,List.take_of_length_le h];rfl
theorem Xo8(s:ae):(dM s).length≤32:=by
 unfold dM;rw[List.length_map];exact Xg1 _ 8
theorem Xnt(h:jA s)(hf:iK s=0):(qz s).length≤400:=by
 have hk:=TR hf;have h1:=Dh (n:=s.num) (by omega) (by omega);have h2:=Dh (n:=s.aN) (by omega) (by omega);have h3:=pY s.aW (by have:=h.aW;omega);have h4:=qP s.aH.length (by have:=h.aH;omega);have h5:=Xo8 s.aH;have h6:=pY (dM s.aH) (by omega);have h7:=qP s.ay.length (by have:=h.mi;omega);have h8:=h.aW;unfold qz;simp only[List.length_append];omega
theorem Xp9:∀{l:List aG},(∀e∈l,kT e∧e.ak.length≤1000)→(l.flatMap yD).length≤54000*l.length
 | [],_=>by simp
 |e::l,h=>by
  have h1:=Xqc (h e (List.mem_cons_self ..)).1 (h e (List.mem_cons_self ..)).2;have h2:=Xp9 fun x hx=>h x (List.mem_cons_of_mem _ hx);simp only[List.flatMap_cons,List.length_append,List.length_cons];omega
theorem Xu2(h:jA s)(hf:iK s=0)(hv:∀e∈s.ay.take k,az e=0):(pO s k).length≤1700000:=by
 have h1:=Xnt h hf;have h2:=Xp9 (l:=s.ay.take k) fun e he=>⟨Bn (hv e he),by have:=h.ak e (List.mem_of_mem_take he);omega⟩;have h3:(s.ay.take k).length≤s.ay.length:=by simp;omega
 have h4:=h.mi;unfold pO;rw[List.length_append];omega
theorem Xg7{l:List aG}(hk:k<l.length){x:aG}(hx:l[k]=x):fA (l.drop k)=if az x≠0 then az x else fA (l.drop (k+1)):=by
 rw[List.drop_eq_getElem_cons hk,hx];rfl
theorem Xrs(b:Nat)(s:ae)(hs:s.length≤140737488355328)(w:World)(hc:w.cell? ⟨b,0,none⟩=some (S s))(xK:b<w.heap.size):
 Calls Tryz.prog 84 #[.slice (some ⟨b,0,none⟩) 1 1] w fun e w'=>e= .returned (S (dM s))∧Below w.heap.size w w':=
 Xwl b 0 1 [s] s (by simp) hs w (fun j x hx=>by match j,hx with|0,hx=>cases hx;exact hc) (by simp) xK (by simp)
abbrev sgL(n:Nat)(st p4 sm p6 p7 u:ae)(ao:Option Addr)(le co:Nat)(x:Nat×Nat):List (Option Tmp×Value):=
 [(some 37,.pointer (some ⟨n,4,none⟩)),(some 38,S st),(some 39,.int .i64 (st.length:Int)),(some 40,S p4),(some 41,.pointer (some ⟨n,4,none⟩)),(some 42,S st),(some 43,.slice (some ⟨x.1,0,none⟩) 1 1),(some 44,S sm),(some 45,S p6),(some 46,S (p4++p6)),
  (some 47,.pointer (some ⟨n,3,none⟩)),(some 48,.slice ao le co),(some 49,.int .i64 (le:Int)),(some 50,S p7),(some 51,S u),(some 52,.tuple #[.int .i64 (u.length:Int),.nilIface])]
def meaning(x y:aG):Bool:=decide (x.ai=y.ai)&&decide (x.ag=y.ag)&&decide (x.target=y.target)&&decide (x.size=y.size)&&decide (x.aj=y.aj)
def vZ:List aG→List aG→List ae
 | [],[]=> []
 |x::a,[]=>x.af::vZ a []
 | [],y::b=>y.af::vZ [] b
 |x::a,y::b=>if mR x y then x.af::vZ a (y::b)else if mR y x then y.af::vZ (x::a) b else if meaning x y then vZ a b else x.af::vZ a b
termination_by a b=>a.length+b.length
def als(l:List ae):Prop:=l.Pairwise fun p q=>ji (els p) (els q)=true
def X4(a b:List aG)(p:ae):Prop:=(∃x∈a,x.af=p∧ ∀y∈b,y.af=p→meaning x y=false)∨(∃y∈b,y.af=p∧ ∀x∈a,x.af≠p)
theorem step_ok{s:jI}(h:(dY s e d).2=0):bM s.aI e=((bM s.aI e).1,0)∧(dY s e d).1.aI=Gv s.aI e∧az e=0:=by
 unfold dY at*;split at h
 ·contradiction
 ·rename_i h1;have ha:=PI (t:=s.aI) (e:=e) (by omega);obtain⟨hp,hx⟩:=lv.1 ha;split at h
  ·contradiction
  ·rename_i h2;split at h
   ·contradiction
   ·rename_i h3;rw[if_neg h1,if_neg h2,if_neg h3];exact⟨ha,hx,hp.dm⟩
def aeA(i:Option aG)(l:List FT):Option aG:=l.foldl (fun _ v=>if v.e.ai=4 then none else some v.e) i
def wh(d:Int):jI→List aG→Prop
 |_,[]=>True
 |s,e::es=>(dY s e d).2=0∧wh d (dY s e d).1 es
theorem Xto{L:List bR}:∀{es:List aG} {s:jI},(ib L d s es).2=0→wh d s es∧(ib L d s es).1=vz s d es∧ ∀e∈es,gP L e=true
 | [],s,_=>⟨trivial,rfl,fun e he=>by cases he⟩
 |e::es,s,h=>by
  rw[ib]at h ⊢;by_cases h1:(dY s e d).2=0
  ·rw[if_neg (by omega)]at h ⊢;by_cases h2:gP L e=false
   ·rw[if_pos h2]at h;have h:(2:Int)=0:=h;omega
   ·rw[if_neg h2]at h ⊢;obtain⟨i1,i2,i3⟩:=Xto h;refine⟨⟨h1,i1⟩,i2,fun x hx=> ?_⟩;rcases List.mem_cons.1 hx with rfl|hx
    ·simpa using h2
    ·exact i3 x hx
  ·rw[if_pos h1]at h;exact absurd h h1
def Li:jI→List bR→Prop
 |_,[]=>True
 |s,x::xs=>wh x.aN s x.ay∧Li (vz s x.aN x.ay) xs
structure QH (i:Nat) (aW:ae) (aN:Int) (x:bR):Prop where
 dig:(eD x).2=0
 num:x.num=i+1
 aN:aN≤x.aN
 aW:x.aW=aW
theorem Ut{l:List bR}{s:jI}{aW:ae}{aN:Int}{x:bR}{xs:List bR}(h:eO l i s aW aN (x::xs)=0):
 QH i aW aN x∧wh x.aN s x.ay∧(∀e∈x.ay,gP (l.take (i+1)) e=true)∧eO l (i+1) (vz s x.aN x.ay) (eD x).1 x.aN xs=0:=by
 rw[eO]at h;by_cases h1:(eD x).2=0
 ·rw[if_neg (by omega)]at h;by_cases h2:x.num≠i+1∨x.aN<aN
  ·rw[if_pos h2]at h;exact absurd h (by decide)
  ·rw[if_neg h2]at h;by_cases h3:x.aW=aW
   ·rw[if_neg (by simpa using h3)]at h;by_cases h4:(ib (l.take (i+1)) x.aN s x.ay).2=0
    ·rw[if_neg (by omega)]at h;obtain⟨i1,i2,i3⟩:=Xto h4;rw[i2]at h;exact⟨⟨h1,by omega,by omega,h3⟩,i1,i3,h⟩
    ·rw[if_pos h4]at h;exact absurd h h4
   ·rw[if_pos h3]at h;exact absurd h (by decide)
 ·rw[if_pos h1]at h;exact absurd h h1
theorem X5{l:List bR}:∀{xs:List bR} {i:Nat} {s:jI} {aW:ae} {aN:Int},eO l i s aW aN xs=0→ ∀(j:Nat) (x:bR),xs[j]?=some x→x.num=i+j+1
 | [],_,_,_,_,_,j,x,hx=>by simp at hx
 |y::xs,i,s,aW,aN,h,j,x,hx=>by
  obtain⟨h1,_,_,h4⟩:=Ut h;cases j with
  |zero=>
   have:y=x:=by simpa using hx
   subst this;have:=h1.num;omega
  |succ j=>
   have:=X5 h4 j x (by simpa using hx);omega
def writes(p:ae)(e:aG):Bool:=decide (e.ai≤3)&&e.af==p
def Uu(p:ae)(l:List bR):Nat:=(l.flatMap fun x=>x.ay.filter (writes p)).length
def keeps(v:FT):Bool:=decide (v.e.ai≠4)
def JE:Bool→List FT→Prop
 |_,[]=>True
 |r,v::vs=>if v.e.ai=4 then r=false∧JE true vs else JE false vs
def four(l:List Int)(a b c d:Nat)(va vb vc vd:Int):List Int:=(((l.set a va).set b vb).set c vc).set d vd
theorem Xiv(l:List Int)(a b c d:Nat)(va vb vc vd:Int):(four l a b c d va vb vc vd).length=l.length:=by simp[four]
theorem Xth(l:List Int)(a b c d:Nat)(ha:a<l.length)(hb:b<l.length)(hc:c<l.length)(hd:d<l.length):four l a b c d (l.getD a 0) (l.getD b 0) (l.getD c 0) (l.getD d 0)=l:=by
 simp[four,List.getD,ha,hb,hc,hd]
structure Apart (n a b c d:Nat):Prop where
 la:a<n
 lb:b<n
 lc:c<n
 ld:d<n
 ab:a≠b
 ac:a≠c
 ad:a≠d
 bc:b≠c
 bd:b≠d
 cd:c≠d
section
variable {l:List Int} {a b c d:Nat} {va vb vc vd:Int}
theorem Xtg(h:Apart l.length a b c d)(x:Int):(four l a b c d va vb vc vd).set a x=four l a b c d x vb vc vd:=by
 unfold four;rw[List.set_comm _ _ h.ad.symm,List.set_comm _ _ h.ac.symm,List.set_comm _ _ h.ab.symm,List.set_set]
theorem Xtf(h:Apart l.length a b c d)(x:Int):(four l a b c d va vb vc vd).set b x=four l a b c d va x vc vd:=by
 unfold four;rw[List.set_comm _ _ h.bd.symm,List.set_comm _ _ h.bc.symm,List.set_set]
theorem Xte(h:Apart l.length a b c d)(x:Int):(four l a b c d va vb vc vd).set c x=four l a b c d va vb x vd:=by
 unfold four;rw[List.set_comm _ _ h.cd.symm,List.set_set]
theorem Xtd(_h:Apart l.length a b c d)(x:Int):(four l a b c d va vb vc vd).set d x=four l a b c d va vb vc x:=by
 unfold four;rw[List.set_set]
theorem Oe{l:List Int}{j:Nat}(h:i≠j)(x:Int):(l.set i x).getD j 0=l.getD j 0:=by
 simp[List.getD,List.getElem?_set_ne h]
theorem Uv{l:List Int}(h:i<l.length)(x:Int):(l.set i x).getD i 0=x:=by
 simp[List.getD,h]
theorem Xy6(h:Apart l.length a b c d):(four l a b c d va vb vc vd).getD a 0=va:=by
 unfold four;rw[Oe h.ad.symm,Oe h.ac.symm,Oe h.ab.symm,Uv h.la]
theorem Xy5(h:Apart l.length a b c d):(four l a b c d va vb vc vd).getD b 0=vb:=by
 unfold four;rw[Oe h.bd.symm,Oe h.bc.symm,Uv (by simpa using h.lb)]
theorem Xy4(h:Apart l.length a b c d):(four l a b c d va vb vc vd).getD c 0=vc:=by
 unfold four;rw[Oe h.cd.symm,Uv (by simpa using h.lc)]
theorem Xy3(h:Apart l.length a b c d):(four l a b c d va vb vc vd).getD d 0=vd:=by
 unfold four;rw[Uv (by simpa using h.ld)]
end
structure iZ (w:World) (t:TypeId) (l:List Int) (a b c d:Nat) (va vb vc vd:Int) (X:World):Prop where
 nz:X.heap[w.heap.size]?=some (.cells (row (four l a b c d va vb vc vd)) t (0,0))
 zero:X.heap[w.heap.size+1]?=some (.cells (row (List.replicate 16 0)) t (0,0))
 below:Below w.heap.size w X
section
variable {w X X':World} {t:TypeId} {l:List Int} {a b c d:Nat} {va vb vc vd:Int}
theorem iZ.lt(h:iZ w t l a b c d va vb vc vd X):w.heap.size+1<X.heap.size:=(Qg h.zero)
theorem iZ.pass(h:iZ w t l a b c d va vb vc vd X)(hb:Below X.heap.size X X'):iZ w t l a b c d va vb vc vd X':=
 ⟨(hb.block _ (by have:=h.lt;omega)).trans h.nz,(hb.block _ h.lt).trans h.zero,h.below.trans (hb.mono h.below.size)⟩
theorem iZ.cell(h:iZ w t l a b c d va vb vc vd X)(q:Nat)(hq:q<l.length):X.cell? ⟨w.heap.size,q,none⟩=some (.int .u32 ((four l a b c d va vb vc vd).getD q 0)):=
 (cell_of_row X _ q _ _ _ h.nz).trans (oV (by rw[Xiv];exact hq))
theorem iZ.ca(h:iZ w t l a b c d va vb vc vd X)(k:Apart l.length a b c d):X.cell? ⟨w.heap.size,a,none⟩=some (.int .u32 va):=by rw[h.cell a k.la,Xy6 k]
theorem iZ.cb(h:iZ w t l a b c d va vb vc vd X)(k:Apart l.length a b c d):X.cell? ⟨w.heap.size,b,none⟩=some (.int .u32 vb):=by rw[h.cell b k.lb,Xy5 k]
theorem iZ.cc(h:iZ w t l a b c d va vb vc vd X)(k:Apart l.length a b c d):X.cell? ⟨w.heap.size,c,none⟩=some (.int .u32 vc):=by rw[h.cell c k.lc,Xy4 k]
theorem iZ.cd(h:iZ w t l a b c d va vb vc vd X)(k:Apart l.length a b c d):X.cell? ⟨w.heap.size,d,none⟩=some (.int .u32 vd):=by rw[h.cell d k.ld,Xy3 k]
theorem iZ.fr(h:iZ w t l a b c d va vb vc vd X)(q:Nat):X.frozen? ⟨w.heap.size,q,none⟩=false:=frozen_of_row X _ q _ _ h.nz
theorem iZ.put(h:iZ w t l a b c d va vb vc vd X)(q:Nat)(x:Int){L:List Int}(hL:(four l a b c d va vb vc vd).set q x=L){NR vb' vc' vd':Int}(hL':L=four l a b c d NR vb' vc' vd'):iZ w t l a b c d NR vb' vc' vd' (X.setCell ⟨w.heap.size,q,none⟩ (.int .u32 x)):=by
 subst hL';refine⟨?_,?_,h.below.setCell (p:=⟨w.heap.size,q,none⟩) (Qn _) _⟩
 ·rw[←hL];exact heap_setCell x h.nz
 ·rw[Below.heap_setCell _ _ _ _ (by simp)];exact h.zero
theorem iZ.pa(h:iZ w t l a b c d va vb vc vd X)(k:Apart l.length a b c d)(x:Int):iZ w t l a b c d x vb vc vd (X.setCell ⟨w.heap.size,a,none⟩ (.int .u32 x)):=h.put a x (Xtg k x) rfl
theorem iZ.pb(h:iZ w t l a b c d va vb vc vd X)(k:Apart l.length a b c d)(x:Int):iZ w t l a b c d va x vc vd (X.setCell ⟨w.heap.size,b,none⟩ (.int .u32 x)):=h.put b x (Xtf k x) rfl
theorem iZ.pc(h:iZ w t l a b c d va vb vc vd X)(k:Apart l.length a b c d)(x:Int):iZ w t l a b c d va vb x vd (X.setCell ⟨w.heap.size,c,none⟩ (.int .u32 x)):=h.put c x (Xte k x) rfl
theorem iZ.pd(h:iZ w t l a b c d va vb vc vd X)(k:Apart l.length a b c d)(x:Int):iZ w t l a b c d va vb vc x (X.setCell ⟨w.heap.size,d,none⟩ (.int .u32 x)):=h.put d x (Xtd k x) rfl
end
theorem Uw(x:Int)(k d m:Int)(hk:tO k d m)(w:World):
 Calls Tryz.prog 270 #[.int .u32 x,.int .u64 k] w fun e w'=>e= .returned (.int .u32 (mE d m x))∧Below w.heap.size w w':=
 (Xlv x k d m hk w).mono fun _ _ ⟨h1,h2⟩=>⟨h1,by rw[h2];exact Qb _ _⟩
theorem Xxa:tO 16 65536 65536:= .inl ⟨rfl,rfl,rfl⟩
theorem Xxb:tO 12 4096 1048576:= .inr (.inl ⟨rfl,rfl,rfl⟩)
theorem Xyu:tO 8 256 16777216:= .inr (.inr (.inl ⟨rfl,rfl,rfl⟩))
theorem Xyv:tO 7 128 33554432:= .inr (.inr (.inr ⟨rfl,rfl,rfl⟩))
theorem Xy2{α:Type}:∀{l:List α},l.length=16→ ∃a b c d e f g h i j k m n o p q,l=[a,b,c,d,e,f,g,h,i,j,k,m,n,o,p,q]
 | [a,b,c,d,e,f,g,h,i,j,k,m,n,o,p,q],_=>⟨a,b,c,d,e,f,g,h,i,j,k,m,n,o,p,q,rfl⟩
theorem Xlw(l:List Int)(hl:l.length=16)(qa qb qc qd:Nat)(x y:Int)(w:World)(zK:Apart 16 qa qb qc qd):
 Calls Tryz.prog 213 #[.agg (row l),.int .i64 qa,.int .i64 qb,.int .i64 qc,.int .i64 qd,.int .u32 x,.int .u32 y] w fun e w'=>e= .returned (.agg (row (nU l qa qb qc qd x y)))∧Below w.heap.size w w':=by
 have iG:Hid (Apart l.length qa qb qc qd):=Qh (by rw[hl];exact zK);have hM0:iZ w 249 l qa qb qc qd (l.getD qa 0) (l.getD qb 0) (l.getD qc 0) (l.getD qd 0) ((w.alloc (.cells (row l) 249)).alloc (.cells (row (List.replicate 16 0)) 249)):=
  ⟨by rw[Xth _ _ _ _ _ iG.O.la iG.O.lb iG.O.lc iG.O.ld];exact(Below.heap_alloc (w.alloc (.cells (row l) 249)) (.cells (row (List.replicate 16 0)) 249) w.heap.size (by simp)).trans (heap_alloc_new w (.cells (row l) 249)),
    (by have h:=heap_alloc_new (w.alloc (.cells (row l) 249)) (.cells (row (List.replicate 16 0)) 249);rwa[show(w.alloc (.cells (row l) 249)).heap.size=w.heap.size+1 by simp]at h),
    ((Qb w.heap.size w).alloc (Qn _) (.cells (row l) 249)).alloc (by simp) (.cells (row (List.replicate 16 0)) 249)⟩
 obtain⟨va,Km⟩:∃va,l.getD qa 0=va:=⟨_,rfl⟩;obtain⟨vb,Kn⟩:∃vb,l.getD qb 0=vb:=⟨_,rfl⟩;obtain⟨vc,Ko⟩:∃vc,l.getD qc 0=vc:=⟨_,rfl⟩;obtain⟨vd,Kq⟩:∃vd,l.getD qd 0=vd:=⟨_,rfl⟩;have Hm:=Qh (show nU l qa qb qc qd x y=four l qa qb qc qd (sG va vb vc vd x y).1 (sG va vb vc vd x y).2.1 (sG va vb vc vd x y).2.2.1 (sG va vb vc vd x y).2.2.2 by rw[nU,Km,Kn,Ko,Kq,four]);rw[Km,Kn,Ko,Kq]at hM0;clear Km Kn Ko Kq;have HM:=Qh hM0;clear hM0;have n1:(qa:Int)<16:=by have:=zK.la;omega
 have n2:(qb:Int)<16:=by have:=zK.lb;omega
 have n3:(qc:Int)<16:=by have:=zK.lc;omega
 have n4:(qd:Int)<16:=by have:=zK.ld;omega
 clear zK;obtain⟨v0,v1,v2,v3,v4,v5,v6,v7,v8,v9,v10,v11,v12,v13,v14,v15,SK⟩:=Xy2 hl;have bI:row l=#[.int .u32 v0,.int .u32 v1,.int .u32 v2,.int .u32 v3,.int .u32 v4,.int .u32 v5,.int .u32 v6,.int .u32 v7,.int .u32 v8,.int .u32 v9,.int .u32 v10,.int .u32 v11,.int .u32 v12,.int .u32 v13,.int .u32 v14,.int .u32 v15]:=by rw[SK];rfl
 have TM:=Qh SK;have mJ:=Qh bI;have sU:=Qh hl;clear SK bI hl;rw[mJ.O];go_enter Tryz.func213,Tryz.ntmps213
 go_wp2_with fail
 rw[←mJ.O];rw[show(#[.int .u32 0,.int .u32 0,.int .u32 0,.int .u32 0,.int .u32 0,.int .u32 0,.int .u32 0,.int .u32 0,.int .u32 0,.int .u32 0,.int .u32 0,.int .u32 0,.int .u32 0,.int .u32 0,.int .u32 0,.int .u32 0]:Array Value)=row (List.replicate 16 0)from rfl];generalize(w.alloc (.cells (row l) 249)).alloc (.cells (row (List.replicate 16 0)) 249)=X at HM ⊢;clear mJ TM;have g1:=cell_regrown (HM.O.ca iG.O);have g2:=cell_regrown (HM.O.cb iG.O);refine zq 11 (by kernel_rfl) (by kernel_rfl) ?_;simp only[List.take_succ_cons,List.take_zero,List.drop_succ_cons,List.drop_zero];repeat(go_big_quiet_step ((fail)))
 refine wpQuiet_nil ?_;intro X1 bg;have nN:Below (X).heap.size (X) X1:=by
  obtain⟨pq,rfl⟩:=bg;exact below_regrown _ _ _
 clear bg;have gD:=HM.O.pass nN;clear g1 g2 nN HM;have HM:=Qh gD;have g1:=gD.ca iG.O;have g2:=fun q=>gD.fr q;clear gD;go_wp2_with fail
 have gD:=HM.O.pa iG.O ((va+vb+x)%4294967296);clear HM g1 g2;obtain⟨a1,xL⟩:∃a1,(va+vb+x)%4294967296=a1:=⟨_,rfl⟩;rw[xL]at gD ⊢;have KM:=Qh xL;clear xL;have HM:=Qh gD;clear gD;generalize X1.setCell _ _=X at HM ⊢;have g1:=cell_regrown (HM.O.cd iG.O);have g2:=cell_regrown (HM.O.ca iG.O);refine zq 10 (by kernel_rfl) (by kernel_rfl) ?_;simp only[List.take_succ_cons,List.take_zero,List.drop_succ_cons,List.drop_zero];repeat(go_big_quiet_step ((exact Calls.regrown_of (Uw _ _ _ _ Xxa _))))
 refine wpQuiet_nil ?_;intro X1 bg;have nN:Below (X).heap.size (X) X1:=by
  obtain⟨pq,rfl⟩:=bg;exact below_regrown _ _ _
 clear bg;have gD:=HM.O.pass nN;clear g1 g2 nN HM;have HM:=Qh gD;have g1:=gD.cd iG.O;have g2:=fun q=>gD.fr q;clear gD;go_wp2_with fail
 have gD:=HM.O.pd iG.O (mE 65536 65536 (bits .xor .u32 vd a1));clear HM g1 g2;obtain⟨d1,ll⟩:∃d1,mE 65536 65536 (bits .xor .u32 vd a1)=d1:=⟨_,rfl⟩;rw[ll]at gD ⊢;have QI:=Qh ll;clear ll;have HM:=Qh gD;clear gD;generalize X1.setCell _ _=X at HM ⊢;have g1:=cell_regrown (HM.O.cc iG.O);have g2:=cell_regrown (HM.O.cd iG.O);refine zq 9 (by kernel_rfl) (by kernel_rfl) ?_;simp only[List.take_succ_cons,List.take_zero,List.drop_succ_cons,List.drop_zero];repeat(go_big_quiet_step ((fail)))
 refine wpQuiet_nil ?_;intro X1 bg;have nN:Below (X).heap.size (X) X1:=by
  obtain⟨pq,rfl⟩:=bg;exact below_regrown _ _ _
 clear bg;have gD:=HM.O.pass nN;clear g1 g2 nN HM;have HM:=Qh gD;have g1:=gD.cc iG.O;have g2:=fun q=>gD.fr q;clear gD;go_wp2_with fail
 have gD:=HM.O.pc iG.O ((vc+d1)%4294967296);clear HM g1 g2;obtain⟨c1,qW⟩:∃c1,(vc+d1)%4294967296=c1:=⟨_,rfl⟩;rw[qW]at gD ⊢;have Hc1:=Qh qW;clear qW;have HM:=Qh gD;clear gD;generalize X1.setCell _ _=X at HM ⊢;have g1:=cell_regrown (HM.O.cb iG.O);have g2:=cell_regrown (HM.O.cc iG.O);refine zq 10 (by kernel_rfl) (by kernel_rfl) ?_;simp only[List.take_succ_cons,List.take_zero,List.drop_succ_cons,List.drop_zero];repeat(go_big_quiet_step ((exact Calls.regrown_of (Uw _ _ _ _ Xxb _))))
 refine wpQuiet_nil ?_;intro X1 bg;have nN:Below (X).heap.size (X) X1:=by
  obtain⟨pq,rfl⟩:=bg;exact below_regrown _ _ _
 clear bg;have gD:=HM.O.pass nN;clear g1 g2 nN HM;have HM:=Qh gD;have g1:=gD.cb iG.O;have g2:=fun q=>gD.fr q;clear gD;go_wp2_with fail
 have gD:=HM.O.pb iG.O (mE 4096 1048576 (bits .xor .u32 vb c1));clear HM g1 g2;obtain⟨b1,au⟩:∃b1,mE 4096 1048576 (bits .xor .u32 vb c1)=b1:=⟨_,rfl⟩;rw[au]at gD ⊢;have Dz:=Qh au;clear au;have HM:=Qh gD;clear gD;generalize X1.setCell _ _=X at HM ⊢;have g1:=cell_regrown (HM.O.ca iG.O);have g2:=cell_regrown (HM.O.cb iG.O);refine zq 11 (by kernel_rfl) (by kernel_rfl) ?_;simp only[List.take_succ_cons,List.take_zero,List.drop_succ_cons,List.drop_zero];repeat(go_big_quiet_step ((fail)))
 refine wpQuiet_nil ?_;intro X1 bg;have nN:Below (X).heap.size (X) X1:=by
  obtain⟨pq,rfl⟩:=bg;exact below_regrown _ _ _
 clear bg;have gD:=HM.O.pass nN;clear g1 g2 nN HM;have HM:=Qh gD;have g1:=gD.ca iG.O;have g2:=fun q=>gD.fr q;clear gD;go_wp2_with fail
 have gD:=HM.O.pa iG.O ((a1+b1+y)%4294967296);clear HM g1 g2;obtain⟨a2,uP⟩:∃a2,(a1+b1+y)%4294967296=a2:=⟨_,rfl⟩;rw[uP]at gD ⊢;have Bl:=Qh uP;clear uP;have HM:=Qh gD;clear gD;generalize X1.setCell _ _=X at HM ⊢;have g1:=cell_regrown (HM.O.cd iG.O);have g2:=cell_regrown (HM.O.ca iG.O);refine zq 10 (by kernel_rfl) (by kernel_rfl) ?_;simp only[List.take_succ_cons,List.take_zero,List.drop_succ_cons,List.drop_zero];repeat(go_big_quiet_step ((exact Calls.regrown_of (Uw _ _ _ _ Xyu _))))
 refine wpQuiet_nil ?_;intro X1 bg;have nN:Below (X).heap.size (X) X1:=by
  obtain⟨pq,rfl⟩:=bg;exact below_regrown _ _ _
 clear bg;have gD:=HM.O.pass nN;clear g1 g2 nN HM;have HM:=Qh gD;have g1:=gD.cd iG.O;have g2:=fun q=>gD.fr q;clear gD;go_wp2_with fail
 have gD:=HM.O.pd iG.O (mE 256 16777216 (bits .xor .u32 d1 a2));clear HM g1 g2;obtain⟨d2,pg⟩:∃d2,mE 256 16777216 (bits .xor .u32 d1 a2)=d2:=⟨_,rfl⟩;rw[pg]at gD ⊢;have Lj:=Qh pg;clear pg;have HM:=Qh gD;clear gD;generalize X1.setCell _ _=X at HM ⊢;have g1:=cell_regrown (HM.O.cc iG.O);have g2:=cell_regrown (HM.O.cd iG.O);refine zq 9 (by kernel_rfl) (by kernel_rfl) ?_;simp only[List.take_succ_cons,List.take_zero,List.drop_succ_cons,List.drop_zero];repeat(go_big_quiet_step ((fail)))
 refine wpQuiet_nil ?_;intro X1 bg;have nN:Below (X).heap.size (X) X1:=by
  obtain⟨pq,rfl⟩:=bg;exact below_regrown _ _ _
 clear bg;have gD:=HM.O.pass nN;clear g1 g2 nN HM;have HM:=Qh gD;have g1:=gD.cc iG.O;have g2:=fun q=>gD.fr q;clear gD;go_wp2_with fail
 have gD:=HM.O.pc iG.O ((c1+d2)%4294967296);clear HM g1 g2;obtain⟨c2,xJ⟩:∃c2,(c1+d2)%4294967296=c2:=⟨_,rfl⟩;rw[xJ]at gD ⊢;have Ju:=Qh xJ;clear xJ;have HM:=Qh gD;clear gD;generalize X1.setCell _ _=X at HM ⊢;have g1:=cell_regrown (HM.O.cb iG.O);have g2:=cell_regrown (HM.O.cc iG.O);refine zq 10 (by kernel_rfl) (by kernel_rfl) ?_;simp only[List.take_succ_cons,List.take_zero,List.drop_succ_cons,List.drop_zero];repeat(go_big_quiet_step ((exact Calls.regrown_of (Uw _ _ _ _ Xyv _))))
 refine wpQuiet_nil ?_;intro X1 bg;have nN:Below (X).heap.size (X) X1:=by
  obtain⟨pq,rfl⟩:=bg;exact below_regrown _ _ _
 clear bg;have gD:=HM.O.pass nN;clear g1 g2 nN HM;have HM:=Qh gD;have g1:=gD.cb iG.O;have g2:=fun q=>gD.fr q;clear gD;have gD:=HM.O.pb iG.O (mE 128 33554432 (bits .xor .u32 b1 c2));have je:nU l qa qb qc qd x y=four l qa qb qc qd a2 (mE 128 33554432 (bits .xor .u32 b1 c2)) c2 d2:=by
  rw[Hm.O];simp only[sG,←Int.add_assoc,KM.O,QI.O,Hc1.O,Dz.O,Bl.O,Lj.O,Ju.O]
 clear KM QI Hc1 Dz Bl Lj Ju Hm;have h0:=gD.nz;have h1:=gD.zero;have dH:=gD.below;have hlen:(four l qa qb qc qd a2 (mE 128 33554432 (bits .xor .u32 b1 c2)) c2 d2).length=16:=by rw[Xiv,sU.O]
 generalize four l qa qb qc qd a2 (mE 128 33554432 (bits .xor .u32 b1 c2)) c2 d2=F at h0 hlen je;have om:=Qh je;clear je;clear gD HM;have Ad:(Tryz.prog.info? 249).map (·.size)=some (row F).size:=by rw[bD,hlen];kernel_rfl
 have X6:(row (List.replicate 16 0)).size=(row F).size:=by rw[bD,bD,hlen];rfl
 have X7:(row F).all (·.oneCell')=true:=by simp[row,Value.oneCell']
 clear hlen
 go_wp2_with (first
  |(refine wpList_load_row rfl 249 _ rfl w.heap.size rfl 249 (row F) (0,0) _ h0 Tryz.underlying249 rfl Ad ?_)
  |(refine wpList_store_row rfl 249 _ _ rfl (w.heap.size+1) (row F) rfl rfl 249 (row (List.replicate 16 0)) h1 Ad X6 X7 ?_))
 refine bodyPost_ret (results_cell_row rfl _ _ (w.heap.size+1) _ (row F) (0,0) _ rfl (setRow_heap _ _ _ _ _ _ h1) Tryz.underlying249 rfl Ad) rfl ⟨by rw[om.O],below_setRow dH (by omega) _⟩
theorem Xhw(a b c:Int):bits .xor .u32 (bits .xor .u32 a b) c=bits .xor .u32 a (bits .xor .u32 b c):=by
 have hr:∀x:BitVec 32,BitVec.ofInt 32 (x.toNat:Int)=x:=fun x=>by
  apply BitVec.eq_of_toNat_eq;simp
 have hb:∀x y:Int,bits .xor .u32 x y=((BitVec.ofInt 32 x^^^BitVec.ofInt 32 y).toNat:Int):=fun x y=>by
  have:=(BitVec.ofInt 32 x^^^BitVec.ofInt 32 y).isLt;simp only[bits,IntKind.wrap,IntKind.bits,IntKind.signed];exact Int.emod_eq_of_lt (by omega) (by omega)
 rw[hb,hb a b,hb a,hb b c,hr,hr,BitVec.xor_assoc]
theorem Xss(a:Int)(h0:0≤a)(h1:a<4294967296):bits .or .u32 0 a=a:=by
 have hb:bits .or .u32 0 a=((BitVec.ofInt 32 0 ||| BitVec.ofInt 32 a).toNat:Int):=by
  have:=(BitVec.ofInt 32 0 ||| BitVec.ofInt 32 a).isLt;simp only[bits,IntKind.wrap,IntKind.bits,IntKind.signed];exact Int.emod_eq_of_lt (by omega) (by omega)
 rw[hb];simp;omega
def pW(s:ae)(j:Nat):Nat→Int
 |0=>0
 |1=>lC s (4*j)
 |2=>bits .or .u32 (lC s (4*j)) (lC s (4*j+1)*256%4294967296)
 |3=>bits .or .u32 (bits .or .u32 (lC s (4*j)) (lC s (4*j+1)*256%4294967296)) (lC s (4*j+2)*65536%4294967296)
 |_=>q8 s j
def o7(s:ae)(k:Nat):List Int:=(List.range 16).map fun j=>pW s j (k-4*j)
theorem Xny(s:ae)(k:Nat):(o7 s k).length=16:=by simp[o7]
theorem Xr4(s:ae):o7 s 0=List.replicate 16 0:=by
 simp[o7,pW,List.map_const']
theorem X8(s:ae)(j n:Nat)(h:4≤n):pW s j n=q8 s j:=by
 match n,h with
 |n+4,_=>rfl
theorem Xvb(s:ae):o7 s 64=words s:=by
 apply List.map_congr_left;intro j hj;have:=List.mem_range.1 hj;exact X8 s j _ (by omega)
theorem Xxd(s:ae)(q r:Nat)(hq:q<16)(_hr:r<4):(o7 s (4*q+r)).getD q 0=pW s q r:=by
 simp[o7,List.getD,hq]
theorem Xr5(s:ae)(q r:Nat)(_hq:q<16)(hr:r<4):(o7 s (4*q+r)).set q (pW s q (r+1))=o7 s (4*q+r+1):=by
 apply List.ext_getElem
 ·simp[o7]
 ·intro j h1 h2;simp only[o7,List.getElem_set,List.getElem_map,List.getElem_range];by_cases h:q=j
  ·subst h;rw[if_pos rfl,show 4*q+r+1-4*q=r+1 by omega]
  ·rw[if_neg h];rcases Nat.lt_or_ge j q with hj|hj
   ·rw[X8 s j _ (by omega),X8 s j _ (by omega)]
   ·rw[show 4*q+r-4*j=0 by omega,show 4*q+r+1-4*j=0 by omega]
theorem Xi9(s:ae)(i:Nat):0≤lC s i∧lC s i<4294967296:=by unfold lC;omega
theorem Ux(s:ae)(k:Nat)(h:k<s.length):(s[k].toNat:Int)%4294967296=lC s k:=by simp[lC,h]
theorem X9(s:ae)(q k:Nat)(hk:k=4*q+0)(h:k<s.length):bits .or .u32 (pW s q 0) ((s[k].toNat:Int)%4294967296)=pW s q 1:=by
 rw[Ux s k h,hk];exact Xss _ (Xi9 _ _).1 (Xi9 _ _).2
theorem Ya(s:ae)(q k:Nat)(hk:k=4*q+1)(h:k<s.length):bits .or .u32 (pW s q 1) ((s[k].toNat:Int)%4294967296*256%4294967296)=pW s q 2:=by
 rw[Ux s k h,hk];rfl
theorem Yb(s:ae)(q k:Nat)(hk:k=4*q+2)(h:k<s.length):bits .or .u32 (pW s q 2) ((s[k].toNat:Int)%4294967296*65536%4294967296)=pW s q 3:=by
 rw[Ux s k h,hk];rfl
theorem Yc(s:ae)(q k:Nat)(hk:k=4*q+3)(h:k<s.length):bits .or .u32 (pW s q 3) ((s[k].toNat:Int)%4294967296*16777216%4294967296)=pW s q 4:=by
 rw[Ux s k h,hk];rfl
def mX(hs:List Int)(k:Nat):List Int:=(List.range 16).map fun j=>if j<8 then(if j<k then hs.getD j 0 else 0)else(if j-8<k then fw.getD (j-8) 0 else 0)
theorem Xgt(hs:List Int)(k:Nat):(mX hs k).length=16:=by simp[mX]
theorem Xqn(hs:List Int):mX hs 0=List.replicate 16 0:=by simp[mX,List.map_const']
theorem Xqo(hs:List Int)(k:Nat)(hk:k<8):((mX hs k).set k (hs.getD k 0)).set (k+8) (fw.getD k 0)=mX hs (k+1):=by
 apply List.ext_getElem
 ·simp[mX]
 ·intro j h1 h2;simp only[mX,List.getElem_set,List.getElem_map,List.getElem_range];by_cases h:k+8=j
  ·subst h;rw[if_pos rfl,if_neg (by omega),if_pos (by omega),show k+8-8=k by omega]
  ·rw[if_neg h];by_cases h':k=j
   ·subst h';rw[if_pos rfl,if_pos hk,if_pos (by omega)]
   ·rw[if_neg h'];by_cases hj:j<8
    ·rw[if_pos hj,if_pos hj];by_cases Fh:j<k
     ·rw[if_pos Fh,if_pos (by omega)]
     ·rw[if_neg Fh,if_neg (by omega)]
    ·rw[if_neg hj,if_neg hj];by_cases Fh:j-8<k
     ·rw[if_pos Fh,if_pos (by omega)]
     ·rw[if_neg Fh,if_neg (by omega)]
theorem Xrp(hs:List Int)(h:hs.length=8):mX hs 8=hs++fw:=by
 obtain⟨a,b,c,d,e,f,g,i,rfl⟩:=Kr h;rfl
def ED:List ae:=[[48,49,50,51,52,53,54,55,56,57,97,98,99,100,101,102],[101,97,52,56,57,102,100,54,49,99,48,50,98,55,53,51],[98,56,99,48,53,50,102,100,97,101,51,54,55,49,57,52],[55,57,51,49,100,99,98,101,50,54,53,97,52,48,102,56],[57,48,53,55,50,52,97,102,101,49,98,99,54,56,51,100],[50,99,54,97,48,98,56,51,52,100,55,53,102,101,49,57],[99,53,49,102,101,100,52,97,48,55,54,51,57,50,56,98],[100,98,55,101,99,49,51,57,53,48,102,52,56,54,50,97],[54,102,101,57,98,51,48,56,99,50,100,55,49,52,97,53],[97,50,56,52,55,54,49,53,102,98,57,101,51,99,100,48]]
def nD(r:Nat):ae:=ED.getD r []
def rE(c:Nat):Nat:=if 97≤c then c-87 else c-48
theorem Xe5(r:Nat)(h:r<10):(nD r).length=16:=by revert r;decide
theorem Xm6(r i:Nat)(hr:r<10)(hi:i<16):rE ((nD r).getD i 0).toNat=iT r i∧48≤((nD r).getD i 0).toNat∧((nD r).getD i 0).toNat≤102:=by
 revert i;revert r;decide
theorem Xdf(r:Nat)(hr:r<10)(w:World):Calls Tryz.prog 211 #[.int .i64 r] w fun e w'=>e= .returned (S (nD r))∧Below w.heap.size w w':=by
 match r,hr with
 |0,_=>go_enter Tryz.func211,Tryz.ntmps211;go_wp2;go_ret;exact⟨rfl,Qb _ _⟩
 |1,_=>go_enter Tryz.func211,Tryz.ntmps211;go_wp2;go_ret;exact⟨rfl,Qb _ _⟩
 |2,_=>go_enter Tryz.func211,Tryz.ntmps211;go_wp2;go_ret;exact⟨rfl,Qb _ _⟩
 |3,_=>go_enter Tryz.func211,Tryz.ntmps211;go_wp2;go_ret;exact⟨rfl,Qb _ _⟩
 |4,_=>go_enter Tryz.func211,Tryz.ntmps211;go_wp2;go_ret;exact⟨rfl,Qb _ _⟩
 |5,_=>go_enter Tryz.func211,Tryz.ntmps211;go_wp2;go_ret;exact⟨rfl,Qb _ _⟩
 |6,_=>go_enter Tryz.func211,Tryz.ntmps211;go_wp2;go_ret;exact⟨rfl,Qb _ _⟩
 |7,_=>go_enter Tryz.func211,Tryz.ntmps211;go_wp2;go_ret;exact⟨rfl,Qb _ _⟩
 |8,_=>go_enter Tryz.func211,Tryz.ntmps211;go_wp2;go_ret;exact⟨rfl,Qb _ _⟩
 |9,_=>go_enter Tryz.func211,Tryz.ntmps211;go_wp2;go_ret;exact⟨rfl,Qb _ _⟩
theorem Uy(c:Nat)(h0:48≤c)(h1:c≤102)(w:World):Calls Tryz.prog 214 #[.int .u8 c] w fun e w'=>e= .returned (.int .i64 (rE c:Nat))∧Below w.heap.size w w':=by
 have uN:IntKind.i64.wrap (c:Int)=c:=IntWalk.i64_in _ (by omega);by_cases h:97≤c
 ·have hd:decide (97≤(c:Int))=true:=by simp;omega
  have Hp:=Qh (show(rE c:Int)=(c:Int)-87 by rw[rE,if_pos h];omega);go_enter Tryz.func214,Tryz.ntmps214
  go_wp2;go_ret;exact⟨bP Hp.O.symm,Qb _ _⟩
 ·have hd:decide (97≤(c:Int))=false:=by simp;omega
  have Hp:=Qh (show(rE c:Int)=(c:Int)-48 by rw[rE,if_neg h];omega);go_enter Tryz.func214,Tryz.ntmps214
  go_wp2;go_ret;exact⟨bP Hp.O.symm,Qb _ _⟩
theorem Xfr(w:World):Calls Tryz.prog 145 #[] w fun e w'=>e= .returned (.agg (row fw))∧Below w.heap.size w w':=by
 go_enter Tryz.func145,Tryz.ntmps145
 go_wp2;refine bodyPost_ret (results_cell_row rfl _ _ w.heap.size _ (row fw) (0,0) _ rfl (heap_alloc_new w (.cells (row fw) 192)) Tryz.underlying192 rfl (by kernel_rfl)) rfl ⟨rfl,?_⟩;exact(Qb _ _).alloc (Qn _) _
def Bu:Array Value:=#[.int .i64 0,.int .i64 0,.int .i64 0,.int .i64 0]
theorem Xqz(k:Nat)(h:k<4):iE k=(k,k+4,k+8,k+12):=by revert k;decide
theorem Xq0(k:Nat)(h:k<4):iE (k+4)=(k,4+(k+1)%4,8+(k+2)%4,12+(k+3)%4):=by revert k;decide
theorem Xfq(k:Nat)(hk:k<8)(w:World):Calls Tryz.prog 212 #[.int .i64 k] w fun e w'=>e= .returned (Bb (iE k))∧Below w.heap.size w w':=by
 by_cases h:k<4
 ·have Hq:=Qh (Xqz k h);have hz:=heap_alloc_new w (.cells Bu 253);have Mo:(Tryz.prog.info? 253).map (·.size)=some (#[.int .i64 k,.int .i64 ((k:Int)+4),.int .i64 ((k:Int)+8),.int .i64 ((k:Int)+12)]:Array Value).size:=by kernel_rfl
  have Yd:(#[.int .i64 k,.int .i64 ((k:Int)+4),.int .i64 ((k:Int)+8),.int .i64 ((k:Int)+12)]:Array Value).all (·.oneCell')=true:=by simp[Value.oneCell']
  go_enter Tryz.func212,Tryz.ntmps212
  go_wp2_with (refine wpList_store_row rfl 253 _ _ rfl w.heap.size #[.int .i64 k,.int .i64 ((k:Int)+4),.int .i64 ((k:Int)+8),.int .i64 ((k:Int)+12)] rfl rfl 253 Bu hz Mo rfl Yd ?_)
  refine bodyPost_ret (results_cell_row rfl _ _ w.heap.size _ #[.int .i64 k,.int .i64 ((k:Int)+4),.int .i64 ((k:Int)+8),.int .i64 ((k:Int)+12)] (0,0) _ rfl (setRow_heap _ _ _ _ _ _ hz) Tryz.underlying253 rfl Mo) rfl ⟨by rw[Hq.O];rfl,below_setRow ((Qb _ _).alloc (Qn _) _) (Qn _) _⟩
 ·obtain⟨q,rfl⟩:∃q,k=q+4:=⟨k-4,by omega⟩;have Hq:=Qh (Xq0 q (by omega));have hz:=heap_alloc_new w (.cells Bu 253);have hs:((q+4:Nat):Int)=(q:Int)+4:=by omega
  rw[hs];clear hs;have Mo:(Tryz.prog.info? 253).map (·.size)=some (#[.int .i64 q,.int .i64 (4+((q:Int)+1)%4),.int .i64 (8+((q:Int)+2)%4),.int .i64 (12+((q:Int)+3)%4)]:Array Value).size:=by kernel_rfl
  have Yd:(#[.int .i64 q,.int .i64 (4+((q:Int)+1)%4),.int .i64 (8+((q:Int)+2)%4),.int .i64 (12+((q:Int)+3)%4)]:Array Value).all (·.oneCell')=true:=by simp[Value.oneCell']
  go_enter Tryz.func212,Tryz.ntmps212
  go_wp2_with (refine wpList_store_row rfl 253 _ _ rfl w.heap.size #[.int .i64 q,.int .i64 (4+((q:Int)+1)%4),.int .i64 (8+((q:Int)+2)%4),.int .i64 (12+((q:Int)+3)%4)] rfl rfl 253 Bu hz Mo rfl Yd ?_)
  refine bodyPost_ret (results_cell_row rfl _ _ w.heap.size _ #[.int .i64 q,.int .i64 (4+((q:Int)+1)%4),.int .i64 (8+((q:Int)+2)%4),.int .i64 (12+((q:Int)+3)%4)] (0,0) _ rfl (setRow_heap _ _ _ _ _ _ hz) Tryz.underlying253 rfl Mo) rfl ⟨by rw[Hq.O];rfl,below_setRow ((Qb _ _).alloc (Qn _) _) (Qn _) _⟩
structure Rm0 (w:World) (hs m:List Int) (X:World):Prop where
 below:Below w.heap.size w X
 size:w.heap.size+1+1<X.heap.size
 b0:X.heap[w.heap.size]?=some (.cells (row hs) 192 (0,0))
 b1:X.heap[w.heap.size+1]?=some (.cells (row (List.replicate 8 0)) 192 (0,0))
 b2:X.heap[w.heap.size+1+1]?=some (.cells (row m) 249 (0,0))
structure Rm (w:World) (BI BV:Nat) (hs m v:List Int) (X:World):Prop extends Rm0 w hs m X where
 lo:w.heap.size+1+1<BI
 mid:BI<BV
 hi:BV<X.heap.size
 bi:X.heap[BI]?=some (.cells (row fw) 192 (0,0))
 bv:X.heap[BV]?=some (.cells (row v) 249 (0,0))
section
variable {w X X':World} {BI BV:Nat} {hs m v:List Int}
theorem Rm0.start(w:World)(hs:List Int):Rm0 w hs (List.replicate 16 0) (((w.alloc (.cells (row hs) 192)).alloc (.cells (row (List.replicate 8 0)) 192)).alloc (.cells (row (List.replicate 16 0)) 249)):=by
 refine⟨(((Qb _ _).alloc (Qn _) _).alloc (by simp) _).alloc (by simp;omega) _,by simp,?_,?_,?_⟩
 ·exact(Below.heap_alloc _ _ _ (by simp;omega)).trans ((Below.heap_alloc _ _ _ (by simp)).trans (heap_alloc_new _ _))
 ·exact(Below.heap_alloc _ _ _ (by simp)).trans (Ny (by simp) _)
 ·exact Ny (by simp) _
theorem Rm0.pass(h:Rm0 w hs m X)(hb:Below X.heap.size X X'):Rm0 w hs m X':=by
 have:=h.size;exact⟨h.below.trans (hb.mono h.below.size),by have:=hb.size;omega,(hb.block _ (by omega)).trans h.b0,(hb.block _ (by omega)).trans h.b1,(hb.block _ (by omega)).trans h.b2⟩
theorem Rm0.set2(h:Rm0 w hs m X)(i:Nat)(x:Int):Rm0 w hs (m.set i x) (X.setCell ⟨w.heap.size+1+1,i,none⟩ (.int .u32 x)):=by
 have o:∀k,k≠w.heap.size+1+1→(X.setCell ⟨w.heap.size+1+1,i,none⟩ (.int .u32 x)).heap[k]?=X.heap[k]? :=fun k hk=>Below.heap_setCell _ _ _ _ hk;exact⟨h.below.setCell (by show w.heap.size≤w.heap.size+1+1;omega) _,by simpa[World.setCell]using h.size,(o _ (by omega)).trans h.b0,(o _ (by omega)).trans h.b1,heap_setCell _ h.b2⟩
theorem Rm.pass(h:Rm w BI BV hs m v X)(hb:Below X.heap.size X X'):Rm w BI BV hs m v X':=by
 have:=h.hi;have:=h.mid;exact⟨h.toRm0.pass hb,h.lo,h.mid,by have:=hb.size;omega,(hb.block _ (by omega)).trans h.bi,(hb.block _ (by omega)).trans h.bv⟩
theorem Rm.alloc(h:Rm w BI BV hs m v X)(o:Obj):Rm w BI BV hs m v (X.alloc o):=h.pass ((Qb _ _).alloc (Qn _) o)
theorem Rm.set0(h:Rm w BI BV hs m v X)(i:Nat)(x:Int):Rm w BI BV (hs.set i x) m v (X.setCell ⟨w.heap.size,i,none⟩ (.int .u32 x)):=by
 have h1:=h.lo;have h2:=h.mid;have o:∀k,k≠w.heap.size→(X.setCell ⟨w.heap.size,i,none⟩ (.int .u32 x)).heap[k]?=X.heap[k]? :=fun k hk=>Below.heap_setCell _ _ _ _ hk;exact⟨⟨h.below.setCell (Qn _) _,by simpa[World.setCell]using h.size,heap_setCell _ h.b0,(o _ (by omega)).trans h.b1,(o _ (by omega)).trans h.b2⟩,h.lo,h.mid,by simpa[World.setCell]using h.hi,(o _ (by omega)).trans h.bi,(o _ (by omega)).trans h.bv⟩
theorem Rm.Ae(h:Rm w BI BV hs m v X)(i:Nat)(x:Int):Rm w BI BV hs m (v.set i x) (X.setCell ⟨BV,i,none⟩ (.int .u32 x)):=by
 have h1:=h.lo;have h2:=h.mid;have o:∀k,k≠BV→(X.setCell ⟨BV,i,none⟩ (.int .u32 x)).heap[k]?=X.heap[k]? :=fun k hk=>Below.heap_setCell _ _ _ _ hk;exact⟨⟨h.below.setCell (by show w.heap.size≤BV;omega) _,by simpa[World.setCell]using h.size,(o _ (by omega)).trans h.b0,(o _ (by omega)).trans h.b1,(o _ (by omega)).trans h.b2⟩,h.lo,h.mid,by simpa[World.setCell]using h.hi,(o _ (by omega)).trans h.bi,heap_setCell _ h.bv⟩
theorem Rm.QJ{v':List Int}(h:Rm w BI BV hs m v X):Rm w BI BV hs m v' (X.setRow BV (row v')):=by
 have h1:=h.lo;have h2:=h.mid;have o:∀k,k≠BV→(X.setRow BV (row v')).heap[k]?=X.heap[k]? :=fun k hk=>setRow_other _ _ _ _ hk;exact⟨⟨below_setRow h.below (by omega) _,by simpa using h.size,(o _ (by omega)).trans h.b0,(o _ (by omega)).trans h.b1,(o _ (by omega)).trans h.b2⟩,h.lo,h.mid,by simpa using h.hi,(o _ (by omega)).trans h.bi,setRow_heap _ _ _ _ _ _ h.bv⟩
theorem Rm.start(h:Rm0 w hs m X):Rm w X.heap.size (X.heap.size+1) hs m (List.replicate 16 0) ((X.alloc (.cells (row fw) 192)).alloc (.cells (row (List.replicate 16 0)) 249)):=by
 refine⟨h.pass (((Qb _ _).alloc (Qn _) _).alloc (by simp) _),h.size,by omega,by simp,?_,?_⟩
 ·exact(Below.heap_alloc _ _ _ (by simp)).trans (heap_alloc_new _ _)
 ·exact Ny (by simp) _
end
theorem Xe6(hs:List Int)(hh:hs.length=8)(s:ae)(JW:s.length=64)(count:Int)(last:Bool)(w:World):
 Calls Tryz.prog 146 #[.agg (row hs),S s,.int .u64 count,.bool last] w fun e w'=>e= .returned (.tuple #[.agg (row (dL hs s count last)),.int .i64 0])∧Below w.heap.size w w':=by
 obtain⟨h0,h1,h2,h3,h4,h5,h6,h7,rfl⟩:=Kr hh;rw[show row [h0,h1,h2,h3,h4,h5,h6,h7]=#[.int .u32 h0,.int .u32 h1,.int .u32 h2,.int .u32 h3,.int .u32 h4,.int .u32 h5,.int .u32 h6,.int .u32 h7]from rfl];have eU:(s.length:Int)=64:=by omega
 clear hh;have bB:=Qh (show Rm0 w [h0,h1,h2,h3,h4,h5,h6,h7] (o7 s 0) _ by rw[Xr4];exact Rm0.start w [h0,h1,h2,h3,h4,h5,h6,h7]);go_enter Tryz.func146,Tryz.ntmps146
 go_wp2_with fail
 go_loopw [11] (fun s11 wr=> ∃(k:Nat),k≤64∧s11= .int .i64 k∧Rm0 w [h0,h1,h2,h3,h4,h5,h6,h7] (o7 s k) wr) (fun i _=>64-(intOf i).toNat)
 case atStart=>exact⟨0,Nat.zero_le _,rfl,bB.O⟩
 case round=>
  clear bB;obtain⟨k,hk,rfl,hm⟩:=hrel;by_cases hlt:k<64
  ·obtain⟨q,r,hq,hr,J4⟩:∃q r,q<16∧r<4∧k=4*q+r:=⟨k / 4,k%4,by omega,by omega,by omega⟩;have aaG:(k:Int) / 4=(q:Int):=by omega
   have hqi:(q:Int)<16:=by omega
   have Hw:=Qh (show(o7 s k).set q (pW s q (r+1))=o7 s (k+1) by rw[J4];exact Xr5 s q r hq hr);have lQ:=cell_of_row wr _ q _ _ _ hm.b2;rw[oV (by rw[Xny];exact hq),show(o7 s k).getD q 0=pW s q r by rw[J4];exact Xxd s q r hq hr]at lQ;have Ct:=Qh J4;clear J4;obtain⟨a,ha⟩:∃a,pW s q r=a:=⟨_,rfl⟩;rw[ha]at lQ;have Ha:=Qh ha;clear ha;have Hm:=Qh hm;clear hm;have hx0:=gQ Tryz.underlying9 s (k:Int) k rfl (by omega);rcases(show r=0∨r=1∨r=2∨r=3 by omega)with rfl|rfl|rfl|rfl
   ·have zk:(k:Int)%4=0:=by have:=Ct.O;omega
    go_wp2_with fail
    have g:=cell_regrown lQ;refine zq 17 (by kernel_rfl) (by kernel_rfl) ?_;simp only[List.take_succ_cons,List.take_zero,List.drop_succ_cons,List.drop_zero];repeat(go_big_quiet_step ((fail)))
    refine wpQuiet_nil ?_;intro X1 bg;have nN:Below (wr).heap.size (wr) X1:=by
     obtain⟨pq,rfl⟩:=bg;exact below_regrown _ _ _
    clear bg;have gD:=Hm.O.pass nN;have g1:=nN.cell (p:=⟨w.heap.size+1+1,q,none⟩) (show w.heap.size+1+1<_ from Hm.O.size);rw[lQ]at g1;have g2:=frozen_of_row X1 _ q _ _ gD.b2;have Ll:=Qh gD;clear gD nN g;go_wp2;go_roundw;case rel=>exact⟨k+1,by omega,by go_num,by rw[←Hw.O,←X9 s q k Ct.O (by omega),Ha.O];exact Ll.O.set2 q _⟩
    case measure=>simp[intOf];omega
   ·have zk:(k:Int)%4=1:=by have:=Ct.O;omega
    go_wp2_with fail
    have g:=cell_regrown lQ;refine zq 17 (by kernel_rfl) (by kernel_rfl) ?_;simp only[List.take_succ_cons,List.take_zero,List.drop_succ_cons,List.drop_zero];repeat(go_big_quiet_step ((fail)))
    refine wpQuiet_nil ?_;intro X1 bg;have nN:Below (wr).heap.size (wr) X1:=by
     obtain⟨pq,rfl⟩:=bg;exact below_regrown _ _ _
    clear bg;have gD:=Hm.O.pass nN;have g1:=nN.cell (p:=⟨w.heap.size+1+1,q,none⟩) (show w.heap.size+1+1<_ from Hm.O.size);rw[lQ]at g1;have g2:=frozen_of_row X1 _ q _ _ gD.b2;have Ll:=Qh gD;clear gD nN g;go_wp2;go_roundw;case rel=>exact⟨k+1,by omega,by go_num,by rw[←Hw.O,←Ya s q k Ct.O (by omega),Ha.O];exact Ll.O.set2 q _⟩
    case measure=>simp[intOf];omega
   ·have zk:(k:Int)%4=2:=by have:=Ct.O;omega
    go_wp2_with fail
    have g:=cell_regrown lQ;refine zq 17 (by kernel_rfl) (by kernel_rfl) ?_;simp only[List.take_succ_cons,List.take_zero,List.drop_succ_cons,List.drop_zero];repeat(go_big_quiet_step ((fail)))
    refine wpQuiet_nil ?_;intro X1 bg;have nN:Below (wr).heap.size (wr) X1:=by
     obtain⟨pq,rfl⟩:=bg;exact below_regrown _ _ _
    clear bg;have gD:=Hm.O.pass nN;have g1:=nN.cell (p:=⟨w.heap.size+1+1,q,none⟩) (show w.heap.size+1+1<_ from Hm.O.size);rw[lQ]at g1;have g2:=frozen_of_row X1 _ q _ _ gD.b2;have Ll:=Qh gD;clear gD nN g;go_wp2;go_roundw;case rel=>exact⟨k+1,by omega,by go_num,by rw[←Hw.O,←Yb s q k Ct.O (by omega),Ha.O];exact Ll.O.set2 q _⟩
    case measure=>simp[intOf];omega
   ·have zk:(k:Int)%4=3:=by have:=Ct.O;omega
    go_wp2_with fail
    have g:=cell_regrown lQ;refine zq 17 (by kernel_rfl) (by kernel_rfl) ?_;simp only[List.take_succ_cons,List.take_zero,List.drop_succ_cons,List.drop_zero];repeat(go_big_quiet_step ((fail)))
    refine wpQuiet_nil ?_;intro X1 bg;have nN:Below (wr).heap.size (wr) X1:=by
     obtain⟨pq,rfl⟩:=bg;exact below_regrown _ _ _
    clear bg;have gD:=Hm.O.pass nN;have g1:=nN.cell (p:=⟨w.heap.size+1+1,q,none⟩) (show w.heap.size+1+1<_ from Hm.O.size);rw[lQ]at g1;have g2:=frozen_of_row X1 _ q _ _ gD.b2;have Ll:=Qh gD;clear gD nN g;go_wp2;go_roundw;case rel=>exact⟨k+1,by omega,by go_num,by rw[←Hw.O,←Yc s q k Ct.O (by omega),Ha.O];exact Ll.O.set2 q _⟩
    case measure=>simp[intOf];omega
  ·have nK:k=64:=by omega
   subst nK;rw[Xvb]at hm;have Hm:=Qh hm;clear hm;go_wp2_with fail
   refine(Xfr _).mono ?_;rintro e w1 ⟨rfl,au⟩;have wJ:=au.size;have Jl:=Qh (Hm.O.pass au);clear au Hm;rw[show row fw=#[.int .u32 1779033703,.int .u32 3144134277,.int .u32 1013904242,.int .u32 2773480762,.int .u32 1359893119,.int .u32 2600822924,.int .u32 528734635,.int .u32 1541459225]from rfl];go_wp2_with fail
   have hmX:Rm w w1.heap.size (w1.heap.size+1) [h0,h1,h2,h3,h4,h5,h6,h7] (words s) (mX [h0,h1,h2,h3,h4,h5,h6,h7] 0) ((w1.alloc (.cells (row fw) 192)).alloc (.cells (row (List.replicate 16 0)) 249)):=by
    rw[Xqn];exact Rm.start Jl.O
   have Gz:=Qh hmX;clear hmX Jl;obtain⟨BI,hBI⟩:∃BI,w1.heap.size=BI:=⟨_,rfl⟩;rw[hBI]at Gz ⊢;have Xq:=Qh Gz.O.lo;clear hBI wJ;go_loopw [14] (fun s14 wr=> ∃k:Nat,k≤8∧s14= .int .i64 k∧Rm w BI (BI+1) [h0,h1,h2,h3,h4,h5,h6,h7] (words s) (mX [h0,h1,h2,h3,h4,h5,h6,h7] k) wr) (fun i _=>8-(intOf i).toNat)
   case atStart=>exact⟨0,Nat.zero_le _,rfl,Gz.O⟩
   case round=>
    clear Gz;obtain⟨k,hk,rfl,hm⟩:=hrel;by_cases iX:k<8
    ·have c1:=(cell_of_row wr _ k _ _ _ hm.b0).trans (oV (l:=[h0,h1,h2,h3,h4,h5,h6,h7]) iX);have c2:=(cell_of_row wr _ k _ _ _ hm.bi).trans (oV (l:=fw) iX);have c3:=(cell_of_row wr _ k _ _ _ hm.bv).trans (oV (by rw[Xgt];omega));have c4:=(cell_of_row wr _ (k+8) _ _ _ hm.bv).trans (oV (by rw[Xgt];omega));have f3:=frozen_of_row wr _ k _ _ hm.bv;have f4:=frozen_of_row wr _ (k+8) _ _ hm.bv;have Ce:=Qh (Xqo [h0,h1,h2,h3,h4,h5,h6,h7] k iX);have Hm:=Qh hm;clear hm;generalize List.getD [h0,h1,h2,h3,h4,h5,h6,h7] k 0=x0 at c1 Ce;generalize fw.getD k 0=x1 at c2 Ce;generalize List.getD (mX [h0,h1,h2,h3,h4,h5,h6,h7] k) k 0=x2 at c3;generalize List.getD (mX [h0,h1,h2,h3,h4,h5,h6,h7] k) (k+8) 0=x3 at c4;go_wp2;go_roundw;case rel=>exact⟨k+1,by omega,by go_num,by rw[←Ce.O];exact(Hm.O.Ae k _).Ae (k+8) _⟩
     case measure=>simp[intOf];omega
    ·have nK:k=8:=by omega
     subst nK;rw[Xrp _ rfl]at hm;have c12:wr.cell? ⟨BI+1,12,none⟩=some (.int .u32 1359893119):=(cell_of_row wr _ 12 _ _ _ hm.bv).trans rfl;have c13:wr.cell? ⟨BI+1,13,none⟩=some (.int .u32 2600822924):=(cell_of_row wr _ 13 _ _ _ hm.bv).trans rfl;have c14:wr.cell? ⟨BI+1,14,none⟩=some (.int .u32 528734635):=(cell_of_row wr _ 14 _ _ _ hm.bv).trans rfl;have f12:=frozen_of_row wr _ 12 _ _ hm.bv;have f13:=frozen_of_row wr _ 13 _ _ hm.bv;have f14:=frozen_of_row wr _ 14 _ _ hm.bv;have Hm:=Qh hm;clear hm;cases last with
     |true=>
      go_wp2_with fail
      obtain⟨v0,tJ⟩:∃v0,ql [h0,h1,h2,h3,h4,h5,h6,h7] count true=v0:=⟨_,rfl⟩;have BR:=Qh tJ;clear tJ;have Dv:v0.length=16:=by rw[←BR.O];exact TG _ rfl _ _
      clear c12 c13 c14 f12 f13 f14;go_loopw [15] (fun s15 wr=> ∃r:Nat,r≤10∧s15= .int .i64 r∧Rm w BI (BI+1) [h0,h1,h2,h3,h4,h5,h6,h7] (words s) (eG (words s) r v0) wr) (fun i _=>10-(intOf i).toNat)
      case atStart=>exact⟨0,Nat.zero_le _,rfl,by show Rm w BI (BI+1) _ (words s) v0 _;rw[←BR.O];exact((Hm.O.Ae 12 _).Ae 13 _).Ae 14 _⟩
      case round=>
       clear Hm;obtain⟨r,hr,rfl,rP⟩:=hrel;by_cases kF:r<10
       ·obtain⟨vr,zP⟩:∃vr,eG (words s) r v0=vr:=⟨_,rfl⟩;have DW:=Qh zP;rw[zP]at rP;clear zP;have Mm:vr.length=16:=by rw[←DW.O,Gx,Dv]
        have EE:=Qh rP;clear rP;go_wp2_with fail
        refine(Xdf r kF _).mono ?_;rintro e w4 ⟨rfl,aM⟩;have FY:=Qh (EE.O.pass aM);clear EE aM;have Pz:=Xe5 r kF;have Af:=Qh (fun i hi=>Xm6 r i kF hi);generalize nD r=P at Pz Af ⊢;go_wp2_with fail
        go_loopw [17] (fun Ye wr=> ∃k:Nat,k≤8∧Ye= .int .i64 k∧Rm w BI (BI+1) [h0,h1,h2,h3,h4,h5,h6,h7] (words s) (eu (words s) r k vr) wr) (fun i _=>8-(intOf i).toNat)
        case atStart=>exact⟨0,Nat.zero_le _,rfl,FY.O⟩
        case round=>
         clear FY;obtain⟨k,hk,rfl,iO⟩:=hrel;by_cases iX:k<8
         ·have pJ:=Qh iO;clear iO;go_wp2_with fail
          refine(Xfq k iX _).mono ?_;rintro e w5 ⟨rfl,bq⟩;have BS:=Qh (pJ.O.pass bq);clear pJ bq;obtain⟨qa,qb,qc,qd,hq⟩:∃qa qb qc qd,iE k=(qa,qb,qc,qd):=⟨_,_,_,_,rfl⟩;have pu:=TD k iX;have gB:pz (words s) r k (eu (words s) r k vr)=nU (eu (words s) r k vr) qa qb qc qd ((words s).getD (iT r (2*k)) 0) ((words s).getD (iT r (2*k+1)) 0):=by rw[pz,hq]
          rw[hq]at pu ⊢;rw[show Bb (qa,qb,qc,qd)= .agg #[.int .i64 qa,.int .i64 qb,.int .i64 qc,.int .i64 qd]from rfl];have iG:=Qh (show Apart 16 qa qb qc qd from⟨pu.1,pu.2.1,pu.2.2.1,pu.2.2.2.1,pu.2.2.2.2.1,pu.2.2.2.2.2.1,pu.2.2.2.2.2.2.1,pu.2.2.2.2.2.2.2.1,pu.2.2.2.2.2.2.2.2.1,pu.2.2.2.2.2.2.2.2.2⟩);clear hq pu;have pG:=Jk r (2*k) kF (by omega);have pX:=Jk r (2*k+1) kF (by omega);obtain⟨ll,Ag,Ah⟩:=Af.O (2*k) (by omega);obtain⟨pg,Ai,Aj⟩:=Af.O (2*k+1) (by omega);have gK:=gQ Tryz.underlying9 P (2*(k:Int)) (2*k) (by omega) (by omega);have fM:=gQ Tryz.underlying9 P (2*(k:Int)+1) (2*k+1) (by omega) (by omega);generalize(P.getD (2*k) 0).toNat=e1 at ll Ag Ah gK;generalize(P.getD (2*k+1) 0).toNat=e2 at pg Ai Aj fM;generalize iT r (2*k)=sx at pG gB ll;generalize iT r (2*k+1)=sy at pX gB pg;have uj:=Qh (show ∀W,Calls Tryz.prog 214 #[.int .u8 (e1:Int)] W fun e w'=>e= .returned (.int .i64 (sx:Int))∧Below W.heap.size W w' from fun W=>by rw[←ll];exact Uy e1 Ag Ah W);have uD:=Qh (show ∀W,Calls Tryz.prog 214 #[.int .u8 (e2:Int)] W fun e w'=>e= .returned (.int .i64 (sy:Int))∧Below W.heap.size W w' from fun W=>by rw[←pg];exact Uy e2 Ai Aj W);clear ll Ag Ah pg Ai Aj;have CX:(eu (words s) r k vr).length=16:=by rw[Nv,Mm]
          generalize SL:eu (words s) r k vr=vk at gB CX BS;have Yf:=Qh SL;clear SL;have m0:=(cell_of_row w5 _ sx _ _ _ BS.O.b2).trans (oV (l:=words s) (by simpa[words]using pG));have m1:=(cell_of_row w5 _ sy _ _ _ BS.O.b2).trans (oV (l:=words s) (by simpa[words]using pX));generalize(words s).getD sx 0=mx at m0 gB;generalize(words s).getD sy 0=my at m1 gB;have bB:=Qh gB;clear gB;go_wp2_with fail
          have zQ:=Qh (BS.O.alloc (.cells #[.int .i64 qa,.int .i64 qb,.int .i64 qc,.int .i64 qd] 253));have m0:=cell_regrown (fP (.cells #[.int .i64 qa,.int .i64 qb,.int .i64 qc,.int .i64 qd] 253) m0);have m1:=cell_regrown (fP (.cells #[.int .i64 qa,.int .i64 qb,.int .i64 qc,.int .i64 qd] 253) m1);have k0:=cell_regrown (show(w5.alloc (.cells #[.int .i64 qa,.int .i64 qb,.int .i64 qc,.int .i64 qd] 253)).cell? ⟨w5.heap.size,0,none⟩=some (.int .i64 qa) by simp);have k1:=cell_regrown (show(w5.alloc (.cells #[.int .i64 qa,.int .i64 qb,.int .i64 qc,.int .i64 qd] 253)).cell? ⟨w5.heap.size,1,none⟩=some (.int .i64 qb) by simp);have k2:=cell_regrown (show(w5.alloc (.cells #[.int .i64 qa,.int .i64 qb,.int .i64 qc,.int .i64 qd] 253)).cell? ⟨w5.heap.size,2,none⟩=some (.int .i64 qc) by simp);have k3:=cell_regrown (show(w5.alloc (.cells #[.int .i64 qa,.int .i64 qb,.int .i64 qc,.int .i64 qd] 253)).cell? ⟨w5.heap.size,3,none⟩=some (.int .i64 qd) by simp);have Ad:(Tryz.prog.info? 249).map (·.size)=some (row vk).size:=by rw[bD,CX];kernel_rfl
          have n1:(sx:Int)<16:=by omega
          have n2:(sy:Int)<16:=by omega
          refine zq 24 (by kernel_rfl) (by kernel_rfl) ?_;simp only[List.take_succ_cons,List.take_zero,List.drop_succ_cons,List.drop_zero];refine wpQuiet_load_row rfl 249 _ rfl (BI+1) rfl 249 (row vk) (0,0) _ (Xfo zQ.O.bv) Tryz.underlying249 rfl Ad ?_;simp only[Act.put,List.setIfInBounds_toArray,List.set_cons_succ,List.set_cons_zero];repeat(go_big_quiet_step (with_reducible first|exact Calls.regrown_of (uj.O _)|exact Calls.regrown_of (uD.O _)))
          refine wpQuiet_nil ?_;intro w6 bg;have gp:Below (w5.alloc (.cells #[.int .i64 qa,.int .i64 qb,.int .i64 qc,.int .i64 qd] 253)).heap.size (w5.alloc (.cells #[.int .i64 qa,.int .i64 qb,.int .i64 qc,.int .i64 qd] 253)) w6:=by
           obtain⟨pq,rfl⟩:=bg;exact below_regrown _ _ _
          clear bg;have QK:=Qh (zQ.O.pass gp);clear zQ gp m0 m1 k0 k1 k2 k3 gK fM;go_wp2_with fail
          refine(Xlw vk CX qa qb qc qd mx my _ iG.O).mono ?_;rintro e w8 ⟨rfl,oN⟩;have QL:=Qh (QK.O.pass oN);clear QK oN;have mO:(nU vk qa qb qc qd mx my).length=16:=by rw[VW,CX]
          generalize hF:nU vk qa qb qc qd mx my=F at mO ⊢;have HF:=Qh hF;have hbv:=QL.O.bv;have Yg:(Tryz.prog.info? 249).map (·.size)=some (row F).size:=by rw[bD,mO];kernel_rfl
          have Yh:(row vk).size=(row F).size:=by rw[bD,bD,CX,mO]
          have Yi:(row F).all (·.oneCell')=true:=by simp[row,Value.oneCell']
          clear hF mO;go_wp2_with (refine wpList_store_row rfl 249 _ _ rfl (BI+1) (row F) rfl rfl 249 (row vk) hbv Yg Yh Yi ?_)
          go_roundw;case rel=>exact⟨k+1,by omega,by go_num,by rw[eu,Yf.O,bB.O,HF.O];exact QL.O.QJ⟩
          case measure=>simp[intOf];omega
         ·have nK:k=8:=by omega
          subst nK;have pJ:=Qh iO;clear iO;go_wp2_with fail
          go_roundw;case rel=>
           have zl:∃r':Nat,r'≤10∧Value.int .i64 ((r:Int)+1)= .int .i64 r'∧Rm w BI (BI+1) [h0,h1,h2,h3,h4,h5,h6,h7] (words s) (eG (words s) r' v0) wr:=⟨r+1,by omega,by go_num,by rw[eG,DW.O];exact pJ.O⟩;first|exact zl|((repeat apply Exists.intro);exact⟨zl,rfl⟩)
          case measure=>simp[intOf];omega
       ·have IX:r=10:=by omega
        obtain⟨v,hv⟩:∃v,eG (words s) r v0=v:=⟨_,rfl⟩;have Hv:=Qh hv;have IY:v.length=16:=by rw[←hv,Gx,Dv]
        rw[hv]at rP;clear hv;have EE:=Qh rP;clear rP;go_wp2_with fail
        go_loopw [19] (fun Yj wr=> ∃k:Nat,k≤8∧Yj= .int .i64 k∧Rm w BI (BI+1) (jl [h0,h1,h2,h3,h4,h5,h6,h7] v k) (words s) v wr) (fun i _=>8-(intOf i).toNat)
        case atStart=>exact⟨0,Nat.zero_le _,rfl,EE.O⟩
        case round=>
         clear EE;obtain⟨k,hk,rfl,iO⟩:=hrel;by_cases iX:k<8
         ·have ol:=Gy [h0,h1,h2,h3,h4,h5,h6,h7] v k;have a0:=(cell_of_row wr _ k _ _ _ iO.b0).trans (oV (by rw[ol];exact iX));have a1:=(cell_of_row wr _ k _ _ _ iO.bv).trans (oV (l:=v) (by omega));have a2:=(cell_of_row wr _ (k+8) _ _ _ iO.bv).trans (oV (l:=v) (by omega));rw[TE _ _ _ iX]at a0;have uQ:=TF [h0,h1,h2,h3,h4,h5,h6,h7] v k;generalize List.getD [h0,h1,h2,h3,h4,h5,h6,h7] k 0=x0 at a0 uQ;generalize v.getD k 0=x1 at a1 uQ;generalize v.getD (k+8) 0=x2 at a2 uQ;have FR:=Qh uQ;have pJ:=Qh iO;clear iO ol uQ;go_wp2_with fail
          have g0:=cell_regrown a0;have g1:=cell_regrown a1;have g2:=cell_regrown a2;refine zq 14 (by kernel_rfl) (by kernel_rfl) ?_;simp only[List.take_succ_cons,List.take_zero,List.drop_succ_cons,List.drop_zero];repeat(go_big_quiet_step ((fail)))
          refine wpQuiet_nil ?_;intro w9 bg;have ig:Below (wr).heap.size (wr) w9:=by
           obtain⟨pq,rfl⟩:=bg;exact below_regrown _ _ _
          clear bg;have Lm:=pJ.O.pass ig;have a9:=ig.cell (p:=⟨w.heap.size,k,none⟩) (block_lt_of_cell a0);rw[a0]at a9;have f9:=frozen_of_row w9 _ k _ _ Lm.b0;have Yk:=Qh Lm;clear Lm ig g0 g1 g2 a0 a1 a2;go_wp2;go_roundw;case rel=>exact⟨k+1,by omega,by go_num,by rw[←FR.O,←Xhw];exact Yk.O.set0 k _⟩
          case measure=>simp[intOf];omega
         ·have ol:=Gy [h0,h1,h2,h3,h4,h5,h6,h7] v k;have je:jl [h0,h1,h2,h3,h4,h5,h6,h7] v k=dL [h0,h1,h2,h3,h4,h5,h6,h7] s count true:=by
           rw[dL,BR.O,←IX,Hv.O,show k=8 by omega]
          generalize jl [h0,h1,h2,h3,h4,h5,h6,h7] v k=F at iO ol je;have om:=Qh je;have vv:(Tryz.prog.info? 192).map (·.size)=some (row F).size:=by rw[bD,ol];kernel_rfl
          have GA:(row (List.replicate 8 0)).size=(row F).size:=by rw[bD,bD,ol];rfl
          have GC:(row F).all (·.oneCell')=true:=by simp[row,Value.oneCell']
          have b0:=iO.b0;have b1:=iO.b1;have pJ:=Qh iO;clear iO je IX
          go_wp2_with (first
           |(refine wpList_load_row rfl 192 _ rfl w.heap.size rfl 192 (row F) (0,0) _ b0 Tryz.underlying192 rfl vv ?_)
           |(refine wpList_store_row rfl 192 _ _ rfl (w.heap.size+1) (row F) rfl rfl 192 (row (List.replicate 8 0)) b1 vv GA GC ?_))
          try simp only[Exit.inBlock,Exit.then]
          refine bodyPost_ret (v:= .tuple #[.agg (row F),.int .i64 0]) ?_ rfl ⟨?_,?_⟩
          ·rw[results_cell_tmp rfl];simp[asAddr,run_loadVar_row _ (w.heap.size+1) 192 192 (row F) (0,0) _ (setRow_heap _ _ _ _ _ _ b1) Tryz.underlying192 rfl vv]
          ·rw[om.O]
          ·exact below_setRow pJ.O.below (by omega) _
     |false=>
      go_wp2_with fail
      obtain⟨v0,tJ⟩:∃v0,ql [h0,h1,h2,h3,h4,h5,h6,h7] count false=v0:=⟨_,rfl⟩;have BR:=Qh tJ;clear tJ;have Dv:v0.length=16:=by rw[←BR.O];exact TG _ rfl _ _
      clear c12 c13 c14 f12 f13 f14;go_loopw [15] (fun s15 wr=> ∃r:Nat,r≤10∧s15= .int .i64 r∧Rm w BI (BI+1) [h0,h1,h2,h3,h4,h5,h6,h7] (words s) (eG (words s) r v0) wr) (fun i _=>10-(intOf i).toNat)
      case atStart=>exact⟨0,Nat.zero_le _,rfl,by show Rm w BI (BI+1) _ (words s) v0 _;rw[←BR.O];exact(Hm.O.Ae 12 _).Ae 13 _⟩
      case round=>
       clear Hm;obtain⟨r,hr,rfl,rP⟩:=hrel;by_cases kF:r<10
       ·obtain⟨vr,zP⟩:∃vr,eG (words s) r v0=vr:=⟨_,rfl⟩;have DW:=Qh zP;rw[zP]at rP;clear zP;have Mm:vr.length=16:=by rw[←DW.O,Gx,Dv]
        have EE:=Qh rP;clear rP;go_wp2_with fail
        refine(Xdf r kF _).mono ?_;rintro e w4 ⟨rfl,aM⟩;have FY:=Qh (EE.O.pass aM);clear EE aM;have Pz:=Xe5 r kF;have Af:=Qh (fun i hi=>Xm6 r i kF hi);generalize nD r=P at Pz Af ⊢;go_wp2_with fail
        go_loopw [17] (fun Ye wr=> ∃k:Nat,k≤8∧Ye= .int .i64 k∧Rm w BI (BI+1) [h0,h1,h2,h3,h4,h5,h6,h7] (words s) (eu (words s) r k vr) wr) (fun i _=>8-(intOf i).toNat)
        case atStart=>exact⟨0,Nat.zero_le _,rfl,FY.O⟩
        case round=>
         clear FY;obtain⟨k,hk,rfl,iO⟩:=hrel;by_cases iX:k<8
         ·have pJ:=Qh iO;clear iO;go_wp2_with fail
          refine(Xfq k iX _).mono ?_;rintro e w5 ⟨rfl,bq⟩;have BS:=Qh (pJ.O.pass bq);clear pJ bq;obtain⟨qa,qb,qc,qd,hq⟩:∃qa qb qc qd,iE k=(qa,qb,qc,qd):=⟨_,_,_,_,rfl⟩;have pu:=TD k iX;have gB:pz (words s) r k (eu (words s) r k vr)=nU (eu (words s) r k vr) qa qb qc qd ((words s).getD (iT r (2*k)) 0) ((words s).getD (iT r (2*k+1)) 0):=by rw[pz,hq]
          rw[hq]at pu ⊢;rw[show Bb (qa,qb,qc,qd)= .agg #[.int .i64 qa,.int .i64 qb,.int .i64 qc,.int .i64 qd]from rfl];have iG:=Qh (show Apart 16 qa qb qc qd from⟨pu.1,pu.2.1,pu.2.2.1,pu.2.2.2.1,pu.2.2.2.2.1,pu.2.2.2.2.2.1,pu.2.2.2.2.2.2.1,pu.2.2.2.2.2.2.2.1,pu.2.2.2.2.2.2.2.2.1,pu.2.2.2.2.2.2.2.2.2⟩);clear hq pu;have pG:=Jk r (2*k) kF (by omega);have pX:=Jk r (2*k+1) kF (by omega);obtain⟨ll,Ag,Ah⟩:=Af.O (2*k) (by omega);obtain⟨pg,Ai,Aj⟩:=Af.O (2*k+1) (by omega);have gK:=gQ Tryz.underlying9 P (2*(k:Int)) (2*k) (by omega) (by omega);have fM:=gQ Tryz.underlying9 P (2*(k:Int)+1) (2*k+1) (by omega) (by omega);generalize(P.getD (2*k) 0).toNat=e1 at ll Ag Ah gK;generalize(P.getD (2*k+1) 0).toNat=e2 at pg Ai Aj fM;generalize iT r (2*k)=sx at pG gB ll;generalize iT r (2*k+1)=sy at pX gB pg;have uj:=Qh (show ∀W,Calls Tryz.prog 214 #[.int .u8 (e1:Int)] W fun e w'=>e= .returned (.int .i64 (sx:Int))∧Below W.heap.size W w' from fun W=>by rw[←ll];exact Uy e1 Ag Ah W);have uD:=Qh (show ∀W,Calls Tryz.prog 214 #[.int .u8 (e2:Int)] W fun e w'=>e= .returned (.int .i64 (sy:Int))∧Below W.heap.size W w' from fun W=>by rw[←pg];exact Uy e2 Ai Aj W);clear ll Ag Ah pg Ai Aj;have CX:(eu (words s) r k vr).length=16:=by rw[Nv,Mm]
          generalize SL:eu (words s) r k vr=vk at gB CX BS;have Yf:=Qh SL;clear SL;have m0:=(cell_of_row w5 _ sx _ _ _ BS.O.b2).trans (oV (l:=words s) (by simpa[words]using pG));have m1:=(cell_of_row w5 _ sy _ _ _ BS.O.b2).trans (oV (l:=words s) (by simpa[words]using pX));generalize(words s).getD sx 0=mx at m0 gB;generalize(words s).getD sy 0=my at m1 gB;have bB:=Qh gB;clear gB;go_wp2_with fail
          have zQ:=Qh (BS.O.alloc (.cells #[.int .i64 qa,.int .i64 qb,.int .i64 qc,.int .i64 qd] 253));have m0:=cell_regrown (fP (.cells #[.int .i64 qa,.int .i64 qb,.int .i64 qc,.int .i64 qd] 253) m0);have m1:=cell_regrown (fP (.cells #[.int .i64 qa,.int .i64 qb,.int .i64 qc,.int .i64 qd] 253) m1);have k0:=cell_regrown (show(w5.alloc (.cells #[.int .i64 qa,.int .i64 qb,.int .i64 qc,.int .i64 qd] 253)).cell? ⟨w5.heap.size,0,none⟩=some (.int .i64 qa) by simp);have k1:=cell_regrown (show(w5.alloc (.cells #[.int .i64 qa,.int .i64 qb,.int .i64 qc,.int .i64 qd] 253)).cell? ⟨w5.heap.size,1,none⟩=some (.int .i64 qb) by simp);have k2:=cell_regrown (show(w5.alloc (.cells #[.int .i64 qa,.int .i64 qb,.int .i64 qc,.int .i64 qd] 253)).cell? ⟨w5.heap.size,2,none⟩=some (.int .i64 qc) by simp);have k3:=cell_regrown (show(w5.alloc (.cells #[.int .i64 qa,.int .i64 qb,.int .i64 qc,.int .i64 qd] 253)).cell? ⟨w5.heap.size,3,none⟩=some (.int .i64 qd) by simp);have Ad:(Tryz.prog.info? 249).map (·.size)=some (row vk).size:=by rw[bD,CX];kernel_rfl
          have n1:(sx:Int)<16:=by omega
          have n2:(sy:Int)<16:=by omega
          refine zq 24 (by kernel_rfl) (by kernel_rfl) ?_;simp only[List.take_succ_cons,List.take_zero,List.drop_succ_cons,List.drop_zero];refine wpQuiet_load_row rfl 249 _ rfl (BI+1) rfl 249 (row vk) (0,0) _ (Xfo zQ.O.bv) Tryz.underlying249 rfl Ad ?_;simp only[Act.put,List.setIfInBounds_toArray,List.set_cons_succ,List.set_cons_zero];repeat(go_big_quiet_step (with_reducible first|exact Calls.regrown_of (uj.O _)|exact Calls.regrown_of (uD.O _)))
          refine wpQuiet_nil ?_;intro w6 bg;have gp:Below (w5.alloc (.cells #[.int .i64 qa,.int .i64 qb,.int .i64 qc,.int .i64 qd] 253)).heap.size (w5.alloc (.cells #[.int .i64 qa,.int .i64 qb,.int .i64 qc,.int .i64 qd] 253)) w6:=by
           obtain⟨pq,rfl⟩:=bg;exact below_regrown _ _ _
          clear bg;have QK:=Qh (zQ.O.pass gp);clear zQ gp m0 m1 k0 k1 k2 k3 gK fM;go_wp2_with fail
          refine(Xlw vk CX qa qb qc qd mx my _ iG.O).mono ?_;rintro e w8 ⟨rfl,oN⟩;have QL:=Qh (QK.O.pass oN);clear QK oN;have mO:(nU vk qa qb qc qd mx my).length=16:=by rw[VW,CX]
          generalize hF:nU vk qa qb qc qd mx my=F at mO ⊢;have HF:=Qh hF;have hbv:=QL.O.bv;have Yg:(Tryz.prog.info? 249).map (·.size)=some (row F).size:=by rw[bD,mO];kernel_rfl
          have Yh:(row vk).size=(row F).size:=by rw[bD,bD,CX,mO]
          have Yi:(row F).all (·.oneCell')=true:=by simp[row,Value.oneCell']
          clear hF mO;go_wp2_with (refine wpList_store_row rfl 249 _ _ rfl (BI+1) (row F) rfl rfl 249 (row vk) hbv Yg Yh Yi ?_)
          go_roundw;case rel=>exact⟨k+1,by omega,by go_num,by rw[eu,Yf.O,bB.O,HF.O];exact QL.O.QJ⟩
          case measure=>simp[intOf];omega
         ·have nK:k=8:=by omega
          subst nK;have pJ:=Qh iO;clear iO;go_wp2_with fail
          go_roundw;case rel=>
           have zl:∃r':Nat,r'≤10∧Value.int .i64 ((r:Int)+1)= .int .i64 r'∧Rm w BI (BI+1) [h0,h1,h2,h3,h4,h5,h6,h7] (words s) (eG (words s) r' v0) wr:=⟨r+1,by omega,by go_num,by rw[eG,DW.O];exact pJ.O⟩;first|exact zl|((repeat apply Exists.intro);exact⟨zl,rfl⟩)
          case measure=>simp[intOf];omega
       ·have IX:r=10:=by omega
        obtain⟨v,hv⟩:∃v,eG (words s) r v0=v:=⟨_,rfl⟩;have Hv:=Qh hv;have IY:v.length=16:=by rw[←hv,Gx,Dv]
        rw[hv]at rP;clear hv;have EE:=Qh rP;clear rP;go_wp2_with fail
        go_loopw [19] (fun Yj wr=> ∃k:Nat,k≤8∧Yj= .int .i64 k∧Rm w BI (BI+1) (jl [h0,h1,h2,h3,h4,h5,h6,h7] v k) (words s) v wr) (fun i _=>8-(intOf i).toNat)
        case atStart=>exact⟨0,Nat.zero_le _,rfl,EE.O⟩
        case round=>
         clear EE;obtain⟨k,hk,rfl,iO⟩:=hrel;by_cases iX:k<8
         ·have ol:=Gy [h0,h1,h2,h3,h4,h5,h6,h7] v k;have a0:=(cell_of_row wr _ k _ _ _ iO.b0).trans (oV (by rw[ol];exact iX));have a1:=(cell_of_row wr _ k _ _ _ iO.bv).trans (oV (l:=v) (by omega));have a2:=(cell_of_row wr _ (k+8) _ _ _ iO.bv).trans (oV (l:=v) (by omega));rw[TE _ _ _ iX]at a0;have uQ:=TF [h0,h1,h2,h3,h4,h5,h6,h7] v k;generalize List.getD [h0,h1,h2,h3,h4,h5,h6,h7] k 0=x0 at a0 uQ;generalize v.getD k 0=x1 at a1 uQ;generalize v.getD (k+8) 0=x2 at a2 uQ;have FR:=Qh uQ;have pJ:=Qh iO;clear iO ol uQ;go_wp2_with fail
          have g0:=cell_regrown a0;have g1:=cell_regrown a1;have g2:=cell_regrown a2;refine zq 14 (by kernel_rfl) (by kernel_rfl) ?_;simp only[List.take_succ_cons,List.take_zero,List.drop_succ_cons,List.drop_zero];repeat(go_big_quiet_step ((fail)))
          refine wpQuiet_nil ?_;intro w9 bg;have ig:Below (wr).heap.size (wr) w9:=by
           obtain⟨pq,rfl⟩:=bg;exact below_regrown _ _ _
          clear bg;have Lm:=pJ.O.pass ig;have a9:=ig.cell (p:=⟨w.heap.size,k,none⟩) (block_lt_of_cell a0);rw[a0]at a9;have f9:=frozen_of_row w9 _ k _ _ Lm.b0;have Yk:=Qh Lm;clear Lm ig g0 g1 g2 a0 a1 a2;go_wp2;go_roundw;case rel=>exact⟨k+1,by omega,by go_num,by rw[←FR.O,←Xhw];exact Yk.O.set0 k _⟩
          case measure=>simp[intOf];omega
         ·have ol:=Gy [h0,h1,h2,h3,h4,h5,h6,h7] v k;have je:jl [h0,h1,h2,h3,h4,h5,h6,h7] v k=dL [h0,h1,h2,h3,h4,h5,h6,h7] s count false:=by
           rw[dL,BR.O,←IX,Hv.O,show k=8 by omega]
          generalize jl [h0,h1,h2,h3,h4,h5,h6,h7] v k=F at iO ol je;have om:=Qh je;have vv:(Tryz.prog.info? 192).map (·.size)=some (row F).size:=by rw[bD,ol];kernel_rfl
          have GA:(row (List.replicate 8 0)).size=(row F).size:=by rw[bD,bD,ol];rfl
          have GC:(row F).all (·.oneCell')=true:=by simp[row,Value.oneCell']
          have b0:=iO.b0;have b1:=iO.b1;have pJ:=Qh iO;clear iO je IX
          go_wp2_with (first
           |(refine wpList_load_row rfl 192 _ rfl w.heap.size rfl 192 (row F) (0,0) _ b0 Tryz.underlying192 rfl vv ?_)
           |(refine wpList_store_row rfl 192 _ _ rfl (w.heap.size+1) (row F) rfl rfl 192 (row (List.replicate 8 0)) b1 vv GA GC ?_))
          try simp only[Exit.inBlock,Exit.then]
          refine bodyPost_ret (v:= .tuple #[.agg (row F),.int .i64 0]) ?_ rfl ⟨?_,?_⟩
          ·rw[results_cell_tmp rfl];simp[asAddr,run_loadVar_row _ (w.heap.size+1) 192 192 (row F) (0,0) _ (setRow_heap _ _ _ _ _ _ b1) Tryz.underlying192 rfl vv]
          ·rw[om.O]
          ·exact below_setRow pJ.O.below (by omega) _
structure DM (w:World) (B:Nat) (l:List Int) (X:World):Prop where
 below:Below w.heap.size w X
 le:w.heap.size≤B
 lt:B<X.heap.size
 nz:X.heap[B]?=some (.cells (row l) 192 (0,0))
theorem DM.pass{X':World}(h:DM w B l X)(hb:Below X.heap.size X X'):DM w B l X':=
 ⟨h.below.trans (hb.mono h.below.size),h.le,Nat.lt_of_lt_of_le h.lt hb.size,(hb.block _ h.lt).trans h.nz⟩
theorem DM.set{l':List Int}(h:DM w B l X):DM w B l' (X.setRow B (row l')):=
 ⟨below_setRow h.below h.le _,h.le,by simpa using h.lt,setRow_heap _ _ _ _ _ _ h.nz⟩
def DgR(w:World)(B:Nat)(s:ae)(v4 v5:Value)(X:World):Prop:=
 (∃i:Nat,i≤lD s∧64*i≤s.length∧v4= .int .i64 (64*(i:Int))∧v5= .bool false∧DM w B (hAt s i) X)∨(v4= .int .i64 (s.length:Int)∧v5= .bool true∧DM w B (iI s) X)
def Yl:Value→Nat
 | .bool true=>0
 |_=>1
theorem Xvh(G:List Int)(hG:G.length=8)(q r:Nat)(hq:q<8)(hr:r<4):(iJ G 8).take (4*q+r+1)=(iJ G 8).take (4*q+r)++[(iv (G.getD q 0)).getD r 0]:=by
 obtain⟨a,b,c,d,e,f,g,h,rfl⟩:=Kr hG
 rcases(show q=0∨q=1∨q=2∨q=3∨q=4∨q=5∨q=6∨q=7 by omega)with rfl|rfl|rfl|rfl|rfl|rfl|rfl|rfl<;>
  rcases(show r=0∨r=1∨r=2∨r=3 by omega)with rfl|rfl|rfl|rfl<;>rfl
theorem Xsp(G:List Int)(hG:G.length=8):(iJ G 8).length=32:=by
 obtain⟨a,b,c,d,e,f,g,h,rfl⟩:=Kr hG;rfl
theorem Ym(s:ae)(hs:s.length≤140737488355328)(w:World):
 Calls Tryz.prog 86 #[S s] w fun e w'=>e= .returned (S (dM s))∧Below w.heap.size w w':=by
 go_enter Tryz.func86,Tryz.ntmps86
 go_wp2_with fail
 refine(Xfr _).mono ?_;rintro e w1 ⟨rfl,au⟩;rw[show row fw=#[.int .u32 1779033703,.int .u32 3144134277,.int .u32 1013904242,.int .u32 2773480762,.int .u32 1359893119,.int .u32 2600822924,.int .u32 528734635,.int .u32 1541459225]from rfl];go_wp2_with fail
 go_loopw [4,5] (fun s4 s5 wr=>DgR w w1.heap.size s s4 s5 wr) (fun c d _=>(s.length-(intOf c).toNat)+Yl d)
 case atStart=>exact .inl ⟨0,Nat.zero_le _,Nat.zero_le _,rfl,rfl,au.alloc au.size _,au.size,by simp,heap_alloc_new w1 (.cells (row qy) 192)⟩
 case round=>
  have Yn:=au.size;clear au;rcases hrel with⟨i,hi,Sz,rfl,rfl,hm⟩|⟨rfl,rfl,hm⟩
  ·have Hm:=Qh hm;clear hm;by_cases hlt:i<lD s
   ·have xN:64*i+64<s.length:=by unfold lD at hlt;omega
    have Dw:i+1≤lD s:=hlt;clear hlt hi;have uN:IntKind.i64.wrap ((s.length:Int)-64*(i:Int))=(s.length:Int)-64*(i:Int):=IntWalk.i64_in _ (by omega);have zg:IntKind.i64.wrap (64*(i:Int)+64)=64*(i:Int)+64:=IntWalk.i64_in _ (by omega);have oP:(0:Int)≤64*(i:Int):=by omega
    have BH:(64*(i:Int)+64).toNat=64*i+64:=by omega
    have Jp:(64*(i:Int)).toNat=64*i:=by omega
    have hw6:64*i+64-64*i=64:=by omega
    have ll:decide (64<(s.length:Int)-64*(i:Int))=true:=by simp;omega
    have q9:=Qh (show dL (hAt s i) ((s.drop (64*i)).take 64) (64*(i:Int)+64) false=hAt s (i+1) by rw[hAt,show((64*i+64:Nat):Int)=64*(i:Int)+64 by omega]);have xK:((s.drop (64*i)).take 64).length=64:=by simp;omega
    have hc:((64*(i:Int)+64)==(s.length:Int))=false:=by rw[beq_eq_false_iff_ne];omega
    have hwu:IntKind.u64.wrap (64*(i:Int)+64)=64*(i:Int)+64:=IntWalk.u64_in _ (by omega);go_wp2_with fail
    generalize(s.drop (64*i)).take 64=blk at q9 xK ⊢;have GK:=Qh xK;have Yo:64≤blk.length:=by omega
    clear xK;go_loop [7] (fun s7=>s7=S blk) (fun _=>0)
    case atStart=>rfl
    case round=>
     obtain rfl:=hrel;have bI:=Hm.O.nz;have zw:=Pv s i;generalize hAt s i=F at bI zw q9;have vv:(Tryz.prog.info? 192).map (·.size)=some (row F).size:=by rw[bD,zw];kernel_rfl
     have QM:=Qh zw;clear zw;go_wp2_with (refine wpList_load_row rfl 192 _ rfl w1.heap.size rfl 192 (row F) (0,0) _ bI Tryz.underlying192 rfl vv ?_)
     refine(Xe6 F QM.O blk GK.O (64*(i:Int)+64) false _).mono ?_;rintro e w3 ⟨rfl,cO⟩;have Kt:=Qh (Hm.O.pass cO);have gM:w3.heap[w1.heap.size]?=some (.cells (row F) 192 (0,0)):=(cO.block _ Hm.O.lt).trans bI;rw[q9.O];have Il:=Pv s (i+1);generalize hG:hAt s (i+1)=G at Il ⊢;have HG:=Qh hG;have Vp:(Tryz.prog.info? 192).map (·.size)=some (row G).size:=by rw[bD,Il];kernel_rfl
     have Yp:(row F).size=(row G).size:=by rw[bD,bD,QM.O,Il]
     have uE:(row G).all (·.oneCell')=true:=by simp[row,Value.oneCell']
     clear cO bI hG Il;go_wp2_with (refine wpList_store_row rfl 192 _ _ rfl w1.heap.size (row G) rfl rfl 192 (row F) gM Vp Yp uE ?_)
     simp only[Act.put];go_roundw;case rel=>exact .inl ⟨i+1,by omega,by omega,by go_num,rfl,by rw[HG.O];exact Kt.O.set⟩
     case measure=>simp[intOf,Yl];omega
   ·have OH:i=lD s:=by omega
    have CR:s.length≤64*i+64:=by unfold lD at OH;omega
    obtain⟨m,hm⟩:∃m,s.length-64*i=m:=⟨_,rfl⟩;have hmi:(s.length:Int)-64*(i:Int)=(m:Int):=by omega
    have alZ:m≤64:=by omega
    have tX:=Qh (show dL (hAt s i) (s.drop (64*i)++List.replicate (64-m) 0) (s.length:Int) true=iI s by rw[iI,←OH,hm]);have hdr:(s.drop (64*i)).length=m:=by simp;omega
    have qJ:(s.drop (64*i)).take m=s.drop (64*i):=List.take_of_length_le (by omega);have uN:IntKind.i64.wrap ((s.length:Int)-64*(i:Int))=(m:Int):=by rw[hmi];exact IntWalk.i64_in _ (by omega)
    have zg:IntKind.i64.wrap (64*(i:Int)+(m:Int))=(s.length:Int):=by rw[IntWalk.i64_in _ (by omega)];omega
    have oP:(0:Int)≤64*(i:Int):=by omega
    have Jp:(64*(i:Int)).toNat=64*i:=by omega
    have hw7:s.length-64*i=m:=hm;have hw8:64*(i:Int)≤(s.length:Int):=by omega
    have hwu:IntKind.u64.wrap (s.length:Int)=(s.length:Int):=IntWalk.u64_in _ (by omega);clear hm OH hlt hmi hdr;go_wp2_with fail
    generalize SN:s.drop (64*i)=blk at tX ⊢;have xK:blk.length=m:=by rw[←SN];simp;omega
    clear SN uN zg oP Jp hw7 hw8;have GK:=Qh xK;have Yo:blk.length≤64:=by omega
    have hwc:((s.length:Int)==(s.length:Int))=true:=beq_self_eq_true _;clear xK;go_loop [7] (fun s7=> ∃j:Nat,j+m≤64∧s7=S (blk++List.replicate j 0)) (fun v=>match v with| .string b=>64-b.size|_=>0)
    case atStart=>exact⟨0,by omega,by simp⟩
    case round=>
     obtain⟨j,hj,rfl⟩:=hrel;have uO:(blk++List.replicate j (0:UInt8)).length=m+j:=by rw[List.length_append,List.length_replicate,GK.O]
     have Hjs:=Qh (show blk++List.replicate j (0:UInt8)++[0]=blk++List.replicate (j+1) 0 by rw[List.replicate_succ',List.append_assoc]);have Hjl:=Qh uO;generalize hx:blk++List.replicate j (0:UInt8)=x at uO Hjs Hjl ⊢;have Hx:=Qh hx;clear hx;by_cases aeV:j+m<64
     ·have Yq:x.length<64:=by omega
      clear uO;go_wp2;go_round;case rel=>exact⟨j+1,by omega,by rw[Hjs.O]⟩
      case measure=>simp[ByteArray.size];omega
     ·have Yq:64≤x.length:=by omega
      have Yr:=Qh (show x.length=64 by omega);have Hxe:=Qh (show x=blk++List.replicate (64-m) 0 by rw[←Hx.O,show 64-m=j by omega]);clear uO;have bI:=Hm.O.nz;have zw:=Pv s i;generalize hAt s i=F at bI zw tX;have vv:(Tryz.prog.info? 192).map (·.size)=some (row F).size:=by rw[bD,zw];kernel_rfl
      have QM:=Qh zw;clear zw;go_wp2_with (refine wpList_load_row rfl 192 _ rfl w1.heap.size rfl 192 (row F) (0,0) _ bI Tryz.underlying192 rfl vv ?_)
      refine(Xe6 F QM.O x Yr.O (s.length:Int) true _).mono ?_;rintro e w3 ⟨rfl,cO⟩;have Kt:=Qh (Hm.O.pass cO);have gM:w3.heap[w1.heap.size]?=some (.cells (row F) 192 (0,0)):=(cO.block _ Hm.O.lt).trans bI;have Il:(dL F x (s.length:Int) true).length=8:=Nz ..;generalize hG:dL F x (s.length:Int) true=G at Il ⊢;have HG:=Qh (show iI s=G by rw[←tX.O,←Hxe.O,hG]);have Vp:(Tryz.prog.info? 192).map (·.size)=some (row G).size:=by rw[bD,Il];kernel_rfl
      have Yp:(row F).size=(row G).size:=by rw[bD,bD,QM.O,Il]
      have uE:(row G).all (·.oneCell')=true:=by simp[row,Value.oneCell']
      clear cO bI hG Il;go_wp2_with (refine wpList_store_row rfl 192 _ _ rfl w1.heap.size (row G) rfl rfl 192 (row F) gM Vp Yp uE ?_)
      simp only[Act.put];go_roundw;case rel=>exact .inr ⟨rfl,rfl,by rw[HG.O];exact Kt.O.set⟩
      case measure=>simp[intOf,Yl]
  ·have Hm:=Qh hm;clear hm;have Uz:(iI s).length=8:=Nz ..;obtain⟨G,hG⟩:∃G,iI s=G:=⟨_,rfl⟩;have HG:=Qh hG;rw[hG]at Uz Hm;clear hG;go_wp2_with fail
   have qQ:=Hm.O.lt;have J5:aP tB 5 (fun _=>none) wr wr.heap.size (.slice none 0 0) ((iJ G 8).take 0):=aP.nil _ _ _ _ _;have EF:=Qh J5;have Dy:w.heap.size≤wr.heap.size:=Hm.O.below.size;clear J5 Yn;generalize GN:wr.heap.size=B0 at qQ EF Dy;have QN:=Qh (Nat.le_of_eq GN.symm);clear GN;have Dr:=Xsp G Uz;generalize w1.heap.size=B at qQ Hm ⊢;go_loopw [8,9] (fun s8 s9 X=> ∃k:Nat,k≤32∧s9= .int .i64 k∧aP tB 5 (fun _=>none) X B0 s8 ((iJ G 8).take k)∧X.heap[B]?=some (.cells (row G) 192 (0,0))∧Below w.heap.size w X∧B0≤X.heap.size) (fun _ k _=>32-(intOf k).toNat)
   case atStart=>exact⟨0,Nat.zero_le _,rfl,EF.O,Hm.O.nz,Hm.O.below,QN.O⟩
   case round=>
    clear EF Hm QN;obtain⟨k,hk,rfl,bE,bI,hb,eU⟩:=hrel;have bQ:=Qh bE;by_cases hlt:k<32
    ·obtain⟨q,r,hq,hr,J4⟩:∃q r,q<8∧r<4∧k=4*q+r:=⟨k / 4,k%4,by omega,by omega,by omega⟩;have aaG:(k:Int) / 4=(q:Int):=by omega
     have hqi:(q:Int)<8:=by omega
     have bB:=Qh (show(iJ G 8).take (k+1)=(iJ G 8).take k++[(iv (G.getD q 0)).getD r 0] by rw[J4];exact Xvh G Uz q r hq hr);have c0:=(cell_of_row wr _ q _ _ _ bI).trans (oV (l:=G) (by omega));have CX:((iJ G 8).take k).length≤32:=by rw[List.length_take];omega
     have Ct:=Qh J4;have mJ:=Qh bI;clear J4 bE bI Dr;generalize G.getD q 0=x0 at c0 bB;rcases(show r=0∨r=1∨r=2∨r=3 by omega)with rfl|rfl|rfl|rfl
     ·have zk:(k:Int)%4=0:=by have:=Ct.O;omega
      go_wp2_with (at_builtin;refine oK (w0:=wr) Px rfl _ _ rfl _ _ _ rfl bQ.O (x0%256) [.int .u8 (x0%256)] _ rfl rfl (by omega) (by omega) eU ?_)
      intro v5 w5 gY hg5;have bq:=Below.own hb hg5 bQ.O Dy eU;have xA:=(hg5.block B (by omega) (fun e=>bQ.O.dx qQ e.symm)).trans mJ.O;have hs5:=hg5.size;have fI:=Qh gY;have Lp:=Qh xA;clear gY xA hg5 bQ mJ;go_wp2;go_roundw;case rel=>exact⟨k+1,by omega,by go_num,by rw[bB.O];exact fI.O,Lp.O,bq,by omega⟩
      case measure=>simp[intOf];omega
     ·have zk:(k:Int)%4=1:=by have:=Ct.O;omega
      go_wp2_with (at_builtin;refine oK (w0:=wr) Px rfl _ _ rfl _ _ _ rfl bQ.O (x0 / 256%256) [.int .u8 (x0 / 256%256)] _ rfl rfl (by omega) (by omega) eU ?_)
      intro v5 w5 gY hg5;have bq:=Below.own hb hg5 bQ.O Dy eU;have xA:=(hg5.block B (by omega) (fun e=>bQ.O.dx qQ e.symm)).trans mJ.O;have hs5:=hg5.size;have fI:=Qh gY;have Lp:=Qh xA;clear gY xA hg5 bQ mJ;go_wp2;go_roundw;case rel=>exact⟨k+1,by omega,by go_num,by rw[bB.O];exact fI.O,Lp.O,bq,by omega⟩
      case measure=>simp[intOf];omega
     ·have zk:(k:Int)%4=2:=by have:=Ct.O;omega
      go_wp2_with (at_builtin;refine oK (w0:=wr) Px rfl _ _ rfl _ _ _ rfl bQ.O (x0 / 65536%256) [.int .u8 (x0 / 65536%256)] _ rfl rfl (by omega) (by omega) eU ?_)
      intro v5 w5 gY hg5;have bq:=Below.own hb hg5 bQ.O Dy eU;have xA:=(hg5.block B (by omega) (fun e=>bQ.O.dx qQ e.symm)).trans mJ.O;have hs5:=hg5.size;have fI:=Qh gY;have Lp:=Qh xA;clear gY xA hg5 bQ mJ;go_wp2;go_roundw;case rel=>exact⟨k+1,by omega,by go_num,by rw[bB.O];exact fI.O,Lp.O,bq,by omega⟩
      case measure=>simp[intOf];omega
     ·have zk:(k:Int)%4=3:=by have:=Ct.O;omega
      go_wp2_with (at_builtin;refine oK (w0:=wr) Px rfl _ _ rfl _ _ _ rfl bQ.O (x0 / 16777216%256) [.int .u8 (x0 / 16777216%256)] _ rfl rfl (by omega) (by omega) eU ?_)
      intro v5 w5 gY hg5;have bq:=Below.own hb hg5 bQ.O Dy eU;have xA:=(hg5.block B (by omega) (fun e=>bQ.O.dx qQ e.symm)).trans mJ.O;have hs5:=hg5.size;have fI:=Qh gY;have Lp:=Qh xA;clear gY xA hg5 bQ mJ;go_wp2;go_roundw;case rel=>exact⟨k+1,by omega,by go_num,by rw[bB.O];exact fI.O,Lp.O,bq,by omega⟩
      case measure=>simp[intOf];omega
    ·have nK:k=32:=by omega
     have J8:(iJ G 8).take k=iJ G 8:=List.take_of_length_le (by omega);have SQ:(iJ G 8).map (fun x=>UInt8.ofNat x.toNat)=dM s:=by rw[dM,HG.O]
     rw[J8]at bE;have vN:0<(iJ G 8).length:=by omega
     have OI:=WA (P:=Tryz.prog) Tryz.underlying69 Tryz.underlying5 Tryz.underlying9 wr bE vN;rw[SQ]at OI;clear bE vN nK J8 SQ bI bQ Dr Uz;go_wp2;go_ret;exact⟨rfl,hb⟩
def xB(s:ae)(k:Nat):ae:=if k=0 then []else s
theorem Xqw(b off cap:Nat)(s:ae)(hs:s.length≤140737488355328)(w:World)(hc:w.cell? ⟨b,off,none⟩=some (S s)):
 Calls Tryz.prog 59 #[.slice (some ⟨b,off,none⟩) 1 cap] w fun e w'=>e= .returned (S (dM s))∧Below w.heap.size w w':=by
 go_enter Tryz.func59,Tryz.ntmps59
 go_wp2_with fail
 go_loop [3,4] (fun s3 s4=> ∃k:Nat,k≤1∧s4= .int .i64 k∧s3=S (xB s k)) (fun _ k=>1-(intOf k).toNat)
 case atStart=>exact⟨0,by omega,rfl,rfl⟩
 case round=>
  obtain⟨k,hk,rfl,rfl⟩:=hrel;by_cases hlt:k<1
  ·have rM:k=0:=by omega
   subst rM;rw[show xB s 0=[]from rfl];go_wp2;go_round;case rel=>exact⟨1,by omega,by go_num,rfl⟩
   case measure=>simp[intOf]
  ·have mo:k=1:=by omega
   subst mo;rw[show xB s 1=s from rfl];go_wp2_with fail
   refine(Ym s hs _).mono ?_;rintro e w1 ⟨rfl,au⟩;go_wp2;go_ret;exact⟨rfl,au⟩
theorem Xze(s:ae):(dM s).length=32:=by
 unfold dM;rw[List.length_map];exact Xsp _ (Nz ..)
def QO:ae:=[116,101,120,116]
def Yt:ae:=dM QO
def yA:aG:=⟨1,[97],[],[],4,Yt,[⟨1,0,4⟩]⟩
def yR:aG:=⟨4,[97],[],[],0,[],[]⟩
def sA:bR:=⟨1,5,[],[yA],QO,[]⟩
def sB:bR:=⟨2,6,(eD sA).1,[yR],[],[]⟩
