/- Lemmas for the claim's theorem;conditions: as each says. -/
import Derived.Test.YtdodihnehppnmaaGreatDoorG13
set_option maxHeartbeats 0
set_option maxRecDepth 100000
set_option linter.all false
namespace Go.Proofs.YtdodihnehppnmaaGreatDoor
variable{e:ay}{h c:ae}{s:dm}{a:Nat}{x:ae}{n k:Nat}{r:ae}{w:World}{ve:Value}{w':World}{b i:Nat}
def ckH(h:Nat)(b:UInt8):Nat:=(2*h+40503*(b.toNat+1))%65536
def DZ:ae→Nat→Nat→Nat
 | [],i,_=>i
 |b::r,i,h=>if i+1=96∨(16≤i+1∧ckH h b<2048)then i+1 else DZ r (i+1) (ckH h b)
def D5(s:ae):Nat:=DZ s 0 0
def AX:Nat→ae→List ae
 |0,_=> []
 |n+1,s=>if s=[]then []else s.take (D5 s)::AX n (s.drop (D5 s))
def GJ(s:ae):List ae:=AX s.length s
structure Sg where
 n:Int
 d:ae
def rE:ae→Nat
 | []=>0
 |b::r=>if b=0 then rE r+1 else 0
def D6(d:ae):List Sg:=if d=[]then []else [⟨0,d⟩]
def KT:Nat→ae→ae→List Sg
 |0,acc,_=>D6 acc
 |f+1,acc,r=>
  if r=[]then D6 acc
  else if 32≤rE r then D6 acc++⟨(rE r:Nat),[]⟩::KT f [] (r.drop (rE r))
  else KT f (acc++r.take (max (rE r) 1)) (r.drop (max (rE r) 1))
def XK(acc r:ae):List Sg:=KT r.length acc r
def Ja(s:ae):List Sg:=XK [] s
def ad7(l:List Sg):Nat:=(l.map fun g=>g.n.toNat+g.d.length).sum
structure Ck where
 d:ae
 x:Xt
structure D7 where
 XL:List Ck
 zh:Int
 str:ae
def Jb:List Ck→ae→Option Xt
 | [],_=>none
 |c::l,d=>if c.d=d then some c.x else Jb l d
def P8(l:List Xt)(x:Xt):List Xt:=
 match l.getLast? with
 |none=> [x]
 |some y=>if x.s≠0∧y.s=x.s∧y.o+y.n=x.o then l.dropLast++[⟨y.s,y.o,y.n+x.n⟩]else l++[x]
def P9(S:D7)(c:ae):Xt:=⟨S.zh,(S.str.length:Nat),(c.length:Nat)⟩
def Qa(S:D7)(c:ae):D7×Xt:=
 match Jb S.XL (bE c)with
 |some x=>(S,x)
 |none=>(⟨S.XL++[⟨bE c,P9 S c⟩],S.zh,S.str++c⟩,P9 S c)
def XM(p:D7×List Xt)(c:ae):D7×List Xt:=((Qa p.1 c).1,P8 p.2 (Qa p.1 c).2)
def Qc(p:D7×List Xt)(g:Sg):D7×List Xt:=if g.d=[]then(p.1,P8 p.2 ⟨0,0,g.n⟩)else(GJ g.d).foldl XM p
def alg(S:D7)(c:ae):D7×List Xt×Int:=
 if S.zh<1∨255<S.zh then(S,[],1)else if 65536<c.length then(S,[],6)
 else(((Ja c).foldl Qc (S,[])).1,((Ja c).foldl Qc (S,[])).2,0)
def XN(S:D7)(n:Int):D7×Int:=if n<1∨255<n then(S,2)else if n≤S.zh then(S,14)else(⟨S.XL,n,[]⟩,0)
def BP(st:List ae)(x:Xt):Bool:=decide (x.n<0) || decide (x.o<0) || decide (x.s<0) || decide ((st.length:Int)<x.s) || (x.s==0&&x.o !=0)
def pK(st:List ae)(x:Xt):ae:=st.getD (x.s-1).toNat []
def qE(st:List ae):List Xt→ae→ae×Int
 | [],out=>(out,0)
 |x::r,out=>
  if BP st x=true then([],2)
  else if 0<x.s∧(((pK st x).length:Int)<x.o∨((pK st x).length:Int)-x.o<x.n)then([],2)
  else if 65536-(out.length:Int)<x.n then([],6)
  else qE st r (out++if x.s=0 then List.replicate x.n.toNat 0 else((pK st x).drop x.o.toNat).take x.n.toNat)
def qF(st:List ae)(l:List Xt):ae×Int:=qE st l []
theorem FE{s y:ae}(hs:s=x++(aN y++r))(ha:a=x.length):rdStr s a= .ok (y,a+(aN y).length):=by
 subst hs;subst ha;exact Wq x y r
theorem NE{s:ae}{n:Int}(h0: -2147483648≤n)(h1:n≤2147483647)(hs:s=x++(bq n++r))(ha:a=x.length):rdNum s a= .ok (n,a+(bq n).length):=by
 subst hs;subst ha;exact Ws x r n h0 h1
theorem Xpu{s:ae}{n most:Int}(h0:0≤n)(h1:n≤most)(h2:most≤2147483647)(hs:s=x++(bq n++r))(ha:a=x.length):gW most s a= .ok (n,a+(bq n).length):=by
 rw[gW,NE (by omega) (by omega) hs ha,aR,if_neg (by show ¬(n<0∨most<n);omega)]
def TP(y:Xt):Prop:=(-2147483648≤y.s∧y.s≤2147483647)∧(-2147483648≤y.o∧y.o≤2147483647)∧(-2147483648≤y.n∧y.n≤2147483647)
theorem Xps:∀(l:List Xt) (s x r:ae) (a:Nat) (acc:List Xt),(∀y∈l,TP y)→s=x++(vL l++r)→a=x.length→ji s l.length a acc= .ok (acc++l,a+(vL l).length)
 | [],s,x,r,a,acc,_,_,_=>by simp[ji,vL]
 |y::l,s,x,r,a,acc,h,hs,ha=>by
  obtain⟨⟨a1,a2⟩,⟨b1,b2⟩,c1,c2⟩:=h y (by simp);have e:vL (y::l)=bq y.s++(bq y.o++(bq y.n++vL l)):=by simp[vL]
  rw[e]at hs ⊢
  rw[List.length_cons,ji,NE a1 a2 (by rw[hs];simp[List.append_assoc];rfl) ha,aR,
   NE (x:=x++bq y.s) b1 b2 (by rw[hs];simp[List.append_assoc];rfl) (by rw[ha];simp),aR,
   NE (x:=x++bq y.s++bq y.o) c1 c2 (by rw[hs];simp[List.append_assoc];rfl) (by rw[ha];simp[Nat.add_assoc]),aR,
   Xps l s (x++bq y.s++bq y.o++bq y.n) r _ _ (fun z hz=>h z (by simp[hz])) (by rw[hs];simp[List.append_assoc]) (by rw[ha];simp[Nat.add_assoc])]
  simp[Nat.add_assoc]
theorem Xpv:∀(l:List At) (s x r:ae) (a:Nat) (acc:List At),s=x++((l.flatMap fun a=>aN a.k++aN a.v)++r)→a=x.length→jh s l.length a acc= .ok (acc++l,a+(l.flatMap fun a=>aN a.k++aN a.v).length)
 | [],s,x,r,a,acc,_,_=>by simp[jh]
 |y::l,s,x,r,a,acc,hs,ha=>by
  have e:((y::l).flatMap fun a=>aN a.k++aN a.v)=aN y.k++(aN y.v++l.flatMap fun a=>aN a.k++aN a.v):=by simp
  rw[e]at hs ⊢
  rw[List.length_cons,jh,FE (x:=x) (y:=y.k) (by rw[hs];simp[List.append_assoc];rfl) ha,aR,
   FE (x:=x++aN y.k) (y:=y.v) (by rw[hs];simp[List.append_assoc];rfl) (by rw[ha];simp),aR,
   Xpv l s (x++aN y.k++aN y.v) r _ _ (by rw[hs];simp[List.append_assoc]) (by rw[ha];simp[Nat.add_assoc])]
  simp[Nat.add_assoc]
def uz(h:ae)(z:Int)(dg:ae)(l:List Xt):ae:=aN h++(bq z++(aN dg++(bq l.length++vL l)))
theorem Xpt(h:ae)(z:Int)(dg:ae)(l:List Xt)(lD: -2147483648≤z)(oQ:z≤2147483647)(hl:l.length≤65536)(hx:∀y∈l,TP y):
 jB (uz h z dg l) 0=Rb (ek h) fun e=>jV (bW e z dg l) (uz h z dg l).length:=by
 have hs:uz h z dg l=[]++(aN h++(bq z++(aN dg++(bq l.length++(vL l++[]))))):=by simp[uz]
 have hlen:(uz h z dg l).length=(aN h).length+((bq z).length+((aN dg).length+((bq l.length).length+(vL l).length))):=by simp[uz]
 rw[jB,FE (x:=[]) (y:=h) (a:=0) hs rfl,aR];congr 1;funext e
 rw[NE (x:=aN h) lD oQ (by rw[hs];simp;rfl) (by simp),aR,
  FE (x:=aN h++bq z) (y:=dg) (by rw[hs];simp;rfl) (by simp),aR,
  Xpu (x:=aN h++bq z++aN dg) (n:=l.length) (most:=65536) (by omega) (by omega) (by omega) (by rw[hs];simp;rfl) (by simp[Nat.add_assoc]),aR]
 dsimp only;rw[Int.toNat_natCast,Xps l _ (aN h++bq z++aN dg++bq l.length) [] _ _ hx (by rw[hs];simp) (by simp[Nat.add_assoc]),aR,hlen];simp[Nat.add_assoc]
theorem XO(pg:1≤e.ag)(hk6:e.ag≤6)(hl:e.ai.length≤400):ek (dR e)= .ok (bW e 0 [] []):=by
 have hk:kindOf (bH e.ag)=e.ag:=by
  have:e.ag=1∨e.ag=2∨e.ag=3∨e.ag=4∨e.ag=5∨e.ag=6:=by omega
  rcases this with k|k|k|k|k|k<;>rw[k]<;>decide
 have hs:dR e=[]++(aN (bH e.ag)++(aN e.af++(bq e.ai.length++((e.ai.flatMap fun a=>aN a.k++aN a.v)++(aN e.target++[]))))):=by simp[dR,q8]
 have hlen:(dR e).length=(aN (bH e.ag)).length+((aN e.af).length+((bq e.ai.length).length+((e.ai.flatMap fun a=>aN a.k++aN a.v).length+(aN e.target).length))):=by rw[hs];simp
 rw[ek,FE (x:=[]) (y:=bH e.ag) (a:=0) hs rfl,aR];dsimp only
 rw[if_neg (by rw[hk];omega),FE (x:=aN (bH e.ag)) (y:=e.af) (by rw[hs];simp;rfl) (by simp),aR,
  Xpu (x:=aN (bH e.ag)++aN e.af) (n:=e.ai.length) (most:=400) (by omega) (by omega) (by omega) (by rw[hs];simp;rfl) (by simp),aR]
 dsimp only
 rw[Int.toNat_natCast,Xpv e.ai _ (aN (bH e.ag)++aN e.af++bq e.ai.length) (aN e.target) _ _ (by rw[hs];simp) (by simp[Nat.add_assoc]),aR,
  FE (x:=aN (bH e.ag)++aN e.af++bq e.ai.length++e.ai.flatMap fun a=>aN a.k++aN a.v) (y:=e.target) (r:=[]) (by rw[hs];simp) (by simp[Nat.add_assoc]),aR]
 dsimp only;rw[if_neg (by rw[hlen];simp[Nat.add_assoc])];simp[Dx,bW,hk]
theorem Xtz(he:ek h= .ok e):e.size=0∧e.aj=[]∧e.ak=[]∧1≤e.ag∧e.ag≤6∧ ∃nm a,rdStr h 0= .ok (nm,a)∧kindOf nm=e.ag:=by
 unfold ek at he;cases h1:rdStr h 0 with
 |error x=>rw[h1]at he;cases he
 |ok nm=>
  rw[h1,aR]at he;by_cases hk:kindOf nm.1=0
  ·rw[if_pos hk]at he;cases he
  rw[if_neg hk]at he;cases h2:rdStr h nm.2 with
  |error x=>rw[h2]at he;cases he
  |ok p=>
   rw[h2,aR]at he;cases h3:gW 400 h p.2 with
   |error x=>rw[h3]at he;cases he
   |ok n=>
    rw[h3,aR]at he;cases h4:jh h n.1.toNat n.2 []with
    |error x=>rw[h4]at he;cases he
    |ok l=>
     rw[h4,aR]at he;cases h5:rdStr h l.2 with
     |error x=>rw[h5]at he;cases he
     |ok t=>
      rw[h5,aR]at he;split at he
      ·cases he
      ·injection he with he
       subst he;refine⟨rfl,rfl,rfl,?_,?_,nm.1,nm.2,(by first|rfl|rw[h1]),rfl⟩
       ·show 1≤kindOf nm.1;revert hk;unfold kindOf;repeat' split
        all_goals omega
       ·show kindOf nm.1≤6;unfold kindOf;repeat' split
        all_goals omega
theorem Xyt{t:ae}(h:jg t=true):Lib.decDigits (dS 0 t)=t:=by
 have h':=h;unfold jg at h';simp only[Bool.and_eq_true,Bool.or_eq_true]at h';refine Xqp t.length t rfl (by have:=h'.1.1;cases t<;>simp_all) h'.1.2 ?_;rcases h'.2 with k|k
 ·exact .inl (by simpa using k)
 ·exact .inr (by simpa using k)
theorem Xq0{s:ae}{c:UInt8}(h:a+(upTo s a c).length<s.length):s.drop a=upTo s a c++c::s.drop (a+(upTo s a c).length+1):=by
 have key:∀(l:ae),(l.takeWhile (fun x=>x !=c)).length<l.length→l=l.takeWhile (fun x=>x !=c)++c::l.drop ((l.takeWhile (fun x=>x !=c)).length+1):=by
  intro l;induction l with
  |nil=>intro h;simp at h
  |cons x l ih=>
   intro h;rw[List.takeWhile_cons]at h ⊢;by_cases hx:x=c
   ·subst hx;simp
   ·rw[if_pos (by simpa using hx)]at h ⊢;have:=ih (by simpa using h);rw[List.cons_append,List.length_cons,List.drop_succ_cons,←this]
 have:=key (s.drop a) (by show(upTo s a c).length<_;rw[List.length_drop];omega);rw[List.drop_drop]at this;rw[Nat.add_assoc];exact this
theorem Xsx{s:ae}(h:rdStr s a= .ok (x,n)):s.drop a=aN x++s.drop n:=by
 unfold rdStr at h;cases hu:dM s a 58 with
 |error e=>rw[hu]at h;cases h
 |ok p=>
  obtain⟨t,m⟩:=p;rw[hu,aR]at h;obtain⟨q1,q2,q3,q4,q5⟩:=Pe hu;have hsp:=Xq0 (s:=s) (a:=a) (c:=58) (by rw[←q4];omega);rw[←q4,←q5]at hsp;unfold strOf at h;split at h
  ·cases h
  ·rename_i k1;split at h
   ·cases h
   ·rename_i k2;split at h
    ·cases h
    ·rename_i k3;injection h with h
     injection h with h1 h2
     dsimp only at*;have k1:jg t=true:=by simpa using k1
     have hd:=Xyt k1;have mP:x.length=dS 0 t:=by rw[←h1,List.length_take,List.length_drop];omega
     have hlt:m+dS 0 t<s.length:=by omega
     have hn:s.getD (m+dS 0 t) 0=44:=by simpa using k3
     have h44:(s.drop m).drop (dS 0 t)=44::s.drop n:=by
      rw[List.drop_drop,List.drop_eq_getElem_cons hlt,←h2];congr 1;rw[List.getD_eq_getElem?_getD,List.getElem?_eq_getElem hlt]at hn;simpa using hn
     have hm:s.drop m=x++44::s.drop n:=by
      rw[←h44,←h1];exact(List.take_append_drop _ _).symm
     rw[hsp,hm];simp[aN,Lib.itoa,mP,hd]
def zE:ay:=⟨0,[],[],[],0,[],[]⟩
def nU(h:ae):ae:=uz h 0 [] []
def eY(k:Int)(c:ae):List Xt:=if c=[]then []else [⟨k,0,(c.length:Nat)⟩]
def nD(k:Int)(h c:ae):ae:=uz h (c.length:Nat) (bE c) (eY k c)
def fZ(h c:ae):ay×Bool:=
 match jB (nU h) 0 with
 | .ok p=>(p.1,c.isEmpty&&(p.1.ag==2 || p.1.ag==3))
 | .error _=>if 65536<c.length then(zE,false)else match jB (nD 0 h c) 0 with
   | .ok p=>(p.1,p.1.ag==1)
   | .error _=>(zE,false)
def mX(h:ae):Bool:=decide (7≤h.length)&&h.take 7==[52,58,102,105,108,101,44]
def yG(h c:ae):ay×Bool:=
 if mX h=false∧c≠[]then(zE,false)else match jB (if mX h=true then nD 1 h c else nU h) 0 with
  | .ok p=>(p.1,p.1.ag==1 || p.1.ag==2 || p.1.ag==3)
  | .error _=>(zE,false)
theorem Xqi(k:Int)(hk:k=0∨k=1)(c:ae)(hc:c.length≤100000000):(eY k c).length≤65536∧ ∀y∈eY k c,TP y:=by
 unfold eY;split
 ·simp
 ·refine⟨by simp,fun y hy=> ?_⟩;rw[List.mem_singleton]at hy;subst hy;unfold TP;dsimp only;omega
theorem NF(h:ae):jB (nU h) 0=Rb (ek h) fun e=>jV (bW e 0 [] []) (nU h).length:=
 Xpt h 0 [] [] (by omega) (by omega) (by simp) (by simp)
theorem NG(k:Int)(hk:k=0∨k=1)(h c:ae)(hc:c.length≤100000000):jB (nD k h c) 0=Rb (ek h) fun e=>jV (bW e (c.length:Nat) (bE c) (eY k c)) (nD k h c).length:=
 Xpt h _ _ _ (by omega) (by omega) (Xqi k hk c hc).1 (Xqi k hk c hc).2
theorem TQ(h:az e=0)(hk:e.ag=1):e.aj.length=32∧e.size≤65536:=by
 unfold az at h;split at h
 ·omega
 split at h
 ·contradiction
 split at h
 ·omega
 split at h
 ·contradiction
 split at h
 ·omega
 split at h
 ·omega
 rename_i k1;split at h
 ·omega
 rename_i k2;constructor<;>omega
theorem Xo6(e:ay)(c:ae)(d:ae):az (bW e (c.length:Nat) d (eY 0 c))=az (bW e (c.length:Nat) d (eY 1 c)):=by
 have h1:bM (e.ag==1) (eY 0 c)=bM (e.ag==1) (eY 1 c):=by
  unfold eY;split
  ·rfl
  ·simp[bM,cB]
 have h2:fV (eY 0 c)=fV (eY 1 c):=by
  unfold eY;split
  ·rfl
  ·simp[fV]
 unfold az bW;dsimp only;rw[h1,h2];rfl
theorem Xna(he:ek h= .ok e):mX h=(e.ag==1):=by
 obtain⟨_,_,_,_,_,nm,a,hr,hk⟩:=Xtz he;rw[←hk];have lW:=Xsx hr;rw[List.drop_zero]at lW;have hf:aN (bH 1)=[52,58,102,105,108,101,44]:=by
  show Lib.itoa 4++[58]++[102,105,108,101]++[44]=_;rw[Lib.itoa,if_neg (by omega),Lib.decDigits,dif_pos (by decide)];rfl
 by_cases hn:nm=bH 1
 ·have:kindOf nm=1:=by unfold kindOf;rw[if_pos hn]
  rw[this];subst hn;rw[hf]at lW;rw[lW];unfold mX;simp
 ·have pg:(kindOf nm==1)=false:=by
   unfold kindOf;rw[if_neg hn];repeat' split
   all_goals rfl
  rw[pg];unfold mX;rw[Bool.and_eq_false_iff];by_cases hl:7≤h.length
  ·right;cases hh:(h.take 7==[52,58,102,105,108,101,44])with
   |false=>rfl
   |true=>
    have h7:h=[]++(aN (bH 1)++h.drop 7):=by
     have:=List.take_append_drop 7 h;rw[hf,List.nil_append,←(by simpa using hh:h.take 7=[52,58,102,105,108,101,44])];exact this.symm
    have:=FE (a:=0) h7 rfl;rw[hr]at this;injection this with this
    injection this with this
    exact absurd this hn
  ·exact .inl (Qf hl)
structure KU (x y:ay):Prop where
 ag:x.ag=y.ag
 af:x.af=y.af
 ai:x.ai=y.ai
 target:x.target=y.target
 ex:az x=0
 ey:az y=0
theorem Qd(h:az e=0):jV e n= .ok (e,n):=by unfold jV;rw[if_neg (by omega)]
theorem NH(h:az e≠0):jV e n= .error (az e):=if_pos h
theorem Xuh{x:Int}(hc:c.length≤100000000)(hh:ek h= .error x):(fZ h c).2=false:=by
 unfold fZ;rw[NF,NG 0 (.inl rfl) h c hc,hh,dK,dK];dsimp only;split<;>rfl
theorem Xxl{x:Int}(hc:c.length≤100000000)(hh:ek h= .error x):(yG h c).2=false:=by
 unfold yG;split
 ·rfl
 ·cases mX h
  ·rw[if_neg (by simp),NF,hh,dK]
  ·rw[if_pos rfl,NG 1 (.inr rfl) h c hc,hh,dK]
theorem Xrt(hc:c.length≤100000000)(hh:ek h= .ok e)(hk:e.ag=1):
 fZ h c=if 65536<c.length∨az (bW e (c.length:Nat) (bE c) (eY 0 c))≠0 then(zE,false)else(bW e (c.length:Nat) (bE c) (eY 0 c),true):=by
 have cK:az (bW e 0 [] [])≠0:=fun h0=>by
  have:=(TQ h0 hk).1;simp[bW]at this
 unfold fZ;rw[NF,NG 0 (.inl rfl) h c hc,hh,aR,aR,NH cK];dsimp only;by_cases h1:65536<c.length
 ·rw[if_pos h1,if_pos (.inl h1)]
 ·rw[if_neg h1];by_cases h2:az (bW e (c.length:Nat) (bE c) (eY 0 c))=0
  ·rw[if_neg (by omega),Qd h2];dsimp only;rw[show((bW e (c.length:Nat) (bE c) (eY 0 c)).ag==1)=true by simp[bW,hk]]
  ·rw[if_pos (.inr h2),NH h2]
theorem Xu5(hc:c.length≤100000000)(hh:ek h= .ok e)(hk:e.ag=1):
 yG h c=if az (bW e (c.length:Nat) (bE c) (eY 1 c))≠0 then(zE,false)else(bW e (c.length:Nat) (bE c) (eY 1 c),true):=by
 have Cw:mX h=true:=by rw[Xna hh,hk];rfl
 unfold yG;rw[Cw,if_neg (by simp),if_pos rfl,NG 1 (.inr rfl) h c hc,hh,aR];by_cases h2:az (bW e (c.length:Nat) (bE c) (eY 1 c))=0
 ·rw[if_neg (by omega),Qd h2];dsimp only;rw[show((bW e (c.length:Nat) (bE c) (eY 1 c)).ag==1)=true by simp[bW,hk]];rfl
 ·rw[if_pos h2,NH h2]
theorem Xo4(hc:c.length≤100000000)(hh:ek h= .ok e)(hk:e.ag≠1):
 if az (bW e 0 [] [])=0 then fZ h c=(bW e 0 [] [],c.isEmpty&&(e.ag==2 || e.ag==3))else(fZ h c).2=false:=by
 unfold fZ;rw[NF,NG 0 (.inl rfl) h c hc,hh,aR,aR];by_cases h0:az (bW e 0 [] [])=0
 ·rw[if_pos h0,Qd h0];rfl
 ·rw[if_neg h0,NH h0];dsimp only;split
  ·rfl
  ·by_cases h2:az (bW e (c.length:Nat) (bE c) (eY 0 c))=0
   ·rw[Qd h2];show(e.ag==1)=false;simpa using hk
   ·rw[NH h2]
theorem Xrx(hh:ek h= .ok e)(hk:e.ag≠1):
 yG h c=if c≠[]∨az (bW e 0 [] [])≠0 then(zE,false)else(bW e 0 [] [],e.ag==2 || e.ag==3):=by
 have Cw:mX h=false:=by rw[Xna hh];simpa using hk
 unfold yG;rw[Cw];by_cases h1:c=[]
 ·rw[if_neg (by simp[h1]),if_neg (by simp),NF,hh,aR];by_cases h0:az (bW e 0 [] [])=0
  ·rw[if_neg (by simp[h1,h0]),Qd h0];show(bW e 0 [] [],e.ag==1 || e.ag==2 || e.ag==3)=_;rw[show(e.ag==1)=false by simpa using hk];rfl
  ·rw[if_pos (.inr h0),NH h0]
 ·rw[if_pos ⟨rfl,h1⟩,if_pos (.inl h1)]
theorem Xza(h c:ae)(hc:c.length≤100000000):(fZ h c).2=(yG h c).2∧((fZ h c).2=true→KU (fZ h c).1 (yG h c).1):=by
 cases hh:ek h with
 |error x=>
  rw[Xuh hc hh,Xxl hc hh];exact⟨rfl,fun h=>by cases h⟩
 |ok e=>
  by_cases hk:e.ag=1
  ·rw[Xrt hc hh hk,Xu5 hc hh hk];have hh0:=Xo6 e c (bE c);by_cases h1:az (bW e (c.length:Nat) (bE c) (eY 1 c))=0
   ·have hs:=(TQ h1 hk).2;have TR:¬65536<c.length:=by
     simp only[bW]at hs;omega
    rw[if_neg (by omega),if_neg (by omega)];exact⟨rfl,fun _=>⟨rfl,rfl,rfl,rfl,by show az (bW e (c.length:Nat) (bE c) (eY 0 c))=0;omega,h1⟩⟩
   ·rw[if_pos (.inr (by omega)),if_pos h1];exact⟨rfl,fun h=>by cases h⟩
  ·have ho:=Xo4 hc hh hk;rw[Xrx hh hk];by_cases h0:az (bW e 0 [] [])=0
   ·rw[if_pos h0]at ho;rw[ho];by_cases h1:c=[]
    ·rw[if_neg (by simp[h1,h0]),h1];exact⟨rfl,fun _=>⟨rfl,rfl,rfl,rfl,h0,h0⟩⟩
    ·rw[if_pos (.inl h1),show c.isEmpty=false by cases c<;>simp_all];exact⟨rfl,fun h=>by cases h⟩
   ·rw[if_neg h0]at ho;rw[if_pos (.inr h0),ho];exact⟨rfl,fun h=>by cases h⟩
def BQ:List ay→List ay→Prop
 | [],[]=>True
 |x::a,y::b=>KU x y∧BQ a b
 |_,_=>False
theorem Xsk(p:ae):∀{a b:List ay},BQ a b→(dC a p).map ay.ag=(dC b p).map ay.ag
 | [],[],_=>rfl
 | [],_::_,h=>h.elim
 |_::_,[],h=>h.elim
 |x::a,y::b,h=>by
  unfold dC;rw[List.find?_cons,List.find?_cons,h.1.af];split
  ·simp[h.1.ag]
  ·exact Xsk p h.2
theorem Xye{a b:List ay}(h:BQ a b)(p:ae):aU a p=aU b p:=by
 have hg:=Xsk p h;unfold aU;split
 ·rfl
 ·cases ha:dC a p<;>cases hb:dC b p<;>rw[ha,hb]at hg<;>simp_all
theorem Xsl{t u:List ay}(htu:BQ t u):∀{a b:List ay},BQ a b→ ∀q r:Option ay,q.map ay.af=r.map ay.af→eH t q a=eH u r b
 | [],[],_,_,_,_=>rfl
 | [],_::_,h,_,_,_=>h.elim
 |_::_,[],h,_,_,_=>h.elim
 |x::a,y::b,h,q,r,hq=>by
  have aat:(q.any fun z=> !(gU (els z.af) (els x.af)))=(r.any fun z=> !(gU (els z.af) (els y.af))):=by
   rw[h.1.af];cases q<;>cases r<;>simp_all
  unfold eH;rw[if_neg (by rw[h.1.ex];omega),if_neg (c:=az y≠0) (by rw[h.1.ey];omega),aat,h.1.ag,h.1.af,Xye htu,Xsl htu h.2 (some x) (some y) (by simp[h.1.af])]
structure tC where
 ag:Int
 af:ae
 ai:List At
 target:ae
 iM:ae
def nW(x:ay)(c:ae):tC:=⟨x.ag,x.af,x.ai,x.target,c⟩
def wY(f:ae→ae→ay×Bool)(s:ae):Nat→Nat→List ay→List tC→Except Int (List ay×List tC×Nat)
 |0,a,t,o=> .ok (t,o,a)
 |n+1,a,t,o=>Rb (rdStr s a) fun h=>Rb (rdStr s h.2) fun c=>if(f h.1 c.1).2=false then .error 3 else wY f s n c.2 (t++[(f h.1 c.1).1]) (o++[nW (f h.1 c.1).1 c.1])
def BR(s:ae)(r:List ay×List tC×Nat):Except Int (List tC):=if r.2.2≠s.length then .error 3 else if kv r.1≠0 then .error (kv r.1)else .ok r.2.1
def GK(f:ae→ae→ay×Bool)(s:ae)(n:Int×Nat):Except Int (List tC):=if n.1<0∨5000<n.1 then .error 2 else Rb (wY f s n.1.toNat n.2 [] []) (BR s)
def yH(f:ae→ae→ay×Bool)(s:ae):Except Int (List tC):=Rb (rdNum s 0) (GK f s)
open Go.RowKit
abbrev D8(s:dm)(ve:Value):List Value:=[.int .i64 s.num,.int .i64 s.aT,S s.bP,ve,S s.aI,S s.sl]
abbrev uA(s:dm)(ve:Value):Value:= .agg #[.int .i64 s.num,.int .i64 s.aT,S s.bP,ve,S s.aI,S s.sl]
def oK:Ty dm where
 size:=6
 rd:=fun I cs s=> ∃ve,cs=D8 s ve∧bf bC I ve s.aH
 len:=fun⟨_,h,_⟩=>by rw[h];rfl
 one:=fun⟨ve,h,h1⟩ u hu=>by
  rw[h]at hu;simp at hu;rcases hu with rfl|rfl|rfl|rfl|rfl|rfl<;>first|rfl|exact h1.one
 mono:=fun hI ⟨ve,h,h1⟩=>⟨ve,h,h1.mono hI⟩
structure Qe (w:World) (b o:Nat) (s:dm) (ve:Value):Prop where
 c0:w.cell? ⟨b,o,none⟩=some (.int .i64 s.num)
 c1:w.cell? ⟨b,o+1,none⟩=some (.int .i64 s.aT)
 c2:w.cell? ⟨b,o+2,none⟩=some (S s.bP)
 c3:w.cell? ⟨b,o+3,none⟩=some ve
 c4:w.cell? ⟨b,o+4,none⟩=some (S s.aI)
 c5:w.cell? ⟨b,o+5,none⟩=some (S s.sl)
structure mY (w:World) (n:Nat) (s:dm) (ve:Value):Prop where
 c0:w.cell? ⟨n,0,none⟩=some (.int .i64 s.num)
 c1:w.cell? ⟨n,1,none⟩=some (.int .i64 s.aT)
 c2:w.cell? ⟨n,2,none⟩=some (S s.bP)
 c3:w.cell? ⟨n,3,none⟩=some ve
 c4:w.cell? ⟨n,4,none⟩=some (S s.aI)
 c5:w.cell? ⟨n,5,none⟩=some (S s.sl)
theorem mY.aA(h:mY w b s ve)(hb:Below w.heap.size w w'):mY w' b s ve:=
 ⟨dQ hb h.c0,dQ hb h.c1,dQ hb h.c2,dQ hb h.c3,dQ hb h.c4,dQ hb h.c5⟩
theorem mY.past(h:mY w b s ve)(x:Obj):mY (w.alloc x) b s ve:=
 ⟨gD x h.c0,gD x h.c1,gD x h.c2,gD x h.c3,gD x h.c4,gD x h.c5⟩
theorem wZ{W:World}{t:TypeId}(hn:n=W.heap.size)(hb:Below (W.alloc (.cells #[.int .i64 s.num,.int .i64 s.aT,S s.bP,ve,S s.aI,S s.sl] t)).heap.size (W.alloc (.cells #[.int .i64 s.num,.int .i64 s.aT,S s.bP,ve,S s.aI,S s.sl] t)) w'):mY w' n s ve:=by
 subst hn;exact mY.aA ⟨by simp,by simp,by simp,by simp,by simp,by simp⟩ hb
theorem Jc{I:IH}{v:Value}{l:List dm}(h:bf oK I v l)(hw:Ok I w)(i:Nat)(hi:i<l.length):∃x ve b off cap,l[i]=x∧v= .slice (some ⟨b,off,none⟩) l.length cap∧
 Qe w b (off+i*6) x ve∧bf bC I ve x.aH:=by
 obtain⟨b,off,cap,cs,hv,⟨ve,iY,h1⟩,hc⟩:=h.at_ hw hi;subst iY;exact⟨_,ve,b,off,cap,rfl,hv,⟨hc 0 _ rfl,hc 1 _ rfl,hc 2 _ rfl,hc 3 _ rfl,hc 4 _ rfl,hc 5 _ rfl⟩,h1⟩
structure kR (s:dm):Prop where
 qG:s.aH.length≤30
 aI:s.aI.length≤1000
 bP:s.bP.length≤100
 sl:s.sl.length≤2100
 wf:∀e∈s.aH,e.Wf
 af:∀e∈s.aH,e.af.length≤300
 target:∀e∈s.aH,e.target.length≤300
 ak:∀e∈s.aH,e.ak.length≤30
 num: -9223372036854775808≤s.num∧s.num≤9223372036854775807
 aT: -9223372036854775808≤s.aT∧s.aT≤9223372036854775807
def pM(s:dm)(k:Nat):ae:=qx s++(s.aH.take k).flatMap yh
theorem Xsm(hk:k<s.aH.length){x:ay}(hx:s.aH[k]=x):pM s (k+1)=pM s k++yh x:=by
 rw[pM,pM,List.take_succ_eq_append_getElem hk,hx,List.flatMap_append,←List.append_assoc];simp
theorem Xv0(s:dm)(h:s.aH.length≤k):pM s k=kN s:=by rw[pM,List.take_of_length_le h];rfl
theorem Xpk(s:ae):(bE s).length≤32:=by
 unfold bE;rw[List.length_map];exact V8 _ 8
theorem Xn4(h:kR s)(hf:iR s=0):(qx s).length≤400:=by
 have hk:=Wl hf;have h1:=CU (n:=s.num) (by omega) (by omega);have h2:=CU (n:=s.aT) (by omega) (by omega);have h3:=mQ s.bP (by have:=h.bP;omega);have h4:=y9 s.aI.length (by have:=h.aI;omega);have h5:=Xpk s.aI;have h6:=mQ (bE s.aI) (by omega);have h7:=y9 s.aH.length (by have:=h.qG;omega);have h8:=h.bP;unfold qx;simp only[List.length_append];omega
theorem Xqj:∀{l:List ay},(∀e∈l,lV e∧e.ak.length≤1000)→(l.flatMap yh).length≤54000*l.length
 | [],_=>by simp
 |e::l,h=>by
  have h1:=Xqm (h e (List.mem_cons_self ..)).1 (h e (List.mem_cons_self ..)).2;have h2:=Xqj fun x hx=>h x (List.mem_cons_of_mem _ hx);simp only[List.flatMap_cons,List.length_append,List.length_cons];omega
theorem Xvz(h:kR s)(hf:iR s=0)(hv:∀e∈s.aH.take k,az e=0):(pM s k).length≤1700000:=by
 have h1:=Xn4 h hf;have h2:=Xqj (l:=s.aH.take k) fun e he=>⟨CS (hv e he),by have:=h.ak e (List.mem_of_mem_take he);omega⟩;have h3:(s.aH.take k).length≤s.aH.length:=by simp;omega
 have h4:=h.qG;unfold pM;rw[List.length_append];omega
theorem Xg5{l:List ay}(hk:k<l.length){x:ay}(hx:l[k]=x):eQ (l.drop k)=if az x≠0 then az x else eQ (l.drop (k+1)):=by
 rw[List.drop_eq_getElem_cons hk,hx];rfl
theorem Qj(b:Nat)(s:ae)(hs:s.length≤140737488355328)(w:World)(hc:w.cell? ⟨b,0,none⟩=some (S s))(rO:b<w.heap.size):
 Calls Tryz.prog 30 #[.slice (some ⟨b,0,none⟩) 1 1] w fun e w'=>e= .returned (S (bE s))∧Below w.heap.size w w':=
 Xqu b 0 1 [s] s (by simp) hs w (fun j x hx=>by match j,hx with|0,hx=>cases hx;exact hc) (by simp) rO (by simp)
abbrev sgL(n:Nat)(st p4 sm p6 p7 u:ae)(ao:Option Addr)(le co:Nat)(x:Nat×Nat):List (Option Tmp×Value):=
 [(some 37,.pointer (some ⟨n,4,none⟩)),(some 38,S st),(some 39,.int .i64 (st.length:Int)),(some 40,S p4),(some 41,.pointer (some ⟨n,4,none⟩)),(some 42,S st),(some 43,.slice (some ⟨x.1,0,none⟩) 1 1),(some 44,S sm),(some 45,S p6),(some 46,S (p4++p6)),
  (some 47,.pointer (some ⟨n,3,none⟩)),(some 48,.slice ao le co),(some 49,.int .i64 (le:Int)),(some 50,S p7),(some 51,S u),(some 52,.tuple #[.int .i64 (u.length:Int),.nilIface])]
def meaning(x y:ay):Bool:=decide (x.ag=y.ag)&&decide (x.ai=y.ai)&&decide (x.target=y.target)&&decide (x.size=y.size)&&decide (x.aj=y.aj)
def gp:List ay→List ay→List ae
 | [],[]=> []
 |x::a,[]=>x.af::gp a []
 | [],y::b=>y.af::gp [] b
 |x::a,y::b=>if kr x y then x.af::gp a (y::b)else if kr y x then y.af::gp (x::a) b else if meaning x y then gp a b else x.af::gp a b
termination_by a b=>a.length+b.length
def BS(l:List ae):Prop:=l.Pairwise fun p q=>gU (els p) (els q)=true
def nX(a b:List ay)(p:ae):Prop:=(∃x∈a,x.af=p∧ ∀y∈b,y.af=p→meaning x y=false)∨(∃y∈b,y.af=p∧ ∀x∈a,x.af≠p)
theorem BS.ext:∀{A B:List ae},BS A→BS B→(∀x,x∈A↔x∈B)→A=B
 | [],[],_,_,_=>rfl
 | [],b::B,_,_,h=>absurd ((h b).2 (List.mem_cons_self ..)) (by simp)
 |a::A,[],_,_,h=>absurd ((h a).1 (List.mem_cons_self ..)) (by simp)
 |a::A,b::B,hA,hB,h=>by
  obtain⟨a1,a2⟩:=List.pairwise_cons.1 hA;obtain⟨b1,b2⟩:=List.pairwise_cons.1 hB;have e:a=b:=by
   rcases List.mem_cons.1 ((h a).1 (List.mem_cons_self ..))with e|hab
   ·exact e
   ·rcases List.mem_cons.1 ((h b).2 (List.mem_cons_self ..))with e|xA
    ·exact e.symm
    ·have k:=MO (a1 b xA);rw[b1 a hab]at k;exact absurd k (by simp)
  subst e;rw[BS.ext a2 b2 fun x=> ?_];have hx:=h x;rw[List.mem_cons,List.mem_cons]at hx;constructor
  ·intro hm;rcases hx.1 (.inr hm)with e|hm'
   ·subst e;exact absurd rfl (Io (a1 x hm))
   ·exact hm'
  ·intro hm;rcases hx.2 (.inr hm)with e|hm'
   ·subst e;exact absurd rfl (Io (b1 x hm))
   ·exact hm'
theorem NI:∀(a b:List ay),fC a→fC b→BS (gp a b)∧ ∀p,p∈gp a b↔nX a b p
 | [],[],_,_=>by
   rw[gp];exact⟨List.Pairwise.nil,fun p=>by simp[nX]⟩
 |x::a,[],ha,hb=>by
  obtain⟨a1,a2⟩:=List.pairwise_cons.1 ha;obtain⟨i1,i2⟩:=NI a [] a2 hb;rw[gp];refine⟨List.pairwise_cons.2 ⟨fun p hp=> ?_,i1⟩,fun p=> ?_⟩
  ·rcases(i2 p).1 hp with⟨z,hz,rfl,_⟩|⟨z,hz,_⟩
   ·exact a1 z hz
   ·cases hz
  ·rw[List.mem_cons,i2];constructor
   ·rintro(rfl|⟨z,hz,k,_⟩|⟨z,hz,_⟩)
    ·exact .inl ⟨x,List.mem_cons_self ..,rfl,fun y hy=>absurd hy (by simp)⟩
    ·exact .inl ⟨z,List.mem_cons_of_mem _ hz,k,fun y hy=>absurd hy (by simp)⟩
    ·cases hz
   ·rintro(⟨z,hz,k,k'⟩|⟨z,hz,_⟩)
    ·rcases List.mem_cons.1 hz with rfl|hz
     ·exact .inl k.symm
     ·exact .inr (.inl ⟨z,hz,k,k'⟩)
    ·cases hz
 | [],y::b,ha,hb=>by
   obtain⟨b1,b2⟩:=List.pairwise_cons.1 hb;obtain⟨i1,i2⟩:=NI [] b ha b2;rw[gp];refine⟨List.pairwise_cons.2 ⟨fun p hp=> ?_,i1⟩,fun p=> ?_⟩
   ·rcases(i2 p).1 hp with⟨z,hz,_⟩|⟨z,hz,rfl,_⟩
    ·cases hz
    ·exact b1 z hz
   ·rw[List.mem_cons,i2];constructor
    ·rintro(rfl|⟨z,hz,_⟩|⟨z,hz,k,_⟩)
     ·exact .inr ⟨y,List.mem_cons_self ..,rfl,fun x hx=>absurd hx (by simp)⟩
     ·cases hz
     ·exact .inr ⟨z,List.mem_cons_of_mem _ hz,k,fun x hx=>absurd hx (by simp)⟩
    ·rintro(⟨z,hz,_⟩|⟨z,hz,k,k'⟩)
     ·cases hz
     ·rcases List.mem_cons.1 hz with rfl|hz
      ·exact .inl k.symm
      ·exact .inr (.inr ⟨z,hz,k,k'⟩)
 |x::a,y::b,ha,hb=>by
  obtain⟨a1,a2⟩:=List.pairwise_cons.1 ha;obtain⟨b1,b2⟩:=List.pairwise_cons.1 hb;rw[gp];by_cases h1:kr x y=true
  ·rw[if_pos h1];obtain⟨i1,i2⟩:=NI a (y::b) a2 hb;have hxb:∀z∈y::b,kr x z=true:=fun z hz=>by
    rcases List.mem_cons.1 hz with rfl|hz
    ·exact h1
    ·exact Dh h1 (b1 z hz)
   refine⟨List.pairwise_cons.2 ⟨fun p hp=> ?_,i1⟩,fun p=> ?_⟩
   ·rcases(i2 p).1 hp with⟨z,hz,rfl,_⟩|⟨z,hz,rfl,_⟩
    ·exact a1 z hz
    ·exact hxb z hz
   ·rw[List.mem_cons,i2];constructor
    ·rintro(rfl|⟨z,hz,k,k'⟩|⟨z,hz,rfl,k'⟩)
     ·exact .inl ⟨x,List.mem_cons_self ..,rfl,fun z hz k=>absurd k.symm (ww (hxb z hz))⟩
     ·exact .inl ⟨z,List.mem_cons_of_mem _ hz,k,k'⟩
     ·refine .inr ⟨z,hz,rfl,fun u hu=> ?_⟩;rcases List.mem_cons.1 hu with rfl|hu
      ·exact ww (hxb z hz)
      ·exact k' u hu
    ·rintro(⟨z,hz,k,k'⟩|⟨z,hz,rfl,k'⟩)
     ·rcases List.mem_cons.1 hz with rfl|hz
      ·exact .inl k.symm
      ·exact .inr (.inl ⟨z,hz,k,k'⟩)
     ·exact .inr (.inr ⟨z,hz,rfl,fun u hu=>k' u (List.mem_cons_of_mem _ hu)⟩)
  ·rw[if_neg h1];by_cases h2:kr y x=true
   ·rw[if_pos h2];obtain⟨i1,i2⟩:=NI (x::a) b ha b2;have hya:∀z∈x::a,kr y z=true:=fun z hz=>by
     rcases List.mem_cons.1 hz with rfl|hz
     ·exact h2
     ·exact Dh h2 (a1 z hz)
    refine⟨List.pairwise_cons.2 ⟨fun p hp=> ?_,i1⟩,fun p=> ?_⟩
    ·rcases(i2 p).1 hp with⟨z,hz,rfl,_⟩|⟨z,hz,rfl,_⟩
     ·exact hya z hz
     ·exact b1 z hz
    ·rw[List.mem_cons,i2];constructor
     ·rintro(rfl|⟨z,hz,rfl,k'⟩|⟨z,hz,k,k'⟩)
      ·exact .inr ⟨y,List.mem_cons_self ..,rfl,fun z hz k=>absurd k.symm (ww (hya z hz))⟩
      ·refine .inl ⟨z,hz,rfl,fun u hu k=> ?_⟩;rcases List.mem_cons.1 hu with rfl|hu
       ·exact absurd k (ww (hya z hz))
       ·exact k' u hu k
      ·exact .inr ⟨z,List.mem_cons_of_mem _ hz,k,k'⟩
     ·rintro(⟨z,hz,rfl,k'⟩|⟨z,hz,k,k'⟩)
      ·exact .inr (.inl ⟨z,hz,rfl,fun u hu=>k' u (List.mem_cons_of_mem _ hu)⟩)
      ·rcases List.mem_cons.1 hz with rfl|hz
       ·exact .inl k.symm
       ·exact .inr (.inr ⟨z,hz,k,k'⟩)
   ·rw[if_neg h2];have tF:x.af=y.af:=by
     rcases OI x y with h|h|h
     ·exact absurd h h1
     ·exact h
     ·exact absurd h h2
    obtain⟨i1,i2⟩:=NI a b a2 b2;have hxa:∀z∈a,x.af≠z.af:=fun z hz=>ww (a1 z hz);have hyb:∀z∈b,x.af≠z.af:=fun z hz=>by rw[tF];exact ww (b1 z hz)
    have gY:∀p,p≠x.af→(nX (x::a) (y::b) p↔nX a b p):=by
     intro p hp;have Ou:y.af≠p:=fun k=>hp (by rw[tF,k]);constructor
     ·rintro(⟨z,hz,k,k'⟩|⟨z,hz,k,k'⟩)
      ·rcases List.mem_cons.1 hz with rfl|hz
       ·exact absurd k.symm hp
       ·exact .inl ⟨z,hz,k,fun u hu=>k' u (List.mem_cons_of_mem _ hu)⟩
      ·rcases List.mem_cons.1 hz with rfl|hz
       ·exact absurd k Ou
       ·exact .inr ⟨z,hz,k,fun u hu=>k' u (List.mem_cons_of_mem _ hu)⟩
     ·rintro(⟨z,hz,k,k'⟩|⟨z,hz,k,k'⟩)
      ·refine .inl ⟨z,List.mem_cons_of_mem _ hz,k,fun u hu q=> ?_⟩;rcases List.mem_cons.1 hu with rfl|hu
       ·exact absurd q Ou
       ·exact k' u hu q
      ·refine .inr ⟨z,List.mem_cons_of_mem _ hz,k,fun u hu q=> ?_⟩;rcases List.mem_cons.1 hu with rfl|hu
       ·exact hp q.symm
       ·exact k' u hu q
    have xn:¬nX a b x.af:=by
     rintro(⟨z,hz,k,_⟩|⟨z,hz,k,_⟩)
     ·exact hxa z hz k.symm
     ·exact hyb z hz k.symm
    have EO:nX (x::a) (y::b) x.af↔meaning x y=false:=by
     constructor
     ·rintro(⟨z,hz,k,k'⟩|⟨z,hz,k,k'⟩)
      ·rcases List.mem_cons.1 hz with rfl|hz
       ·exact k' y (List.mem_cons_self ..) tF.symm
       ·exact absurd k.symm (hxa z hz)
      ·exact absurd rfl (k' x (List.mem_cons_self ..))
     ·intro hm;refine .inl ⟨x,List.mem_cons_self ..,rfl,fun u hu q=> ?_⟩;rcases List.mem_cons.1 hu with rfl|hu
      ·exact hm
      ·exact absurd q.symm (hyb u hu)
    by_cases hm:meaning x y=true
    ·rw[if_pos hm];refine⟨i1,fun p=> ?_⟩;rw[i2];by_cases hp:p=x.af
     ·subst hp;rw[EO,hm];exact⟨fun k=>absurd k xn,fun k=>absurd k (by simp)⟩
     ·exact(gY p hp).symm
    ·rw[if_neg hm];refine⟨List.pairwise_cons.2 ⟨fun p hp=> ?_,i1⟩,fun p=> ?_⟩
     ·rcases(i2 p).1 hp with⟨z,hz,rfl,_⟩|⟨z,hz,rfl,_⟩
      ·exact a1 z hz
      ·show gU (els x.af) _=true;rw[tF];exact b1 z hz
     ·rw[List.mem_cons,i2];by_cases hp:p=x.af
      ·subst hp;rw[EO];exact⟨fun _=>by simpa using hm,fun _=> .inl rfl⟩
      ·rw[gY p hp];exact⟨fun k=>k.resolve_left hp,.inr⟩
termination_by a b=>a.length+b.length
theorem step_ok{s:kC}{d:Int}(h:(dY s e d).2=0):bL s.aJ e=((bL s.aJ e).1,0)∧(dY s e d).1.aJ=FY s.aJ e∧az e=0:=by
 unfold dY at*;split at h
 ·contradiction
 ·rename_i h1;have ha:=Pb (t:=s.aJ) (e:=e) (by omega);obtain⟨hp,hx⟩:=jR.1 ha;split at h
  ·contradiction
  ·rename_i h2;split at h
   ·contradiction
   ·rename_i h3;rw[if_neg h1,if_neg h2,if_neg h3];exact⟨ha,hx,hp.mr⟩
def aek(i:Option ay)(l:List Fp):Option ay:=l.foldl (fun _ v=>if v.e.ag=4 then none else some v.e) i
def Jd(d:Int):kC→List ay→Prop
 |_,[]=>True
 |s,e::es=>(dY s e d).2=0∧Jd d (dY s e d).1 es
def KV:kC→List dm→Prop
 |_,[]=>True
 |s,x::xs=>Jd x.aT s x.aH∧KV (Bw s x.aT x.aH) xs
structure ael (i:Nat) (bP:ae) (aT:Int) (x:dm):Prop where
 dig:(eO x).2=0
 num:x.num=i+1
 aT:aT≤x.aT
 bP:x.bP=bP
def writes(p:ae)(e:ay):Bool:=decide (e.ag≤3)&&e.af==p
def TS(p:ae)(l:List dm):Nat:=(l.flatMap fun x=>x.aH.filter (writes p)).length
def keeps(v:Fp):Bool:=decide (v.e.ag≠4)
def Je:Bool→List Fp→Prop
 |_,[]=>True
 |r,v::vs=>if v.e.ag=4 then r=false∧Je true vs else Je false vs
def four(l:List Int)(a b c d:Nat)(va vb vc vd:Int):List Int:=(((l.set a va).set b vb).set c vc).set d vd
theorem Xit(l:List Int)(a b c d:Nat)(va vb vc vd:Int):(four l a b c d va vb vc vd).length=l.length:=by simp[four]
theorem Xua(l:List Int)(a b c d:Nat)(ha:a<l.length)(hb:b<l.length)(hc:c<l.length)(hd:d<l.length):four l a b c d (l.getD a 0) (l.getD b 0) (l.getD c 0) (l.getD d 0)=l:=by
 simp[four,List.getD,ha,hb,hc,hd]
structure Apart (n a b c d:Nat):Prop where
 la:a<n
 lb:b<n
 lc:c<n
 ld:d<n
 ab:a≠b
 ac:a≠c
 ad:a≠d
 bc:b≠c
 bd:b≠d
 cd:c≠d
section
variable {l:List Int} {a b c d:Nat} {va vb vc vd:Int}
theorem Xt9(h:Apart l.length a b c d)(x:Int):(four l a b c d va vb vc vd).set a x=four l a b c d x vb vc vd:=by
 unfold four;rw[List.set_comm _ _ h.ad.symm,List.set_comm _ _ h.ac.symm,List.set_comm _ _ h.ab.symm,List.set_set]
theorem Xt8(h:Apart l.length a b c d)(x:Int):(four l a b c d va vb vc vd).set b x=four l a b c d va x vc vd:=by
 unfold four;rw[List.set_comm _ _ h.bd.symm,List.set_comm _ _ h.bc.symm,List.set_set]
theorem Xt7(h:Apart l.length a b c d)(x:Int):(four l a b c d va vb vc vd).set c x=four l a b c d va vb x vd:=by
 unfold four;rw[List.set_comm _ _ h.cd.symm,List.set_set]
theorem Xt6(_h:Apart l.length a b c d)(x:Int):(four l a b c d va vb vc vd).set d x=four l a b c d va vb vc x:=by
 unfold four;rw[List.set_set]
theorem NJ{l:List Int}{j:Nat}(h:i≠j)(x:Int):(l.set i x).getD j 0=l.getD j 0:=by
 simp[List.getD,List.getElem?_set_ne h]
theorem TT{l:List Int}(h:i<l.length)(x:Int):(l.set i x).getD i 0=x:=by
 simp[List.getD,h]
theorem X0m(h:Apart l.length a b c d):(four l a b c d va vb vc vd).getD a 0=va:=by
 unfold four;rw[NJ h.ad.symm,NJ h.ac.symm,NJ h.ab.symm,TT h.la]
theorem X0l(h:Apart l.length a b c d):(four l a b c d va vb vc vd).getD b 0=vb:=by
 unfold four;rw[NJ h.bd.symm,NJ h.bc.symm,TT (by simpa using h.lb)]
theorem X0k(h:Apart l.length a b c d):(four l a b c d va vb vc vd).getD c 0=vc:=by
 unfold four;rw[NJ h.cd.symm,TT (by simpa using h.lc)]
theorem X0j(h:Apart l.length a b c d):(four l a b c d va vb vc vd).getD d 0=vd:=by
 unfold four;rw[TT (by simpa using h.ld)]
end
structure iV (w:World) (t:TypeId) (l:List Int) (a b c d:Nat) (va vb vc vd:Int) (X:World):Prop where
 mW:X.heap[w.heap.size]?=some (.cells (row (four l a b c d va vb vc vd)) t (0,0))
 zero:X.heap[w.heap.size+1]?=some (.cells (row (List.replicate 16 0)) t (0,0))
 below:Below w.heap.size w X
section
variable {w X X':World} {t:TypeId} {l:List Int} {a b c d:Nat} {va vb vc vd:Int}
theorem iV.lt(h:iV w t l a b c d va vb vc vd X):w.heap.size+1<X.heap.size:=(Qg h.zero)
theorem iV.pass(h:iV w t l a b c d va vb vc vd X)(hb:Below X.heap.size X X'):iV w t l a b c d va vb vc vd X':=
 ⟨(hb.block _ (by have:=h.lt;omega)).trans h.mW,(hb.block _ h.lt).trans h.zero,h.below.trans (hb.mono h.below.size)⟩
theorem iV.cell(h:iV w t l a b c d va vb vc vd X)(q:Nat)(hq:q<l.length):X.cell? ⟨w.heap.size,q,none⟩=some (.int .u32 ((four l a b c d va vb vc vd).getD q 0)):=
 (cell_of_row X _ q _ _ _ h.mW).trans (oI (by rw[Xit];exact hq))
theorem iV.ca(h:iV w t l a b c d va vb vc vd X)(k:Apart l.length a b c d):X.cell? ⟨w.heap.size,a,none⟩=some (.int .u32 va):=by rw[h.cell a k.la,X0m k]
theorem iV.cb(h:iV w t l a b c d va vb vc vd X)(k:Apart l.length a b c d):X.cell? ⟨w.heap.size,b,none⟩=some (.int .u32 vb):=by rw[h.cell b k.lb,X0l k]
theorem iV.cc(h:iV w t l a b c d va vb vc vd X)(k:Apart l.length a b c d):X.cell? ⟨w.heap.size,c,none⟩=some (.int .u32 vc):=by rw[h.cell c k.lc,X0k k]
theorem iV.cd(h:iV w t l a b c d va vb vc vd X)(k:Apart l.length a b c d):X.cell? ⟨w.heap.size,d,none⟩=some (.int .u32 vd):=by rw[h.cell d k.ld,X0j k]
theorem iV.fr(h:iV w t l a b c d va vb vc vd X)(q:Nat):X.frozen? ⟨w.heap.size,q,none⟩=false:=frozen_of_row X _ q _ _ h.mW
theorem iV.put(h:iV w t l a b c d va vb vc vd X)(q:Nat)(x:Int){L:List Int}(hL:(four l a b c d va vb vc vd).set q x=L){Nt vb' vc' vd':Int}(Z5:L=four l a b c d Nt vb' vc' vd'):iV w t l a b c d Nt vb' vc' vd' (X.setCell ⟨w.heap.size,q,none⟩ (.int .u32 x)):=by
 subst Z5;refine⟨?_,?_,h.below.setCell (p:=⟨w.heap.size,q,none⟩) (Qn _) _⟩
 ·rw[←hL];exact heap_setCell x h.mW
 ·rw[Below.heap_setCell _ _ _ _ (by simp)];exact h.zero
theorem iV.pa(h:iV w t l a b c d va vb vc vd X)(k:Apart l.length a b c d)(x:Int):iV w t l a b c d x vb vc vd (X.setCell ⟨w.heap.size,a,none⟩ (.int .u32 x)):=h.put a x (Xt9 k x) rfl
theorem iV.pb(h:iV w t l a b c d va vb vc vd X)(k:Apart l.length a b c d)(x:Int):iV w t l a b c d va x vc vd (X.setCell ⟨w.heap.size,b,none⟩ (.int .u32 x)):=h.put b x (Xt8 k x) rfl
theorem iV.pc(h:iV w t l a b c d va vb vc vd X)(k:Apart l.length a b c d)(x:Int):iV w t l a b c d va vb x vd (X.setCell ⟨w.heap.size,c,none⟩ (.int .u32 x)):=h.put c x (Xt7 k x) rfl
theorem iV.pd(h:iV w t l a b c d va vb vc vd X)(k:Apart l.length a b c d)(x:Int):iV w t l a b c d va vb vc x (X.setCell ⟨w.heap.size,d,none⟩ (.int .u32 x)):=h.put d x (Xt6 k x) rfl
end
theorem TU(x:Int)(k d m:Int)(hk:tT k d m)(w:World):
 Calls Tryz.prog 263 #[.int .u32 x,.int .u64 k] w fun e w'=>e= .returned (.int .u32 (l5 d m x))∧Below w.heap.size w w':=
 (Xmb x k d m hk w).mono fun _ _ ⟨h1,h2⟩=>⟨h1,by rw[h2];exact Qb _ _⟩
theorem Xyi:tT 16 65536 65536:= .inl ⟨rfl,rfl,rfl⟩
theorem Xyj:tT 12 4096 1048576:= .inr (.inl ⟨rfl,rfl,rfl⟩)
theorem X0a:tT 8 256 16777216:= .inr (.inr (.inl ⟨rfl,rfl,rfl⟩))
theorem X0b:tT 7 128 33554432:= .inr (.inr (.inr ⟨rfl,rfl,rfl⟩))
theorem X0i{α:Type}:∀{l:List α},l.length=16→ ∃a b c d e f g h i j k m n o p q,l=[a,b,c,d,e,f,g,h,i,j,k,m,n,o,p,q]
 | [a,b,c,d,e,f,g,h,i,j,k,m,n,o,p,q],_=>⟨a,b,c,d,e,f,g,h,i,j,k,m,n,o,p,q,rfl⟩
theorem Xmc(l:List Int)(hl:l.length=16)(qa qb qc qd:Nat)(x y:Int)(w:World)(zt:Apart 16 qa qb qc qd):
 Calls Tryz.prog 204 #[.agg (row l),.int .i64 qa,.int .i64 qb,.int .i64 qc,.int .i64 qd,.int .u32 x,.int .u32 y] w fun e w'=>e= .returned (.agg (row (nH l qa qb qc qd x y)))∧Below w.heap.size w w':=by
 have ik:Hid (Apart l.length qa qb qc qd):=Qh (by rw[hl];exact zt);have hM0:iV w 160 l qa qb qc qd (l.getD qa 0) (l.getD qb 0) (l.getD qc 0) (l.getD qd 0) ((w.alloc (.cells (row l) 160)).alloc (.cells (row (List.replicate 16 0)) 160)):=
  ⟨by rw[Xua _ _ _ _ _ ik.O.la ik.O.lb ik.O.lc ik.O.ld];exact(Below.heap_alloc (w.alloc (.cells (row l) 160)) (.cells (row (List.replicate 16 0)) 160) w.heap.size (by simp)).trans (heap_alloc_new w (.cells (row l) 160)),
    (by have h:=heap_alloc_new (w.alloc (.cells (row l) 160)) (.cells (row (List.replicate 16 0)) 160);rwa[show(w.alloc (.cells (row l) 160)).heap.size=w.heap.size+1 by simp]at h),
    ((Qb w.heap.size w).alloc (Qn _) (.cells (row l) 160)).alloc (by simp) (.cells (row (List.replicate 16 0)) 160)⟩
 obtain⟨va,JY⟩:∃va,l.getD qa 0=va:=⟨_,rfl⟩;obtain⟨vb,JZ⟩:∃vb,l.getD qb 0=vb:=⟨_,rfl⟩;obtain⟨vc,J6⟩:∃vc,l.getD qc 0=vc:=⟨_,rfl⟩;obtain⟨vd,Ka⟩:∃vd,l.getD qd 0=vd:=⟨_,rfl⟩;have Hm:=Qh (show nH l qa qb qc qd x y=four l qa qb qc qd (sG va vb vc vd x y).1 (sG va vb vc vd x y).2.1 (sG va vb vc vd x y).2.2.1 (sG va vb vc vd x y).2.2.2 by rw[nH,JY,JZ,J6,Ka,four]);rw[JY,JZ,J6,Ka]at hM0;clear JY JZ J6 Ka;have HM:=Qh hM0;clear hM0;have n1:(qa:Int)<16:=by have:=zt.la;omega
 have n2:(qb:Int)<16:=by have:=zt.lb;omega
 have n3:(qc:Int)<16:=by have:=zt.lc;omega
 have n4:(qd:Int)<16:=by have:=zt.ld;omega
 clear zt;obtain⟨v0,v1,v2,v3,v4,v5,v6,v7,v8,v9,v10,v11,v12,v13,v14,v15,Cz⟩:=X0i hl;have aZ:row l=#[.int .u32 v0,.int .u32 v1,.int .u32 v2,.int .u32 v3,.int .u32 v4,.int .u32 v5,.int .u32 v6,.int .u32 v7,.int .u32 v8,.int .u32 v9,.int .u32 v10,.int .u32 v11,.int .u32 v12,.int .u32 v13,.int .u32 v14,.int .u32 v15]:=by rw[Cz];rfl
 have Km:=Qh Cz;have mh:=Qh aZ;have sU:=Qh hl;clear Cz aZ hl;rw[mh.O];go_enter Tryz.func204,Tryz.ntmps204
 go_wp2_with fail
 rw[←mh.O];rw[show(#[.int .u32 0,.int .u32 0,.int .u32 0,.int .u32 0,.int .u32 0,.int .u32 0,.int .u32 0,.int .u32 0,.int .u32 0,.int .u32 0,.int .u32 0,.int .u32 0,.int .u32 0,.int .u32 0,.int .u32 0,.int .u32 0]:Array Value)=row (List.replicate 16 0)from rfl];generalize(w.alloc (.cells (row l) 160)).alloc (.cells (row (List.replicate 16 0)) 160)=X at HM ⊢;clear mh Km;have g1:=cell_regrown (HM.O.ca ik.O);have g2:=cell_regrown (HM.O.cb ik.O);refine xQ 11 (by kernel_rfl) (by kernel_rfl) ?_;simp only[List.take_succ_cons,List.take_zero,List.drop_succ_cons,List.drop_zero];repeat(go_big_quiet_step ((fail)))
 refine wpQuiet_nil ?_;intro X1 bg;have nz:Below (X).heap.size (X) X1:=by
  obtain⟨pq,rfl⟩:=bg;exact below_regrown _ _ _
 clear bg;have fT:=HM.O.pass nz;clear g1 g2 nz HM;have HM:=Qh fT;have g1:=fT.ca ik.O;have g2:=fun q=>fT.fr q;clear fT;go_wp2_with fail
 have fT:=HM.O.pa ik.O ((va+vb+x)%4294967296);clear HM g1 g2;obtain⟨a1,Aq⟩:∃a1,(va+vb+x)%4294967296=a1:=⟨_,rfl⟩;rw[Aq]at fT ⊢;have Kz:=Qh Aq;clear Aq;have HM:=Qh fT;clear fT;generalize X1.setCell _ _=X at HM ⊢;have g1:=cell_regrown (HM.O.cd ik.O);have g2:=cell_regrown (HM.O.ca ik.O);refine xQ 10 (by kernel_rfl) (by kernel_rfl) ?_;simp only[List.take_succ_cons,List.take_zero,List.drop_succ_cons,List.drop_zero];repeat(go_big_quiet_step ((exact Calls.regrown_of (TU _ _ _ _ Xyi _))))
 refine wpQuiet_nil ?_;intro X1 bg;have nz:Below (X).heap.size (X) X1:=by
  obtain⟨pq,rfl⟩:=bg;exact below_regrown _ _ _
 clear bg;have fT:=HM.O.pass nz;clear g1 g2 nz HM;have HM:=Qh fT;have g1:=fT.cd ik.O;have g2:=fun q=>fT.fr q;clear fT;go_wp2_with fail
 have fT:=HM.O.pd ik.O (l5 65536 65536 (bits .xor .u32 vd a1));clear HM g1 g2;obtain⟨d1,lM⟩:∃d1,l5 65536 65536 (bits .xor .u32 vd a1)=d1:=⟨_,rfl⟩;rw[lM]at fT ⊢;have GL:=Qh lM;clear lM;have HM:=Qh fT;clear fT;generalize X1.setCell _ _=X at HM ⊢;have g1:=cell_regrown (HM.O.cc ik.O);have g2:=cell_regrown (HM.O.cd ik.O);refine xQ 9 (by kernel_rfl) (by kernel_rfl) ?_;simp only[List.take_succ_cons,List.take_zero,List.drop_succ_cons,List.drop_zero];repeat(go_big_quiet_step ((fail)))
 refine wpQuiet_nil ?_;intro X1 bg;have nz:Below (X).heap.size (X) X1:=by
  obtain⟨pq,rfl⟩:=bg;exact below_regrown _ _ _
 clear bg;have fT:=HM.O.pass nz;clear g1 g2 nz HM;have HM:=Qh fT;have g1:=fT.cc ik.O;have g2:=fun q=>fT.fr q;clear fT;go_wp2_with fail
 have fT:=HM.O.pc ik.O ((vc+d1)%4294967296);clear HM g1 g2;obtain⟨c1,qX⟩:∃c1,(vc+d1)%4294967296=c1:=⟨_,rfl⟩;rw[qX]at fT ⊢;have Jf:=Qh qX;clear qX;have HM:=Qh fT;clear fT;generalize X1.setCell _ _=X at HM ⊢;have g1:=cell_regrown (HM.O.cb ik.O);have g2:=cell_regrown (HM.O.cc ik.O);refine xQ 10 (by kernel_rfl) (by kernel_rfl) ?_;simp only[List.take_succ_cons,List.take_zero,List.drop_succ_cons,List.drop_zero];repeat(go_big_quiet_step ((exact Calls.regrown_of (TU _ _ _ _ Xyj _))))
 refine wpQuiet_nil ?_;intro X1 bg;have nz:Below (X).heap.size (X) X1:=by
  obtain⟨pq,rfl⟩:=bg;exact below_regrown _ _ _
 clear bg;have fT:=HM.O.pass nz;clear g1 g2 nz HM;have HM:=Qh fT;have g1:=fT.cb ik.O;have g2:=fun q=>fT.fr q;clear fT;go_wp2_with fail
 have fT:=HM.O.pb ik.O (l5 4096 1048576 (bits .xor .u32 vb c1));clear HM g1 g2;obtain⟨b1,au⟩:∃b1,l5 4096 1048576 (bits .xor .u32 vb c1)=b1:=⟨_,rfl⟩;rw[au]at fT ⊢;have Dc:=Qh au;clear au;have HM:=Qh fT;clear fT;generalize X1.setCell _ _=X at HM ⊢;have g1:=cell_regrown (HM.O.ca ik.O);have g2:=cell_regrown (HM.O.cb ik.O);refine xQ 11 (by kernel_rfl) (by kernel_rfl) ?_;simp only[List.take_succ_cons,List.take_zero,List.drop_succ_cons,List.drop_zero];repeat(go_big_quiet_step ((fail)))
 refine wpQuiet_nil ?_;intro X1 bg;have nz:Below (X).heap.size (X) X1:=by
  obtain⟨pq,rfl⟩:=bg;exact below_regrown _ _ _
 clear bg;have fT:=HM.O.pass nz;clear g1 g2 nz HM;have HM:=Qh fT;have g1:=fT.ca ik.O;have g2:=fun q=>fT.fr q;clear fT;go_wp2_with fail
 have fT:=HM.O.pa ik.O ((a1+b1+y)%4294967296);clear HM g1 g2;obtain⟨a2,uG⟩:∃a2,(a1+b1+y)%4294967296=a2:=⟨_,rfl⟩;rw[uG]at fT ⊢;have AV:=Qh uG;clear uG;have HM:=Qh fT;clear fT;generalize X1.setCell _ _=X at HM ⊢;have g1:=cell_regrown (HM.O.cd ik.O);have g2:=cell_regrown (HM.O.ca ik.O);refine xQ 10 (by kernel_rfl) (by kernel_rfl) ?_;simp only[List.take_succ_cons,List.take_zero,List.drop_succ_cons,List.drop_zero];repeat(go_big_quiet_step ((exact Calls.regrown_of (TU _ _ _ _ X0a _))))
 refine wpQuiet_nil ?_;intro X1 bg;have nz:Below (X).heap.size (X) X1:=by
  obtain⟨pq,rfl⟩:=bg;exact below_regrown _ _ _
 clear bg;have fT:=HM.O.pass nz;clear g1 g2 nz HM;have HM:=Qh fT;have g1:=fT.cd ik.O;have g2:=fun q=>fT.fr q;clear fT;go_wp2_with fail
 have fT:=HM.O.pd ik.O (l5 256 16777216 (bits .xor .u32 d1 a2));clear HM g1 g2;obtain⟨d2,oP⟩:∃d2,l5 256 16777216 (bits .xor .u32 d1 a2)=d2:=⟨_,rfl⟩;rw[oP]at fT ⊢;have D9:=Qh oP;clear oP;have HM:=Qh fT;clear fT;generalize X1.setCell _ _=X at HM ⊢;have g1:=cell_regrown (HM.O.cc ik.O);have g2:=cell_regrown (HM.O.cd ik.O);refine xQ 9 (by kernel_rfl) (by kernel_rfl) ?_;simp only[List.take_succ_cons,List.take_zero,List.drop_succ_cons,List.drop_zero];repeat(go_big_quiet_step ((fail)))
 refine wpQuiet_nil ?_;intro X1 bg;have nz:Below (X).heap.size (X) X1:=by
  obtain⟨pq,rfl⟩:=bg;exact below_regrown _ _ _
 clear bg;have fT:=HM.O.pass nz;clear g1 g2 nz HM;have HM:=Qh fT;have g1:=fT.cc ik.O;have g2:=fun q=>fT.fr q;clear fT;go_wp2_with fail
 have fT:=HM.O.pc ik.O ((c1+d2)%4294967296);clear HM g1 g2;obtain⟨c2,tH⟩:∃c2,(c1+d2)%4294967296=c2:=⟨_,rfl⟩;rw[tH]at fT ⊢;have Fv:=Qh tH;clear tH;have HM:=Qh fT;clear fT;generalize X1.setCell _ _=X at HM ⊢;have g1:=cell_regrown (HM.O.cb ik.O);have g2:=cell_regrown (HM.O.cc ik.O);refine xQ 10 (by kernel_rfl) (by kernel_rfl) ?_;simp only[List.take_succ_cons,List.take_zero,List.drop_succ_cons,List.drop_zero];repeat(go_big_quiet_step ((exact Calls.regrown_of (TU _ _ _ _ X0b _))))
 refine wpQuiet_nil ?_;intro X1 bg;have nz:Below (X).heap.size (X) X1:=by
  obtain⟨pq,rfl⟩:=bg;exact below_regrown _ _ _
 clear bg;have fT:=HM.O.pass nz;clear g1 g2 nz HM;have HM:=Qh fT;have g1:=fT.cb ik.O;have g2:=fun q=>fT.fr q;clear fT;have fT:=HM.O.pb ik.O (l5 128 33554432 (bits .xor .u32 b1 c2));have iX:nH l qa qb qc qd x y=four l qa qb qc qd a2 (l5 128 33554432 (bits .xor .u32 b1 c2)) c2 d2:=by
  rw[Hm.O];simp only[sG,←Int.add_assoc,Kz.O,GL.O,Jf.O,Dc.O,AV.O,D9.O,Fv.O]
 clear Kz GL Jf Dc AV D9 Fv Hm;have h0:=fT.mW;have h1:=fT.zero;have jY:=fT.below;have hlen:(four l qa qb qc qd a2 (l5 128 33554432 (bits .xor .u32 b1 c2)) c2 d2).length=16:=by rw[Xit,sU.O]
 generalize four l qa qb qc qd a2 (l5 128 33554432 (bits .xor .u32 b1 c2)) c2 d2=F at h0 hlen iX;have nM:=Qh iX;clear iX;clear fT HM;have zQ:(Tryz.prog.info? 160).map (·.size)=some (row F).size:=by rw[bI,hlen];kernel_rfl
 have XP:(row (List.replicate 16 0)).size=(row F).size:=by rw[bI,bI,hlen];rfl
 have XQ:(row F).all (·.oneCell')=true:=by simp[row,Value.oneCell']
 clear hlen
 go_wp2_with (first
  |(refine wpList_load_row rfl 160 _ rfl w.heap.size rfl 160 (row F) (0,0) _ h0 Tryz.underlying160 rfl zQ ?_)
  |(refine wpList_store_row rfl 160 _ _ rfl (w.heap.size+1) (row F) rfl rfl 160 (row (List.replicate 16 0)) h1 zQ XP XQ ?_))
 refine bodyPost_ret (results_cell_row rfl _ _ (w.heap.size+1) _ (row F) (0,0) _ rfl (setRow_heap _ _ _ _ _ _ h1) Tryz.underlying160 rfl zQ) rfl ⟨by rw[nM.O],below_setRow jY (by omega) _⟩
theorem Xhs(a b c:Int):bits .xor .u32 (bits .xor .u32 a b) c=bits .xor .u32 a (bits .xor .u32 b c):=by
 have hr:∀x:BitVec 32,BitVec.ofInt 32 (x.toNat:Int)=x:=fun x=>by
  apply BitVec.eq_of_toNat_eq;simp
 have hb:∀x y:Int,bits .xor .u32 x y=((BitVec.ofInt 32 x^^^BitVec.ofInt 32 y).toNat:Int):=fun x y=>by
  have:=(BitVec.ofInt 32 x^^^BitVec.ofInt 32 y).isLt;simp only[bits,IntKind.wrap,IntKind.bits,IntKind.signed];exact Int.emod_eq_of_lt (by omega) (by omega)
 rw[hb,hb a b,hb a,hb b c,hr,hr,BitVec.xor_assoc]
theorem Xs8(a:Int)(h0:0≤a)(h1:a<4294967296):bits .or .u32 0 a=a:=by
 have hb:bits .or .u32 0 a=((BitVec.ofInt 32 0 ||| BitVec.ofInt 32 a).toNat:Int):=by
  have:=(BitVec.ofInt 32 0 ||| BitVec.ofInt 32 a).isLt;simp only[bits,IntKind.wrap,IntKind.bits,IntKind.signed];exact Int.emod_eq_of_lt (by omega) (by omega)
 rw[hb];simp;omega
def pW(s:ae)(j:Nat):Nat→Int
 |0=>0
 |1=>kX s (4*j)
 |2=>bits .or .u32 (kX s (4*j)) (kX s (4*j+1)*256%4294967296)
 |3=>bits .or .u32 (bits .or .u32 (kX s (4*j)) (kX s (4*j+1)*256%4294967296)) (kX s (4*j+2)*65536%4294967296)
 |_=>q9 s j
def oL(s:ae)(k:Nat):List Int:=(List.range 16).map fun j=>pW s j (k-4*j)
theorem Xn7(s:ae)(k:Nat):(oL s k).length=16:=by simp[oL]
theorem Xss(s:ae):oL s 0=List.replicate 16 0:=by
 simp[oL,pW,List.map_const']
theorem XR(s:ae)(j n:Nat)(h:4≤n):pW s j n=q9 s j:=by
 match n,h with
 |n+4,_=>rfl
theorem Xwa(s:ae):oL s 64=words s:=by
 apply List.map_congr_left;intro j hj;have:=List.mem_range.1 hj;exact XR s j _ (by omega)
theorem Xym(s:ae)(q r:Nat)(hq:q<16)(_hr:r<4):(oL s (4*q+r)).getD q 0=pW s q r:=by
 simp[oL,List.getD,hq]
theorem Xst(s:ae)(q r:Nat)(_hq:q<16)(hr:r<4):(oL s (4*q+r)).set q (pW s q (r+1))=oL s (4*q+r+1):=by
 apply List.ext_getElem
 ·simp[oL]
 ·intro j h1 h2;simp only[oL,List.getElem_set,List.getElem_map,List.getElem_range];by_cases h:q=j
  ·subst h;rw[if_pos rfl,show 4*q+r+1-4*q=r+1 by omega]
  ·rw[if_neg h];rcases Nat.lt_or_ge j q with hj|hj
   ·rw[XR s j _ (by omega),XR s j _ (by omega)]
   ·rw[show 4*q+r-4*j=0 by omega,show 4*q+r+1-4*j=0 by omega]
theorem Xi9(s:ae)(i:Nat):0≤kX s i∧kX s i<4294967296:=by unfold kX;omega
theorem TV(s:ae)(k:Nat)(h:k<s.length):(s[k].toNat:Int)%4294967296=kX s k:=by simp[kX,h]
theorem XT(s:ae)(q k:Nat)(hk:k=4*q+0)(h:k<s.length):bits .or .u32 (pW s q 0) ((s[k].toNat:Int)%4294967296)=pW s q 1:=by
 rw[TV s k h,hk];exact Xs8 _ (Xi9 _ _).1 (Xi9 _ _).2
theorem XU(s:ae)(q k:Nat)(hk:k=4*q+1)(h:k<s.length):bits .or .u32 (pW s q 1) ((s[k].toNat:Int)%4294967296*256%4294967296)=pW s q 2:=by
 rw[TV s k h,hk];rfl
theorem XV(s:ae)(q k:Nat)(hk:k=4*q+2)(h:k<s.length):bits .or .u32 (pW s q 2) ((s[k].toNat:Int)%4294967296*65536%4294967296)=pW s q 3:=by
 rw[TV s k h,hk];rfl
theorem XW(s:ae)(q k:Nat)(hk:k=4*q+3)(h:k<s.length):bits .or .u32 (pW s q 3) ((s[k].toNat:Int)%4294967296*16777216%4294967296)=pW s q 4:=by
 rw[TV s k h,hk];rfl
def mG(hs:List Int)(k:Nat):List Int:=(List.range 16).map fun j=>if j<8 then(if j<k then hs.getD j 0 else 0)else(if j-8<k then eP.getD (j-8) 0 else 0)
theorem Xgr(hs:List Int)(k:Nat):(mG hs k).length=16:=by simp[mG]
theorem Xqy(hs:List Int):mG hs 0=List.replicate 16 0:=by simp[mG,List.map_const']
theorem Xqz(hs:List Int)(k:Nat)(hk:k<8):((mG hs k).set k (hs.getD k 0)).set (k+8) (eP.getD k 0)=mG hs (k+1):=by
 apply List.ext_getElem
 ·simp[mG]
 ·intro j h1 h2;simp only[mG,List.getElem_set,List.getElem_map,List.getElem_range];by_cases h:k+8=j
  ·subst h;rw[if_pos rfl,if_neg (by omega),if_pos (by omega),show k+8-8=k by omega]
  ·rw[if_neg h];by_cases h':k=j
   ·subst h';rw[if_pos rfl,if_pos hk,if_pos (by omega)]
   ·rw[if_neg h'];by_cases hj:j<8
    ·rw[if_pos hj,if_pos hj];by_cases Jz:j<k
     ·rw[if_pos Jz,if_pos (by omega)]
     ·rw[if_neg Jz,if_neg (by omega)]
    ·rw[if_neg hj,if_neg hj];by_cases Jz:j-8<k
     ·rw[if_pos Jz,if_pos (by omega)]
     ·rw[if_neg Jz,if_neg (by omega)]
theorem Xr9(hs:List Int)(h:hs.length=8):mG hs 8=hs++eP:=by
 obtain⟨a,b,c,d,e,f,g,i,rfl⟩:=Kb h;rfl
def Ea:List ae:=[[48,49,50,51,52,53,54,55,56,57,97,98,99,100,101,102],[101,97,52,56,57,102,100,54,49,99,48,50,98,55,53,51],[98,56,99,48,53,50,102,100,97,101,51,54,55,49,57,52],[55,57,51,49,100,99,98,101,50,54,53,97,52,48,102,56],[57,48,53,55,50,52,97,102,101,49,98,99,54,56,51,100],[50,99,54,97,48,98,56,51,52,100,55,53,102,101,49,57],[99,53,49,102,101,100,52,97,48,55,54,51,57,50,56,98],[100,98,55,101,99,49,51,57,53,48,102,52,56,54,50,97],[54,102,101,57,98,51,48,56,99,50,100,55,49,52,97,53],[97,50,56,52,55,54,49,53,102,98,57,101,51,99,100,48]]
def mZ(r:Nat):ae:=Ea.getD r []
def rF(c:Nat):Nat:=if 97≤c then c-87 else c-48
theorem Xe6(r:Nat)(h:r<10):(mZ r).length=16:=by revert r;decide
theorem Xnj(r i:Nat)(hr:r<10)(hi:i<16):rF ((mZ r).getD i 0).toNat=iN r i∧48≤((mZ r).getD i 0).toNat∧((mZ r).getD i 0).toNat≤102:=by
 revert i;revert r;decide
theorem Xde(r:Nat)(hr:r<10)(w:World):Calls Tryz.prog 202 #[.int .i64 r] w fun e w'=>e= .returned (S (mZ r))∧Below w.heap.size w w':=by
 match r,hr with
 |0,_=>go_enter Tryz.func202,Tryz.ntmps202;go_wp2;go_ret;exact⟨rfl,Qb _ _⟩
 |1,_=>go_enter Tryz.func202,Tryz.ntmps202;go_wp2;go_ret;exact⟨rfl,Qb _ _⟩
 |2,_=>go_enter Tryz.func202,Tryz.ntmps202;go_wp2;go_ret;exact⟨rfl,Qb _ _⟩
 |3,_=>go_enter Tryz.func202,Tryz.ntmps202;go_wp2;go_ret;exact⟨rfl,Qb _ _⟩
 |4,_=>go_enter Tryz.func202,Tryz.ntmps202;go_wp2;go_ret;exact⟨rfl,Qb _ _⟩
 |5,_=>go_enter Tryz.func202,Tryz.ntmps202;go_wp2;go_ret;exact⟨rfl,Qb _ _⟩
 |6,_=>go_enter Tryz.func202,Tryz.ntmps202;go_wp2;go_ret;exact⟨rfl,Qb _ _⟩
 |7,_=>go_enter Tryz.func202,Tryz.ntmps202;go_wp2;go_ret;exact⟨rfl,Qb _ _⟩
 |8,_=>go_enter Tryz.func202,Tryz.ntmps202;go_wp2;go_ret;exact⟨rfl,Qb _ _⟩
 |9,_=>go_enter Tryz.func202,Tryz.ntmps202;go_wp2;go_ret;exact⟨rfl,Qb _ _⟩
theorem TW(c:Nat)(h0:48≤c)(h1:c≤102)(w:World):Calls Tryz.prog 205 #[.int .u8 c] w fun e w'=>e= .returned (.int .i64 (rF c:Nat))∧Below w.heap.size w w':=by
 have uF:IntKind.i64.wrap (c:Int)=c:=IntWalk.i64_in _ (by omega);by_cases h:97≤c
 ·have hd:decide (97≤(c:Int))=true:=by simp;omega
  have Hp:=Qh (show(rF c:Int)=(c:Int)-87 by rw[rF,if_pos h];omega);go_enter Tryz.func205,Tryz.ntmps205
  go_wp2;go_ret;exact⟨bT Hp.O.symm,Qb _ _⟩
 ·have hd:decide (97≤(c:Int))=false:=by simp;omega
  have Hp:=Qh (show(rF c:Int)=(c:Int)-48 by rw[rF,if_neg h];omega);go_enter Tryz.func205,Tryz.ntmps205
  go_wp2;go_ret;exact⟨bT Hp.O.symm,Qb _ _⟩
theorem Xft(w:World):Calls Tryz.prog 139 #[] w fun e w'=>e= .returned (.agg (row eP))∧Below w.heap.size w w':=by
 go_enter Tryz.func139,Tryz.ntmps139
 go_wp2;refine bodyPost_ret (results_cell_row rfl _ _ w.heap.size _ (row eP) (0,0) _ rfl (heap_alloc_new w (.cells (row eP) 111)) Tryz.underlying111 rfl (by kernel_rfl)) rfl ⟨rfl,?_⟩;exact(Qb _ _).alloc (Qn _) _
def AY:Array Value:=#[.int .i64 0,.int .i64 0,.int .i64 0,.int .i64 0]
theorem Xrc(k:Nat)(h:k<4):iC k=(k,k+4,k+8,k+12):=by revert k;decide
theorem Xrd(k:Nat)(h:k<4):iC (k+4)=(k,4+(k+1)%4,8+(k+2)%4,12+(k+3)%4):=by revert k;decide
theorem Xfs(k:Nat)(hk:k<8)(w:World):Calls Tryz.prog 203 #[.int .i64 k] w fun e w'=>e= .returned (AJ (iC k))∧Below w.heap.size w w':=by
 by_cases h:k<4
 ·have Hq:=Qh (Xrc k h);have hz:=heap_alloc_new w (.cells AY 164);have LZ:(Tryz.prog.info? 164).map (·.size)=some (#[.int .i64 k,.int .i64 ((k:Int)+4),.int .i64 ((k:Int)+8),.int .i64 ((k:Int)+12)]:Array Value).size:=by kernel_rfl
  have XX:(#[.int .i64 k,.int .i64 ((k:Int)+4),.int .i64 ((k:Int)+8),.int .i64 ((k:Int)+12)]:Array Value).all (·.oneCell')=true:=by simp[Value.oneCell']
  go_enter Tryz.func203,Tryz.ntmps203
  go_wp2_with (refine wpList_store_row rfl 164 _ _ rfl w.heap.size #[.int .i64 k,.int .i64 ((k:Int)+4),.int .i64 ((k:Int)+8),.int .i64 ((k:Int)+12)] rfl rfl 164 AY hz LZ rfl XX ?_)
  refine bodyPost_ret (results_cell_row rfl _ _ w.heap.size _ #[.int .i64 k,.int .i64 ((k:Int)+4),.int .i64 ((k:Int)+8),.int .i64 ((k:Int)+12)] (0,0) _ rfl (setRow_heap _ _ _ _ _ _ hz) Tryz.underlying164 rfl LZ) rfl ⟨by rw[Hq.O];rfl,below_setRow ((Qb _ _).alloc (Qn _) _) (Qn _) _⟩
 ·obtain⟨q,rfl⟩:∃q,k=q+4:=⟨k-4,by omega⟩;have Hq:=Qh (Xrd q (by omega));have hz:=heap_alloc_new w (.cells AY 164);have hs:((q+4:Nat):Int)=(q:Int)+4:=by omega
  rw[hs];clear hs;have LZ:(Tryz.prog.info? 164).map (·.size)=some (#[.int .i64 q,.int .i64 (4+((q:Int)+1)%4),.int .i64 (8+((q:Int)+2)%4),.int .i64 (12+((q:Int)+3)%4)]:Array Value).size:=by kernel_rfl
  have XX:(#[.int .i64 q,.int .i64 (4+((q:Int)+1)%4),.int .i64 (8+((q:Int)+2)%4),.int .i64 (12+((q:Int)+3)%4)]:Array Value).all (·.oneCell')=true:=by simp[Value.oneCell']
  go_enter Tryz.func203,Tryz.ntmps203
  go_wp2_with (refine wpList_store_row rfl 164 _ _ rfl w.heap.size #[.int .i64 q,.int .i64 (4+((q:Int)+1)%4),.int .i64 (8+((q:Int)+2)%4),.int .i64 (12+((q:Int)+3)%4)] rfl rfl 164 AY hz LZ rfl XX ?_)
  refine bodyPost_ret (results_cell_row rfl _ _ w.heap.size _ #[.int .i64 q,.int .i64 (4+((q:Int)+1)%4),.int .i64 (8+((q:Int)+2)%4),.int .i64 (12+((q:Int)+3)%4)] (0,0) _ rfl (setRow_heap _ _ _ _ _ _ hz) Tryz.underlying164 rfl LZ) rfl ⟨by rw[Hq.O];rfl,below_setRow ((Qb _ _).alloc (Qn _) _) (Qn _) _⟩
