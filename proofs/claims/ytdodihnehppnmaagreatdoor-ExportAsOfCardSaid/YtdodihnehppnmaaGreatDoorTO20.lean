/-
  Walks and laws that the claim's theorem uses: texts CkO CkP ExP EeB SeA SeB Trj HiQ HiR BmR BmT, joined; comments out. Conditions: as each theorem says.
-/
import Derived.Test.YtdodihnehppnmaaGreatDoorTO13
set_option linter.all false
namespace Go.Proofs.YtdodihnehppnmaaGreatDoor
def ckH (h:Nat) (b:UInt8):Nat:=(2*h+40503*(b.toNat+1))%65536
def firstG:Bytes→Nat→Nat→Nat
 | [],i,_=>i
 |b::r,i,h=>if i+1=96∨(16≤i+1∧ckH h b<2048) then i+1 else firstG r (i+1) (ckH h b)
def firstP (s:Bytes):Nat:=firstG s 0 0
def chunksF:Nat→Bytes→List Bytes
 |0,_=> []
 |n+1,s=>if s= [] then [] else s.take (firstP s)::chunksF n (s.drop (firstP s))
def chunksP (s:Bytes):List Bytes:=chunksF s.length s
structure Sg where
 n:Int
 d:Bytes
def zerosP:Bytes→Nat
 | []=>0
 |b::r=>if b=0 then zerosP r+1 else 0
def dataG (d:Bytes):List Sg:=if d= [] then [] else [⟨0,d⟩]
def segG:Nat→Bytes→Bytes→List Sg
 |0,acc,_=>dataG acc
 |f+1,acc,r=>
  if r= [] then dataG acc
  else if 32≤zerosP r then dataG acc++⟨(zerosP r:Nat),[]⟩::segG f [] (r.drop (zerosP r))
  else segG f (acc++r.take (max (zerosP r) 1)) (r.drop (max (zerosP r) 1))
def segR (acc r:Bytes):List Sg:=segG r.length acc r
def segsP (s:Bytes):List Sg:=segR [] s
def segSz (l:List Sg):Nat:=(l.map fun g=>g.n.toNat+g.d.length).sum
end Go.Proofs.YtdodihnehppnmaaGreatDoor
namespace Go.Proofs.YtdodihnehppnmaaGreatDoor
structure Ck where
 d:Bytes
 x:Xt
structure Sto where
 cks:List Ck
 ses:Int
 str:Bytes
def findX:List Ck→Bytes→Option Xt
 | [],_=>none
 |c::l,d=>if c.d=d then some c.x else findX l d
def addX (l:List Xt) (x:Xt):List Xt:=
 match l.getLast? with
 |none=> [x]
 |some y=>if x.s≠0∧y.s=x.s∧y.o+y.n=x.o then l.dropLast++ [⟨y.s,y.o,y.n+x.n⟩] else l++ [x]
def newX (S:Sto) (c:Bytes):Xt:=⟨S.ses,(S.str.length:Nat),(c.length:Nat)⟩
def putC (S:Sto) (c:Bytes):Sto × Xt:=
 match findX S.cks (sumP c) with
 |some x=>(S,x)
 |none=>(⟨S.cks++ [⟨sumP c,newX S c⟩],S.ses,S.str++c⟩,newX S c)
def putO (p:Sto × List Xt) (c:Bytes):Sto × List Xt:=((putC p.1 c).1,addX p.2 (putC p.1 c).2)
def putG (p:Sto × List Xt) (g:Sg):Sto × List Xt:=if g.d= [] then (p.1,addX p.2 ⟨0,0,g.n⟩) else (chunksP g.d).foldl putO p
def putP (S:Sto) (c:Bytes):Sto × List Xt × Int:=
 if S.ses<1∨255<S.ses then (S,[],1) else if 65536<c.length then (S,[],6)
 else (((segsP c).foldl putG (S,[])).1,((segsP c).foldl putG (S,[])).2,0)
def beginP (S:Sto) (n:Int):Sto × Int:=if n<1∨255<n then (S,2) else if n≤S.ses then (S,14) else (⟨S.cks,n,[]⟩,0)
def gBad (st:List Bytes) (x:Xt):Bool:=decide (x.n<0) || decide (x.o<0) || decide (x.s<0) || decide ((st.length:Int)<x.s) || (x.s==0&&x.o != 0)
def strAtP (st:List Bytes) (x:Xt):Bytes:=st.getD (x.s-1).toNat []
def getG (st:List Bytes):List Xt→Bytes→Bytes × Int
 | [],out=>(out,0)
 |x::r,out=>
  if gBad st x=true then ([],2)
  else if 0<x.s∧(((strAtP st x).length:Int)<x.o∨((strAtP st x).length:Int)-x.o<x.n) then ([],2)
  else if 65536-(out.length:Int)<x.n then ([],6)
  else getG st r (out++if x.s=0 then List.replicate x.n.toNat 0 else ((strAtP st x).drop x.o.toNat).take x.n.toNat)
def getP (st:List Bytes) (l:List Xt):Bytes × Int:=getG st l []
end Go.Proofs.YtdodihnehppnmaaGreatDoor
namespace Go.Proofs.YtdodihnehppnmaaGreatDoor
theorem Xb2 {s x y r:Bytes} {a:Nat} (hs:s=x++(netP y++r)) (ha:a=x.length):rdStr s a= .ok (y,a+(netP y).length):=by
 subst hs;subst ha;exact Xra x y r
theorem Xed {s x r:Bytes} {a:Nat} {n:Int} (h0: -2147483648≤n) (h1:n≤2147483647) (hs:s=x++(numP n++r)) (ha:a=x.length):rdNum s a= .ok (n,a+(numP n).length):=by
 subst hs;subst ha;exact Xrc x r n h0 h1
theorem Xok {s x r:Bytes} {a:Nat} {n most:Int} (h0:0≤n) (h1:n≤most) (h2:most≤2147483647) (hs:s=x++(numP n++r)) (ha:a=x.length):rdCnt most s a= .ok (n,a+(numP n).length):=by
 rw [rdCnt,Xed (by omega) (by omega) hs ha,Rb_ok,if_neg (by show ¬(n<0∨most<n);omega)]
def XtR (y:Xt):Prop:=(-2147483648≤y.s∧y.s≤2147483647)∧(-2147483648≤y.o∧y.o≤2147483647)∧(-2147483648≤y.n∧y.n≤2147483647)
theorem Xoi:∀(l:List Xt) (s x r:Bytes) (a:Nat) (acc:List Xt),(∀y∈l,XtR y)→s=x++(xtP l++r)→a=x.length→rdXts s l.length a acc= .ok (acc++l,a+(xtP l).length)
 | [],s,x,r,a,acc,_,_,_=>by simp [rdXts,xtP]
 |y::l,s,x,r,a,acc,h,hs,ha=>by
  obtain ⟨⟨a1,a2⟩,⟨b1,b2⟩,c1,c2⟩:=h y (by simp)
  have e:xtP (y::l)=numP y.s++(numP y.o++(numP y.n++xtP l)):=by simp [xtP]
  rw [e] at hs ⊢
  rw [List.length_cons,rdXts,Xed a1 a2 (by rw [hs];simp [List.append_assoc];rfl) ha,Rb_ok,
   Xed (x:=x++numP y.s) b1 b2 (by rw [hs];simp [List.append_assoc];rfl) (by rw [ha];simp),Rb_ok,
   Xed (x:=x++numP y.s++numP y.o) c1 c2 (by rw [hs];simp [List.append_assoc];rfl) (by rw [ha];simp [Nat.add_assoc]),Rb_ok,
   Xoi l s (x++numP y.s++numP y.o++numP y.n) r _ _ (fun z hz=>h z (by simp [hz])) (by rw [hs];simp [List.append_assoc]) (by rw [ha];simp [Nat.add_assoc])]
  simp [Nat.add_assoc]
theorem Xol:∀(l:List At) (s x r:Bytes) (a:Nat) (acc:List At),s=x++((l.flatMap fun a=>netP a.k++netP a.v)++r)→a=x.length→rdAts s l.length a acc= .ok (acc++l,a+(l.flatMap fun a=>netP a.k++netP a.v).length)
 | [],s,x,r,a,acc,_,_=>by simp [rdAts]
 |y::l,s,x,r,a,acc,hs,ha=>by
  have e:((y::l).flatMap fun a=>netP a.k++netP a.v)=netP y.k++(netP y.v++l.flatMap fun a=>netP a.k++netP a.v):=by simp
  rw [e] at hs ⊢
  rw [List.length_cons,rdAts,Xb2 (x:=x) (y:=y.k) (by rw [hs];simp [List.append_assoc];rfl) ha,Rb_ok,
   Xb2 (x:=x++netP y.k) (y:=y.v) (by rw [hs];simp [List.append_assoc];rfl) (by rw [ha];simp),Rb_ok,
   Xol l s (x++netP y.k++netP y.v) r _ _ (by rw [hs];simp [List.append_assoc]) (by rw [ha];simp [Nat.add_assoc])]
  simp [Nat.add_assoc]
def entT (h:Bytes) (z:Int) (dg:Bytes) (l:List Xt):Bytes:=netP h++(numP z++(netP dg++(numP l.length++xtP l)))
theorem Xoj (h:Bytes) (z:Int) (dg:Bytes) (l:List Xt) (hz0: -2147483648≤z) (hz1:z≤2147483647) (hl:l.length≤65536) (hx:∀y∈l,XtR y):
 rdEnt (entT h z dg l) 0=Rb (rdHead h) fun e=>entEnd (entOn e z dg l) (entT h z dg l).length:=by
 have hs:entT h z dg l= []++(netP h++(numP z++(netP dg++(numP l.length++(xtP l++ []))))):=by simp [entT]
 have hlen:(entT h z dg l).length=(netP h).length+((numP z).length+((netP dg).length+((numP l.length).length+(xtP l).length))):=by simp [entT]
 rw [rdEnt,Xb2 (x:= []) (y:=h) (a:=0) hs rfl,Rb_ok]
 congr 1
 funext e
 rw [Xed (x:=netP h) hz0 hz1 (by rw [hs];simp;rfl) (by simp),Rb_ok,
  Xb2 (x:=netP h++numP z) (y:=dg) (by rw [hs];simp;rfl) (by simp),Rb_ok,
  Xok (x:=netP h++numP z++netP dg) (n:=l.length) (most:=65536) (by omega) (by omega) (by omega) (by rw [hs];simp;rfl) (by simp [Nat.add_assoc]),Rb_ok]
 dsimp only
 rw [Int.toNat_natCast,Xoi l _ (netP h++numP z++netP dg++numP l.length) [] _ _ hx (by rw [hs];simp) (by simp [Nat.add_assoc]),Rb_ok,hlen]
 simp [Nat.add_assoc]
theorem Xre {e:Ent} (hk1:1≤e.kind) (hk6:e.kind≤6) (hl:e.attrs.length≤400):rdHead (headE e)= .ok (entOn e 0 [] []):=by
 have hk:kindOf (nameP e.kind)=e.kind:=by
  have:e.kind=1∨e.kind=2∨e.kind=3∨e.kind=4∨e.kind=5∨e.kind=6:=by omega
  rcases this with k|k|k|k|k|k<;>rw [k]<;>decide
 have hs:headE e= []++(netP (nameP e.kind)++(netP e.path++(numP e.attrs.length++((e.attrs.flatMap fun a=>netP a.k++netP a.v)++(netP e.target++ []))))):=by simp [headE,attP]
 have hlen:(headE e).length=(netP (nameP e.kind)).length+((netP e.path).length+((numP e.attrs.length).length+((e.attrs.flatMap fun a=>netP a.k++netP a.v).length+(netP e.target).length))):=by rw [hs];simp
 rw [rdHead,Xb2 (x:= []) (y:=nameP e.kind) (a:=0) hs rfl,Rb_ok]
 dsimp only
 rw [if_neg (by rw [hk];omega),Xb2 (x:=netP (nameP e.kind)) (y:=e.path) (by rw [hs];simp;rfl) (by simp),Rb_ok,
  Xok (x:=netP (nameP e.kind)++netP e.path) (n:=e.attrs.length) (most:=400) (by omega) (by omega) (by omega) (by rw [hs];simp;rfl) (by simp),Rb_ok]
 dsimp only
 rw [Int.toNat_natCast,Xol e.attrs _ (netP (nameP e.kind)++netP e.path++numP e.attrs.length) (netP e.target) _ _ (by rw [hs];simp) (by simp [Nat.add_assoc]),Rb_ok,
  Xb2 (x:=netP (nameP e.kind)++netP e.path++numP e.attrs.length++e.attrs.flatMap fun a=>netP a.k++netP a.v) (y:=e.target) (r:= []) (by rw [hs];simp) (by simp [Nat.add_assoc]),Rb_ok]
 dsimp only
 rw [if_neg (by rw [hlen];simp [Nat.add_assoc])]
 simp [hdOf,entOn,hk]
theorem Xr2 {h:Bytes} {e:Ent} (he:rdHead h= .ok e):e.size=0∧e.digest= []∧e.exts= []∧1≤e.kind∧e.kind≤6∧ ∃nm a,rdStr h 0= .ok (nm,a)∧kindOf nm=e.kind:=by
 unfold rdHead at he
 cases h1:rdStr h 0 with
 |error x=>rw [h1] at he;cases he
 |ok nm=>
  rw [h1,Rb_ok] at he
  by_cases hk:kindOf nm.1=0
  ·rw [if_pos hk] at he;cases he
  rw [if_neg hk] at he
  cases h2:rdStr h nm.2 with
  |error x=>rw [h2] at he;cases he
  |ok p=>
   rw [h2,Rb_ok] at he
   cases h3:rdCnt 400 h p.2 with
   |error x=>rw [h3] at he;cases he
   |ok n=>
    rw [h3,Rb_ok] at he
    cases h4:rdAts h n.1.toNat n.2 [] with
    |error x=>rw [h4] at he;cases he
    |ok l=>
     rw [h4,Rb_ok] at he
     cases h5:rdStr h l.2 with
     |error x=>rw [h5] at he;cases he
     |ok t=>
      rw [h5,Rb_ok] at he
      split at he
      ·cases he
      ·injection he with he
       subst he
       refine ⟨rfl,rfl,rfl,?_,?_,nm.1,nm.2,(by first|rfl|rw [h1]),rfl⟩
       ·show 1≤kindOf nm.1
        revert hk
        unfold kindOf
        repeat' split
        all_goals omega
       ·show kindOf nm.1≤6
        unfold kindOf
        repeat' split
        all_goals omega
theorem Xv1 {t:Bytes} (h:natOk t=true):Lib.decDigits (digN 0 t)=t:=by
 have h':=h
 unfold natOk at h'
 simp only [Bool.and_eq_true,Bool.or_eq_true] at h'
 refine Xpb t.length t rfl (by have:=h'.1.1;cases t<;>simp_all) h'.1.2 ?_
 rcases h'.2 with k|k
 ·exact .inl (by simpa using k)
 ·exact .inr (by simpa using k)
theorem Xpq {s:Bytes} {a:Nat} {c:UInt8} (h:a+(upTo s a c).length<s.length):s.drop a=upTo s a c++c::s.drop (a+(upTo s a c).length+1):=by
 have key:∀(l:Bytes),(l.takeWhile (fun x=>x != c)).length<l.length→l=l.takeWhile (fun x=>x != c)++c::l.drop ((l.takeWhile (fun x=>x != c)).length+1):=by
  intro l
  induction l with
  |nil=>intro h;simp at h
  |cons x l ih=>
   intro h
   rw [List.takeWhile_cons] at h ⊢
   by_cases hx:x=c
   ·subst hx
    simp
   ·rw [if_pos (by simpa using hx)] at h ⊢
    have:=ih (by simpa using h)
    rw [List.cons_append,List.length_cons,List.drop_succ_cons,←this]
 have:=key (s.drop a) (by show (upTo s a c).length<_;rw [List.length_drop];omega)
 rw [List.drop_drop] at this
 rw [Nat.add_assoc]
 exact this
theorem Xrb {s x:Bytes} {a n:Nat} (h:rdStr s a= .ok (x,n)):s.drop a=netP x++s.drop n:=by
 unfold rdStr at h
 cases hu:rdUntil s a 58 with
 |error e=>rw [hu] at h;cases h
 |ok p=>
  obtain ⟨t,m⟩:=p
  rw [hu,Rb_ok] at h
  obtain ⟨q1,q2,q3,q4,q5⟩:=Xcm hu
  have hsp:=Xpq (s:=s) (a:=a) (c:=58) (by rw [←q4];omega)
  rw [←q4,←q5] at hsp
  unfold strOf at h
  split at h
  ·cases h
  ·rename_i k1
   split at h
   ·cases h
   ·rename_i k2
    split at h
    ·cases h
    ·rename_i k3
     injection h with h
     injection h with h1 h2
     dsimp only at*
     have k1:natOk t=true:=by simpa using k1
     have hd:=Xv1 k1
     have hxl:x.length=digN 0 t:=by rw [←h1,List.length_take,List.length_drop];omega
     have hlt:m+digN 0 t<s.length:=by omega
     have hn:s.getD (m+digN 0 t) 0=44:=by simpa using k3
     have h44:(s.drop m).drop (digN 0 t)=44::s.drop n:=by
      rw [List.drop_drop,List.drop_eq_getElem_cons hlt,←h2]
      congr 1
      rw [List.getD_eq_getElem?_getD,List.getElem?_eq_getElem hlt] at hn
      simpa using hn
     have hm:s.drop m=x++44::s.drop n:=by
      rw [←h44,←h1]
      exact (List.take_append_drop _ _).symm
     rw [hsp,hm]
     simp [netP,Lib.itoa,hxl,hd]
def zE:Ent:=⟨0,[],[],[],0,[],[]⟩
def noneT (h:Bytes):Bytes:=entT h 0 [] []
def fileX (k:Int) (c:Bytes):List Xt:=if c= [] then [] else [⟨k,0,(c.length:Nat)⟩]
def fileT (k:Int) (h c:Bytes):Bytes:=entT h (c.length:Nat) (sumP c) (fileX k c)
def entOf (h c:Bytes):Ent × Bool:=
 match rdEnt (noneT h) 0 with
 | .ok p=>(p.1,c.isEmpty&&(p.1.kind==2 || p.1.kind==3))
 | .error _=>if 65536<c.length then (zE,false) else match rdEnt (fileT 0 h c) 0 with
   | .ok p=>(p.1,p.1.kind==1)
   | .error _=>(zE,false)
def isFile (h:Bytes):Bool:=decide (7≤h.length)&&h.take 7== [52,58,102,105,108,101,44]
def decP (h c:Bytes):Ent × Bool:=
 if isFile h=false∧c≠ [] then (zE,false) else match rdEnt (if isFile h=true then fileT 1 h c else noneT h) 0 with
  | .ok p=>(p.1,p.1.kind==1 || p.1.kind==2 || p.1.kind==3)
  | .error _=>(zE,false)
theorem Xo5 (k:Int) (hk:k=0∨k=1) (c:Bytes) (hc:c.length≤100000000):(fileX k c).length≤65536∧ ∀y∈fileX k c,XtR y:=by
 unfold fileX
 split
 ·simp
 ·refine ⟨by simp,fun y hy=> ?_⟩
  rw [List.mem_singleton] at hy
  subst hy
  unfold XtR
  dsimp only
  omega
theorem Xcd (h:Bytes):rdEnt (noneT h) 0=Rb (rdHead h) fun e=>entEnd (entOn e 0 [] []) (noneT h).length:=
 Xoj h 0 [] [] (by omega) (by omega) (by simp) (by simp)
theorem Xce (k:Int) (hk:k=0∨k=1) (h c:Bytes) (hc:c.length≤100000000):rdEnt (fileT k h c) 0=Rb (rdHead h) fun e=>entEnd (entOn e (c.length:Nat) (sumP c) (fileX k c)) (fileT k h c).length:=
 Xoj h _ _ _ (by omega) (by omega) (Xo5 k hk c hc).1 (Xo5 k hk c hc).2
theorem Xdq {e:Ent} (h:entErr e=0) (hk:e.kind=1):e.digest.length=32∧e.size≤65536:=by
 unfold entErr at h
 split at h
 ·omega
 split at h
 ·contradiction
 split at h
 ·omega
 split at h
 ·contradiction
 split at h
 ·omega
 split at h
 ·omega
 rename_i k1
 split at h
 ·omega
 rename_i k2
 constructor<;>omega
theorem Xny (e:Ent) (c:Bytes) (d:Bytes):entErr (entOn e (c.length:Nat) d (fileX 0 c))=entErr (entOn e (c.length:Nat) d (fileX 1 c)):=by
 have h1:xtsErr (e.kind==1) (fileX 0 c)=xtsErr (e.kind==1) (fileX 1 c):=by
  unfold fileX
  split
  ·rfl
  ·simp [xtsErr,xtBad]
 have h2:xtSum (fileX 0 c)=xtSum (fileX 1 c):=by
  unfold fileX
  split
  ·rfl
  ·simp [xtSum]
 unfold entErr entOn
 dsimp only
 rw [h1,h2]
 rfl
theorem Xlw {h:Bytes} {e:Ent} (he:rdHead h= .ok e):isFile h=(e.kind==1):=by
 obtain ⟨_,_,_,_,_,nm,a,hr,hk⟩:=Xr2 he
 rw [←hk]
 have hin:=Xrb hr
 rw [List.drop_zero] at hin
 have hf:netP (nameP 1)= [52,58,102,105,108,101,44]:=by
  show Lib.itoa 4++ [58]++ [102,105,108,101]++ [44]=_
  rw [Lib.itoa,if_neg (by omega),Lib.decDigits,dif_pos (by decide)]
  rfl
 by_cases hn:nm=nameP 1
 ·have:kindOf nm=1:=by unfold kindOf;rw [if_pos hn]
  rw [this]
  subst hn
  rw [hf] at hin
  rw [hin]
  unfold isFile
  simp
 ·have hk1:(kindOf nm==1)=false:=by
   unfold kindOf
   rw [if_neg hn]
   repeat' split
   all_goals rfl
  rw [hk1]
  unfold isFile
  rw [Bool.and_eq_false_iff]
  by_cases hl:7≤h.length
  ·right
   cases hh:(h.take 7== [52,58,102,105,108,101,44]) with
   |false=>rfl
   |true=>
    have h7:h= []++(netP (nameP 1)++h.drop 7):=by
     have:=List.take_append_drop 7 h
     rw [hf,List.nil_append,←(by simpa using hh:h.take 7= [52,58,102,105,108,101,44])]
     exact this.symm
    have:=Xb2 (a:=0) h7 rfl
    rw [hr] at this
    injection this with this
    injection this with this
    exact absurd this hn
  ·exact .inl (Qf hl)
structure SimE (x y:Ent):Prop where
 kind:x.kind=y.kind
 path:x.path=y.path
 attrs:x.attrs=y.attrs
 target:x.target=y.target
 ex:entErr x=0
 ey:entErr y=0
theorem Xd8 {e:Ent} {n:Nat} (h:entErr e=0):entEnd e n= .ok (e,n):=by unfold entEnd;rw [if_neg (by omega)]
theorem Xcg {e:Ent} {n:Nat} (h:entErr e≠0):entEnd e n= .error (entErr e):=if_pos h
theorem Xsj {h c:Bytes} {x:Int} (hc:c.length≤100000000) (hh:rdHead h= .error x):(entOf h c).2=false:=by
 unfold entOf
 rw [Xcd,Xce 0 (.inl rfl) h c hc,hh,Rb_err,Rb_err]
 dsimp only
 split<;>rfl
theorem Xu0 {h c:Bytes} {x:Int} (hc:c.length≤100000000) (hh:rdHead h= .error x):(decP h c).2=false:=by
 unfold decP
 split
 ·rfl
 ·cases isFile h
  ·rw [if_neg (by simp),Xcd,hh,Rb_err]
  ·rw [if_pos rfl,Xce 1 (.inr rfl) h c hc,hh,Rb_err]
theorem Xqe {h c:Bytes} {e:Ent} (hc:c.length≤100000000) (hh:rdHead h= .ok e) (hk:e.kind=1):
 entOf h c=if 65536<c.length∨entErr (entOn e (c.length:Nat) (sumP c) (fileX 0 c))≠0 then (zE,false) else (entOn e (c.length:Nat) (sumP c) (fileX 0 c),true):=by
 have hne:entErr (entOn e 0 [] [])≠0:=fun h0=>by
  have:=(Xdq h0 hk).1
  simp [entOn] at this
 unfold entOf
 rw [Xcd,Xce 0 (.inl rfl) h c hc,hh,Rb_ok,Rb_ok,Xcg hne]
 dsimp only
 by_cases h1:65536<c.length
 ·rw [if_pos h1,if_pos (.inl h1)]
 ·rw [if_neg h1]
  by_cases h2:entErr (entOn e (c.length:Nat) (sumP c) (fileX 0 c))=0
  ·rw [if_neg (by omega),Xd8 h2]
   dsimp only
   rw [show ((entOn e (c.length:Nat) (sumP c) (fileX 0 c)).kind==1)=true by simp [entOn,hk]]
  ·rw [if_pos (.inr h2),Xcg h2]
theorem Xs1 {h c:Bytes} {e:Ent} (hc:c.length≤100000000) (hh:rdHead h= .ok e) (hk:e.kind=1):
 decP h c=if entErr (entOn e (c.length:Nat) (sumP c) (fileX 1 c))≠0 then (zE,false) else (entOn e (c.length:Nat) (sumP c) (fileX 1 c),true):=by
 have hif:isFile h=true:=by rw [Xlw hh,hk];rfl
 unfold decP
 rw [hif,if_neg (by simp),if_pos rfl,Xce 1 (.inr rfl) h c hc,hh,Rb_ok]
 by_cases h2:entErr (entOn e (c.length:Nat) (sumP c) (fileX 1 c))=0
 ·rw [if_neg (by omega),Xd8 h2]
  dsimp only
  rw [show ((entOn e (c.length:Nat) (sumP c) (fileX 1 c)).kind==1)=true by simp [entOn,hk]]
  rfl
 ·rw [if_pos h2,Xcg h2]
theorem Xnw {h c:Bytes} {e:Ent} (hc:c.length≤100000000) (hh:rdHead h= .ok e) (hk:e.kind≠1):
 if entErr (entOn e 0 [] [])=0 then entOf h c=(entOn e 0 [] [],c.isEmpty&&(e.kind==2 || e.kind==3)) else (entOf h c).2=false:=by
 unfold entOf
 rw [Xcd,Xce 0 (.inl rfl) h c hc,hh,Rb_ok,Rb_ok]
 by_cases h0:entErr (entOn e 0 [] [])=0
 ·rw [if_pos h0,Xd8 h0]
  rfl
 ·rw [if_neg h0,Xcg h0]
  dsimp only
  split
  ·rfl
  ·by_cases h2:entErr (entOn e (c.length:Nat) (sumP c) (fileX 0 c))=0
   ·rw [Xd8 h2]
    show (e.kind==1)=false
    simpa using hk
   ·rw [Xcg h2]
theorem Xqh {h c:Bytes} {e:Ent} (hh:rdHead h= .ok e) (hk:e.kind≠1):
 decP h c=if c≠ []∨entErr (entOn e 0 [] [])≠0 then (zE,false) else (entOn e 0 [] [],e.kind==2 || e.kind==3):=by
 have hif:isFile h=false:=by rw [Xlw hh];simpa using hk
 unfold decP
 rw [hif]
 by_cases h1:c= []
 ·rw [if_neg (by simp [h1]),if_neg (by simp),Xcd,hh,Rb_ok]
  by_cases h0:entErr (entOn e 0 [] [])=0
  ·rw [if_neg (by simp [h1,h0]),Xd8 h0]
   show (entOn e 0 [] [],e.kind==1 || e.kind==2 || e.kind==3)=_
   rw [show (e.kind==1)=false by simpa using hk]
   rfl
  ·rw [if_pos (.inr h0),Xcg h0]
 ·rw [if_pos ⟨rfl,h1⟩,if_pos (.inl h1)]
theorem Xwh (h c:Bytes) (hc:c.length≤100000000):(entOf h c).2=(decP h c).2∧((entOf h c).2=true→SimE (entOf h c).1 (decP h c).1):=by
 cases hh:rdHead h with
 |error x=>
  rw [Xsj hc hh,Xu0 hc hh]
  exact ⟨rfl,fun h=>by cases h⟩
 |ok e=>
  by_cases hk:e.kind=1
  ·rw [Xqe hc hh hk,Xs1 hc hh hk]
   have hh0:=Xny e c (sumP c)
   by_cases h1:entErr (entOn e (c.length:Nat) (sumP c) (fileX 1 c))=0
   ·have hs:=(Xdq h1 hk).2
    have h65:¬65536<c.length:=by
     simp only [entOn] at hs
     omega
    rw [if_neg (by omega),if_neg (by omega)]
    exact ⟨rfl,fun _=>⟨rfl,rfl,rfl,rfl,by show entErr (entOn e (c.length:Nat) (sumP c) (fileX 0 c))=0;omega,h1⟩⟩
   ·rw [if_pos (.inr (by omega)),if_pos h1]
    exact ⟨rfl,fun h=>by cases h⟩
  ·have ho:=Xnw hc hh hk
   rw [Xqh hh hk]
   by_cases h0:entErr (entOn e 0 [] [])=0
   ·rw [if_pos h0] at ho
    rw [ho]
    by_cases h1:c= []
    ·rw [if_neg (by simp [h1,h0]),h1]
     exact ⟨rfl,fun _=>⟨rfl,rfl,rfl,rfl,h0,h0⟩⟩
    ·rw [if_pos (.inl h1),show c.isEmpty=false by cases c<;>simp_all]
     exact ⟨rfl,fun h=>by cases h⟩
   ·rw [if_neg h0] at ho
    rw [if_pos (.inr h0),ho]
    exact ⟨rfl,fun h=>by cases h⟩
def SimL:List Ent→List Ent→Prop
 | [],[]=>True
 |x::a,y::b=>SimE x y∧SimL a b
 |_,_=>False
theorem Xqz (p:Bytes):∀ {a b:List Ent},SimL a b→(getT a p).map Ent.kind=(getT b p).map Ent.kind
 | [],[],_=>rfl
 | [],_::_,h=>h.elim
 |_::_,[],h=>h.elim
 |x::a,y::b,h=>by
  unfold getT
  rw [List.find?_cons,List.find?_cons,h.1.path]
  split
  ·simp [h.1.kind]
  ·exact Xqz p h.2
theorem Xvs {a b:List Ent} (h:SimL a b) (p:Bytes):dirErr a p=dirErr b p:=by
 have hg:=Xqz p h
 unfold dirErr
 split
 ·rfl
 ·cases ha:getT a p<;>cases hb:getT b p<;>rw [ha,hb] at hg<;>simp_all
theorem Xq0 {t u:List Ent} (htu:SimL t u):∀ {a b:List Ent},SimL a b→ ∀q r:Option Ent,q.map Ent.path=r.map Ent.path→chkTFrom t q a=chkTFrom u r b
 | [],[],_,_,_,_=>rfl
 | [],_::_,h,_,_,_=>h.elim
 |_::_,[],h,_,_,_=>h.elim
 |x::a,y::b,h,q,r,hq=>by
  have hany:(q.any fun z=> !(ltP (els z.path) (els x.path)))=(r.any fun z=> !(ltP (els z.path) (els y.path))):=by
   rw [h.1.path]
   cases q<;>cases r<;>simp_all
  unfold chkTFrom
  rw [if_neg (by rw [h.1.ex];omega),if_neg (c:=entErr y≠0) (by rw [h.1.ey];omega),hany,h.1.kind,h.1.path,Xvs htu,Xq0 htu h.2 (some x) (some y) (by simp [h.1.path])]
structure Chg where
 kind:Int
 path:Bytes
 attrs:List At
 target:Bytes
 content:Bytes
def chgOf (x:Ent) (c:Bytes):Chg:=⟨x.kind,x.path,x.attrs,x.target,c⟩
def impG (f:Bytes→Bytes→Ent × Bool) (s:Bytes):Nat→Nat→List Ent→List Chg→Except Int (List Ent × List Chg × Nat)
 |0,a,t,o=> .ok (t,o,a)
 |n+1,a,t,o=>Rb (rdStr s a) fun h=>Rb (rdStr s h.2) fun c=>if (f h.1 c.1).2=false then .error 3 else impG f s n c.2 (t++ [(f h.1 c.1).1]) (o++ [chgOf (f h.1 c.1).1 c.1])
def impE (s:Bytes) (r:List Ent × List Chg × Nat):Except Int (List Chg):=if r.2.2≠s.length then .error 3 else if chkT r.1≠0 then .error (chkT r.1) else .ok r.2.1
def impN (f:Bytes→Bytes→Ent × Bool) (s:Bytes) (n:Int × Nat):Except Int (List Chg):=if n.1<0∨5000<n.1 then .error 2 else Rb (impG f s n.1.toNat n.2 [] []) (impE s)
def impP (f:Bytes→Bytes→Ent × Bool) (s:Bytes):Except Int (List Chg):=Rb (rdNum s 0) (impN f s)
end Go.Proofs.YtdodihnehppnmaaGreatDoor
namespace Go.Proofs.YtdodihnehppnmaaGreatDoor
open Go.RowKit
abbrev sesCs (s:Ses) (ve:Value):List Value:= [.int .i64 s.num,.int .i64 s.date,S s.prev,ve,S s.stream,S s.sl]
abbrev sesV (s:Ses) (ve:Value):Value:= .agg #[.int .i64 s.num,.int .i64 s.date,S s.prev,ve,S s.stream,S s.sl]
def tSes:Ty Ses where
 size:=6
 rd:=fun I cs s=> ∃ve,cs=sesCs s ve∧RdS tEnt I ve s.ents
 len:=fun ⟨_,h,_⟩=>by rw [h];rfl
 one:=fun ⟨ve,h,h1⟩ u hu=>by
  rw [h] at hu
  simp at hu
  rcases hu with rfl|rfl|rfl|rfl|rfl|rfl<;>first|rfl|exact h1.one
 mono:=fun hI ⟨ve,h,h1⟩=>⟨ve,h,h1.mono hI⟩
structure SesAt (w:World) (b o:Nat) (s:Ses) (ve:Value):Prop where
 c0:w.cell? ⟨b,o,none⟩=some (.int .i64 s.num)
 c1:w.cell? ⟨b,o+1,none⟩=some (.int .i64 s.date)
 c2:w.cell? ⟨b,o+2,none⟩=some (S s.prev)
 c3:w.cell? ⟨b,o+3,none⟩=some ve
 c4:w.cell? ⟨b,o+4,none⟩=some (S s.stream)
 c5:w.cell? ⟨b,o+5,none⟩=some (S s.sl)
theorem SesAt.far {w w':World} {b o B:Nat} {s:Ses} {ve:Value} (h:SesAt w b o s ve) (hb:Below B w w') (hn:b<B):SesAt w' b o s ve:=
 ⟨(hb.cell hn).trans h.c0,(hb.cell hn).trans h.c1,(hb.cell hn).trans h.c2,(hb.cell hn).trans h.c3,(hb.cell hn).trans h.c4,(hb.cell hn).trans h.c5⟩
structure SesB (w:World) (n:Nat) (s:Ses) (ve:Value):Prop where
 c0:w.cell? ⟨n,0,none⟩=some (.int .i64 s.num)
 c1:w.cell? ⟨n,1,none⟩=some (.int .i64 s.date)
 c2:w.cell? ⟨n,2,none⟩=some (S s.prev)
 c3:w.cell? ⟨n,3,none⟩=some ve
 c4:w.cell? ⟨n,4,none⟩=some (S s.stream)
 c5:w.cell? ⟨n,5,none⟩=some (S s.sl)
theorem SesB.thru {w w':World} {b:Nat} {s:Ses} {ve:Value} (h:SesB w b s ve) (hb:Below w.heap.size w w'):SesB w' b s ve:=
 ⟨Xaa hb h.c0,Xaa hb h.c1,Xaa hb h.c2,Xaa hb h.c3,Xaa hb h.c4,Xaa hb h.c5⟩
theorem SesB.past {w:World} {b:Nat} {s:Ses} {ve:Value} (h:SesB w b s ve) (x:Obj):SesB (w.alloc x) b s ve:=
 ⟨Xab x h.c0,Xab x h.c1,Xab x h.c2,Xab x h.c3,Xab x h.c4,Xab x h.c5⟩
theorem sesB {W w':World} {s:Ses} {ve:Value} {t:TypeId} {n:Nat} (hn:n=W.heap.size) (hb:Below (W.alloc (.cells #[.int .i64 s.num,.int .i64 s.date,S s.prev,ve,S s.stream,S s.sl] t)).heap.size (W.alloc (.cells #[.int .i64 s.num,.int .i64 s.date,S s.prev,ve,S s.stream,S s.sl] t)) w'):SesB w' n s ve:=by
 subst hn
 exact SesB.thru ⟨by simp,by simp,by simp,by simp,by simp,by simp⟩ hb
theorem Xgs {I:IH} {v:Value} {l:List Ses} {w:World} (h:RdS tSes I v l) (hw:Ok I w) (i:Nat) (hi:i<l.length):∃x ve b off cap,l[i]=x∧v= .slice (some ⟨b,off,none⟩) l.length cap∧
 SesAt w b (off+i*6) x ve∧RdS tEnt I ve x.ents:=by
 obtain ⟨b,off,cap,cs,hv,⟨ve,hcs,h1⟩,hc⟩:=h.at_ hw hi
 subst hcs
 exact ⟨_,ve,b,off,cap,rfl,hv,⟨hc 0 _ rfl,hc 1 _ rfl,hc 2 _ rfl,hc 3 _ rfl,hc 4 _ rfl,hc 5 _ rfl⟩,h1⟩
structure SesG (s:Ses):Prop where
 nents:s.ents.length≤30
 stream:s.stream.length≤1000
 prev:s.prev.length≤100
 sl:s.sl.length≤2100
 wf:∀e∈s.ents,e.Wf
 path:∀e∈s.ents,e.path.length≤300
 target:∀e∈s.ents,e.target.length≤300
 exts:∀e∈s.ents,e.exts.length≤30
 num: -9223372036854775808≤s.num∧s.num≤9223372036854775807
 date: -9223372036854775808≤s.date∧s.date≤9223372036854775807
def sesK (s:Ses) (k:Nat):Bytes:=sesHead s++(s.ents.take k).flatMap encE
theorem Xq1 {s:Ses} {k:Nat} (hk:k<s.ents.length) {x:Ent} (hx:s.ents[k]=x):sesK s (k+1)=sesK s k++encE x:=by
 rw [sesK,sesK,List.take_succ_eq_append_getElem hk,hx,List.flatMap_append,←List.append_assoc]
 simp
theorem Xtq (s:Ses) {k:Nat} (h:s.ents.length≤k):sesK s k=sesText s:=by rw [sesK,List.take_of_length_le h];rfl
theorem Xn9 (s:Bytes):(sumP s).length≤32:=by
 unfold sumP
 rw [List.length_map]
 exact Xge _ 8
theorem Xmu {s:Ses} (h:SesG s) (hf:fldErr s=0):(sesHead s).length≤400:=by
 have hk:=Xh5 hf
 have h1:=Xb5 (n:=s.num) (by omega) (by omega)
 have h2:=Xb5 (n:=s.date) (by omega) (by omega)
 have h3:=Xal s.prev (by have:=h.prev;omega)
 have h4:=Xbd s.stream.length (by have:=h.stream;omega)
 have h5:=Xn9 s.stream
 have h6:=Xal (sumP s.stream) (by omega)
 have h7:=Xbd s.ents.length (by have:=h.nents;omega)
 have h8:=h.prev
 unfold sesHead
 simp only [List.length_append]
 omega
theorem Xo6:∀ {l:List Ent},(∀e∈l,EncOk e∧e.exts.length≤1000)→(l.flatMap encE).length≤54000*l.length
 | [],_=>by simp
 |e::l,h=>by
  have h1:=Xo9 (h e (List.mem_cons_self ..)).1 (h e (List.mem_cons_self ..)).2
  have h2:=Xo6 fun x hx=>h x (List.mem_cons_of_mem _ hx)
  simp only [List.flatMap_cons,List.length_append,List.length_cons]
  omega
theorem Xtp {s:Ses} (h:SesG s) (hf:fldErr s=0) {k:Nat} (hv:∀e∈s.ents.take k,entErr e=0):(sesK s k).length≤1700000:=by
 have h1:=Xmu h hf
 have h2:=Xo6 (l:=s.ents.take k) fun e he=>⟨Xbf (hv e he),by have:=h.exts e (List.mem_of_mem_take he);omega⟩
 have h3:(s.ents.take k).length≤s.ents.length:=by simp;omega
 have h4:=h.nents
 unfold sesK
 rw [List.length_append]
 omega
theorem Xgl {l:List Ent} {k:Nat} (hk:k<l.length) {x:Ent} (hx:l[k]=x):entsErr (l.drop k)=if entErr x≠0 then entErr x else entsErr (l.drop (k+1)):=by
 rw [List.drop_eq_getElem_cons hk,hx];rfl
theorem Xqv (b:Nat) (s:Bytes) (hs:s.length≤140737488355328) (w:World) (hc:w.cell? ⟨b,0,none⟩=some (S s)) (hbl:b<w.heap.size):
 Calls Tryz.prog 30 #[.slice (some ⟨b,0,none⟩) 1 1] w fun e w'=>e= .returned (S (sumP s))∧Below w.heap.size w w':=
 Xu8 b 0 1 [s] s (by simp) hs w (fun j x hx=>by match j,hx with|0,hx=>cases hx;exact hc) (by simp) hbl (by simp)
abbrev sgL (n:Nat) (st p4 sm p6 p7 u:Bytes) (ao:Option Addr) (le co:Nat) (x:Nat × Nat):List (Option Tmp × Value):=
 [(some 37,.pointer (some ⟨n,4,none⟩)),(some 38,S st),(some 39,.int .i64 (st.length:Int)),(some 40,S p4),(some 41,.pointer (some ⟨n,4,none⟩)),(some 42,S st),(some 43,.slice (some ⟨x.1,0,none⟩) 1 1),(some 44,S sm),(some 45,S p6),(some 46,S (p4++p6)),
  (some 47,.pointer (some ⟨n,3,none⟩)),(some 48,.slice ao le co),(some 49,.int .i64 (le:Int)),(some 50,S p7),(some 51,S u),(some 52,.tuple #[.int .i64 (u.length:Int),.nilIface])]
end Go.Proofs.YtdodihnehppnmaaGreatDoor
namespace Go.Proofs.YtdodihnehppnmaaGreatDoor
def meaning (x y:Ent):Bool:=decide (x.kind=y.kind)&&decide (x.attrs=y.attrs)&&decide (x.target=y.target)&&decide (x.size=y.size)&&decide (x.digest=y.digest)
def diffM:List Ent→List Ent→List Bytes
 | [],[]=> []
 |x::a,[]=>x.path::diffM a []
 | [],y::b=>y.path::diffM [] b
 |x::a,y::b=>if ltE x y then x.path::diffM a (y::b) else if ltE y x then y.path::diffM (x::a) b else if meaning x y then diffM a b else x.path::diffM a b
termination_by a b=>a.length+b.length
def SrtP (l:List Bytes):Prop:=l.Pairwise fun p q=>ltP (els p) (els q)=true
def DiffAt (a b:List Ent) (p:Bytes):Prop:=(∃x∈a,x.path=p∧ ∀y∈b,y.path=p→meaning x y=false)∨(∃y∈b,y.path=p∧ ∀x∈a,x.path≠p)
end Go.Proofs.YtdodihnehppnmaaGreatDoor
namespace Go.Proofs.YtdodihnehppnmaaGreatDoor
theorem step_ok {s:Stt} {e:Ent} {d:Int} (h:(stpP s e d).2=0):applyT s.tree e=((applyT s.tree e).1,0)∧(stpP s e d).1.tree=opT s.tree e∧entErr e=0:=by
 unfold stpP at*
 split at h
 ·contradiction
 ·rename_i h1
  have ha:=Xct (t:=s.tree) (e:=e) (by omega)
  obtain ⟨hp,hx⟩:=applyT_iff.1 ha
  split at h
  ·contradiction
  ·rename_i h2
   split at h
   ·contradiction
   ·rename_i h3
    rw [if_neg h1,if_neg h2,if_neg h3]
    exact ⟨ha,hx,hp.ent⟩
def lastE (i:Option Ent) (l:List Ver):Option Ent:=l.foldl (fun _ v=>if v.e.kind=4 then none else some v.e) i
def AllOk (d:Int):Stt→List Ent→Prop
 |_,[]=>True
 |s,e::es=>(stpP s e d).2=0∧AllOk d (stpP s e d).1 es
theorem Xsh {L:List Ses} {d:Int}:∀ {es:List Ent} {s:Stt},(entsH L d s es).2=0→AllOk d s es∧(entsH L d s es).1=runS s d es∧ ∀e∈es,storedP L e=true
 | [],s,_=>⟨trivial,rfl,fun e he=>by cases he⟩
 |e::es,s,h=>by
  rw [entsH] at h ⊢
  by_cases h1:(stpP s e d).2=0
  ·rw [if_neg (by omega)] at h ⊢
   by_cases h2:storedP L e=false
   ·rw [if_pos h2] at h
    have h:(2:Int)=0:=h
    omega
   ·rw [if_neg h2] at h ⊢
    obtain ⟨i1,i2,i3⟩:=Xsh h
    refine ⟨⟨h1,i1⟩,i2,fun x hx=> ?_⟩
    rcases List.mem_cons.1 hx with rfl|hx
    ·simpa using h2
    ·exact i3 x hx
  ·rw [if_pos h1] at h
   exact absurd h h1
def AllSes:Stt→List Ses→Prop
 |_,[]=>True
 |s,x::xs=>AllOk x.date s x.ents∧AllSes (runS s x.date x.ents) xs
structure SesIn (i:Nat) (prev:Bytes) (date:Int) (x:Ses):Prop where
 dig:(dirDig x).2=0
 num:x.num=i+1
 date:date≤x.date
 prev:x.prev=prev
theorem Xpi {l:List Ses} {i:Nat} {s:Stt} {prev:Bytes} {date:Int} {x:Ses} {xs:List Ses} (h:chkFromH l i s prev date (x::xs)=0):
 SesIn i prev date x∧AllOk x.date s x.ents∧(∀e∈x.ents,storedP (l.take (i+1)) e=true)∧chkFromH l (i+1) (runS s x.date x.ents) (dirDig x).1 x.date xs=0:=by
 rw [chkFromH] at h
 by_cases h1:(dirDig x).2=0
 ·rw [if_neg (by omega)] at h
  by_cases h2:x.num≠i+1∨x.date<date
  ·rw [if_pos h2] at h;exact absurd h (by decide)
  ·rw [if_neg h2] at h
   by_cases h3:x.prev=prev
   ·rw [if_neg (by simpa using h3)] at h
    by_cases h4:(entsH (l.take (i+1)) x.date s x.ents).2=0
    ·rw [if_neg (by omega)] at h
     obtain ⟨i1,i2,i3⟩:=Xsh h4
     rw [i2] at h
     exact ⟨⟨h1,by omega,by omega,h3⟩,i1,i3,h⟩
    ·rw [if_pos h4] at h;exact absurd h h4
   ·rw [if_pos h3] at h;exact absurd h (by decide)
 ·rw [if_pos h1] at h;exact absurd h h1
end Go.Proofs.YtdodihnehppnmaaGreatDoor
namespace Go.Proofs.YtdodihnehppnmaaGreatDoor
theorem Xpg {l:List Ses} {k:Nat}:∀(m:Nat) {xs:List Ses} {i:Nat} {s:Stt} {prev:Bytes} {date:Int},i+m≤k→chkFromH l i s prev date xs=0→chkFromH (l.take k) i s prev date (xs.take m)=0
 |0,xs,i,s,prev,date,_,_=>by rw [List.take_zero];rfl
 |m+1,[],i,s,prev,date,_,_=>rfl
 |m+1,x::xs,i,s,prev,date,hk,h=>by
  obtain ⟨h1,h2,h3,h4⟩:=Xpi h
  have ih:=Xpg (k:=k) m (xs:=xs) (i:=i+1) (by omega) h4
  rw [List.take_succ_cons,chkFromH,if_neg (by have:=h1.dig;omega),if_neg (by have:=h1.num;have:=h1.date;omega),if_neg (by simpa using h1.prev)]
  have ht:(l.take k).take (i+1)=l.take (i+1):=by rw [List.take_take,Nat.min_eq_left (by omega)]
  rw [ht]
  have he:entsH (l.take (i+1)) x.date s x.ents=(runS s x.date x.ents,0):=by
   clear ih h4 h1 ht h
   generalize x.ents=es at h2 h3
   induction es generalizing s with
   |nil=>rfl
   |cons e es ihe=>
    obtain ⟨a1,a2⟩:=h2
    rw [entsH,if_neg (by omega),if_neg (by rw [h3 e (List.mem_cons_self ..)];simp)]
    exact ihe _ a2 fun z hz=>h3 z (List.mem_cons_of_mem _ hz)
  rw [he,if_neg (by simp)]
  exact ih
theorem Xw2 {l:List Ses} (h:chkH l=0) (k:Nat):chkH (l.take k)=0:=Xpg k (by omega) h
theorem Xqm (s:Stt) (a b:List Ses):aftS s (a++b)=aftS (aftS s a) b:=List.foldl_append
def writes (p:Bytes) (e:Ent):Bool:=decide (e.kind≤3)&&e.path==p
def wrCount (p:Bytes) (l:List Ses):Nat:=(l.flatMap fun x=>x.ents.filter (writes p)).length
def keeps (v:Ver):Bool:=decide (v.e.kind≠4)
def AltOk:Bool→List Ver→Prop
 |_,[]=>True
 |r,v::vs=>if v.e.kind=4 then r=false∧AltOk true vs else AltOk false vs
end Go.Proofs.YtdodihnehppnmaaGreatDoor
namespace Go.Proofs.YtdodihnehppnmaaGreatDoor
open Go.RowKit
def four (l:List Int) (a b c d:Nat) (va vb vc vd:Int):List Int:=(((l.set a va).set b vb).set c vc).set d vd
theorem Xh4 (l:List Int) (a b c d:Nat) (va vb vc vd:Int):(four l a b c d va vb vc vd).length=l.length:=by simp [four]
theorem Xsc (l:List Int) (a b c d:Nat) (ha:a<l.length) (hb:b<l.length) (hc:c<l.length) (hd:d<l.length):four l a b c d (l.getD a 0) (l.getD b 0) (l.getD c 0) (l.getD d 0)=l:=by
 simp [four,List.getD,ha,hb,hc,hd]
structure Apart (n a b c d:Nat):Prop where
 la:a<n
 lb:b<n
 lc:c<n
 ld:d<n
 ab:a≠b
 ac:a≠c
 ad:a≠d
 bc:b≠c
 bd:b≠d
 cd:c≠d
section
variable {l:List Int} {a b c d:Nat} {va vb vc vd:Int}
theorem Xsb (h:Apart l.length a b c d) (x:Int):(four l a b c d va vb vc vd).set a x=four l a b c d x vb vc vd:=by
 unfold four
 rw [List.set_comm _ _ h.ad.symm,List.set_comm _ _ h.ac.symm,List.set_comm _ _ h.ab.symm,List.set_set]
theorem Xsa (h:Apart l.length a b c d) (x:Int):(four l a b c d va vb vc vd).set b x=four l a b c d va x vc vd:=by
 unfold four
 rw [List.set_comm _ _ h.bd.symm,List.set_comm _ _ h.bc.symm,List.set_set]
theorem Xr9 (h:Apart l.length a b c d) (x:Int):(four l a b c d va vb vc vd).set c x=four l a b c d va vb x vd:=by
 unfold four
 rw [List.set_comm _ _ h.cd.symm,List.set_set]
theorem Xr8 (_h:Apart l.length a b c d) (x:Int):(four l a b c d va vb vc vd).set d x=four l a b c d va vb vc x:=by
 unfold four
 rw [List.set_set]
theorem Xbo {l:List Int} {i j:Nat} (h:i≠j) (x:Int):(l.set i x).getD j 0=l.getD j 0:=by
 simp [List.getD,List.getElem?_set_ne h]
theorem Xcy {l:List Int} {i:Nat} (h:i<l.length) (x:Int):(l.set i x).getD i 0=x:=by
 simp [List.getD,h]
theorem Xxq (h:Apart l.length a b c d):(four l a b c d va vb vc vd).getD a 0=va:=by
 unfold four
 rw [Xbo h.ad.symm,Xbo h.ac.symm,Xbo h.ab.symm,Xcy h.la]
theorem Xxp (h:Apart l.length a b c d):(four l a b c d va vb vc vd).getD b 0=vb:=by
 unfold four
 rw [Xbo h.bd.symm,Xbo h.bc.symm,Xcy (by simpa using h.lb)]
theorem Xxo (h:Apart l.length a b c d):(four l a b c d va vb vc vd).getD c 0=vc:=by
 unfold four
 rw [Xbo h.cd.symm,Xcy (by simpa using h.lc)]
theorem Xxn (h:Apart l.length a b c d):(four l a b c d va vb vc vd).getD d 0=vd:=by
 unfold four
 rw [Xcy (by simpa using h.ld)]
end
structure MixM (w:World) (t:TypeId) (l:List Int) (a b c d:Nat) (va vb vc vd:Int) (X:World):Prop where
 row_:X.heap[w.heap.size]? =some (.cells (row (four l a b c d va vb vc vd)) t (0,0))
 zero:X.heap[w.heap.size+1]? =some (.cells (row (List.replicate 16 0)) t (0,0))
 below:Below w.heap.size w X
section
variable {w X X':World} {t:TypeId} {l:List Int} {a b c d:Nat} {va vb vc vd:Int}
theorem MixM.lt (h:MixM w t l a b c d va vb vc vd X):w.heap.size+1<X.heap.size:=(Array.getElem?_eq_some_iff.1 h.zero).1
theorem MixM.pass (h:MixM w t l a b c d va vb vc vd X) (hb:Below X.heap.size X X'):MixM w t l a b c d va vb vc vd X':=
 ⟨(hb.block _ (by have:=h.lt;omega)).trans h.row_,(hb.block _ h.lt).trans h.zero,h.below.trans (hb.mono h.below.size)⟩
theorem MixM.cell (h:MixM w t l a b c d va vb vc vd X) (q:Nat) (hq:q<l.length):X.cell? ⟨w.heap.size,q,none⟩=some (.int .u32 ((four l a b c d va vb vc vd).getD q 0)):=
 (cell_of_row X _ q _ _ _ h.row_).trans (Xau (by rw [Xh4];exact hq))
theorem MixM.ca (h:MixM w t l a b c d va vb vc vd X) (k:Apart l.length a b c d):X.cell? ⟨w.heap.size,a,none⟩=some (.int .u32 va):=by rw [h.cell a k.la,Xxq k]
theorem MixM.cb (h:MixM w t l a b c d va vb vc vd X) (k:Apart l.length a b c d):X.cell? ⟨w.heap.size,b,none⟩=some (.int .u32 vb):=by rw [h.cell b k.lb,Xxp k]
theorem MixM.cc (h:MixM w t l a b c d va vb vc vd X) (k:Apart l.length a b c d):X.cell? ⟨w.heap.size,c,none⟩=some (.int .u32 vc):=by rw [h.cell c k.lc,Xxo k]
theorem MixM.cd (h:MixM w t l a b c d va vb vc vd X) (k:Apart l.length a b c d):X.cell? ⟨w.heap.size,d,none⟩=some (.int .u32 vd):=by rw [h.cell d k.ld,Xxn k]
theorem MixM.fr (h:MixM w t l a b c d va vb vc vd X) (q:Nat):X.frozen? ⟨w.heap.size,q,none⟩=false:=frozen_of_row X _ q _ _ h.row_
theorem MixM.put (h:MixM w t l a b c d va vb vc vd X) (q:Nat) (x:Int) {L:List Int} (hL:(four l a b c d va vb vc vd).set q x=L) {va' vb' vc' vd':Int} (hL':L=four l a b c d va' vb' vc' vd'):MixM w t l a b c d va' vb' vc' vd' (X.setCell ⟨w.heap.size,q,none⟩ (.int .u32 x)):=by
 subst hL'
 refine ⟨?_,?_,h.below.setCell (p:=⟨w.heap.size,q,none⟩) (Qn _) _⟩
 ·rw [←hL];exact heap_setCell x h.row_
 ·rw [Below.heap_setCell _ _ _ _ (by simp)];exact h.zero
theorem MixM.pa (h:MixM w t l a b c d va vb vc vd X) (k:Apart l.length a b c d) (x:Int):MixM w t l a b c d x vb vc vd (X.setCell ⟨w.heap.size,a,none⟩ (.int .u32 x)):=h.put a x (Xsb k x) rfl
theorem MixM.pb (h:MixM w t l a b c d va vb vc vd X) (k:Apart l.length a b c d) (x:Int):MixM w t l a b c d va x vc vd (X.setCell ⟨w.heap.size,b,none⟩ (.int .u32 x)):=h.put b x (Xsa k x) rfl
theorem MixM.pc (h:MixM w t l a b c d va vb vc vd X) (k:Apart l.length a b c d) (x:Int):MixM w t l a b c d va vb x vd (X.setCell ⟨w.heap.size,c,none⟩ (.int .u32 x)):=h.put c x (Xr9 k x) rfl
theorem MixM.pd (h:MixM w t l a b c d va vb vc vd X) (k:Apart l.length a b c d) (x:Int):MixM w t l a b c d va vb vc x (X.setCell ⟨w.heap.size,d,none⟩ (.int .u32 x)):=h.put d x (Xr8 k x) rfl
end
theorem Xb1 (x:Int) (k d m:Int) (hk:RotAt k d m) (w:World):
 Calls Tryz.prog 263 #[.int .u32 x,.int .u64 k] w fun e w'=>e= .returned (.int .u32 (rotr d m x))∧Below w.heap.size w w':=
 (Xkz x k d m hk w).mono fun _ _ ⟨h1,h2⟩=>⟨h1,by rw [h2];exact Qb _ _⟩
theorem Xvv:RotAt 16 65536 65536:= .inl ⟨rfl,rfl,rfl⟩
theorem Xvw:RotAt 12 4096 1048576:= .inr (.inl ⟨rfl,rfl,rfl⟩)
theorem Xxe:RotAt 8 256 16777216:= .inr (.inr (.inl ⟨rfl,rfl,rfl⟩))
theorem Xxf:RotAt 7 128 33554432:= .inr (.inr (.inr ⟨rfl,rfl,rfl⟩))
theorem Xxm {α:Type}:∀ {l:List α},l.length=16→ ∃a b c d e f g h i j k m n o p q,l= [a,b,c,d,e,f,g,h,i,j,k,m,n,o,p,q]
 | [a,b,c,d,e,f,g,h,i,j,k,m,n,o,p,q],_=>⟨a,b,c,d,e,f,g,h,i,j,k,m,n,o,p,q,rfl⟩
set_option maxRecDepth 100000 in
set_option maxHeartbeats 2000000 in
theorem Xk0 (l:List Int) (hl:l.length=16) (qa qb qc qd:Nat) (x y:Int) (w:World) (hap:Apart 16 qa qb qc qd):
 Calls Tryz.prog 204 #[.agg (row l),.int .i64 qa,.int .i64 qb,.int .i64 qc,.int .i64 qd,.int .u32 x,.int .u32 y] w fun e w'=>e= .returned (.agg (row (mixP l qa qb qc qd x y)))∧Below w.heap.size w w':=by
 have Hap:Hid (Apart l.length qa qb qc qd):=Qh (by rw [hl];exact hap)
 have hM0:MixM w 160 l qa qb qc qd (l.getD qa 0) (l.getD qb 0) (l.getD qc 0) (l.getD qd 0) ((w.alloc (.cells (row l) 160)).alloc (.cells (row (List.replicate 16 0)) 160)):=
  ⟨by rw [Xsc _ _ _ _ _ Hap.out.la Hap.out.lb Hap.out.lc Hap.out.ld];exact (Below.heap_alloc (w.alloc (.cells (row l) 160)) (.cells (row (List.replicate 16 0)) 160) w.heap.size (by simp)).trans (heap_alloc_new w (.cells (row l) 160)),
    (by have h:=heap_alloc_new (w.alloc (.cells (row l) 160)) (.cells (row (List.replicate 16 0)) 160);rwa [show (w.alloc (.cells (row l) 160)).heap.size=w.heap.size+1 by simp] at h),
    ((Qb w.heap.size w).alloc (Qn _) (.cells (row l) 160)).alloc (by simp) (.cells (row (List.replicate 16 0)) 160)⟩
 obtain ⟨va,eva⟩:∃va,l.getD qa 0=va:=⟨_,rfl⟩
 obtain ⟨vb,evb⟩:∃vb,l.getD qb 0=vb:=⟨_,rfl⟩
 obtain ⟨vc,evc⟩:∃vc,l.getD qc 0=vc:=⟨_,rfl⟩
 obtain ⟨vd,evd⟩:∃vd,l.getD qd 0=vd:=⟨_,rfl⟩
 have Hm:=Qh (show mixP l qa qb qc qd x y=four l qa qb qc qd (mixW va vb vc vd x y).1 (mixW va vb vc vd x y).2.1 (mixW va vb vc vd x y).2.2.1 (mixW va vb vc vd x y).2.2.2 by rw [mixP,eva,evb,evc,evd,four])
 rw [eva,evb,evc,evd] at hM0
 clear eva evb evc evd
 have HM:=Qh hM0
 clear hM0
 have n1:(qa:Int)<16:=by have:=hap.la;omega
 have n2:(qb:Int)<16:=by have:=hap.lb;omega
 have n3:(qc:Int)<16:=by have:=hap.lc;omega
 have n4:(qd:Int)<16:=by have:=hap.ld;omega
 clear hap
 obtain ⟨v0,v1,v2,v3,v4,v5,v6,v7,v8,v9,v10,v11,v12,v13,v14,v15,hll⟩:=Xxm hl
 have hrow:row l= #[.int .u32 v0,.int .u32 v1,.int .u32 v2,.int .u32 v3,.int .u32 v4,.int .u32 v5,.int .u32 v6,.int .u32 v7,.int .u32 v8,.int .u32 v9,.int .u32 v10,.int .u32 v11,.int .u32 v12,.int .u32 v13,.int .u32 v14,.int .u32 v15]:=by rw [hll];rfl
 have Hll:=Qh hll
 have Hrow:=Qh hrow
 have Hlen:=Qh hl
 clear hll hrow hl
 rw [Hrow.out]
 go_enter Tryz.func204,Tryz.ntmps204
 go_wp2_with fail
 rw [←Hrow.out]
 rw [show (#[.int .u32 0,.int .u32 0,.int .u32 0,.int .u32 0,.int .u32 0,.int .u32 0,.int .u32 0,.int .u32 0,.int .u32 0,.int .u32 0,.int .u32 0,.int .u32 0,.int .u32 0,.int .u32 0,.int .u32 0,.int .u32 0]:Array Value)=row (List.replicate 16 0) from rfl]
 generalize (w.alloc (.cells (row l) 160)).alloc (.cells (row (List.replicate 16 0)) 160)=X at HM ⊢
 clear Hrow Hll
 have g1:=cell_regrown (HM.out.ca Hap.out)
 have g2:=cell_regrown (HM.out.cb Hap.out)
 refine Xae 11 (by kernel_rfl) (by kernel_rfl) ?_
 simp only [List.take_succ_cons,List.take_zero,List.drop_succ_cons,List.drop_zero]
 repeat (go_big_quiet_step ((fail)))
 refine wpQuiet_nil ?_
 intro X1 hwq
 have hbt:Below (X).heap.size (X) X1:=by
  obtain ⟨pq,rfl⟩:=hwq
  exact below_regrown _ _ _
 clear hwq
 have hMt:=HM.out.pass hbt
 clear g1 g2 hbt HM
 have HM:=Qh hMt
 have g1:=hMt.ca Hap.out
 have g2:=fun q=>hMt.fr q
 clear hMt
 go_wp2_with fail
 have hMt:=HM.out.pa Hap.out ((va+vb+x)%4294967296)
 clear HM g1 g2
 obtain ⟨a1,ha1⟩:∃a1,(va+vb+x)%4294967296=a1:=⟨_,rfl⟩
 rw [ha1] at hMt ⊢
 have Ha1:=Qh ha1
 clear ha1
 have HM:=Qh hMt
 clear hMt
 generalize X1.setCell _ _=X at HM ⊢
 have g1:=cell_regrown (HM.out.cd Hap.out)
 have g2:=cell_regrown (HM.out.ca Hap.out)
 refine Xae 10 (by kernel_rfl) (by kernel_rfl) ?_
 simp only [List.take_succ_cons,List.take_zero,List.drop_succ_cons,List.drop_zero]
 repeat (go_big_quiet_step ((exact Calls.regrown_of (Xb1 _ _ _ _ Xvv _))))
 refine wpQuiet_nil ?_
 intro X1 hwq
 have hbt:Below (X).heap.size (X) X1:=by
  obtain ⟨pq,rfl⟩:=hwq
  exact below_regrown _ _ _
 clear hwq
 have hMt:=HM.out.pass hbt
 clear g1 g2 hbt HM
 have HM:=Qh hMt
 have g1:=hMt.cd Hap.out
 have g2:=fun q=>hMt.fr q
 clear hMt
 go_wp2_with fail
 have hMt:=HM.out.pd Hap.out (rotr 65536 65536 (bits .xor .u32 vd a1))
 clear HM g1 g2
 obtain ⟨d1,hd1⟩:∃d1,rotr 65536 65536 (bits .xor .u32 vd a1)=d1:=⟨_,rfl⟩
 rw [hd1] at hMt ⊢
 have Hd1:=Qh hd1
 clear hd1
 have HM:=Qh hMt
 clear hMt
 generalize X1.setCell _ _=X at HM ⊢
 have g1:=cell_regrown (HM.out.cc Hap.out)
 have g2:=cell_regrown (HM.out.cd Hap.out)
 refine Xae 9 (by kernel_rfl) (by kernel_rfl) ?_
 simp only [List.take_succ_cons,List.take_zero,List.drop_succ_cons,List.drop_zero]
 repeat (go_big_quiet_step ((fail)))
 refine wpQuiet_nil ?_
 intro X1 hwq
 have hbt:Below (X).heap.size (X) X1:=by
  obtain ⟨pq,rfl⟩:=hwq
  exact below_regrown _ _ _
 clear hwq
 have hMt:=HM.out.pass hbt
 clear g1 g2 hbt HM
 have HM:=Qh hMt
 have g1:=hMt.cc Hap.out
 have g2:=fun q=>hMt.fr q
 clear hMt
 go_wp2_with fail
 have hMt:=HM.out.pc Hap.out ((vc+d1)%4294967296)
 clear HM g1 g2
 obtain ⟨c1,hc1⟩:∃c1,(vc+d1)%4294967296=c1:=⟨_,rfl⟩
 rw [hc1] at hMt ⊢
 have Hc1:=Qh hc1
 clear hc1
 have HM:=Qh hMt
 clear hMt
 generalize X1.setCell _ _=X at HM ⊢
 have g1:=cell_regrown (HM.out.cb Hap.out)
 have g2:=cell_regrown (HM.out.cc Hap.out)
 refine Xae 10 (by kernel_rfl) (by kernel_rfl) ?_
 simp only [List.take_succ_cons,List.take_zero,List.drop_succ_cons,List.drop_zero]
 repeat (go_big_quiet_step ((exact Calls.regrown_of (Xb1 _ _ _ _ Xvw _))))
 refine wpQuiet_nil ?_
 intro X1 hwq
 have hbt:Below (X).heap.size (X) X1:=by
  obtain ⟨pq,rfl⟩:=hwq
  exact below_regrown _ _ _
 clear hwq
 have hMt:=HM.out.pass hbt
 clear g1 g2 hbt HM
 have HM:=Qh hMt
 have g1:=hMt.cb Hap.out
 have g2:=fun q=>hMt.fr q
 clear hMt
 go_wp2_with fail
 have hMt:=HM.out.pb Hap.out (rotr 4096 1048576 (bits .xor .u32 vb c1))
 clear HM g1 g2
 obtain ⟨b1,hb1⟩:∃b1,rotr 4096 1048576 (bits .xor .u32 vb c1)=b1:=⟨_,rfl⟩
 rw [hb1] at hMt ⊢
 have Hb1:=Qh hb1
 clear hb1
 have HM:=Qh hMt
 clear hMt
 generalize X1.setCell _ _=X at HM ⊢
 have g1:=cell_regrown (HM.out.ca Hap.out)
 have g2:=cell_regrown (HM.out.cb Hap.out)
 refine Xae 11 (by kernel_rfl) (by kernel_rfl) ?_
 simp only [List.take_succ_cons,List.take_zero,List.drop_succ_cons,List.drop_zero]
 repeat (go_big_quiet_step ((fail)))
 refine wpQuiet_nil ?_
 intro X1 hwq
 have hbt:Below (X).heap.size (X) X1:=by
  obtain ⟨pq,rfl⟩:=hwq
  exact below_regrown _ _ _
 clear hwq
 have hMt:=HM.out.pass hbt
 clear g1 g2 hbt HM
 have HM:=Qh hMt
 have g1:=hMt.ca Hap.out
 have g2:=fun q=>hMt.fr q
 clear hMt
 go_wp2_with fail
 have hMt:=HM.out.pa Hap.out ((a1+b1+y)%4294967296)
 clear HM g1 g2
 obtain ⟨a2,ha2⟩:∃a2,(a1+b1+y)%4294967296=a2:=⟨_,rfl⟩
 rw [ha2] at hMt ⊢
 have Ha2:=Qh ha2
 clear ha2
 have HM:=Qh hMt
 clear hMt
 generalize X1.setCell _ _=X at HM ⊢
 have g1:=cell_regrown (HM.out.cd Hap.out)
 have g2:=cell_regrown (HM.out.ca Hap.out)
 refine Xae 10 (by kernel_rfl) (by kernel_rfl) ?_
 simp only [List.take_succ_cons,List.take_zero,List.drop_succ_cons,List.drop_zero]
 repeat (go_big_quiet_step ((exact Calls.regrown_of (Xb1 _ _ _ _ Xxe _))))
 refine wpQuiet_nil ?_
 intro X1 hwq
 have hbt:Below (X).heap.size (X) X1:=by
  obtain ⟨pq,rfl⟩:=hwq
  exact below_regrown _ _ _
 clear hwq
 have hMt:=HM.out.pass hbt
 clear g1 g2 hbt HM
 have HM:=Qh hMt
 have g1:=hMt.cd Hap.out
 have g2:=fun q=>hMt.fr q
 clear hMt
 go_wp2_with fail
 have hMt:=HM.out.pd Hap.out (rotr 256 16777216 (bits .xor .u32 d1 a2))
 clear HM g1 g2
 obtain ⟨d2,hd2⟩:∃d2,rotr 256 16777216 (bits .xor .u32 d1 a2)=d2:=⟨_,rfl⟩
 rw [hd2] at hMt ⊢
 have Hd2:=Qh hd2
 clear hd2
 have HM:=Qh hMt
 clear hMt
 generalize X1.setCell _ _=X at HM ⊢
 have g1:=cell_regrown (HM.out.cc Hap.out)
 have g2:=cell_regrown (HM.out.cd Hap.out)
 refine Xae 9 (by kernel_rfl) (by kernel_rfl) ?_
 simp only [List.take_succ_cons,List.take_zero,List.drop_succ_cons,List.drop_zero]
 repeat (go_big_quiet_step ((fail)))
 refine wpQuiet_nil ?_
 intro X1 hwq
 have hbt:Below (X).heap.size (X) X1:=by
  obtain ⟨pq,rfl⟩:=hwq
  exact below_regrown _ _ _
 clear hwq
 have hMt:=HM.out.pass hbt
 clear g1 g2 hbt HM
 have HM:=Qh hMt
 have g1:=hMt.cc Hap.out
 have g2:=fun q=>hMt.fr q
 clear hMt
 go_wp2_with fail
 have hMt:=HM.out.pc Hap.out ((c1+d2)%4294967296)
 clear HM g1 g2
 obtain ⟨c2,hc2⟩:∃c2,(c1+d2)%4294967296=c2:=⟨_,rfl⟩
 rw [hc2] at hMt ⊢
 have Hc2:=Qh hc2
 clear hc2
 have HM:=Qh hMt
 clear hMt
 generalize X1.setCell _ _=X at HM ⊢
 have g1:=cell_regrown (HM.out.cb Hap.out)
 have g2:=cell_regrown (HM.out.cc Hap.out)
 refine Xae 10 (by kernel_rfl) (by kernel_rfl) ?_
 simp only [List.take_succ_cons,List.take_zero,List.drop_succ_cons,List.drop_zero]
 repeat (go_big_quiet_step ((exact Calls.regrown_of (Xb1 _ _ _ _ Xxf _))))
 refine wpQuiet_nil ?_
 intro X1 hwq
 have hbt:Below (X).heap.size (X) X1:=by
  obtain ⟨pq,rfl⟩:=hwq
  exact below_regrown _ _ _
 clear hwq
 have hMt:=HM.out.pass hbt
 clear g1 g2 hbt HM
 have HM:=Qh hMt
 have g1:=hMt.cb Hap.out
 have g2:=fun q=>hMt.fr q
 clear hMt
 have hMt:=HM.out.pb Hap.out (rotr 128 33554432 (bits .xor .u32 b1 c2))
 have hfin:mixP l qa qb qc qd x y=four l qa qb qc qd a2 (rotr 128 33554432 (bits .xor .u32 b1 c2)) c2 d2:=by
  rw [Hm.out]
  simp only [mixW,←Int.add_assoc,Ha1.out,Hd1.out,Hc1.out,Hb1.out,Ha2.out,Hd2.out,Hc2.out]
 clear Ha1 Hd1 Hc1 Hb1 Ha2 Hd2 Hc2 Hm
 have h0:=hMt.row_
 have h1:=hMt.zero
 have hbw:=hMt.below
 have hlen:(four l qa qb qc qd a2 (rotr 128 33554432 (bits .xor .u32 b1 c2)) c2 d2).length=16:=by rw [Xh4,Hlen.out]
 generalize four l qa qb qc qd a2 (rotr 128 33554432 (bits .xor .u32 b1 c2)) c2 d2=F at h0 hlen hfin
 have Hfin:=Qh hfin
 clear hfin
 clear hMt HM
 have hi16:(Tryz.prog.info? 160).map (·.size)=some (row F).size:=by rw [row_size,hlen];kernel_rfl
 have hz16:(row (List.replicate 16 0)).size=(row F).size:=by rw [row_size,row_size,hlen];rfl
 have ho16:(row F).all (·.oneCell')=true:=by simp [row,Value.oneCell']
 clear hlen
 go_wp2_with (first
  |(refine wpList_load_row rfl 160 _ rfl w.heap.size rfl 160 (row F) (0,0) _ h0 Tryz.underlying160 rfl hi16 ?_)
  |(refine wpList_store_row rfl 160 _ _ rfl (w.heap.size+1) (row F) rfl rfl 160 (row (List.replicate 16 0)) h1 hi16 hz16 ho16 ?_))
 refine bodyPost_ret (results_cell_row rfl _ _ (w.heap.size+1) _ (row F) (0,0) _ rfl (setRow_heap _ _ _ _ _ _ h1) Tryz.underlying160 rfl hi16) rfl ⟨by rw [Hfin.out],below_setRow hbw (by omega) _⟩
theorem Xg8 (a b c:Int):bits .xor .u32 (bits .xor .u32 a b) c=bits .xor .u32 a (bits .xor .u32 b c):=by
 have hr:∀x:BitVec 32,BitVec.ofInt 32 (x.toNat:Int)=x:=fun x=>by
  apply BitVec.eq_of_toNat_eq
  simp
 have hb:∀x y:Int,bits .xor .u32 x y=((BitVec.ofInt 32 x ^^^ BitVec.ofInt 32 y).toNat:Int):=fun x y=>by
  have:=(BitVec.ofInt 32 x ^^^ BitVec.ofInt 32 y).isLt
  simp only [bits,IntKind.wrap,IntKind.bits,IntKind.signed]
  exact Int.emod_eq_of_lt (by omega) (by omega)
 rw [hb,hb a b,hb a,hb b c,hr,hr,BitVec.xor_assoc]
theorem Xrn (a:Int) (h0:0≤a) (h1:a<4294967296):bits .or .u32 0 a=a:=by
 have hb:bits .or .u32 0 a=((BitVec.ofInt 32 0 ||| BitVec.ofInt 32 a).toNat:Int):=by
  have:=(BitVec.ofInt 32 0 ||| BitVec.ofInt 32 a).isLt
  simp only [bits,IntKind.wrap,IntKind.bits,IntKind.signed]
  exact Int.emod_eq_of_lt (by omega) (by omega)
 rw [hb]
 simp
 omega
def pW (s:Bytes) (j:Nat):Nat→Int
 |0=>0
 |1=>byteI s (4*j)
 |2=>bits .or .u32 (byteI s (4*j)) (byteI s (4*j+1)*256%4294967296)
 |3=>bits .or .u32 (bits .or .u32 (byteI s (4*j)) (byteI s (4*j+1)*256%4294967296)) (byteI s (4*j+2)*65536%4294967296)
 |_=>wordAt s j
def refW (s:Bytes) (k:Nat):List Int:=(List.range 16).map fun j=>pW s j (k-4*j)
theorem Xm0 (s:Bytes) (k:Nat):(refW s k).length=16:=by simp [refW]
theorem Xq4 (s:Bytes):refW s 0=List.replicate 16 0:=by
 simp [refW,pW,List.map_const']
theorem Xnd (s:Bytes) (j n:Nat) (h:4≤n):pW s j n=wordAt s j:=by
 match n,h with
 |n+4,_=>rfl
theorem Xt0 (s:Bytes):refW s 64=words s:=by
 apply List.map_congr_left
 intro j hj
 have:=List.mem_range.1 hj
 exact Xnd s j _ (by omega)
theorem Xvy (s:Bytes) (q r:Nat) (hq:q<16) (_hr:r<4):(refW s (4*q+r)).getD q 0=pW s q r:=by
 simp [refW,List.getD,hq]
theorem Xq5 (s:Bytes) (q r:Nat) (_hq:q<16) (hr:r<4):(refW s (4*q+r)).set q (pW s q (r+1))=refW s (4*q+r+1):=by
 apply List.ext_getElem
 ·simp [refW]
 ·intro j h1 h2
  simp only [refW,List.getElem_set,List.getElem_map,List.getElem_range]
  by_cases h:q=j
  ·subst h
   rw [if_pos rfl,show 4*q+r+1-4*q=r+1 by omega]
  ·rw [if_neg h]
   rcases Nat.lt_or_ge j q with hj|hj
   ·rw [Xnd s j _ (by omega),Xnd s j _ (by omega)]
   ·rw [show 4*q+r-4*j=0 by omega,show 4*q+r+1-4*j=0 by omega]
theorem Xii (s:Bytes) (i:Nat):0≤byteI s i∧byteI s i<4294967296:=by unfold byteI;omega
theorem Xfr (s:Bytes) (k:Nat) (h:k<s.length):(s[k].toNat:Int)%4294967296=byteI s k:=by simp [byteI,h]
theorem pW_0 (s:Bytes) (q k:Nat) (hk:k=4*q+0) (h:k<s.length):bits .or .u32 (pW s q 0) ((s[k].toNat:Int)%4294967296)=pW s q 1:=by
 rw [Xfr s k h,hk]
 exact Xrn _ (Xii _ _).1 (Xii _ _).2
theorem pW_1 (s:Bytes) (q k:Nat) (hk:k=4*q+1) (h:k<s.length):bits .or .u32 (pW s q 1) ((s[k].toNat:Int)%4294967296*256%4294967296)=pW s q 2:=by
 rw [Xfr s k h,hk];rfl
theorem pW_2 (s:Bytes) (q k:Nat) (hk:k=4*q+2) (h:k<s.length):bits .or .u32 (pW s q 2) ((s[k].toNat:Int)%4294967296*65536%4294967296)=pW s q 3:=by
 rw [Xfr s k h,hk];rfl
theorem pW_3 (s:Bytes) (q k:Nat) (hk:k=4*q+3) (h:k<s.length):bits .or .u32 (pW s q 3) ((s[k].toNat:Int)%4294967296*16777216%4294967296)=pW s q 4:=by
 rw [Xfr s k h,hk];rfl
def vFill (hs:List Int) (k:Nat):List Int:=(List.range 16).map fun j=>if j<8 then (if j<k then hs.getD j 0 else 0) else (if j-8<k then blkIV.getD (j-8) 0 else 0)
theorem Xf8 (hs:List Int) (k:Nat):(vFill hs k).length=16:=by simp [vFill]
theorem Xpo (hs:List Int):vFill hs 0=List.replicate 16 0:=by simp [vFill,List.map_const']
theorem Xpp (hs:List Int) (k:Nat) (hk:k<8):((vFill hs k).set k (hs.getD k 0)).set (k+8) (blkIV.getD k 0)=vFill hs (k+1):=by
 apply List.ext_getElem
 ·simp [vFill]
 ·intro j h1 h2
  simp only [vFill,List.getElem_set,List.getElem_map,List.getElem_range]
  by_cases h:k+8=j
  ·subst h
   rw [if_pos rfl,if_neg (by omega),if_pos (by omega),show k+8-8=k by omega]
  ·rw [if_neg h]
   by_cases h':k=j
   ·subst h'
    rw [if_pos rfl,if_pos hk,if_pos (by omega)]
   ·rw [if_neg h']
    by_cases hj:j<8
    ·rw [if_pos hj,if_pos hj]
     by_cases hjk:j<k
     ·rw [if_pos hjk,if_pos (by omega)]
     ·rw [if_neg hjk,if_neg (by omega)]
    ·rw [if_neg hj,if_neg hj]
     by_cases hjk:j-8<k
     ·rw [if_pos hjk,if_pos (by omega)]
     ·rw [if_neg hjk,if_neg (by omega)]
theorem Xqr (hs:List Int) (h:hs.length=8):vFill hs 8=hs++blkIV:=by
 obtain ⟨a,b,c,d,e,f,g,i,rfl⟩:=Xng h
 rfl
def refPerms:List Bytes:= [[48,49,50,51,52,53,54,55,56,57,97,98,99,100,101,102],[101,97,52,56,57,102,100,54,49,99,48,50,98,55,53,51],[98,56,99,48,53,50,102,100,97,101,51,54,55,49,57,52],[55,57,51,49,100,99,98,101,50,54,53,97,52,48,102,56],[57,48,53,55,50,52,97,102,101,49,98,99,54,56,51,100],[50,99,54,97,48,98,56,51,52,100,55,53,102,101,49,57],[99,53,49,102,101,100,52,97,48,55,54,51,57,50,56,98],[100,98,55,101,99,49,51,57,53,48,102,52,56,54,50,97],[54,102,101,57,98,51,48,56,99,50,100,55,49,52,97,53],[97,50,56,52,55,54,49,53,102,98,57,101,51,99,100,48]]
def refPerm (r:Nat):Bytes:=refPerms.getD r []
def digitP (c:Nat):Nat:=if 97≤c then c-87 else c-48
theorem Xep (r:Nat) (h:r<10):(refPerm r).length=16:=by revert r;decide
theorem Xl4 (r i:Nat) (hr:r<10) (hi:i<16):digitP ((refPerm r).getD i 0).toNat=sigma r i∧48≤((refPerm r).getD i 0).toNat∧((refPerm r).getD i 0).toNat≤102:=by
 revert i;revert r;decide
set_option maxRecDepth 100000 in
theorem Xc5 (r:Nat) (hr:r<10) (w:World):Calls Tryz.prog 202 #[.int .i64 r] w fun e w'=>e= .returned (S (refPerm r))∧Below w.heap.size w w':=by
 match r,hr with
 |0,_=>go_enter Tryz.func202,Tryz.ntmps202;go_wp2;go_ret;exact ⟨rfl,Qb _ _⟩
 |1,_=>go_enter Tryz.func202,Tryz.ntmps202;go_wp2;go_ret;exact ⟨rfl,Qb _ _⟩
 |2,_=>go_enter Tryz.func202,Tryz.ntmps202;go_wp2;go_ret;exact ⟨rfl,Qb _ _⟩
 |3,_=>go_enter Tryz.func202,Tryz.ntmps202;go_wp2;go_ret;exact ⟨rfl,Qb _ _⟩
 |4,_=>go_enter Tryz.func202,Tryz.ntmps202;go_wp2;go_ret;exact ⟨rfl,Qb _ _⟩
 |5,_=>go_enter Tryz.func202,Tryz.ntmps202;go_wp2;go_ret;exact ⟨rfl,Qb _ _⟩
 |6,_=>go_enter Tryz.func202,Tryz.ntmps202;go_wp2;go_ret;exact ⟨rfl,Qb _ _⟩
 |7,_=>go_enter Tryz.func202,Tryz.ntmps202;go_wp2;go_ret;exact ⟨rfl,Qb _ _⟩
 |8,_=>go_enter Tryz.func202,Tryz.ntmps202;go_wp2;go_ret;exact ⟨rfl,Qb _ _⟩
 |9,_=>go_enter Tryz.func202,Tryz.ntmps202;go_wp2;go_ret;exact ⟨rfl,Qb _ _⟩
set_option maxRecDepth 100000 in
theorem Xdk (c:Nat) (h0:48≤c) (h1:c≤102) (w:World):Calls Tryz.prog 205 #[.int .u8 c] w fun e w'=>e= .returned (.int .i64 (digitP c:Nat))∧Below w.heap.size w w':=by
 have hw1:IntKind.i64.wrap (c:Int)=c:=IntWalk.i64_in _ (by omega)
 by_cases h:97≤c
 ·have hd:decide (97≤(c:Int))=true:=by simp;omega
  have Hp:=Qh (show (digitP c:Int)=(c:Int)-87 by rw [digitP,if_pos h];omega)
  go_enter Tryz.func205,Tryz.ntmps205
  go_wp2
  go_ret
  exact ⟨Xac Hp.out.symm,Qb _ _⟩
 ·have hd:decide (97≤(c:Int))=false:=by simp;omega
  have Hp:=Qh (show (digitP c:Int)=(c:Int)-48 by rw [digitP,if_neg h];omega)
  go_enter Tryz.func205,Tryz.ntmps205
  go_wp2
  go_ret
  exact ⟨Xac Hp.out.symm,Qb _ _⟩
set_option maxRecDepth 100000 in
theorem Xe8 (w:World):Calls Tryz.prog 139 #[] w fun e w'=>e= .returned (.agg (row blkIV))∧Below w.heap.size w w':=by
 go_enter Tryz.func139,Tryz.ntmps139
 go_wp2
 refine bodyPost_ret (results_cell_row rfl _ _ w.heap.size _ (row blkIV) (0,0) _ rfl (heap_alloc_new w (.cells (row blkIV) 111)) Tryz.underlying111 rfl (by kernel_rfl)) rfl ⟨rfl,?_⟩
 exact (Qb _ _).alloc (Qn _) _
def quadZ:Array Value:= #[.int .i64 0,.int .i64 0,.int .i64 0,.int .i64 0]
theorem Xp0 (k:Nat) (h:k<4):quad k=(k,k+4,k+8,k+12):=by revert k;decide
theorem Xp1 (k:Nat) (h:k<4):quad (k+4)=(k,4+(k+1)%4,8+(k+2)%4,12+(k+3)%4):=by revert k;decide
set_option maxRecDepth 100000 in
set_option maxHeartbeats 400000 in
theorem Xe7 (k:Nat) (hk:k<8) (w:World):Calls Tryz.prog 203 #[.int .i64 k] w fun e w'=>e= .returned (quadV (quad k))∧Below w.heap.size w w':=by
 by_cases h:k<4
 ·have Hq:=Qh (Xp0 k h)
  have hz:=heap_alloc_new w (.cells quadZ 164)
  have hi4:(Tryz.prog.info? 164).map (·.size)=some (#[.int .i64 k,.int .i64 ((k:Int)+4),.int .i64 ((k:Int)+8),.int .i64 ((k:Int)+12)]:Array Value).size:=by kernel_rfl
  have ho4:(#[.int .i64 k,.int .i64 ((k:Int)+4),.int .i64 ((k:Int)+8),.int .i64 ((k:Int)+12)]:Array Value).all (·.oneCell')=true:=by simp [Value.oneCell']
  go_enter Tryz.func203,Tryz.ntmps203
  go_wp2_with (refine wpList_store_row rfl 164 _ _ rfl w.heap.size #[.int .i64 k,.int .i64 ((k:Int)+4),.int .i64 ((k:Int)+8),.int .i64 ((k:Int)+12)] rfl rfl 164 quadZ hz hi4 rfl ho4 ?_)
  refine bodyPost_ret (results_cell_row rfl _ _ w.heap.size _ #[.int .i64 k,.int .i64 ((k:Int)+4),.int .i64 ((k:Int)+8),.int .i64 ((k:Int)+12)] (0,0) _ rfl (setRow_heap _ _ _ _ _ _ hz) Tryz.underlying164 rfl hi4) rfl ⟨by rw [Hq.out];rfl,below_setRow ((Qb _ _).alloc (Qn _) _) (Qn _) _⟩
 ·obtain ⟨q,rfl⟩:∃q,k=q+4:=⟨k-4,by omega⟩
  have Hq:=Qh (Xp1 q (by omega))
  have hz:=heap_alloc_new w (.cells quadZ 164)
  have hs:((q+4:Nat):Int)=(q:Int)+4:=by omega
  rw [hs]
  clear hs
  have hi4:(Tryz.prog.info? 164).map (·.size)=some (#[.int .i64 q,.int .i64 (4+((q:Int)+1)%4),.int .i64 (8+((q:Int)+2)%4),.int .i64 (12+((q:Int)+3)%4)]:Array Value).size:=by kernel_rfl
  have ho4:(#[.int .i64 q,.int .i64 (4+((q:Int)+1)%4),.int .i64 (8+((q:Int)+2)%4),.int .i64 (12+((q:Int)+3)%4)]:Array Value).all (·.oneCell')=true:=by simp [Value.oneCell']
  go_enter Tryz.func203,Tryz.ntmps203
  go_wp2_with (refine wpList_store_row rfl 164 _ _ rfl w.heap.size #[.int .i64 q,.int .i64 (4+((q:Int)+1)%4),.int .i64 (8+((q:Int)+2)%4),.int .i64 (12+((q:Int)+3)%4)] rfl rfl 164 quadZ hz hi4 rfl ho4 ?_)
  refine bodyPost_ret (results_cell_row rfl _ _ w.heap.size _ #[.int .i64 q,.int .i64 (4+((q:Int)+1)%4),.int .i64 (8+((q:Int)+2)%4),.int .i64 (12+((q:Int)+3)%4)] (0,0) _ rfl (setRow_heap _ _ _ _ _ _ hz) Tryz.underlying164 rfl hi4) rfl ⟨by rw [Hq.out];rfl,below_setRow ((Qb _ _).alloc (Qn _) _) (Qn _) _⟩
end Go.Proofs.YtdodihnehppnmaaGreatDoor
