/- Lemmas for the claim's theorem;conditions: as each says. -/
import Derived.Test.YtdodihnehppnmaaGreatDoorG15
set_option linter.all false
namespace Go.Proofs.YtdodihnehppnmaaGreatDoor
open Go.RowKit
variable{α:Type}{e m:Int}{s:ae}{a:Nat}
def ak6(s:ae)(a:Nat)(c:UInt8):Int:=if a+(upTo s a c).length<s.length then((a+(upTo s a c).length:Nat):Int)else -1
def Xr(s:ae)(a k:Nat)(c:UInt8):Prop:=∀x∈(s.drop a).take (k-a),x≠c
def ak7(t:ae):Int:=if jg t=true then((Pf (dS 0 t):Nat):Int)else 0


def RfB(W:World)(b:Nat)(s:ae)(a:Nat)(e:Int):Prop:=W.heap[b]?=some (.cells #[S s,.int .i64 (a:Int),.int .i64 e] 199 (0,0))
def mI{α:Type}(z:α)(r:Rd α)(a:Nat)(e:Int):α×Nat×Int:=if e≠0 then(z,a,e)else match r with| .ok p=>(p.1,p.2,0)| .error c=>(z,0,c)
theorem zO(z:α)(r:Rd α)(a:Nat)(h:e≠0):mI z r a e=(z,a,e):=by unfold mI;rw[if_pos h]
theorem TN(z x:α)(a b:Nat):mI z (.ok (x,b)) a 0=(x,b,0):=by unfold mI;rw[if_neg (by simp)]
theorem zP(z:α)(c:Int)(a:Nat):mI z (.error c) a 0=(z,0,c):=by unfold mI;rw[if_neg (by simp)]
def BL(most:Int)(s:ae)(a:Nat)(e:Int):Int×Nat×Int:=
 let p:=mI 0 (rdNum s a) a e
 if p.2.2≠0 then(0,p.2)else if p.1<0∨most<p.1 then(0,p.2.1,2)else p
def GH(s:ae):Nat→Nat→Int→List At→List At×Nat×Int
 |0,a,e,acc=>(acc,a,e)
 |n+1,a,e,acc=>if e≠0 then(acc,a,e)else
  GH s n (mI [] (rdStr s (mI [] (rdStr s a) a e).2.1) (mI [] (rdStr s a) a e).2.1 (mI [] (rdStr s a) a e).2.2).2.1 (mI [] (rdStr s (mI [] (rdStr s a) a e).2.1) (mI [] (rdStr s a) a e).2.1 (mI [] (rdStr s a) a e).2.2).2.2
   (acc++[⟨(mI [] (rdStr s a) a e).1,(mI [] (rdStr s (mI [] (rdStr s a) a e).2.1) (mI [] (rdStr s a) a e).2.1 (mI [] (rdStr s a) a e).2.2).1⟩])
def kUp(x:ae):Nat→Int
 |0=>0
 |i+1=>if bH ((i:Int)+1)=x then(i:Int)+1 else kUp x i
theorem BM(z:α)(p:α×Nat)(a:Nat):mI z (.ok p) a 0=(p.1,p.2,0):=TN z p.1 a p.2
theorem Xx4{x:Int}{b:Nat}(h:gW m s a= .ok (x,b)):BL m s a 0=(x,b,0):=by
 unfold gW at h;unfold BL;cases hn:rdNum s a with
 |error e=>rw[hn]at h;cases h
 |ok p=>
  rw[hn,aR]at h;rw[BM];split at h
  ·cases h
  ·rename_i hk;injection h with h
   subst h;simp only;rw[if_neg (by simp),if_neg hk]
theorem Xx5{z:Int}(h:gW m s a= .error z):(BL m s a 0).2.2=z∧(BL m s a 0).1=0:=by
 have hz:=WG h;unfold gW at h;unfold BL;cases hn:rdNum s a with
 |error e=>
  rw[hn]at h;injection h with h
  subst h;rw[zP];simp only;rw[if_pos (by simpa using hz)];exact⟨rfl,rfl⟩
 |ok p=>
  rw[hn,aR]at h;rw[BM];split at h
  ·rename_i hk;injection h with h
   subst h;simp only;rw[if_neg (by simp),if_pos hk];exact⟨rfl,rfl⟩
  ·cases h
theorem KR(m:Int)(s:ae)(a:Nat)(h:e≠0):BL m s a e=(0,a,e):=by
 unfold BL;rw[zO _ _ _ h];simp only;rw[if_pos h]
theorem NC(s:ae)(n a:Nat)(h:e≠0)(acc:List At):GH s n a e acc=(acc,a,e):=by
 cases n with
 |zero=>rfl
 |succ n=>rw[GH,if_pos h]
theorem Xx6(s:ae):∀(n a:Nat) (acc:List At),(∀l b,jh s n a acc= .ok (l,b)→GH s n a 0 acc=(l,b,0))∧(∀z,jh s n a acc= .error z→(GH s n a 0 acc).2.2=z∧(z !=0)=true)
 |0,a,acc=>by
  refine⟨fun l b h=> ?_,fun z h=> ?_⟩
  ·rw[jh]at h;injection h with h
   injection h with h1 h2
   subst h1 h2;rfl
  ·rw[jh]at h;cases h
 |n+1,a,acc=>by
  rw[jh,GH,if_neg (by simp)];cases h1:rdStr s a with
  |error c=>
   have hc:=ze h1;simp only[zP];rw[zO _ _ _ (by simpa using hc),NC _ _ _ (by simpa using hc)];exact⟨fun l b h=>(by cases h),fun z h=>(by injection h with h;subst h;exact⟨rfl,hc⟩)⟩
  |ok p=>
   simp only[BM,aR];cases h2:rdStr s p.2 with
   |error c=>
    have hc:=ze h2;simp only[zP];rw[NC _ _ _ (by simpa using hc)];exact⟨fun l b h=>(by cases h),fun z h=>(by injection h with h;subst h;exact⟨rfl,hc⟩)⟩
   |ok q=>
    simp only[BM,aR];exact Xx6 s n q.2 (acc++[⟨p.1,q.1⟩])
def DY(s:ae):ay×Int:=
 let p:=mI [] (rdStr s 0) 0 0
 let z:=if p.2.2=0∧kindOf p.1=0 then 3 else p.2.2
 let q:=mI [] (rdStr s p.2.1) p.2.1 z
 let n:=BL 400 s q.2.1 q.2.2
 let l:=GH s n.1.toNat n.2.1 n.2.2 []
 let t:=mI [] (rdStr s l.2.1) l.2.1 l.2.2
 (⟨kindOf p.1,q.1,l.1,t.1,0,[],[]⟩,if t.2.2=0∧t.2.1≠s.length then 3 else t.2.2)
theorem Xyk(s:ae):(∀x,ek s= .ok x→DY s=(x,0))∧ ∀z,ek s= .error z→(DY s).2=z∧(z !=0)=true:=by
 unfold ek DY;cases h1:rdStr s 0 with
 |error c=>
  have hc:=ze h1;have kF:c≠0:=by simpa using hc
  simp only[zP,dK];rw[if_neg (fun h=>kF h.1),zO _ _ _ kF];simp only[KR _ _ _ kF,NC _ _ _ kF,zO _ _ _ kF];rw[if_neg (fun h=>kF h.1)];exact⟨fun x h=>(by cases h),fun z h=>(by injection h with h;subst h;exact⟨rfl,hc⟩)⟩
 |ok p=>
  simp only[BM,aR];by_cases hk:kindOf p.1=0
  ·rw[if_pos hk,if_pos ⟨by trivial,hk⟩];have h3:(3:Int)≠0:=by decide
   simp only[zO _ _ _ h3,KR _ _ _ h3,NC _ _ _ h3];exact⟨fun x h=>(by cases h),fun z h=>(by injection h with h;subst h;exact⟨rfl,rfl⟩)⟩
  ·rw[if_neg hk,if_neg (fun h=>hk h.2)];cases h2:rdStr s p.2 with
   |error c=>
    have hc:=ze h2;have kF:c≠0:=by simpa using hc
    simp only[zP,dK,KR _ _ _ kF,NC _ _ _ kF,zO _ _ _ kF];rw[if_neg (fun h=>kF h.1)];exact⟨fun x h=>(by cases h),fun z h=>(by injection h with h;subst h;exact⟨rfl,hc⟩)⟩
   |ok q=>
    simp only[BM,aR];cases h3:gW 400 s q.2 with
    |error c=>
     have hc:=WG h3;have kF:c≠0:=by simpa using hc
     obtain⟨e1,e2⟩:=Xx5 h3;have hcc:(BL 400 s q.2 0).2.2≠0:=by rw[e1];exact kF
     simp only[dK,NC _ _ _ hcc,zO _ _ _ hcc];rw[if_neg (fun h=>hcc h.1)];exact⟨fun x h=>(by cases h),fun z h=>(by injection h with h;subst h;exact⟨e1,hc⟩)⟩
    |ok n=>
     rw[Xx4 (x:=n.1) (b:=n.2) h3];simp only[aR];obtain⟨k1,k2⟩:=Xx6 s n.1.toNat n.2 [];cases h4:jh s n.1.toNat n.2 []with
     |error c=>
      obtain⟨e1,hc⟩:=k2 c h4;have kF:c≠0:=by simpa using hc
      have hcc:(GH s n.1.toNat n.2 0 []).2.2≠0:=by rw[e1];exact kF
      simp only[dK,zO _ _ _ hcc];rw[if_neg (fun h=>hcc h.1)];exact⟨fun x h=>(by cases h),fun z h=>(by injection h with h;subst h;exact⟨e1,hc⟩)⟩
     |ok l=>
      rw[k1 l.1 l.2 h4];simp only[aR];cases h5:rdStr s l.2 with
      |error c=>
       have hc:=ze h5;have kF:c≠0:=by simpa using hc
       simp only[zP,dK];rw[if_neg (fun h=>kF h.1)];exact⟨fun x h=>(by cases h),fun z h=>(by injection h with h;subst h;exact⟨rfl,hc⟩)⟩
      |ok t=>
       simp only[BM,aR];by_cases ht:t.2=s.length
       ·rw[if_neg (by simpa using ht),if_neg (fun h=>h.2 ht)];exact⟨fun x h=>(by injection h with h;subst h;rfl),fun z h=>(by cases h)⟩
       ·rw[if_pos ht,if_pos ⟨by trivial,ht⟩];exact⟨fun x h=>(by cases h),fun z h=>(by injection h with h;subst h;exact⟨rfl,rfl⟩)⟩
