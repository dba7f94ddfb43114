/-
  Walks and laws that the claim's theorem uses: texts NrC NrD NrE EdF EdG, joined; comments out. Conditions: as each theorem says.
-/
import Derived.Test.YtdodihnehppnmaaGreatDoorTO15
set_option linter.all false
namespace Go.Proofs.YtdodihnehppnmaaGreatDoor
open Go.RowKit
def idxR (s:Bytes) (a:Nat) (c:UInt8):Int:=if a+(upTo s a c).length<s.length then ((a+(upTo s a c).length:Nat):Int) else -1
def CleanP (s:Bytes) (a k:Nat) (c:UInt8):Prop:= ∀x∈(s.drop a).take (k-a),x≠c
def decR (t:Bytes):Int:=if natOk t=true then ((satN (digN 0 t):Nat):Int) else 0


def RfB (W:World) (b:Nat) (s:Bytes) (a:Nat) (e:Int):Prop:=W.heap[b]? =some (.cells #[S s,.int .i64 (a:Int),.int .i64 e] 199 (0,0))
def rfT {α:Type} (z:α) (r:Rd α) (a:Nat) (e:Int):α × Nat × Int:=if e≠0 then (z,a,e) else match r with| .ok p=>(p.1,p.2,0)| .error c=>(z,0,c)
theorem Xck {α:Type} (z:α) (r:Rd α) (a:Nat) {e:Int} (h:e≠0):rfT z r a e=(z,a,e):=by unfold rfT;rw [if_pos h]
theorem Xof {α:Type} (z x:α) (a b:Nat):rfT z (.ok (x,b)) a 0=(x,b,0):=by unfold rfT;rw [if_neg (by simp)]
theorem Xcj {α:Type} (z:α) (c:Int) (a:Nat):rfT z (.error c) a 0=(z,0,c):=by unfold rfT;rw [if_neg (by simp)]
def rfC (most:Int) (s:Bytes) (a:Nat) (e:Int):Int × Nat × Int:=
 let p:=rfT 0 (rdNum s a) a e
 if p.2.2≠0 then (0,p.2) else if p.1<0∨most<p.1 then (0,p.2.1,2) else p
def rfA (s:Bytes):Nat→Nat→Int→List At→List At × Nat × Int
 |0,a,e,acc=>(acc,a,e)
 |n+1,a,e,acc=>if e≠0 then (acc,a,e) else
  rfA s n (rfT [] (rdStr s (rfT [] (rdStr s a) a e).2.1) (rfT [] (rdStr s a) a e).2.1 (rfT [] (rdStr s a) a e).2.2).2.1 (rfT [] (rdStr s (rfT [] (rdStr s a) a e).2.1) (rfT [] (rdStr s a) a e).2.1 (rfT [] (rdStr s a) a e).2.2).2.2
   (acc++ [⟨(rfT [] (rdStr s a) a e).1,(rfT [] (rdStr s (rfT [] (rdStr s a) a e).2.1) (rfT [] (rdStr s a) a e).2.1 (rfT [] (rdStr s a) a e).2.2).1⟩])
def kUp (x:Bytes):Nat→Int
 |0=>0
 |i+1=>if nameP ((i:Int)+1)=x then (i:Int)+1 else kUp x i
theorem Xbx {α:Type} (z:α) (p:α × Nat) (a:Nat):rfT z (.ok p) a 0=(p.1,p.2,0):=Xof z p.1 a p.2
theorem Xvl {m:Int} {s:Bytes} {a:Nat} {x:Int} {b:Nat} (h:rdCnt m s a= .ok (x,b)):rfC m s a 0=(x,b,0):=by
 unfold rdCnt at h
 unfold rfC
 cases hn:rdNum s a with
 |error e=>rw [hn] at h;cases h
 |ok p=>
  rw [hn,Rb_ok] at h
  rw [Xbx]
  split at h
  ·cases h
  ·rename_i hk
   injection h with h
   subst h
   simp only
   rw [if_neg (by simp),if_neg hk]
theorem Xvm {m:Int} {s:Bytes} {a:Nat} {z:Int} (h:rdCnt m s a= .error z):(rfC m s a 0).2.2=z∧(rfC m s a 0).1=0:=by
 have hz:=Xhq h
 unfold rdCnt at h
 unfold rfC
 cases hn:rdNum s a with
 |error e=>
  rw [hn] at h
  injection h with h
  subst h
  rw [Xcj]
  simp only
  rw [if_pos (by simpa using hz)]
  exact ⟨rfl,rfl⟩
 |ok p=>
  rw [hn,Rb_ok] at h
  rw [Xbx]
  split at h
  ·rename_i hk
   injection h with h
   subst h
   simp only
   rw [if_neg (by simp),if_pos hk]
   exact ⟨rfl,rfl⟩
  ·cases h
theorem Xhm (m:Int) (s:Bytes) (a:Nat) {e:Int} (h:e≠0):rfC m s a e=(0,a,e):=by
 unfold rfC
 rw [Xck _ _ _ h]
 simp only
 rw [if_pos h]
theorem Xi0 (s:Bytes) (n a:Nat) {e:Int} (h:e≠0) (acc:List At):rfA s n a e acc=(acc,a,e):=by
 cases n with
 |zero=>rfl
 |succ n=>rw [rfA,if_pos h]
theorem Xvn (s:Bytes):∀(n a:Nat) (acc:List At),(∀l b,rdAts s n a acc= .ok (l,b)→rfA s n a 0 acc=(l,b,0))∧(∀z,rdAts s n a acc= .error z→(rfA s n a 0 acc).2.2=z∧(z != 0)=true)
 |0,a,acc=>by
  refine ⟨fun l b h=> ?_,fun z h=> ?_⟩
  ·rw [rdAts] at h
   injection h with h
   injection h with h1 h2
   subst h1 h2
   rfl
  ·rw [rdAts] at h;cases h
 |n+1,a,acc=>by
  rw [rdAts,rfA,if_neg (by simp)]
  cases h1:rdStr s a with
  |error c=>
   have hc:=Xav h1
   simp only [Xcj]
   rw [Xck _ _ _ (by simpa using hc),Xi0 _ _ _ (by simpa using hc)]
   exact ⟨fun l b h=>(by cases h),fun z h=>(by injection h with h;subst h;exact ⟨rfl,hc⟩)⟩
  |ok p=>
   simp only [Xbx,Rb_ok]
   cases h2:rdStr s p.2 with
   |error c=>
    have hc:=Xav h2
    simp only [Xcj]
    rw [Xi0 _ _ _ (by simpa using hc)]
    exact ⟨fun l b h=>(by cases h),fun z h=>(by injection h with h;subst h;exact ⟨rfl,hc⟩)⟩
   |ok q=>
    simp only [Xbx,Rb_ok]
    exact Xvn s n q.2 (acc++ [⟨p.1,q.1⟩])
def rfHd (s:Bytes):Ent × Int:=
 let p:=rfT [] (rdStr s 0) 0 0
 let z:=if p.2.2=0∧kindOf p.1=0 then 3 else p.2.2
 let q:=rfT [] (rdStr s p.2.1) p.2.1 z
 let n:=rfC 400 s q.2.1 q.2.2
 let l:=rfA s n.1.toNat n.2.1 n.2.2 []
 let t:=rfT [] (rdStr s l.2.1) l.2.1 l.2.2
 (⟨kindOf p.1,q.1,l.1,t.1,0,[],[]⟩,if t.2.2=0∧t.2.1≠s.length then 3 else t.2.2)
theorem Xvx (s:Bytes):(∀x,rdHead s= .ok x→rfHd s=(x,0))∧ ∀z,rdHead s= .error z→(rfHd s).2=z∧(z != 0)=true:=by
 unfold rdHead rfHd
 cases h1:rdStr s 0 with
 |error c=>
  have hc:=Xav h1
  have hc':c≠0:=by simpa using hc
  simp only [Xcj,Rb_err]
  rw [if_neg (fun h=>hc' h.1),Xck _ _ _ hc']
  simp only [Xhm _ _ _ hc',Xi0 _ _ _ hc',Xck _ _ _ hc']
  rw [if_neg (fun h=>hc' h.1)]
  exact ⟨fun x h=>(by cases h),fun z h=>(by injection h with h;subst h;exact ⟨rfl,hc⟩)⟩
 |ok p=>
  simp only [Xbx,Rb_ok]
  by_cases hk:kindOf p.1=0
  ·rw [if_pos hk,if_pos ⟨by trivial,hk⟩]
   have h3:(3:Int)≠0:=by decide
   simp only [Xck _ _ _ h3,Xhm _ _ _ h3,Xi0 _ _ _ h3]
   exact ⟨fun x h=>(by cases h),fun z h=>(by injection h with h;subst h;exact ⟨rfl,rfl⟩)⟩
  ·rw [if_neg hk,if_neg (fun h=>hk h.2)]
   cases h2:rdStr s p.2 with
   |error c=>
    have hc:=Xav h2
    have hc':c≠0:=by simpa using hc
    simp only [Xcj,Rb_err,Xhm _ _ _ hc',Xi0 _ _ _ hc',Xck _ _ _ hc']
    rw [if_neg (fun h=>hc' h.1)]
    exact ⟨fun x h=>(by cases h),fun z h=>(by injection h with h;subst h;exact ⟨rfl,hc⟩)⟩
   |ok q=>
    simp only [Xbx,Rb_ok]
    cases h3:rdCnt 400 s q.2 with
    |error c=>
     have hc:=Xhq h3
     have hc':c≠0:=by simpa using hc
     obtain ⟨e1,e2⟩:=Xvm h3
     have hcc:(rfC 400 s q.2 0).2.2≠0:=by rw [e1];exact hc'
     simp only [Rb_err,Xi0 _ _ _ hcc,Xck _ _ _ hcc]
     rw [if_neg (fun h=>hcc h.1)]
     exact ⟨fun x h=>(by cases h),fun z h=>(by injection h with h;subst h;exact ⟨e1,hc⟩)⟩
    |ok n=>
     rw [Xvl (x:=n.1) (b:=n.2) h3]
     simp only [Rb_ok]
     obtain ⟨k1,k2⟩:=Xvn s n.1.toNat n.2 []
     cases h4:rdAts s n.1.toNat n.2 [] with
     |error c=>
      obtain ⟨e1,hc⟩:=k2 c h4
      have hc':c≠0:=by simpa using hc
      have hcc:(rfA s n.1.toNat n.2 0 []).2.2≠0:=by rw [e1];exact hc'
      simp only [Rb_err,Xck _ _ _ hcc]
      rw [if_neg (fun h=>hcc h.1)]
      exact ⟨fun x h=>(by cases h),fun z h=>(by injection h with h;subst h;exact ⟨e1,hc⟩)⟩
     |ok l=>
      rw [k1 l.1 l.2 h4]
      simp only [Rb_ok]
      cases h5:rdStr s l.2 with
      |error c=>
       have hc:=Xav h5
       have hc':c≠0:=by simpa using hc
       simp only [Xcj,Rb_err]
       rw [if_neg (fun h=>hc' h.1)]
       exact ⟨fun x h=>(by cases h),fun z h=>(by injection h with h;subst h;exact ⟨rfl,hc⟩)⟩
      |ok t=>
       simp only [Xbx,Rb_ok]
       by_cases ht:t.2=s.length
       ·rw [if_neg (by simpa using ht),if_neg (fun h=>h.2 ht)]
        exact ⟨fun x h=>(by injection h with h;subst h;rfl),fun z h=>(by cases h)⟩
       ·rw [if_pos ht,if_pos ⟨by trivial,ht⟩]
        exact ⟨fun x h=>(by cases h),fun z h=>(by injection h with h;subst h;exact ⟨rfl,rfl⟩)⟩
end Go.Proofs.YtdodihnehppnmaaGreatDoor
