/-
  Walks and laws that the claim's theorem uses: texts HiS Trm ExQ ExR Trn Tro ExS EgA CkC PtK, joined; comments out. Conditions: as each theorem says.
-/
import Derived.Test.YtdodihnehppnmaaGreatDoorTO20
import Derived.Laws.OwnMore
set_option linter.all false
namespace Go.Proofs.YtdodihnehppnmaaGreatDoor
theorem Xj6 {x:Ent} (h:greatE x=false):x.path.length≤300∧x.target.length≤300∧x.digest.length≤100∧x.exts.length≤30:=by
 simp [greatE] at h
 omega
structure SIn (n:Nat) (s:Stt):Prop where
 ok:SOk n s
 sml:SmlT s.tree
theorem Xju:SIn 0 nilS:=⟨Xmt,fun _ h=>(by cases h)⟩
theorem SIn.mono {n m:Nat} {s:Stt} (h:SIn n s) (hm:n≤m):SIn m s:=⟨h.ok.mono hm,h.sml⟩
theorem Xgx {n:Nat} {s:Stt} (h:SIn n s) (e:Ent) (d:Int) (hp:e.path.length≤300) (ht:e.target.length≤300):SIn (n+1) (stpP s e d).1:=by
 refine ⟨Xjs h.ok e d,?_⟩
 unfold stpP
 split
 ·exact h.sml
 ·rename_i h1
  split
  ·exact h.sml
  ·split
   ·exact h.sml
   ·have ha:=Xct (t:=s.tree) (e:=e) (by omega)
    obtain ⟨_,hx⟩:=applyT_iff.1 ha
    intro z hz
    rw [hx] at hz
    rcases (Xro h.ok.tree.srt e z).1 hz with ⟨_,rfl⟩|⟨hz,_⟩
    ·omega
    ·exact h.sml z hz
theorem Xmw:∀(l:List Ent) {n:Nat} {s:Stt} (_:SIn n s) (d:Int),(∀e∈l,e.path.length≤300∧e.target.length≤300)→SIn (n+l.length) (runS s d l)
 | [],_,_,h,_,_=>h
 |e::l,n,s,h,d,hl=>by
  have he:=hl e (List.mem_cons_self ..)
  have:=Xmw l (Xgx h e d he.1 he.2) d fun x hx=>hl x (List.mem_cons_of_mem _ hx)
  exact this.mono (by simp;omega)
theorem Xtu (s:Stt) (d:Int) (l:List Ent) (e:Ent):runS s d (l++ [e])=(stpP (runS s d l) e d).1:=by simp [runS]
theorem Xtt {s:Stt} {d:Int} {l:List Ent} {k:Nat} (hk:k<l.length) {e:Ent} (he:l[k]=e):runS s d (l.take (k+1))=(stpP (runS s d (l.take k)) e d).1:=by
 rw [List.take_succ_eq_append_getElem hk,he,Xtu]
theorem Xve {s:Stt} {l:List Ses} {k:Nat} (hk:k<l.length) {x:Ses} (hx:l[k]=x):aftS s (l.take (k+1))=runS (aftS s (l.take k)) x.date x.ents:=by
 rw [List.take_succ_eq_append_getElem hk,hx,Xqm];rfl
theorem Xn4:∀(l:List Ses) {n:Nat} {s:Stt} (_:SIn n s),(∀x∈l,SesG x)→SIn (n+30*l.length) (aftS s l)
 | [],_,_,h,_=>h
 |x::l,n,s,h,hl=>by
  have hx:=hl x (List.mem_cons_self ..)
  have h1:=Xmw x.ents h x.date fun e he=>⟨hx.path e he,hx.target e he⟩
  have:=Xn4 l h1 fun y hy=>hl y (List.mem_cons_of_mem _ hy)
  have hn:=hx.nents
  exact this.mono (by simp only [List.length_cons];omega)
def pairs (l:List Ses):List (Ses × Ent):=l.flatMap fun s=>s.ents.map fun e=>(s,e)
def stq (s:Stt) (q:Ses × Ent):Stt:=(stpP s q.2 q.1.date).1
theorem Xkr (x:Ses):∀(l:List Ent) (s:Stt),runS s x.date l=(l.map fun e=>(x,e)).foldl stq s
 | [],_=>rfl
 |e::l,s=>by
  rw [List.map_cons,List.foldl_cons]
  exact Xkr x l _
theorem Xmk:∀(l:List Ses) (s:Stt),aftS s l=(pairs l).foldl stq s
 | [],_=>rfl
 |x::l,s=>by
  rw [pairs,List.flatMap_cons,List.foldl_append,←Xkr]
  exact Xmk l _
def verQ (p:Bytes):Stt→List (Ses × Ent)→List Ver
 |_,[]=> []
 |s,q::r=>(if verHit s p q.2 then [⟨q.1.num,q.1.date,q.2⟩] else [])++verQ p (stq s q) r
theorem Xk8:∀ {l:List Ses},(∀x∈l,SesG x)→(pairs l).length≤30*l.length
 | [],_=>Qn _
 |x::l,h=>by
  have h1:=(h x (List.mem_cons_self ..)).nents
  have h2:=Xk8 (l:=l) fun y hy=>h y (List.mem_cons_of_mem _ hy)
  rw [pairs,List.flatMap_cons,List.length_append,List.length_map,List.length_cons]
  have:(List.flatMap (fun s:Ses=>List.map (fun e=>(s,e)) s.ents) l).length≤30*l.length:=h2
  omega
theorem Xo2:∀(l:List (Ses × Ent)) {n:Nat} {s:Stt} (_:SIn n s),(∀q∈l,q.2.path.length≤300∧q.2.target.length≤300)→SIn (n+l.length) (l.foldl stq s)
 | [],_,_,h,_=>h
 |q::l,n,s,h,hl=>by
  have he:=hl q (List.mem_cons_self ..)
  have:=Xo2 l (Xgx h q.2 q.1.date he.1 he.2) fun x hx=>hl x (List.mem_cons_of_mem _ hx)
  exact this.mono (by simp;omega)
theorem Xsd (l:List (Ses × Ent)) (q:Ses × Ent) (s:Stt):(l++ [q]).foldl stq s=(stpP (l.foldl stq s) q.2 q.1.date).1:=by simp [stq]
def gr40 (s:Ses):Bool:=decide (100<s.prev.length) || (decide (1000<s.stream.length) || (decide (2100<s.sl.length) || ((decide (12<s.ents.length)&&decide (s.ents.length≠401)) || s.ents.any greatE)))
def gr41s (s:Ses):Bool:=decide (30<s.ents.length) || gr40 s
def wtS (s:Ses):Nat:=s.stream.length+10*s.ents.length
def wtL (l:List Ses):Nat:=(l.map wtS).sum
def gr41 (l:List Ses):Bool:=decide (8<l.length) || (l.any gr41s || decide (20000<wtL l))
structure Ses.Wf (s:Ses):Prop where
 num: -9223372036854775808≤s.num∧s.num≤9223372036854775807
 date: -9223372036854775808≤s.date∧s.date≤9223372036854775807
 ents:∀e∈s.ents,e.Wf
theorem Xnq {s:Ses} (h:gr40 s=false):s.prev.length≤100∧s.stream.length≤1000∧s.sl.length≤2100∧(s.ents.length≤12∨s.ents.length=401)∧ ∀e∈s.ents,greatE e=false:=by
 unfold gr40 at h
 simp only [Bool.or_eq_false_iff,Bool.and_eq_false_iff,decide_eq_false_iff_not] at h
 obtain ⟨h1,h2,h3,h4,h5⟩:=h
 refine ⟨by omega,by omega,by omega,by omega,fun e he=> ?_⟩
 have:=List.any_eq_false.1 h5 e he
 simpa using this
theorem Xo1 {s:Ses} (hw:s.Wf) (h:gr41s s=false):SesG s:=by
 unfold gr41s at h
 simp only [Bool.or_eq_false_iff,decide_eq_false_iff_not] at h
 obtain ⟨h1,h2,h3,h4,h5⟩:=And.intro h.1 (Xnq h.2)
 exact ⟨by omega,h3,h2,h4,hw.ents,fun e he=>(Xj6 (h5.2 e he)).1,fun e he=>(Xj6 (h5.2 e he)).2.1,fun e he=>(Xj6 (h5.2 e he)).2.2.2,hw.num,hw.date⟩
theorem Xnp {l:List Ses} (hw:∀x∈l,x.Wf) (h:gr41 l=false):l.length≤8∧(∀x∈l,SesG x)∧wtL l≤20000:=by
 unfold gr41 at h
 simp only [Bool.or_eq_false_iff,decide_eq_false_iff_not] at h
 obtain ⟨h1,h2,h3⟩:=h
 refine ⟨by omega,fun x hx=>Xo1 (hw x hx) ?_,by omega⟩
 have:=List.any_eq_false.1 h2 x hx
 simpa using this
theorem Xti {l:List Ses} {k:Nat} (hk:k<l.length) {x:Ses} (hx:l[k]=x):wtL (l.take (k+1))=wtL (l.take k)+wtS x:=by
 unfold wtL
 rw [List.take_succ_eq_append_getElem hk,hx]
 simp
theorem any_take_succ {α:Type} {p:α→Bool} {l:List α} {k:Nat} (hk:k<l.length) {x:α} (hx:l[k]=x) (h1:(l.take k).any p=false) (h2:p x=false):(l.take (k+1)).any p=false:=by
 rw [List.take_succ_eq_append_getElem hk,hx,List.any_append,h1];simp [h2]
theorem Xn3 {α:Type} {p:α→Bool} {l:List α} {k:Nat} (hk:k<l.length) {x:α} (hx:l[k]=x) (h:p x=true):l.any p=true:=
 List.any_eq_true.2 ⟨x,by rw [←hx];exact List.getElem_mem hk,h⟩
theorem Xxx {l:List Ses} (h:∀x∈l,x.stream.length≤1000∧x.ents.length≤30):wtL l≤1300*l.length:=by
 unfold wtL
 induction l with
 |nil=>simp
 |cons x l ih=>
  have h1:=h x (List.mem_cons_self ..)
  have h2:=ih fun y hy=>h y (List.mem_cons_of_mem _ hy)
  rw [List.map_cons,List.sum_cons,List.length_cons]
  have:wtS x≤1300:=by unfold wtS;omega
  omega
end Go.Proofs.YtdodihnehppnmaaGreatDoor
namespace Go.Proofs.YtdodihnehppnmaaGreatDoor
def SameE (x y:Ent):Prop:=x.path=y.path∧meaning x y=true
def All2:List Ent→List Ent→Prop
 | [],[]=>True
 |x::a,y::b=>SameE x y∧All2 a b
 |_,_=>False
end Go.Proofs.YtdodihnehppnmaaGreatDoor
namespace Go.Proofs.YtdodihnehppnmaaGreatDoor
def strmsP (L:List Ses):List Bytes:=L.map Ses.stream
def conP (st:List Bytes) (e:Ent):Bytes × Int:=
 if e.kind≠1 then ([],10)
 else if (getP st e.exts).2≠0 then ([],(getP st e.exts).2)
 else if ((getP st e.exts).1.length:Int)≠e.size∨sumP (getP st e.exts).1≠e.digest then ([],5)
 else ((getP st e.exts).1,0)
theorem Xs5 {st:List Bytes} {e:Ent} (h:(conP st e).2=0):e.kind=1∧((conP st e).1.length:Int)=e.size∧sumP (conP st e).1=e.digest:=by
 unfold conP at*
 split at h
 ·cases h
 ·rename_i k1
  split at h
  ·contradiction
  ·rename_i k2
   split at h
   ·cases h
   ·rename_i k3
    rw [if_neg k1,if_neg k2,if_neg k3]
    have h1:((getP st e.exts).1.length:Int)=e.size:=Classical.byContradiction fun q=>k3 (.inl q)
    have h2:sumP (getP st e.exts).1=e.digest:=Classical.byContradiction fun q=>k3 (.inr q)
    exact ⟨by omega,h1,h2⟩
theorem Xr7 (st:List Bytes):∀(l:List Xt) (out:Bytes),out.length≤65536→(getG st l out).1.length≤65536
 | [],out,h=>h
 |x::l,out,h=>by
  rw [getG]
  split
  ·simp
  ·split
   ·simp
   ·split
    ·simp
    ·rename_i k3
     apply Xr7 st l
     rw [List.length_append]
     split
     ·rw [List.length_replicate];omega
     ·rw [List.length_take];omega
theorem Xns (st:List Bytes) (l:List Xt):(getP st l).1.length≤65536:=Xr7 st l [] (by simp)
theorem Xwz (st:List Bytes) (e:Ent):(conP st e).1.length≤65536:=by
 unfold conP
 split
 ·simp
 ·split
  ·simp
  ·split
   ·simp
   ·exact Xns _ _
def contOf (st:List Bytes) (x:Ent):Bytes × Int:=if x.kind=1 then conP st x else ([],0)
def piece (st:List Bytes) (x:Ent):Bytes:=netP (headE x)++netP (contOf st x).1
def trG (st:List Bytes):List Ent→Bytes→Bytes × Int
 | [],out=>(out,0)
 |x::l,out=>if (contOf st x).2≠0 then ([],(contOf st x).2) else trG st l (out++piece st x)
def trP (st:List Bytes) (t:List Ent):Bytes × Int:=trG st t (numP t.length)
def treeAt (L:List Ses) (date:Int):List Ent:=(aftS nilS (L.take (asOf date L))).tree
def expT (L:List Ses) (date:Int):Bytes × Int:=trP (strmsP L) (treeAt L date)
theorem Xfp (st:List Bytes) (x:Ent):(contOf st x).1.length≤65536:=by
 unfold contOf
 split
 ·exact Xwz _ _
 ·simp
theorem Xvj (st:List Bytes):∀(t:List Ent) (out:Bytes),(trG st t out).2=0→(∀x∈t,(contOf st x).2=0)∧(trG st t out).1=out++t.flatMap (piece st)
 | [],out,_=>⟨fun _ h=>(by cases h),by simp [trG]⟩
 |x::t,out,h=>by
  rw [trG] at h ⊢
  split at h
  ·contradiction
  ·rename_i k
   rw [if_neg k]
   obtain ⟨h1,h2⟩:=Xvj st t _ h
   refine ⟨fun y hy=> ?_,by rw [h2];simp⟩
   rcases List.mem_cons.1 hy with rfl|hy
   ·omega
   ·exact h1 y hy
theorem Xkm {st st':List Bytes}:∀ {t:List Ent} (out:Bytes),(∀x∈t,contOf st x=contOf st' x)→trG st t out=trG st' t out
 | [],_,_=>rfl
 |x::t,out,h=>by
  have hx:=h x (by simp)
  rw [trG,trG,Xkm (t:=t) _ fun y hy=>h y (by simp [hy])]
  unfold piece
  rw [hx]
theorem Xt7 {t:List Ent} (ht:SrtT t) {e x:Ent} (h:x∈opT t e):x∈t∨x=e:=by
 rcases (Xro ht e x).1 h with ⟨_,rfl⟩|⟨hx,_⟩
 ·exact .inr rfl
 ·exact .inl hx
theorem Xoc (d:Int):∀(es:List Ent) (s:Stt) (n:Nat),SOk n s→AllOk d s es→ ∀x∈(runS s d es).tree,x∈s.tree∨x∈es
 | [],_,_,_,_,x,hx=> .inl hx
 |e::es,s,n,hs,⟨h1,h2⟩,x,hx=>by
  rcases Xoc d es _ _ (Xjs hs e d) h2 x hx with h|h
  ·rw [(step_ok h1).2.1] at h
   rcases Xt7 hs.tree.srt h with h|h
   ·exact .inl h
   ·exact .inr (by simp [h])
  ·exact .inr (by simp [h])
theorem Xph {l:List Ses}:∀ {xs:List Ses} {i:Nat} {s:Stt} {prev:Bytes} {date:Int} (n:Nat),SOk n s→chkFromH l i s prev date xs=0→
 ∀x∈(aftS s xs).tree,x∈s.tree∨ ∃j,j<xs.length∧storedP (l.take (i+j+1)) x=true
 | [],i,s,prev,date,n,hs,h,x,hx=> .inl hx
 |y::xs,i,s,prev,date,n,hs,h,x,hx=>by
  obtain ⟨_,h2,h3,h4⟩:=Xpi h
  have hx':x∈(aftS (runS s y.date y.ents) xs).tree:=hx
  rcases Xph _ (Xmv y.ents hs y.date) h4 x hx' with k|⟨j,k1,k2⟩
  ·rcases Xoc y.date y.ents s n hs h2 x k with k|k
   ·exact .inl k
   ·exact .inr ⟨0,by simp,h3 x k⟩
  ·exact .inr ⟨j+1,by simp;omega,by rw [show i+(j+1)+1=i+1+j+1 by omega];exact k2⟩
theorem Xkj {l:List Ses} {m k:Nat} (h:m≤k) {x:Xt} (h0:0≤x.s) (hx:xtIn (l.take m) x=true):xtIn (l.take k) x=true:=by
 unfold xtIn at*
 rw [Bool.or_eq_true] at*
 rcases hx with hx|hx
 ·exact .inl hx
 ·by_cases hs:x.s=0
  ·exact .inl (by simpa using hs)
  ·right
   rw [Bool.and_eq_true,decide_eq_true_iff,decide_eq_true_iff] at*
   obtain ⟨h1,h2⟩:=hx
   rw [List.length_take] at h1
   have hlt:(x.s-1).toNat<m:=by omega
   rw [List.getElem?_take,if_pos hlt] at h2
   rw [List.getElem?_take,if_pos (by omega),List.length_take]
   exact ⟨by omega,h2⟩
theorem Xms {l:List Ses} {m k:Nat} (h:m≤k) {e:Ent} (he:entErr e=0) (hx:storedP (l.take m) e=true):storedP (l.take k) e=true:=by
 unfold storedP at*
 rw [List.all_eq_true] at*
 exact fun x hm=>Xkj h ((Xbf he).xts x hm).1 (hx x hm)
theorem Xjq {l:List Ses} (n:Nat):OkT (aftS nilS (l.take n)).tree:=by
 have key:∀(xs:List Ses) (m:Nat) (s:Stt),SOk m s→ ∃k,SOk k (aftS s xs):=by
  intro xs
  induction xs with
  |nil=>intro m s h;exact ⟨m,h⟩
  |cons x xs ih=>intro m s h;exact ih _ _ (Xmv x.ents h x.date)
 obtain ⟨k,hk⟩:=key (l.take n) 0 nilS Xmt
 exact hk.tree
theorem Xmr {l:List Ses} (h:chkH l=0) (n:Nat):∀x∈(aftS nilS (l.take n)).tree,storedP (l.take n) x=true:=by
 intro x hx
 have he:=(Xjq (l:=l) n).ent x hx
 have h':chkFromH (l.take n) 0 nilS [] 0 (l.take n)=0:=Xw2 h n
 rcases Xph 0 Xmt h' x hx with k|⟨j,k1,k2⟩
 ·cases k
 ·rw [List.take_take] at k2
  exact Xms (Nat.min_le_right _ _) he k2
theorem Xja {st st':List Bytes}:∀ {l:List Xt} (out:Bytes),(∀x∈l,gBad st x=gBad st' x∧(0<x.s→strAtP st x=strAtP st' x))→getG st l out=getG st' l out
 | [],_,_=>rfl
 |x::l,out,h=>by
  obtain ⟨h1,h2⟩:=h x (by simp)
  have ih:∀o,getG st l o=getG st' l o:=fun o=>Xja (l:=l) o fun y hy=>h y (by simp [hy])
  rw [getG,getG,h1]
  by_cases hs:0<x.s
  ·rw [h2 hs,ih]
  ·by_cases hg:gBad st' x=true
   ·rw [if_pos hg,if_pos hg]
   ·have h0:x.s=0:=by
     refine Classical.byContradiction fun q=>hg ?_
     unfold gBad
     rw [Qt (show x.s<0 by omega)]
     simp
    rw [if_neg hg,if_neg hg]
    simp [h0,ih]
theorem Xup {l:List Ses} {m k:Nat} (h:m≤k) {e:Ent} (he:entErr e=0) (hs:storedP (l.take m) e=true):getP (strmsP (l.take k)) e.exts=getP (strmsP (l.take m)) e.exts:=by
 unfold getP
 apply Xja
 intro x hx
 have hb:=(Xbf he).xts x hx
 unfold storedP at hs
 have hin:=List.all_eq_true.1 hs x hx
 have hin2:=Xkj h hb.1 hin
 have hlen:∀n,((strmsP (l.take n)).length:Int)=(l.take n).length:=fun n=>by simp [strmsP]
 have hle:∀n,xtIn (l.take n) x=true→ ¬((strmsP (l.take n)).length:Int)<x.s:=by
  intro n hn
  rw [hlen]
  unfold xtIn at hn
  rw [Bool.or_eq_true] at hn
  rcases hn with hn|hn
  ·have:x.s=0:=by simpa using hn
   omega
  ·rw [Bool.and_eq_true,decide_eq_true_iff] at hn
   omega
 constructor
 ·unfold gBad
  rw [Qf (hle k hin2),Qf (hle m hin)]
 ·intro hpos
  have:=hle m hin
  rw [hlen,List.length_take] at this
  unfold strAtP strmsP
  have hlt:(x.s-1).toNat<m:=by omega
  simp only [List.getD_eq_getElem?_getD,List.getElem?_map,List.getElem?_take,if_pos hlt,if_pos (show (x.s-1).toNat<k by omega)]
theorem Xqi {l:List Ses} {m k:Nat} (h:m≤k) {e:Ent} (he:entErr e=0) (hs:storedP (l.take m) e=true):conP (strmsP (l.take k)) e=conP (strmsP (l.take m)) e:=by
 unfold conP
 rw [Xup h he hs]
theorem Xik (d:Int):∀(l:List Ses),asOf d l≤l.length
 | []=>Qn _
 |x::l=>by
  rw [asOf]
  split
  ·omega
  ·have:=Xik d l
   simp;omega
theorem Xmf (d:Int):∀(l:List Ses),asOf d (l.take (asOf d l))=asOf d l
 | []=>rfl
 |x::l=>by
  rw [asOf]
  split
  ·rfl
  ·rename_i k
   rw [List.take_succ_cons,asOf,if_neg k,Xmf d l]
theorem Xjk {d d':Int} (h:d≤d'):∀(l:List Ses),(∀x,l[asOf d l]? =some x→d'<x.date)→asOf d' l=asOf d l
 | [],_=>rfl
 |x::l,hx=>by
  rw [asOf] at hx
  rw [asOf,asOf]
  split
  ·rename_i k1
   split
   ·rfl
   ·rename_i k2
    rw [if_neg k2] at hx
    exact absurd k1 (by omega)
  ·rename_i k1
   split
   ·rename_i k2
    rw [if_pos k2] at hx
    have:=hx x rfl
    omega
   ·rename_i k2
    rw [if_neg k2] at hx
    rw [Xjk h l fun y hy=>hx y (by simpa using hy)]
theorem Xur {l:List Ses} (h:chkH l=0) (d:Int):expT (l.take (asOf d l)) d=expT l d:=by
 unfold expT treeAt
 rw [Xmf,List.take_take,Nat.min_self]
 have hn:=Xik d l
 generalize asOf d l=n at hn
 unfold trP
 apply Xkm
 intro x hx
 have he:=(Xjq (l:=l) n).ent x hx
 have:=Xqi hn he (Xmr h n x hx)
 rw [List.take_length] at this
 unfold contOf
 rw [this]
theorem Xqa {l:List Ses} {d d':Int} (hd:d≤d') (hx:∀x,l[asOf d l]? =some x→d'<x.date):expT l d'=expT l d:=by
 unfold expT treeAt
 rw [Xjk hd l hx]
end Go.Proofs.YtdodihnehppnmaaGreatDoor
namespace Go.Proofs.YtdodihnehppnmaaGreatDoor
structure Rec where
 ses:Int
 ent:Ent
 content:Bytes
 err:Int
structure Res where
 sess:List Ses
 files:List Rec
def filesOf (fs:List Rec) (n:Int):List Rec:=fs.filter fun f=>f.ses==n
def markP (fs:List Rec):Bytes:=match fs with
 | []=> [45]
 |f::_=>if f.err≠0 then [45] else [43]++numP f.content.length++f.content
def entR (fs:List Rec) (e:Ent):Bytes:=netP (headE e)++(if e.kind≠1 then [43]++numP 0 else markP fs)
def restR (fs:List Rec) (e:Ent):List Rec:=if e.kind≠1 then fs else fs.tail
def entsR:List Rec→List Ent→Bytes
 |_,[]=> []
 |fs,e::es=>entR fs e++entsR (restR fs e) es
def sesR (fs:List Rec) (s:Ses):Bytes:=numP s.num++numP s.date++numP s.ents.length++entsR (filesOf fs s.num) s.ents
def resP (r:Res):Bytes:=r.sess.flatMap (sesR r.files)
def lostB (m n:Nat):Bool:=(m >>> (n%64))%2==1
def recOf (st:List Bytes) (m:Nat) (num:Int) (e:Ent) (n:Nat):Rec:=
 if (conP st e).2≠0∨lostB m n=true then ⟨num,e,[],19⟩ else ⟨num,e,(conP st e).1,0⟩
def recsS (st:List Bytes) (m:Nat) (num:Int):List Ent→Nat→List Rec
 | [],_=> []
 |e::es,n=>if e.kind≠1 then recsS st m num es n else recOf st m num e n::recsS st m num es (n+1)
def nFiles (l:List Ent):Nat:=(l.filter fun e=>e.kind==1).length
def recsL (st:List Bytes) (m:Nat):List Ses→Nat→List Rec
 | [],_=> []
 |s::l,n=>recsS st m s.num s.ents n++recsL st m l (n+nFiles s.ents)
def compP (L:List Ses) (m:Nat):Res:=⟨L,recsL (strmsP L) m L 0⟩
def Within (c s:Bytes):Prop:= ∃a b,s=a++(c++b)
def NumsUp (L:List Ses):Prop:=L.Pairwise fun a b=>a.num≠b.num
end Go.Proofs.YtdodihnehppnmaaGreatDoor
namespace Go.Proofs.YtdodihnehppnmaaGreatDoor
section
variable (name:Bytes)
def shP (p:Bytes):Bytes:=name++47::p
def shE (x:Ent):Ent:= { x with path:=shP name x.path }
def shD (name q:Bytes):Bytes:=if q= [] then name else shP name q
end
end Go.Proofs.YtdodihnehppnmaaGreatDoor
namespace Go.Proofs.YtdodihnehppnmaaGreatDoor
end Go.Proofs.YtdodihnehppnmaaGreatDoor
namespace Go.Proofs.YtdodihnehppnmaaGreatDoor
def backE (x:Ent) (c:Bytes):Ent:=if x.kind=1 then entOn x (c.length:Nat) (sumP c) (fileX 0 c) else x
theorem Xk9 {e:Ent} (h0:entErr e=0) (hne:¬e.kind=1):e.size=0∧e.digest= []∧e.exts= []:=by
 unfold entErr at h0
 split at h0
 ·omega
 split at h0
 ·contradiction
 split at h0
 ·omega
 split at h0
 ·contradiction
 split at h0
 ·omega
 split at h0
 ·omega
 rename_i q1
 split at h0
 ·omega
 rename_i q2
 split at h0
 ·contradiction
 rename_i q3
 refine ⟨by omega,Classical.byContradiction fun q=>q2 (.inr ⟨hne,q⟩),?_⟩
 have hf:(e.kind==1)=false:=by simpa using hne
 rw [hf] at q3
 cases hx:e.exts with
 |nil=>rfl
 |cons y l=>rw [hx,xtsErr,if_pos rfl] at q3;exact absurd (by decide:(1:Int)≠0) q3
theorem Xh9 {x:Ent} (h:entErr x=0) (hk:x.kind=1) {c:Bytes} (h1:((c.length:Nat):Int)=x.size) (h2:sumP c=x.digest):entErr (entOn x (c.length:Nat) (sumP c) (fileX 0 c))=0:=by
 have hsz:=(Xdq h hk).2
 have e1:xtsErr (x.kind==1) (fileX 0 c)=0:=by
  unfold fileX
  rw [hk]
  split
  ·rfl
  ·rename_i hc
   have:0<c.length:=List.length_pos_iff.2 hc
   have hb:xtBad ⟨0,0,(c.length:Nat)⟩=false:=by
    unfold xtBad
    dsimp only
    rw [Qf (show ¬((c.length:Int)<1) by omega),Qf (show ¬(65536<(c.length:Int)) by omega)]
    rfl
   rw [xtsErr,if_neg (by simp),hb]
   rfl
 have e2:xtSum (fileX 0 c)=(c.length:Nat):=by
  unfold fileX
  split
  ·rename_i hc;rw [hc];rfl
  ·simp [xtSum]
 unfold entErr entOn at*
 dsimp only at*
 rw [h1,h2,e1,e2,h1]
 split at h
 ·omega
 rename_i q1
 rw [if_neg q1]
 split at h
 ·contradiction
 rename_i q2
 rw [if_neg q2]
 split at h
 ·omega
 rename_i q3
 rw [if_neg q3]
 split at h
 ·contradiction
 rename_i q4
 rw [if_neg q4]
 split at h
 ·omega
 rename_i q5
 rw [if_neg (by exact q5)]
 split at h
 ·omega
 rename_i q6
 rw [if_neg q6]
 split at h
 ·omega
 rename_i q7
 rw [if_neg q7]
 simp
theorem Xqf {st:List Bytes} {x:Ent} (h:entErr x=0) (hk:x.kind=1∨x.kind=2∨x.kind=3) (hc:(contOf st x).2=0):
 entOf (headE x) (contOf st x).1=(backE x (contOf st x).1,true):=by
 have hx:=Xbf h
 have hh:=Xre hx.k1 hx.k6 (by have:=hx.natt;omega)
 have hle:=Xfp st x
 unfold entOf
 rw [Xcd,Xce 0 (.inl rfl) _ _ (by omega),hh]
 simp only [Rb_ok,entEnd]
 have ee:∀a b c,entOn (entOn x 0 [] []) a b c=entOn x a b c:=fun _ _ _=>rfl
 rw [ee,ee]
 by_cases h1:x.kind=1
 ·have hcc:=hc
  unfold contOf at hcc
  rw [if_pos h1] at hcc
  have hcp:(contOf st x).1=(conP st x).1:=by unfold contOf;rw [if_pos h1]
  obtain ⟨_,a1,a2⟩:=Xs5 hcc
  rw [←hcp] at a1 a2
  have hne:entErr (entOn x 0 [] [])≠0:=fun h0=>by
   have:=(Xdq h0 h1).1
   simp [entOn] at this
  rw [if_pos hne]
  dsimp only
  rw [if_neg (by omega),Xh9 h h1 a1 a2]
  simp only [ne_eq,not_true_eq_false,if_false]
  unfold backE
  rw [if_pos h1]
  have:((entOn x ((contOf st x).1.length:Nat) (sumP (contOf st x).1) (fileX 0 (contOf st x).1)).kind==1)=true:=by simp [entOn,h1]
  rw [this]
 ·obtain ⟨z1,z2,z3⟩:=Xk9 h h1
  have hz:entOn x 0 [] []=x:=by unfold entOn;rw [←z1,←z2,←z3]
  have hcn:(contOf st x).1= []:=by unfold contOf;rw [if_neg h1]
  rw [hz,h,hcn]
  simp only [ne_eq,not_true_eq_false,if_false]
  unfold backE
  rw [if_neg h1]
  have:(x.kind==2 || x.kind==3)=true:=by
   rcases hk with k|k|k
   ·exact absurd k h1
   ·rw [k];rfl
   ·rw [k];rfl
  rw [this]
  rfl
theorem Xu9 {st:List Bytes} {x:Ent} (h:entErr x=0) (hc:(contOf st x).2=0):SimE x (backE x (contOf st x).1):=by
 unfold backE
 split
 ·rename_i h1
  have hcc:=hc
  unfold contOf at hcc
  rw [if_pos h1] at hcc
  have hcp:(contOf st x).1=(conP st x).1:=by unfold contOf;rw [if_pos h1]
  obtain ⟨_,a1,a2⟩:=Xs5 hcc
  rw [←hcp] at a1 a2
  exact ⟨rfl,rfl,rfl,rfl,h,Xh9 h h1 a1 a2⟩
 ·exact ⟨rfl,rfl,rfl,rfl,h,h⟩
def chgs (st:List Bytes) (t:List Ent):List Chg:=t.map fun x=>chgOf x (contOf st x).1
def backs (st:List Bytes) (t:List Ent):List Ent:=t.map fun x=>backE x (contOf st x).1
theorem Xkq {st:List Bytes}:∀ {t:List Ent},(∀x∈t,entErr x=0∧(contOf st x).2=0)→SimL t (backs st t)
 | [],_=>trivial
 |x::t,h=>⟨Xu9 (h x (by simp)).1 (h x (by simp)).2,Xkq fun y hy=>h y (by simp [hy])⟩
theorem Xln {st:List Bytes} (s:Bytes):∀(t:List Ent) (p:Bytes) (A:List Ent) (O:List Chg),(∀x∈t,entErr x=0∧(x.kind=1∨x.kind=2∨x.kind=3)∧(contOf st x).2=0)→s=p++t.flatMap (piece st)→
 impG entOf s t.length p.length A O= .ok (A++backs st t,O++chgs st t,s.length)
 | [],p,A,O,_,hs=>by
   rw [List.length_nil,impG,hs]
   simp [backs,chgs]
 |x::t,p,A,O,h,hs=>by
  obtain ⟨h1,h2,h3⟩:=h x (by simp)
  rw [List.flatMap_cons] at hs
  unfold piece at hs
  have e1:rdStr s p.length= .ok (headE x,p.length+(netP (headE x)).length):=Xb2 (x:=p) (y:=headE x) (by rw [hs];simp [List.append_assoc];rfl) rfl
  have e2:rdStr s (p.length+(netP (headE x)).length)= .ok ((contOf st x).1,(p++netP (headE x)++netP (contOf st x).1).length):=by
   rw [Xb2 (x:=p++netP (headE x)) (y:=(contOf st x).1) (r:=t.flatMap (piece st)) (by rw [hs];simp [List.append_assoc];rfl) (by simp)]
   simp [Nat.add_assoc]
  have hb:=Xqf h1 h2 h3
  rw [List.length_cons,impG,e1,Rb_ok,e2,Rb_ok]
  dsimp only
  rw [hb]
  simp only [Bool.true_eq_false,if_false]
  rw [Xln s t _ _ _ (fun y hy=>h y (by simp [hy])) (by rw [hs];simp [List.append_assoc];rfl)]
  have hcg:chgOf (backE x (contOf st x).1) (contOf st x).1=chgOf x (contOf st x).1:=by unfold backE;split<;>rfl
  rw [hcg]
  simp [backs,chgs]
theorem Xug {st:List Bytes} {t:List Ent} (ht:OkT t) (hl:t.length≤5000) (h:(trP st t).2=0):impP entOf (trP st t).1= .ok (chgs st t):=by
 obtain ⟨a1,a2⟩:=Xvj _ _ _ h
 have hn:rdNum (trP st t).1 0= .ok ((t.length:Int),(numP t.length).length):=by
  unfold trP
  rw [a2,Xed (x:= []) (a:=0) (n:=t.length) (by omega) (by omega) (by rw [List.nil_append]) rfl]
  simp
 have hg:=Xln (st:=st) (trP st t).1 t (numP t.length) [] [] (fun x hx=>⟨ht.ent x hx,ht.kind x hx,a1 x hx⟩) (by unfold trP;exact a2)
 unfold impP
 rw [hn,Rb_ok]
 unfold impN
 dsimp only
 rw [if_neg (by omega),Int.toNat_natCast,hg,Rb_ok]
 unfold impE
 dsimp only
 rw [if_neg (by simp)]
 have hs:=Xkq (st:=st) (t:=t) fun x hx=>⟨ht.ent x hx,a1 x hx⟩
 have hc:chkT ([]++backs st t)=0:=by
  rw [List.nil_append]
  have:=Xq0 hs hs none none rfl
  have h0:=(Xs7 t).2 ht
  unfold chkT at*
  omega
 rw [if_neg (by omega),List.nil_append]
def againE (c:Chg) (xs:List Xt):Ent:=if c.kind=1 then ⟨c.kind,c.path,c.attrs,c.target,(c.content.length:Nat),sumP c.content,xs⟩ else ⟨c.kind,c.path,c.attrs,c.target,0,[],[]⟩
end Go.Proofs.YtdodihnehppnmaaGreatDoor
namespace Go.Proofs.YtdodihnehppnmaaGreatDoor
open Go.RowKit
abbrev chgCs (c:Chg) (va:Value):List Value:= [.int .i64 c.kind,S c.path,va,S c.target,S c.content]
abbrev chgV (c:Chg) (va:Value):Value:= .agg #[.int .i64 c.kind,S c.path,va,S c.target,S c.content]
def tChg:Ty Chg where
 size:=5
 rd:=fun I cs c=> ∃va,cs=chgCs c va∧RdS tAt I va c.attrs
 len:=fun ⟨_,h,_⟩=>by rw [h];rfl
 one:=fun ⟨va,h,h1⟩ u hu=>by
  rw [h] at hu
  simp at hu
  rcases hu with rfl|rfl|rfl|rfl|rfl<;>first|rfl|exact h1.one
 mono:=fun hI ⟨va,h,h1⟩=>⟨va,h,h1.mono hI⟩
structure ChgAt (w:World) (b o:Nat) (c:Chg) (va:Value):Prop where
 c0:w.cell? ⟨b,o,none⟩=some (.int .i64 c.kind)
 c1:w.cell? ⟨b,o+1,none⟩=some (S c.path)
 c2:w.cell? ⟨b,o+2,none⟩=some va
 c3:w.cell? ⟨b,o+3,none⟩=some (S c.target)
 c4:w.cell? ⟨b,o+4,none⟩=some (S c.content)
theorem Xx5 {I:IH} {v:Value} {l:List Chg} {w:World} (h:RdS tChg I v l) (hw:Ok I w) (i:Nat) (hi:i<l.length):∃x va b off cap,l[i]=x∧v= .slice (some ⟨b,off,none⟩) l.length cap∧
 ChgAt w b (off+i*5) x va∧RdS tAt I va x.attrs:=by
 obtain ⟨b,off,cap,cs,hv,⟨va,hcs,h1⟩,hc⟩:=h.at_ hw hi
 subst hcs
 exact ⟨_,va,b,off,cap,rfl,hv,⟨hc 0 _ rfl,hc 1 _ rfl,hc 2 _ rfl,hc 3 _ rfl,hc 4 _ rfl⟩,h1⟩
structure ChgB (w:World) (n:Nat) (c:Chg) (va:Value):Prop where
 c0:w.cell? ⟨n,0,none⟩=some (.int .i64 c.kind)
 c1:w.cell? ⟨n,1,none⟩=some (S c.path)
 c2:w.cell? ⟨n,2,none⟩=some va
 c3:w.cell? ⟨n,3,none⟩=some (S c.target)
 c4:w.cell? ⟨n,4,none⟩=some (S c.content)
abbrev recCs (r:Rec) (va vx:Value):List Value:= [.int .i64 r.ses,.int .i64 r.ent.kind,S r.ent.path,va,S r.ent.target,.int .i64 r.ent.size,S r.ent.digest,vx,S r.content,.int .i64 r.err]
abbrev recV (r:Rec) (va vx:Value):Value:= .agg #[.int .i64 r.ses,.int .i64 r.ent.kind,S r.ent.path,va,S r.ent.target,.int .i64 r.ent.size,S r.ent.digest,vx,S r.content,.int .i64 r.err]
def tRec:Ty Rec where
 size:=10
 rd:=fun I cs r=> ∃va vx,cs=recCs r va vx∧RdS tAt I va r.ent.attrs∧RdS tXt I vx r.ent.exts
 len:=fun ⟨_,_,h,_⟩=>by rw [h];rfl
 one:=fun ⟨va,vx,h,h1,h2⟩ u hu=>by
  rw [h] at hu
  simp at hu
  rcases hu with rfl|rfl|rfl|rfl|rfl|rfl|rfl|rfl|rfl|rfl<;>first|rfl|exact h1.one|exact h2.one
 mono:=fun hI ⟨va,vx,h,h1,h2⟩=>⟨va,vx,h,h1.mono hI,h2.mono hI⟩
structure RecAt (w:World) (b o:Nat) (r:Rec) (va vx:Value):Prop where
 c0:w.cell? ⟨b,o,none⟩=some (.int .i64 r.ses)
 c1:w.cell? ⟨b,o+1,none⟩=some (.int .i64 r.ent.kind)
 c2:w.cell? ⟨b,o+2,none⟩=some (S r.ent.path)
 c3:w.cell? ⟨b,o+3,none⟩=some va
 c4:w.cell? ⟨b,o+4,none⟩=some (S r.ent.target)
 c5:w.cell? ⟨b,o+5,none⟩=some (.int .i64 r.ent.size)
 c6:w.cell? ⟨b,o+6,none⟩=some (S r.ent.digest)
 c7:w.cell? ⟨b,o+7,none⟩=some vx
 c8:w.cell? ⟨b,o+8,none⟩=some (S r.content)
 c9:w.cell? ⟨b,o+9,none⟩=some (.int .i64 r.err)
structure RecB (w:World) (n:Nat) (r:Rec) (va vx:Value):Prop where
 c0:w.cell? ⟨n,0,none⟩=some (.int .i64 r.ses)
 c1:w.cell? ⟨n,1,none⟩=some (.int .i64 r.ent.kind)
 c2:w.cell? ⟨n,2,none⟩=some (S r.ent.path)
 c3:w.cell? ⟨n,3,none⟩=some va
 c4:w.cell? ⟨n,4,none⟩=some (S r.ent.target)
 c5:w.cell? ⟨n,5,none⟩=some (.int .i64 r.ent.size)
 c6:w.cell? ⟨n,6,none⟩=some (S r.ent.digest)
 c7:w.cell? ⟨n,7,none⟩=some vx
 c8:w.cell? ⟨n,8,none⟩=some (S r.content)
 c9:w.cell? ⟨n,9,none⟩=some (.int .i64 r.err)
abbrev resV (vs vf:Value):Value:= .agg #[vs,vf]
theorem Xdt {α:Type} {T:Ty α} {I:IH} {P:Program} {ts te:TypeId} {bytes:Nat} (hE:ElemOk P ts te T bytes) {w0:World} {ops:Array Oper} {rest:List Oper} {o:Oper} {a:Act} {Q:Exit→Act→World→Prop} (hgd:o.guard=none) (s x:Operand)
 (ho:o.op= .call { callee:= .builtin .append,args:= #[s,x],argTypes:= #[ts,ts] }) (B:Nat) (v:Value) (l:List α) (hs:a.eval s=v) (hown:OwnS T te I w0 B v l)
 (y:α) (cs:List Value) (tb:TypeId) (hx:a.eval x= .slice (some ⟨w0.heap.size,0,none⟩) 1 1) (hy:T.rd I cs y) (hbig:(l.length+1)*bytes≤140737488355328) (hl:l.length+1≤9223372036854775807) (hB:B≤w0.heap.size)
 (h:∀v' w',OwnS T te I w' B v' (l++ [y])→w0.grownBy w' v.ownBlock→(∀g,v'.ownBlock=some g→v.ownBlock=some g∨w0.heap.size≤g)→wpList P ops Q rest (a.put o.dst v') w'):wpList P ops Q (o::rest) a (w0.alloc (.cells cs.toArray tb)):=by
 obtain ⟨i,z,h1,h2,h3,h4,h5,h6,h7⟩:=hE
 obtain ⟨xs,k1,k2⟩:=hown
 refine wpList_append_own_at (w0.alloc (.cells cs.toArray tb)) hgd s x ts ho B te i z T.size bytes h1 h2 h3 h4 h5 h6 h7 v l.length xs hs (k1.alloc _) ⟨w0.heap.size,0,none⟩ 1 1 cs hx (by rw [T.len hy,Nat.one_mul])
  (fun j u hu=>by rw [Addr.add_lit,Nat.zero_add,World.cell?_alloc_new];simpa using hu) (T.one hy) (by unfold maxLen;omega) hbig (by simp;omega) (fun v' w' r1 r2 _ r4=>h v' w' ⟨xs++cs,by rw [List.length_append];exact r1,k2.append (LiesL.one hy)⟩ ?_ ?_)
 ·exact ⟨r2.os,r2.tape,r2.output,by have:=r2.size;simp at this;omega,fun k hk hne=>(r2.block k (by simp;omega) hne).trans (Below.heap_alloc _ _ _ hk)⟩
 ·intro g hg
  rcases r4 with r4|r4
  ·exact .inl (r4▸hg)
  ·rw [r4] at hg
   simp at hg
   exact .inr (by omega)
def XB (n:Int) (x:Xt):Prop:=0≤x.s∧x.s≤255∧0≤x.o∧x.o≤1099511627776∧0≤x.n∧x.n≤n
section
variable {I:IH} {W:World} {B:Nat} {v:Value} {l:List Xt}
end
abbrev xtW (x:Xt):Value:= .agg #[.int .i64 x.s,.int .i64 x.o,.int .i64 x.n]
abbrev xtL (x:Xt):List Value:= [.int .i64 x.s,.int .i64 x.o,.int .i64 x.n]
def AddR (I:IH) (B:Nat) (w:World) (v:Value) (l:List Xt) (e:Ending) (w':World):Prop:=
 ∃v',e= .returned v'∧OwnS tXt 134 I w' B v' l∧w.grownBy w' v.ownBlock∧ ∀g,v'.ownBlock=some g→v.ownBlock=some g∨w.heap.size≤g
set_option maxRecDepth 100000 in
set_option maxHeartbeats 4000000 in
theorem Xuz (I:IH) (v:Value) (t:List Ent) (hv:RdS tEnt I v t) (hI:Glob I) (ht:AllE t) (hs:SmlT t) (w:World) (hw:Ok I w):
 Calls Tryz.prog 54 #[v] w fun e w'=>e= .returned (.int .i64 (chkT t))∧Below w.heap.size w w':=by
 have hlen:=hv.len_le
 obtain ⟨ao,cap,rfl,hcap,hcm,_⟩:=id hv
 have Hv:=Qh hv;clear hv
 have Ht:=Qh ht;clear ht
 have Hs:=Qh hs;clear hs
 have Hdir0:=Qh (fun p w hw=>Xgn I _ t Hv.out p w hw)
 go_enter Tryz.func54,Tryz.ntmps54
 go_wp2_with fail
 go_loopw [11] (fun s11 wr=> ∃k:Nat,k≤t.length∧s11= .int .i64 k∧chkTFrom t (if k=0 then none else t[k-1]?) (t.drop k)=chkT t∧(∀y∈t.take k,pathErr y.path=0)∧Below w.heap.size w wr) (fun i _=>t.length-(intOf i).toNat)
 case atStart=>exact ⟨0,Nat.zero_le _,rfl,rfl,by simp,Qb _ _⟩
 case round=>
  obtain ⟨k,hk,rfl,hr,hok,hb⟩:=hrel
  have Hr:=Qh hr
  have Hok:=Qh hok
  clear hr hok
  have hwr:Ok I wr:=hw.below (Qn _) hb
  by_cases hlt:k<t.length
  case neg=>
   have Hn:=Qh (show chkT t=0 by rw [←Hr.out,List.drop_of_length_le (by omega)];rfl)
   go_wp2
   go_ret
   exact ⟨Xac Hn.out.symm,hb⟩
  obtain ⟨x,va,vx,b,off,cap',hlx,hvv,⟨c0,c1,c2,c3,c4,c5,c6⟩,h1,h2⟩:=Xbu Hv.out hwr k hlt
  cases hvv
  have Hst:=Qh (show chkT t=if entErr x≠0 then entErr x else if x.kind≠1∧x.kind≠2∧x.kind≠3 then 10 else if ((if k=0 then none else t[k-1]?).any fun y=> !(ltP (els y.path) (els x.path))) then 14 else if dirErr t (upP x.path)≠0 then dirErr t (upP x.path) else chkTFrom t (some x) (t.drop (k+1)) by
   rw [←Hr.out,List.drop_eq_getElem_cons hlt,hlx,Xke])
  have Hkx:=Qh (show t[k]? =some x by rw [List.getElem?_eq_getElem hlt,hlx])
  have Hlx:=Qh hlx
  have Hxw:=Qh (Ht.out x (by rw [←hlx];exact List.getElem_mem hlt))
  have Hxs:=Qh (Hs.out x (by rw [←hlx];exact List.getElem_mem hlt))
  have Hck:=Qh (fun w hw=>Xg2 I hI x va vx h1 h2 Hxw.out Hxs.out.1 Hxs.out.2 w hw)
  obtain ⟨aa,ca,rfl,_,_,_⟩:=id h1
  obtain ⟨ax,cx,rfl,_,_,_⟩:=id h2
  clear hlx h1 h2
  go_wp2_with fail
  refine (Hck.out _ (hwr.alloc _)).mono ?_
  rintro e w1 ⟨rfl,hb1⟩
  obtain ⟨d0,d1,d2,d3,d4,d5,d6⟩:=entB rfl hb1
  have hb1':=(hb.alloc hb.size _).trans (hb1.mono (by have:=hb.size;simp;omega))
  have hok1:Ok I w1:=(hwr.alloc _).below (Qn _) hb1
  clear hb1 c0 c1 c2 c3 c4 c5 c6
  by_cases h0:entErr x=0
  case neg=>
   obtain ⟨q,hq⟩:∃q,entErr x=q:=⟨_,rfl⟩
   have hn:(q != 0)=true:=by rw [←hq];simpa using h0
   have Hn:=Qh (show chkT t=q by rw [Hst.out,if_pos h0,hq])
   rw [hq]
   clear hq h0
   go_wp2
   go_ret
   exact ⟨Xac Hn.out.symm,hb1'⟩
  replace Hst:=Qh (show chkT t=_ by rw [Hst.out,if_neg (show ¬entErr x≠0 by omega)])
  have Hpe:=Qh (Xnx h0)
  have hxl:x.path.length≤200:=(Xax Hpe.out.1).1
  rw [h0]
  clear h0
  by_cases hkk:x.kind≠1∧x.kind≠2∧x.kind≠3
  case pos=>
   have Hn:=Qh (show chkT t=10 by rw [Hst.out,if_pos hkk])
   have Hit:=Qh (Xid x.kind)
   have hin:inT x.kind=false:=by
    cases h:inT x.kind with
    |false=>rfl
    |true=>have:=inT_iff.1 h;omega
   rw [hin] at Hit
   clear hkk hin
   go_wp2_with fail
   refine (Hit.out _).mono ?_
   rintro e w2 ⟨rfl,rfl⟩
   go_wp2
   go_ret
   exact ⟨Xac Hn.out.symm,hb1'⟩
  replace Hst:=Qh (show chkT t=_ by rw [Hst.out,if_neg hkk])
  have Hk3:=Qh (show x.kind=1∨x.kind=2∨x.kind=3 by omega)
  have hxp:x.path≠ []:=by
   rcases Hpe.out.2 with h|h
   ·exact h
   ·have:=Hk3.out;omega
  have Hpar:=Qh (fun w hw=>Xk6 I hI x.path (by omega) w hw)
  have Hpar2:=Qh (Xnc Hpe.out.1 hxp)
  have Hdir:=Qh (fun w hw=>Hdir0.out (upP x.path) w hw)
  clear hkk hxp
  have Hit:=Qh (Xid x.kind)
  rw [inT_iff.2 Hk3.out] at Hit
  go_wp2_with fail
  refine (Hit.out _).mono ?_
  rintro e w2 ⟨rfl,rfl⟩
  by_cases hk0:k=0
  ·have hd:decide (0<k)=false:=Qf (by omega)
   have hk1:k<1:=by omega
   replace Hst:=Qh (show chkT t=if dirErr t (upP x.path)≠0 then dirErr t (upP x.path) else chkTFrom t (some x) (t.drop (k+1)) by rw [Hst.out,if_pos hk0];rfl)
   clear hk0
   have g0:=cell_regrown d0
   have g1:=cell_regrown d1
   go_wp2_with fail
   refine wp_region_quiet_below (by kernel_rfl) (by kernel_rfl) ?_
   repeat (go_big_quiet_step ((fail)))
   refine wpQuiet_nil ?_
   intro w4 hwq
   have hb4:Below (w1).heap.size (w1) w4:=by
    obtain ⟨pq,rfl⟩:=hwq
    exact below_regrown _ _ _
   clear hwq
   have hb4':=hb1'.trans (hb4.mono hb1'.size)
   have hok4:Ok I w4:=hok1.below (Qn _) hb4
   have d1:=Xaa hb4 d1
   clear hb4 g0 g1
   go_wp2_with fail
   refine (Hpar.out _ hok4).mono ?_
   rw [Hpar2.out]
   rintro e w5 ⟨rfl,hb5⟩
   have hb5':=hb4'.trans (hb5.mono hb4'.size)
   have hok5:Ok I w5:=Ok.below hok4 (Qn _) hb5
   go_wp2_with fail
   refine (Hdir.out _ hok5).mono ?_
   rintro e w6 ⟨rfl,hb6⟩
   have hb6':=hb5'.trans (hb6.mono hb5'.size)
   by_cases hde:dirErr t (upP x.path)=0
   ·have Hn:=Qh (show chkTFrom t (if k+1=0 then none else t[k+1-1]?) (t.drop (k+1))=chkT t by
     rw [Hst.out,if_neg (show ¬dirErr t (upP x.path)≠0 by omega),Nat.add_sub_cancel,Hkx.out];simp)
    rw [hde]
    clear hde
    go_wp2
    go_roundw
    case rel=>exact ⟨k+1,by omega,by go_num,Hn.out,Xor Hok.out hlt Hlx.out Hpe.out.1,hb6'⟩
    case measure=>simp [intOf];omega
   ·obtain ⟨q,hq⟩:∃q,dirErr t (upP x.path)=q:=⟨_,rfl⟩
    have hn:(q != 0)=true:=by rw [←hq];simpa using hde
    have Hn:=Qh (show chkT t=q by rw [Hst.out,if_pos hde,hq])
    rw [hq]
    clear hq hde
    go_wp2
    go_ret
    exact ⟨Xac Hn.out.symm,hb6'⟩
  ·obtain ⟨y,vb,vy,b',off',cap'',hly,hvv,⟨_,e1,_,_,_,_,_⟩,_,_⟩:=Xbu Hv.out hok1 (k-1) (by omega)
   cases hvv
   have hd:decide (0<k)=true:=Qt (by omega)
   have hkp:0<k:=by omega
   have hi:IntKind.i64.wrap ((k:Int)-1)=(k:Int)-1:=IntWalk.i64_in _ (by omega)
   have hj:0≤(k:Int)-1:=by omega
   have hm:((k:Int)-1).toNat=k-1:=by omega
   have hyl:y.path.length≤200:=(Xax (Hok.out y (by
    rw [←hly]
    have:(t.take k)[k-1]'(by simp;omega)=t[k-1]:=List.getElem_take
    rw [←this]
    exact List.getElem_mem _))).1
   replace Hst:=Qh (show chkT t=if !(ltP (els y.path) (els x.path)) then 14 else if dirErr t (upP x.path)≠0 then dirErr t (upP x.path) else chkTFrom t (some x) (t.drop (k+1)) by
    rw [Hst.out,if_neg hk0,List.getElem?_eq_getElem (by omega),hly];rfl)
   have Hcmp:=Qh (fun w hw=>Xfy I hI y.path x.path (by omega) (by omega) w hw)
   clear hly hk0
   have g1:=cell_regrown d1
   have f1:=cell_regrown e1
   cases hl:ltP (els y.path) (els x.path)
   ·have Hn:=Qh (show chkT t=14 by rw [Hst.out,hl];rfl)
    have hc:=Xpf hl
    rcases hc with hc|hc
    all_goals
     rw [hc] at Hcmp
     clear hc
     go_wp2_with fail
     refine wp_region_quiet_below (by kernel_rfl) (by kernel_rfl) ?_
     repeat (go_big_quiet_step ((with_reducible exact Calls.regrown_of (Hcmp.out _ (hok1.below (Qn _) (below_regrown _ _ _))))))
     refine wpQuiet_nil ?_
     intro w4 hwq
     have hb4:Below (w1).heap.size (w1) w4:=by
      obtain ⟨pq,rfl⟩:=hwq
      exact below_regrown _ _ _
     clear hwq
     go_wp2
     go_ret
     exact ⟨Xac Hn.out.symm,hb1'.trans (hb4.mono hb1'.size)⟩
   ·replace Hst:=Qh (show chkT t=if dirErr t (upP x.path)≠0 then dirErr t (upP x.path) else chkTFrom t (some x) (t.drop (k+1)) by rw [Hst.out,hl];rfl)
    rw [Xpe hl] at Hcmp
    clear hl
    go_wp2_with fail
    refine wp_region_quiet_below (by kernel_rfl) (by kernel_rfl) ?_
    repeat (go_big_quiet_step ((with_reducible exact Calls.regrown_of (Hcmp.out _ (hok1.below (Qn _) (below_regrown _ _ _))))))
    refine wpQuiet_nil ?_
    intro w4 hwq
    have hb4:Below (w1).heap.size (w1) w4:=by
     obtain ⟨pq,rfl⟩:=hwq
     exact below_regrown _ _ _
    clear hwq
    have hb4':=hb1'.trans (hb4.mono hb1'.size)
    have hok4:Ok I w4:=hok1.below (Qn _) hb4
    have d1:=Xaa hb4 d1
    clear hb4 g1 f1
    go_wp2_with fail
    refine (Hpar.out _ hok4).mono ?_
    rw [Hpar2.out]
    rintro e w5 ⟨rfl,hb5⟩
    have hb5':=hb4'.trans (hb5.mono hb4'.size)
    have hok5:Ok I w5:=Ok.below hok4 (Qn _) hb5
    go_wp2_with fail
    refine (Hdir.out _ hok5).mono ?_
    rintro e w6 ⟨rfl,hb6⟩
    have hb6':=hb5'.trans (hb6.mono hb5'.size)
    by_cases hde:dirErr t (upP x.path)=0
    ·have Hn:=Qh (show chkTFrom t (if k+1=0 then none else t[k+1-1]?) (t.drop (k+1))=chkT t by
      rw [Hst.out,if_neg (show ¬dirErr t (upP x.path)≠0 by omega),Nat.add_sub_cancel,Hkx.out];simp)
     rw [hde]
     clear hde
     go_wp2
     go_roundw
     case rel=>exact ⟨k+1,by omega,by go_num,Hn.out,Xor Hok.out hlt Hlx.out Hpe.out.1,hb6'⟩
     case measure=>simp [intOf];omega
    ·obtain ⟨q,hq⟩:∃q,dirErr t (upP x.path)=q:=⟨_,rfl⟩
     have hn:(q != 0)=true:=by rw [←hq];simpa using hde
     have Hn:=Qh (show chkT t=q by rw [Hst.out,if_pos hde,hq])
     rw [hq]
     clear hq hde
     go_wp2
     go_ret
     exact ⟨Xac Hn.out.symm,hb6'⟩
end Go.Proofs.YtdodihnehppnmaaGreatDoor
