/-
  Walks and laws that the claim's theorem uses: texts AtA AtB AtC EnB EnC, joined; comments out. Conditions: as each theorem says.
-/
import Derived.Test.YtmdfjnhfhidmhaaGreatDoorH01
set_option linter.all false
namespace Go.Proofs.YtmdfjnhfhidmhaaGreatDoor
open Go.RowKit
def bigA (x:At):Bool:=decide (100<x.k.length) || decide (100<x.v.length)
def greatA (l:List At):Int:=if 30<l.length then 1 else if l.any bigA then 1 else 0

theorem Xjw (p:Option At) (x:At) (l:List At):chkFrom p (x::l)=if atErr x≠0 then atErr x else if (p.any fun q=>q.k==x.k) then 8 else if (p.any fun q=>Op.bytesLess x.k q.k) then 14 else chkFrom (some x) l:=rfl
def greatE (x:Ent):Bool:=decide (300<x.path.length) || decide (300<x.target.length) || decide (100<x.digest.length) || decide (30<x.exts.length) || decide (greatA x.attrs=1)
def grE (x:Ent):Int:=if greatE x then 1 else 0
def sumW (l:List Xt):Int:=l.foldl (fun n x=>wrap64 (n+x.n)) 0
def entErrR (e:Ent):Int:=
 if e.kind<1∨6<e.kind then 10
 else if pathErr e.path≠0 then pathErr e.path
 else if e.path= []∧e.kind<5 then 1
 else if chk e.attrs≠0 then chk e.attrs
 else if (e.attrs≠ []∧3<e.kind)∨targetOk e=false then 1
 else if e.size<0∨65536<e.size∨(e.kind≠1∧e.size≠0) then 2
 else if (e.kind=1∧e.digest.length≠32)∨(e.kind≠1∧e.digest≠ []) then 1
 else if xtsErr (e.kind==1) e.exts≠0 then xtsErr (e.kind==1) e.exts
 else if sumW e.exts≠e.size then 1 else 0
theorem Xh9:∀(l:List Xt),xtsErr true l=0→ ∀x∈l,xtBad x=false
 | [],_,_,h=>absurd h (by simp)
 |y::l,h,x,hx=>by
  rw [xtsErr,if_neg (by simp)] at h
  by_cases hb:xtBad y=true
  ·rw [if_pos hb] at h;omega
  ·rw [if_neg hb] at h
   rcases List.mem_cons.1 hx with rfl|hx
   ·simpa using hb
   ·exact Xh9 l h x hx
theorem Xia {x:Xt} (h:xtBad x=false):1≤x.n∧x.n≤65536:=by
 unfold xtBad at h
 simp only [Bool.or_eq_false_iff,decide_eq_false_iff_not] at h
 omega
theorem Xgn (l:List Xt) (x:Xt):xtSum (l++ [x])=xtSum l+x.n:=by simp [xtSum]
theorem Xpr:∀(n:Nat) (l:List Xt),l.length=n→(∀x∈l,xtBad x=false)→0≤xtSum l∧xtSum l≤65536*n:=by
 intro n
 induction n with
 |zero=>
  intro l h _
  have:l= []:=List.eq_nil_of_length_eq_zero h
  subst this
  exact ⟨Int.le_refl _,by decide⟩
 |succ n ih=>
  intro l h ha
  have hne:l≠ []:=by intro e;rw [e] at h;simp at h
  have e:l=l.dropLast++ [l.getLast hne]:=(List.dropLast_concat_getLast hne).symm
  have hl:l.dropLast.length=n:=by rw [List.length_dropLast,h];omega
  obtain ⟨i1,i2⟩:=ih _ hl fun x hx=>ha x (List.dropLast_subset _ hx)
  have hc:=Xia (ha _ (List.getLast_mem hne))
  rw [e,Xgn]
  omega
structure EntB (w:World) (n:Nat) (e:Ent) (va vx:Value):Prop where
 c0:w.cell? ⟨n,0,none⟩=some (.int .i64 e.kind)
 c1:w.cell? ⟨n,1,none⟩=some (S e.path)
 c2:w.cell? ⟨n,2,none⟩=some va
 c3:w.cell? ⟨n,3,none⟩=some (S e.target)
 c4:w.cell? ⟨n,4,none⟩=some (.int .i64 e.size)
 c5:w.cell? ⟨n,5,none⟩=some (S e.digest)
 c6:w.cell? ⟨n,6,none⟩=some vx
theorem EntB.thru {w w':World} {n:Nat} {e:Ent} {va vx:Value} (h:EntB w n e va vx) (hb:Below w.heap.size w w'):EntB w' n e va vx:=
 ⟨Xaa hb h.c0,Xaa hb h.c1,Xaa hb h.c2,Xaa hb h.c3,Xaa hb h.c4,Xaa hb h.c5,Xaa hb h.c6⟩
theorem EntB.past {w:World} {n:Nat} {e:Ent} {va vx:Value} (h:EntB w n e va vx) (x:Obj):EntB (w.alloc x) n e va vx:=
 ⟨Xac x h.c0,Xac x h.c1,Xac x h.c2,Xac x h.c3,Xac x h.c4,Xac x h.c5,Xac x h.c6⟩
theorem entB {W w':World} {e:Ent} {va vx:Value} {t:TypeId} {n:Nat} (hn:n=W.heap.size) (hb:Below (W.alloc (.cells #[.int .i64 e.kind,S e.path,va,S e.target,.int .i64 e.size,S e.digest,vx] t)).heap.size (W.alloc (.cells #[.int .i64 e.kind,S e.path,va,S e.target,.int .i64 e.size,S e.digest,vx] t)) w'):EntB w' n e va vx:=by
 subst hn
 exact EntB.thru ⟨by simp,by simp,by simp,by simp,by simp,by simp,by simp⟩ hb
end Go.Proofs.YtmdfjnhfhidmhaaGreatDoor
