/- Lemmas for the claim's theorem;conditions: as each says. -/
import Derived.Test.YtmdfjnhfhidmhaaGreatDoorQ01
set_option linter.all false
namespace Go.Proofs.YtmdfjnhfhidmhaaGreatDoor
open Go.RowKit
variable{n:Nat}{e:aQ}{va vx:Value}{w w':World}
def yV(x:aQ):Bool:=decide (300<x.ag.length) || decide (300<x.av.length) || decide (100<x.aI.length) || decide (30<x.aD.length) || decide (Et x.au=1)
def grE(x:aQ):Int:=if yV x then 1 else 0
def PM(l:List Xt):Int:=l.foldl (fun n x=>wrap64 (n+x.n)) 0
def wG(e:aQ):Int:=
 if e.aj<1∨6<e.aj then 10
 else if aR e.ag≠0 then aR e.ag
 else if e.ag=[]∧e.aj<5 then 1
 else if nK e.au≠0 then nK e.au
 else if(e.au≠[]∧3<e.aj)∨bR e=false then 1
 else if e.size<0∨65536<e.size∨(e.aj≠1∧e.size≠0)then 2
 else if(e.aj=1∧e.aI.length≠32)∨(e.aj≠1∧e.aI≠[])then 1
 else if cz (e.aj==1) e.aD≠0 then cz (e.aj==1) e.aD
 else if PM e.aD≠e.size then 1 else 0
theorem VK:∀(l:List Xt),cz true l=0→ ∀x∈l,dE x=false
 | [],_,_,h=>absurd h (by simp)
 |y::l,h,x,hx=>by
  rw[cz,if_neg (by simp)]at h;by_cases hb:dE y=true
  ·rw[if_pos hb]at h;omega
  ·rw[if_neg hb]at h;rcases List.mem_cons.1 hx with rfl|hx
   ·simpa using hb
   ·exact VK l h x hx
theorem VL{x:Xt}(h:dE x=false):1≤x.n∧x.n≤65536:=by
 unfold dE at h;simp only[Bool.or_eq_false_iff,decide_eq_false_iff_not]at h;omega
theorem VM(l:List Xt)(x:Xt):gH (l++[x])=gH l+x.n:=by simp[gH]
theorem Xo8:∀(n:Nat) (l:List Xt),l.length=n→(∀x∈l,dE x=false)→0≤gH l∧gH l≤65536*n:=by
 intro n;induction n with
 |zero=>
  intro l h _;have:l=[]:=List.eq_nil_of_length_eq_zero h;subst this;exact⟨Int.le_refl _,by decide⟩
 |succ n ih=>
  intro l h ha;have aZ:l≠[]:=by intro e;rw[e]at h;simp at h
  have e:l=l.dropLast++[l.getLast aZ]:=(List.dropLast_concat_getLast aZ).symm;have hl:l.dropLast.length=n:=by rw[List.length_dropLast,h];omega
  obtain⟨i1,i2⟩:=ih _ hl fun x hx=>ha x (List.dropLast_subset _ hx);have hc:=VL (ha _ (List.getLast_mem aZ));rw[e,VM];omega
structure eY (w:World) (n:Nat) (e:aQ) (va vx:Value):Prop where
 c0:w.cell? ⟨n,0,none⟩=some (.int .i64 e.aj)
 c1:w.cell? ⟨n,1,none⟩=some (S e.ag)
 c2:w.cell? ⟨n,2,none⟩=some va
 c3:w.cell? ⟨n,3,none⟩=some (S e.av)
 c4:w.cell? ⟨n,4,none⟩=some (.int .i64 e.size)
 c5:w.cell? ⟨n,5,none⟩=some (S e.aI)
 c6:w.cell? ⟨n,6,none⟩=some vx
theorem eY.aX(h:eY w n e va vx)(hb:Below w.heap.size w w'):eY w' n e va vx:=
 ⟨bI hb h.c0,bI hb h.c1,bI hb h.c2,bI hb h.c3,bI hb h.c4,bI hb h.c5,bI hb h.c6⟩
theorem eY.past(h:eY w n e va vx)(x:Obj):eY (w.alloc x) n e va vx:=
 ⟨jH x h.c0,jH x h.c1,jH x h.c2,jH x h.c3,jH x h.c4,jH x h.c5,jH x h.c6⟩
theorem eO{W:World}{t:TypeId}(hn:n=W.heap.size)(hb:Below (W.alloc (.cells #[.int .i64 e.aj,S e.ag,va,S e.av,.int .i64 e.size,S e.aI,vx] t)).heap.size (W.alloc (.cells #[.int .i64 e.aj,S e.ag,va,S e.av,.int .i64 e.size,S e.aI,vx] t)) w'):eY w' n e va vx:=by
 subst hn;exact eY.aX ⟨by simp,by simp,by simp,by simp,by simp,by simp,by simp⟩ hb
