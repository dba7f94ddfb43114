/-
  Walks and laws that the claim's theorem uses: texts EnB EnC, joined; comments out. Conditions: as each theorem says.
-/
import Derived.Test.YtdeknddamidldaaGreatDoorQ01
import Derived.Test.YtdeknddamidldaaGreatDoorQ04
namespace Go.Proofs.YtdeknddamidldaaGreatDoor
open Go.RowKit
set_option maxRecDepth 100000 in
set_option maxHeartbeats 400000 in
theorem Xkz (x:Ent) (hx:x.target.length≤9223372036854775807) (va vx:Value) (w:World):
 Calls Tryz.prog 161 #[entV x va vx] w fun e w'=>e= .returned (.bool (targetOk x))∧Below w.heap.size w w':=by
 by_cases h3:x.kind=3
 ·have f3:((x.kind:Int)==3)=true:=by simpa using h3
  by_cases h1:1≤x.target.length
  case neg=>
   have d1:decide (1≤x.target.length)=false:=Qf h1
   have Ht:=Qh (show targetOk x=false by rw [targetOk,if_pos h3,d1];rfl)
   clear h3
   go_enter Tryz.func161,Tryz.ntmps161
   go_wp2
   go_ret
   exact ⟨Xah Ht.out.symm,(Qb _ _).alloc (Qn _) _⟩
  have d1:decide (1≤x.target.length)=true:=Qt h1
  have Ht:=Qh (show targetOk x=decide (x.target.length≤200) by rw [targetOk,if_pos h3,d1];rfl)
  clear h3
  go_enter Tryz.func161,Tryz.ntmps161
  go_wp2
  go_ret
  exact ⟨Xah (by rw [Ht.out,decide_eq_decide];omega),(Qb _ _).alloc (Qn _) _⟩
 have f3:((x.kind:Int)==3)=false:=by simpa using h3
 by_cases h5:x.kind=5
 ·have f5:((x.kind:Int)==5)=true:=by simpa using h5
  have Ht:=Qh (show targetOk x=(dateP x.target).2 by rw [targetOk,if_neg h3,if_pos h5,Xt0])
  clear h3 h5
  go_enter Tryz.func161,Tryz.ntmps161
  go_wp2_with fail
  refine (Xpd x.target hx _).mono ?_
  rintro e w1 ⟨rfl,hb1⟩
  go_wp2
  go_ret
  exact ⟨Xah Ht.out.symm,((Qb _ _).alloc (Qn _) _).trans (hb1.mono (by simp))⟩
 have f5:((x.kind:Int)==5)=false:=by simpa using h5
 have Ht:=Qh (show targetOk x=x.target.isEmpty by rw [targetOk,if_neg h3,if_neg h5])
 clear h3 h5
 go_enter Tryz.func161,Tryz.ntmps161
 go_wp2
 go_ret
 exact ⟨Xah (by rw [Ht.out]),(Qb _ _).alloc (Qn _) _⟩
def greatE (x:Ent):Bool:=decide (300<x.path.length) || decide (300<x.target.length) || decide (100<x.digest.length) || decide (30<x.exts.length) || decide (greatA x.attrs=1)
theorem Xlp (l:List At):greatA l=1∨greatA l=0:=by
 unfold greatA
 split
 ·exact .inl rfl
 ·split
  ·exact .inl rfl
  ·exact .inr rfl
def grE (x:Ent):Int:=if greatE x then 1 else 0
set_option maxRecDepth 100000 in
set_option maxHeartbeats 400000 in
theorem Xem (I:IH) (x:Ent) (va vx:Value) (hva:RdS tAt I va x.attrs) (hvx:RdS tXt I vx x.exts) (hwf:x.Wf) (w:World) (hw:Ok I w):
 Calls Tryz.prog 31 #[entV x va vx] w fun e w'=>e= .returned (.int .i64 (grE x))∧Below w.heap.size w w':=by
 obtain ⟨ao,cap,rfl,hcap,hcm,_⟩:=id hvx
 have hlx:=hvx.len_le
 clear hvx
 by_cases h1:300<x.path.length
 case pos=>
  have Hg:=Qh (show grE x=1 by simp [grE,greatE,h1])
  go_enter Tryz.func31,Tryz.ntmps31
  go_wp2
  go_ret
  exact ⟨Xac Hg.out.symm,(Qb _ _).alloc (Qn _) _⟩
 by_cases h2:300<x.target.length
 case pos=>
  have Hg:=Qh (show grE x=1 by simp [grE,greatE,h2])
  go_enter Tryz.func31,Tryz.ntmps31
  go_wp2
  go_ret
  exact ⟨Xac Hg.out.symm,(Qb _ _).alloc (Qn _) _⟩
 by_cases h3:100<x.digest.length
 case pos=>
  have Hg:=Qh (show grE x=1 by simp [grE,greatE,h3])
  go_enter Tryz.func31,Tryz.ntmps31
  go_wp2
  go_ret
  exact ⟨Xac Hg.out.symm,(Qb _ _).alloc (Qn _) _⟩
 by_cases h4:30<x.exts.length
 case pos=>
  have Hg:=Qh (show grE x=1 by simp [grE,greatE,h4])
  go_enter Tryz.func31,Tryz.ntmps31
  go_wp2
  go_ret
  exact ⟨Xac Hg.out.symm,(Qb _ _).alloc (Qn _) _⟩
 have Hg:=Qh (show grE x=if greatA x.attrs=1 then 1 else 0 by simp [grE,greatE,h1,h2,h3,h4])
 have Hgr:=Qh (fun w hw=>Xna I va x.attrs hva hwf.attrs w hw)
 clear hva
 rcases Xlp x.attrs with hg|hg
 ·rw [hg] at Hg Hgr
  clear hg
  go_enter Tryz.func31,Tryz.ntmps31
  go_wp2_with fail
  refine (Hgr.out _ (hw.alloc _)).mono ?_
  rintro e w1 ⟨rfl,hb1⟩
  go_wp2
  go_ret
  exact ⟨Xac Hg.out.symm,((Qb _ _).alloc (Qn _) _).trans (hb1.mono (by simp))⟩
 ·rw [hg] at Hg Hgr
  clear hg
  go_enter Tryz.func31,Tryz.ntmps31
  go_wp2_with fail
  refine (Hgr.out _ (hw.alloc _)).mono ?_
  rintro e w1 ⟨rfl,hb1⟩
  go_wp2
  go_ret
  exact ⟨Xac Hg.out.symm,((Qb _ _).alloc (Qn _) _).trans (hb1.mono (by simp))⟩
def sumW (l:List Xt):Int:=l.foldl (fun n x=>wrap64 (n+x.n)) 0
theorem Xko (l:List Xt) (x:Xt):sumW (l++ [x])=wrap64 (sumW l+x.n):=by simp [sumW,List.foldl_append]
def entErrR (e:Ent):Int:=
 if e.kind<1∨6<e.kind then 10
 else if pathErr e.path≠0 then pathErr e.path
 else if e.path= []∧e.kind<5 then 1
 else if chk e.attrs≠0 then chk e.attrs
 else if (e.attrs≠ []∧3<e.kind)∨targetOk e=false then 1
 else if e.size<0∨65536<e.size∨(e.kind≠1∧e.size≠0) then 2
 else if (e.kind=1∧e.digest.length≠32)∨(e.kind≠1∧e.digest≠ []) then 1
 else if xtsErr (e.kind==1) e.exts≠0 then xtsErr (e.kind==1) e.exts
 else if sumW e.exts≠e.size then 1 else 0
theorem Xgu:∀(l:List Xt),xtsErr true l=0→ ∀x∈l,xtBad x=false
 | [],_,_,h=>absurd h (by simp)
 |y::l,h,x,hx=>by
  rw [xtsErr,if_neg (by simp)] at h
  by_cases hb:xtBad y=true
  ·rw [if_pos hb] at h;omega
  ·rw [if_neg hb] at h
   rcases List.mem_cons.1 hx with rfl|hx
   ·simpa using hb
   ·exact Xgu l h x hx
theorem Xgz {x:Xt} (h:xtBad x=false):1≤x.n∧x.n≤65536:=by
 unfold xtBad at h
 simp only [Bool.or_eq_false_iff,decide_eq_false_iff_not] at h
 omega
theorem Xfk (l:List Xt) (x:Xt):xtSum (l++ [x])=xtSum l+x.n:=by simp [xtSum]
theorem Xn1:∀(n:Nat) (l:List Xt),l.length=n→(∀x∈l,xtBad x=false)→0≤xtSum l∧xtSum l≤65536*n:=by
 intro n
 induction n with
 |zero=>
  intro l h _
  have:l= []:=List.eq_nil_of_length_eq_zero h
  subst this
  exact ⟨Int.le_refl _,by decide⟩
 |succ n ih=>
  intro l h ha
  have hne:l≠ []:=by intro e;rw [e] at h;simp at h
  have e:l=l.dropLast++ [l.getLast hne]:=(List.dropLast_concat_getLast hne).symm
  have hl:l.dropLast.length=n:=by rw [List.length_dropLast,h];omega
  obtain ⟨i1,i2⟩:=ih _ hl fun x hx=>ha x (List.dropLast_subset _ hx)
  have hc:=Xgz (ha _ (List.getLast_mem hne))
  rw [e,Xfk]
  omega
theorem Xug {l:List Xt} (hl:l.length≤1000000) (ha:∀x∈l,xtBad x=false):sumW l=xtSum l:=by
 have key:∀k,k≤l.length→sumW (l.take k)=xtSum (l.take k):=by
  intro k
  induction k with
  |zero=>intro _;rfl
  |succ k ih=>
   intro hk
   have e:l.take (k+1)=l.take k++ [l[k]]:=List.take_succ_eq_append_getElem (by omega)
   have hb:=Xn1 k (l.take k) (by rw [List.length_take];omega) fun x hx=>ha x (List.mem_of_mem_take hx)
   have hc:=Xgz (ha l[k] (List.getElem_mem _))
   rw [e,Xko,Xfk,ih (by omega)]
   unfold wrap64
   omega
 have:=key l.length (Qn _)
 rwa [List.take_length] at this
theorem Xcz {e:Ent} (h:e.exts.length≤1000000):entErrR e=entErr e:=by
 unfold entErrR entErr
 by_cases h8:xtsErr (e.kind==1) e.exts=0
 ·have:sumW e.exts=xtSum e.exts:=by
   cases hk:(e.kind==1)
   ·rw [hk] at h8
    cases hx:e.exts with
    |nil=>rfl
    |cons y l=>rw [hx] at h8;simp [xtsErr] at h8
   ·rw [hk] at h8
    exact Xug h (Xgu _ h8)
  rw [this]
 ·simp only [h8,ne_eq,not_false_eq_true,if_true]
structure EntB (w:World) (n:Nat) (e:Ent) (va vx:Value):Prop where
 c0:w.cell? ⟨n,0,none⟩=some (.int .i64 e.kind)
 c1:w.cell? ⟨n,1,none⟩=some (S e.path)
 c2:w.cell? ⟨n,2,none⟩=some va
 c3:w.cell? ⟨n,3,none⟩=some (S e.target)
 c4:w.cell? ⟨n,4,none⟩=some (.int .i64 e.size)
 c5:w.cell? ⟨n,5,none⟩=some (S e.digest)
 c6:w.cell? ⟨n,6,none⟩=some vx
theorem EntB.thru {w w':World} {n:Nat} {e:Ent} {va vx:Value} (h:EntB w n e va vx) (hb:Below w.heap.size w w'):EntB w' n e va vx:=
 ⟨Xaa hb h.c0,Xaa hb h.c1,Xaa hb h.c2,Xaa hb h.c3,Xaa hb h.c4,Xaa hb h.c5,Xaa hb h.c6⟩
theorem EntB.past {w:World} {n:Nat} {e:Ent} {va vx:Value} (h:EntB w n e va vx) (x:Obj):EntB (w.alloc x) n e va vx:=
 ⟨Xab x h.c0,Xab x h.c1,Xab x h.c2,Xab x h.c3,Xab x h.c4,Xab x h.c5,Xab x h.c6⟩
theorem entB {W w':World} {e:Ent} {va vx:Value} {t:TypeId} {n:Nat} (hn:n=W.heap.size) (hb:Below (W.alloc (.cells #[.int .i64 e.kind,S e.path,va,S e.target,.int .i64 e.size,S e.digest,vx] t)).heap.size (W.alloc (.cells #[.int .i64 e.kind,S e.path,va,S e.target,.int .i64 e.size,S e.digest,vx] t)) w'):EntB w' n e va vx:=by
 subst hn
 exact EntB.thru ⟨by simp,by simp,by simp,by simp,by simp,by simp,by simp⟩ hb
end Go.Proofs.YtdeknddamidldaaGreatDoor
