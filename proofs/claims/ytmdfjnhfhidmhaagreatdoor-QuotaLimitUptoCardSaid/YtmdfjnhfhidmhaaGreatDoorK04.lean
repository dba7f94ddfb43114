/-
  Walks and laws that the claim's theorem uses: texts AtA AtB AtC EnB EnC, joined; comments out. Conditions: as each theorem says.
-/
import Derived.Test.YtmdfjnhfhidmhaaGreatDoorK01
set_option linter.all false
namespace Go.Proofs.YtmdfjnhfhidmhaaGreatDoor
open Go.RowKit
def bigA (x:At):Bool:=decide (100<x.k.length) || decide (100<x.v.length)
def greatA (l:List At):Int:=if 30<l.length then 1 else if l.any bigA then 1 else 0
theorem Xml (a b:At) (W:World):(binOp .neq 107 (.agg #[S a.k,S a.v]) (.agg #[S b.k,S b.v])).run Tryz.prog W= .ok (.bool (!decide (a=b))) W:=by
 rw [Xcb _ _ [(9,0,false),(9,1,false)] W (by kernel_rfl) (by kernel_rfl) (by kernel_rfl)]
 obtain ⟨a1,a2⟩:=a
 obtain ⟨b1,b2⟩:=b
 simp [go_sem]
 by_cases h1:a1=b1<;>by_cases h2:a2=b2<;>simp [h1,h2]
set_option maxRecDepth 100000 in
set_option maxHeartbeats 400000 in
theorem Xmp (I:IH) (v1 v2:Value) (l1 l2:List At) (hv1:RdS tAt I v1 l1) (hv2:RdS tAt I v2 l2) (w:World) (hw:Ok I w):
 Calls Tryz.prog 96 #[v1,v2] w fun e w'=>e= .returned (.bool (decide (l1=l2)))∧Below w.heap.size w w':=by
 have hlen:=hv1.len_le
 have hlen2:=hv2.len_le
 obtain ⟨ao,cap,rfl,hcap,hcm,_⟩:=id hv1
 obtain ⟨ao2,cap2,rfl,hcap2,hcm2,_⟩:=id hv2
 have Hv1:=Qh hv1;clear hv1
 have Hv2:=Qh hv2;clear hv2
 by_cases hll:l1.length=l2.length
 ·have hn:((l1.length:Int) != (l2.length:Int))=false:=by rw [hll];simp
  have Hll:=Qh hll;clear hll
  go_enter Tryz.func96,Tryz.ntmps96
  go_wp2
  go_loopw [5] (fun s5 wr=> ∃k:Nat,k≤l1.length∧s5= .int .i64 k∧l1.take k=l2.take k∧Below w.heap.size w wr) (fun i _=>l1.length-(intOf i).toNat)
  case atStart=>exact ⟨0,Nat.zero_le _,rfl,rfl,Qb _ _⟩
  case round=>
   obtain ⟨k,hk,rfl,hr,hb⟩:=hrel
   have Hr:=Qh hr;clear hr
   by_cases hlt:k<l1.length
   ·have hlt2:k<l2.length:=by rw [←Hll.out];exact hlt
    have hwr:Ok I wr:=hw.below (Qn _) hb
    obtain ⟨p,b,off,cap',hp,hvv,hp0,hp1⟩:=atAt Hv1.out hwr k hlt
    cases hvv
    obtain ⟨q,b',off',cap'',hq,hvv,hq0,hq1⟩:=atAt Hv2.out hwr k hlt2
    cases hvv
    have Hp:=Qh hp;clear hp
    have Hq:=Qh hq;clear hq
    have hg0:=cell_regrown hp0
    have hg1:=cell_regrown hp1
    have hy0:=cell_regrown hq0
    have hy1:=cell_regrown hq1
    have hneq:=Xml p q
    by_cases hpq:p=q
    ·rw [Qt hpq] at hneq
     go_wp2_with fail
     refine wp_region_quiet_below (by kernel_rfl) (by kernel_rfl) ?_
     repeat (go_big_quiet_step ((fail)))
     refine wpQuiet_nil ?_
     intro w2 hwq
     have hb2:Below (wr).heap.size (wr) w2:=by
      obtain ⟨pq,rfl⟩:=hwq
      exact below_regrown _ _ _
     clear hwq
     go_wp2
     go_roundw
     case rel=>exact ⟨k+1,by omega,by go_num,by rw [List.take_succ_eq_append_getElem hlt,List.take_succ_eq_append_getElem hlt2,Hr.out,Hp.out,Hq.out,hpq],hb.trans (hb2.mono hb.size)⟩
     case measure=>simp [intOf];omega
    ·rw [Qf hpq] at hneq
     go_wp2_with fail
     refine wp_region_quiet_below (by kernel_rfl) (by kernel_rfl) ?_
     repeat (go_big_quiet_step ((fail)))
     refine wpQuiet_nil ?_
     intro w2 hwq
     have hb2:Below (wr).heap.size (wr) w2:=by
      obtain ⟨pq,rfl⟩:=hwq
      exact below_regrown _ _ _
     clear hwq
     go_wp2
     go_ret
     refine ⟨Xay ?_,hb.trans (hb2.mono hb.size)⟩
     symm
     rw [decide_eq_false_iff_not]
     intro h
     apply hpq
     rw [←Hp.out,←Hq.out]
     simp [h]
   ·go_wp2
    go_ret
    refine ⟨Xay ?_,hb⟩
    symm
    rw [decide_eq_true_iff]
    have:=Hr.out
    rwa [List.take_of_length_le (by omega),List.take_of_length_le (by rw [←Hll.out];omega)] at this
 ·have hn:((l1.length:Int) != (l2.length:Int))=true:=by rw [bne_iff_ne];omega
  go_enter Tryz.func96,Tryz.ntmps96
  go_wp2
  go_ret
  exact ⟨Xay (by simp;intro h;exact hll (by rw [h])),Qb _ _⟩

theorem Xjt (p:Option At) (x:At) (l:List At):chkFrom p (x::l)=if atErr x≠0 then atErr x else if (p.any fun q=>q.k==x.k) then 8 else if (p.any fun q=>Op.bytesLess x.k q.k) then 14 else chkFrom (some x) l:=rfl
def greatE (x:Ent):Bool:=decide (300<x.path.length) || decide (300<x.target.length) || decide (100<x.digest.length) || decide (30<x.exts.length) || decide (greatA x.attrs=1)
def grE (x:Ent):Int:=if greatE x then 1 else 0
def sumW (l:List Xt):Int:=l.foldl (fun n x=>wrap64 (n+x.n)) 0
def entErrR (e:Ent):Int:=
 if e.kind<1∨6<e.kind then 10
 else if pathErr e.path≠0 then pathErr e.path
 else if e.path= []∧e.kind<5 then 1
 else if chk e.attrs≠0 then chk e.attrs
 else if (e.attrs≠ []∧3<e.kind)∨targetOk e=false then 1
 else if e.size<0∨65536<e.size∨(e.kind≠1∧e.size≠0) then 2
 else if (e.kind=1∧e.digest.length≠32)∨(e.kind≠1∧e.digest≠ []) then 1
 else if xtsErr (e.kind==1) e.exts≠0 then xtsErr (e.kind==1) e.exts
 else if sumW e.exts≠e.size then 1 else 0
theorem Xh6:∀(l:List Xt),xtsErr true l=0→ ∀x∈l,xtBad x=false
 | [],_,_,h=>absurd h (by simp)
 |y::l,h,x,hx=>by
  rw [xtsErr,if_neg (by simp)] at h
  by_cases hb:xtBad y=true
  ·rw [if_pos hb] at h;omega
  ·rw [if_neg hb] at h
   rcases List.mem_cons.1 hx with rfl|hx
   ·simpa using hb
   ·exact Xh6 l h x hx
theorem Xh7 {x:Xt} (h:xtBad x=false):1≤x.n∧x.n≤65536:=by
 unfold xtBad at h
 simp only [Bool.or_eq_false_iff,decide_eq_false_iff_not] at h
 omega
theorem Xgl (l:List Xt) (x:Xt):xtSum (l++ [x])=xtSum l+x.n:=by simp [xtSum]
theorem Xp2:∀(n:Nat) (l:List Xt),l.length=n→(∀x∈l,xtBad x=false)→0≤xtSum l∧xtSum l≤65536*n:=by
 intro n
 induction n with
 |zero=>
  intro l h _
  have:l= []:=List.eq_nil_of_length_eq_zero h
  subst this
  exact ⟨Int.le_refl _,by decide⟩
 |succ n ih=>
  intro l h ha
  have hne:l≠ []:=by intro e;rw [e] at h;simp at h
  have e:l=l.dropLast++ [l.getLast hne]:=(List.dropLast_concat_getLast hne).symm
  have hl:l.dropLast.length=n:=by rw [List.length_dropLast,h];omega
  obtain ⟨i1,i2⟩:=ih _ hl fun x hx=>ha x (List.dropLast_subset _ hx)
  have hc:=Xh7 (ha _ (List.getLast_mem hne))
  rw [e,Xgl]
  omega
structure EntB (w:World) (n:Nat) (e:Ent) (va vx:Value):Prop where
 c0:w.cell? ⟨n,0,none⟩=some (.int .i64 e.kind)
 c1:w.cell? ⟨n,1,none⟩=some (S e.path)
 c2:w.cell? ⟨n,2,none⟩=some va
 c3:w.cell? ⟨n,3,none⟩=some (S e.target)
 c4:w.cell? ⟨n,4,none⟩=some (.int .i64 e.size)
 c5:w.cell? ⟨n,5,none⟩=some (S e.digest)
 c6:w.cell? ⟨n,6,none⟩=some vx
theorem EntB.thru {w w':World} {n:Nat} {e:Ent} {va vx:Value} (h:EntB w n e va vx) (hb:Below w.heap.size w w'):EntB w' n e va vx:=
 ⟨Xaa hb h.c0,Xaa hb h.c1,Xaa hb h.c2,Xaa hb h.c3,Xaa hb h.c4,Xaa hb h.c5,Xaa hb h.c6⟩
theorem EntB.past {w:World} {n:Nat} {e:Ent} {va vx:Value} (h:EntB w n e va vx) (x:Obj):EntB (w.alloc x) n e va vx:=
 ⟨Xad x h.c0,Xad x h.c1,Xad x h.c2,Xad x h.c3,Xad x h.c4,Xad x h.c5,Xad x h.c6⟩
theorem entB {W w':World} {e:Ent} {va vx:Value} {t:TypeId} {n:Nat} (hn:n=W.heap.size) (hb:Below (W.alloc (.cells #[.int .i64 e.kind,S e.path,va,S e.target,.int .i64 e.size,S e.digest,vx] t)).heap.size (W.alloc (.cells #[.int .i64 e.kind,S e.path,va,S e.target,.int .i64 e.size,S e.digest,vx] t)) w'):EntB w' n e va vx:=by
 subst hn
 exact EntB.thru ⟨by simp,by simp,by simp,by simp,by simp,by simp,by simp⟩ hb
end Go.Proofs.YtmdfjnhfhidmhaaGreatDoor
