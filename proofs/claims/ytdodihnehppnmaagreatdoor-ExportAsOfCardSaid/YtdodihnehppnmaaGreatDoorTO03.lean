/-
  Walks and laws that the claim's theorem uses: texts AtC EnB EnC, joined; comments out. Conditions: as each theorem says.
-/
import Derived.Test.YtdodihnehppnmaaGreatDoorTO02
set_option linter.all false
namespace Go.Proofs.YtdodihnehppnmaaGreatDoor
open Go.RowKit
theorem Xgq (p:Option At) (x:At) (l:List At):chkFrom p (x::l)=if atErr x≠0 then atErr x else if (p.any fun q=>q.k==x.k) then 8 else if (p.any fun q=>Op.bytesLess x.k q.k) then 14 else chkFrom (some x) l:=rfl
set_option maxRecDepth 100000 in
set_option maxHeartbeats 1000000 in
theorem Xm9 (I:IH) (v:Value) (l:List At) (hv:RdS tAt I v l) (hl:∀x∈l,x.Wf) (w:World) (hw:Ok I w):
 Calls Tryz.prog 152 #[v] w fun e w'=>e= .returned (.int .i64 (chk l))∧Below w.heap.size w w':=by
 have hlen:=hv.len_le
 obtain ⟨ao,cap,rfl,hcap,hcm,_⟩:=id hv
 have Hv:=Qh hv;clear hv
 have Hl:=Qh hl;clear hl
 by_cases h16:l.length≤16
 ·have hd:decide (16<l.length)=false:=Qf (by omega)
  have Hchk:=Qh (show chk l=chkFrom none l by rw [chk,if_neg (by omega)])
  go_enter Tryz.func152,Tryz.ntmps152
  go_wp2_with fail
  go_loopw [3] (fun s3 wr=> ∃k:Nat,k≤l.length∧s3= .int .i64 k∧chkFrom (if k=0 then none else l[k-1]?) (l.drop k)=chkFrom none l∧Below w.heap.size w wr) (fun i _=>l.length-(intOf i).toNat)
  case atStart=>exact ⟨0,Nat.zero_le _,rfl,rfl,Qb _ _⟩
  case round=>
   obtain ⟨k,hk,rfl,hr,hb⟩:=hrel
   have Hr:=Qh hr;clear hr
   by_cases hlt:k<l.length
   ·have hwr:Ok I wr:=hw.below (Qn _) hb
    obtain ⟨x,b,off,cap',hlx,hvv,hc0,hc1⟩:=atAt Hv.out hwr k hlt
    cases hvv
    have hxm:x∈l:=by rw [←hlx];exact List.getElem_mem hlt
    obtain ⟨hx1,hx2⟩:=Hl.out x hxm
    have Hst:=Qh (show chk l=if atErr x≠0 then atErr x else if ((if k=0 then none else l[k-1]?).any fun q=>q.k==x.k) then 8 else if ((if k=0 then none else l[k-1]?).any fun q=>Op.bytesLess x.k q.k) then 14 else chkFrom (some x) (l.drop (k+1)) by
     rw [Hchk.out,←Hr.out,List.drop_eq_getElem_cons hlt,hlx,Xgq])
    have Hkx:=Qh (show l[k]? =some x by rw [List.getElem?_eq_getElem hlt,hlx])
    clear hlx hxm
    go_wp2_with fail
    refine (Xq9 x.k hx1 _).mono ?_
    rintro e w1 ⟨rfl,hb1⟩
    have hb1':=hb.trans (hb1.mono hb.size)
    have hc0:=Xaa hb1 hc0
    have hc1:=Xaa hb1 hc1
    have hw1:Ok I w1:=hwr.below (Qn _) hb1
    clear hb1
    cases hko:keyOk x.k
    ·have Hko:=Qh (show chk l=7 by rw [Hst.out,if_pos (by rw [atErr,if_pos hko];omega),atErr,if_pos hko])
     clear hko
     go_wp2
     go_ret
     exact ⟨Xac Hko.out.symm,hb1'⟩
    ·have Hko:=Qh hko
     clear hko
     by_cases h64:x.v.length≤64
     ·have hd2:decide (64<x.v.length)=false:=Qf (by omega)
      have He:=Qh (show atErr x=0 by rw [atErr,if_neg (by rw [Hko.out];simp),if_neg (by omega)])
      by_cases hk0:k=0
      ·have hd3:decide (0<k)=false:=Qf (by omega)
       have Hnx:=Qh (show chkFrom (if k+1=0 then none else l[k+1-1]?) (l.drop (k+1))=chkFrom none l by
        rw [←Hchk.out,Hst.out,He.out,if_neg (by omega),Nat.add_sub_cancel,Hkx.out];simp [hk0])
       clear hk0
       go_wp2_with fail
       refine wp_region_quiet_below (by kernel_rfl) (by kernel_rfl) ?_
       repeat (go_big_quiet_step ((fail)))
       refine wpQuiet_nil ?_
       intro w2 hwq
       have hb2:Below (w1).heap.size (w1) w2:=by
        obtain ⟨pq,rfl⟩:=hwq
        exact below_regrown _ _ _
       clear hwq
       go_wp2_with fail
       refine wp_region_quiet_below (by kernel_rfl) (by kernel_rfl) ?_
       repeat (go_big_quiet_step ((fail)))
       refine wpQuiet_nil ?_
       intro w3 hwq
       have hb3:Below (w2).heap.size (w2) w3:=by
        obtain ⟨pq,rfl⟩:=hwq
        exact below_regrown _ _ _
       clear hwq
       go_wp2
       go_roundw
       case rel=>exact ⟨k+1,by omega,by go_num,Hnx.out,hb1'.trans ((hb2.trans (hb3.mono hb2.size)).mono hb1'.size)⟩
       case measure=>simp [intOf];omega
      ·obtain ⟨q,b',off',cap'',hlq,hvv,hp0,hp1⟩:=atAt Hv.out hw1 (k-1) (by omega)
       cases hvv
       have Hst2:=Qh (show chk l=if (q.k==x.k) then 8 else if Op.bytesLess x.k q.k then 14 else chkFrom (some x) (l.drop (k+1)) by
        rw [Hst.out,He.out,if_neg (by omega),if_neg hk0,List.getElem?_eq_getElem (by omega),hlq];rfl)
       have hd3:decide (0<k)=true:=Qt (by omega)
       have hi:IntKind.i64.wrap ((k:Int)-1)=(k:Int)-1:=IntWalk.i64_in _ (by omega)
       have hj:0≤(k:Int)-1:=by omega
       have hm:((k:Int)-1).toNat=k-1:=by omega
       have hg0:=cell_regrown hc0
       have hq0:=cell_regrown hp0
       clear hlq
       cases he1:(x.k==q.k)
       ·have He1:=Qh (show (q.k==x.k)=false by rw [beq_eq_false_iff_ne] at he1 ⊢;exact fun h=>he1 h.symm)
        cases he2:Op.bytesLess x.k q.k
        ·have Hnx:=Qh (show chkFrom (if k+1=0 then none else l[k+1-1]?) (l.drop (k+1))=chkFrom none l by
          rw [←Hchk.out,Hst2.out,He1.out,he2,Nat.add_sub_cancel,Hkx.out];simp)
         go_wp2_with fail
         refine wp_region_quiet_below (by kernel_rfl) (by kernel_rfl) ?_
         repeat (go_big_quiet_step ((fail)))
         refine wpQuiet_nil ?_
         intro w2 hwq
         have hb2:Below (w1).heap.size (w1) w2:=by
          obtain ⟨pq,rfl⟩:=hwq
          exact below_regrown _ _ _
         clear hwq
         go_wp2_with fail
         have hg0:=cell_regrown (Xaa hb2 hc0)
         have hq0:=cell_regrown (Xaa hb2 hp0)
         refine wp_region_quiet_below (by kernel_rfl) (by kernel_rfl) ?_
         repeat (go_big_quiet_step ((fail)))
         refine wpQuiet_nil ?_
         intro w3 hwq
         have hb3:Below (w2).heap.size (w2) w3:=by
          obtain ⟨pq,rfl⟩:=hwq
          exact below_regrown _ _ _
         clear hwq
         go_wp2
         go_roundw
         case rel=>exact ⟨k+1,by omega,by go_num,Hnx.out,hb1'.trans ((hb2.trans (hb3.mono hb2.size)).mono hb1'.size)⟩
         case measure=>simp [intOf];omega
        ·have Hnx:=Qh (show chk l=14 by rw [Hst2.out,He1.out,he2];simp)
         go_wp2_with fail
         refine wp_region_quiet_below (by kernel_rfl) (by kernel_rfl) ?_
         repeat (go_big_quiet_step ((fail)))
         refine wpQuiet_nil ?_
         intro w2 hwq
         have hb2:Below (w1).heap.size (w1) w2:=by
          obtain ⟨pq,rfl⟩:=hwq
          exact below_regrown _ _ _
         clear hwq
         go_wp2_with fail
         have hg0:=cell_regrown (Xaa hb2 hc0)
         have hq0:=cell_regrown (Xaa hb2 hp0)
         refine wp_region_quiet_below (by kernel_rfl) (by kernel_rfl) ?_
         repeat (go_big_quiet_step ((fail)))
         refine wpQuiet_nil ?_
         intro w3 hwq
         have hb3:Below (w2).heap.size (w2) w3:=by
          obtain ⟨pq,rfl⟩:=hwq
          exact below_regrown _ _ _
         clear hwq
         go_wp2
         go_ret
         exact ⟨Xac Hnx.out.symm,hb1'.trans ((hb2.trans (hb3.mono hb2.size)).mono hb1'.size)⟩
       ·have Hnx:=Qh (show chk l=8 by rw [Hst2.out,if_pos (by rw [beq_iff_eq] at he1 ⊢;exact he1.symm)])
        go_wp2_with fail
        refine wp_region_quiet_below (by kernel_rfl) (by kernel_rfl) ?_
        repeat (go_big_quiet_step ((fail)))
        refine wpQuiet_nil ?_
        intro w2 hwq
        have hb2:Below (w1).heap.size (w1) w2:=by
         obtain ⟨pq,rfl⟩:=hwq
         exact below_regrown _ _ _
        clear hwq
        go_wp2
        go_ret
        exact ⟨Xac Hnx.out.symm,hb1'.trans (hb2.mono hb1'.size)⟩
     ·have hd2:decide (64<x.v.length)=true:=Qt (by omega)
      have He:=Qh (show chk l=6 by
       have:atErr x=6:=by rw [atErr,if_neg (by rw [Hko.out];simp),if_pos (by omega)]
       rw [Hst.out,this];simp)
      go_wp2
      go_ret
      exact ⟨Xac He.out.symm,hb1'⟩
   ·go_wp2
    go_ret
    refine ⟨Xac ?_,hb⟩
    rw [Hchk.out,←Hr.out,List.drop_of_length_le (by omega)];rfl
 ·have hd:decide (16<l.length)=true:=Qt (by omega)
  go_enter Tryz.func152,Tryz.ntmps152
  go_wp2
  go_ret
  exact ⟨Xac (by rw [chk,if_pos (by omega)]),Qb _ _⟩
set_option maxRecDepth 100000 in
set_option maxHeartbeats 400000 in
theorem Xkw (x:Ent) (hx:x.target.length≤9223372036854775807) (va vx:Value) (w:World):
 Calls Tryz.prog 153 #[entV x va vx] w fun e w'=>e= .returned (.bool (targetOk x))∧Below w.heap.size w w':=by
 by_cases h3:x.kind=3
 ·have f3:((x.kind:Int)==3)=true:=by simpa using h3
  by_cases h1:1≤x.target.length
  case neg=>
   have d1:decide (1≤x.target.length)=false:=Qf h1
   have Ht:=Qh (show targetOk x=false by rw [targetOk,if_pos h3,d1];rfl)
   clear h3
   go_enter Tryz.func153,Tryz.ntmps153
   go_wp2
   go_ret
   exact ⟨Xan Ht.out.symm,(Qb _ _).alloc (Qn _) _⟩
  have d1:decide (1≤x.target.length)=true:=Qt h1
  have Ht:=Qh (show targetOk x=decide (x.target.length≤200) by rw [targetOk,if_pos h3,d1];rfl)
  clear h3
  go_enter Tryz.func153,Tryz.ntmps153
  go_wp2
  go_ret
  exact ⟨Xan (by rw [Ht.out,decide_eq_decide];omega),(Qb _ _).alloc (Qn _) _⟩
 have f3:((x.kind:Int)==3)=false:=by simpa using h3
 by_cases h5:x.kind=5
 ·have f5:((x.kind:Int)==5)=true:=by simpa using h5
  have Ht:=Qh (show targetOk x=(dateP x.target).2 by rw [targetOk,if_neg h3,if_pos h5,Xu2])
  clear h3 h5
  go_enter Tryz.func153,Tryz.ntmps153
  go_wp2_with fail
  refine (Xpx x.target hx _).mono ?_
  rintro e w1 ⟨rfl,hb1⟩
  go_wp2
  go_ret
  exact ⟨Xan Ht.out.symm,((Qb _ _).alloc (Qn _) _).trans (hb1.mono (by simp))⟩
 have f5:((x.kind:Int)==5)=false:=by simpa using h5
 have Ht:=Qh (show targetOk x=x.target.isEmpty by rw [targetOk,if_neg h3,if_neg h5])
 clear h3 h5
 go_enter Tryz.func153,Tryz.ntmps153
 go_wp2
 go_ret
 exact ⟨Xan (by rw [Ht.out]),(Qb _ _).alloc (Qn _) _⟩
def greatE (x:Ent):Bool:=decide (300<x.path.length) || decide (300<x.target.length) || decide (100<x.digest.length) || decide (30<x.exts.length) || decide (greatA x.attrs=1)
theorem Xlq (l:List At):greatA l=1∨greatA l=0:=by
 unfold greatA
 split
 ·exact .inl rfl
 ·split
  ·exact .inl rfl
  ·exact .inr rfl
def grE (x:Ent):Int:=if greatE x then 1 else 0
def sumW (l:List Xt):Int:=l.foldl (fun n x=>wrap64 (n+x.n)) 0
theorem Xko (l:List Xt) (x:Xt):sumW (l++ [x])=wrap64 (sumW l+x.n):=by simp [sumW,List.foldl_append]
def entErrR (e:Ent):Int:=
 if e.kind<1∨6<e.kind then 10
 else if pathErr e.path≠0 then pathErr e.path
 else if e.path= []∧e.kind<5 then 1
 else if chk e.attrs≠0 then chk e.attrs
 else if (e.attrs≠ []∧3<e.kind)∨targetOk e=false then 1
 else if e.size<0∨65536<e.size∨(e.kind≠1∧e.size≠0) then 2
 else if (e.kind=1∧e.digest.length≠32)∨(e.kind≠1∧e.digest≠ []) then 1
 else if xtsErr (e.kind==1) e.exts≠0 then xtsErr (e.kind==1) e.exts
 else if sumW e.exts≠e.size then 1 else 0
theorem Xg4:∀(l:List Xt),xtsErr true l=0→ ∀x∈l,xtBad x=false
 | [],_,_,h=>absurd h (by simp)
 |y::l,h,x,hx=>by
  rw [xtsErr,if_neg (by simp)] at h
  by_cases hb:xtBad y=true
  ·rw [if_pos hb] at h;omega
  ·rw [if_neg hb] at h
   rcases List.mem_cons.1 hx with rfl|hx
   ·simpa using hb
   ·exact Xg4 l h x hx
theorem Xg7 {x:Xt} (h:xtBad x=false):1≤x.n∧x.n≤65536:=by
 unfold xtBad at h
 simp only [Bool.or_eq_false_iff,decide_eq_false_iff_not] at h
 omega
theorem Xfu (l:List Xt) (x:Xt):xtSum (l++ [x])=xtSum l+x.n:=by simp [xtSum]
theorem Xn5:∀(n:Nat) (l:List Xt),l.length=n→(∀x∈l,xtBad x=false)→0≤xtSum l∧xtSum l≤65536*n:=by
 intro n
 induction n with
 |zero=>
  intro l h _
  have:l= []:=List.eq_nil_of_length_eq_zero h
  subst this
  exact ⟨Int.le_refl _,by decide⟩
 |succ n ih=>
  intro l h ha
  have hne:l≠ []:=by intro e;rw [e] at h;simp at h
  have e:l=l.dropLast++ [l.getLast hne]:=(List.dropLast_concat_getLast hne).symm
  have hl:l.dropLast.length=n:=by rw [List.length_dropLast,h];omega
  obtain ⟨i1,i2⟩:=ih _ hl fun x hx=>ha x (List.dropLast_subset _ hx)
  have hc:=Xg7 (ha _ (List.getLast_mem hne))
  rw [e,Xfu]
  omega
theorem Xvr {l:List Xt} (hl:l.length≤1000000) (ha:∀x∈l,xtBad x=false):sumW l=xtSum l:=by
 have key:∀k,k≤l.length→sumW (l.take k)=xtSum (l.take k):=by
  intro k
  induction k with
  |zero=>intro _;rfl
  |succ k ih=>
   intro hk
   have e:l.take (k+1)=l.take k++ [l[k]]:=List.take_succ_eq_append_getElem (by omega)
   have hb:=Xn5 k (l.take k) (by rw [List.length_take];omega) fun x hx=>ha x (List.mem_of_mem_take hx)
   have hc:=Xg7 (ha l[k] (List.getElem_mem _))
   rw [e,Xko,Xfu,ih (by omega)]
   unfold wrap64
   omega
 have:=key l.length (Qn _)
 rwa [List.take_length] at this
theorem Xcf {e:Ent} (h:e.exts.length≤1000000):entErrR e=entErr e:=by
 unfold entErrR entErr
 by_cases h8:xtsErr (e.kind==1) e.exts=0
 ·have:sumW e.exts=xtSum e.exts:=by
   cases hk:(e.kind==1)
   ·rw [hk] at h8
    cases hx:e.exts with
    |nil=>rfl
    |cons y l=>rw [hx] at h8;simp [xtsErr] at h8
   ·rw [hk] at h8
    exact Xvr h (Xg4 _ h8)
  rw [this]
 ·simp only [h8,ne_eq,not_false_eq_true,if_true]
structure EntB (w:World) (n:Nat) (e:Ent) (va vx:Value):Prop where
 c0:w.cell? ⟨n,0,none⟩=some (.int .i64 e.kind)
 c1:w.cell? ⟨n,1,none⟩=some (S e.path)
 c2:w.cell? ⟨n,2,none⟩=some va
 c3:w.cell? ⟨n,3,none⟩=some (S e.target)
 c4:w.cell? ⟨n,4,none⟩=some (.int .i64 e.size)
 c5:w.cell? ⟨n,5,none⟩=some (S e.digest)
 c6:w.cell? ⟨n,6,none⟩=some vx
theorem EntB.thru {w w':World} {n:Nat} {e:Ent} {va vx:Value} (h:EntB w n e va vx) (hb:Below w.heap.size w w'):EntB w' n e va vx:=
 ⟨Xaa hb h.c0,Xaa hb h.c1,Xaa hb h.c2,Xaa hb h.c3,Xaa hb h.c4,Xaa hb h.c5,Xaa hb h.c6⟩
theorem EntB.past {w:World} {n:Nat} {e:Ent} {va vx:Value} (h:EntB w n e va vx) (x:Obj):EntB (w.alloc x) n e va vx:=
 ⟨Xab x h.c0,Xab x h.c1,Xab x h.c2,Xab x h.c3,Xab x h.c4,Xab x h.c5,Xab x h.c6⟩
theorem entB {W w':World} {e:Ent} {va vx:Value} {t:TypeId} {n:Nat} (hn:n=W.heap.size) (hb:Below (W.alloc (.cells #[.int .i64 e.kind,S e.path,va,S e.target,.int .i64 e.size,S e.digest,vx] t)).heap.size (W.alloc (.cells #[.int .i64 e.kind,S e.path,va,S e.target,.int .i64 e.size,S e.digest,vx] t)) w'):EntB w' n e va vx:=by
 subst hn
 exact EntB.thru ⟨by simp,by simp,by simp,by simp,by simp,by simp,by simp⟩ hb
end Go.Proofs.YtdodihnehppnmaaGreatDoor
