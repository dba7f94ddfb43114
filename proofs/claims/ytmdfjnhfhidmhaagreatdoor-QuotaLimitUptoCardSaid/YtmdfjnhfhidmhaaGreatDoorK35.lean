/-
  Walks and laws that the claim's theorem uses: texts SnU RhS SnK, joined; comments out. Conditions: as each theorem says.
-/
import Derived.Test.YtmdfjnhfhidmhaaGreatDoorK34
set_option linter.all false
namespace Go.Proofs.YtmdfjnhfhidmhaaGreatDoor
open Go.RowKit
theorem Xmz {a b:List Ho} (hl:a.length=b.length) (h:∀i (hi:i<a.length),a[i]=b[i]'(by omega)):a=b:=List.ext_getElem hl fun i h1 _=>h i h1
theorem Xmj (a b:Ho) (W:World):(binOp .neq 148 (.agg #[S a.p,.int .i64 a.u]) (.agg #[S b.p,.int .i64 b.u])).run Tryz.prog W= .ok (.bool (!decide (a=b))) W:=by
 rw [Xcb _ _ [(9,0,false),(3,1,false)] W (by kernel_rfl) (by kernel_rfl) (by kernel_rfl)]
 obtain ⟨a1,a2⟩:=a
 obtain ⟨b1,b2⟩:=b
 simp [go_sem]
 by_cases h1:a1=b1<;>by_cases h2:a2=b2<;>simp [h1,h2]<;>omega
set_option maxRecDepth 100000 in
set_option maxHeartbeats 1000000 in
theorem Xmo (I:IH) (va vb:Value) (a b:List Ho) (hva:RdS tHo I va a) (hvb:RdS tHo I vb b) (w:World) (hw:Ok I w):
 Calls Tryz.prog 41 #[va,vb] w fun e w'=>e= .returned (.bool (decide (a=b)))∧Below w.heap.size w w':=by
 have hla:=hva.len_le
 have hlb:=hvb.len_le
 obtain ⟨ao,ca,rfl,_,_,_⟩:=id hva
 obtain ⟨bo,cb,rfl,_,_,_⟩:=id hvb
 have Ha:=Qh hva
 have Hb:=Qh hvb
 clear hva hvb
 by_cases hl:a.length=b.length
 case neg=>
  have q1:((a.length:Int) != b.length)=true:=by simpa using (show (a.length:Int)≠b.length by omega)
  have q2:((a.length:Int)==b.length)=false:=by simpa using (show (a.length:Int)≠b.length by omega)
  have Hn:=Qh (show decide (a=b)=false from Qf fun e=>hl (by rw [e]))
  clear hl
  go_enter Tryz.func41,Tryz.ntmps41
  go_wp2
  go_ret
  exact ⟨Xay Hn.out.symm,Qb _ _⟩
 have q1:((a.length:Int) != b.length)=false:=by rw [hl];simp
 have q2:((a.length:Int)==b.length)=true:=by rw [hl];simp
 have Hl:=Qh hl
 have hle:a.length≤b.length:=by omega
 clear hl
 go_enter Tryz.func41,Tryz.ntmps41
 go_wp2_with fail
 go_loopw [5] (fun s5 wr=> ∃k:Nat,k≤a.length∧s5= .int .i64 k∧(∀i (hi:i<a.length),i<k→a[i]=b[i]'(by have:=Hl.out;omega))∧Below w.heap.size w wr) (fun i _=>a.length-(intOf i).toNat)
 case atStart=>exact ⟨0,Nat.zero_le _,rfl,fun i _ h=>absurd h (by omega),Qb _ _⟩
 case round=>
  obtain ⟨k,hk,rfl,hr,hb⟩:=hrel
  have Hr:=Qh hr;clear hr
  have hwr:Ok I wr:=hw.below (Qn _) hb
  by_cases hlt:k<a.length
  ·have hlt2:k<b.length:=by omega
   obtain ⟨x,b1,off1,cap1,hlx,hvv,c0,c1⟩:=hoAt Ha.out hwr k hlt
   cases hvv
   obtain ⟨y,b2,off2,cap2,hly,hvv,d0,d1⟩:=hoAt Hb.out hwr k hlt2
   cases hvv
   have g0:=cell_regrown c0
   have g1:=cell_regrown c1
   have g2:=cell_regrown d0
   have g3:=cell_regrown d1
   have i1:(k:Int)<a.length:=by omega
   have i2:(k:Int)<b.length:=by omega
   have Hlx:=Qh hlx
   have Hly:=Qh hly
   clear hlx hly
   have hneq:=Xmj x y
   by_cases hpq:x=y
   ·rw [Qt hpq] at hneq
    have Hn:=Qh (show ∀i (hi:i<a.length),i<k+1→a[i]=b[i]'(by have:=Hl.out;omega) from fun i hi h=>by
     by_cases hik:i<k
     ·exact Hr.out i hi hik
     ·have:i=k:=by omega
      subst this
      rw [Hlx.out,Hly.out,hpq])
    clear hpq
    go_wp2_with fail
    refine wp_region_quiet_below (by kernel_rfl) (by kernel_rfl) ?_
    repeat (go_big_quiet_step ((fail)))
    refine wpQuiet_nil ?_
    intro w2 hwq
    have hb2:Below (wr).heap.size (wr) w2:=by
     obtain ⟨pq,rfl⟩:=hwq
     exact below_regrown _ _ _
    clear hwq
    go_wp2
    go_roundw
    case rel=>exact ⟨k+1,by omega,by go_num,Hn.out,hb.trans (hb2.mono hb.size)⟩
    case measure=>simp [intOf];omega
   ·rw [Qf hpq] at hneq
    have Hn:=Qh (show decide (a=b)=false from Qf fun e=>hpq (by
     have h1:=Hlx.out
     have h2:=Hly.out
     subst e
     rw [←h1,←h2]))
    clear hpq
    go_wp2_with fail
    refine wp_region_quiet_below (by kernel_rfl) (by kernel_rfl) ?_
    repeat (go_big_quiet_step ((fail)))
    refine wpQuiet_nil ?_
    intro w2 hwq
    have hb2:Below (wr).heap.size (wr) w2:=by
     obtain ⟨pq,rfl⟩:=hwq
     exact below_regrown _ _ _
    clear hwq
    go_wp2
    go_ret
    exact ⟨Xay Hn.out.symm,hb.trans (hb2.mono hb.size)⟩
  ·have Hn:=Qh (show decide (a=b)=true from Qt (Xmz Hl.out fun i hi=>Hr.out i hi (by omega)))
   go_wp2
   go_ret
   exact ⟨Xay Hn.out.symm,hb⟩
set_option maxRecDepth 100000 in
set_option maxHeartbeats 1000000 in
theorem Xco (I:IH) (v1 v2:Value) (l:List Ent) (hv1:RdS tEnt I v1 l) (hv2:RdS tEnt I v2 l) (w:World) (hw:Ok I w):
 Calls Tryz.prog 54 #[v1,v2] w fun e w'=>e= .returned (.bool true)∧Below w.heap.size w w':=by
 have hlen:=hv1.len_le
 obtain ⟨ao,cap,rfl,hcap,hcm,_⟩:=id hv1
 obtain ⟨ao2,cap2,rfl,hcap2,hcm2,_⟩:=id hv2
 have Hv1:=Qh hv1;clear hv1
 have Hv2:=Qh hv2;clear hv2
 go_enter Tryz.func54,Tryz.ntmps54
 go_wp2_with fail
 go_loopw [5] (fun s5 wr=> ∃k:Nat,k≤l.length∧s5= .int .i64 k∧Below w.heap.size w wr) (fun i _=>l.length-(intOf i).toNat)
 case atStart=>exact ⟨0,Nat.zero_le _,rfl,Qb _ _⟩
 case round=>
  obtain ⟨k,hk,rfl,hb⟩:=hrel
  by_cases hlt:k<l.length
  ·have hwr:Ok I wr:=hw.below (Qn _) hb
   obtain ⟨x,va,vx,b,off,cap',hlx,hvv,⟨c0,c1,c2,c3,c4,c5,c6⟩,h1,h2⟩:=Xd8 Hv1.out hwr k hlt
   cases hvv
   obtain ⟨y,vb,vy,b',off',cap'',hly,hvv,⟨d0,d1,d2,d3,d4,d5,d6⟩,h3,h4⟩:=Xd8 Hv2.out hwr k hlt
   cases hvv
   obtain rfl:x=y:=hlx.symm.trans hly
   have Heq:=Qh (fun W hW=>Xkc I x x va vx vb vy h1 h2 h3 h4 W hW)
   rw [Qt (rfl:x=x)] at Heq
   obtain ⟨aa,ca,rfl,_,_,_⟩:=id h1
   obtain ⟨ax,cx,rfl,_,_,_⟩:=id h2
   obtain ⟨aa2,ca2,rfl,_,_,_⟩:=id h3
   obtain ⟨ax2,cx2,rfl,_,_,_⟩:=id h4
   have c0:=cell_regrown c0
   have c1:=cell_regrown c1
   have c2:=cell_regrown c2
   have c3:=cell_regrown c3
   have c4:=cell_regrown c4
   have c5:=cell_regrown c5
   have c6:=cell_regrown c6
   have d0:=cell_regrown d0
   have d1:=cell_regrown d1
   have d2:=cell_regrown d2
   have d3:=cell_regrown d3
   have d4:=cell_regrown d4
   have d5:=cell_regrown d5
   have d6:=cell_regrown d6
   clear hlx hly h1 h2 h3 h4
   go_wp2_with fail
   refine wp_region_quiet_below (by kernel_rfl) (by kernel_rfl) ?_
   repeat (go_big_quiet_step ((with_reducible exact Calls.regrown_of (Heq.out _ (hwr.below (Qn _) (below_regrown _ _ _))))))
   refine wpQuiet_nil ?_
   intro w2 hwq
   have hb2:Below (wr).heap.size (wr) w2:=by
    obtain ⟨pq,rfl⟩:=hwq
    exact below_regrown _ _ _
   clear hwq
   go_wp2
   go_roundw
   case rel=>exact ⟨k+1,by omega,by go_num,hb.trans (hb2.mono hb.size)⟩
   case measure=>simp [intOf];omega
  ·go_wp2
   go_ret
   exact ⟨rfl,hb⟩
theorem Xmk (c:Ck) (W:World):(binOp .neq 156 (.agg #[S c.d,.int .i64 c.x.s,.int .i64 c.x.o,.int .i64 c.x.n]) (.agg #[S c.d,.int .i64 c.x.s,.int .i64 c.x.o,.int .i64 c.x.n])).run Tryz.prog W= .ok (.bool false) W:=by
 rw [Xcb _ _ [(9,0,false),(109,1,false)] W (by kernel_rfl) (by kernel_rfl) (by kernel_rfl)]
 have h:∀W,(Op.equalIn (9998+1) 109 (.agg #[.int .i64 c.x.s,.int .i64 c.x.o,.int .i64 c.x.n]) (.agg #[.int .i64 c.x.s,.int .i64 c.x.o,.int .i64 c.x.n])).run Tryz.prog W= .ok true W:=fun W=>by
  rw [run_equalIn_agg _ _ _ _ _ (by kernel_rfl) (by kernel_rfl), Xcx, show ((Tryz.prog.fieldsOf 109).toList.map fun f => (f.type, f.offset, f.name == "_")) = [(3, 0, false), (3, 1, false), (3, 2, false)] by kernel_rfl]
  simp [go_sem]
 simp [go_sem,h]
set_option maxRecDepth 100000 in
set_option maxHeartbeats 1000000 in
theorem Xqp (I:IH) (q:Sto) (v1 v2:Value) (hv1:RdS tCk I v1 q.cks) (hv2:RdS tCk I v2 q.cks) (w:World) (hw:Ok I w):
 Calls Tryz.prog 55 #[stoV q v1,stoV q v2] w fun e w'=>e= .returned (.bool true)∧Below w.heap.size w w':=by
 have hlen:=hv1.len_le
 obtain ⟨ao,cap,rfl,hcap,hcm,_⟩:=id hv1
 obtain ⟨ao2,cap2,rfl,hcap2,hcm2,_⟩:=id hv2
 have Hv1:=Qh hv1;clear hv1
 have Hv2:=Qh hv2;clear hv2
 have hok2:Ok I ((w.alloc (.cells #[.slice ao q.cks.length cap,.int .i64 q.ses,S q.str] 40)).alloc (.cells #[.slice ao2 q.cks.length cap2,.int .i64 q.ses,S q.str] 40)):=(hw.alloc _).alloc _
 go_enter Tryz.func55,Tryz.ntmps55
 go_wp2_with fail
 obtain ⟨W,hW⟩:∃W,((w.alloc (.cells #[.slice ao q.cks.length cap,.int .i64 q.ses,S q.str] 40)).alloc (.cells #[.slice ao2 q.cks.length cap2,.int .i64 q.ses,S q.str] 40))=W:=⟨_,rfl⟩
 have R0:W.heap[w.heap.size]? =some (.cells #[.slice ao q.cks.length cap,.int .i64 q.ses,S q.str] 40 (0,0)):=by rw [←hW];exact (Below.heap_alloc _ _ _ (by simp)).trans (heap_alloc_new w _)
 have R1:W.heap[w.heap.size+1]? =some (.cells #[.slice ao2 q.cks.length cap2,.int .i64 q.ses,S q.str] 40 (0,0)):=by
  rw [←hW]
  have h:=heap_alloc_new (w.alloc (.cells #[.slice ao q.cks.length cap,.int .i64 q.ses,S q.str] 40)) (.cells #[.slice ao2 q.cks.length cap2,.int .i64 q.ses,S q.str] 40)
  rwa [World.size_alloc] at h
 have hbW:Below w.heap.size w W:=by rw [←hW];exact ((Qb _ _).alloc (Qn _) _).alloc (by simp) _
 rw [hW] at hok2
 have hsW:W.heap.size=w.heap.size+2:=by rw [←hW];simp
 have H0:=Qh (cell_of_row W w.heap.size 0 _ _ _ R0)
 have H1:=Qh (cell_of_row W (w.heap.size+1) 0 _ _ _ R1)
 change Code.wp _ _ _ _ ((w.alloc (.cells #[.slice ao q.cks.length cap,.int .i64 q.ses,S q.str] 40)).alloc (.cells #[.slice ao2 q.cks.length cap2,.int .i64 q.ses,S q.str] 40))
 rw [hW]
 clear hW R0 R1
 go_loopw [5] (fun s5 wr=> ∃k:Nat,k≤q.cks.length∧s5= .int .i64 k∧Below W.heap.size W wr) (fun i _=>q.cks.length-(intOf i).toNat)
 case atStart=>exact ⟨0,Nat.zero_le _,rfl,Qb _ _⟩
 case round=>
  obtain ⟨k,hk,rfl,hb⟩:=hrel
  have z0:wr.cell? ⟨w.heap.size,0,none⟩=some (.slice ao q.cks.length cap):=(hb.cell (by show w.heap.size<_;omega)).trans (H0.out.trans rfl)
  have z1:wr.cell? ⟨w.heap.size+1,0,none⟩=some (.slice ao2 q.cks.length cap2):=(hb.cell (by show w.heap.size+1<_;omega)).trans (H1.out.trans rfl)
  have hbw:=hbW.trans (hb.mono hbW.size)
  by_cases hlt:k<q.cks.length
  ·have hwr:Ok I wr:=hok2.below (Qn _) hb
   obtain ⟨x,b,off,cap',hlx,hvv,c0,c1,c2,c3⟩:=ckAt Hv1.out hwr k hlt
   cases hvv
   obtain ⟨y,b',off',cap'',hly,hvv,d0,d1,d2,d3⟩:=ckAt Hv2.out hwr k hlt
   cases hvv
   obtain rfl:x=y:=hlx.symm.trans hly
   have hneq:=Xmk x
   clear hlx hly
   go_wp2_with fail
   have z0:=cell_regrown z0
   have z1:=cell_regrown z1
   have c0:=cell_regrown c0
   have c1:=cell_regrown c1
   have c2:=cell_regrown c2
   have c3:=cell_regrown c3
   have d0:=cell_regrown d0
   have d1:=cell_regrown d1
   have d2:=cell_regrown d2
   have d3:=cell_regrown d3
   refine wp_region_quiet_below (by kernel_rfl) (by kernel_rfl) ?_
   repeat (go_big_quiet_step ((fail)))
   refine wpQuiet_nil ?_
   intro w2 hwq
   have hb2:Below (wr).heap.size (wr) w2:=by
    obtain ⟨pq,rfl⟩:=hwq
    exact below_regrown _ _ _
   clear hwq
   go_wp2
   go_roundw
   case rel=>exact ⟨k+1,by omega,by go_num,hb.trans (hb2.mono hb.size)⟩
   case measure=>simp [intOf];omega
  ·go_wp2
   go_ret
   exact ⟨rfl,hbw⟩
end Go.Proofs.YtmdfjnhfhidmhaaGreatDoor
