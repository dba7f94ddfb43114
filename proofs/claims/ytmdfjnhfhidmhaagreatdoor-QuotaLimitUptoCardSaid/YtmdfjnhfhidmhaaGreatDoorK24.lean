/-
  Walks and laws that the claim's theorem uses: texts SnE SnF SnG, joined; comments out. Conditions: as each theorem says.
-/
import Derived.Test.YtmdfjnhfhidmhaaGreatDoorK20
import Derived.Test.YtmdfjnhfhidmhaaGreatDoorK23
set_option linter.all false
namespace Go.Proofs.YtmdfjnhfhidmhaaGreatDoor
open Go.RowKit
abbrev r39L (n:Nat) (num date:Int) (prev st p1 p2 p3 p4 sm p6 p7 v6 v10 v15 v21 v26:Bytes) (ao:Option Addr) (le co:Nat) (x:Nat × Nat):List (Option Tmp × Value):=
 [(some 7,.pointer (some ⟨n,0,none⟩)),(some 8,.int .i64 num),(some 9,S p1),(some 10,.pointer (some ⟨n,1,none⟩)),(some 11,.int .i64 date),(some 12,S p2),(some 13,S v6),(some 14,.pointer (some ⟨n,2,none⟩)),(some 15,S prev),(some 16,S p3),(some 17,S v10),(some 18,.pointer (some ⟨n,4,none⟩)),(some 19,S st),(some 20,.int .i64 (st.length:Int)),(some 21,S p4),(some 22,S v15),(some 23,.pointer (some ⟨n,4,none⟩)),(some 24,S st),(some 25,.slice (some ⟨x.1,0,none⟩) 1 1),(some 26,S sm),(some 27,S p6),(some 28,S v21),(some 29,.pointer (some ⟨n,3,none⟩)),(some 30,.slice ao le co),(some 31,.int .i64 (le:Int)),(some 32,S p7),(some 33,S v26),(some 3,S v26)]
abbrev arcV (ai dt sp:Int) (vs:Value):Value:= .agg #[.int .u32 ai,.int .i64 dt,.int .i64 sp,vs]
abbrev drV (d:Drf) (ve vk vt vh:Value):Value:= .agg #[.int .i64 d.num,.int .i64 d.date,S d.prev,ve,vk,.int .i64 d.sto.ses,S d.sto.str,vt,vh]
structure DrB (w:World) (n:Nat) (d:Drf) (ve vk vt vh:Value):Prop where
 c0:w.cell? ⟨n,0,none⟩=some (.int .i64 d.num)
 c1:w.cell? ⟨n,1,none⟩=some (.int .i64 d.date)
 c2:w.cell? ⟨n,2,none⟩=some (S d.prev)
 c3:w.cell? ⟨n,3,none⟩=some ve
 c4:w.cell? ⟨n,4,none⟩=some vk
 c5:w.cell? ⟨n,5,none⟩=some (.int .i64 d.sto.ses)
 c6:w.cell? ⟨n,6,none⟩=some (S d.sto.str)
 c7:w.cell? ⟨n,7,none⟩=some vt
 c8:w.cell? ⟨n,8,none⟩=some vh
theorem DrB.thru {w w':World} {b:Nat} {d:Drf} {ve vk vt vh:Value} (h:DrB w b d ve vk vt vh) (hb:Below w.heap.size w w'):DrB w' b d ve vk vt vh:=
 ⟨Xaa hb h.c0,Xaa hb h.c1,Xaa hb h.c2,Xaa hb h.c3,Xaa hb h.c4,Xaa hb h.c5,Xaa hb h.c6,Xaa hb h.c7,Xaa hb h.c8⟩
theorem DrB.past {w:World} {b:Nat} {d:Drf} {ve vk vt vh:Value} (h:DrB w b d ve vk vt vh) (x:Obj):DrB (w.alloc x) b d ve vk vt vh:=
 ⟨Xad x h.c0,Xad x h.c1,Xad x h.c2,Xad x h.c3,Xad x h.c4,Xad x h.c5,Xad x h.c6,Xad x h.c7,Xad x h.c8⟩
theorem drB_row {w:World} {b:Nat} {d:Drf} {ve vk vt vh:Value} {t:TypeId} (h:w.heap[b]? =some (.cells #[.int .i64 d.num,.int .i64 d.date,S d.prev,ve,vk,.int .i64 d.sto.ses,S d.sto.str,vt,vh] t (0,0))):DrB w b d ve vk vt vh:=
 ⟨(cell_of_row w b 0 _ _ _ h).trans rfl,(cell_of_row w b 1 _ _ _ h).trans rfl,(cell_of_row w b 2 _ _ _ h).trans rfl,(cell_of_row w b 3 _ _ _ h).trans rfl,(cell_of_row w b 4 _ _ _ h).trans rfl,(cell_of_row w b 5 _ _ _ h).trans rfl,(cell_of_row w b 6 _ _ _ h).trans rfl,(cell_of_row w b 7 _ _ _ h).trans rfl,(cell_of_row w b 8 _ _ _ h).trans rfl⟩
theorem ArcOk.sesD {n m:Nat} {L:List Ses} (h:ArcOk n m L) (hn:n≤400) (hm:m≤254):∀x∈L,SesD x:=fun x hx=>by
 obtain ⟨k,hk,e⟩:=List.getElem_of_mem hx
 have hs:=h.at_ hk e
 have hl:=h.len
 exact ⟨by rw [hs.num];omega,hs.date,hs.prev,hs.stream,Nat.le_trans (h.ents hx) hn,h.err hx,fun e he=>Xh9 (h.err hx e he),hs.exts⟩
theorem Xgw (L:List Ses):L= []∨ ∃k,∃hk:k<L.length,L.length=k+1∧L.getLast? =some L[k]:=by
 rcases Nat.eq_zero_or_pos L.length with h|h
 ·exact .inl (List.eq_nil_of_length_eq_zero h)
 ·refine .inr ⟨L.length-1,by omega,by omega,?_⟩
  rw [List.getLast?_eq_getElem?,List.getElem?_eq_getElem (by omega)]
set_option maxRecDepth 100000 in
set_option maxHeartbeats 1000000 in
theorem Xj7 (I:IH) (hI:Glob I) (ai dt sp:Int) (L:List Ses) (vs:Value) (hvs:RdS tSes I vs L) (hL:∀x∈L,SesD x) (w:World) (hw:Ok I w):
 Calls Tryz.prog 61 #[arcV ai dt sp vs] w fun e w'=>e= .returned (S (lastDig L))∧Below w.heap.size w w':=by
 obtain ⟨ao,co,rfl,_,_,_⟩:=id hvs
 rcases Xgw L with rfl|⟨k,hk,hlen,hlast⟩
 ·go_enter Tryz.func61,Tryz.ntmps61
  go_wp2
  go_ret
  exact ⟨rfl,(Qb _ _).alloc (Qn _) _⟩
 ·have Hn:=Qh (show lastDig L=sumP (sesText L[k]) by unfold lastDig;rw [hlast])
  obtain ⟨x,ve,b,off,cap',hlx,hvv,hat,hve⟩:=Xsm hvs (hw.alloc (.cells #[.int .u32 ai,.int .i64 dt,.int .i64 sp,.slice ao L.length co] 63)) k hk
  cases hvv
  obtain ⟨c0,c1,c2,c3,c4,c5⟩:=hat
  have Hd:=Qh (fun w hw=>Xnz I hI x ve hve (hL x (by rw [←hlx];exact List.getElem_mem hk)) w hw)
  rw [hlx] at Hn
  have m1:IntKind.i64.wrap (k:Int)=(k:Int):=IntWalk.i64_in _ (by have:=hvs.len_le;omega)
  have z1:(((k+1:Nat):Int)==0)=false:=by simp;omega
  have i1:(k:Int)<((k+1:Nat):Int):=by omega
  rw [Hn.out]
  rw [hlen] at c0 c1 c2 c3 c4 c5 ⊢
  clear hvs hlx hlast hlen hve Hn
  go_enter Tryz.func61,Tryz.ntmps61
  go_wp2_with fail
  refine (Hd.out _ (hw.alloc _)).mono ?_
  rintro e w1 ⟨rfl,hb1⟩
  go_wp2
  go_ret
  exact ⟨rfl,((Qb _ _).alloc (Qn _) _).trans (hb1.mono (by simp))⟩
set_option maxRecDepth 100000 in
set_option maxHeartbeats 1000000 in
theorem Xj8 (I:IH) (ai dt sp:Int) (L:List Ses) (vs:Value) (hvs:RdS tSes I vs L) (w:World) (hw:Ok I w):
 Calls Tryz.prog 59 #[arcV ai dt sp vs] w fun e w'=>e= .returned (.int .i64 (lastDt L))∧Below w.heap.size w w':=by
 obtain ⟨ao,co,rfl,_,_,_⟩:=id hvs
 rcases Xgw L with rfl|⟨k,hk,hlen,hlast⟩
 ·go_enter Tryz.func59,Tryz.ntmps59
  go_wp2
  go_ret
  exact ⟨rfl,(Qb _ _).alloc (Qn _) _⟩
 ·have Hn:=Qh (show lastDt L=L[k].date by unfold lastDt;rw [hlast])
  obtain ⟨x,ve,b,off,cap',hlx,hvv,hat,hve⟩:=Xsm hvs (hw.alloc (.cells #[.int .u32 ai,.int .i64 dt,.int .i64 sp,.slice ao L.length co] 63)) k hk
  cases hvv
  obtain ⟨c0,c1,c2,c3,c4,c5⟩:=hat
  rw [hlx] at Hn
  have m1:IntKind.i64.wrap (k:Int)=(k:Int):=IntWalk.i64_in _ (by have:=hvs.len_le;omega)
  have z1:(((k+1:Nat):Int)==0)=false:=by simp;omega
  have i1:(k:Int)<((k+1:Nat):Int):=by omega
  rw [Hn.out]
  rw [hlen] at c0 c1 c2 c3 c4 c5 ⊢
  clear hvs hlx hlast hlen hve Hn
  go_enter Tryz.func59,Tryz.ntmps59
  go_wp2
  go_ret
  exact ⟨rfl,(Qb _ _).alloc (Qn _) _⟩
theorem Xe3:(Tryz.prog.info? 107).map (fun i=>(i.zero,i.size,i.bytes))=some (some (.agg #[.string ⟨#[]⟩,.string ⟨#[]⟩]),2,32):=by kernel_rfl
set_option maxRecDepth 100000 in
set_option maxHeartbeats 400000 in
theorem Xmh (I:IH) (v:Value) (l:List _) (hv:RdS tAt I v l) (w:World) (hw:Ok I w) (hbig:l.length*32≤140737488355328):
 Calls Tryz.prog 109 #[v] w fun e w'=> ∃v',e= .returned v'∧OwnS tAt 107 I w' w.heap.size v' l∧Below w.heap.size w w':=by
 obtain ⟨i0,hi,hz0,hz1,hz2⟩:=info_parts Xe3
 have q22:∀(w:World) (a:Option Addr) (n c n' c':Nat),(binOp .eql 23 (.slice a n c) (.slice none n' c')).run Tryz.prog w= .ok (.bool a.isNone) w:=fun w a n c n' c'=>Lib.run_eql_slice_nil w _ _ a n c n' c' Tryz.underlying23
 obtain ⟨ao,cap,xs,rfl,hcap,hcm,hL,hx⟩:=hv.cells hw (by decide)
 have HL:=Qh hL
 have Hx:=Qh hx
 clear hL hx hv
 cases ao with
 |none=>
  have h0:l.length=0:=by
   rcases Nat.eq_zero_or_pos l.length with h|h
   ·exact h
   ·obtain ⟨b,off,arr,e,_⟩:=Hx.out h;cases e
  have:l= []:=List.eq_nil_of_length_eq_zero h0
  subst this
  go_enter Tryz.func109,Tryz.ntmps109
  go_wp2
  go_ret
  exact ⟨_,rfl,OwnS.nil _ _ _ _ _,Qb _ _⟩
 |some a=>
  go_enter Tryz.func109,Tryz.ntmps109
  go_wp2_with (at_builtin;refine wpList_append_own _ rfl _ _ 23 rfl w.heap.size 107 i0 _ 2 32 Tryz.underlying23 hi hz0 hz1 hz2 rfl (by decide) _ _ _ rfl (World.ownsRow_made w #[] 0 (Qn _) (Nat.zero_le _) (by simp)) a l.length cap xs rfl ?qc1 ?qc2 ?qc3 ?qc4 ?qc5 ?qc6 ?_)
  case qc1=>exact HL.out.1
  case qc2=>
   intro j u hj
   have hl:0<l.length:=by
    have:=(List.getElem?_eq_some_iff.1 hj).1
    rw [HL.out.1] at this
    rcases Nat.eq_zero_or_pos l.length with h|h
    ·rw [h] at this;omega
    ·exact h
   obtain ⟨b,off,arr,e,_,hb,hc⟩:=Hx.out hl
   cases e
   rw [Addr.add_lit]
   rw [World.cell?_alloc_lt _ _ _ hb]
   exact hc j u hj
  case qc3=>exact HL.out.oneCell
  case qc4=>rw [Nat.zero_add];omega
  case qc5=>rw [Nat.zero_add];exact hbig
  case qc6=>simp
  intro v' w1 hown hgrow _
  go_wp2
  go_ret
  refine ⟨v',rfl,⟨xs,(by have hq:=hown;first|exact hq|(simp at hq;exact hq)),HL.out⟩,?_⟩
  exact ((Qb _ w).alloc (Qn _) _).grown hgrow (by simp) (by intro k hk;simp [Value.ownBlock] at hk;omega)
theorem Xtj (t:List Ent) (p:Bytes):(getE t p).2=(getT t p).isSome:=by
 unfold getE
 cases getT t p<;>rfl
set_option maxRecDepth 100000 in
set_option maxHeartbeats 4000000 in
theorem Xig (I:IH) (hI:Glob I) (d:Drf) (ve vk vt vh:Value) (hvt:RdS tEnt I vt d.tree) (hvh:RdS tHo I vh d.holds) (hk:HOk d.holds) (hnh:d.holds.length≤100000) (e:Ent) (va vx:Value) (hva:RdS tAt I va e.attrs) (hvx:RdS tXt I vx e.exts) (hk1:1≤e.kind) (hpl:e.path.length≤4294967280) (w:World) (hw:Ok I w):
 Calls Tryz.prog 68 #[drV d ve vk vt vh,entV e va vx] w fun r w'=>r= .returned (.int .i64 (askP d.stt e d.date))∧Below w.heap.size w w':=by
 obtain ⟨ye,bx,hg⟩:∃ye bx,getE d.tree e.path=(ye,bx):=⟨_,_,rfl⟩
 have Hg:=Qh (fun w hw=>(by have:=Xsc I vt d.tree hvt e.path w hw;rwa [hg] at this:Calls Tryz.prog 111 #[vt,S e.path] w (RetG I w (ye,bx))))
 have Hal:=Qh (fun w hw=>Xmm I hI vh d.holds hvh hk hnh e va vx hva hvx hpl d.date w hw)
 obtain ⟨at',ct,rfl,_,_,_⟩:=id hvt
 obtain ⟨ah,ch,rfl,_,_,_⟩:=id hvh
 obtain ⟨aa,ca,rfl,_,_,_⟩:=id hva
 obtain ⟨ax,cx,rfl,_,_,_⟩:=id hvx
 have DB:=Qh (show DrB ((w.alloc (.cells #[.int .i64 d.num,.int .i64 d.date,S d.prev,ve,vk,.int .i64 d.sto.ses,S d.sto.str,.slice at' d.tree.length ct,.slice ah d.holds.length ch] 43)).alloc (.cells #[.int .i64 e.kind,S e.path,.slice aa e.attrs.length ca,S e.target,.int .i64 e.size,S e.digest,.slice ax e.exts.length cx] 81)) w.heap.size d ve vk (.slice at' d.tree.length ct) (.slice ah d.holds.length ch) from (drB_row (heap_alloc_new _ _)).past _)
 have EB:=Qh (show EntB ((w.alloc (.cells #[.int .i64 d.num,.int .i64 d.date,S d.prev,ve,vk,.int .i64 d.sto.ses,S d.sto.str,.slice at' d.tree.length ct,.slice ah d.holds.length ch] 43)).alloc (.cells #[.int .i64 e.kind,S e.path,.slice aa e.attrs.length ca,S e.target,.int .i64 e.size,S e.digest,.slice ax e.exts.length cx] 81)) (w.heap.size+1) e (.slice aa e.attrs.length ca) (.slice ax e.exts.length cx) from entB (by simp) (Qb _ _))
 have hb2:Below w.heap.size w ((w.alloc (.cells #[.int .i64 d.num,.int .i64 d.date,S d.prev,ve,vk,.int .i64 d.sto.ses,S d.sto.str,.slice at' d.tree.length ct,.slice ah d.holds.length ch] 43)).alloc (.cells #[.int .i64 e.kind,S e.path,.slice aa e.attrs.length ca,S e.target,.int .i64 e.size,S e.digest,.slice ax e.exts.length cx] 81)):=((Qb w.heap.size w).alloc (Qn _) _).alloc (by simp) _
 have hask:askP d.stt e d.date=if 3<e.kind∨bx=true then alwP d.holds e.kind e.path d.date else 0:=by
  unfold askP
  have h2:=Xtj d.tree e.path
  rw [hg] at h2
  rw [show bx=(getT d.tree e.path).isSome from h2]
  rfl
 clear hvt hvh hva hvx hg
 have k1:decide ((1:Int)≤e.kind)=true:=Qt hk1
 cases bx
 case true=>
  have Hn:=Qh (show askP d.stt e d.date=alwP d.holds e.kind e.path d.date by rw [hask,if_pos (.inr rfl)])
  clear hask hk1
  go_enter Tryz.func68,Tryz.ntmps68
  go_wp2_with fail
  refine (Hg.out _ ((hw.alloc _).alloc _)).mono ?_
  rintro r1 w1 ⟨va1,vx1,rfl,hr1,hr2,hb1⟩
  obtain ⟨aq,cq,rfl,_,_,_⟩:=id hr1
  obtain ⟨aq2,cq2,rfl,_,_,_⟩:=id hr2
  have hok1:Ok I (w1.alloc (.cells #[.int .i64 ye.kind,S ye.path,.slice aq ye.attrs.length cq,S ye.target,.int .i64 ye.size,S ye.digest,.slice aq2 ye.exts.length cq2] 81)):=(((hw.alloc _).alloc _).below (Qn _) hb1).alloc _
  have DB1:=(DB.out.thru hb1).past (.cells #[.int .i64 ye.kind,S ye.path,.slice aq ye.attrs.length cq,S ye.target,.int .i64 ye.size,S ye.digest,.slice aq2 ye.exts.length cq2] 81)
  have EB1:=(EB.out.thru hb1).past (.cells #[.int .i64 ye.kind,S ye.path,.slice aq ye.attrs.length cq,S ye.target,.int .i64 ye.size,S ye.digest,.slice aq2 ye.exts.length cq2] 81)
  have hb1':=(hb2.trans (hb1.mono hb2.size)).alloc (by have:=(hb2.trans (hb1.mono hb2.size)).size;omega) (.cells #[.int .i64 ye.kind,S ye.path,.slice aq ye.attrs.length cq,S ye.target,.int .i64 ye.size,S ye.digest,.slice aq2 ye.exts.length cq2] 81)
  obtain ⟨d0,d1,d2,d3,d4,d5,d6⟩:=EB1
  obtain ⟨c0,c1,c2,c3,c4,c5,c6,c7,c8⟩:=DB1
  clear hb1 hb2 hr1 hr2 Hg
  go_wp2_with fail
  refine (Hal.out _ hok1).mono ?_
  rintro r2 w2 ⟨rfl,hb2⟩
  go_wp2
  go_ret
  rw [Hn.out]
  exact ⟨rfl,hb1'.trans (hb2.mono hb1'.size)⟩
 case false=>
  by_cases h3:e.kind≤3
  ·have Hn:=Qh (show askP d.stt e d.date=0 by rw [hask,if_neg (by simp;omega)])
   have k3:decide (e.kind≤3)=true:=Qt h3
   clear hask hk1 h3
   go_enter Tryz.func68,Tryz.ntmps68
   go_wp2_with fail
   refine (Hg.out _ ((hw.alloc _).alloc _)).mono ?_
   rintro r1 w1 ⟨va1,vx1,rfl,hr1,hr2,hb1⟩
   obtain ⟨aq,cq,rfl,_,_,_⟩:=id hr1
   obtain ⟨aq2,cq2,rfl,_,_,_⟩:=id hr2
   have hok1:Ok I (w1.alloc (.cells #[.int .i64 ye.kind,S ye.path,.slice aq ye.attrs.length cq,S ye.target,.int .i64 ye.size,S ye.digest,.slice aq2 ye.exts.length cq2] 81)):=(((hw.alloc _).alloc _).below (Qn _) hb1).alloc _
   have DB1:=(DB.out.thru hb1).past (.cells #[.int .i64 ye.kind,S ye.path,.slice aq ye.attrs.length cq,S ye.target,.int .i64 ye.size,S ye.digest,.slice aq2 ye.exts.length cq2] 81)
   have EB1:=(EB.out.thru hb1).past (.cells #[.int .i64 ye.kind,S ye.path,.slice aq ye.attrs.length cq,S ye.target,.int .i64 ye.size,S ye.digest,.slice aq2 ye.exts.length cq2] 81)
   have hb1':=(hb2.trans (hb1.mono hb2.size)).alloc (by have:=(hb2.trans (hb1.mono hb2.size)).size;omega) (.cells #[.int .i64 ye.kind,S ye.path,.slice aq ye.attrs.length cq,S ye.target,.int .i64 ye.size,S ye.digest,.slice aq2 ye.exts.length cq2] 81)
   obtain ⟨d0,d1,d2,d3,d4,d5,d6⟩:=EB1
   obtain ⟨c0,c1,c2,c3,c4,c5,c6,c7,c8⟩:=DB1
   clear hb1 hb2 hr1 hr2 Hg
   go_wp2
   go_ret
   rw [Hn.out]
   exact ⟨rfl,hb1'⟩
  ·have Hn:=Qh (show askP d.stt e d.date=alwP d.holds e.kind e.path d.date by rw [hask,if_pos (.inl (by omega))])
   have k3:decide (e.kind≤3)=false:=Qf h3
   clear hask hk1 h3
   go_enter Tryz.func68,Tryz.ntmps68
   go_wp2_with fail
   refine (Hg.out _ ((hw.alloc _).alloc _)).mono ?_
   rintro r1 w1 ⟨va1,vx1,rfl,hr1,hr2,hb1⟩
   obtain ⟨aq,cq,rfl,_,_,_⟩:=id hr1
   obtain ⟨aq2,cq2,rfl,_,_,_⟩:=id hr2
   have hok1:Ok I (w1.alloc (.cells #[.int .i64 ye.kind,S ye.path,.slice aq ye.attrs.length cq,S ye.target,.int .i64 ye.size,S ye.digest,.slice aq2 ye.exts.length cq2] 81)):=(((hw.alloc _).alloc _).below (Qn _) hb1).alloc _
   have DB1:=(DB.out.thru hb1).past (.cells #[.int .i64 ye.kind,S ye.path,.slice aq ye.attrs.length cq,S ye.target,.int .i64 ye.size,S ye.digest,.slice aq2 ye.exts.length cq2] 81)
   have EB1:=(EB.out.thru hb1).past (.cells #[.int .i64 ye.kind,S ye.path,.slice aq ye.attrs.length cq,S ye.target,.int .i64 ye.size,S ye.digest,.slice aq2 ye.exts.length cq2] 81)
   have hb1':=(hb2.trans (hb1.mono hb2.size)).alloc (by have:=(hb2.trans (hb1.mono hb2.size)).size;omega) (.cells #[.int .i64 ye.kind,S ye.path,.slice aq ye.attrs.length cq,S ye.target,.int .i64 ye.size,S ye.digest,.slice aq2 ye.exts.length cq2] 81)
   obtain ⟨d0,d1,d2,d3,d4,d5,d6⟩:=EB1
   obtain ⟨c0,c1,c2,c3,c4,c5,c6,c7,c8⟩:=DB1
   clear hb1 hb2 hr1 hr2 Hg
   go_wp2_with fail
   refine (Hal.out _ hok1).mono ?_
   rintro r2 w2 ⟨rfl,hb2⟩
   go_wp2
   go_ret
   rw [Hn.out]
   exact ⟨rfl,hb1'.trans (hb2.mono hb1'.size)⟩
end Go.Proofs.YtmdfjnhfhidmhaaGreatDoor
