/-
  Walks and laws that the claim's theorem uses: texts PtC PtD, joined; comments out. Conditions: as each theorem says.
-/
import Derived.Test.YtmdfjnhfhidmhaaGreatDoorK12
import Derived.Laws.CopyRow
set_option linter.all false
namespace Go.Proofs.YtmdfjnhfhidmhaaGreatDoor
open Go.RowKit
theorem Xbf:(Tryz.prog.info? 81).map (fun i=>(i.zero,i.size,i.bytes))=some (some (.agg #[.int .i64 0,.string ⟨#[]⟩,.slice none 0 0,.string ⟨#[]⟩,.int .i64 0,.string ⟨#[]⟩,.slice none 0 0]),7,112):=by kernel_rfl
set_option maxRecDepth 100000 in
set_option maxHeartbeats 400000 in
theorem Xbj (I:IH) (v:Value) (l:List _) (hv:RdS tEnt I v l) (w:World) (hw:Ok I w) (hbig:l.length*112≤140737488355328):
 Calls Tryz.prog 69 #[v] w fun e w'=> ∃v',e= .returned v'∧OwnS tEnt 81 I w' w.heap.size v' l∧Below w.heap.size w w':=by
 obtain ⟨i0,hi,hz0,hz1,hz2⟩:=info_parts Xbf
 have q22:∀(w:World) (a:Option Addr) (n c n' c':Nat),(binOp .eql 37 (.slice a n c) (.slice none n' c')).run Tryz.prog w= .ok (.bool a.isNone) w:=fun w a n c n' c'=>Lib.run_eql_slice_nil w _ _ a n c n' c' Tryz.underlying37
 obtain ⟨ao,cap,xs,rfl,hcap,hcm,hL,hx⟩:=hv.cells hw (by decide)
 have HL:=Qh hL
 have Hx:=Qh hx
 clear hL hx hv
 cases ao with
 |none=>
  have h0:l.length=0:=by
   rcases Nat.eq_zero_or_pos l.length with h|h
   ·exact h
   ·obtain ⟨b,off,arr,e,_⟩:=Hx.out h;cases e
  have:l= []:=List.eq_nil_of_length_eq_zero h0
  subst this
  go_enter Tryz.func69,Tryz.ntmps69
  go_wp2
  go_ret
  exact ⟨_,rfl,OwnS.nil _ _ _ _ _,Qb _ _⟩
 |some a=>
  go_enter Tryz.func69,Tryz.ntmps69
  go_wp2_with (at_builtin;refine wpList_append_own _ rfl _ _ 37 rfl w.heap.size 81 i0 _ 7 112 Tryz.underlying37 hi hz0 hz1 hz2 rfl (by decide) _ _ _ rfl (World.ownsRow_made w #[] 0 (Qn _) (Nat.zero_le _) (by simp)) a l.length cap xs rfl ?qc1 ?qc2 ?qc3 ?qc4 ?qc5 ?qc6 ?_)
  case qc1=>exact HL.out.1
  case qc2=>
   intro j u hj
   have hl:0<l.length:=by
    have:=(List.getElem?_eq_some_iff.1 hj).1
    rw [HL.out.1] at this
    rcases Nat.eq_zero_or_pos l.length with h|h
    ·rw [h] at this;omega
    ·exact h
   obtain ⟨b,off,arr,e,_,hb,hc⟩:=Hx.out hl
   cases e
   rw [Addr.add_lit]
   rw [World.cell?_alloc_lt _ _ _ hb]
   exact hc j u hj
  case qc3=>exact HL.out.oneCell
  case qc4=>rw [Nat.zero_add];omega
  case qc5=>rw [Nat.zero_add];exact hbig
  case qc6=>simp
  intro v' w1 hown hgrow _
  go_wp2
  go_ret
  refine ⟨v',rfl,⟨xs,(by have hq:=hown;first|exact hq|(simp at hq;exact hq)),HL.out⟩,?_⟩
  exact ((Qb _ w).alloc (Qn _) _).grown hgrow (by simp) (by intro k hk;simp [Value.ownBlock] at hk;omega)
set_option maxRecDepth 100000 in
set_option maxHeartbeats 2000000 in
theorem Xgj (I:IH) (B:Nat) (v:Value) (l:List _) (x:_) (vb:Nat) (news:List Value) (w:World) (hv:OwnS tEnt 81 I w B v l) (hx:tEnt.rd I news x)
 (hvs:∀j u,news[j]? =some u→w.cell? ⟨vb,j,none⟩=some u) (hbig:(l.length+1)*112≤140737488355328) (hB:B≤w.heap.size):
 Calls Tryz.prog 88 #[v,.int .i64 l.length,.slice (some ⟨vb,0,none⟩) 1 1] w fun e w'=> ∃v',e= .returned v'∧OwnS tEnt 81 I w' B v' (l++ [x])∧w.grownBy w' v.ownBlock:=by
 obtain ⟨i0,hi,hz0,hz1,hz2⟩:=info_parts Xbf
 obtain ⟨xs,hown,hL⟩:=hv
 have HL:=Qh hL
 have Hx:=Qh hx
 have Hvs:=Qh hvs
 have hml:maxLen=9223372036854775807:=rfl
 have hlen:l.length≤4611686018427387904:=by omega
 clear hL hx hvs
 have hcase:v= .slice none 0 0∧l.length=0∨ ∃g cap,v= .slice (some ⟨g,0,none⟩) l.length cap∧l.length≤cap∧cap≤9223372036854775807:=by
  rcases hown.2 with h|⟨g,cap,cur,h1,_,_,h2,h3,_⟩
  ·exact .inl h
  ·exact .inr ⟨g,cap,h1,h2,by rw [hml] at h3;exact h3⟩
 have Hml:=Qh hml
 clear hml
 rcases hcase with ⟨rfl,h0⟩|⟨g,cap,rfl,hcap,hcm⟩
 ·have:l= []:=List.eq_nil_of_length_eq_zero h0
  subst this
  go_enter Tryz.func88,Tryz.ntmps88
  go_wp2_with (at_builtin;refine wpList_append_own _ rfl _ _ 37 rfl B 81 i0 _ 7 112 Tryz.underlying37 hi hz0 hz1 hz2 rfl (by decide) _ _ _ rfl hown ⟨vb,0,none⟩ 1 1 news rfl ?qc1 ?qc2 ?qc3 ?qc4 ?qc5 ?qc6 ?_)
  case qc1=>exact tEnt.len Hx.out
  case qc2=>intro j u hj;rw [Addr.add_lit,Nat.zero_add];exact Hvs.out j u hj
  case qc3=>exact tEnt.one Hx.out
  case qc4=>rw [Hml.out];simp
  case qc5=>simp
  case qc6=>exact hB
  intro v' w1 hown1 hgrow _
  go_wp2
  go_ret
  exact ⟨v',rfl,⟨_,hown1,LiesL.append HL.out (LiesL.one Hx.out)⟩,hgrow⟩
 ·go_enter Tryz.func88,Tryz.ntmps88
  go_wp2_with (at_builtin;refine wpList_append_own _ rfl _ _ 37 rfl B 81 i0 _ 7 112 Tryz.underlying37 hi hz0 hz1 hz2 rfl (by decide) _ _ _ rfl hown ⟨vb,0,none⟩ 1 1 news rfl (tEnt.len Hx.out) (fun j u hj=>by rw [Addr.add_lit,Nat.zero_add];exact Hvs.out j u hj) (tEnt.one Hx.out) (by rw [Hml.out];omega) hbig hB ?_)
  all_goals
   intro v' w1 hown1 hgrow _
   go_wp2
   go_ret
   exact ⟨v',rfl,⟨_,by rw [List.length_append];exact hown1,LiesL.append HL.out (LiesL.one Hx.out)⟩,hgrow⟩
set_option maxRecDepth 100000 in
set_option maxHeartbeats 4000000 in
theorem Xet (I:IH) (B g cap i:Nat) (l:List _) (x:_) (vb:Nat) (tb:TypeId) (news:List Value) (w:World) (hv:OwnS tEnt 81 I w B (.slice (some ⟨g,0,none⟩) l.length cap) l) (hx:tEnt.rd I news x)
 (hvb:w.heap[vb]? =some (.cells news.toArray tb (0,0))) (hne:vb≠g) (hi:i<l.length) (hroom:l.length+1≤cap) (hcm:cap≤9223372036854775807):
 Calls Tryz.prog 88 #[.slice (some ⟨g,0,none⟩) l.length cap,.int .i64 i,.slice (some ⟨vb,0,none⟩) 1 1] w fun e w'=> ∃v',e= .returned v'∧OwnS tEnt 81 I w' B v' (l.take i++x::l.drop i)∧w.grownBy w' (some g):=by
 obtain ⟨i0,hif,hz0,hz1,hz2⟩:=info_parts Xbf
 obtain ⟨xs,⟨hxl,hown⟩,hL⟩:=hv
 rcases hown with ⟨h0,_⟩|⟨g',cap',cur,h1,hBg,hg,_,hcm',hcs,htk⟩
 ·cases h0
 injection h1 with h1a h1b h1c
 injection h1a with h1a
 injection h1a with h1a
 subst h1a h1c
 have hsz:(Tryz.prog.info? 81).map (·.size)=some 7:=by rw [hif];simp [hz1]
 have hnl:news.length=7:=tEnt.len hx
 have hn1:=tEnt.one hx
 have hxl':xs.length=l.length*7:=hxl
 have hcs':cur.size=cap*7:=hcs
 have htk':cur.toList.take xs.length=xs:=by rw [hxl];exact htk
 have hov:∀lb cb,(callFunc 142 #[.slice (some ⟨vb,0,none⟩) 1 1,.slice (some ⟨g,(i+1)*7,none⟩) lb cb]).run Tryz.prog w= .ok (.value (.bool false)) w:=fun lb cb=>by
  rw [run_callFunc_extern Tryz.func142 (by kernel_rfl) (by kernel_rfl) (by kernel_rfl) (e:=Extern.SlicesOverlaps.overlaps #[37,37] #[4]) (by kernel_rfl),
   Lib.run_overlaps_apart w 37 4 81 Tryz.underlying37 7 (fun w=>by simp [go_sem]) ⟨vb,0,none⟩ ⟨g,(i+1)*7,none⟩ 1 1 lb cb hne tb 81 7 cur.size (by simp [World.shape?,hvb,hnl]) (by simp [World.shape?,hg]) (by omega) (by simp [World.frozen?,hvb]) (by simp [World.frozen?,hvb])]
  rfl
 obtain ⟨cur1,hcur1⟩:∃c,c=over cur (i*7+7) (xs.drop (i*7)):=⟨_,rfl⟩
 have hs1:cur1.size=cur.size:=by rw [hcur1];exact Xa8 _ _ _ (by rw [List.length_drop];omega)
 obtain ⟨cur2,hcur2⟩:∃c,c=over cur1 (i*7) news:=⟨_,rfl⟩
 have hs2:cur2.size=cur1.size:=by rw [hcur2];exact Xa8 _ _ _ (by omega)
 have hfin:cur2.toList.take ((l.length+1)*7)=xs.take (i*7)++news++xs.drop (i*7):=by
  have:=insert_row cur xs news (i*7) 7 (by omega) htk' hnl (by omega)
  rw [←hcur1,←hcur2] at this
  rw [show (l.length+1)*7=xs.length+7 by omega]
  exact this
 have hcp1:∀ty dc sc,(Builtin.copy_ #[37,37] ty #[.slice (some ⟨g,(i+1)*7,none⟩) (l.length-i) dc,.slice (some ⟨g,i*7,none⟩) (l.length+1-i) sc]).run Tryz.prog w.drew= .ok (goInt ((l.length-i:Nat):Int)) (w.drew.setRow g cur1):=fun ty dc sc=>by
  have h:=Xa9 (P:=Tryz.prog) w.drew 37 37 ty 81 7 g ((i+1)*7) (l.length-i) dc ⟨g,i*7,none⟩ (l.length+1-i) sc cur 81 (xs.drop (i*7)) Tryz.underlying37 hsz hg (by rw [List.length_drop];simp only [Nat.min_def];split<;>omega)
   (fun j u hj=>by
     rw [Addr.add_lit]
     rw [List.getElem?_drop,←htk',List.getElem?_take] at hj
     split at hj
     ·rw [World.cell?_drew,cell_of_row w g _ cur _ _ hg,←Array.getElem?_toList];exact hj
     ·cases hj) (by rw [List.length_drop];omega) (fun u hu=>hL.oneCell u (List.mem_of_mem_drop hu))
  rw [h,show Nat.min (l.length+1-i) (l.length-i)=l.length-i by simp only [Nat.min_def];split<;>omega,hcur1]
  rw [show (i+1)*7=i*7+7 by omega]
  rfl
 have hg1:(w.drew.setRow g cur1).heap[g]? =some (.cells cur1 81 (0,0)):=setRow_heap w.drew g cur cur1 _ _ hg
 have hcp2:∀ty dc,(Builtin.copy_ #[37,37] ty #[.slice (some ⟨g,i*7,none⟩) (l.length+1-i) dc,.slice (some ⟨vb,0,none⟩) 1 1]).run Tryz.prog (w.drew.setRow g cur1)= .ok (goInt 1) ((w.drew.setRow g cur1).setRow g cur2):=fun ty dc=>by
  have h:=Xa9 (P:=Tryz.prog) (w.drew.setRow g cur1) 37 37 ty 81 7 g (i*7) (l.length+1-i) dc ⟨vb,0,none⟩ 1 1 cur1 81 news Tryz.underlying37 hsz hg1 (by rw [hnl];simp only [Nat.min_def];split<;>omega)
   (fun j u hj=>by
     rw [Addr.add_lit,Nat.zero_add]
     have:(w.drew.setRow g cur1).heap[vb]? =some (.cells news.toArray tb (0,0)):=by rw [setRow_other _ _ _ _ hne];exact hvb
     rw [cell_of_row _ vb j _ _ _ this];simpa using hj) (by omega) hn1
  rw [h,show Nat.min 1 (l.length+1-i)=1 by simp only [Nat.min_def];split<;>omega,hcur2]
  rfl
 have Hlen:=Qh (show (xs.take (i*7)++news++xs.drop (i*7)).length=(l.length+1)*7 by simp;omega)
 have Hsz:=Qh (show cur2.size=cap*7 by omega)
 have Hfin:=Qh hfin
 have HL:=Qh hL
 have Hx:=Qh hx
 have Hg1:=Qh hg1
 have hb1:¬(cap=i+1):=by omega
 have hb2:¬(cap=i):=by omega
 clear hfin hL hx hg1 hcur1 hcur2 hxl hxl' hcs hcs' htk htk' hnl hn1 hvb hcm' hg
 have hw1:IntKind.i64.wrap ((i:Int)+1)=(i:Int)+1:=IntWalk.i64_in _ (by omega)
 have hw2:0≤(i:Int)+1:=by omega
 have hw3:((i:Int)+1).toNat=i+1:=by omega
 have hw4:i≤l.length:=by omega
 have hw5:(i:Int)≤(l.length:Int)+1:=by omega
 go_enter Tryz.func88,Tryz.ntmps88
 go_wp2_with (simp only [hov])
 go_region_law (refine step_copy_runI rfl _ _ 37 37 rfl _ _ (by simp [Act.eval,Act.put]) (by simp [Act.eval,Act.put]) (hcp1 _ _ _) ?_)
 go_wp2_with (at_builtin;refine wpList_copy_runI _ rfl _ _ 37 37 rfl _ _ rfl rfl (hcp2 _ _) ?_)
 go_ret
 have hln:(l.take i++x::l.drop i).length=l.length+1:=by simp;omega
 refine ⟨_,rfl,?_,?_⟩
 ·unfold OwnS
  rw [hln]
  refine ⟨xs.take (i*7)++news++xs.drop (i*7),⟨Hlen.out,.inr ⟨g,cap,cur2,rfl,hBg,setRow_heap _ g cur1 cur2 _ _ Hg1.out,by omega,by unfold maxLen;omega,Hsz.out,Hfin.out⟩⟩,?_⟩
  have:=((HL.out.take i).append (LiesL.one Hx.out)).append (HL.out.drop i)
  rwa [show l.take i++ [x]++l.drop i=l.take i++x::l.drop i by simp] at this
 ·have h0:w.grownBy w.drew (some g):=⟨rfl,rfl,rfl,Qn _,fun _ _ _=>rfl⟩
  exact Xbh (Xbh h0 Xao) Xao
set_option maxRecDepth 100000 in
set_option maxHeartbeats 4000000 in
theorem Xfv (I:IH) (B g cap i:Nat) (l:List _) (x:_) (vb:Nat) (tb:TypeId) (news:List Value) (w:World) (hv:OwnS tEnt 81 I w B (.slice (some ⟨g,0,none⟩) l.length cap) l) (hx:tEnt.rd I news x)
 (hvb:w.heap[vb]? =some (.cells news.toArray tb (0,0))) (hi:i<l.length) (hroom:cap<l.length+1) (hbig:(l.length+1)*112≤140737488355328) (hB:B≤w.heap.size):
 Calls Tryz.prog 88 #[.slice (some ⟨g,0,none⟩) l.length cap,.int .i64 i,.slice (some ⟨vb,0,none⟩) 1 1] w fun e w'=> ∃v',e= .returned v'∧OwnS tEnt 81 I w' B v' (l.take i++x::l.drop i)∧w.grownBy w' (some g):=by
 obtain ⟨i0,hif,hz0,hz1,hz2⟩:=info_parts Xbf
 obtain ⟨xs,⟨hxl,hown⟩,hL⟩:=hv
 rcases hown with ⟨h0,_⟩|⟨g',cap',cur,h1,hBg,hg,hnc,hcm',hcs,htk⟩
 ·cases h0
 injection h1 with h1a h1b h1c
 injection h1a with h1a
 injection h1a with h1a
 subst h1a h1c
 have hsz:(Tryz.prog.info? 81).map (·.size)=some 7:=by rw [hif];simp [hz1]
 have hnl:news.length=7:=tEnt.len hx
 have hn1:=tEnt.one hx
 have hxl':xs.length=l.length*7:=hxl
 have hcs':cur.size=cap*7:=hcs
 have htk':cur.toList.take xs.length=xs:=by rw [hxl];exact htk
 have hgw:g<w.heap.size:=(Array.getElem?_eq_some_iff.1 hg).1
 have hvw:vb<w.heap.size:=(Array.getElem?_eq_some_iff.1 hvb).1
 have hxcell:∀(j:Nat) u,xs[j]? =some u→w.cell? ⟨g,j,none⟩=some u:=fun j u hj=>by
  rw [←htk',List.getElem?_take] at hj
  split at hj
  ·rw [cell_of_row w g _ cur _ _ hg,←Array.getElem?_toList];exact hj
  ·cases hj
 have hold:(Builtin.firstCells i0.size i (.slice (some ⟨g,0,none⟩) i cap)).run Tryz.prog w.drew= .ok (xs.take (i*7)).toArray w.drew:=
  run_firstCells_some w.drew i0.size i ⟨g,0,none⟩ i cap (xs.take (i*7)) (by rw [hz1,List.length_take];omega) (fun j u hj=>by
   rw [Addr.add_lit,Nat.zero_add]
   rw [List.getElem?_take] at hj
   split at hj
   ·exact hxcell j u hj
   ·cases hj)
 obtain ⟨G,hG⟩:∃G,G=grownCap w (l.length+1) cap 81:=⟨_,rfl⟩
 have hGn:l.length+1≤G:=by rw [hG];exact grownCap_ge w _ _ _
 have hG63:G≤9223372036854775807:=by
  have:=grownCap_le_maxLen w (l.length+1) cap 81 (by unfold maxLen;omega)
  rw [←hG] at this
  unfold maxLen at this
  omega
 obtain ⟨z,hz⟩:∃z,i0.zero=some z:=⟨_,hz0⟩
 have hzs:z.cells.size=7:=by rw [hz] at hz0;cases hz0;rfl
 obtain ⟨ROW,hROW⟩:∃ROW:Array Value,ROW=(xs.take (i*7)).toArray++Builtin.zeroCells z.cells (l.length+1-i)++Builtin.zeroCells z.cells (G-(l.length+1)):=⟨_,rfl⟩
 have hRs:ROW.size=G*7:=by
  rw [hROW,Array.size_append,Array.size_append,size_zeroCells,size_zeroCells,hzs]
  simp
  omega
 have hRt:ROW.toList.take (i*7)=xs.take (i*7):=by
  rw [hROW,Array.toList_append,Array.toList_append,List.append_assoc,List.take_append_of_le_length (by simp;omega),List.take_of_length_le (by simp;omega)]
 have hrz:∀ty,(Builtin.append_ #[37,3] ty #[.slice (some ⟨g,0,none⟩) i cap,.int .i64 ((l.length:Int)+1-(i:Int))]).run Tryz.prog w=
  .ok (.slice (some ⟨w.heap.size,0,none⟩) (l.length+1) G) (w.drew.alloc (.cells ROW 81)):=fun ty=>by
  have h:=Lib.run_append_grow_zeros w 37 3 ty 81 i0 z .i64 .i64 Tryz.underlying37 Tryz.underlying3 hif hz (some ⟨g,0,none⟩) i cap (xs.take (i*7)) hold (l.length+1-i) (by omega) (by rw [hz1];omega) (by omega) (by omega) (by rw [hz2];omega) (by rw [hz2,show i+(l.length+1-i)=l.length+1 by omega];exact growslice_fits hroom hbig)
  rw [show i+(l.length+1-i)=l.length+1 by omega,←hG,←hROW] at h
  rw [show (l.length:Int)+1-(i:Int)=((l.length+1-i:Nat):Int) by omega]
  exact h
 obtain ⟨row2,hrow2⟩:∃c,c=over ROW (i*7) news:=⟨_,rfl⟩
 have hs2:row2.size=ROW.size:=by rw [hrow2];exact Xa8 _ _ _ (by omega)
 obtain ⟨row3,hrow3⟩:∃c,c=over row2 (i*7+7) (xs.drop (i*7)):=⟨_,rfl⟩
 have hs3:row3.size=row2.size:=by rw [hrow3];exact Xa8 _ _ _ (by rw [List.length_drop];omega)
 have hfin:row3.toList.take ((l.length+1)*7)=xs.take (i*7)++news++xs.drop (i*7):=by
  have:=Xfn ROW xs news (i*7) 7 (by omega) hRt hnl (by omega)
  rw [←hrow2,←hrow3] at this
  rw [show (l.length+1)*7=xs.length+7 by omega]
  exact this
 obtain ⟨W1,hW1⟩:∃W1,W1=w.drew.alloc (.cells ROW 81):=⟨_,rfl⟩
 have hN1:W1.heap[w.heap.size]? =some (.cells ROW 81 (0,0)):=by rw [hW1];exact heap_alloc_new w.drew _
 have ho1:∀b,b<w.heap.size→W1.heap[b]? =w.heap[b]? :=fun b hb=>by rw [hW1];exact Below.heap_alloc w.drew _ b hb
 rw [←hW1] at hrz
 have hcpA:∀ty dc,(Builtin.copy_ #[37,37] ty #[.slice (some ⟨w.heap.size,i*7,none⟩) (l.length+1-i) dc,.slice (some ⟨vb,0,none⟩) 1 1]).run Tryz.prog W1= .ok (goInt 1) (W1.setRow w.heap.size row2):=fun ty dc=>by
  have h:=Xa9 (P:=Tryz.prog) W1 37 37 ty 81 7 w.heap.size (i*7) (l.length+1-i) dc ⟨vb,0,none⟩ 1 1 ROW 81 news Tryz.underlying37 hsz hN1 (by rw [hnl];simp only [Nat.min_def];split<;>omega)
   (fun j u hj=>by
     rw [Addr.add_lit,Nat.zero_add,cell_of_row _ vb j _ _ _ ((ho1 vb hvw).trans hvb)];simpa using hj) (by omega) hn1
  rw [h,show Nat.min 1 (l.length+1-i)=1 by simp only [Nat.min_def];split<;>omega,hrow2]
  rfl
 have hN2:(W1.setRow w.heap.size row2).heap[w.heap.size]? =some (.cells row2 81 (0,0)):=setRow_heap W1 w.heap.size ROW row2 _ _ hN1
 have hcpB:∀ty dc sc,(Builtin.copy_ #[37,37] ty #[.slice (some ⟨w.heap.size,(i+1)*7,none⟩) (l.length-i) dc,.slice (some ⟨g,i*7,none⟩) (l.length-i) sc]).run Tryz.prog (W1.setRow w.heap.size row2).drew= .ok (goInt ((l.length-i:Nat):Int)) ((W1.setRow w.heap.size row2).drew.setRow w.heap.size row3):=fun ty dc sc=>by
  have h:=Xa9 (P:=Tryz.prog) (W1.setRow w.heap.size row2).drew 37 37 ty 81 7 w.heap.size ((i+1)*7) (l.length-i) dc ⟨g,i*7,none⟩ (l.length-i) sc row2 81 (xs.drop (i*7)) Tryz.underlying37 hsz hN2 (by rw [List.length_drop];simp only [Nat.min_def];split<;>omega)
   (fun j u hj=>by
     rw [Addr.add_lit]
     rw [List.getElem?_drop] at hj
     have hgg:(W1.setRow w.heap.size row2).heap[g]? =some (.cells cur 81 (0,0)):=by rw [setRow_other _ _ _ _ (by omega),ho1 g hgw];exact hg
     rw [World.cell?_drew,cell_of_row _ g _ cur _ _ hgg,←cell_of_row w g _ cur _ _ hg]
     exact hxcell _ u hj) (by rw [List.length_drop];omega) (fun u hu=>hL.oneCell u (List.mem_of_mem_drop hu))
  rw [h,show Nat.min (l.length-i) (l.length-i)=l.length-i by simp only [Nat.min_def];split<;>omega,hrow3]
  rw [show (i+1)*7=i*7+7 by omega]
  rfl
 have Hlen:=Qh (show (xs.take (i*7)++news++xs.drop (i*7)).length=(l.length+1)*7 by simp;omega)
 have Hsz:=Qh (show row3.size=G*7 by omega)
 have Hfin:=Qh hfin
 have HL:=Qh hL
 have Hx:=Qh hx
 have HN2:=Qh hN2
 have HW1:=Qh hW1
 have hb1:¬(G=i+1):=by omega
 have hb2:¬(G=i):=by omega
 have hb3:¬(cap=i):=by omega
 clear hfin hL hx hN2 hN1 hrow2 hrow3 hROW hRs hRt hxl hxl' hcs hcs' htk htk' hnl hn1 hvb hcm' hg hold hxcell ho1 hW1 hG hz hz0 hzs hs2 hs3
 have hw1:IntKind.i64.wrap ((i:Int)+1)=(i:Int)+1:=IntWalk.i64_in _ (by omega)
 have hw2:0≤(i:Int)+1:=by omega
 have hw3:((i:Int)+1).toNat=i+1:=by omega
 have hw4:i≤l.length:=by omega
 have hw5:(i:Int)≤(l.length:Int)+1:=by omega
 go_enter Tryz.func88,Tryz.ntmps88
 go_wp2_with (first
  |(at_builtin;refine Lib.wpList_append_run _ rfl _ _ _ _ rfl _ _ rfl rfl _ _ (hrz _) ?_)
  |(at_builtin;refine wpList_copy_runI _ rfl _ _ 37 37 rfl _ _ rfl rfl (hcpA _ _) ?_))
 go_region_law (refine step_copy_runI rfl _ _ 37 37 rfl _ _ (by simp [Act.eval,Act.put]) (by simp [Act.eval,Act.put]) (hcpB _ _ _) ?_)
 go_wp2
 go_ret
 have hln:(l.take i++x::l.drop i).length=l.length+1:=by simp;omega
 refine ⟨_,rfl,?_,?_⟩
 ·unfold OwnS
  rw [hln]
  refine ⟨xs.take (i*7)++news++xs.drop (i*7),⟨Hlen.out,.inr ⟨w.heap.size,G,row3,rfl,hB,setRow_heap _ w.heap.size row2 row3 _ _ HN2.out,hGn,by unfold maxLen;omega,Hsz.out,Hfin.out⟩⟩,?_⟩
  have:=((HL.out.take i).append (LiesL.one Hx.out)).append (HL.out.drop i)
  rwa [show l.take i++ [x]++l.drop i=l.take i++x::l.drop i by simp] at this
 ·rw [HW1.out]
  exact ⟨rfl,rfl,rfl,by simp,fun k hk _=>by
   rw [setRow_other _ _ _ _ (by omega)]
   show ((w.drew.alloc (.cells ROW 81)).setRow w.heap.size row2).heap[k]? =_
   rw [setRow_other _ _ _ _ (by omega)]
   exact Below.heap_alloc w.drew _ k hk⟩
theorem Xm5 (I:IH) (B:Nat) (v:Value) (l:List _) (x:_) (vb i:Nat) (tb:TypeId) (news:List Value) (w:World) (hv:OwnS tEnt 81 I w B v l) (hx:tEnt.rd I news x)
 (hvb:w.heap[vb]? =some (.cells news.toArray tb (0,0))) (hne:v.ownBlock≠some vb) (hi:i≤l.length) (hbig:(l.length+1)*112≤140737488355328) (hB:B≤w.heap.size):
 Calls Tryz.prog 88 #[v,.int .i64 i,.slice (some ⟨vb,0,none⟩) 1 1] w fun e w'=> ∃v',e= .returned v'∧OwnS tEnt 81 I w' B v' (l.take i++x::l.drop i)∧w.grownBy w' v.ownBlock:=by
 by_cases he:i=l.length
 ·subst he
  rw [List.take_length,List.drop_length]
  exact Xgj I B v l x vb news w hv hx (fun j u hj=>by rw [cell_of_row w vb j _ _ _ hvb];simpa using hj) hbig hB
 ·have hcase:∃g cap,v= .slice (some ⟨g,0,none⟩) l.length cap∧cap≤maxLen:=by
   obtain ⟨xs,⟨_,hown⟩,_⟩:=hv
   rcases hown with ⟨_,h⟩|⟨g,cap,cur,h1,_,_,_,h3,_⟩
   ·omega
   ·exact ⟨g,cap,h1,h3⟩
  obtain ⟨g,cap,rfl,hcm⟩:=hcase
  by_cases hr:l.length+1≤cap
  ·exact Xet I B g cap i l x vb tb news w hv hx hvb (fun e=>hne (by rw [e];rfl)) (by omega) hr (by unfold maxLen at hcm;omega)
  ·exact Xfv I B g cap i l x vb tb news w hv hx hvb (by omega) (by omega) hbig hB
theorem Xka {P:Program} (w:World) (t e ty:TypeId) (z:Value) (ht:P.underlying t=some (.slice e)) (hv:∀w,(zeroValue e).run P w= .ok z w) (g o n c:Nat) (h1:∀u∈(Builtin.zeroCells z.cells n).toList,u.oneCell'=true) (hn:0<n) (cur:Array Value) (tt:TypeId)
 (hg:w.heap[g]? =some (.cells cur tt (0,0))) (hfit:o+n*z.cells.size≤cur.size):
 (Builtin.clear_ #[t] ty #[.slice (some ⟨g,o,none⟩) n c]).run P w= .ok (.tuple #[]) (w.setRow g (cur.toList.take o++(Builtin.zeroCells z.cells n).toList++cur.toList.drop (o+n*z.cells.size)).toArray):=by
 have hl:(Builtin.zeroCells z.cells n).toList.length=n*z.cells.size:=by rw [Array.length_toList,size_zeroCells]
 have hst:=run_storeCells_at (P:=P) g o tt (Builtin.zeroCells z.cells n).toList 0 cur w hg (by rw [hl];omega) h1
 rw [hl] at hst
 simp only [Nat.add_zero] at hst
 obtain ⟨m,rfl⟩:∃m,n=m+1:=⟨n-1,by omega⟩
 simp [Builtin.clear_,run_underlying ht,hv,hst]
theorem Xbk {P:Program} {ops:Array Oper} {rest:List Oper} {op:Oper} {a:Act} {w:World} {Q:Exit→Act→World→Prop} (hgd:op.guard=none) (ty:TypeId) (x y:Operand) (ho:op.op= .store ty x y)
 (g o:Nat) (cs:List Value) (hx:a.eval x= .pointer (some ⟨g,o,none⟩)) (hy:a.eval y= .agg cs.toArray) (cur:Array Value) (tt:TypeId)
 (hg:w.heap[g]? =some (.cells cur tt (0,0))) (hfit:o+cs.length≤cur.size) (hi:(P.info? ty).map (·.size)=some cs.length) (h1:∀v∈cs,v.oneCell'=true)
 (h:wpList P ops Q rest (a.put op.dst undef) (w.setRow g (over cur o cs))):wpList P ops Q (op::rest) a w:=by
 refine wpList_plain hgd fun _ hK=> ?_
 have hst:=run_storeCells_at (P:=P) g o tt cs 0 cur w hg (by simpa using hfit) h1
 have hsv:(storeVar ty ⟨g,o,none⟩ (.agg cs.toArray)).run P w= .ok () (w.setRow g (over cur o cs)):=by
  cases hq:P.info? ty with
  |none=>simp [hq] at hi
  |some i=>
   have hs:cs.length=i.size:=by simp [hq] at hi;omega
   simp only [Nat.add_zero] at hst
   simp [storeVar,sizeOf,typeInfo,hq,Value.cells,hs,hst,over]
 unfold Oper.wp execOp
 simp only [ho,hx,hy,Instr.storeAt,Instr.sureAddr,Sem.run_bind,Sem.run_pure,Result.andThen_ok,hsv]
 exact hK _ _ h
theorem Xok (cur:Array Value) (o m:Nat) (cs:List Value) (h:o+cs.length≤m) (ho:o≤cur.size):(over cur o cs).toList.drop m=cur.toList.drop m:=by
 simp only [over]
 rw [List.drop_append,List.drop_eq_nil_of_le (by simp;omega),List.nil_append,List.drop_drop]
 congr 1
 simp
 omega
theorem Xcv {B:Nat} {w w':World} {r:Option Nat} (h:Below B w w') (hB:w.heap.size≤B):w.grownBy w' r:=
 ⟨h.os,h.tape,h.output,h.size,fun k hk _=>h.block k (by omega)⟩
structure DelE (I:IH) (gb:Nat) (cur:Array Value) (w0:World) (F:List Ent) (j:Nat) (X:World):Prop where
 row_:∃arr,X.heap[gb]? =some (.cells arr 81 (0,0))∧arr.size=cur.size∧LiesL tEnt I (arr.toList.take (F.length*7)) F∧arr.toList.drop (j*7)=cur.toList.drop (j*7)
 grown:w0.grownBy X (some gb)
section
variable {I:IH} {gb j:Nat} {cur:Array Value} {w0 X X':World} {F:List Ent}
theorem DelE.pass (h:DelE I gb cur w0 F j X) (hb:Below X.heap.size X X'):DelE I gb cur w0 F j X':=by
 obtain ⟨arr,h1,h2⟩:=h.row_
 have hlt:gb<X.heap.size:=(Array.getElem?_eq_some_iff.1 h1).1
 refine ⟨⟨arr,(hb.block _ hlt).trans h1,h2⟩,?_⟩
 exact ⟨hb.os.trans h.grown.os,hb.tape.trans h.grown.tape,hb.output.trans h.grown.output,Nat.le_trans h.grown.size hb.size,fun k hk hne=>(hb.block k (Nat.lt_of_lt_of_le hk h.grown.size)).trans (h.grown.block k hk hne)⟩
theorem DelE.next (h:DelE I gb cur w0 F j X):DelE I gb cur w0 F (j+1) X:=by
 obtain ⟨arr,h1,h2,h3,h4⟩:=h.row_
 refine ⟨⟨arr,h1,h2,h3,?_⟩,h.grown⟩
 rw [show (j+1)*7=j*7+7 by omega,←List.drop_drop,h4,List.drop_drop]
theorem DelE.put {arr:Array Value} (h:DelE I gb cur w0 F j X) (h1:X.heap[gb]? =some (.cells arr 81 (0,0))) (x:Ent) (cs:List Value) (hcs:tEnt.rd I cs x) (hF:F.length≤j) (hj:j*7+7≤cur.size):
 DelE I gb cur w0 (F++ [x]) (j+1) (X.setRow gb (over arr (F.length*7) cs)):=by
 obtain ⟨arr',h1',h2,h3,h4⟩:=h.row_
 rw [h1] at h1'
 cases h1'
 have hcl:cs.length=7:=tEnt.len hcs
 refine ⟨⟨_,setRow_heap _ _ _ _ _ _ h1,by rw [Xa8 _ _ _ (by omega),h2],?_,?_⟩,Xbh h.grown Xao⟩
 ·rw [List.length_append,List.length_singleton,show (F.length+1)*7=F.length*7+cs.length by omega,Xfd _ _ _ (by omega)]
  exact h3.append (LiesL.one hcs)
 ·rw [Xok _ _ _ _ (by omega) (by omega),show (j+1)*7=j*7+7 by omega,←List.drop_drop,h4,List.drop_drop]
theorem DelE.cell (h:DelE I gb cur w0 F j X) (q:Nat) (hq:j*7≤q):X.cell? ⟨gb,q,none⟩=cur[q]? :=by
 obtain ⟨arr,h1,h2,h3,h4⟩:=h.row_
 rw [cell_of_row X gb q _ _ _ h1,←Array.getElem?_toList,←Array.getElem?_toList]
 have e1:=congrArg (fun L=>L[q-j*7]?) h4
 simp only [List.getElem?_drop] at e1
 rwa [show j*7+(q-j*7)=q by omega] at e1
end
theorem Xrb:∀w,(zeroValue 81).run Tryz.prog w= .ok (.agg zeroRow) w:=Tryz.zeroValue81
theorem Xje (n:Nat):∀u∈(Builtin.zeroCells (Value.agg zeroRow).cells n).toList,u.oneCell'=true:=by
 intro u hu
 simp only [Builtin.zeroCells,Value.cells] at hu
 rw [Array.mem_toList_iff,Array.mem_map] at hu
 obtain ⟨i,_,rfl⟩:=hu
 have h7:i%zeroRow.size<7:=Nat.mod_lt _ (by decide)
 rcases (show i%zeroRow.size=0∨i%zeroRow.size=1∨i%zeroRow.size=2∨i%zeroRow.size=3∨i%zeroRow.size=4∨i%zeroRow.size=5∨i%zeroRow.size=6 by omega) with h|h|h|h|h|h|h<;>rw [h]<;>rfl
set_option maxRecDepth 100000 in
set_option maxHeartbeats 2000000 in
theorem Xcr (I:IH) (B:Nat) (v:Value) (l:List Ent) (w:World) (hv:OwnS tEnt 81 I w B v l) (hn:l.length≤1000000) (g:Nat) (cb:Array Value) (p:Ent→Bool) (hw:Ok I w) (hI:∀b,B≤b→I b=none) (_hB:B≤w.heap.size) (eg:∀args w,(callFunc g args).run Tryz.prog w= .ok (.enter g args) w) (hp:PredE g cb l p (fun W=>w.grownBy W v.ownBlock)):
 Calls Tryz.prog 82 #[v,.func (.func g) #[] cb] w fun e w'=> ∃v',e= .returned v'∧OwnS tEnt 81 I w' B v' (l.filter fun x=> !(p x))∧w.grownBy w' v.ownBlock:=by
 obtain ⟨I',hI1,hI2,hI3,hI4⟩:=hv.freeze hw hI
 have hpa:PredE g cb l p (Below w.heap.size w):=fun x hx a1 a2 c1 c2 W hW=>hp x hx a1 a2 c1 c2 W (Xcv hW (Qn _))
 have hlen:=hI3.len_le
 have Hp:=Qh hp
 have Hix:=Qh (Xc6 I' v l hI3 g cb p w hI2 eg hpa)
 have Heg:=Qh eg
 have HI3:=Qh hI3
 have Hv:=Qh hv
 clear hp hpa eg hI3
 have hvs:∃ao cap,v= .slice ao l.length cap∧cap≤9223372036854775807:=by
  obtain ⟨ao,cap,e,_,hcm,_⟩:=id HI3.out
  exact ⟨ao,cap,e,by unfold maxLen at hcm;omega⟩
 obtain ⟨ao,cap,rfl,hcm⟩:=hvs
 rcases Xbl l p with ⟨i,hi,e1,e2,e3⟩|⟨e1,e2⟩
 ·have hrow:∃gb cur,ao=some ⟨gb,0,none⟩∧B≤gb∧w.heap[gb]? =some (.cells cur 81 (0,0))∧l.length≤cap∧cur.size=cap*7∧LiesL tEnt I (cur.toList.take (l.length*7)) l:=by
   obtain ⟨xs,⟨_,h1⟩,hL⟩:=Hv.out
   rcases h1 with ⟨_,h0⟩|⟨gb,cap',cur,e,r1,r2,r3,r4,r5,r6⟩
   ·omega
   ·cases e
    refine ⟨gb,cur,rfl,r1,r2,r3,r5,?_⟩
    have r6':cur.toList.take (l.length*7)=xs:=r6
    rw [r6'];exact hL
  obtain ⟨gb,cur,rfl,hBg,hcur,hlc,hcs,hL⟩:=hrow
  rw [e1] at Hix
  have hd1:((i:Int)== -1)=false:=by rw [beq_eq_false_iff_ne];omega
  have hF0:((l.take (i+1)).filter fun x=> !(p x))=l.take i:=by
   rw [List.take_succ_eq_append_getElem hi,List.filter_append]
   have:((l.take i).filter fun x=> !(p x))=l.take i:=List.filter_eq_self.2 fun x hx=>by
    cases hpx:p x with
    |false=>rfl
    |true=>rw [List.any_eq_true.2 ⟨x,hx,hpx⟩] at e3;exact absurd e3 (by simp)
   rw [this];simp [e2]
  have hcell:∀j (h:j<l.length),∃a1 a2 c1 c2,RdS tAt I (.slice a1 l[j].attrs.length c1) l[j].attrs∧RdS tXt I (.slice a2 l[j].exts.length c2) l[j].exts∧ ∀q u,(entCs l[j] (.slice a1 l[j].attrs.length c1) (.slice a2 l[j].exts.length c2))[q]? =some u→cur[j*7+q]? =some u:=by
   intro j hj
   obtain ⟨cs,⟨va,vx,hcs,h1,h2⟩,hc⟩:=hL.2 j hj
   obtain ⟨a1,c1,rfl,_,_,_⟩:=id h1
   obtain ⟨a2,c2,rfl,_,_,_⟩:=id h2
   refine ⟨a1,a2,c1,c2,h1,h2,fun q u hu=> ?_⟩
   have h3:=hc q u (by rw [hcs];exact hu)
   have hs:tEnt.size=7:=rfl
   rw [hs,List.getElem?_take] at h3
   split at h3
   ·rw [←Array.getElem?_toList];exact h3
   ·cases h3
  have Hcell:=Qh hcell
  have hm0:∀X,Below w.heap.size w X→DelE I gb cur w ((l.take (i+1)).filter fun x=> !(p x)) (i+1) X:=by
   intro X hX
   have hlt:gb<w.heap.size:=(Array.getElem?_eq_some_iff.1 hcur).1
   refine ⟨⟨cur,(hX.block _ hlt).trans hcur,rfl,?_,rfl⟩,Xcv hX (Qn _)⟩
   rw [hF0,List.length_take,Nat.min_eq_left (by omega)]
   have:=hL.take i
   have hs:tEnt.size=7:=rfl
   rwa [hs,List.take_take,Nat.min_eq_left (by omega)] at this
  have Hm0:=Qh hm0
  have hFl:((l.take (i+1)).filter fun x=> !(p x)).length=i:=by rw [hF0,List.length_take];omega
  have HFl:=Qh hFl
  have hi7:(Tryz.prog.info? 81).map (·.size)=some 7:=by kernel_rfl
  have Hi7:=Qh hi7
  clear e1 e2 e3 hF0 hcell hm0 hFl hL hcur hI4 hv hi7
  go_enter Tryz.func82,Tryz.ntmps82
  go_wp2_with fail
  refine Hix.out.mono ?_
  rintro e w1 ⟨rfl,hb1⟩
  have Hm1:=Qh (Hm0.out w1 hb1)
  clear hb1 Hm0
  go_wp2_with fail
  go_loopw [5,6] (fun s5 s6 X=> ∃(j:Nat) (F:List Ent),i+1≤j∧j≤l.length∧s6= .int .i64 j∧s5= .int .i64 F.length∧F.length<j∧F=((l.take j).filter fun x=> !(p x))∧DelE I gb cur w F j X) (fun _ j _=>l.length-(intOf j).toNat)
  case atStart=>exact ⟨i+1,_,Qn _,hi,by go_num,by rw [HFl.out],by rw [HFl.out];omega,rfl,Hm1.out⟩
  case round=>
   clear Hm1 HFl
   obtain ⟨j,F,hij,hjl,rfl,rfl,hFj,hF,hm⟩:=hrel
   have HF:=Qh hF
   have Hm:=Qh hm
   clear hF hm
   by_cases hlt:j<l.length
   ·obtain ⟨a1,a2,c1,c2,h1,h2,hc⟩:=Hcell.out j hlt
    obtain ⟨x,hlx⟩:∃x,l[j]=x:=⟨_,rfl⟩
    have hxm:x∈l:=by rw [←hlx];exact List.getElem_mem hlt
    rw [hlx] at h1 h2 hc
    have hc0:=(Hm.out.cell (j*7) (Qn _)).trans (hc 0 _ rfl)
    have hc1:=(Hm.out.cell (j*7+1) (by omega)).trans (hc 1 _ rfl)
    have hc2:=(Hm.out.cell (j*7+2) (by omega)).trans (hc 2 _ rfl)
    have hc3:=(Hm.out.cell (j*7+3) (by omega)).trans (hc 3 _ rfl)
    have hc4:=(Hm.out.cell (j*7+4) (by omega)).trans (hc 4 _ rfl)
    have hc5:=(Hm.out.cell (j*7+5) (by omega)).trans (hc 5 _ rfl)
    have hc6:=(Hm.out.cell (j*7+6) (by omega)).trans (hc 6 _ rfl)
    have H12:=Qh (show tEnt.rd I (entCs x (.slice a1 x.attrs.length c1) (.slice a2 x.exts.length c2)) x from ⟨_,_,rfl,h1,h2⟩)
    have Hst:=Qh (show ((l.take (j+1)).filter fun x=> !(p x))=F++(if p x then [] else [x]) by
     rw [List.take_succ_eq_append_getElem hlt,hlx,List.filter_append,←HF.out];cases h:p x<;>simp [h])
    have Hcall:=Qh (Hp.out x hxm a1 a2 c1 c2)
    clear hlx hc hxm h1 h2
    have eg:=Heg.out
    go_wp2_with fail
    have hmA:=Hm.out.pass ((Qb _ wr).alloc (Qn _) (.cells #[.int .i64 x.kind,S x.path,.slice a1 x.attrs.length c1,S x.target,.int .i64 x.size,S x.digest,.slice a2 x.exts.length c2] 81))
    refine (Hcall.out _ hmA.grown).mono ?_
    rintro e w4 ⟨rfl,hb4⟩
    obtain ⟨d0,d1,d2,d3,d4,d5,d6⟩:=entB rfl hb4
    have Hm4:=Qh (hmA.pass hb4)
    have hsz4:gb<w4.heap.size:=by
     obtain ⟨arr,h1,_⟩:=Hm4.out.row_
     exact (Array.getElem?_eq_some_iff.1 h1).1
    clear hmA hb4 hc0 hc1 hc2 hc3 hc4 hc5 hc6 eg
    cases hpx:p x
    ·have Hnx:=Qh (show F++ [x]=((l.take (j+1)).filter fun x=> !(p x)) by rw [Hst.out,hpx];simp)
     obtain ⟨arr,ha1,ha2,_⟩:=Hm4.out.row_
     have Ha1:=Qh ha1
     have hfit:F.length*7+7≤arr.size:=by omega
     have hFl:F.length<l.length:=by omega
     clear hpx ha1 ha2
     go_wp2_with (refine Xbk rfl 81 _ _ rfl gb (F.length*7) (entCs x (.slice a1 x.attrs.length c1) (.slice a2 x.exts.length c2)) (by simp [Act.eval]) rfl arr 81 Ha1.out hfit Hi7.out (tEnt.one H12.out) ?_)
     go_roundw
     case rel=>exact ⟨j+1,F++ [x],by omega,by omega,by go_num,(by rw [List.length_append,List.length_singleton];go_num),(by rw [List.length_append,List.length_singleton];omega),Hnx.out,Hm4.out.put Ha1.out x _ H12.out (by omega) (by omega)⟩
     case measure=>simp [intOf];omega
    ·have Hnx:=Qh (show F=((l.take (j+1)).filter fun x=> !(p x)) by rw [Hst.out,hpx];simp)
     clear hpx
     go_wp2
     go_roundw
     case rel=>exact ⟨j+1,F,by omega,by omega,by go_num,rfl,by omega,Hnx.out,Hm4.out.next⟩
     case measure=>simp [intOf];omega
   ·have hje:j=l.length:=by omega
    have HF2:=Qh (show F=l.filter fun x=> !(p x) by rw [HF.out,List.take_of_length_le (by omega)])
    obtain ⟨arr,ha1,ha2,ha3,ha4⟩:=Hm.out.row_
    have hFlen:F.length<l.length:=by omega
    have hnc:¬F.length=cap:=by omega
    have hcl:=fun ty=>Xka (P:=Tryz.prog) wr 37 81 ty _ Tryz.underlying37 Xrb gb (F.length*7) (l.length-F.length) (cap-F.length) (Xje _) (by omega) arr 81 ha1 (by show F.length*7+(l.length-F.length)*7≤arr.size;omega)
    have Harr:=Qh (show arr.size=cur.size∧LiesL tEnt I (arr.toList.take (F.length*7)) F from ⟨ha2,ha3⟩)
    have Ha1:=Qh ha1
    have hgr:=Hm.out.grown
    clear ha1 ha2 ha3 ha4 hje
    go_wp2_with fail
    go_ret
    have hzl:(Builtin.zeroCells zeroRow (l.length-F.length)).toList.length=(l.length-F.length)*7:=by rw [Array.length_toList,size_zeroCells];rfl
    obtain ⟨ha2,ha3⟩:=Harr.out
    have hal:arr.toList.length=cap*7:=by rw [Array.length_toList,ha2,hcs]
    rw [←HF2.out]
    refine ⟨_,rfl,⟨_,⟨ha3.1,.inr ⟨gb,cap,_,rfl,hBg,setRow_heap _ _ _ _ _ _ Ha1.out,by omega,by unfold maxLen;omega,?_,?_⟩⟩,ha3⟩,Xbh hgr Xao⟩
    ·rw [List.size_toArray,List.length_append,List.length_append,hzl,List.length_take,List.length_drop,hal]
     show min (F.length*7) (cap*7)+((l.length-F.length)*7+(cap*7-(F.length*7+(l.length-F.length)*7)))=cap*7
     omega
    ·show ((arr.toList.take (F.length*7)++_).toArray).toList.take (F.length*7)=arr.toList.take (F.length*7)
     rw [List.toList_toArray,List.take_append_of_le_length (by rw [List.length_take,hal];omega),List.take_take,Nat.min_self]
 ·rw [e1] at Hix
  have Hf:=Qh (show (l.filter fun x=> !(p x))=l from List.filter_eq_self.2 fun x hx=>by
   cases hpx:p x with
   |false=>rfl
   |true=>rw [List.any_eq_true.2 ⟨x,hx,hpx⟩] at e2;exact absurd e2 (by simp))
  clear e1 e2 hv hI4
  go_enter Tryz.func82,Tryz.ntmps82
  go_wp2_with fail
  refine Hix.out.mono ?_
  rintro e w1 ⟨rfl,hb1⟩
  go_wp2
  go_ret
  exact ⟨_,rfl,by rw [Hf.out];exact Hv.out.below hb1,Xcv hb1 (Qn _)⟩
end Go.Proofs.YtmdfjnhfhidmhaaGreatDoor
