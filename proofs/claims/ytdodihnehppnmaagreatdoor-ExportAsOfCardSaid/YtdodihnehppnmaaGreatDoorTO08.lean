/-
  Walks and laws that the claim's theorem uses: texts EdB RhC, joined; comments out. Conditions: as each theorem says.
-/
import Derived.Test.YtdodihnehppnmaaGreatDoorTO07
import Derived.Laws.EntriesVeiled
import Derived.Lib.MinMax
set_option linter.all false
namespace Go.Proofs.YtdodihnehppnmaaGreatDoor
open Go.RowKit
theorem Xr3 {W W':World} {row:Option Nat} (hb:Below W.heap.size W W'):W.grownBy W' row:=⟨hb.os,hb.tape,hb.output,hb.size,fun k hk _=>hb.block k hk⟩
theorem Xqw {s t:Bytes} {n:Nat} {z:Int} (h:strOf s t n= .error z):(z != 0)=true:=by
 unfold strOf at h
 split at h
 ·injection h with h;subst h;rfl
 ·split at h
  ·injection h with h;subst h;rfl
  ·split at h
   ·injection h with h;subst h;rfl
   ·cases h
theorem Xrp {t:Bytes} {n:Nat} {z:Int} (h:numOf t n= .error z):(z != 0)=true:=by
 unfold numOf at h
 split at h
 ·injection h with h;subst h;rfl
 ·split at h
  ·injection h with h;subst h;rfl
  ·cases h
theorem Xav {s:Bytes} {a:Nat} {z:Int} (h:rdStr s a= .error z):(z != 0)=true:=by
 unfold rdStr at h
 cases hu:rdUntil s a 58 with
 |error e=>
  rw [hu] at h
  injection h with h
  subst h
  rcases Xdl hu with rfl|rfl<;>rfl
 |ok p=>rw [hu,Rb_ok] at h;exact Xqw h
theorem Xa9 {s:Bytes} {a:Nat} {z:Int} (h:rdNum s a= .error z):(z != 0)=true:=by
 unfold rdNum at h
 cases hu:rdUntil s a 32 with
 |error e=>
  rw [hu] at h
  injection h with h
  subst h
  rcases Xdl hu with rfl|rfl<;>rfl
 |ok p=>rw [hu,Rb_ok] at h;exact Xrp h
theorem Xhq {most:Int} {s:Bytes} {a:Nat} {z:Int} (h:rdCnt most s a= .error z):(z != 0)=true:=by
 unfold rdCnt at h
 cases hu:rdNum s a with
 |error e=>rw [hu] at h;injection h with h;subst h;exact Xa9 hu
 |ok p=>
  rw [hu,Rb_ok] at h
  split at h
  ·injection h with h;subst h;rfl
  ·cases h
set_option maxRecDepth 100000 in
set_option maxHeartbeats 1000000 in
theorem Xia (I:IH) (hI:Glob I) (s:Bytes) (hs:s.length≤4294967280) (n ba a:Nat) (w:World) (hw:Ok I w) (hB:RdB w n s ba) (hA:AtC w ba a) (ha:a≤4294967280) (most x:Int) (b:Nat) (h:rdCnt most s a= .ok (x,b)):
 Calls Tryz.prog 235 #[.int .i64 most,ptrV (n+2),ptrV (n+3)] w fun e w'=>e= .returned (.int .i64 x)∧AtC w' ba b∧w.grownBy w' (some ba):=by
 have he:=Xe9 h
 have hn:rdNum s a= .ok (x,b):=by
  unfold rdCnt at h
  cases hu:rdNum s a with
  |error e=>rw [hu] at h;cases h
  |ok p=>
   rw [hu,Rb_ok] at h
   split at h
   ·cases h
   ·exact h
 have Hnum:=Qh (Xdc I hI s hs n ba a w hw hB hA ha x b hn)
 have c2:=cell0 hB.r2
 have d1:decide (x<0)=false:=Qf (by omega)
 have d2:decide (most<x)=false:=Qf (by omega)
 clear h he hn hB hA
 go_enter Tryz.func235,Tryz.ntmps235
 go_wp2_with fail
 refine Hnum.out.mono ?_
 rintro e w1 ⟨rfl,ha1,hg1⟩
 go_wp2
 go_ret
 exact ⟨rfl,ha1,hg1⟩
set_option maxRecDepth 100000 in
set_option maxHeartbeats 1000000 in
theorem Xgm (I:IH) (hI:Glob I) (s:Bytes) (hs:s.length≤4294967280) (n ba a:Nat) (w:World) (hw:Ok I w) (hB:RdB w n s ba) (hA:AtC w ba a) (ha:a≤4294967280) (most z:Int) (h:rdCnt most s a= .error z):
 Calls Tryz.prog 235 #[.int .i64 most,ptrV (n+2),ptrV (n+3)] w fun e w'=>e=failE z∧w.grownBy w' (some ba):=by
 have c2:=cell0 hB.r2
 unfold rdCnt at h
 cases hu:rdNum s a with
 |error e=>
  rw [hu] at h
  injection h with h
  subst h
  have Hnum:=Qh (Xdd I hI s hs n ba a w hw hB hA ha e (Xa9 hu) hu)
  clear hu hB hA
  go_enter Tryz.func235,Tryz.ntmps235
  go_wp2_with fail
  refine Hnum.out.mono ?_
  rintro e w1 ⟨rfl,hb1⟩
  go_wp2
  exact ⟨rfl,rfl,Xr3 hb1⟩
 |ok p=>
  obtain ⟨x,b⟩:=p
  rw [hu,Rb_ok] at h
  split at h
  ·rename_i k
   injection h with h
   subst h
   have Hnum:=Qh (Xdc I hI s hs n ba a w hw hB hA ha x b hu)
   have Hb:=Qh hB
   have hlt:=hB.lt
   have k:x<0∨most<x:=k
   have hcase:decide (x<0)=true∨(decide (x<0)=false∧decide (most<x)=true):=by
    by_cases h0:x<0
    ·exact .inl (Qt h0)
    ·exact .inr ⟨Qf h0,Qt (by omega)⟩
   clear hu hB hA k
   rcases hcase with d1|⟨d1,d2⟩
   all_goals
    go_enter Tryz.func235,Tryz.ntmps235
    go_wp2_with fail
    refine Hnum.out.mono ?_
    rintro e w1 ⟨rfl,ha1,hg1⟩
    have c3:=cell0 (Hb.out.own hg1 (fun g q=>by injection q with q;omega)).r3
    go_wp2_with fail
    refine (Xey 2 rfl _).mono ?_
    rintro e w2 ⟨rfl,rfl⟩
    go_wp2
    exact ⟨rfl,rfl,hg1⟩
  ·cases h
theorem Xty {fn:Func} {p u q:Tmp} {ty:TypeId} (h:fn.results= #[.cell p ty,.tmp u,.tmp q]) (tmps:Array Value) (P:Program) (w:World):
 (results fn tmps).run P w=
   ((asAddr (tmps.getD p undef)).run P w).andThen fun a w₁=>((loadVar ty a).run P w₁).andThen fun v w₂=> .ok (.tuple #[v,tmps.getD u undef,tmps.getD q undef]) w₂:=by
 simp only [results,h]
 simp [Sem.run_bind,Result.andThen]
section
variable (w:World) (a b c d:Array Value) (s t u v:TypeId)
theorem Xox:((((w.alloc (.cells a s)).alloc (.cells b t)).alloc (.cells c u)).alloc (.cells d v)).heap[w.heap.size]? =some (.cells a s (0,0)):=by
 rw [Below.heap_alloc _ _ _ (by simp<;>omega),Below.heap_alloc _ _ _ (by simp<;>omega),Below.heap_alloc _ _ _ (by simp<;>omega),heap_alloc_new]
theorem Xoy:((((w.alloc (.cells a s)).alloc (.cells b t)).alloc (.cells c u)).alloc (.cells d v)).heap[w.heap.size+1]? =some (.cells b t (0,0)):=by
 have:=heap_alloc_new (w.alloc (.cells a s)) (.cells b t)
 rw [World.size_alloc] at this
 rw [Below.heap_alloc _ _ _ (by simp<;>omega),Below.heap_alloc _ _ _ (by simp<;>omega),this]
theorem Xoz:((((w.alloc (.cells a s)).alloc (.cells b t)).alloc (.cells c u)).alloc (.cells d v)).heap[w.heap.size+2]? =some (.cells c u (0,0)):=by
 have:=heap_alloc_new ((w.alloc (.cells a s)).alloc (.cells b t)) (.cells c u)
 rw [World.size_alloc,World.size_alloc] at this
 rw [Below.heap_alloc _ _ _ (by simp<;>omega),this]
theorem Xo0:((((w.alloc (.cells a s)).alloc (.cells b t)).alloc (.cells c u)).alloc (.cells d v)).heap[w.heap.size+3]? =some (.cells d v (0,0)):=by
 have:=heap_alloc_new (((w.alloc (.cells a s)).alloc (.cells b t)).alloc (.cells c u)) (.cells d v)
 rw [World.size_alloc,World.size_alloc,World.size_alloc] at this
 exact this
end
set_option maxRecDepth 100000 in
set_option maxHeartbeats 1000000 in
theorem Xly (s:Bytes) (ba:Nat) (w:World) (hba:ba<w.heap.size):
 Calls Tryz.prog 160 #[S s,ptrV ba] w fun e w'=>e= .returned (.tuple #[numF w.heap.size,txtF w.heap.size,cntF w.heap.size])∧RdB w' w.heap.size s ba∧Below w.heap.size w w'∧w'.heap.size=w.heap.size+4:=by
 have hmf:∀(fn:Fn) (first cap:Array Value) (w:World),(Instr.makeFunc fn first cap).run Tryz.prog w= .ok (.func fn first cap) w:=fun _ _ _ _=>rfl
 go_enter Tryz.func160,Tryz.ntmps160
 go_wp2
 refine bodyPost_ret (v:= .tuple #[numF w.heap.size,txtF w.heap.size,cntF w.heap.size]) ?_ rfl ?_
 ·rw [Xty rfl]
  simp [asAddr,go_sem]
 ·refine ⟨rfl,⟨?_,?_,?_,?_,hba⟩,?_,?_⟩
  ·exact Xox w _ _ _ _ _ _ _ _
  ·exact Xoy w _ _ _ _ _ _ _ _
  ·exact Xoz w _ _ _ _ _ _ _ _
  ·exact Xo0 w _ _ _ _ _ _ _ _
  ·exact ((((Qb _ _).alloc (Qn _) _).alloc (by simp<;>omega) _).alloc (by simp<;>omega) _).alloc (by simp<;>omega) _
  ·simp
set_option maxRecDepth 100000 in
set_option maxHeartbeats 2000000 in
theorem Xj5 (I:IH) (B:Nat) (v:Value) (l:List _) (x:_) (vb:Nat) (news:List Value) (w:World) (hv:OwnS tHo 227 I w B v l) (hx:tHo.rd I news x)
 (hvs:∀j u,news[j]? =some u→w.cell? ⟨vb,j,none⟩=some u) (hbig:(l.length+1)*24≤140737488355328) (hB:B≤w.heap.size):
 Calls Tryz.prog 248 #[v,.int .i64 l.length,.slice (some ⟨vb,0,none⟩) 1 1] w fun e w'=> ∃v',e= .returned v'∧OwnS tHo 227 I w' B v' (l++ [x])∧w.grownBy w' v.ownBlock:=by
 obtain ⟨i0,hi,hz0,hz1,hz2⟩:=info_parts Xj4
 obtain ⟨xs,hown,hL⟩:=hv
 have HL:=Qh hL
 have Hx:=Qh hx
 have Hvs:=Qh hvs
 have hml:maxLen=9223372036854775807:=rfl
 have hlen:l.length≤4611686018427387904:=by omega
 clear hL hx hvs
 have hcase:v= .slice none 0 0∧l.length=0∨ ∃g cap,v= .slice (some ⟨g,0,none⟩) l.length cap∧l.length≤cap∧cap≤9223372036854775807:=by
  rcases hown.2 with h|⟨g,cap,cur,h1,_,_,h2,h3,_⟩
  ·exact .inl h
  ·exact .inr ⟨g,cap,h1,h2,by rw [hml] at h3;exact h3⟩
 have Hml:=Qh hml
 clear hml
 rcases hcase with ⟨rfl,h0⟩|⟨g,cap,rfl,hcap,hcm⟩
 ·have:l= []:=List.eq_nil_of_length_eq_zero h0
  subst this
  go_enter Tryz.func248,Tryz.ntmps248
  go_wp2_with (at_builtin;refine wpList_append_own _ rfl _ _ 101 rfl B 227 i0 _ 2 24 Tryz.underlying101 hi hz0 hz1 hz2 rfl (by decide) _ _ _ rfl hown ⟨vb,0,none⟩ 1 1 news rfl ?qc1 ?qc2 ?qc3 ?qc4 ?qc5 ?qc6 ?_)
  case qc1=>exact tHo.len Hx.out
  case qc2=>intro j u hj;rw [Addr.add_lit,Nat.zero_add];exact Hvs.out j u hj
  case qc3=>exact tHo.one Hx.out
  case qc4=>rw [Hml.out];simp
  case qc5=>simp
  case qc6=>exact hB
  intro v' w1 hown1 hgrow _
  go_wp2
  go_ret
  exact ⟨v',rfl,⟨_,hown1,LiesL.append HL.out (LiesL.one Hx.out)⟩,hgrow⟩
 ·go_enter Tryz.func248,Tryz.ntmps248
  go_wp2_with (at_builtin;refine wpList_append_own _ rfl _ _ 101 rfl B 227 i0 _ 2 24 Tryz.underlying101 hi hz0 hz1 hz2 rfl (by decide) _ _ _ rfl hown ⟨vb,0,none⟩ 1 1 news rfl (tHo.len Hx.out) (fun j u hj=>by rw [Addr.add_lit,Nat.zero_add];exact Hvs.out j u hj) (tHo.one Hx.out) (by rw [Hml.out];omega) hbig hB ?_)
  all_goals
   intro v' w1 hown1 hgrow _
   go_wp2
   go_ret
   exact ⟨v',rfl,⟨_,by rw [List.length_append];exact hown1,LiesL.append HL.out (LiesL.one Hx.out)⟩,hgrow⟩
set_option maxRecDepth 100000 in
set_option maxHeartbeats 4000000 in
theorem Xh2 (I:IH) (B g cap i:Nat) (l:List _) (x:_) (vb:Nat) (tb:TypeId) (news:List Value) (w:World) (hv:OwnS tHo 227 I w B (.slice (some ⟨g,0,none⟩) l.length cap) l) (hx:tHo.rd I news x)
 (hvb:w.heap[vb]? =some (.cells news.toArray tb (0,0))) (hne:vb≠g) (hi:i<l.length) (hroom:l.length+1≤cap) (hcm:cap≤9223372036854775807):
 Calls Tryz.prog 248 #[.slice (some ⟨g,0,none⟩) l.length cap,.int .i64 i,.slice (some ⟨vb,0,none⟩) 1 1] w fun e w'=> ∃v',e= .returned v'∧OwnS tHo 227 I w' B v' (l.take i++x::l.drop i)∧w.grownBy w' (some g):=by
 obtain ⟨i0,hif,hz0,hz1,hz2⟩:=info_parts Xj4
 obtain ⟨xs,⟨hxl,hown⟩,hL⟩:=hv
 rcases hown with ⟨h0,_⟩|⟨g',cap',cur,h1,hBg,hg,_,hcm',hcs,htk⟩
 ·cases h0
 injection h1 with h1a h1b h1c
 injection h1a with h1a
 injection h1a with h1a
 subst h1a h1c
 have hsz:(Tryz.prog.info? 227).map (·.size)=some 2:=by rw [hif];simp [hz1]
 have hnl:news.length=2:=tHo.len hx
 have hn1:=tHo.one hx
 have hxl':xs.length=l.length*2:=hxl
 have hcs':cur.size=cap*2:=hcs
 have htk':cur.toList.take xs.length=xs:=by rw [hxl];exact htk
 have hov:∀lb cb,(callFunc 277 #[.slice (some ⟨vb,0,none⟩) 1 1,.slice (some ⟨g,(i+1)*2,none⟩) lb cb]).run Tryz.prog w= .ok (.value (.bool false)) w:=fun lb cb=>by
  rw [run_callFunc_extern Tryz.func277 (by kernel_rfl) (by kernel_rfl) (by kernel_rfl) (e:=Extern.SlicesOverlaps.overlaps #[101,101] #[4]) (by kernel_rfl),
   Lib.run_overlaps_apart w 101 4 227 Tryz.underlying101 2 (fun w=>by simp [go_sem]) ⟨vb,0,none⟩ ⟨g,(i+1)*2,none⟩ 1 1 lb cb hne tb 227 2 cur.size (by simp [World.shape?,hvb,hnl]) (by simp [World.shape?,hg]) (by omega) (by simp [World.frozen?,hvb]) (by simp [World.frozen?,hvb])]
  rfl
 obtain ⟨cur1,hcur1⟩:∃c,c=over cur (i*2+2) (xs.drop (i*2)):=⟨_,rfl⟩
 have hs1:cur1.size=cur.size:=by rw [hcur1];exact Xa4 _ _ _ (by rw [List.length_drop];omega)
 obtain ⟨cur2,hcur2⟩:∃c,c=over cur1 (i*2) news:=⟨_,rfl⟩
 have hs2:cur2.size=cur1.size:=by rw [hcur2];exact Xa4 _ _ _ (by omega)
 have hfin:cur2.toList.take ((l.length+1)*2)=xs.take (i*2)++news++xs.drop (i*2):=by
  have:=insert_row cur xs news (i*2) 2 (by omega) htk' hnl (by omega)
  rw [←hcur1,←hcur2] at this
  rw [show (l.length+1)*2=xs.length+2 by omega]
  exact this
 have hcp1:∀ty dc sc,(Builtin.copy_ #[101,101] ty #[.slice (some ⟨g,(i+1)*2,none⟩) (l.length-i) dc,.slice (some ⟨g,i*2,none⟩) (l.length+1-i) sc]).run Tryz.prog w.drew= .ok (goInt ((l.length-i:Nat):Int)) (w.drew.setRow g cur1):=fun ty dc sc=>by
  have h:=Xa6 (P:=Tryz.prog) w.drew 101 101 ty 227 2 g ((i+1)*2) (l.length-i) dc ⟨g,i*2,none⟩ (l.length+1-i) sc cur 227 (xs.drop (i*2)) Tryz.underlying101 hsz hg (by rw [List.length_drop];simp only [Nat.min_def];split<;>omega)
   (fun j u hj=>by
     rw [Addr.add_lit]
     rw [List.getElem?_drop,←htk',List.getElem?_take] at hj
     split at hj
     ·rw [World.cell?_drew,cell_of_row w g _ cur _ _ hg,←Array.getElem?_toList];exact hj
     ·cases hj) (by rw [List.length_drop];omega) (fun u hu=>hL.oneCell u (List.mem_of_mem_drop hu))
  rw [h,show Nat.min (l.length+1-i) (l.length-i)=l.length-i by simp only [Nat.min_def];split<;>omega,hcur1]
  rw [show (i+1)*2=i*2+2 by omega]
  rfl
 have hg1:(w.drew.setRow g cur1).heap[g]? =some (.cells cur1 227 (0,0)):=setRow_heap w.drew g cur cur1 _ _ hg
 have hcp2:∀ty dc,(Builtin.copy_ #[101,101] ty #[.slice (some ⟨g,i*2,none⟩) (l.length+1-i) dc,.slice (some ⟨vb,0,none⟩) 1 1]).run Tryz.prog (w.drew.setRow g cur1)= .ok (goInt 1) ((w.drew.setRow g cur1).setRow g cur2):=fun ty dc=>by
  have h:=Xa6 (P:=Tryz.prog) (w.drew.setRow g cur1) 101 101 ty 227 2 g (i*2) (l.length+1-i) dc ⟨vb,0,none⟩ 1 1 cur1 227 news Tryz.underlying101 hsz hg1 (by rw [hnl];simp only [Nat.min_def];split<;>omega)
   (fun j u hj=>by
     rw [Addr.add_lit,Nat.zero_add]
     have:(w.drew.setRow g cur1).heap[vb]? =some (.cells news.toArray tb (0,0)):=by rw [setRow_other _ _ _ _ hne];exact hvb
     rw [cell_of_row _ vb j _ _ _ this];simpa using hj) (by omega) hn1
  rw [h,show Nat.min 1 (l.length+1-i)=1 by simp only [Nat.min_def];split<;>omega,hcur2]
  rfl
 have Hlen:=Qh (show (xs.take (i*2)++news++xs.drop (i*2)).length=(l.length+1)*2 by simp;omega)
 have Hsz:=Qh (show cur2.size=cap*2 by omega)
 have Hfin:=Qh hfin
 have HL:=Qh hL
 have Hx:=Qh hx
 have Hg1:=Qh hg1
 have hb1:¬(cap=i+1):=by omega
 have hb2:¬(cap=i):=by omega
 clear hfin hL hx hg1 hcur1 hcur2 hxl hxl' hcs hcs' htk htk' hnl hn1 hvb hcm' hg
 have hw1:IntKind.i64.wrap ((i:Int)+1)=(i:Int)+1:=IntWalk.i64_in _ (by omega)
 have hw2:0≤(i:Int)+1:=by omega
 have hw3:((i:Int)+1).toNat=i+1:=by omega
 have hw4:i≤l.length:=by omega
 have hw5:(i:Int)≤(l.length:Int)+1:=by omega
 go_enter Tryz.func248,Tryz.ntmps248
 go_wp2_with (simp only [hov])
 go_region_law (refine step_copy_runI rfl _ _ 101 101 rfl _ _ (by simp [Act.eval,Act.put]) (by simp [Act.eval,Act.put]) (hcp1 _ _ _) ?_)
 go_wp2_with (at_builtin;refine wpList_copy_runI _ rfl _ _ 101 101 rfl _ _ rfl rfl (hcp2 _ _) ?_)
 go_ret
 have hln:(l.take i++x::l.drop i).length=l.length+1:=by simp;omega
 refine ⟨_,rfl,?_,?_⟩
 ·unfold OwnS
  rw [hln]
  refine ⟨xs.take (i*2)++news++xs.drop (i*2),⟨Hlen.out,.inr ⟨g,cap,cur2,rfl,hBg,setRow_heap _ g cur1 cur2 _ _ Hg1.out,by omega,by unfold maxLen;omega,Hsz.out,Hfin.out⟩⟩,?_⟩
  have:=((HL.out.take i).append (LiesL.one Hx.out)).append (HL.out.drop i)
  rwa [show l.take i++ [x]++l.drop i=l.take i++x::l.drop i by simp] at this
 ·have h0:w.grownBy w.drew (some g):=⟨rfl,rfl,rfl,Qn _,fun _ _ _=>rfl⟩
  exact Xbn (Xbn h0 Xat) Xat
set_option maxRecDepth 100000 in
set_option maxHeartbeats 4000000 in
theorem Xiu (I:IH) (B g cap i:Nat) (l:List _) (x:_) (vb:Nat) (tb:TypeId) (news:List Value) (w:World) (hv:OwnS tHo 227 I w B (.slice (some ⟨g,0,none⟩) l.length cap) l) (hx:tHo.rd I news x)
 (hvb:w.heap[vb]? =some (.cells news.toArray tb (0,0))) (hi:i<l.length) (hroom:cap<l.length+1) (hbig:(l.length+1)*24≤140737488355328) (hB:B≤w.heap.size):
 Calls Tryz.prog 248 #[.slice (some ⟨g,0,none⟩) l.length cap,.int .i64 i,.slice (some ⟨vb,0,none⟩) 1 1] w fun e w'=> ∃v',e= .returned v'∧OwnS tHo 227 I w' B v' (l.take i++x::l.drop i)∧w.grownBy w' (some g):=by
 obtain ⟨i0,hif,hz0,hz1,hz2⟩:=info_parts Xj4
 obtain ⟨xs,⟨hxl,hown⟩,hL⟩:=hv
 rcases hown with ⟨h0,_⟩|⟨g',cap',cur,h1,hBg,hg,hnc,hcm',hcs,htk⟩
 ·cases h0
 injection h1 with h1a h1b h1c
 injection h1a with h1a
 injection h1a with h1a
 subst h1a h1c
 have hsz:(Tryz.prog.info? 227).map (·.size)=some 2:=by rw [hif];simp [hz1]
 have hnl:news.length=2:=tHo.len hx
 have hn1:=tHo.one hx
 have hxl':xs.length=l.length*2:=hxl
 have hcs':cur.size=cap*2:=hcs
 have htk':cur.toList.take xs.length=xs:=by rw [hxl];exact htk
 have hgw:g<w.heap.size:=(Array.getElem?_eq_some_iff.1 hg).1
 have hvw:vb<w.heap.size:=(Array.getElem?_eq_some_iff.1 hvb).1
 have hxcell:∀(j:Nat) u,xs[j]? =some u→w.cell? ⟨g,j,none⟩=some u:=fun j u hj=>by
  rw [←htk',List.getElem?_take] at hj
  split at hj
  ·rw [cell_of_row w g _ cur _ _ hg,←Array.getElem?_toList];exact hj
  ·cases hj
 have hold:(Builtin.firstCells i0.size i (.slice (some ⟨g,0,none⟩) i cap)).run Tryz.prog w.drew= .ok (xs.take (i*2)).toArray w.drew:=
  run_firstCells_some w.drew i0.size i ⟨g,0,none⟩ i cap (xs.take (i*2)) (by rw [hz1,List.length_take];omega) (fun j u hj=>by
   rw [Addr.add_lit,Nat.zero_add]
   rw [List.getElem?_take] at hj
   split at hj
   ·exact hxcell j u hj
   ·cases hj)
 obtain ⟨G,hG⟩:∃G,G=grownCap w (l.length+1) cap 227:=⟨_,rfl⟩
 have hGn:l.length+1≤G:=by rw [hG];exact grownCap_ge w _ _ _
 have hG63:G≤9223372036854775807:=by
  have:=grownCap_le_maxLen w (l.length+1) cap 227 (by unfold maxLen;omega)
  rw [←hG] at this
  unfold maxLen at this
  omega
 obtain ⟨z,hz⟩:∃z,i0.zero=some z:=⟨_,hz0⟩
 have hzs:z.cells.size=2:=by rw [hz] at hz0;cases hz0;rfl
 obtain ⟨ROW,hROW⟩:∃ROW:Array Value,ROW=(xs.take (i*2)).toArray++Builtin.zeroCells z.cells (l.length+1-i)++Builtin.zeroCells z.cells (G-(l.length+1)):=⟨_,rfl⟩
 have hRs:ROW.size=G*2:=by
  rw [hROW,Array.size_append,Array.size_append,size_zeroCells,size_zeroCells,hzs]
  simp
  omega
 have hRt:ROW.toList.take (i*2)=xs.take (i*2):=by
  rw [hROW,Array.toList_append,Array.toList_append,List.append_assoc,List.take_append_of_le_length (by simp;omega),List.take_of_length_le (by simp;omega)]
 have hrz:∀ty,(Builtin.append_ #[101,3] ty #[.slice (some ⟨g,0,none⟩) i cap,.int .i64 ((l.length:Int)+1-(i:Int))]).run Tryz.prog w=
  .ok (.slice (some ⟨w.heap.size,0,none⟩) (l.length+1) G) (w.drew.alloc (.cells ROW 227)):=fun ty=>by
  have h:=Lib.run_append_grow_zeros w 101 3 ty 227 i0 z .i64 .i64 Tryz.underlying101 Tryz.underlying3 hif hz (some ⟨g,0,none⟩) i cap (xs.take (i*2)) hold (l.length+1-i) (by omega) (by rw [hz1];omega) (by omega) (by omega) (by rw [hz2];omega) (by rw [hz2,show i+(l.length+1-i)=l.length+1 by omega];exact growslice_fits hroom hbig)
  rw [show i+(l.length+1-i)=l.length+1 by omega,←hG,←hROW] at h
  rw [show (l.length:Int)+1-(i:Int)=((l.length+1-i:Nat):Int) by omega]
  exact h
 obtain ⟨row2,hrow2⟩:∃c,c=over ROW (i*2) news:=⟨_,rfl⟩
 have hs2:row2.size=ROW.size:=by rw [hrow2];exact Xa4 _ _ _ (by omega)
 obtain ⟨row3,hrow3⟩:∃c,c=over row2 (i*2+2) (xs.drop (i*2)):=⟨_,rfl⟩
 have hs3:row3.size=row2.size:=by rw [hrow3];exact Xa4 _ _ _ (by rw [List.length_drop];omega)
 have hfin:row3.toList.take ((l.length+1)*2)=xs.take (i*2)++news++xs.drop (i*2):=by
  have:=Xh0 ROW xs news (i*2) 2 (by omega) hRt hnl (by omega)
  rw [←hrow2,←hrow3] at this
  rw [show (l.length+1)*2=xs.length+2 by omega]
  exact this
 obtain ⟨W1,hW1⟩:∃W1,W1=w.drew.alloc (.cells ROW 227):=⟨_,rfl⟩
 have hN1:W1.heap[w.heap.size]? =some (.cells ROW 227 (0,0)):=by rw [hW1];exact heap_alloc_new w.drew _
 have ho1:∀b,b<w.heap.size→W1.heap[b]? =w.heap[b]? :=fun b hb=>by rw [hW1];exact Below.heap_alloc w.drew _ b hb
 rw [←hW1] at hrz
 have hcpA:∀ty dc,(Builtin.copy_ #[101,101] ty #[.slice (some ⟨w.heap.size,i*2,none⟩) (l.length+1-i) dc,.slice (some ⟨vb,0,none⟩) 1 1]).run Tryz.prog W1= .ok (goInt 1) (W1.setRow w.heap.size row2):=fun ty dc=>by
  have h:=Xa6 (P:=Tryz.prog) W1 101 101 ty 227 2 w.heap.size (i*2) (l.length+1-i) dc ⟨vb,0,none⟩ 1 1 ROW 227 news Tryz.underlying101 hsz hN1 (by rw [hnl];simp only [Nat.min_def];split<;>omega)
   (fun j u hj=>by
     rw [Addr.add_lit,Nat.zero_add,cell_of_row _ vb j _ _ _ ((ho1 vb hvw).trans hvb)];simpa using hj) (by omega) hn1
  rw [h,show Nat.min 1 (l.length+1-i)=1 by simp only [Nat.min_def];split<;>omega,hrow2]
  rfl
 have hN2:(W1.setRow w.heap.size row2).heap[w.heap.size]? =some (.cells row2 227 (0,0)):=setRow_heap W1 w.heap.size ROW row2 _ _ hN1
 have hcpB:∀ty dc sc,(Builtin.copy_ #[101,101] ty #[.slice (some ⟨w.heap.size,(i+1)*2,none⟩) (l.length-i) dc,.slice (some ⟨g,i*2,none⟩) (l.length-i) sc]).run Tryz.prog (W1.setRow w.heap.size row2).drew= .ok (goInt ((l.length-i:Nat):Int)) ((W1.setRow w.heap.size row2).drew.setRow w.heap.size row3):=fun ty dc sc=>by
  have h:=Xa6 (P:=Tryz.prog) (W1.setRow w.heap.size row2).drew 101 101 ty 227 2 w.heap.size ((i+1)*2) (l.length-i) dc ⟨g,i*2,none⟩ (l.length-i) sc row2 227 (xs.drop (i*2)) Tryz.underlying101 hsz hN2 (by rw [List.length_drop];simp only [Nat.min_def];split<;>omega)
   (fun j u hj=>by
     rw [Addr.add_lit]
     rw [List.getElem?_drop] at hj
     have hgg:(W1.setRow w.heap.size row2).heap[g]? =some (.cells cur 227 (0,0)):=by rw [setRow_other _ _ _ _ (by omega),ho1 g hgw];exact hg
     rw [World.cell?_drew,cell_of_row _ g _ cur _ _ hgg,←cell_of_row w g _ cur _ _ hg]
     exact hxcell _ u hj) (by rw [List.length_drop];omega) (fun u hu=>hL.oneCell u (List.mem_of_mem_drop hu))
  rw [h,show Nat.min (l.length-i) (l.length-i)=l.length-i by simp only [Nat.min_def];split<;>omega,hrow3]
  rw [show (i+1)*2=i*2+2 by omega]
  rfl
 have Hlen:=Qh (show (xs.take (i*2)++news++xs.drop (i*2)).length=(l.length+1)*2 by simp;omega)
 have Hsz:=Qh (show row3.size=G*2 by omega)
 have Hfin:=Qh hfin
 have HL:=Qh hL
 have Hx:=Qh hx
 have HN2:=Qh hN2
 have HW1:=Qh hW1
 have hb1:¬(G=i+1):=by omega
 have hb2:¬(G=i):=by omega
 have hb3:¬(cap=i):=by omega
 clear hfin hL hx hN2 hN1 hrow2 hrow3 hROW hRs hRt hxl hxl' hcs hcs' htk htk' hnl hn1 hvb hcm' hg hold hxcell ho1 hW1 hG hz hz0 hzs hs2 hs3
 have hw1:IntKind.i64.wrap ((i:Int)+1)=(i:Int)+1:=IntWalk.i64_in _ (by omega)
 have hw2:0≤(i:Int)+1:=by omega
 have hw3:((i:Int)+1).toNat=i+1:=by omega
 have hw4:i≤l.length:=by omega
 have hw5:(i:Int)≤(l.length:Int)+1:=by omega
 go_enter Tryz.func248,Tryz.ntmps248
 go_wp2_with (first
  |(at_builtin;refine Lib.wpList_append_run _ rfl _ _ _ _ rfl _ _ rfl rfl _ _ (hrz _) ?_)
  |(at_builtin;refine wpList_copy_runI _ rfl _ _ 101 101 rfl _ _ rfl rfl (hcpA _ _) ?_))
 go_region_law (refine step_copy_runI rfl _ _ 101 101 rfl _ _ (by simp [Act.eval,Act.put]) (by simp [Act.eval,Act.put]) (hcpB _ _ _) ?_)
 go_wp2
 go_ret
 have hln:(l.take i++x::l.drop i).length=l.length+1:=by simp;omega
 refine ⟨_,rfl,?_,?_⟩
 ·unfold OwnS
  rw [hln]
  refine ⟨xs.take (i*2)++news++xs.drop (i*2),⟨Hlen.out,.inr ⟨w.heap.size,G,row3,rfl,hB,setRow_heap _ w.heap.size row2 row3 _ _ HN2.out,hGn,by unfold maxLen;omega,Hsz.out,Hfin.out⟩⟩,?_⟩
  have:=((HL.out.take i).append (LiesL.one Hx.out)).append (HL.out.drop i)
  rwa [show l.take i++ [x]++l.drop i=l.take i++x::l.drop i by simp] at this
 ·rw [HW1.out]
  exact ⟨rfl,rfl,rfl,by simp,fun k hk _=>by
   rw [setRow_other _ _ _ _ (by omega)]
   show ((w.drew.alloc (.cells ROW 227)).setRow w.heap.size row2).heap[k]? =_
   rw [setRow_other _ _ _ _ (by omega)]
   exact Below.heap_alloc w.drew _ k hk⟩
theorem Xlp (I:IH) (B:Nat) (v:Value) (l:List _) (x:_) (vb i:Nat) (tb:TypeId) (news:List Value) (w:World) (hv:OwnS tHo 227 I w B v l) (hx:tHo.rd I news x)
 (hvb:w.heap[vb]? =some (.cells news.toArray tb (0,0))) (hne:v.ownBlock≠some vb) (hi:i≤l.length) (hbig:(l.length+1)*24≤140737488355328) (hB:B≤w.heap.size):
 Calls Tryz.prog 248 #[v,.int .i64 i,.slice (some ⟨vb,0,none⟩) 1 1] w fun e w'=> ∃v',e= .returned v'∧OwnS tHo 227 I w' B v' (l.take i++x::l.drop i)∧w.grownBy w' v.ownBlock:=by
 by_cases he:i=l.length
 ·subst he
  rw [List.take_length,List.drop_length]
  exact Xj5 I B v l x vb news w hv hx (fun j u hj=>by rw [cell_of_row w vb j _ _ _ hvb];simpa using hj) hbig hB
 ·have hcase:∃g cap,v= .slice (some ⟨g,0,none⟩) l.length cap∧cap≤maxLen:=by
   obtain ⟨xs,⟨_,hown⟩,_⟩:=hv
   rcases hown with ⟨_,h⟩|⟨g,cap,cur,h1,_,_,_,h3,_⟩
   ·omega
   ·exact ⟨g,cap,h1,h3⟩
  obtain ⟨g,cap,rfl,hcm⟩:=hcase
  by_cases hr:l.length+1≤cap
  ·exact Xh2 I B g cap i l x vb tb news w hv hx hvb (fun e=>hne (by rw [e];rfl)) (by omega) hr (by unfold maxLen at hcm;omega)
  ·exact Xiu I B g cap i l x vb tb news w hv hx hvb (by omega) (by omega) hbig hB
theorem Xlm (h:Ho):∀ {l:List Ho},l.any (fun x=>decide (0<cmpP x.p h.p))=false→insH h l=l.take l.length++h::l.drop l.length
 | [],_=>rfl
 |x::l,hn=>by
  rw [List.any_cons,Bool.or_eq_false_iff] at hn
  have hx:ltP (els h.p) (els x.p)=false:=by
   have:=of_decide_eq_false hn.1
   cases k:ltP (els h.p) (els x.p) with
   |false=>rfl
   |true=>
    exfalso
    apply this
    unfold cmpP
    rw [Xfe k,k]
    simp
  rw [insH,if_neg (by simp [hx]),Xlm h hn.2]
  simp
theorem Xov (h:Ho):∀ {l:List Ho} {i:Nat} (hi:i<l.length),decide (0<cmpP l[i].p h.p)=true→(l.take i).any (fun x=>decide (0<cmpP x.p h.p))=false→insH h l=l.take i++h::l.drop i
 | [],_,hi,_,_=>absurd hi (by simp)
 |x::l,0,_,hp,_=>by
  have hx:ltP (els h.p) (els x.p)=true:=by
   have:=of_decide_eq_true hp
   have h2:0<cmpP x.p h.p:=this
   unfold cmpP at h2
   split at h2
   ·omega
   ·split at h2
    ·assumption
    ·omega
  rw [insH,if_pos hx];rfl
 |x::l,i+1,hi,hp,hn=>by
  rw [List.take_succ_cons,List.any_cons,Bool.or_eq_false_iff] at hn
  have hx:ltP (els h.p) (els x.p)=false:=by
   have:=of_decide_eq_false hn.1
   cases k:ltP (els h.p) (els x.p) with
   |false=>rfl
   |true=>
    exfalso
    apply this
    unfold cmpP
    rw [Xfe k,k]
    simp
  rw [insH,if_neg (by simp [hx]),Xov h (l:=l) (by simpa using hi) hp hn.2]
  rfl
theorem Xmp {p:Bytes} {l:List Ho} {k:Nat} {cur U:Int} {x:Ho} (hk:k<l.length) (hx:l[k]=x) (h:untilH p (l.drop k) cur=U):untilH p (l.drop (k+1)) (if x.p=p then max cur x.u else cur)=U:=by
 rw [List.drop_eq_getElem_cons hk,hx,untilH] at h;exact h
theorem Xmi {l:List Ho} {e:Ent} {d:Int} (hk:e.kind=5):appH l e d=(insH ⟨e.path,untilH e.path (actP l d) (digits e.target)⟩ (restH (actP l d) e.path),0):=by rw [appH,if_pos hk]
theorem Xvc {l:List Ho} {e:Ent} {d:Int} (hk:e.kind=6) (h:(restH (actP l d) e.path).length≠(actP l d).length):appH l e d=(restH (actP l d) e.path,0):=by
 rw [appH,if_neg (by omega),if_pos hk,if_pos]
 cases hh:hasH (actP l d) e.path with
 |true=>rfl
 |false=>exact absurd (rest_len.2 hh) h
theorem Xte {l:List Ho} {e:Ent} {d:Int} (hk:e.kind=6) (h:(restH (actP l d) e.path).length=(actP l d).length):appH l e d=([],9):=by
 rw [appH,if_neg (by omega),if_pos hk,if_neg]
 rw [rest_len.1 h];simp
theorem Xpm {l:List Ho} {e:Ent} {d:Int} (h5:e.kind≠5) (h6:e.kind≠6):appH l e d=(actP l d,0):=by
 rw [appH,if_neg h5,if_neg h6]
theorem Xf6 {s:Bytes} (h:dateOk s=true):s.length≤10:=by
 unfold dateOk at h
 simp only [Bool.and_eq_true,decide_eq_true_eq] at h
 exact h.1.1.1.2
set_option maxRecDepth 100000 in
theorem Xe4 (p:Bytes) (b:Nat) (l:List Ho) (w:World) (hc:w.cell? ⟨b,1,none⟩=some (S p)):PredH 244 #[.pointer (some ⟨b,0,none⟩)] l (fun h=> !(h.p==p)) (Below w.heap.size w):=by
 intro x hx W hW
 have hcW:=Xab (.cells #[S x.p,.int .i64 x.u] 227) (Xaa hW hc)
 clear hc
 show Calls Tryz.prog _ #[hoV x,.pointer (some ⟨b,0,none⟩)] W _
 go_enter Tryz.func244,Tryz.ntmps244
 go_wp2
 go_ret
 exact ⟨rfl,(Qb _ _).alloc (Qn _) _⟩
set_option maxRecDepth 100000 in
theorem Xq3 (I:IH) (hI:Glob I) (p:Bytes) (hp:p.length≤4294967280) (b:Nat) (l:List Ho) (hl:∀h∈l,h.p.length≤4294967280) (w:World) (hw:Ok I w) (hc:w.cell? ⟨b,1,none⟩=some (S p)):PredH 247 #[.pointer (some ⟨b,0,none⟩)] l (fun h=>decide (0<cmpP h.p p)) (Below w.heap.size w):=by
 intro x hx W hW
 have Hu:=Qh (Xfy I hI x.p p (hl x hx) hp (W.alloc (.cells #[S x.p,.int .i64 x.u] 227)) ((hw.below (Qn _) hW).alloc _))
 have hcW:=Xab (.cells #[S x.p,.int .i64 x.u] 227) (Xaa hW hc)
 clear hc
 show Calls Tryz.prog _ #[hoV x,.pointer (some ⟨b,0,none⟩)] W _
 go_enter Tryz.func247,Tryz.ntmps247
 go_wp2_with fail
 refine Hu.out.mono ?_
 rintro e w1 ⟨rfl,hb1⟩
 go_wp2
 go_ret
 exact ⟨rfl,((Qb _ _).alloc (Qn _) _).trans (hb1.mono (by simp))⟩
set_option maxRecDepth 100000 in
set_option maxHeartbeats 4000000 in
theorem Xtw (I:IH) (hI:Glob I) (v:Value) (l:List Ho) (hv:RdS tHo I v l) (hk:HOk l) (hn:l.length≤100000) (e:Ent) (va vx:Value) (hva:RdS tAt I va e.attrs) (hvx:RdS tXt I vx e.exts) (he:entErr e=0) (d:Int) (w:World) (hw:Ok I w):
 Calls Tryz.prog 177 #[v,entV e va vx,.int .i64 d] w (RetL tHo I w (appH l e d).1 (appH l e d).2):=by
 have Ha:=Qh (fun w hw=>Xhl I v l hv hn d w hw)
 have HG:=Qh hI
 have hpl:e.path.length≤4294967280:=by have:=(Xax (Xbj he).2.2.1).1;omega
 have Hd:=Qh (fun h5=>Xh1 he h5)
 have HE:=Qh (@Xmi l e d)
 have HR:=Qh (@Xvc l e d)
 have HM:=Qh (@Xte l e d)
 have HL:=Qh (@Xpm l e d)
 have hal:(actP l d).length≤100000:=Nat.le_trans (List.length_filter_le _ _) hn
 have Hka:=Qh (hk.act d)
 have hrl:(restH (actP l d) e.path).length≤(actP l d).length:=List.length_filter_le _ _
 have Hkr:=Qh ((hk.act d).rest e.path)
 have hrest:(actP l d).filter (fun h=> !(h.p==e.path))=restH (actP l d) e.path:=rfl
 obtain ⟨ao,cap,rfl,hcap,hcm,_⟩:=id hv
 obtain ⟨aa,ca,rfl,_,_,_⟩:=id hva
 obtain ⟨ax,cx,rfl,_,_,_⟩:=id hvx
 clear hv hva hvx hI hk he
 generalize hra:restH (actP l d) e.path=rest at hrl Hkr hrest HE HR HM
 generalize hac:actP l d=act at Ha hal Hka hrl hrest HE HR HM HL
 have Hrest:=Qh hrest
 clear hra hac hrest
 by_cases h5:e.kind=5
 case neg=>
  have k5:((e.kind:Int)==5)=false:=by simpa using h5
  by_cases h6:e.kind=6
  case neg=>
   have k6:((e.kind:Int)==6)=false:=by simpa using h6
   have Hn:=Qh (HL.out h5 h6)
   clear h5 h6
   go_enter Tryz.func177,Tryz.ntmps177
   go_wp2_with fail
   refine (Ha.out _ (hw.alloc _)).mono ?_
   rintro e1 w1 ⟨v1,rfl,hown1,hb1⟩
   have HB1:=Qh (entB (e:=e) rfl hb1)
   have hok0:Ok I w1:=(hw.alloc _).below (Qn _) hb1
   have hsz1:w.heap.size<w1.heap.size:=by have:=hb1.size;simp at this;omega
   have hfr:∀b,w.heap.size≤b→I b=none:=fun b hb=>hw.fresh hb
   have hb1':=((Qb w.heap.size w).alloc (Qn _) (.cells #[.int .i64 e.kind,S e.path,.slice aa e.attrs.length ca,S e.target,.int .i64 e.size,S e.digest,.slice ax e.exts.length cx] 26)).trans (hb1.mono (by simp))
   obtain ⟨I1,hI1,hok1,hrd1,_⟩:=(hown1.lower (show w.heap.size≤_ by simp)).freeze hok0 hfr
   have HI1:=Qh hI1
   have Hrd1:=Qh hrd1
   have HG1:=Qh (HG.out.mono (hI1.keep hw (Qn _)))
   have Hs:=Qh (Xci I1 v1 act hrd1 hal _ _ _ w1 hok1 (fun _ _=>by kernel_rfl) (Xe4 e.path w.heap.size act w1 HB1.out.c1))
   obtain ⟨a1,cp1,rfl,hcp1,hcm1,_⟩:=id hrd1
   clear hown1 hb1 hfr hrd1 hI1 hok0
   go_wp2_with fail
   refine Hs.out.mono ?_
   rintro e2 w2 ⟨v2,rfl,hown2,hb2⟩
   rw [Hrest.out] at hown2
   have hfr1:∀b,w1.heap.size≤b→I1 b=none:=fun b hb=>hok1.fresh hb
   have Hfr1:=Qh hfr1
   have hok2:Ok I1 w2:=hok1.below (Qn _) hb2
   have HB2:=Qh (HB1.out.thru hb2)
   have hb2':=hb1'.trans (hb2.mono hb1'.size)
   have hsz2:w1.heap.size≤w2.heap.size:=hb2.size
   clear hb2 hb1' HB1 hok1 Hs hfr1
   obtain ⟨I2,hI2,hok2',hrd2,_⟩:=hown2.freeze hok2 Hfr1.out
   have Hown2:=Qh hown2
   have HI2:=Qh hI2
   have Hrd2:=Qh hrd2
   obtain ⟨a2,cp2,rfl,hcp2,hcm2,_⟩:=id hrd2
   clear hown2 hrd2 hI2
   obtain ⟨c0,c1,c2,c3,c4,c5,c6⟩:=HB2.out
   go_wp2
   go_ret2
   rw [Hn.out]
   exact ⟨_,I1,rfl,hb2',HI1.out,hok2,Hrd1.out⟩
  have k6:((e.kind:Int)==6)=true:=by simpa using h6
  by_cases heq:rest.length=act.length
  ·have Hn:=Qh (HM.out h6 heq)
   have q1:((rest.length:Int)==act.length)=true:=by rw [heq];simp
   clear h5 h6 heq
   go_enter Tryz.func177,Tryz.ntmps177
   go_wp2_with fail
   refine (Ha.out _ (hw.alloc _)).mono ?_
   rintro e1 w1 ⟨v1,rfl,hown1,hb1⟩
   have HB1:=Qh (entB (e:=e) rfl hb1)
   have hok0:Ok I w1:=(hw.alloc _).below (Qn _) hb1
   have hsz1:w.heap.size<w1.heap.size:=by have:=hb1.size;simp at this;omega
   have hfr:∀b,w.heap.size≤b→I b=none:=fun b hb=>hw.fresh hb
   have hb1':=((Qb w.heap.size w).alloc (Qn _) (.cells #[.int .i64 e.kind,S e.path,.slice aa e.attrs.length ca,S e.target,.int .i64 e.size,S e.digest,.slice ax e.exts.length cx] 26)).trans (hb1.mono (by simp))
   obtain ⟨I1,hI1,hok1,hrd1,_⟩:=(hown1.lower (show w.heap.size≤_ by simp)).freeze hok0 hfr
   have HI1:=Qh hI1
   have Hrd1:=Qh hrd1
   have HG1:=Qh (HG.out.mono (hI1.keep hw (Qn _)))
   have Hs:=Qh (Xci I1 v1 act hrd1 hal _ _ _ w1 hok1 (fun _ _=>by kernel_rfl) (Xe4 e.path w.heap.size act w1 HB1.out.c1))
   obtain ⟨a1,cp1,rfl,hcp1,hcm1,_⟩:=id hrd1
   clear hown1 hb1 hfr hrd1 hI1 hok0
   go_wp2_with fail
   refine Hs.out.mono ?_
   rintro e2 w2 ⟨v2,rfl,hown2,hb2⟩
   rw [Hrest.out] at hown2
   have hfr1:∀b,w1.heap.size≤b→I1 b=none:=fun b hb=>hok1.fresh hb
   have Hfr1:=Qh hfr1
   have hok2:Ok I1 w2:=hok1.below (Qn _) hb2
   have HB2:=Qh (HB1.out.thru hb2)
   have hb2':=hb1'.trans (hb2.mono hb1'.size)
   have hsz2:w1.heap.size≤w2.heap.size:=hb2.size
   clear hb2 hb1' HB1 hok1 Hs hfr1
   obtain ⟨I2,hI2,hok2',hrd2,_⟩:=hown2.freeze hok2 Hfr1.out
   have Hown2:=Qh hown2
   have HI2:=Qh hI2
   have Hrd2:=Qh hrd2
   obtain ⟨a2,cp2,rfl,hcp2,hcm2,_⟩:=id hrd2
   clear hown2 hrd2 hI2
   obtain ⟨c0,c1,c2,c3,c4,c5,c6⟩:=HB2.out
   go_wp2
   go_ret2
   rw [Hn.out]
   exact ⟨_,I1,rfl,hb2',HI1.out,hok2,RdS.nil _ _⟩
  ·have Hn:=Qh (HR.out h6 heq)
   have q1:((rest.length:Int)==act.length)=false:=by
    have:((rest.length:Int))≠act.length:=by omega
    simpa using this
   clear h5 h6 heq
   go_enter Tryz.func177,Tryz.ntmps177
   go_wp2_with fail
   refine (Ha.out _ (hw.alloc _)).mono ?_
   rintro e1 w1 ⟨v1,rfl,hown1,hb1⟩
   have HB1:=Qh (entB (e:=e) rfl hb1)
   have hok0:Ok I w1:=(hw.alloc _).below (Qn _) hb1
   have hsz1:w.heap.size<w1.heap.size:=by have:=hb1.size;simp at this;omega
   have hfr:∀b,w.heap.size≤b→I b=none:=fun b hb=>hw.fresh hb
   have hb1':=((Qb w.heap.size w).alloc (Qn _) (.cells #[.int .i64 e.kind,S e.path,.slice aa e.attrs.length ca,S e.target,.int .i64 e.size,S e.digest,.slice ax e.exts.length cx] 26)).trans (hb1.mono (by simp))
   obtain ⟨I1,hI1,hok1,hrd1,_⟩:=(hown1.lower (show w.heap.size≤_ by simp)).freeze hok0 hfr
   have HI1:=Qh hI1
   have Hrd1:=Qh hrd1
   have HG1:=Qh (HG.out.mono (hI1.keep hw (Qn _)))
   have Hs:=Qh (Xci I1 v1 act hrd1 hal _ _ _ w1 hok1 (fun _ _=>by kernel_rfl) (Xe4 e.path w.heap.size act w1 HB1.out.c1))
   obtain ⟨a1,cp1,rfl,hcp1,hcm1,_⟩:=id hrd1
   clear hown1 hb1 hfr hrd1 hI1 hok0
   go_wp2_with fail
   refine Hs.out.mono ?_
   rintro e2 w2 ⟨v2,rfl,hown2,hb2⟩
   rw [Hrest.out] at hown2
   have hfr1:∀b,w1.heap.size≤b→I1 b=none:=fun b hb=>hok1.fresh hb
   have Hfr1:=Qh hfr1
   have hok2:Ok I1 w2:=hok1.below (Qn _) hb2
   have HB2:=Qh (HB1.out.thru hb2)
   have hb2':=hb1'.trans (hb2.mono hb1'.size)
   have hsz2:w1.heap.size≤w2.heap.size:=hb2.size
   clear hb2 hb1' HB1 hok1 Hs hfr1
   obtain ⟨I2,hI2,hok2',hrd2,_⟩:=hown2.freeze hok2 Hfr1.out
   have Hown2:=Qh hown2
   have HI2:=Qh hI2
   have Hrd2:=Qh hrd2
   obtain ⟨a2,cp2,rfl,hcp2,hcm2,_⟩:=id hrd2
   clear hown2 hrd2 hI2
   obtain ⟨c0,c1,c2,c3,c4,c5,c6⟩:=HB2.out
   go_wp2
   go_ret2
   rw [Hn.out]
   exact ⟨_,I2,rfl,hb2',HI1.out.trans HI2.out (Nat.le_of_lt hsz1),hok2',Hrd2.out⟩
 have k5:((e.kind:Int)==5)=true:=by simpa using h5
 have Hn:=Qh (HE.out h5)
 have htl:e.target.length≤4294967280:=by
  have hh:=(Xkc (Hd.out h5)).2.2.2
  have h1:=Xf6 (Hd.out h5)
  omega
 have Hdt:=Qh (fun w=>Xq2 e.target htl (Hd.out h5) w)
 obtain ⟨d0,hd0⟩:∃d0,digits e.target=d0:=⟨_,rfl⟩
 obtain ⟨U,hU⟩:∃U,untilH e.path act d0=U:=⟨_,rfl⟩
 rw [hd0] at Hdt Hn
 rw [hU] at Hn
 have HU:=Qh hU
 clear h5 hd0 htl hU
 go_enter Tryz.func177,Tryz.ntmps177
 go_wp2_with fail
 refine (Ha.out _ (hw.alloc _)).mono ?_
 rintro e1 w1 ⟨v1,rfl,hown1,hb1⟩
 have HB1:=Qh (entB (e:=e) rfl hb1)
 have hok0:Ok I w1:=(hw.alloc _).below (Qn _) hb1
 have hsz1:w.heap.size<w1.heap.size:=by have:=hb1.size;simp at this;omega
 have hfr:∀b,w.heap.size≤b→I b=none:=fun b hb=>hw.fresh hb
 have hb1':=((Qb w.heap.size w).alloc (Qn _) (.cells #[.int .i64 e.kind,S e.path,.slice aa e.attrs.length ca,S e.target,.int .i64 e.size,S e.digest,.slice ax e.exts.length cx] 26)).trans (hb1.mono (by simp))
 obtain ⟨I1,hI1,hok1,hrd1,_⟩:=(hown1.lower (show w.heap.size≤_ by simp)).freeze hok0 hfr
 have HI1:=Qh hI1
 have Hrd1:=Qh hrd1
 have HG1:=Qh (HG.out.mono (hI1.keep hw (Qn _)))
 have Hs:=Qh (Xci I1 v1 act hrd1 hal _ _ _ w1 hok1 (fun _ _=>by kernel_rfl) (Xe4 e.path w.heap.size act w1 HB1.out.c1))
 obtain ⟨a1,cp1,rfl,hcp1,hcm1,_⟩:=id hrd1
 clear hown1 hb1 hfr hrd1 hI1 hok0
 go_wp2_with fail
 refine Hs.out.mono ?_
 rintro e2 w2 ⟨v2,rfl,hown2,hb2⟩
 rw [Hrest.out] at hown2
 have hfr1:∀b,w1.heap.size≤b→I1 b=none:=fun b hb=>hok1.fresh hb
 have Hfr1:=Qh hfr1
 have hok2:Ok I1 w2:=hok1.below (Qn _) hb2
 have HB2:=Qh (HB1.out.thru hb2)
 have hb2':=hb1'.trans (hb2.mono hb1'.size)
 have hsz2:w1.heap.size≤w2.heap.size:=hb2.size
 clear hb2 hb1' HB1 hok1 Hs hfr1
 obtain ⟨I2,hI2,hok2',hrd2,_⟩:=hown2.freeze hok2 Hfr1.out
 have Hown2:=Qh hown2
 have HI2:=Qh hI2
 have Hrd2:=Qh hrd2
 obtain ⟨a2,cp2,rfl,hcp2,hcm2,_⟩:=id hrd2
 clear hown2 hrd2 hI2
 obtain ⟨c0,c1,c2,c3,c4,c5,c6⟩:=HB2.out
 go_wp2_with fail
 refine (Hdt.out _).mono ?_
 rintro e3 w3 ⟨rfl,hb3⟩
 have hok3:Ok I1 w3:=hok2.below (Qn _) hb3
 have hok3':Ok I2 w3:=hok2'.below (Qn _) hb3
 have HB3:=Qh (HB2.out.thru hb3)
 have Hown3:=Qh (Hown2.out.below hb3)
 have hsz3:w2.heap.size≤w3.heap.size:=hb3.size
 have hb3':=hb2'.trans (hb3.mono hb2'.size)
 clear c0 c1 c2 c3 c4 c5 c6 HB2 Hown2 hok2 hok2' hb3 hb2'
 go_wp2_with fail
 go_loopw [10,35] (fun s10 s35 wr=> ∃(k:Nat) (cur:Int),k≤act.length∧s10= .int .i64 cur∧s35= .int .i64 k∧untilH e.path (act.drop k) cur=U∧Below w3.heap.size w3 wr) (fun _ i _=>act.length-(intOf i).toNat)
 case atStart=>exact ⟨0,d0,Nat.zero_le _,rfl,rfl,HU.out,Qb _ _⟩
 case round=>
  obtain ⟨k,cur,hk,rfl,rfl,hu,hb⟩:=hrel
  have Hu:=Qh hu
  clear hu
  by_cases hlt:k<act.length
  ·obtain ⟨x,b,off,cap',hlx,hvv,x0,x1⟩:=hoAt Hrd1.out (hok3.below (Qn _) hb) k hlt
   cases hvv
   have Hst:=Qh (Xmp hlt hlx Hu.out)
   obtain ⟨c0,c1,c2,c3,c4,c5,c6⟩:=HB3.out.thru hb
   have c1':=Xab (.cells #[S x.p,.int .i64 x.u] 227) c1
   clear hlx Hu c0 c1 c2 c3 c4 c5 c6
   cases hq:(x.p==e.path)
   ·have Hn2:=Qh (show untilH e.path (act.drop (k+1)) cur=U by have:=Hst.out;rwa [if_neg (by simpa using hq)] at this)
    clear Hst
    go_wp2
    go_roundw
    case rel=>exact ⟨k+1,cur,by omega,rfl,by go_num,Hn2.out,hb.alloc hb.size _⟩
    case measure=>simp [intOf];omega
   ·have Hn2:=Qh (show untilH e.path (act.drop (k+1)) (max cur x.u)=U by have:=Hst.out;rwa [if_pos (by simpa using hq)] at this)
    clear Hst
    go_wp2
    go_roundw
    case rel=>exact ⟨k+1,max cur x.u,by omega,rfl,by go_num,Hn2.out,hb.alloc hb.size _⟩
    case measure=>simp [intOf];omega
  ·have hcur:cur=U:=by have:=Hu.out;rwa [List.drop_of_length_le (by omega)] at this
   subst hcur
   have hokr:Ok I2 wr:=hok3'.below (Qn _) hb
   have hokr1:Ok I1 wr:=hok3.below (Qn _) hb
   have HBr:=Qh (HB3.out.thru hb)
   have Hownr:=Qh (Hown3.out.below hb)
   have hbr':=hb3'.trans (hb.mono hb3'.size)
   have hszr:w3.heap.size≤wr.heap.size:=hb.size
   have Hix:=Qh (Xer I2 _ rest Hrd2.out _ _ _ wr hokr (fun _ _=>by kernel_rfl) (Xq3 I1 HG1.out e.path hpl w.heap.size rest Hkr.out.short wr hokr1 HBr.out.c1))
   have hcs:=Xbz rest (fun h=>decide (0<cmpP h.p e.path))
   clear Hu hb hb3' HB3 Hown3 hok3 hok3' hokr
   rcases hcs with ⟨i,hi,e1,e2,e3⟩|⟨e1,e2⟩
   ·rw [e1] at Hix
    have Hi:=Qh (Xov ⟨e.path,cur⟩ hi e2 e3)
    clear e1 e2 e3
    go_wp2_with fail
    refine Hix.out.mono ?_
    rintro e5 w5 ⟨rfl,hb5⟩
    have hok5:=hokr1.below (Qn _) hb5
    have HB5:=Qh (HBr.out.thru hb5)
    have Hown5:=Qh (Hownr.out.below hb5)
    have hb5':=hbr'.trans (hb5.mono hbr'.size)
    have hsz5:wr.heap.size≤w5.heap.size:=hb5.size
    obtain ⟨c0,c1,c2,c3,c4,c5,c6⟩:=HB5.out
    clear hb5 hbr' HBr Hownr hokr1 c0 c2 c3 c4 c5 c6
    have hne:=Hown5.out.ne_ge (Qn w5.heap.size)
    have Hins:=Qh (Xlp I1 w1.heap.size _ rest ⟨e.path,cur⟩ w5.heap.size i 227 [S e.path,.int .i64 cur] _ (Hown5.out.alloc (.cells #[S e.path,.int .i64 cur] 227)) rfl (heap_alloc_new w5 (.cells #[S e.path,.int .i64 cur] 227)) hne (by omega) (by omega) (by simp;omega))
    clear hne
    go_wp2_with fail
    refine Hins.out.mono ?_
    rintro e8 w8 ⟨v8,rfl,hown8,hg8⟩
    have Hown8:=Qh hown8
    have Hg8:=Qh hg8
    clear hown8 hg8
    go_wp2
    go_ret2
    have hown5:=Hown5.out.alloc (.cells #[S e.path,.int .i64 cur] 227)
    have hb8:=Below.own (hb5'.alloc hb5'.size _) Hg8.out hown5 (Nat.le_of_lt hsz1) (by simp;omega)
    have hok8:Ok I1 w8:=Ok.own (hok5.alloc _) Hg8.out hown5 Hfr1.out
    obtain ⟨I',hI1,hI2,hI3,_⟩:=Hown8.out.freeze hok8 Hfr1.out
    rw [Hn.out]
    exact ⟨_,I',rfl,hb8,HI1.out.trans hI1 (Nat.le_of_lt hsz1),hI2,by rw [Hi.out];exact hI3⟩
   ·rw [e1] at Hix
    have Hi:=Qh (Xlm ⟨e.path,cur⟩ e2)
    clear e1 e2
    go_wp2_with fail
    refine Hix.out.mono ?_
    rintro e5 w5 ⟨rfl,hb5⟩
    have hok5:=hokr1.below (Qn _) hb5
    have HB5:=Qh (HBr.out.thru hb5)
    have Hown5:=Qh (Hownr.out.below hb5)
    have hb5':=hbr'.trans (hb5.mono hbr'.size)
    have hsz5:wr.heap.size≤w5.heap.size:=hb5.size
    obtain ⟨c0,c1,c2,c3,c4,c5,c6⟩:=HB5.out
    clear hb5 hbr' HBr Hownr hokr1 c0 c2 c3 c4 c5 c6
    have hne:=Hown5.out.ne_ge (Qn w5.heap.size)
    have Hins:=Qh (Xlp I1 w1.heap.size _ rest ⟨e.path,cur⟩ w5.heap.size rest.length 227 [S e.path,.int .i64 cur] _ (Hown5.out.alloc (.cells #[S e.path,.int .i64 cur] 227)) rfl (heap_alloc_new w5 (.cells #[S e.path,.int .i64 cur] 227)) hne (by omega) (by omega) (by simp;omega))
    clear hne
    go_wp2_with fail
    refine Hins.out.mono ?_
    rintro e8 w8 ⟨v8,rfl,hown8,hg8⟩
    have Hown8:=Qh hown8
    have Hg8:=Qh hg8
    clear hown8 hg8
    go_wp2
    go_ret2
    have hown5:=Hown5.out.alloc (.cells #[S e.path,.int .i64 cur] 227)
    have hb8:=Below.own (hb5'.alloc hb5'.size _) Hg8.out hown5 (Nat.le_of_lt hsz1) (by simp;omega)
    have hok8:Ok I1 w8:=Ok.own (hok5.alloc _) Hg8.out hown5 Hfr1.out
    obtain ⟨I',hI1,hI2,hI3,_⟩:=Hown8.out.freeze hok8 Hfr1.out
    rw [Hn.out]
    exact ⟨_,I',rfl,hb8,HI1.out.trans hI1 (Nat.le_of_lt hsz1),hI2,by rw [Hi.out];exact hI3⟩
end Go.Proofs.YtdodihnehppnmaaGreatDoor
