/- Lemmas for the claim's theorem;conditions: as each says. -/
import Derived.Test.YtkipnpjagcfcpaaGreatDoorE02
import Derived.Laws.EntriesVeiled
import Derived.Lib.MinMax
import Derived.Laws.CopyRow
set_option maxHeartbeats 0
set_option maxRecDepth 100000
set_option linter.all false
namespace Go.Proofs.YtkipnpjagcfcpaaGreatDoor
open Go.RowKit
variable{s:ae}{z:Int}{a:Nat}{p t:ae}{n:Nat}{P:Program}{w:World}
theorem Xs8{W W':World}{row:Option Nat}(hb:Below W.heap.size W W'):W.grownBy W' row:=⟨hb.os,hb.tape,hb.output,hb.size,fun k hk _=>hb.block k hk⟩
theorem Xrt(h:strOf s t n= .error z):(z !=0)=true:=by
 unfold strOf at h;split at h
 ·injection h with h;subst h;rfl
 ·split at h
  ·injection h with h;subst h;rfl
  ·split at h
   ·injection h with h;subst h;rfl
   ·cases h
theorem Xsv(h:numOf t n= .error z):(z !=0)=true:=by
 unfold numOf at h;split at h
 ·injection h with h;subst h;rfl
 ·split at h
  ·injection h with h;subst h;rfl
  ·cases h
theorem zy(h:rdStr s a= .error z):(z !=0)=true:=by
 unfold rdStr at h;cases hu:dK s a 58 with
 |error e=>
  rw[hu]at h;injection h with h
  subst h;rcases TZ hu with rfl|rfl<;>rfl
 |ok p=>rw[hu,aR]at h;exact Xrt h
theorem Eh(h:rdNum s a= .error z):(z !=0)=true:=by
 unfold rdNum at h;cases hu:dK s a 32 with
 |error e=>
  rw[hu]at h;injection h with h
  subst h;rcases TZ hu with rfl|rfl<;>rfl
 |ok p=>rw[hu,aR]at h;exact Xsv h
theorem Xb{most:Int}(h:ik most s a= .error z):(z !=0)=true:=by
 unfold ik at h;cases hu:rdNum s a with
 |error e=>rw[hu]at h;injection h with h;subst h;exact Eh hu
 |ok p=>
  rw[hu,aR]at h;split at h
  ·injection h with h;subst h;rfl
  ·cases h
theorem Xi1(I:IH)(hI:dQ I)(s:ae)(hs:s.length≤4294967280)(n ba a:Nat)(w:World)(hw:Ok I w)(hB:vC w n s ba)(hA:uh w ba a)(ha:a≤4294967280)(most x:Int)(b:Nat)(h:ik most s a= .ok (x,b)):
 Calls Tryz.prog 236 #[.int .i64 most,dG (n+2),dG (n+3)] w fun e w'=>e= .returned (.int .i64 x)∧uh w' ba b∧w.grownBy w' (some ba):=by
 have he:=TS h;have hn:rdNum s a= .ok (x,b):=by
  unfold ik at h;cases hu:rdNum s a with
  |error e=>rw[hu]at h;cases h
  |ok p=>
   rw[hu,aR]at h;split at h
   ·cases h
   ·exact h
 have Ei:=Qh (NN I hI s hs n ba a w hw hB hA ha x b hn);have c2:=cell0 hB.r2;have d1:decide (x<0)=false:=Qf (by omega);have d2:decide (most<x)=false:=Qf (by omega);clear h he hn hB hA;go_enter Tryz.func236,Tryz.ntmps236
 go_wp2_with fail
 refine Ei.O.mono ?_;rintro e w1 ⟨rfl,xL,hg1⟩;go_wp2;go_ret;exact⟨rfl,xL,hg1⟩
theorem Xg8(I:IH)(hI:dQ I)(s:ae)(hs:s.length≤4294967280)(n ba a:Nat)(w:World)(hw:Ok I w)(hB:vC w n s ba)(hA:uh w ba a)(ha:a≤4294967280)(most z:Int)(h:ik most s a= .error z):
 Calls Tryz.prog 236 #[.int .i64 most,dG (n+2),dG (n+3)] w fun e w'=>e=vU z∧w.grownBy w' (some ba):=by
 have c2:=cell0 hB.r2;unfold ik at h;cases hu:rdNum s a with
 |error e=>
  rw[hu]at h;injection h with h
  subst h;have Ei:=Qh (PR I hI s hs n ba a w hw hB hA ha e (Eh hu) hu);clear hu hB hA;go_enter Tryz.func236,Tryz.ntmps236
  go_wp2_with fail
  refine Ei.O.mono ?_;rintro e w1 ⟨rfl,au⟩;go_wp2;exact⟨rfl,rfl,Xs8 au⟩
 |ok p=>
  obtain⟨x,b⟩:=p;rw[hu,aR]at h;split at h
  ·rename_i k;injection h with h
   subst h;have Ei:=Qh (NN I hI s hs n ba a w hw hB hA ha x b hu);have Hb:=Qh hB;have hlt:=hB.lt;have k:x<0∨most<x:=k;have jU:decide (x<0)=true∨(decide (x<0)=false∧decide (most<x)=true):=by
    by_cases h0:x<0
    ·exact .inl (Qt h0)
    ·exact .inr ⟨Qf h0,Qt (by omega)⟩
   clear hu hB hA k;rcases jU with d1|⟨d1,d2⟩
   all_goals
    go_enter Tryz.func236,Tryz.ntmps236
    go_wp2_with fail
    refine Ei.O.mono ?_;rintro e w1 ⟨rfl,xL,hg1⟩;have c3:=cell0 (Hb.O.own hg1 (fun g q=>by injection q with q;omega)).r3;go_wp2_with fail
    refine(Xa 2 rfl _).mono ?_;rintro e w2 ⟨rfl,rfl⟩;go_wp2;exact⟨rfl,rfl,hg1⟩
  ·cases h
theorem Xu9{fn:Func}{p u q:Tmp}{ty:TypeId}(h:fn.results=#[.cell p ty,.tmp u,.tmp q])(tmps:Array Value)(P:Program)(w:World):
 (results fn tmps).run P w=
   ((asAddr (tmps.getD p undef)).run P w).andThen fun a w₁=>((loadVar ty a).run P w₁).andThen fun v w₂=> .ok (.tuple #[v,tmps.getD u undef,tmps.getD q undef]) w₂:=by
 simp only[results,h];simp[Sem.run_bind,Result.andThen]
section
variable (w:World) (a b c d:Array Value) (s t u v:TypeId)
theorem Xpy:((((w.alloc (.cells a s)).alloc (.cells b t)).alloc (.cells c u)).alloc (.cells d v)).heap[w.heap.size]?=some (.cells a s (0,0)):=by
 rw[Below.heap_alloc _ _ _ (by simp<;>omega),Below.heap_alloc _ _ _ (by simp<;>omega),Below.heap_alloc _ _ _ (by simp<;>omega),heap_alloc_new]
theorem Xpz:((((w.alloc (.cells a s)).alloc (.cells b t)).alloc (.cells c u)).alloc (.cells d v)).heap[w.heap.size+1]?=some (.cells b t (0,0)):=by
 have:=heap_alloc_new (w.alloc (.cells a s)) (.cells b t);rw[World.size_alloc]at this;rw[Below.heap_alloc _ _ _ (by simp<;>omega),Below.heap_alloc _ _ _ (by simp<;>omega),this]
theorem Xp0:((((w.alloc (.cells a s)).alloc (.cells b t)).alloc (.cells c u)).alloc (.cells d v)).heap[w.heap.size+2]?=some (.cells c u (0,0)):=by
 have:=heap_alloc_new ((w.alloc (.cells a s)).alloc (.cells b t)) (.cells c u);rw[World.size_alloc,World.size_alloc]at this;rw[Below.heap_alloc _ _ _ (by simp<;>omega),this]
theorem Xp1:((((w.alloc (.cells a s)).alloc (.cells b t)).alloc (.cells c u)).alloc (.cells d v)).heap[w.heap.size+3]?=some (.cells d v (0,0)):=by
 have:=heap_alloc_new (((w.alloc (.cells a s)).alloc (.cells b t)).alloc (.cells c u)) (.cells d v);rw[World.size_alloc,World.size_alloc,World.size_alloc]at this;exact this
end
theorem Xmz(s:ae)(ba:Nat)(w:World)(zt:ba<w.heap.size):
 Calls Tryz.prog 166 #[S s,dG ba] w fun e w'=>e= .returned (.tuple #[zW w.heap.size,Cc w.heap.size,cntF w.heap.size])∧vC w' w.heap.size s ba∧Below w.heap.size w w'∧w'.heap.size=w.heap.size+4:=by
 have hmf:∀(fn:Fn) (first cap:Array Value) (w:World),(Instr.makeFunc fn first cap).run Tryz.prog w= .ok (.func fn first cap) w:=fun _ _ _ _=>rfl;go_enter Tryz.func166,Tryz.ntmps166
 go_wp2;refine bodyPost_ret (v:= .tuple #[zW w.heap.size,Cc w.heap.size,cntF w.heap.size]) ?_ rfl ?_
 ·rw[Xu9 rfl];simp[asAddr,go_sem]
 ·refine⟨rfl,⟨?_,?_,?_,?_,zt⟩,?_,?_⟩
  ·exact Xpy w _ _ _ _ _ _ _ _
  ·exact Xpz w _ _ _ _ _ _ _ _
  ·exact Xp0 w _ _ _ _ _ _ _ _
  ·exact Xp1 w _ _ _ _ _ _ _ _
  ·exact((((Qb _ _).alloc (Qn _) _).alloc (by simp<;>omega) _).alloc (by simp<;>omega) _).alloc (by simp<;>omega) _
  ·simp
theorem Xk0(I:IH)(B:Nat)(v:Value)(l:List _)(x:_)(vb:Nat)(news:List Value)(w:World)(hv:aP jw 184 I w B v l)(hx:jw.rd I news x)
 (lS:∀j u,news[j]?=some u→w.cell? ⟨vb,j,none⟩=some u) (jd:(l.length+1)*24≤140737488355328) (hB:B≤w.heap.size):
 Calls Tryz.prog 205 #[v,.int .i64 l.length,.slice (some ⟨vb,0,none⟩) 1 1] w fun e w'=> ∃v',e= .returned v'∧aP jw 184 I w' B v' (l++[x])∧w.grownBy w' v.ownBlock:=by
 obtain⟨i0,hi,jY,qX,x9⟩:=info_parts TU;obtain⟨xs,bE,hL⟩:=hv;have HL:=Qh hL;have Hx:=Qh hx;have Ce:=Qh lS;have uU:maxLen=9223372036854775807:=rfl;have hlen:l.length≤4611686018427387904:=by omega
 clear hL hx lS;have jU:v= .slice none 0 0∧l.length=0∨ ∃g cap,v= .slice (some ⟨g,0,none⟩) l.length cap∧l.length≤cap∧cap≤9223372036854775807:=by
  rcases bE.2 with h|⟨g,cap,cur,h1,_,_,h2,h3,_⟩
  ·exact .inl h
  ·exact .inr ⟨g,cap,h1,h2,by rw[uU]at h3;exact h3⟩
 have PS:=Qh uU;clear uU;rcases jU with⟨rfl,h0⟩|⟨g,cap,rfl,dO,iR⟩
 ·have:l=[]:=List.eq_nil_of_length_eq_zero h0;subst this;go_enter Tryz.func205,Tryz.ntmps205
  go_wp2_with (at_builtin;refine wpList_append_own _ rfl _ _ 90 rfl B 184 i0 _ 2 24 Tryz.underlying90 hi jY qX x9 rfl (by decide) _ _ _ rfl bE ⟨vb,0,none⟩ 1 1 news rfl ?qc1 ?qc2 ?qc3 ?qc4 ?qc5 ?qc6 ?_)
  case qc1=>exact jw.len Hx.O
  case qc2=>intro j u hj;rw[Addr.add_lit,Nat.zero_add];exact Ce.O j u hj
  case qc3=>exact jw.one Hx.O
  case qc4=>rw[PS.O];simp
  case qc5=>simp
  case qc6=>exact hB
  intro v' w1 dz qK _;go_wp2;go_ret;exact⟨v',rfl,⟨_,dz,bS.append HL.O (bS.one Hx.O)⟩,qK⟩
 ·go_enter Tryz.func205,Tryz.ntmps205
  go_wp2_with (at_builtin;refine wpList_append_own _ rfl _ _ 90 rfl B 184 i0 _ 2 24 Tryz.underlying90 hi jY qX x9 rfl (by decide) _ _ _ rfl bE ⟨vb,0,none⟩ 1 1 news rfl (jw.len Hx.O) (fun j u hj=>by rw[Addr.add_lit,Nat.zero_add];exact Ce.O j u hj) (jw.one Hx.O) (by rw[PS.O];omega) jd hB ?_)
  all_goals
   intro v' w1 dz qK _;go_wp2;go_ret;exact⟨v',rfl,⟨_,by rw[List.length_append];exact dz,bS.append HL.O (bS.one Hx.O)⟩,qK⟩
theorem Xit(I:IH)(B g cap i:Nat)(l:List _)(x:_)(vb:Nat)(tb:TypeId)(news:List Value)(w:World)(hv:aP jw 184 I w B (.slice (some ⟨g,0,none⟩) l.length cap) l)(hx:jw.rd I news x)
 (rQ:w.heap[vb]?=some (.cells news.toArray tb (0,0))) (bZ:vb≠g) (hi:i<l.length) (pI:l.length+1≤cap) (iR:cap≤9223372036854775807):
 Calls Tryz.prog 205 #[.slice (some ⟨g,0,none⟩) l.length cap,.int .i64 i,.slice (some ⟨vb,0,none⟩) 1 1] w fun e w'=> ∃v',e= .returned v'∧aP jw 184 I w' B v' (l.take i++x::l.drop i)∧w.grownBy w' (some g):=by
 obtain⟨i0,CV,jY,qX,x9⟩:=info_parts TU;obtain⟨xs,⟨nL,bE⟩,hL⟩:=hv;rcases bE with⟨h0,_⟩|⟨g',cap',cur,h1,CW,hg,_,AP,iU,qJ⟩
 ·cases h0
 injection h1 with uS h1b MB
 injection uS with uS
 injection uS with uS
 subst uS MB;have eU:(Tryz.prog.info? 184).map (·.size)=some 2:=by rw[CV];simp[qX]
 have vO:news.length=2:=jw.len hx;have wJ:=jw.one hx;have ui:xs.length=l.length*2:=nL;have lN:cur.size=cap*2:=iU;have mI:cur.toList.take xs.length=xs:=by rw[nL];exact qJ
 have hov:∀lb cb,(callFunc 264 #[.slice (some ⟨vb,0,none⟩) 1 1,.slice (some ⟨g,(i+1)*2,none⟩) lb cb]).run Tryz.prog w= .ok (.value (.bool false)) w:=fun lb cb=>by
  rw[run_callFunc_extern Tryz.func264 (by kernel_rfl) (by kernel_rfl) (by kernel_rfl) (e:=Extern.SlicesOverlaps.overlaps #[90,90] #[4]) (by kernel_rfl),
   Lib.run_overlaps_apart w 90 4 184 Tryz.underlying90 2 (fun w=>by simp[go_sem]) ⟨vb,0,none⟩ ⟨g,(i+1)*2,none⟩ 1 1 lb cb bZ tb 184 2 cur.size (by simp[World.shape?,rQ,vO]) (by simp[World.shape?,hg]) (by omega) (by simp[World.frozen?,rQ]) (by simp[World.frozen?,rQ])]
  rfl
 obtain⟨kC,qA⟩:∃c,c=over cur (i*2+2) (xs.drop (i*2)):=⟨_,rfl⟩;have pG:kC.size=cur.size:=by rw[qA];exact Db _ _ _ (by rw[List.length_drop];omega)
 obtain⟨ry,qB⟩:∃c,c=over kC (i*2) news:=⟨_,rfl⟩;have pX:ry.size=kC.size:=by rw[qB];exact Db _ _ _ (by omega)
 have je:ry.toList.take ((l.length+1)*2)=xs.take (i*2)++news++xs.drop (i*2):=by
  have:=insert_row cur xs news (i*2) 2 (by omega) mI vO (by omega);rw[←qA,←qB]at this;rw[show(l.length+1)*2=xs.length+2 by omega];exact this
 have AQ:∀ty dc sc,(Builtin.copy_ #[90,90] ty #[.slice (some ⟨g,(i+1)*2,none⟩) (l.length-i) dc,.slice (some ⟨g,i*2,none⟩) (l.length+1-i) sc]).run Tryz.prog w.drew= .ok (goInt ((l.length-i:Nat):Int)) (w.drew.setRow g kC):=fun ty dc sc=>by
  have h:=FP (P:=Tryz.prog) w.drew 90 90 ty 184 2 g ((i+1)*2) (l.length-i) dc ⟨g,i*2,none⟩ (l.length+1-i) sc cur 184 (xs.drop (i*2)) Tryz.underlying90 eU hg (by rw[List.length_drop];simp only[Nat.min_def];split<;>omega)
   (fun j u hj=>by
     rw[Addr.add_lit];rw[List.getElem?_drop,←mI,List.getElem?_take]at hj;split at hj
     ·rw[World.cell?_drew,cell_of_row w g _ cur _ _ hg,←Array.getElem?_toList];exact hj
     ·cases hj) (by rw[List.length_drop];omega) (fun u hu=>hL.oneCell u (List.mem_of_mem_drop hu))
  rw[h,show Nat.min (l.length+1-i) (l.length-i)=l.length-i by simp only[Nat.min_def];split<;>omega,qA];rw[show(i+1)*2=i*2+2 by omega];rfl
 have hg1:(w.drew.setRow g kC).heap[g]?=some (.cells kC 184 (0,0)):=setRow_heap w.drew g cur kC _ _ hg;have AR:∀ty dc,(Builtin.copy_ #[90,90] ty #[.slice (some ⟨g,i*2,none⟩) (l.length+1-i) dc,.slice (some ⟨vb,0,none⟩) 1 1]).run Tryz.prog (w.drew.setRow g kC)= .ok (goInt 1) ((w.drew.setRow g kC).setRow g ry):=fun ty dc=>by
  have h:=FP (P:=Tryz.prog) (w.drew.setRow g kC) 90 90 ty 184 2 g (i*2) (l.length+1-i) dc ⟨vb,0,none⟩ 1 1 kC 184 news Tryz.underlying90 eU hg1 (by rw[vO];simp only[Nat.min_def];split<;>omega)
   (fun j u hj=>by
     rw[Addr.add_lit,Nat.zero_add];have:(w.drew.setRow g kC).heap[vb]?=some (.cells news.toArray tb (0,0)):=by rw[setRow_other _ _ _ _ bZ];exact rQ
     rw[cell_of_row _ vb j _ _ _ this];simpa using hj) (by omega) wJ
  rw[h,show Nat.min 1 (l.length+1-i)=1 by simp only[Nat.min_def];split<;>omega,qB];rfl
 have sU:=Qh (show(xs.take (i*2)++news++xs.drop (i*2)).length=(l.length+1)*2 by simp;omega);have zS:=Qh (show ry.size=cap*2 by omega);have om:=Qh je;have HL:=Qh hL;have Hx:=Qh hx;have uj:=Qh hg1;have au:¬(cap=i+1):=by omega
 have aF:¬(cap=i):=by omega
 clear je hL hx hg1 qA qB nL ui iU lN qJ mI vO wJ rQ AP hg;have uN:IntKind.i64.wrap ((i:Int)+1)=(i:Int)+1:=IntWalk.i64_in _ (by omega);have zg:0≤(i:Int)+1:=by omega
 have oP:((i:Int)+1).toNat=i+1:=by omega
 have BH:i≤l.length:=by omega
 have Jp:(i:Int)≤(l.length:Int)+1:=by omega
 go_enter Tryz.func205,Tryz.ntmps205
 go_wp2_with (simp only[hov])
 go_region_law (refine step_copy_runI rfl _ _ 90 90 rfl _ _ (by simp[Act.eval,Act.put]) (by simp[Act.eval,Act.put]) (AQ _ _ _) ?_)
 go_wp2_with (at_builtin;refine wpList_copy_runI _ rfl _ _ 90 90 rfl _ _ rfl rfl (AR _ _) ?_)
 go_ret;have BJ:(l.take i++x::l.drop i).length=l.length+1:=by simp;omega
 refine⟨_,rfl,?_,?_⟩
 ·unfold aP;rw[BJ];refine⟨xs.take (i*2)++news++xs.drop (i*2),⟨sU.O,.inr ⟨g,cap,ry,rfl,CW,setRow_heap _ g kC ry _ _ uj.O,by omega,by unfold maxLen;omega,zS.O,om.O⟩⟩,?_⟩;have:=((HL.O.take i).append (bS.one Hx.O)).append (HL.O.drop i);rwa[show l.take i++[x]++l.drop i=l.take i++x::l.drop i by simp]at this
 ·have h0:w.grownBy w.drew (some g):=⟨rfl,rfl,rfl,Qn _,fun _ _ _=>rfl⟩;exact Nw (Nw h0 BP) BP
theorem Xji(I:IH)(B g cap i:Nat)(l:List _)(x:_)(vb:Nat)(tb:TypeId)(news:List Value)(w:World)(hv:aP jw 184 I w B (.slice (some ⟨g,0,none⟩) l.length cap) l)(hx:jw.rd I news x)
 (rQ:w.heap[vb]?=some (.cells news.toArray tb (0,0))) (hi:i<l.length) (pI:cap<l.length+1) (jd:(l.length+1)*24≤140737488355328) (hB:B≤w.heap.size):
 Calls Tryz.prog 205 #[.slice (some ⟨g,0,none⟩) l.length cap,.int .i64 i,.slice (some ⟨vb,0,none⟩) 1 1] w fun e w'=> ∃v',e= .returned v'∧aP jw 184 I w' B v' (l.take i++x::l.drop i)∧w.grownBy w' (some g):=by
 obtain⟨i0,CV,jY,qX,x9⟩:=info_parts TU;obtain⟨xs,⟨nL,bE⟩,hL⟩:=hv;rcases bE with⟨h0,_⟩|⟨g',cap',cur,h1,CW,hg,IR,AP,iU,qJ⟩
 ·cases h0
 injection h1 with uS h1b MB
 injection uS with uS
 injection uS with uS
 subst uS MB;have eU:(Tryz.prog.info? 184).map (·.size)=some 2:=by rw[CV];simp[qX]
 have vO:news.length=2:=jw.len hx;have wJ:=jw.one hx;have ui:xs.length=l.length*2:=nL;have lN:cur.size=cap*2:=iU;have mI:cur.toList.take xs.length=xs:=by rw[nL];exact qJ
 have hgw:g<w.heap.size:=(Qg hg);have hvw:vb<w.heap.size:=(Qg rQ);have pM:∀(j:Nat) u,xs[j]?=some u→w.cell? ⟨g,j,none⟩=some u:=fun j u hj=>by
  rw[←mI,List.getElem?_take]at hj;split at hj
  ·rw[cell_of_row w g _ cur _ _ hg,←Array.getElem?_toList];exact hj
  ·cases hj
 have hold:(Builtin.firstCells i0.size i (.slice (some ⟨g,0,none⟩) i cap)).run Tryz.prog w.drew= .ok (xs.take (i*2)).toArray w.drew:=
  run_firstCells_some w.drew i0.size i ⟨g,0,none⟩ i cap (xs.take (i*2)) (by rw[qX,List.length_take];omega) (fun j u hj=>by
   rw[Addr.add_lit,Nat.zero_add];rw[List.getElem?_take]at hj;split at hj
   ·exact pM j u hj
   ·cases hj)
 obtain⟨G,hG⟩:∃G,G=grownCap w (l.length+1) cap 184:=⟨_,rfl⟩;have hGn:l.length+1≤G:=by rw[hG];exact grownCap_ge w _ _ _
 have aat:G≤9223372036854775807:=by
  have:=grownCap_le_maxLen w (l.length+1) cap 184 (by unfold maxLen;omega);rw[←hG]at this;unfold maxLen at this;omega
 obtain⟨z,hz⟩:∃z,i0.zero=some z:=⟨_,jY⟩;have Fv:z.cells.size=2:=by rw[hz]at jY;cases jY;rfl
 obtain⟨ROW,xM⟩:∃ROW:Array Value,ROW=(xs.take (i*2)).toArray++Builtin.zeroCells z.cells (l.length+1-i)++Builtin.zeroCells z.cells (G-(l.length+1)):=⟨_,rfl⟩;have hRs:ROW.size=G*2:=by
  rw[xM,Array.size_append,Array.size_append,size_zeroCells,size_zeroCells,Fv];simp;omega
 have PT:ROW.toList.take (i*2)=xs.take (i*2):=by
  rw[xM,Array.toList_append,Array.toList_append,List.append_assoc,List.take_append_of_le_length (by simp;omega),List.take_of_length_le (by simp;omega)]
 have SB:∀ty,(Builtin.append_ #[90,3] ty #[.slice (some ⟨g,0,none⟩) i cap,.int .i64 ((l.length:Int)+1-(i:Int))]).run Tryz.prog w=
  .ok (.slice (some ⟨w.heap.size,0,none⟩) (l.length+1) G) (w.drew.alloc (.cells ROW 184)):=fun ty=>by
  have h:=Lib.run_append_grow_zeros w 90 3 ty 184 i0 z .i64 .i64 Tryz.underlying90 Tryz.underlying3 CV hz (some ⟨g,0,none⟩) i cap (xs.take (i*2)) hold (l.length+1-i) (by omega) (by rw[qX];omega) (by omega) (by omega) (by rw[x9];omega) (by rw[x9,show i+(l.length+1-i)=l.length+1 by omega];exact growslice_fits pI jd);rw[show i+(l.length+1-i)=l.length+1 by omega,←hG,←xM]at h;rw[show(l.length:Int)+1-(i:Int)=((l.length+1-i:Nat):Int) by omega];exact h
 obtain⟨jK,qL⟩:∃c,c=over ROW (i*2) news:=⟨_,rfl⟩;have pX:jK.size=ROW.size:=by rw[qL];exact Db _ _ _ (by omega)
 obtain⟨oW,qM⟩:∃c,c=over jK (i*2+2) (xs.drop (i*2)):=⟨_,rfl⟩;have AU:oW.size=jK.size:=by rw[qM];exact Db _ _ _ (by rw[List.length_drop];omega)
 have je:oW.toList.take ((l.length+1)*2)=xs.take (i*2)++news++xs.drop (i*2):=by
  have:=Xir ROW xs news (i*2) 2 (by omega) PT vO (by omega);rw[←qL,←qM]at this;rw[show(l.length+1)*2=xs.length+2 by omega];exact this
 obtain⟨W1,AV⟩:∃W1,W1=w.drew.alloc (.cells ROW 184):=⟨_,rfl⟩;have ME:W1.heap[w.heap.size]?=some (.cells ROW 184 (0,0)):=by rw[AV];exact heap_alloc_new w.drew _
 have MG:∀b,b<w.heap.size→W1.heap[b]?=w.heap[b]? :=fun b hb=>by rw[AV];exact Below.heap_alloc w.drew _ b hb
 rw[←AV]at SB;have MH:∀ty dc,(Builtin.copy_ #[90,90] ty #[.slice (some ⟨w.heap.size,i*2,none⟩) (l.length+1-i) dc,.slice (some ⟨vb,0,none⟩) 1 1]).run Tryz.prog W1= .ok (goInt 1) (W1.setRow w.heap.size jK):=fun ty dc=>by
  have h:=FP (P:=Tryz.prog) W1 90 90 ty 184 2 w.heap.size (i*2) (l.length+1-i) dc ⟨vb,0,none⟩ 1 1 ROW 184 news Tryz.underlying90 eU ME (by rw[vO];simp only[Nat.min_def];split<;>omega)
   (fun j u hj=>by
     rw[Addr.add_lit,Nat.zero_add,cell_of_row _ vb j _ _ _ ((MG vb hvw).trans rQ)];simpa using hj) (by omega) wJ
  rw[h,show Nat.min 1 (l.length+1-i)=1 by simp only[Nat.min_def];split<;>omega,qL];rfl
 have KI:(W1.setRow w.heap.size jK).heap[w.heap.size]?=some (.cells jK 184 (0,0)):=setRow_heap W1 w.heap.size ROW jK _ _ ME;have MI:∀ty dc sc,(Builtin.copy_ #[90,90] ty #[.slice (some ⟨w.heap.size,(i+1)*2,none⟩) (l.length-i) dc,.slice (some ⟨g,i*2,none⟩) (l.length-i) sc]).run Tryz.prog (W1.setRow w.heap.size jK).drew= .ok (goInt ((l.length-i:Nat):Int)) ((W1.setRow w.heap.size jK).drew.setRow w.heap.size oW):=fun ty dc sc=>by
  have h:=FP (P:=Tryz.prog) (W1.setRow w.heap.size jK).drew 90 90 ty 184 2 w.heap.size ((i+1)*2) (l.length-i) dc ⟨g,i*2,none⟩ (l.length-i) sc jK 184 (xs.drop (i*2)) Tryz.underlying90 eU KI (by rw[List.length_drop];simp only[Nat.min_def];split<;>omega)
   (fun j u hj=>by
     rw[Addr.add_lit];rw[List.getElem?_drop]at hj;have hgg:(W1.setRow w.heap.size jK).heap[g]?=some (.cells cur 184 (0,0)):=by rw[setRow_other _ _ _ _ (by omega),MG g hgw];exact hg
     rw[World.cell?_drew,cell_of_row _ g _ cur _ _ hgg,←cell_of_row w g _ cur _ _ hg];exact pM _ u hj) (by rw[List.length_drop];omega) (fun u hu=>hL.oneCell u (List.mem_of_mem_drop hu))
  rw[h,show Nat.min (l.length-i) (l.length-i)=l.length-i by simp only[Nat.min_def];split<;>omega,qM];rw[show(i+1)*2=i*2+2 by omega];rfl
 have sU:=Qh (show(xs.take (i*2)++news++xs.drop (i*2)).length=(l.length+1)*2 by simp;omega);have zS:=Qh (show oW.size=G*2 by omega);have om:=Qh je;have HL:=Qh hL;have Hx:=Qh hx;have Xc:=Qh KI;have OL:=Qh AV;have au:¬(G=i+1):=by omega
 have aF:¬(G=i):=by omega
 have cO:¬(cap=i):=by omega
 clear je hL hx KI ME qL qM xM hRs PT nL ui iU lN qJ mI vO wJ rQ AP hg hold pM MG AV hG hz jY Fv pX AU;have uN:IntKind.i64.wrap ((i:Int)+1)=(i:Int)+1:=IntWalk.i64_in _ (by omega);have zg:0≤(i:Int)+1:=by omega
 have oP:((i:Int)+1).toNat=i+1:=by omega
 have BH:i≤l.length:=by omega
 have Jp:(i:Int)≤(l.length:Int)+1:=by omega
 go_enter Tryz.func205,Tryz.ntmps205
 go_wp2_with (first
  |(at_builtin;refine Lib.wpList_append_run _ rfl _ _ _ _ rfl _ _ rfl rfl _ _ (SB _) ?_)
  |(at_builtin;refine wpList_copy_runI _ rfl _ _ 90 90 rfl _ _ rfl rfl (MH _ _) ?_))
 go_region_law (refine step_copy_runI rfl _ _ 90 90 rfl _ _ (by simp[Act.eval,Act.put]) (by simp[Act.eval,Act.put]) (MI _ _ _) ?_)
 go_wp2;go_ret;have BJ:(l.take i++x::l.drop i).length=l.length+1:=by simp;omega
 refine⟨_,rfl,?_,?_⟩
 ·unfold aP;rw[BJ];refine⟨xs.take (i*2)++news++xs.drop (i*2),⟨sU.O,.inr ⟨w.heap.size,G,oW,rfl,hB,setRow_heap _ w.heap.size jK oW _ _ Xc.O,hGn,by unfold maxLen;omega,zS.O,om.O⟩⟩,?_⟩;have:=((HL.O.take i).append (bS.one Hx.O)).append (HL.O.drop i);rwa[show l.take i++[x]++l.drop i=l.take i++x::l.drop i by simp]at this
 ·rw[OL.O];exact⟨rfl,rfl,rfl,by simp,fun k hk _=>by
   rw[setRow_other _ _ _ _ (by omega)];show((w.drew.alloc (.cells ROW 184)).setRow w.heap.size jK).heap[k]?=_;rw[setRow_other _ _ _ _ (by omega)];exact Below.heap_alloc w.drew _ k hk⟩
theorem Xmn(I:IH)(B:Nat)(v:Value)(l:List _)(x:_)(vb i:Nat)(tb:TypeId)(news:List Value)(w:World)(hv:aP jw 184 I w B v l)(hx:jw.rd I news x)
 (rQ:w.heap[vb]?=some (.cells news.toArray tb (0,0))) (bZ:v.ownBlock≠some vb) (hi:i≤l.length) (jd:(l.length+1)*24≤140737488355328) (hB:B≤w.heap.size):
 Calls Tryz.prog 205 #[v,.int .i64 i,.slice (some ⟨vb,0,none⟩) 1 1] w fun e w'=> ∃v',e= .returned v'∧aP jw 184 I w' B v' (l.take i++x::l.drop i)∧w.grownBy w' v.ownBlock:=by
 by_cases he:i=l.length
 ·subst he;rw[List.take_length,List.drop_length];exact Xk0 I B v l x vb news w hv hx (fun j u hj=>by rw[cell_of_row w vb j _ _ _ rQ];simpa using hj) jd hB
 ·have jU:∃g cap,v= .slice (some ⟨g,0,none⟩) l.length cap∧cap≤maxLen:=by
   obtain⟨xs,⟨_,bE⟩,_⟩:=hv;rcases bE with⟨_,h⟩|⟨g,cap,cur,h1,_,_,_,h3,_⟩
   ·omega
   ·exact⟨g,cap,h1,h3⟩
  obtain⟨g,cap,rfl,iR⟩:=jU;by_cases hr:l.length+1≤cap
  ·exact Xit I B g cap i l x vb tb news w hv hx rQ (fun e=>bZ (by rw[e];rfl)) (by omega) hr (by unfold maxLen at iR;omega)
  ·exact Xji I B g cap i l x vb tb news w hv hx rQ (by omega) (by omega) jd hB
theorem Xmk(h:Ho):∀{l:List Ho},l.any (fun x=>decide (0<iP x.p h.p))=false→jk h l=l.take l.length++h::l.drop l.length
 | [],_=>rfl
 |x::l,hn=>by
  rw[List.any_cons,Bool.or_eq_false_iff]at hn;have hx:ji (els h.p) (els x.p)=false:=by
   have:=of_decide_eq_false hn.1;cases k:ji (els h.p) (els x.p)with
   |false=>rfl
   |true=>
    exfalso;apply this;unfold iP;rw[Ti k,k];simp
  rw[jk,if_neg (by simp[hx]),Xmk h hn.2];simp
theorem Xpw(h:Ho):∀{l:List Ho} {i:Nat} (hi:i<l.length),decide (0<iP l[i].p h.p)=true→(l.take i).any (fun x=>decide (0<iP x.p h.p))=false→jk h l=l.take i++h::l.drop i
 | [],_,hi,_,_=>absurd hi (by simp)
 |x::l,0,_,hp,_=>by
  have hx:ji (els h.p) (els x.p)=true:=by
   have:=of_decide_eq_true hp;have h2:0<iP x.p h.p:=this;unfold iP at h2;split at h2
   ·omega
   ·split at h2
    ·assumption
    ·omega
  rw[jk,if_pos hx];rfl
 |x::l,i+1,hi,hp,hn=>by
  rw[List.take_succ_cons,List.any_cons,Bool.or_eq_false_iff]at hn;have hx:ji (els h.p) (els x.p)=false:=by
   have:=of_decide_eq_false hn.1;cases k:ji (els h.p) (els x.p)with
   |false=>rfl
   |true=>
    exfalso;apply this;unfold iP;rw[Ti k,k];simp
  rw[jk,if_neg (by simp[hx]),Xpw h (l:=l) (by simpa using hi) hp hn.2];rfl
theorem Xnq{l:List Ho}{k:Nat}{cur U:Int}{x:Ho}(hk:k<l.length)(hx:l[k]=x)(h:gT p (l.drop k) cur=U):gT p (l.drop (k+1)) (if x.p=p then max cur x.u else cur)=U:=by
 rw[List.drop_eq_getElem_cons hk,hx,gT]at h;exact h
theorem Xnj{l:List Ho}{e:aG}{d:Int}(hk:e.ai=5):appH l e d=(jk ⟨e.af,gT e.af (fF l d) (digits e.target)⟩ (ii (fF l d) e.af),0):=by rw[appH,if_pos hk]
theorem Xwq{l:List Ho}{e:aG}{d:Int}(hk:e.ai=6)(h:(ii (fF l d) e.af).length≠(fF l d).length):appH l e d=(ii (fF l d) e.af,0):=by
 rw[appH,if_neg (by omega),if_pos hk,if_pos];cases hh:wN (fF l d) e.af with
 |true=>rfl
 |false=>exact absurd (ym.2 hh) h
theorem Xum{l:List Ho}{e:aG}{d:Int}(hk:e.ai=6)(h:(ii (fF l d) e.af).length=(fF l d).length):appH l e d=([],9):=by
 rw[appH,if_neg (by omega),if_pos hk,if_neg];rw[ym.1 h];simp
theorem Xql{l:List Ho}{e:aG}{d:Int}(h5:e.ai≠5)(h6:e.ai≠6):appH l e d=(fF l d,0):=by
 rw[appH,if_neg h5,if_neg h6]
theorem Xd(h:fU s=true):s.length≤10:=by
 unfold fU at h;simp only[Bool.and_eq_true,decide_eq_true_eq]at h;exact h.1.1.1.2
theorem Ud(p:ae)(b:Nat)(l:List Ho)(w:World)(hc:w.cell? ⟨b,1,none⟩=some (S p)):rX 201 #[.pointer (some ⟨b,0,none⟩)] l (fun h=> !(h.p==p)) (Below w.heap.size w):=by
 intro x hx W hW;have JX:=fP (.cells #[S x.p,.int .i64 x.u] 184) (dh hW hc);clear hc;show Calls Tryz.prog _ #[KD x,.pointer (some ⟨b,0,none⟩)] W _;go_enter Tryz.func201,Tryz.ntmps201
 go_wp2;go_ret;exact⟨rfl,(Qb _ _).alloc (Qn _) _⟩
theorem Xr3(I:IH)(hI:dQ I)(p:ae)(hp:p.length≤4294967280)(b:Nat)(l:List Ho)(hl:∀h∈l,h.p.length≤4294967280)(w:World)(hw:Ok I w)(hc:w.cell? ⟨b,1,none⟩=some (S p)):rX 204 #[.pointer (some ⟨b,0,none⟩)] l (fun h=>decide (0<iP h.p p)) (Below w.heap.size w):=by
 intro x hx W hW;have Hu:=Qh (Ws I hI x.p p (hl x hx) hp (W.alloc (.cells #[S x.p,.int .i64 x.u] 184)) ((hw.below (Qn _) hW).alloc _));have JX:=fP (.cells #[S x.p,.int .i64 x.u] 184) (dh hW hc);clear hc;show Calls Tryz.prog _ #[KD x,.pointer (some ⟨b,0,none⟩)] W _;go_enter Tryz.func204,Tryz.ntmps204
 go_wp2_with fail
 refine Hu.O.mono ?_;rintro e w1 ⟨rfl,au⟩;go_wp2;go_ret;exact⟨rfl,((Qb _ _).alloc (Qn _) _).trans (au.mono (by simp))⟩
theorem Xu7(I:IH)(hI:dQ I)(v:Value)(l:List Ho)(hv:bf jw I v l)(hk:tN l)(hn:l.length≤100000)(e:aG)(va vx:Value)(eP:bf lT I va e.ag)(eT:bf mr I vx e.ak)(he:az e=0)(d:Int)(w:World)(hw:Ok I w):
 Calls Tryz.prog 130 #[v,fB e va vx,.int .i64 d] w (yh jw I w (appH l e d).1 (appH l e d).2):=by
 have Ha:=Qh (fun w hw=>WS I v l hv hn d w hw);have HG:=Qh hI;have nH:e.af.length≤4294967280:=by have:=(BL (FO he).2.2.1).1;omega
 have Hd:=Qh (fun h5=>VT he h5);have HE:=Qh (@Xnj l e d);have HR:=Qh (@Xwq l e d);have HM:=Qh (@Xum l e d);have HL:=Qh (@Xql l e d);have nM:(fF l d).length≤100000:=Nat.le_trans (List.length_filter_le _ _) hn;have PU:=Qh (hk.act d);have Mv:(ii (fF l d) e.af).length≤(fF l d).length:=List.length_filter_le _ _;have KJ:=Qh ((hk.act d).rest e.af);have iV:(fF l d).filter (fun h=> !(h.p==e.af))=ii (fF l d) e.af:=rfl;obtain⟨ao,cap,rfl,dO,iR,_⟩:=id hv;obtain⟨aa,ca,rfl,_,_,_⟩:=id eP;obtain⟨ax,cx,rfl,_,_,_⟩:=id eT;clear hv eP eT hI hk he;generalize hra:ii (fF l d) e.af=rest at Mv KJ iV HE HR HM;generalize hac:fF l d=act at Ha nM PU Mv iV HE HR HM HL;have lH:=Qh iV;clear hra hac iV;by_cases h5:e.ai=5;case neg=>
  have k5:((e.ai:Int)==5)=false:=by simpa using h5
  by_cases h6:e.ai=6;case neg=>
   have k6:((e.ai:Int)==6)=false:=by simpa using h6
   have Hn:=Qh (HL.O h5 h6);clear h5 h6;go_enter Tryz.func130,Tryz.ntmps130
   go_wp2_with fail
   refine(Ha.O _ (hw.alloc _)).mono ?_;rintro e1 w1 ⟨v1,rfl,dz,au⟩;have iq:=Qh (cB (e:=e) rfl au);have jG:Ok I w1:=(hw.alloc _).below (Qn _) au;have bY:w.heap.size<w1.heap.size:=by have:=au.size;simp at this;omega
   have eY:∀b,w.heap.size≤b→I b=none:=fun b hb=>hw.fresh hb;have av:=((Qb w.heap.size w).alloc (Qn _) (.cells #[.int .i64 e.ai,S e.af,.slice aa e.ag.length ca,S e.target,.int .i64 e.size,S e.aj,.slice ax e.ak.length cx] 35)).trans (au.mono (by simp));obtain⟨I1,jH,aD,jy,_⟩:=(dz.lower (show w.heap.size≤_ by simp)).freeze jG eY;have JY:=Qh jH;have uk:=Qh jy;have xe:=Qh (HG.O.mono (jH.keep hw (Qn _)));have Hs:=Qh (PN I1 v1 act jy nM _ _ _ w1 aD (fun _ _=>by kernel_rfl) (Ud e.af w.heap.size act w1 iq.O.c1));obtain⟨a1,NP,rfl,AQ,MJ,_⟩:=id jy;clear dz au eY jy jH jG;go_wp2_with fail
   refine Hs.O.mono ?_;rintro e2 w2 ⟨v2,rfl,fE,aF⟩;rw[lH.O]at fE;have ul:∀b,w1.heap.size≤b→I1 b=none:=fun b hb=>aD.fresh hb;have um:=Qh ul;have aQ:Ok I1 w2:=aD.below (Qn _) aF;have oh:=Qh (iq.O.aA aF);have aL:=av.trans (aF.mono av.size);have fO:w1.heap.size≤w2.heap.size:=aF.size;clear aF av iq aD Hs ul;obtain⟨I2,jW,qC,lI,_⟩:=fE.freeze aQ um.O;have qD:=Qh fE;have Vm:=Qh jW;have vD:=Qh lI;obtain⟨a2,cp2,rfl,AR,vM,_⟩:=id lI;clear fE lI jW;obtain⟨c0,c1,c2,c3,c4,c5,c6⟩:=oh.O;go_wp2;go_ret2;rw[Hn.O];exact⟨_,I1,rfl,aL,JY.O,aQ,uk.O⟩
  have k6:((e.ai:Int)==6)=true:=by simpa using h6
  by_cases CL:rest.length=act.length
  ·have Hn:=Qh (HM.O h6 CL);have q1:((rest.length:Int)==act.length)=true:=by rw[CL];simp
   clear h5 h6 CL;go_enter Tryz.func130,Tryz.ntmps130
   go_wp2_with fail
   refine(Ha.O _ (hw.alloc _)).mono ?_;rintro e1 w1 ⟨v1,rfl,dz,au⟩;have iq:=Qh (cB (e:=e) rfl au);have jG:Ok I w1:=(hw.alloc _).below (Qn _) au;have bY:w.heap.size<w1.heap.size:=by have:=au.size;simp at this;omega
   have eY:∀b,w.heap.size≤b→I b=none:=fun b hb=>hw.fresh hb;have av:=((Qb w.heap.size w).alloc (Qn _) (.cells #[.int .i64 e.ai,S e.af,.slice aa e.ag.length ca,S e.target,.int .i64 e.size,S e.aj,.slice ax e.ak.length cx] 35)).trans (au.mono (by simp));obtain⟨I1,jH,aD,jy,_⟩:=(dz.lower (show w.heap.size≤_ by simp)).freeze jG eY;have JY:=Qh jH;have uk:=Qh jy;have xe:=Qh (HG.O.mono (jH.keep hw (Qn _)));have Hs:=Qh (PN I1 v1 act jy nM _ _ _ w1 aD (fun _ _=>by kernel_rfl) (Ud e.af w.heap.size act w1 iq.O.c1));obtain⟨a1,NP,rfl,AQ,MJ,_⟩:=id jy;clear dz au eY jy jH jG;go_wp2_with fail
   refine Hs.O.mono ?_;rintro e2 w2 ⟨v2,rfl,fE,aF⟩;rw[lH.O]at fE;have ul:∀b,w1.heap.size≤b→I1 b=none:=fun b hb=>aD.fresh hb;have um:=Qh ul;have aQ:Ok I1 w2:=aD.below (Qn _) aF;have oh:=Qh (iq.O.aA aF);have aL:=av.trans (aF.mono av.size);have fO:w1.heap.size≤w2.heap.size:=aF.size;clear aF av iq aD Hs ul;obtain⟨I2,jW,qC,lI,_⟩:=fE.freeze aQ um.O;have qD:=Qh fE;have Vm:=Qh jW;have vD:=Qh lI;obtain⟨a2,cp2,rfl,AR,vM,_⟩:=id lI;clear fE lI jW;obtain⟨c0,c1,c2,c3,c4,c5,c6⟩:=oh.O;go_wp2;go_ret2;rw[Hn.O];exact⟨_,I1,rfl,aL,JY.O,aQ,bf.nil _ _⟩
  ·have Hn:=Qh (HR.O h6 CL);have q1:((rest.length:Int)==act.length)=false:=by
    have:((rest.length:Int))≠act.length:=by omega
    simpa using this
   clear h5 h6 CL;go_enter Tryz.func130,Tryz.ntmps130
   go_wp2_with fail
   refine(Ha.O _ (hw.alloc _)).mono ?_;rintro e1 w1 ⟨v1,rfl,dz,au⟩;have iq:=Qh (cB (e:=e) rfl au);have jG:Ok I w1:=(hw.alloc _).below (Qn _) au;have bY:w.heap.size<w1.heap.size:=by have:=au.size;simp at this;omega
   have eY:∀b,w.heap.size≤b→I b=none:=fun b hb=>hw.fresh hb;have av:=((Qb w.heap.size w).alloc (Qn _) (.cells #[.int .i64 e.ai,S e.af,.slice aa e.ag.length ca,S e.target,.int .i64 e.size,S e.aj,.slice ax e.ak.length cx] 35)).trans (au.mono (by simp));obtain⟨I1,jH,aD,jy,_⟩:=(dz.lower (show w.heap.size≤_ by simp)).freeze jG eY;have JY:=Qh jH;have uk:=Qh jy;have xe:=Qh (HG.O.mono (jH.keep hw (Qn _)));have Hs:=Qh (PN I1 v1 act jy nM _ _ _ w1 aD (fun _ _=>by kernel_rfl) (Ud e.af w.heap.size act w1 iq.O.c1));obtain⟨a1,NP,rfl,AQ,MJ,_⟩:=id jy;clear dz au eY jy jH jG;go_wp2_with fail
   refine Hs.O.mono ?_;rintro e2 w2 ⟨v2,rfl,fE,aF⟩;rw[lH.O]at fE;have ul:∀b,w1.heap.size≤b→I1 b=none:=fun b hb=>aD.fresh hb;have um:=Qh ul;have aQ:Ok I1 w2:=aD.below (Qn _) aF;have oh:=Qh (iq.O.aA aF);have aL:=av.trans (aF.mono av.size);have fO:w1.heap.size≤w2.heap.size:=aF.size;clear aF av iq aD Hs ul;obtain⟨I2,jW,qC,lI,_⟩:=fE.freeze aQ um.O;have qD:=Qh fE;have Vm:=Qh jW;have vD:=Qh lI;obtain⟨a2,cp2,rfl,AR,vM,_⟩:=id lI;clear fE lI jW;obtain⟨c0,c1,c2,c3,c4,c5,c6⟩:=oh.O;go_wp2;go_ret2;rw[Hn.O];exact⟨_,I2,rfl,aL,JY.O.trans Vm.O (Nat.le_of_lt bY),qC,vD.O⟩
 have k5:((e.ai:Int)==5)=true:=by simpa using h5
 have Hn:=Qh (HE.O h5);have pF:e.target.length≤4294967280:=by
  have hh:=(WT (Hd.O h5)).2.2.2;have h1:=Xd (Hd.O h5);omega
 have PV:=Qh (fun w=>Xr2 e.target pF (Hd.O h5) w);obtain⟨d0,OM⟩:∃d0,digits e.target=d0:=⟨_,rfl⟩;obtain⟨U,hU⟩:∃U,gT e.af act d0=U:=⟨_,rfl⟩;rw[OM]at PV Hn;rw[hU]at Hn;have HU:=Qh hU;clear h5 OM pF hU;go_enter Tryz.func130,Tryz.ntmps130
 go_wp2_with fail
 refine(Ha.O _ (hw.alloc _)).mono ?_;rintro e1 w1 ⟨v1,rfl,dz,au⟩;have iq:=Qh (cB (e:=e) rfl au);have jG:Ok I w1:=(hw.alloc _).below (Qn _) au;have bY:w.heap.size<w1.heap.size:=by have:=au.size;simp at this;omega
 have eY:∀b,w.heap.size≤b→I b=none:=fun b hb=>hw.fresh hb;have av:=((Qb w.heap.size w).alloc (Qn _) (.cells #[.int .i64 e.ai,S e.af,.slice aa e.ag.length ca,S e.target,.int .i64 e.size,S e.aj,.slice ax e.ak.length cx] 35)).trans (au.mono (by simp));obtain⟨I1,jH,aD,jy,_⟩:=(dz.lower (show w.heap.size≤_ by simp)).freeze jG eY;have JY:=Qh jH;have uk:=Qh jy;have xe:=Qh (HG.O.mono (jH.keep hw (Qn _)));have Hs:=Qh (PN I1 v1 act jy nM _ _ _ w1 aD (fun _ _=>by kernel_rfl) (Ud e.af w.heap.size act w1 iq.O.c1));obtain⟨a1,NP,rfl,AQ,MJ,_⟩:=id jy;clear dz au eY jy jH jG;go_wp2_with fail
 refine Hs.O.mono ?_;rintro e2 w2 ⟨v2,rfl,fE,aF⟩;rw[lH.O]at fE;have ul:∀b,w1.heap.size≤b→I1 b=none:=fun b hb=>aD.fresh hb;have um:=Qh ul;have aQ:Ok I1 w2:=aD.below (Qn _) aF;have oh:=Qh (iq.O.aA aF);have aL:=av.trans (aF.mono av.size);have fO:w1.heap.size≤w2.heap.size:=aF.size;clear aF av iq aD Hs ul;obtain⟨I2,jW,qC,lI,_⟩:=fE.freeze aQ um.O;have qD:=Qh fE;have Vm:=Qh jW;have vD:=Qh lI;obtain⟨a2,cp2,rfl,AR,vM,_⟩:=id lI;clear fE lI jW;obtain⟨c0,c1,c2,c3,c4,c5,c6⟩:=oh.O;go_wp2_with fail
 refine(PV.O _).mono ?_;rintro e3 w3 ⟨rfl,cO⟩;have bN:Ok I1 w3:=aQ.below (Qn _) cO;have yK:Ok I2 w3:=qC.below (Qn _) cO;have ng:=Qh (oh.O.aA cO);have Jr:=Qh (qD.O.below cO);have wQ:w2.heap.size≤w3.heap.size:=cO.size;have dw:=aL.trans (cO.mono aL.size);clear c0 c1 c2 c3 c4 c5 c6 oh qD aQ qC cO aL;go_wp2_with fail
 go_loopw [10,35] (fun s10 s35 wr=> ∃(k:Nat) (cur:Int),k≤act.length∧s10= .int .i64 cur∧s35= .int .i64 k∧gT e.af (act.drop k) cur=U∧Below w3.heap.size w3 wr) (fun _ i _=>act.length-(intOf i).toNat)
 case atStart=>exact⟨0,d0,Nat.zero_le _,rfl,rfl,HU.O,Qb _ _⟩
 case round=>
  obtain⟨k,cur,hk,rfl,rfl,hu,hb⟩:=hrel;have Hu:=Qh hu;clear hu;by_cases hlt:k<act.length
  ·obtain⟨x,b,off,cap',bH,dn,x0,x1⟩:=yE uk.O (bN.below (Qn _) hb) k hlt;cases dn;have bB:=Qh (Xnq hlt bH Hu.O);obtain⟨c0,c1,c2,c3,c4,c5,c6⟩:=ng.O.aA hb;have c1':=fP (.cells #[S x.p,.int .i64 x.u] 184) c1;clear bH Hu c0 c1 c2 c3 c4 c5 c6;cases hq:(x.p==e.af)
   ·have jF:=Qh (show gT e.af (act.drop (k+1)) cur=U by have:=bB.O;rwa[if_neg (by simpa using hq)]at this);clear bB;go_wp2;go_roundw;case rel=>exact⟨k+1,cur,by omega,rfl,by go_num,jF.O,hb.alloc hb.size _⟩
    case measure=>simp[intOf];omega
   ·have jF:=Qh (show gT e.af (act.drop (k+1)) (max cur x.u)=U by have:=bB.O;rwa[if_pos (by simpa using hq)]at this);clear bB;go_wp2;go_roundw;case rel=>exact⟨k+1,max cur x.u,by omega,rfl,by go_num,jF.O,hb.alloc hb.size _⟩
    case measure=>simp[intOf];omega
  ·have uo:cur=U:=by have:=Hu.O;rwa[List.drop_of_length_le (by omega)]at this
   subst uo;have sW:Ok I2 wr:=yK.below (Qn _) hb;have yL:Ok I1 wr:=bN.below (Qn _) hb;have PW:=Qh (ng.O.aA hb);have Bj:=Qh (Jr.O.below hb);have Cf:=dw.trans (hb.mono dw.size);have G5:w3.heap.size≤wr.heap.size:=hb.size;have wY:=Qh (Xe7 I2 _ rest vD.O _ _ _ wr sW (fun _ _=>by kernel_rfl) (Xr3 I1 xe.O e.af nH w.heap.size rest KJ.O.short wr yL PW.O.c1));have iU:=KC rest (fun h=>decide (0<iP h.p e.af));clear Hu hb dw ng Jr bN yK sW;rcases iU with⟨i,hi,e1,e2,e3⟩|⟨e1,e2⟩
   ·rw[e1]at wY;have Hi:=Qh (Xpw ⟨e.af,cur⟩ hi e2 e3);clear e1 e2 e3;go_wp2_with fail
    refine wY.O.mono ?_;rintro e5 w5 ⟨rfl,bq⟩;have df:=yL.below (Qn _) bq;have ny:=Qh (PW.O.aA bq);have fI:=Qh (Bj.O.below bq);have bT:=Cf.trans (bq.mono Cf.size);have jZ:wr.heap.size≤w5.heap.size:=bq.size;obtain⟨c0,c1,c2,c3,c4,c5,c6⟩:=ny.O;clear bq Cf PW Bj yL c0 c2 c3 c4 c5 c6;have bZ:=fI.O.mP (Qn w5.heap.size);have Ej:=Qh (Xmn I1 w1.heap.size _ rest ⟨e.af,cur⟩ w5.heap.size i 184 [S e.af,.int .i64 cur] _ (fI.O.alloc (.cells #[S e.af,.int .i64 cur] 184)) rfl (heap_alloc_new w5 (.cells #[S e.af,.int .i64 cur] 184)) bZ (by omega) (by omega) (by simp;omega));clear bZ;go_wp2_with fail
    refine Ej.O.mono ?_;rintro e8 w8 ⟨v8,rfl,jL,uq⟩;have yM:=Qh jL;have Js:=Qh uq;clear jL uq;go_wp2;go_ret2;have gY:=fI.O.alloc (.cells #[S e.af,.int .i64 cur] 184);have oN:=Below.own (bT.alloc bT.size _) Js.O gY (Nat.le_of_lt bY) (by simp;omega);have xg:Ok I1 w8:=Ok.own (df.alloc _) Js.O gY um.O;obtain⟨I',jH,jW,lU,_⟩:=yM.O.freeze xg um.O;rw[Hn.O];exact⟨_,I',rfl,oN,JY.O.trans jH (Nat.le_of_lt bY),jW,by rw[Hi.O];exact lU⟩
   ·rw[e1]at wY;have Hi:=Qh (Xmk ⟨e.af,cur⟩ e2);clear e1 e2;go_wp2_with fail
    refine wY.O.mono ?_;rintro e5 w5 ⟨rfl,bq⟩;have df:=yL.below (Qn _) bq;have ny:=Qh (PW.O.aA bq);have fI:=Qh (Bj.O.below bq);have bT:=Cf.trans (bq.mono Cf.size);have jZ:wr.heap.size≤w5.heap.size:=bq.size;obtain⟨c0,c1,c2,c3,c4,c5,c6⟩:=ny.O;clear bq Cf PW Bj yL c0 c2 c3 c4 c5 c6;have bZ:=fI.O.mP (Qn w5.heap.size);have Ej:=Qh (Xmn I1 w1.heap.size _ rest ⟨e.af,cur⟩ w5.heap.size rest.length 184 [S e.af,.int .i64 cur] _ (fI.O.alloc (.cells #[S e.af,.int .i64 cur] 184)) rfl (heap_alloc_new w5 (.cells #[S e.af,.int .i64 cur] 184)) bZ (by omega) (by omega) (by simp;omega));clear bZ;go_wp2_with fail
    refine Ej.O.mono ?_;rintro e8 w8 ⟨v8,rfl,jL,uq⟩;have yM:=Qh jL;have Js:=Qh uq;clear jL uq;go_wp2;go_ret2;have gY:=fI.O.alloc (.cells #[S e.af,.int .i64 cur] 184);have oN:=Below.own (bT.alloc bT.size _) Js.O gY (Nat.le_of_lt bY) (by simp;omega);have xg:Ok I1 w8:=Ok.own (df.alloc _) Js.O gY um.O;obtain⟨I',jH,jW,lU,_⟩:=yM.O.freeze xg um.O;rw[Hn.O];exact⟨_,I',rfl,oN,JY.O.trans jH (Nat.le_of_lt bY),jW,by rw[Hi.O];exact lU⟩
def fK(e:aG):Int:=
 if e.size<0∨65536<e.size∨(e.ai≠1∧e.size≠0)then 2
 else if(e.ai=1∧e.aj.length≠32)∨(e.ai≠1∧e.aj≠[])then 1
 else if bK (e.ai==1) e.ak≠0 then bK (e.ai==1) e.ak
 else if fH e.ak≠e.size then 1 else 0
theorem Xno(l:List Xt)(k:Nat):fH l=fH (l.take k)+fH (l.drop k):=by
 conv=>lhs;rw[←List.take_append_drop k l]
 simp only[fH,List.map_append,List.sum_append]
theorem Xuo{l:List Xt}(h:∀x∈l,bX x=false):0≤fH l:=(Xo6 l.length l rfl h).1
theorem Xrf(I:IH)(x:aG)(va vx:Value)(eP:bf lT I va x.ag)(eT:bf mr I vx x.ak)(jh:x.Wf)(w:World)(hw:Ok I w):
 Calls Tryz.prog 112 #[fB x va vx] w fun e w'=>e= .returned (.int .i64 (fK x))∧Below w.heap.size w w':=by
 have bH:=eT.bW;obtain⟨ao,cap,rfl,dO,iR,_⟩:=id eT;obtain⟨xQ,cap2,rfl,_,_,_⟩:=id eP;have tT:=Qh eT;have mq:=jh.s0;have pG:=jh.s1;have ll:=jh.aj;clear eT eP jh;have Dy:bn (w.alloc (.cells #[.int .i64 x.ai,S x.af,.slice xQ x.ag.length cap2,S x.target,.int .i64 x.size,S x.aj,.slice ao x.ak.length cap] 35)) w.heap.size x (.slice xQ x.ag.length cap2) (.slice ao x.ak.length cap):=cB rfl (Qb _ _);have qg:=Qh Dy;clear Dy;by_cases AL:x.size<0;case pos=>
  have Hn:=Qh (show fK x=2 by rw[fK,if_pos (.inl AL)]);by_cases hf:x.ai=1
  ·have f1:((x.ai:Int)==1)=true:=by simpa using hf
   clear hf;go_enter Tryz.func112,Tryz.ntmps112
   go_wp2;go_ret;exact⟨bP Hn.O.symm,(Qb _ _).alloc (Qn _) _⟩
  ·have f1:((x.ai:Int)==1)=false:=by simpa using hf
   clear hf;go_enter Tryz.func112,Tryz.ntmps112
   go_wp2;go_ret;exact⟨bP Hn.O.symm,(Qb _ _).alloc (Qn _) _⟩
 by_cases hf:x.ai=1
 ·have f1:((x.ai:Int)==1)=true:=by simpa using hf
  have f2:((x.ai:Int) !=1)=false:=by simpa using hf
  by_cases FX:65536<x.size;case pos=>
   have Hn:=Qh (show fK x=2 by rw[fK,if_pos (.inr (.inl FX))]);clear hf;go_enter Tryz.func112,Tryz.ntmps112
   go_wp2;go_ret;exact⟨bP Hn.O.symm,(Qb _ _).alloc (Qn _) _⟩
  by_cases BF:x.aj.length=32;case neg=>
   have Hn:=Qh (show fK x=1 by rw[fK,if_neg (by omega),if_pos (.inl ⟨hf,BF⟩)]);have z1:((x.aj.length:Int) !=32)=true:=by rw[bne_iff_ne];omega
   clear hf BF;go_enter Tryz.func112,Tryz.ntmps112
   go_wp2;go_ret;exact⟨bP Hn.O.symm,(Qb _ _).alloc (Qn _) _⟩
  have z1:((x.aj.length:Int) !=32)=false:=by rw[BF];rfl
  have Hc:=Qh (show fK x=if bK true x.ak≠0 then bK true x.ak else if fH x.ak≠x.size then 1 else 0 by
   rw[fK,if_neg (by omega),if_neg (by
    rintro(⟨_,h⟩|⟨h,_⟩)
    ·exact h BF
    ·exact h hf),f1])
  have Hfk:=Qh hf;clear hf BF;go_enter Tryz.func112,Tryz.ntmps112
  go_wp2_with fail
  go_loopw [32] (fun KL wr=> ∃k:Nat,k≤x.ak.length∧KL= .int .i64 k∧bK true (x.ak.drop k)=bK true x.ak∧bn wr w.heap.size x (.slice xQ x.ag.length cap2) (.slice ao x.ak.length cap)∧Below w.heap.size w wr∧w.heap.size<wr.heap.size) (fun i _=>x.ak.length-(intOf i).toNat)
  case atStart=>exact⟨0,Nat.zero_le _,rfl,rfl,qg.O,(Qb _ _).alloc (Qn _) _,by simp⟩
  case round=>
   clear qg;obtain⟨k,hk,rfl,hr,wK,hb,eU⟩:=hrel;have Hr:=Qh hr;clear hr;have HBw:=Qh wK;obtain⟨c0,c1,c2,c3,c4,c5,c6⟩:=wK;have dA:Ok I wr:=hw.below (Qn _) hb;by_cases hlt:k<x.ak.length
   ·obtain⟨y,b,off,cap',iH,dn,e0,e1,e2⟩:=uZ tT.O dA k hlt;cases dn;have Df:=Qh (show x.ak.drop k=y::x.ak.drop (k+1) by rw[List.drop_eq_getElem_cons hlt,iH]);have bB:=Qh (show fK x=if(if bX y then 2 else bK true (x.ak.drop (k+1)))≠0 then(if bX y then 2 else bK true (x.ak.drop (k+1)))else if fH x.ak≠x.size then 1 else 0 by
     rw[Hc.O,←Hr.O,Df.O,NB])
    clear iH;by_cases h1:y.s<0
    ·have kw:=Qh (show fK x=2 by rw[bB.O,if_pos (show bX y=true by unfold bX;simp;omega)];rfl);go_wp2;go_ret;exact⟨bP kw.O.symm,hb.alloc hb.size _⟩
    by_cases h2:255<y.s
    ·have kw:=Qh (show fK x=2 by rw[bB.O,if_pos (show bX y=true by unfold bX;simp;omega)];rfl);go_wp2;go_ret;exact⟨bP kw.O.symm,hb.alloc hb.size _⟩
    by_cases h5:y.n<1
    ·have kw:=Qh (show fK x=2 by rw[bB.O,if_pos (show bX y=true by unfold bX;simp;omega)];rfl);go_wp2;go_ret;exact⟨bP kw.O.symm,hb.alloc hb.size _⟩
    by_cases h6:65536<y.n
    ·have kw:=Qh (show fK x=2 by rw[bB.O,if_pos (show bX y=true by unfold bX;simp;omega)];rfl);go_wp2;go_ret;exact⟨bP kw.O.symm,hb.alloc hb.size _⟩
    by_cases h3:y.o<0
    ·have kw:=Qh (show fK x=2 by rw[bB.O,if_pos (show bX y=true by unfold bX;simp;omega)];rfl);go_wp2;go_ret;exact⟨bP kw.O.symm,hb.alloc hb.size _⟩
    by_cases h4:2147483647<y.o
    ·have kw:=Qh (show fK x=2 by rw[bB.O,if_pos (show bX y=true by unfold bX;simp;omega)];rfl);go_wp2;go_ret;exact⟨bP kw.O.symm,hb.alloc hb.size _⟩
    by_cases h7:y.s=0
    ·have g7:(y.s==0)=true:=by simpa using h7
     by_cases h8:y.o=0
     ·have g8:(y.o !=0)=false:=by simpa using h8
      have iD:=Qh (show bK true (x.ak.drop (k+1))=bK true x.ak by
       rw[←Hr.O,Df.O,NB,if_neg (show ¬bX y=true by unfold bX;simp;omega)])
      go_wp2;go_roundw;case rel=>exact⟨k+1,by omega,by go_num,iD.O,HBw.O.past _,hb.alloc hb.size _,by simp;omega⟩
      case measure=>simp[intOf];omega
     ·have g8:(y.o !=0)=true:=by simpa using h8
      have kw:=Qh (show fK x=2 by rw[bB.O,if_pos (show bX y=true by unfold bX;simp;omega)];rfl);go_wp2;go_ret;exact⟨bP kw.O.symm,hb.alloc hb.size _⟩
    ·have g7:(y.s==0)=false:=by simpa using h7
     have iD:=Qh (show bK true (x.ak.drop (k+1))=bK true x.ak by
      rw[←Hr.O,Df.O,NB,if_neg (show ¬bX y=true by unfold bX;simp;omega)])
     go_wp2;go_roundw;case rel=>exact⟨k+1,by omega,by go_num,iD.O,HBw.O.past _,hb.alloc hb.size _,by simp;omega⟩
     case measure=>simp[intOf];omega
   ·have NF:=Qh (show bK true x.ak=0 by rw[←Hr.O,List.drop_of_length_le (by omega)];rfl);have Jt:=Qh (Wi _ NF.O);have Ju:=Qh (show fK x=if fH x.ak≠x.size then 1 else 0 by rw[Hc.O,NF.O];rfl);go_wp2_with fail
    go_loopw [5,81] (fun s5 Xe wq=> ∃(j:Nat) (r:Int),j≤x.ak.length∧Xe= .int .i64 j∧s5= .int .i64 r∧0≤r∧r≤65536∧r=x.size-fH (x.ak.take j)∧Below w.heap.size w wq) (fun _ i _=>x.ak.length-(intOf i).toNat)
    case atStart=>exact⟨0,x.size,Nat.zero_le _,rfl,rfl,by omega,by omega,by simp[fH],hb⟩
    case round=>
     clear c0 c1 c2 c3 c4 c5 c6 dA hb;obtain⟨j,r,hj,rfl,rfl,hr0,zA,SC,hb⟩:=hrel;have PX:=Qh SC;clear SC;have dA:Ok I wr:=hw.below (Qn _) hb;by_cases kH:j<x.ak.length
     ·obtain⟨y,b,off,cap',iH,dn,e0,e1,e2⟩:=uZ tT.O dA j kH;cases dn;have hym:bX y=false:=Jt.O y (by rw[←iH];exact List.getElem_mem kH);have Vk:=Wj hym;have nR:=Qh (show fH (x.ak.take (j+1))=fH (x.ak.take j)+y.n by rw[List.take_succ_eq_append_getElem kH,iH,Wl]);clear iH hym;by_cases xN:r<y.n
      ·have Hn:=Qh (show fK x=1 by
        rw[Ju.O,if_pos];have h1:=Xno x.ak (j+1);have h2:=Xuo (l:=x.ak.drop (j+1)) fun z hz=>Jt.O z (List.mem_of_mem_drop hz);have h3:=nR.O;have h4:=PX.O;omega)
       go_wp2;go_ret;exact⟨bP Hn.O.symm,hb.alloc hb.size _⟩
      ·have uN:IntKind.i64.wrap (r-y.n)=r-y.n:=IntWalk.i64_in _ (by omega);go_wp2;go_roundw;case rel=>exact⟨j+1,r-y.n,by omega,by go_num,by go_num,by omega,by omega,(by have h3:=nR.O;have h4:=PX.O;omega),hb.alloc hb.size _⟩
       case measure=>simp[intOf];omega
     ·have aB:x.ak.take j=x.ak:=List.take_of_length_le (by omega);rw[aB]at PX;clear aB;by_cases hz:r=0
      ·have z0:(r !=0)=false:=by simpa using hz
       have Hn:=Qh (show fK x=0 by rw[Ju.O,if_neg];have:=PX.O;omega);clear hz;go_wp2;go_ret;exact⟨bP Hn.O.symm,hb⟩
      ·have z0:(r !=0)=true:=by simpa using hz
       have Hn:=Qh (show fK x=1 by rw[Ju.O,if_pos];have:=PX.O;omega);clear hz;go_wp2;go_ret;exact⟨bP Hn.O.symm,hb⟩
 ·have f1:((x.ai:Int)==1)=false:=by simpa using hf
  have f2:((x.ai:Int) !=1)=true:=by simpa using hf
  by_cases hz:x.size=0;case neg=>
   have Hn:=Qh (show fK x=2 by rw[fK,if_pos (.inr (.inr ⟨hf,hz⟩))]);have xN:0<x.size:=by omega
   clear hf hz;go_enter Tryz.func112,Tryz.ntmps112
   go_wp2;go_ret;exact⟨bP Hn.O.symm,(Qb _ _).alloc (Qn _) _⟩
  have bY:x.size≤0:=by omega
  by_cases BF:x.aj.length=0;case neg=>
   have Hn:=Qh (show fK x=1 by rw[fK,if_neg (by omega),if_pos (.inr ⟨hf,fun e=>BF (by rw[e];rfl)⟩)]);have z1:((x.aj.length:Int) !=0)=true:=by rw[bne_iff_ne];omega
   clear hf BF;go_enter Tryz.func112,Tryz.ntmps112
   go_wp2;go_ret;exact⟨bP Hn.O.symm,(Qb _ _).alloc (Qn _) _⟩
  have z1:((x.aj.length:Int) !=0)=false:=by rw[BF];rfl
  have Hc:=Qh (show fK x=if bK false x.ak≠0 then bK false x.ak else if fH x.ak≠x.size then 1 else 0 by
   rw[fK,if_neg (by omega),if_neg (by
    rintro(⟨h,_⟩|⟨_,h⟩)
    ·exact hf h
    ·exact h (List.eq_nil_of_length_eq_zero BF)),f1])
  have Hz:=Qh hz;clear hf BF hz;by_cases oO:0<x.ak.length
  ·obtain⟨y,b,off,cap',iH,dn,e0,e1,e2⟩:=uZ tT.O (hw.alloc (.cells #[.int .i64 x.ai,S x.af,.slice xQ x.ag.length cap2,S x.target,.int .i64 x.size,S x.aj,.slice ao x.ak.length cap] 35)) 0 oO;cases dn;have yf:x.ak=y::x.ak.drop 1:=by rw[←iH,←List.drop_eq_getElem_cons oO];rfl
   have Hn:=Qh (show fK x=1 by rw[Hc.O,yf];rfl);rw[Nat.zero_mul,Nat.add_zero]at e0 e1 e2;clear iH yf;go_enter Tryz.func112,Tryz.ntmps112
   go_wp2_with fail
   go_loopw [32] (fun KL wr=>KL= .int .i64 0∧w.alloc (.cells #[.int .i64 x.ai,S x.af,.slice xQ x.ag.length cap2,S x.target,.int .i64 x.size,S x.aj,.slice (some ⟨b,off,none⟩) x.ak.length cap] 35)=wr) (fun _ _=>0)
   case atStart=>exact⟨rfl,rfl⟩
   case round=>
    obtain⟨rfl,dA⟩:=hrel;subst dA;go_wp2;go_ret;exact⟨bP Hn.O.symm,((Qb _ _).alloc (Qn _) _).alloc (by simp) _⟩
  ·have NF:=Qh (show x.ak=[]from List.eq_nil_of_length_eq_zero (by omega));have Hn:=Qh (show fK x=0 by rw[Hc.O,NF.O,Hz.O];rfl);have z0:(x.size !=0)=false:=by rw[Hz.O];rfl
   go_enter Tryz.func112,Tryz.ntmps112
   go_wp2_with fail
   go_loopw [32] (fun KL wr=>KL= .int .i64 0∧w.alloc (.cells #[.int .i64 x.ai,S x.af,.slice xQ x.ag.length cap2,S x.target,.int .i64 x.size,S x.aj,.slice ao x.ak.length cap] 35)=wr) (fun _ _=>0)
   case atStart=>exact⟨rfl,rfl⟩
   case round=>
    obtain⟨rfl,dA⟩:=hrel;subst dA;go_wp2_with fail
    go_loopw [5,81] (fun s5 Xe wr=>s5= .int .i64 x.size∧Xe= .int .i64 0∧w.alloc (.cells #[.int .i64 x.ai,S x.af,.slice xQ x.ag.length cap2,S x.target,.int .i64 x.size,S x.aj,.slice ao x.ak.length cap] 35)=wr) (fun _ _ _=>0)
    case atStart=>exact⟨rfl,rfl,rfl⟩
    case round=>
     obtain⟨rfl,rfl,dA⟩:=hrel;subst dA;go_wp2;go_ret;exact⟨bP Hn.O.symm,(Qb _ _).alloc (Qn _) _⟩
theorem Ue(e:aG):az e=
 if e.ai<1∨6<e.ai then 10
 else if aJ e.af≠0 then aJ e.af
 else if e.af=[]∧e.ai<5 then 1
 else if mQ e.ag≠0 then mQ e.ag
 else if(e.ag≠[]∧3<e.ai)∨bJ e=false then 1 else fK e:=rfl
theorem Uf(I:IH)(hI:dQ I)(x:aG)(va vx:Value)(eP:bf lT I va x.ag)(eT:bf mr I vx x.ak)(jh:x.Wf)(nH:x.af.length≤4294967280)(pF:x.target.length≤4294967280)(w:World)(hw:Ok I w):
 Calls Tryz.prog 62 #[fB x va vx] w fun e w'=>e= .returned (.int .i64 (az x))∧Below w.heap.size w w':=by
 have bH:=eT.bW;have Su:=eP.bW;have Xf:=Qh (fun w hw=>Xrf I x va vx eP eT jh w hw);have Kz:=Qh (fun w hw=>Xtu I hI x pF va vx w hw);obtain⟨ao,cap,rfl,dO,iR,_⟩:=id eT;obtain⟨xQ,cap2,rfl,wH,vM,_⟩:=id eP;have zu:=Qh eP;clear eT eP;have yo:=Qh (fun w hw=>Xpq I hI x.af nH w hw);have Ph:=Qh (fun w hw=>Xwp I _ x.ag zu.O jh.ag w hw);have mq:=jh.s0;have pG:=jh.s1;have rM:=jh.k0;have mo:=jh.k1;have ll:=jh.aj;clear jh;by_cases MK:x.ai<1;case pos=>
  have Hn:=Qh (show az x=10 by rw[Ue,if_pos (.inl MK)]);go_enter Tryz.func62,Tryz.ntmps62
  go_wp2;go_ret;exact⟨bP Hn.O.symm,(Qb _ _).alloc (Qn _) _⟩
 by_cases hkg:6<x.ai;case pos=>
  have Hn:=Qh (show az x=10 by rw[Ue,if_pos (.inr hkg)]);go_enter Tryz.func62,Tryz.ntmps62
  go_wp2;go_ret;exact⟨bP Hn.O.symm,(Qb _ _).alloc (Qn _) _⟩
 have He:=Qh (show az x=_ by rw[Ue,if_neg (show ¬(x.ai<1∨6<x.ai) by omega)]);by_cases CQ:aJ x.af=0;case neg=>
  obtain⟨q,hq⟩:∃q,aJ x.af=q:=⟨_,rfl⟩;have hn:(q !=0)=true:=by rw[←hq];simpa using CQ
  have Hn:=Qh (show az x=q by rw[He.O,if_pos CQ,hq]);rw[hq]at yo;clear hq CQ;go_enter Tryz.func62,Tryz.ntmps62
  go_wp2_with fail
  refine(yo.O _ (hw.alloc _)).mono ?_;rintro e w1 ⟨rfl,au⟩;have av:Below w.heap.size w w1:=((Qb _ _).alloc (Qn _) _).trans (au.mono (by simp));have bY:w.heap.size<w1.heap.size:=by have:=au.size;simp at this;omega
  have aD:Ok I w1:=(hw.alloc _).below (Qn _) au;obtain⟨c0,c1,c2,c3,c4,c5,c6⟩:=cB rfl au;clear au;go_wp2;go_ret;exact⟨bP Hn.O.symm,av⟩
 replace He:=Qh (show az x=_ by rw[He.O,if_neg (show ¬aJ x.af≠0 by omega)]);rw[CQ]at yo;clear CQ;by_cases yt:x.af=[]∧x.ai<5;case pos=>
  have Hn:=Qh (show az x=1 by rw[He.O,if_pos yt]);obtain⟨p1,p2,p3,p4⟩:=De yt.1;have k5:((x.ai:Int) !=5)=true:=by rw[bne_iff_ne];omega
  have k6:((x.ai:Int) !=6)=true:=by rw[bne_iff_ne];omega
  have Sw:=yt.2;clear yt;go_enter Tryz.func62,Tryz.ntmps62
  go_wp2_with fail
  refine(yo.O _ (hw.alloc _)).mono ?_;rintro e w1 ⟨rfl,au⟩;have av:Below w.heap.size w w1:=((Qb _ _).alloc (Qn _) _).trans (au.mono (by simp));have bY:w.heap.size<w1.heap.size:=by have:=au.size;simp at this;omega
  have aD:Ok I w1:=(hw.alloc _).below (Qn _) au;obtain⟨c0,c1,c2,c3,c4,c5,c6⟩:=cB rfl au;clear au;go_wp2;go_ret;exact⟨bP Hn.O.symm,av⟩
 replace He:=Qh (show az x=_ by rw[He.O,if_neg yt]);have ND:(((x.af==[])=true∧x.af.isEmpty=true∧(!x.af.isEmpty)=false∧(x.af !=[])=false)∧(x.ai=5∨x.ai=6))∨((x.af==[])=false∧x.af.isEmpty=false∧(!x.af.isEmpty)=true∧(x.af !=[])=true):=by
  by_cases h:x.af=[]
  ·left;exact⟨De h,by have:=Int.not_lt.1 fun h2=>yt ⟨h,h2⟩;omega⟩
  ·right;exact Bc h
 clear yt;go_enter Tryz.func62,Tryz.ntmps62
 go_wp2_with fail
 refine(yo.O _ (hw.alloc _)).mono ?_;rintro e w1 ⟨rfl,au⟩;have av:Below w.heap.size w w1:=((Qb _ _).alloc (Qn _) _).trans (au.mono (by simp));have bY:w.heap.size<w1.heap.size:=by have:=au.size;simp at this;omega
 have aD:Ok I w1:=(hw.alloc _).below (Qn _) au;obtain⟨c0,c1,c2,c3,c4,c5,c6⟩:=cB rfl au;clear au;clear yo;go_upto_region 6 with fail
 go_cut [31] (fun Xg wx=>Xg= .bool false∧w1=wx)
 case first=>
  rcases ND with⟨⟨p1,p2,p3,p4⟩,p5|p5⟩|⟨p1,p2,p3,p4⟩
  ·have k5:((x.ai:Int) !=5)=false:=by rw[p5];rfl
   clear p5;go_wp2_with fail
   go_meet;exact⟨rfl,rfl⟩
  ·have k5:((x.ai:Int) !=5)=true:=by rw[p5];rfl
   have k6:((x.ai:Int) !=6)=false:=by rw[p5];rfl
   clear p5;go_wp2_with fail
   go_meet;exact⟨rfl,rfl⟩
  ·go_wp2_with fail
   go_meet;exact⟨rfl,rfl⟩
 case rest=>
  obtain⟨rfl,hcut⟩:=hcut;subst hcut;clear ND;go_wp2_with fail
  refine(Ph.O _ aD).mono ?_;rintro e w2 ⟨rfl,aF⟩;have aL:=av.trans (aF.mono (Nat.le_of_lt bY));have fO:w.heap.size<w2.heap.size:=by have:=aF.size;omega
  have aQ:Ok I w2:=aD.below (Qn _) aF;obtain⟨c0,c1,c2,c3,c4,c5,c6⟩:=bn.aA (⟨c0,c1,c2,c3,c4,c5,c6⟩:bn w1 w.heap.size x _ _) aF;clear aF av bY aD;by_cases DZ:mQ x.ag=0;case neg=>
   obtain⟨q,hq⟩:∃q,mQ x.ag=q:=⟨_,rfl⟩;have hn:(q !=0)=true:=by rw[←hq];simpa using DZ
   have Hn:=Qh (show az x=q by rw[He.O,if_pos DZ,hq]);rw[hq];clear hq DZ;go_wp2;go_ret;exact⟨bP Hn.O.symm,aL⟩
  replace He:=Qh (show az x=_ by rw[He.O,if_neg (show ¬mQ x.ag≠0 by omega)]);rw[DZ];clear DZ Ph;go_upto_region 11 with fail
  go_cut [51] (fun s51 wx=> ∃w3,w3=wx∧(s51= .bool true∧az x=1∨s51= .bool false∧ ¬((x.ag≠[]∧3<x.ai)∨bJ x=false))∧Below w2.heap.size w2 w3)
  case first=>
   have nQ:x.ag.length<1∨(0<x.ag.length∧3<x.ai)∨(0<x.ag.length∧x.ai≤3):=by omega
   rcases nQ with ha|⟨ha,tL⟩|⟨ha,tL⟩
   ·have d0:decide (0<x.ag.length)=false:=Qf (by omega);have Bd:=Qh (show x.ag=[]from List.eq_nil_of_length_eq_zero (by omega));go_wp2_with fail
    refine(Kz.O _ aQ).mono ?_;rintro e w3 ⟨rfl,cO⟩;cases zR:bJ x
    ·have Hn:=Qh (show az x=1 by rw[He.O,if_pos (.inr zR)]);clear zR;go_wp2_with fail
     go_meet;exact⟨_,rfl,.inl ⟨rfl,Hn.O⟩,cO⟩
    ·go_wp2_with fail
     go_meet;refine⟨_,rfl,.inr ⟨(by first|rfl|(congr 1;exact Qf (by omega))),?_⟩,cO⟩;rintro(⟨h1,h2⟩|h1)
     ·first
       |exact h1 Bd.O
       |omega
     ·rw[zR]at h1;exact absurd h1 (by simp)
   ·have d0:decide (0<x.ag.length)=true:=Qt ha;have Hn:=Qh (show az x=1 by rw[He.O,if_pos (.inl ⟨by intro e;rw[e]at ha;simp at ha,tL⟩)]);go_wp2_with fail
    go_meet;exact⟨_,rfl,.inl ⟨(by first|rfl|(congr 1;exact Qt (by omega))),Hn.O⟩,Qb _ _⟩
   ·have d0:decide (0<x.ag.length)=true:=Qt ha;go_wp2_with fail
    refine(Kz.O _ aQ).mono ?_;rintro e w3 ⟨rfl,cO⟩;cases zR:bJ x
    ·have Hn:=Qh (show az x=1 by rw[He.O,if_pos (.inr zR)]);clear zR;go_wp2_with fail
     go_meet;exact⟨_,rfl,.inl ⟨rfl,Hn.O⟩,cO⟩
    ·go_wp2_with fail
     go_meet;refine⟨_,rfl,.inr ⟨(by first|rfl|(congr 1;exact Qf (by omega))),?_⟩,cO⟩;rintro(⟨h1,h2⟩|h1)
     ·first
       |exact h1 Bd.O
       |omega
     ·rw[zR]at h1;exact absurd h1 (by simp)
  case rest=>
   obtain⟨w3,oP,qo,cO⟩:=hcut;subst oP;have dw:=aL.trans (cO.mono (Nat.le_of_lt fO));have bN:Ok I w3:=aQ.below (Qn _) cO;obtain⟨c0,c1,c2,c3,c4,c5,c6⟩:=bn.aA (⟨c0,c1,c2,c3,c4,c5,c6⟩:bn w2 w.heap.size x _ _) cO;clear cO aL fO aQ Kz;rcases qo with⟨rfl,hn⟩|⟨rfl,qo⟩
   ·have Hn:=Qh hn;clear hn;go_wp2;go_ret;exact⟨bP Hn.O.symm,dw⟩
   have Hn:=Qh (show az x=fK x by rw[He.O,if_neg qo]);clear qo;go_wp2_with fail
   refine(Xf.O _ bN).mono ?_;rintro e w4 ⟨rfl,aM⟩;go_wp2;go_ret;exact⟨bP Hn.O.symm,dw.trans (aM.mono dw.size)⟩
def yN(g:Nat)(cb:Array Value)(l:List aG)(p:aG→Bool)(C:World→Prop):Prop:=
 ∀x∈l,∀(a1 a2:Option Addr) (c1 c2:Nat) (W:World),C W→Calls Tryz.prog g (#[fB x (.slice a1 x.ag.length c1) (.slice a2 x.ak.length c2)]++cb) W fun e w'=>e= .returned (.bool (p x))∧Below W.heap.size W w'
theorem Xe8(I:IH)(v:Value)(l:List aG)(hv:bf bG I v l)(g:Nat)(cb:Array Value)(p:aG→Bool)(w:World)(hw:Ok I w)(eg:∀args w,(callFunc g args).run Tryz.prog w= .ok (.enter g args) w)(hp:yN g cb l p (Below w.heap.size w)):
 Calls Tryz.prog 259 #[v,.func (.func g) #[] cb] w fun e w'=>e= .returned (.int .i64 (nW l p))∧Below w.heap.size w w':=by
 have hlen:=hv.bW;obtain⟨ao,cap,rfl,dO,iR,_⟩:=id hv;have Hv:=Qh hv;clear hv;have Hp:=Qh hp;clear hp;go_enter Tryz.func259,Tryz.ntmps259
 go_wp2_with fail
 go_loopw [8] (fun s8 wr=> ∃k:Nat,k≤l.length∧s8= .int .i64 k∧(l.take k).any p=false∧Below w.heap.size w wr) (fun i _=>l.length-(intOf i).toNat)
 case atStart=>exact⟨0,Nat.zero_le _,rfl,rfl,Qb _ _⟩
 case round=>
  obtain⟨k,hk,rfl,hr,hb⟩:=hrel;have Hr:=Qh hr;clear hr;by_cases hlt:k<l.length
  ·have dA:Ok I wr:=hw.below (Qn _) hb;obtain⟨x,va,vx,b,off,cap',bH,dn,⟨c0,c1,c2,c3,c4,c5,c6⟩,h1,h2⟩:=qi Hv.O dA k hlt;cases dn;obtain⟨aa,ca,rfl,_,_,_⟩:=id h1;obtain⟨ax,cx,rfl,_,_,_⟩:=id h2;have sF:=Qh bH;have kS:=Qh (Hp.O x (by rw[←bH];exact List.getElem_mem hlt) aa ax ca cx wr hb);clear bH h1 h2;go_wp2_with fail
   refine kS.O.mono ?_;rintro e w1 ⟨rfl,au⟩;have av:=hb.trans (au.mono hb.size);clear au kS c0 c1 c2 c3 c4 c5 c6;cases hpx:p x
   ·have Hn:=Qh (show(l.take (k+1)).any p=false by rw[List.take_succ_eq_append_getElem hlt,List.any_append,Hr.O,sF.O];simp[hpx]);clear hpx;go_wp2;go_roundw;case rel=>exact⟨k+1,by omega,by go_num,Hn.O,av⟩
    case measure=>simp[intOf];omega
   ·have Hn:=Qh (TK (p:=p) hlt (by rw[sF.O];exact hpx) Hr.O);clear hpx;go_wp2;go_ret;exact⟨bP Hn.O.symm,av⟩
  ·have Hn:=Qh (show nW l p= -1 from TJ (by have:=Hr.O;rwa[List.take_of_length_le (by omega)]at this));go_wp2;go_ret;exact⟨bP Hn.O.symm,hb⟩
theorem Xwa(key:ae)(b:Nat)(l:List aG)(w:World)(hc:w.cell? ⟨b,0,none⟩=some (S key)):yN 260 #[.pointer (some ⟨b,0,none⟩)] l (fun x=>x.af==key) (Below w.heap.size w):=by
 intro x _ a1 a2 c1 c2 W hW;have JX:=dh hW hc;have xJ:=fP (.cells #[.int .i64 x.ai,S x.af,.slice a1 x.ag.length c1,S x.target,.int .i64 x.size,S x.aj,.slice a2 x.ak.length c2] 35) JX;clear hc JX;go_enter Tryz.func260,Tryz.ntmps260
 go_wp2;go_ret;exact⟨rfl,(Qb _ _).alloc (Qn _) _⟩
abbrev qE(p:ae):aG→Bool:=fun x=>x.af==p
theorem Xt5(I:IH)(v:Value)(t:List aG)(hv:bf bG I v t)(p:ae)(w:World)(hw:Ok I w):
 Calls Tryz.prog 194 #[v,S p] w fun e w'=>e= .returned (.int .i64 (nW t (qE p)))∧Below w.heap.size w w':=by
 have Hp:=Qh (Xwa p w.heap.size t (w.alloc (.cells #[S p] 9)) (by simp));have Hi:=Qh (Xe8 I v t hv _ _ _ _ (hw.alloc _) (fun _ _=>by kernel_rfl) Hp.O);obtain⟨ao,cap,rfl,dO,iR,_⟩:=id hv;clear hv;obtain⟨q,hq⟩:∃q,nW t (qE p)=q:=⟨_,rfl⟩;have Hq:=Qh hq;have qR:=Qh (Hi.O);clear Hi hq;rw[show(fun x:aG=>x.af==p)=qE p from rfl,Hq.O]at qR;rw[Hq.O];go_enter Tryz.func194,Tryz.ntmps194
 go_wp2_with fail
 refine qR.O.mono ?_;rintro e w1 ⟨rfl,au⟩;go_wp2;go_ret;exact⟨rfl,((Qb _ _).alloc (Qn _) _).trans (au.mono (by simp))⟩
theorem Xmr{t:List aG}{i:Nat}(hi:i<t.length)(hp:qE p t[i]=true)(hn:(t.take i).any (qE p)=false):kG t p=(t[i],true):=by
 have:dS t p=some t[i]:=by
  unfold dS;conv=>lhs;rw[←List.take_append_drop i t]
  rw[List.find?_append,List.drop_eq_getElem_cons hi,List.find?_cons];have h2:(t[i].af==p)=true:=hp;rw[h2];have:(t.take i).find? (fun x=>x.af==p)=none:=by
   rw[List.find?_eq_none];intro x hx hpx;rw[List.any_eq_true.2 ⟨x,hx,hpx⟩]at hn;exact absurd hn (by simp)
  rw[this];rfl
 rw[kG,this]
theorem Xms{t:List aG}(hn:t.any (qE p)=false):kG t p=(zeroE,false):=by
 have:dS t p=none:=by
  unfold dS;rw[List.find?_eq_none];intro x hx hpx;rw[List.any_eq_true.2 ⟨x,hx,hpx⟩]at hn;exact absurd hn (by simp)
 rw[kG,this]
theorem Xw1(I:IH)(v:Value)(t:List aG)(hv:bf bG I v t)(p:ae)(w:World)(hw:Ok I w):
 Calls Tryz.prog 172 #[v,S p] w (Pk I w (kG t p)):=by
 have hlen:=hv.bW;have Hf:=Qh (Xt5 I v t hv p (w.alloc (.cells aC 35)) (hw.alloc _));obtain⟨ao,cap,rfl,dO,iR,_⟩:=id hv;have Hv:=Qh hv;clear hv;have lV:(Tryz.prog.info? 35).map (·.size)=some 7:=by kernel_rfl
 have jY:=heap_alloc_new w (.cells aC 35);have Hz0:=Qh jY;clear jY;rcases KC t (qE p)with⟨i,hi,e1,e2,e3⟩|⟨e1,e2⟩
 ·have Hn:=Qh (Xmr hi e2 e3);rw[e1]at Hf;clear e1 e2 e3;go_enter Tryz.func172,Tryz.ntmps172
  go_wp2_with fail
  refine Hf.O.mono ?_;rintro e w1 ⟨rfl,au⟩;have aD:Ok I w1:=(hw.alloc _).below (Qn _) au;have eU:w.heap.size<w1.heap.size:=by have:=au.size;simp at this;omega
  have Hz:=Qh ((au.block w.heap.size (by simp)).trans Hz0.O);have av:=((Qb w.heap.size w).alloc (Qn _) (.cells aC 35)).trans (au.mono (by simp));clear au;obtain⟨x,va,vx,b,off,cap',bH,dn,⟨c0,c1,c2,c3,c4,c5,c6⟩,h1,h2⟩:=qi Hv.O aD i hi;cases dn;obtain⟨aa,ca,rfl,_,_,_⟩:=id h1;obtain⟨ax,cx,rfl,_,_,_⟩:=id h2;have H1:=Qh h1;have H2:=Qh h2;rw[bH]at Hn;have Fs:=Xj7 h1 h2;clear bH h1 h2;go_wp2_with (refine wpList_store_row rfl 35 _ _ rfl w.heap.size (aZ x (.slice aa x.ag.length ca) (.slice ax x.ak.length cx)) rfl rfl 35 aC Hz.O lV rfl Fs ?_)
  try simp only[Exit.inBlock,Exit.then]
  refine bodyPost_ret (v:= .tuple #[fB x (.slice aa x.ag.length ca) (.slice ax x.ak.length cx),.bool true]) ?_ rfl ?_
  ·rw[results_cell_tmp rfl];simp[asAddr,run_loadVar_row _ w.heap.size 35 35 (aZ x (.slice aa x.ag.length ca) (.slice ax x.ak.length cx)) (0,0) _ (setRow_heap _ _ _ _ _ _ Hz.O) Tryz.underlying35 rfl lV]
  ·rw[Hn.O];exact⟨_,_,rfl,H1.O,H2.O,below_setRow av (Qn _) _⟩
 ·have Hn:=Qh (Xms e2);rw[e1]at Hf;clear e1 e2;go_enter Tryz.func172,Tryz.ntmps172
  go_wp2_with fail
  refine Hf.O.mono ?_;rintro e w1 ⟨rfl,au⟩;have Hz:=Qh ((au.block w.heap.size (by simp)).trans Hz0.O);have av:=((Qb w.heap.size w).alloc (Qn _) (.cells aC 35)).trans (au.mono (by simp));clear au;have Pm:aC.all (·.oneCell')=true:=by simp[Value.oneCell']
  go_wp2_with (refine wpList_store_row rfl 35 _ _ rfl w.heap.size aC rfl rfl 35 aC Hz.O lV rfl Pm ?_)
  try simp only[Exit.inBlock,Exit.then]
  refine bodyPost_ret (v:= .tuple #[.agg aC,.bool false]) ?_ rfl ?_
  ·rw[results_cell_tmp rfl];simp[asAddr,run_loadVar_row _ w.heap.size 35 35 aC (0,0) _ (setRow_heap _ _ _ _ _ _ Hz.O) Tryz.underlying35 rfl lV]
  ·rw[Hn.O];exact⟨.slice none 0 0,.slice none 0 0,rfl,bf.nil _ _,bf.nil _ _,below_setRow av (Qn _) _⟩
theorem Xg9(I:IH)(v:Value)(t:List aG)(hv:bf bG I v t)(p:ae)(w:World)(hw:Ok I w):
 Calls Tryz.prog 106 #[v,S p] w fun e w'=>e= .returned (.int .i64 (bA t p))∧Below w.heap.size w w':=by
 have Hg:=Qh (Xw1 I v t hv p w hw);obtain⟨ao,cap,rfl,dO,iR,_⟩:=id hv;clear hv;by_cases hp:p=[]
 ·obtain⟨p1,p2,p3,p4⟩:=De hp;have Hn:=Qh (show bA t p=0 by rw[bA,if_pos hp]);clear hp;generalize kG t p=g at Hg;obtain⟨x,b⟩:=g;go_enter Tryz.func106,Tryz.ntmps106
  go_wp2_with fail
  refine Hg.O.mono ?_;rintro e w1 ⟨va,vx,rfl,h1,h2,au⟩;obtain⟨aa,ca,rfl,_,_,_⟩:=id h1;obtain⟨ax,cx,rfl,_,_,_⟩:=id h2;clear h1 h2;go_wp2;go_ret;exact⟨bP Hn.O.symm,au.alloc au.size _⟩
 ·obtain⟨p1,p2,p3,p4⟩:=Bc hp;have Hn:=Qh (Xj9 t p hp);clear hp;generalize kG t p=g at Hn Hg;obtain⟨x,b⟩:=g;go_enter Tryz.func106,Tryz.ntmps106
  go_wp2_with fail
  refine Hg.O.mono ?_;rintro e w1 ⟨va,vx,rfl,h1,h2,au⟩;obtain⟨aa,ca,rfl,_,_,_⟩:=id h1;obtain⟨ax,cx,rfl,_,_,_⟩:=id h2;clear h1 h2;cases b
  ·have jF:=Qh (show bA t p=9 by rw[Hn.O];rfl);go_wp2;go_ret;exact⟨bP jF.O.symm,au.alloc au.size _⟩
  ·by_cases hk:x.ai=2
   ·have k1:((x.ai:Int) !=2)=false:=by simpa using hk
    have jF:=Qh (show bA t p=0 by rw[Hn.O];simp[hk]);clear hk;go_wp2;go_ret;exact⟨bP jF.O.symm,au.alloc au.size _⟩
   ·have k1:((x.ai:Int) !=2)=true:=by simpa using hk
    have jF:=Qh (show bA t p=10 by rw[Hn.O];simp[hk]);clear hk;go_wp2;go_ret;exact⟨bP jF.O.symm,au.alloc au.size _⟩
def inT(k:Int):Bool:=decide (k=1) || decide (k=2) || decide (k=3)
theorem mg{k:Int}:inT k=true↔k=1∨k=2∨k=3:=by simp[inT,or_assoc]
theorem Xh(k:Int)(w:World):Calls Tryz.prog 103 #[.int .i64 k] w fun e w'=>e= .returned (.bool (inT k))∧w=w':=by
 by_cases h1:k=1
 ·have Hn:=Qh (show inT k=true from mg.2 (.inl h1));have f1:((k:Int)==1)=true:=by simpa using h1
  clear h1;go_enter Tryz.func103,Tryz.ntmps103
  go_wp2;go_ret;exact⟨iW Hn.O.symm,rfl⟩
 by_cases h2:k=2
 ·have Hn:=Qh (show inT k=true from mg.2 (.inr (.inl h2)));have f1:((k:Int)==1)=false:=by simpa using h1
  have f2:((k:Int)==2)=true:=by simpa using h2
  clear h1 h2;go_enter Tryz.func103,Tryz.ntmps103
  go_wp2;go_ret;exact⟨iW Hn.O.symm,rfl⟩
 by_cases h3:k=3
 ·have Hn:=Qh (show inT k=true from mg.2 (.inr (.inr h3)));have f1:((k:Int)==1)=false:=by simpa using h1
  have f2:((k:Int)==2)=false:=by simpa using h2
  have f3:((k:Int)==3)=true:=by simpa using h3
  clear h1 h2 h3;go_enter Tryz.func103,Tryz.ntmps103
  go_wp2;go_ret;exact⟨iW Hn.O.symm,rfl⟩
 have Hn:=Qh (show inT k=false by
  cases h:inT k with
  |false=>rfl
  |true=>rcases mg.1 h with h|h|h<;>contradiction)
 have f1:((k:Int)==1)=false:=by simpa using h1
 have f2:((k:Int)==2)=false:=by simpa using h2
 have f3:((k:Int)==3)=false:=by simpa using h3
 clear h1 h2 h3;go_enter Tryz.func103,Tryz.ntmps103
 go_wp2;go_ret;exact⟨iW Hn.O.symm,rfl⟩
def vE(t:List aG):Prop:=∀x∈t,x.af.length≤4294967280∧x.target.length≤4294967280
theorem Xlb(t:List aG)(q:Option aG)(x:aG)(l:List aG):fe t q (x::l)=if az x≠0 then az x else if x.ai≠1∧x.ai≠2∧x.ai≠3 then 10 else if(q.any fun y=> !(ji (els y.af) (els x.af)))then 14 else if bA t (kE x.af)≠0 then bA t (kE x.af)else fe t (some x) l:=rfl
theorem Xow{x:aG}(h:az x=0):aJ x.af=0∧(x.af≠[]∨5≤x.ai):=by
 rw[Ue]at h;split at h
 ·omega
 ·split at h
  ·contradiction
  ·rename_i h1 h2;refine⟨Classical.byContradiction h2,?_⟩;split at h
   ·omega
   ·rename_i h3;by_cases hp:x.af=[]
    ·right;exact Int.not_lt.1 fun h4=>h3 ⟨hp,h4⟩
    ·exact .inl hp
theorem PY:(Tryz.prog.info? 35).map (fun i=>(i.zero,i.size,i.bytes))=some (some (.agg #[.int .i64 0,.string ⟨#[]⟩,.slice none 0 0,.string ⟨#[]⟩,.int .i64 0,.string ⟨#[]⟩,.slice none 0 0]),7,112):=by kernel_rfl
theorem Jv(I:IH)(v:Value)(l:List _)(hv:bf bG I v l)(w:World)(hw:Ok I w)(jd:l.length*112≤140737488355328):
 Calls Tryz.prog 82 #[v] w fun e w'=> ∃v',e= .returned v'∧aP bG 35 I w' w.heap.size v' l∧Below w.heap.size w w':=by
 obtain⟨i0,hi,jY,qX,x9⟩:=info_parts PY;have q22:∀(w:World) (a:Option Addr) (n c n' c':Nat),(binOp .eql 60 (.slice a n c) (.slice none n' c')).run Tryz.prog w= .ok (.bool a.isNone) w:=fun w a n c n' c'=>Lib.run_eql_slice_nil w _ _ a n c n' c' Tryz.underlying60;obtain⟨ao,cap,xs,rfl,dO,iR,hL,hx⟩:=hv.cells hw (by decide);have HL:=Qh hL;have Hx:=Qh hx;clear hL hx hv;cases ao with
 |none=>
  have h0:l.length=0:=by
   rcases Nat.eq_zero_or_pos l.length with h|h
   ·exact h
   ·obtain⟨b,off,arr,e,_⟩:=Hx.O h;cases e
  have:l=[]:=List.eq_nil_of_length_eq_zero h0;subst this;go_enter Tryz.func82,Tryz.ntmps82
  go_wp2;go_ret;exact⟨_,rfl,aP.nil _ _ _ _ _,Qb _ _⟩
 |some a=>
  go_enter Tryz.func82,Tryz.ntmps82
  go_wp2_with (at_builtin;refine wpList_append_own _ rfl _ _ 60 rfl w.heap.size 35 i0 _ 7 112 Tryz.underlying60 hi jY qX x9 rfl (by decide) _ _ _ rfl (World.ownsRow_made w #[] 0 (Qn _) (Nat.zero_le _) (by simp)) a l.length cap xs rfl ?qc1 ?qc2 ?qc3 ?qc4 ?qc5 ?qc6 ?_)
  case qc1=>exact HL.O.1
  case qc2=>
   intro j u hj;have hl:0<l.length:=by
    have:=(List.getElem?_eq_some_iff.1 hj).1;rw[HL.O.1]at this;rcases Nat.eq_zero_or_pos l.length with h|h
    ·rw[h]at this;omega
    ·exact h
   obtain⟨b,off,arr,e,_,hb,hc⟩:=Hx.O hl;cases e;rw[Addr.add_lit];rw[World.cell?_alloc_lt _ _ _ hb];exact hc j u hj
  case qc3=>exact HL.O.oneCell
  case qc4=>rw[Nat.zero_add];omega
  case qc5=>rw[Nat.zero_add];exact jd
  case qc6=>simp
  intro v' w1 bE qK _;go_wp2;go_ret;refine⟨v',rfl,⟨xs,(by have hq:=bE;first|exact hq|(simp at hq;exact hq)),HL.O⟩,?_⟩;exact((Qb _ w).alloc (Qn _) _).grown qK (by simp) (by intro k hk;simp[Value.ownBlock]at hk;omega)
theorem Xjj(I:IH)(B:Nat)(v:Value)(l:List _)(x:_)(vb:Nat)(news:List Value)(w:World)(hv:aP bG 35 I w B v l)(hx:bG.rd I news x)
 (lS:∀j u,news[j]?=some u→w.cell? ⟨vb,j,none⟩=some u) (jd:(l.length+1)*112≤140737488355328) (hB:B≤w.heap.size):
 Calls Tryz.prog 200 #[v,.int .i64 l.length,.slice (some ⟨vb,0,none⟩) 1 1] w fun e w'=> ∃v',e= .returned v'∧aP bG 35 I w' B v' (l++[x])∧w.grownBy w' v.ownBlock:=by
 obtain⟨i0,hi,jY,qX,x9⟩:=info_parts PY;obtain⟨xs,bE,hL⟩:=hv;have HL:=Qh hL;have Hx:=Qh hx;have Ce:=Qh lS;have uU:maxLen=9223372036854775807:=rfl;have hlen:l.length≤4611686018427387904:=by omega
 clear hL hx lS;have jU:v= .slice none 0 0∧l.length=0∨ ∃g cap,v= .slice (some ⟨g,0,none⟩) l.length cap∧l.length≤cap∧cap≤9223372036854775807:=by
  rcases bE.2 with h|⟨g,cap,cur,h1,_,_,h2,h3,_⟩
  ·exact .inl h
  ·exact .inr ⟨g,cap,h1,h2,by rw[uU]at h3;exact h3⟩
 have PS:=Qh uU;clear uU;rcases jU with⟨rfl,h0⟩|⟨g,cap,rfl,dO,iR⟩
 ·have:l=[]:=List.eq_nil_of_length_eq_zero h0;subst this;go_enter Tryz.func200,Tryz.ntmps200
  go_wp2_with (at_builtin;refine wpList_append_own _ rfl _ _ 60 rfl B 35 i0 _ 7 112 Tryz.underlying60 hi jY qX x9 rfl (by decide) _ _ _ rfl bE ⟨vb,0,none⟩ 1 1 news rfl ?qc1 ?qc2 ?qc3 ?qc4 ?qc5 ?qc6 ?_)
  case qc1=>exact bG.len Hx.O
  case qc2=>intro j u hj;rw[Addr.add_lit,Nat.zero_add];exact Ce.O j u hj
  case qc3=>exact bG.one Hx.O
  case qc4=>rw[PS.O];simp
  case qc5=>simp
  case qc6=>exact hB
  intro v' w1 dz qK _;go_wp2;go_ret;exact⟨v',rfl,⟨_,dz,bS.append HL.O (bS.one Hx.O)⟩,qK⟩
 ·go_enter Tryz.func200,Tryz.ntmps200
  go_wp2_with (at_builtin;refine wpList_append_own _ rfl _ _ 60 rfl B 35 i0 _ 7 112 Tryz.underlying60 hi jY qX x9 rfl (by decide) _ _ _ rfl bE ⟨vb,0,none⟩ 1 1 news rfl (bG.len Hx.O) (fun j u hj=>by rw[Addr.add_lit,Nat.zero_add];exact Ce.O j u hj) (bG.one Hx.O) (by rw[PS.O];omega) jd hB ?_)
  all_goals
   intro v' w1 dz qK _;go_wp2;go_ret;exact⟨v',rfl,⟨_,by rw[List.length_append];exact dz,bS.append HL.O (bS.one Hx.O)⟩,qK⟩
theorem Xhi(I:IH)(B g cap i:Nat)(l:List _)(x:_)(vb:Nat)(tb:TypeId)(news:List Value)(w:World)(hv:aP bG 35 I w B (.slice (some ⟨g,0,none⟩) l.length cap) l)(hx:bG.rd I news x)
 (rQ:w.heap[vb]?=some (.cells news.toArray tb (0,0))) (bZ:vb≠g) (hi:i<l.length) (pI:l.length+1≤cap) (iR:cap≤9223372036854775807):
 Calls Tryz.prog 200 #[.slice (some ⟨g,0,none⟩) l.length cap,.int .i64 i,.slice (some ⟨vb,0,none⟩) 1 1] w fun e w'=> ∃v',e= .returned v'∧aP bG 35 I w' B v' (l.take i++x::l.drop i)∧w.grownBy w' (some g):=by
 obtain⟨i0,CV,jY,qX,x9⟩:=info_parts PY;obtain⟨xs,⟨nL,bE⟩,hL⟩:=hv;rcases bE with⟨h0,_⟩|⟨g',cap',cur,h1,CW,hg,_,AP,iU,qJ⟩
 ·cases h0
 injection h1 with uS h1b MB
 injection uS with uS
 injection uS with uS
 subst uS MB;have eU:(Tryz.prog.info? 35).map (·.size)=some 7:=by rw[CV];simp[qX]
 have vO:news.length=7:=bG.len hx;have wJ:=bG.one hx;have ui:xs.length=l.length*7:=nL;have lN:cur.size=cap*7:=iU;have mI:cur.toList.take xs.length=xs:=by rw[nL];exact qJ
 have hov:∀lb cb,(callFunc 262 #[.slice (some ⟨vb,0,none⟩) 1 1,.slice (some ⟨g,(i+1)*7,none⟩) lb cb]).run Tryz.prog w= .ok (.value (.bool false)) w:=fun lb cb=>by
  rw[run_callFunc_extern Tryz.func262 (by kernel_rfl) (by kernel_rfl) (by kernel_rfl) (e:=Extern.SlicesOverlaps.overlaps #[60,60] #[4]) (by kernel_rfl),
   Lib.run_overlaps_apart w 60 4 35 Tryz.underlying60 7 (fun w=>by simp[go_sem]) ⟨vb,0,none⟩ ⟨g,(i+1)*7,none⟩ 1 1 lb cb bZ tb 35 7 cur.size (by simp[World.shape?,rQ,vO]) (by simp[World.shape?,hg]) (by omega) (by simp[World.frozen?,rQ]) (by simp[World.frozen?,rQ])]
  rfl
 obtain⟨kC,qA⟩:∃c,c=over cur (i*7+7) (xs.drop (i*7)):=⟨_,rfl⟩;have pG:kC.size=cur.size:=by rw[qA];exact Db _ _ _ (by rw[List.length_drop];omega)
 obtain⟨ry,qB⟩:∃c,c=over kC (i*7) news:=⟨_,rfl⟩;have pX:ry.size=kC.size:=by rw[qB];exact Db _ _ _ (by omega)
 have je:ry.toList.take ((l.length+1)*7)=xs.take (i*7)++news++xs.drop (i*7):=by
  have:=insert_row cur xs news (i*7) 7 (by omega) mI vO (by omega);rw[←qA,←qB]at this;rw[show(l.length+1)*7=xs.length+7 by omega];exact this
 have AQ:∀ty dc sc,(Builtin.copy_ #[60,60] ty #[.slice (some ⟨g,(i+1)*7,none⟩) (l.length-i) dc,.slice (some ⟨g,i*7,none⟩) (l.length+1-i) sc]).run Tryz.prog w.drew= .ok (goInt ((l.length-i:Nat):Int)) (w.drew.setRow g kC):=fun ty dc sc=>by
  have h:=FP (P:=Tryz.prog) w.drew 60 60 ty 35 7 g ((i+1)*7) (l.length-i) dc ⟨g,i*7,none⟩ (l.length+1-i) sc cur 35 (xs.drop (i*7)) Tryz.underlying60 eU hg (by rw[List.length_drop];simp only[Nat.min_def];split<;>omega)
   (fun j u hj=>by
     rw[Addr.add_lit];rw[List.getElem?_drop,←mI,List.getElem?_take]at hj;split at hj
     ·rw[World.cell?_drew,cell_of_row w g _ cur _ _ hg,←Array.getElem?_toList];exact hj
     ·cases hj) (by rw[List.length_drop];omega) (fun u hu=>hL.oneCell u (List.mem_of_mem_drop hu))
  rw[h,show Nat.min (l.length+1-i) (l.length-i)=l.length-i by simp only[Nat.min_def];split<;>omega,qA];rw[show(i+1)*7=i*7+7 by omega];rfl
 have hg1:(w.drew.setRow g kC).heap[g]?=some (.cells kC 35 (0,0)):=setRow_heap w.drew g cur kC _ _ hg;have AR:∀ty dc,(Builtin.copy_ #[60,60] ty #[.slice (some ⟨g,i*7,none⟩) (l.length+1-i) dc,.slice (some ⟨vb,0,none⟩) 1 1]).run Tryz.prog (w.drew.setRow g kC)= .ok (goInt 1) ((w.drew.setRow g kC).setRow g ry):=fun ty dc=>by
  have h:=FP (P:=Tryz.prog) (w.drew.setRow g kC) 60 60 ty 35 7 g (i*7) (l.length+1-i) dc ⟨vb,0,none⟩ 1 1 kC 35 news Tryz.underlying60 eU hg1 (by rw[vO];simp only[Nat.min_def];split<;>omega)
   (fun j u hj=>by
     rw[Addr.add_lit,Nat.zero_add];have:(w.drew.setRow g kC).heap[vb]?=some (.cells news.toArray tb (0,0)):=by rw[setRow_other _ _ _ _ bZ];exact rQ
     rw[cell_of_row _ vb j _ _ _ this];simpa using hj) (by omega) wJ
  rw[h,show Nat.min 1 (l.length+1-i)=1 by simp only[Nat.min_def];split<;>omega,qB];rfl
 have sU:=Qh (show(xs.take (i*7)++news++xs.drop (i*7)).length=(l.length+1)*7 by simp;omega);have zS:=Qh (show ry.size=cap*7 by omega);have om:=Qh je;have HL:=Qh hL;have Hx:=Qh hx;have uj:=Qh hg1;have au:¬(cap=i+1):=by omega
 have aF:¬(cap=i):=by omega
 clear je hL hx hg1 qA qB nL ui iU lN qJ mI vO wJ rQ AP hg;have uN:IntKind.i64.wrap ((i:Int)+1)=(i:Int)+1:=IntWalk.i64_in _ (by omega);have zg:0≤(i:Int)+1:=by omega
 have oP:((i:Int)+1).toNat=i+1:=by omega
 have BH:i≤l.length:=by omega
 have Jp:(i:Int)≤(l.length:Int)+1:=by omega
 go_enter Tryz.func200,Tryz.ntmps200
 go_wp2_with (simp only[hov])
 go_region_law (refine step_copy_runI rfl _ _ 60 60 rfl _ _ (by simp[Act.eval,Act.put]) (by simp[Act.eval,Act.put]) (AQ _ _ _) ?_)
 go_wp2_with (at_builtin;refine wpList_copy_runI _ rfl _ _ 60 60 rfl _ _ rfl rfl (AR _ _) ?_)
 go_ret;have BJ:(l.take i++x::l.drop i).length=l.length+1:=by simp;omega
 refine⟨_,rfl,?_,?_⟩
 ·unfold aP;rw[BJ];refine⟨xs.take (i*7)++news++xs.drop (i*7),⟨sU.O,.inr ⟨g,cap,ry,rfl,CW,setRow_heap _ g kC ry _ _ uj.O,by omega,by unfold maxLen;omega,zS.O,om.O⟩⟩,?_⟩;have:=((HL.O.take i).append (bS.one Hx.O)).append (HL.O.drop i);rwa[show l.take i++[x]++l.drop i=l.take i++x::l.drop i by simp]at this
 ·have h0:w.grownBy w.drew (some g):=⟨rfl,rfl,rfl,Qn _,fun _ _ _=>rfl⟩;exact Nw (Nw h0 BP) BP
theorem Xiz(I:IH)(B g cap i:Nat)(l:List _)(x:_)(vb:Nat)(tb:TypeId)(news:List Value)(w:World)(hv:aP bG 35 I w B (.slice (some ⟨g,0,none⟩) l.length cap) l)(hx:bG.rd I news x)
 (rQ:w.heap[vb]?=some (.cells news.toArray tb (0,0))) (hi:i<l.length) (pI:cap<l.length+1) (jd:(l.length+1)*112≤140737488355328) (hB:B≤w.heap.size):
 Calls Tryz.prog 200 #[.slice (some ⟨g,0,none⟩) l.length cap,.int .i64 i,.slice (some ⟨vb,0,none⟩) 1 1] w fun e w'=> ∃v',e= .returned v'∧aP bG 35 I w' B v' (l.take i++x::l.drop i)∧w.grownBy w' (some g):=by
 obtain⟨i0,CV,jY,qX,x9⟩:=info_parts PY;obtain⟨xs,⟨nL,bE⟩,hL⟩:=hv;rcases bE with⟨h0,_⟩|⟨g',cap',cur,h1,CW,hg,IR,AP,iU,qJ⟩
 ·cases h0
 injection h1 with uS h1b MB
 injection uS with uS
 injection uS with uS
 subst uS MB;have eU:(Tryz.prog.info? 35).map (·.size)=some 7:=by rw[CV];simp[qX]
 have vO:news.length=7:=bG.len hx;have wJ:=bG.one hx;have ui:xs.length=l.length*7:=nL;have lN:cur.size=cap*7:=iU;have mI:cur.toList.take xs.length=xs:=by rw[nL];exact qJ
 have hgw:g<w.heap.size:=(Qg hg);have hvw:vb<w.heap.size:=(Qg rQ);have pM:∀(j:Nat) u,xs[j]?=some u→w.cell? ⟨g,j,none⟩=some u:=fun j u hj=>by
  rw[←mI,List.getElem?_take]at hj;split at hj
  ·rw[cell_of_row w g _ cur _ _ hg,←Array.getElem?_toList];exact hj
  ·cases hj
 have hold:(Builtin.firstCells i0.size i (.slice (some ⟨g,0,none⟩) i cap)).run Tryz.prog w.drew= .ok (xs.take (i*7)).toArray w.drew:=
  run_firstCells_some w.drew i0.size i ⟨g,0,none⟩ i cap (xs.take (i*7)) (by rw[qX,List.length_take];omega) (fun j u hj=>by
   rw[Addr.add_lit,Nat.zero_add];rw[List.getElem?_take]at hj;split at hj
   ·exact pM j u hj
   ·cases hj)
 obtain⟨G,hG⟩:∃G,G=grownCap w (l.length+1) cap 35:=⟨_,rfl⟩;have hGn:l.length+1≤G:=by rw[hG];exact grownCap_ge w _ _ _
 have aat:G≤9223372036854775807:=by
  have:=grownCap_le_maxLen w (l.length+1) cap 35 (by unfold maxLen;omega);rw[←hG]at this;unfold maxLen at this;omega
 obtain⟨z,hz⟩:∃z,i0.zero=some z:=⟨_,jY⟩;have Fv:z.cells.size=7:=by rw[hz]at jY;cases jY;rfl
 obtain⟨ROW,xM⟩:∃ROW:Array Value,ROW=(xs.take (i*7)).toArray++Builtin.zeroCells z.cells (l.length+1-i)++Builtin.zeroCells z.cells (G-(l.length+1)):=⟨_,rfl⟩;have hRs:ROW.size=G*7:=by
  rw[xM,Array.size_append,Array.size_append,size_zeroCells,size_zeroCells,Fv];simp;omega
 have PT:ROW.toList.take (i*7)=xs.take (i*7):=by
  rw[xM,Array.toList_append,Array.toList_append,List.append_assoc,List.take_append_of_le_length (by simp;omega),List.take_of_length_le (by simp;omega)]
 have SB:∀ty,(Builtin.append_ #[60,3] ty #[.slice (some ⟨g,0,none⟩) i cap,.int .i64 ((l.length:Int)+1-(i:Int))]).run Tryz.prog w=
  .ok (.slice (some ⟨w.heap.size,0,none⟩) (l.length+1) G) (w.drew.alloc (.cells ROW 35)):=fun ty=>by
  have h:=Lib.run_append_grow_zeros w 60 3 ty 35 i0 z .i64 .i64 Tryz.underlying60 Tryz.underlying3 CV hz (some ⟨g,0,none⟩) i cap (xs.take (i*7)) hold (l.length+1-i) (by omega) (by rw[qX];omega) (by omega) (by omega) (by rw[x9];omega) (by rw[x9,show i+(l.length+1-i)=l.length+1 by omega];exact growslice_fits pI jd);rw[show i+(l.length+1-i)=l.length+1 by omega,←hG,←xM]at h;rw[show(l.length:Int)+1-(i:Int)=((l.length+1-i:Nat):Int) by omega];exact h
 obtain⟨jK,qL⟩:∃c,c=over ROW (i*7) news:=⟨_,rfl⟩;have pX:jK.size=ROW.size:=by rw[qL];exact Db _ _ _ (by omega)
 obtain⟨oW,qM⟩:∃c,c=over jK (i*7+7) (xs.drop (i*7)):=⟨_,rfl⟩;have AU:oW.size=jK.size:=by rw[qM];exact Db _ _ _ (by rw[List.length_drop];omega)
 have je:oW.toList.take ((l.length+1)*7)=xs.take (i*7)++news++xs.drop (i*7):=by
  have:=Xir ROW xs news (i*7) 7 (by omega) PT vO (by omega);rw[←qL,←qM]at this;rw[show(l.length+1)*7=xs.length+7 by omega];exact this
 obtain⟨W1,AV⟩:∃W1,W1=w.drew.alloc (.cells ROW 35):=⟨_,rfl⟩;have ME:W1.heap[w.heap.size]?=some (.cells ROW 35 (0,0)):=by rw[AV];exact heap_alloc_new w.drew _
 have MG:∀b,b<w.heap.size→W1.heap[b]?=w.heap[b]? :=fun b hb=>by rw[AV];exact Below.heap_alloc w.drew _ b hb
 rw[←AV]at SB;have MH:∀ty dc,(Builtin.copy_ #[60,60] ty #[.slice (some ⟨w.heap.size,i*7,none⟩) (l.length+1-i) dc,.slice (some ⟨vb,0,none⟩) 1 1]).run Tryz.prog W1= .ok (goInt 1) (W1.setRow w.heap.size jK):=fun ty dc=>by
  have h:=FP (P:=Tryz.prog) W1 60 60 ty 35 7 w.heap.size (i*7) (l.length+1-i) dc ⟨vb,0,none⟩ 1 1 ROW 35 news Tryz.underlying60 eU ME (by rw[vO];simp only[Nat.min_def];split<;>omega)
   (fun j u hj=>by
     rw[Addr.add_lit,Nat.zero_add,cell_of_row _ vb j _ _ _ ((MG vb hvw).trans rQ)];simpa using hj) (by omega) wJ
  rw[h,show Nat.min 1 (l.length+1-i)=1 by simp only[Nat.min_def];split<;>omega,qL];rfl
 have KI:(W1.setRow w.heap.size jK).heap[w.heap.size]?=some (.cells jK 35 (0,0)):=setRow_heap W1 w.heap.size ROW jK _ _ ME;have MI:∀ty dc sc,(Builtin.copy_ #[60,60] ty #[.slice (some ⟨w.heap.size,(i+1)*7,none⟩) (l.length-i) dc,.slice (some ⟨g,i*7,none⟩) (l.length-i) sc]).run Tryz.prog (W1.setRow w.heap.size jK).drew= .ok (goInt ((l.length-i:Nat):Int)) ((W1.setRow w.heap.size jK).drew.setRow w.heap.size oW):=fun ty dc sc=>by
  have h:=FP (P:=Tryz.prog) (W1.setRow w.heap.size jK).drew 60 60 ty 35 7 w.heap.size ((i+1)*7) (l.length-i) dc ⟨g,i*7,none⟩ (l.length-i) sc jK 35 (xs.drop (i*7)) Tryz.underlying60 eU KI (by rw[List.length_drop];simp only[Nat.min_def];split<;>omega)
   (fun j u hj=>by
     rw[Addr.add_lit];rw[List.getElem?_drop]at hj;have hgg:(W1.setRow w.heap.size jK).heap[g]?=some (.cells cur 35 (0,0)):=by rw[setRow_other _ _ _ _ (by omega),MG g hgw];exact hg
     rw[World.cell?_drew,cell_of_row _ g _ cur _ _ hgg,←cell_of_row w g _ cur _ _ hg];exact pM _ u hj) (by rw[List.length_drop];omega) (fun u hu=>hL.oneCell u (List.mem_of_mem_drop hu))
  rw[h,show Nat.min (l.length-i) (l.length-i)=l.length-i by simp only[Nat.min_def];split<;>omega,qM];rw[show(i+1)*7=i*7+7 by omega];rfl
 have sU:=Qh (show(xs.take (i*7)++news++xs.drop (i*7)).length=(l.length+1)*7 by simp;omega);have zS:=Qh (show oW.size=G*7 by omega);have om:=Qh je;have HL:=Qh hL;have Hx:=Qh hx;have Xc:=Qh KI;have OL:=Qh AV;have au:¬(G=i+1):=by omega
 have aF:¬(G=i):=by omega
 have cO:¬(cap=i):=by omega
 clear je hL hx KI ME qL qM xM hRs PT nL ui iU lN qJ mI vO wJ rQ AP hg hold pM MG AV hG hz jY Fv pX AU;have uN:IntKind.i64.wrap ((i:Int)+1)=(i:Int)+1:=IntWalk.i64_in _ (by omega);have zg:0≤(i:Int)+1:=by omega
 have oP:((i:Int)+1).toNat=i+1:=by omega
 have BH:i≤l.length:=by omega
 have Jp:(i:Int)≤(l.length:Int)+1:=by omega
 go_enter Tryz.func200,Tryz.ntmps200
 go_wp2_with (first
  |(at_builtin;refine Lib.wpList_append_run _ rfl _ _ _ _ rfl _ _ rfl rfl _ _ (SB _) ?_)
  |(at_builtin;refine wpList_copy_runI _ rfl _ _ 60 60 rfl _ _ rfl rfl (MH _ _) ?_))
 go_region_law (refine step_copy_runI rfl _ _ 60 60 rfl _ _ (by simp[Act.eval,Act.put]) (by simp[Act.eval,Act.put]) (MI _ _ _) ?_)
 go_wp2;go_ret;have BJ:(l.take i++x::l.drop i).length=l.length+1:=by simp;omega
 refine⟨_,rfl,?_,?_⟩
 ·unfold aP;rw[BJ];refine⟨xs.take (i*7)++news++xs.drop (i*7),⟨sU.O,.inr ⟨w.heap.size,G,oW,rfl,hB,setRow_heap _ w.heap.size jK oW _ _ Xc.O,hGn,by unfold maxLen;omega,zS.O,om.O⟩⟩,?_⟩;have:=((HL.O.take i).append (bS.one Hx.O)).append (HL.O.drop i);rwa[show l.take i++[x]++l.drop i=l.take i++x::l.drop i by simp]at this
 ·rw[OL.O];exact⟨rfl,rfl,rfl,by simp,fun k hk _=>by
   rw[setRow_other _ _ _ _ (by omega)];show((w.drew.alloc (.cells ROW 35)).setRow w.heap.size jK).heap[k]?=_;rw[setRow_other _ _ _ _ (by omega)];exact Below.heap_alloc w.drew _ k hk⟩
theorem Xrc(I:IH)(B:Nat)(v:Value)(l:List _)(x:_)(vb i:Nat)(tb:TypeId)(news:List Value)(w:World)(hv:aP bG 35 I w B v l)(hx:bG.rd I news x)
 (rQ:w.heap[vb]?=some (.cells news.toArray tb (0,0))) (bZ:v.ownBlock≠some vb) (hi:i≤l.length) (jd:(l.length+1)*112≤140737488355328) (hB:B≤w.heap.size):
 Calls Tryz.prog 200 #[v,.int .i64 i,.slice (some ⟨vb,0,none⟩) 1 1] w fun e w'=> ∃v',e= .returned v'∧aP bG 35 I w' B v' (l.take i++x::l.drop i)∧w.grownBy w' v.ownBlock:=by
 by_cases he:i=l.length
 ·subst he;rw[List.take_length,List.drop_length];exact Xjj I B v l x vb news w hv hx (fun j u hj=>by rw[cell_of_row w vb j _ _ _ rQ];simpa using hj) jd hB
 ·have jU:∃g cap,v= .slice (some ⟨g,0,none⟩) l.length cap∧cap≤maxLen:=by
   obtain⟨xs,⟨_,bE⟩,_⟩:=hv;rcases bE with⟨_,h⟩|⟨g,cap,cur,h1,_,_,_,h3,_⟩
   ·omega
   ·exact⟨g,cap,h1,h3⟩
  obtain⟨g,cap,rfl,iR⟩:=jU;by_cases hr:l.length+1≤cap
  ·exact Xhi I B g cap i l x vb tb news w hv hx rQ (fun e=>bZ (by rw[e];rfl)) (by omega) hr (by unfold maxLen at iR;omega)
  ·exact Xiz I B g cap i l x vb tb news w hv hx rQ (by omega) (by omega) jd hB
theorem Xnv(w:World)(t e ty:TypeId)(z:Value)(ht:P.underlying t=some (.slice e))(hv:∀w,(zeroValue e).run P w= .ok z w)(g o n c:Nat)(h1:∀u∈(Builtin.zeroCells z.cells n).toList,u.oneCell'=true)(hn:0<n)(cur:Array Value)(tt:TypeId)
 (hg:w.heap[g]?=some (.cells cur tt (0,0))) (nJ:o+n*z.cells.size≤cur.size):
 (Builtin.clear_ #[t] ty #[.slice (some ⟨g,o,none⟩) n c]).run P w= .ok (.tuple #[]) (w.setRow g (cur.toList.take o++(Builtin.zeroCells z.cells n).toList++cur.toList.drop (o+n*z.cells.size)).toArray):=by
 have hl:(Builtin.zeroCells z.cells n).toList.length=n*z.cells.size:=by rw[Array.length_toList,size_zeroCells]
 have gB:=run_storeCells_at (P:=P) g o tt (Builtin.zeroCells z.cells n).toList 0 cur w hg (by rw[hl];omega) h1;rw[hl]at gB;simp only[Nat.add_zero]at gB;obtain⟨m,rfl⟩:∃m,n=m+1:=⟨n-1,by omega⟩;simp[Builtin.clear_,run_underlying ht,hv,gB]
theorem Xi{ops:Array Oper}{rest:List Oper}{op:Oper}{a:Act}{Q:Exit→Act→World→Prop}(CK:op.guard=none)(ty:TypeId)(x y:Operand)(ho:op.op= .store ty x y)
 (g o:Nat) (cs:List Value) (hx:a.eval x= .pointer (some ⟨g,o,none⟩)) (hy:a.eval y= .agg cs.toArray) (cur:Array Value) (tt:TypeId)
 (hg:w.heap[g]?=some (.cells cur tt (0,0))) (nJ:o+cs.length≤cur.size) (hi:(P.info? ty).map (·.size)=some cs.length) (h1:∀v∈cs,v.oneCell'=true)
 (h:wpList P ops Q rest (a.put op.dst undef) (w.setRow g (over cur o cs))):wpList P ops Q (op::rest) a w:=by
 refine wpList_plain CK fun _ hK=> ?_;have gB:=run_storeCells_at (P:=P) g o tt cs 0 cur w hg (by simpa using nJ) h1;have OJ:(storeVar ty ⟨g,o,none⟩ (.agg cs.toArray)).run P w= .ok () (w.setRow g (over cur o cs)):=by
  cases hq:P.info? ty with
  |none=>simp[hq]at hi
  |some i=>
   have hs:cs.length=i.size:=by simp[hq]at hi;omega
   simp only[Nat.add_zero]at gB;simp[storeVar,sizeOf,typeInfo,hq,Value.cells,hs,gB,over]
 unfold Oper.wp execOp;simp only[ho,hx,hy,Instr.storeAt,Instr.sureAddr,Sem.run_bind,Sem.run_pure,Result.andThen_ok,OJ];exact hK _ _ h
theorem Xso(cur:Array Value)(o m:Nat)(cs:List Value)(h:o+cs.length≤m)(ho:o≤cur.size):(over cur o cs).toList.drop m=cur.toList.drop m:=by
 simp only[over];rw[List.drop_append,List.drop_eq_nil_of_le (by simp;omega),List.nil_append,List.drop_drop];congr 1;simp;omega
theorem Xj{B:Nat}{w':World}{r:Option Nat}(h:Below B w w')(hB:w.heap.size≤B):w.grownBy w' r:=
 ⟨h.os,h.tape,h.output,h.size,fun k hk _=>h.block k (by omega)⟩
structure rz (I:IH) (gb:Nat) (cur:Array Value) (w0:World) (F:List aG) (j:Nat) (X:World):Prop where
 nz:∃arr,X.heap[gb]?=some (.cells arr 35 (0,0))∧arr.size=cur.size∧bS bG I (arr.toList.take (F.length*7)) F∧arr.toList.drop (j*7)=cur.toList.drop (j*7)
 grown:w0.grownBy X (some gb)
section
variable {I:IH} {gb j:Nat} {cur:Array Value} {w0 X X':World} {F:List aG}
theorem rz.pass(h:rz I gb cur w0 F j X)(hb:Below X.heap.size X X'):rz I gb cur w0 F j X':=by
 obtain⟨arr,h1,h2⟩:=h.nz;have hlt:gb<X.heap.size:=(Qg h1);refine⟨⟨arr,(hb.block _ hlt).trans h1,h2⟩,?_⟩;exact⟨hb.os.trans h.grown.os,hb.tape.trans h.grown.tape,hb.output.trans h.grown.output,Nat.le_trans h.grown.size hb.size,fun k hk bZ=>(hb.block k (Nat.lt_of_lt_of_le hk h.grown.size)).trans (h.grown.block k hk bZ)⟩
theorem rz.next(h:rz I gb cur w0 F j X):rz I gb cur w0 F (j+1) X:=by
 obtain⟨arr,h1,h2,h3,h4⟩:=h.nz;refine⟨⟨arr,h1,h2,h3,?_⟩,h.grown⟩;rw[show(j+1)*7=j*7+7 by omega,←List.drop_drop,h4,List.drop_drop]
theorem rz.put{arr:Array Value}(h:rz I gb cur w0 F j X)(h1:X.heap[gb]?=some (.cells arr 35 (0,0)))(x:aG)(cs:List Value)(iU:bG.rd I cs x)(hF:F.length≤j)(hj:j*7+7≤cur.size):
 rz I gb cur w0 (F++[x]) (j+1) (X.setRow gb (over arr (F.length*7) cs)):=by
 obtain⟨ake,Gp,h2,h3,h4⟩:=h.nz;rw[h1]at Gp;cases Gp;have gI:cs.length=7:=bG.len iU;refine⟨⟨_,setRow_heap _ _ _ _ _ _ h1,by rw[Db _ _ _ (by omega),h2],?_,?_⟩,Nw h.grown BP⟩
 ·rw[List.length_append,List.length_singleton,show(F.length+1)*7=F.length*7+cs.length by omega,V6 _ _ _ (by omega)];exact h3.append (bS.one iU)
 ·rw[Xso _ _ _ _ (by omega) (by omega),show(j+1)*7=j*7+7 by omega,←List.drop_drop,h4,List.drop_drop]
theorem rz.cell(h:rz I gb cur w0 F j X)(q:Nat)(hq:j*7≤q):X.cell? ⟨gb,q,none⟩=cur[q]? :=by
 obtain⟨arr,h1,h2,h3,h4⟩:=h.nz;rw[cell_of_row X gb q _ _ _ h1,←Array.getElem?_toList,←Array.getElem?_toList];have e1:=congrArg (fun L=>L[q-j*7]?) h4;simp only[List.getElem?_drop]at e1;rwa[show j*7+(q-j*7)=q by omega]at e1
end
theorem Xv4:∀w,(zeroValue 35).run Tryz.prog w= .ok (.agg aC) w:=Tryz.zeroValue35
theorem Xmw(n:Nat):∀u∈(Builtin.zeroCells (Value.agg aC).cells n).toList,u.oneCell'=true:=by
 intro u hu;simp only[Builtin.zeroCells,Value.cells]at hu;rw[Array.mem_toList_iff,Array.mem_map]at hu;obtain⟨i,_,rfl⟩:=hu;have h7:i%aC.size<7:=Nat.mod_lt _ (by decide);rcases(show i%aC.size=0∨i%aC.size=1∨i%aC.size=2∨i%aC.size=3∨i%aC.size=4∨i%aC.size=5∨i%aC.size=6 by omega)with h|h|h|h|h|h|h<;>rw[h]<;>rfl
theorem Xeg(I:IH)(B:Nat)(v:Value)(l:List aG)(w:World)(hv:aP bG 35 I w B v l)(hn:l.length≤1000000)(g:Nat)(cb:Array Value)(p:aG→Bool)(hw:Ok I w)(hI:∀b,B≤b→I b=none)(_hB:B≤w.heap.size)(eg:∀args w,(callFunc g args).run Tryz.prog w= .ok (.enter g args) w)(hp:yN g cb l p (fun W=>w.grownBy W v.ownBlock)):
 Calls Tryz.prog 197 #[v,.func (.func g) #[] cb] w fun e w'=> ∃v',e= .returned v'∧aP bG 35 I w' B v' (l.filter fun x=> !(p x))∧w.grownBy w' v.ownBlock:=by
 obtain⟨I',jH,jW,lU,hI4⟩:=hv.freeze hw hI;have hpa:yN g cb l p (Below w.heap.size w):=fun x hx a1 a2 c1 c2 W hW=>hp x hx a1 a2 c1 c2 W (Xj hW (Qn _));have hlen:=lU.bW;have Hp:=Qh hp;have wY:=Qh (Xe8 I' v l lU g cb p w jW eg hpa);have Heg:=Qh eg;have HI3:=Qh lU;have Hv:=Qh hv;clear hp hpa eg lU;have lS:∃ao cap,v= .slice ao l.length cap∧cap≤9223372036854775807:=by
  obtain⟨ao,cap,e,_,iR,_⟩:=id HI3.O;exact⟨ao,cap,e,by unfold maxLen at iR;omega⟩
 obtain⟨ao,cap,rfl,iR⟩:=lS;rcases KC l p with⟨i,hi,e1,e2,e3⟩|⟨e1,e2⟩
 ·have bI:∃gb cur,ao=some ⟨gb,0,none⟩∧B≤gb∧w.heap[gb]?=some (.cells cur 35 (0,0))∧l.length≤cap∧cur.size=cap*7∧bS bG I (cur.toList.take (l.length*7)) l:=by
   obtain⟨xs,⟨_,h1⟩,hL⟩:=Hv.O;rcases h1 with⟨_,h0⟩|⟨gb,cap',cur,e,r1,r2,r3,r4,r5,r6⟩
   ·omega
   ·cases e;refine⟨gb,cur,rfl,r1,r2,r3,r5,?_⟩;have r6':cur.toList.take (l.length*7)=xs:=r6;rw[r6'];exact hL
  obtain⟨gb,cur,rfl,CW,uo,hlc,iU,hL⟩:=bI;rw[e1]at wY;have ll:((i:Int)== -1)=false:=by rw[beq_eq_false_iff_ne];omega
  have Xk:((l.take (i+1)).filter fun x=> !(p x))=l.take i:=by
   rw[List.take_succ_eq_append_getElem hi,List.filter_append];have:((l.take i).filter fun x=> !(p x))=l.take i:=List.filter_eq_self.2 fun x hx=>by
    cases hpx:p x with
    |false=>rfl
    |true=>rw[List.any_eq_true.2 ⟨x,hx,hpx⟩]at e3;exact absurd e3 (by simp)
   rw[this];simp[e2]
  have lQ:∀j (h:j<l.length),∃a1 a2 c1 c2,bf lT I (.slice a1 l[j].ag.length c1) l[j].ag∧bf mr I (.slice a2 l[j].ak.length c2) l[j].ak∧ ∀q u,(dB l[j] (.slice a1 l[j].ag.length c1) (.slice a2 l[j].ak.length c2))[q]?=some u→cur[j*7+q]?=some u:=by
   intro j hj;obtain⟨cs,⟨va,vx,iU,h1,h2⟩,hc⟩:=hL.2 j hj;obtain⟨a1,c1,rfl,_,_,_⟩:=id h1;obtain⟨a2,c2,rfl,_,_,_⟩:=id h2;refine⟨a1,a2,c1,c2,h1,h2,fun q u hu=> ?_⟩;have h3:=hc q u (by rw[iU];exact hu);have hs:bG.size=7:=rfl;rw[hs,List.getElem?_take]at h3;split at h3
   ·rw[←Array.getElem?_toList];exact h3
   ·cases h3
  have PZ:=Qh lQ;have JZ:∀X,Below w.heap.size w X→rz I gb cur w ((l.take (i+1)).filter fun x=> !(p x)) (i+1) X:=by
   intro X hX;have hlt:gb<w.heap.size:=(Qg uo);refine⟨⟨cur,(hX.block _ hlt).trans uo,rfl,?_,rfl⟩,Xj hX (Qn _)⟩;rw[Xk,List.length_take,Nat.min_eq_left (by omega)];have:=hL.take i;have hs:bG.size=7:=rfl;rwa[hs,List.take_take,Nat.min_eq_left (by omega)]at this
  have Hm0:=Qh JZ;have Xl:((l.take (i+1)).filter fun x=> !(p x)).length=i:=by rw[Xk,List.length_take];omega
  have Xm:=Qh Xl;have lV:(Tryz.prog.info? 35).map (·.size)=some 7:=by kernel_rfl
  have Cg:=Qh lV;clear e1 e2 e3 Xk lQ JZ Xl hL uo hI4 hv lV;go_enter Tryz.func197,Tryz.ntmps197
  go_wp2_with fail
  refine wY.O.mono ?_;rintro e w1 ⟨rfl,au⟩;have Jl:=Qh (Hm0.O w1 au);clear au Hm0;go_wp2_with fail
  go_loopw [5,6] (fun s5 s6 X=> ∃(j:Nat) (F:List aG),i+1≤j∧j≤l.length∧s6= .int .i64 j∧s5= .int .i64 F.length∧F.length<j∧F=((l.take j).filter fun x=> !(p x))∧rz I gb cur w F j X) (fun _ j _=>l.length-(intOf j).toNat)
  case atStart=>exact⟨i+1,_,Qn _,hi,by go_num,by rw[Xm.O],by rw[Xm.O];omega,rfl,Jl.O⟩
  case round=>
   clear Jl Xm;obtain⟨j,F,Mj,uO,rfl,rfl,hFj,hF,hm⟩:=hrel;have HF:=Qh hF;have Hm:=Qh hm;clear hF hm;by_cases hlt:j<l.length
   ·obtain⟨a1,a2,c1,c2,h1,h2,hc⟩:=PZ.O j hlt;obtain⟨x,bH⟩:∃x,l[j]=x:=⟨_,rfl⟩;have qY:x∈l:=by rw[←bH];exact List.getElem_mem hlt
    rw[bH]at h1 h2 hc;have nk:=(Hm.O.cell (j*7) (Qn _)).trans (hc 0 _ rfl);have qW:=(Hm.O.cell (j*7+1) (by omega)).trans (hc 1 _ rfl);have xJ:=(Hm.O.cell (j*7+2) (by omega)).trans (hc 2 _ rfl);have ML:=(Hm.O.cell (j*7+3) (by omega)).trans (hc 3 _ rfl);have hc4:=(Hm.O.cell (j*7+4) (by omega)).trans (hc 4 _ rfl);have hc5:=(Hm.O.cell (j*7+5) (by omega)).trans (hc 5 _ rfl);have hc6:=(Hm.O.cell (j*7+6) (by omega)).trans (hc 6 _ rfl);have H12:=Qh (show bG.rd I (dB x (.slice a1 x.ag.length c1) (.slice a2 x.ak.length c2)) x from⟨_,_,rfl,h1,h2⟩);have bB:=Qh (show((l.take (j+1)).filter fun x=> !(p x))=F++(if p x then []else [x]) by
     rw[List.take_succ_eq_append_getElem hlt,bH,List.filter_append,←HF.O];cases h:p x<;>simp[h])
    have kS:=Qh (Hp.O x qY a1 a2 c1 c2);clear bH hc qY h1 h2;have eg:=Heg.O;go_wp2_with fail
    have Xn:=Hm.O.pass ((Qb _ wr).alloc (Qn _) (.cells #[.int .i64 x.ai,S x.af,.slice a1 x.ag.length c1,S x.target,.int .i64 x.size,S x.aj,.slice a2 x.ak.length c2] 35));refine(kS.O _ Xn.grown).mono ?_;rintro e w4 ⟨rfl,aM⟩;obtain⟨d0,d1,d2,d3,d4,d5,d6⟩:=cB rfl aM;have FY:=Qh (Xn.pass aM);have dF:gb<w4.heap.size:=by
     obtain⟨arr,h1,_⟩:=FY.O.nz;exact(Qg h1)
    clear Xn aM nk qW xJ ML hc4 hc5 hc6 eg;cases hpx:p x
    ·have iD:=Qh (show F++[x]=((l.take (j+1)).filter fun x=> !(p x)) by rw[bB.O,hpx];simp);obtain⟨arr,xL,uP,_⟩:=FY.O.nz;have KM:=Qh xL;have nJ:F.length*7+7≤arr.size:=by omega
     have Xl:F.length<l.length:=by omega
     clear hpx xL uP;go_wp2_with (refine Xi rfl 35 _ _ rfl gb (F.length*7) (dB x (.slice a1 x.ag.length c1) (.slice a2 x.ak.length c2)) (by simp[Act.eval]) rfl arr 35 KM.O nJ Cg.O (bG.one H12.O) ?_)
     go_roundw;case rel=>exact⟨j+1,F++[x],by omega,by omega,by go_num,(by rw[List.length_append,List.length_singleton];go_num),(by rw[List.length_append,List.length_singleton];omega),iD.O,FY.O.put KM.O x _ H12.O (by omega) (by omega)⟩
     case measure=>simp[intOf];omega
    ·have iD:=Qh (show F=((l.take (j+1)).filter fun x=> !(p x)) by rw[bB.O,hpx];simp);clear hpx;go_wp2;go_roundw;case rel=>exact⟨j+1,F,by omega,by omega,by go_num,rfl,by omega,iD.O,FY.O.next⟩
     case measure=>simp[intOf];omega
   ·have hje:j=l.length:=by omega
    have HF2:=Qh (show F=l.filter fun x=> !(p x) by rw[HF.O,List.take_of_length_le (by omega)]);obtain⟨arr,xL,uP,Da,FZ⟩:=Hm.O.nz;have adu:F.length<l.length:=by omega
    have IR:¬F.length=cap:=by omega
    have gI:=fun ty=>Xnv (P:=Tryz.prog) wr 60 35 ty _ Tryz.underlying60 Xv4 gb (F.length*7) (l.length-F.length) (cap-F.length) (Xmw _) (by omega) arr 35 xL (by show F.length*7+(l.length-F.length)*7≤arr.size;omega);have Xo:=Qh (show arr.size=cur.size∧bS bG I (arr.toList.take (F.length*7)) F from⟨uP,Da⟩);have KM:=Qh xL;have uT:=Hm.O.grown;clear xL uP Da FZ hje;go_wp2_with fail
    go_ret;have hzl:(Builtin.zeroCells aC (l.length-F.length)).toList.length=(l.length-F.length)*7:=by rw[Array.length_toList,size_zeroCells];rfl
    obtain⟨uP,Da⟩:=Xo.O;have nM:arr.toList.length=cap*7:=by rw[Array.length_toList,uP,iU]
    rw[←HF2.O];refine⟨_,rfl,⟨_,⟨Da.1,.inr ⟨gb,cap,_,rfl,CW,setRow_heap _ _ _ _ _ _ KM.O,by omega,by unfold maxLen;omega,?_,?_⟩⟩,Da⟩,Nw uT BP⟩
    ·rw[List.size_toArray,List.length_append,List.length_append,hzl,List.length_take,List.length_drop,nM];show min (F.length*7) (cap*7)+((l.length-F.length)*7+(cap*7-(F.length*7+(l.length-F.length)*7)))=cap*7;omega
    ·show((arr.toList.take (F.length*7)++_).toArray).toList.take (F.length*7)=arr.toList.take (F.length*7);rw[List.toList_toArray,List.take_append_of_le_length (by rw[List.length_take,nM];omega),List.take_take,Nat.min_self]
 ·rw[e1]at wY;have Hf:=Qh (show(l.filter fun x=> !(p x))=l from List.filter_eq_self.2 fun x hx=>by
   cases hpx:p x with
   |false=>rfl
   |true=>rw[List.any_eq_true.2 ⟨x,hx,hpx⟩]at e2;exact absurd e2 (by simp))
  clear e1 e2 hv hI4;go_enter Tryz.func197,Tryz.ntmps197
  go_wp2_with fail
  refine wY.O.mono ?_;rintro e w1 ⟨rfl,au⟩;go_wp2;go_ret;exact⟨_,rfl,by rw[Hf.O];exact Hv.O.below au,Xj au (Qn _)⟩
