/- Lemmas for the claim's theorem;conditions: as each says. -/
import Derived.Test.YtdodihnehppnmaaGreatDoorG07
import Derived.Laws.EntriesVeiled
import Derived.Lib.MinMax
set_option maxHeartbeats 0
set_option maxRecDepth 100000
set_option linter.all false
namespace Go.Proofs.YtdodihnehppnmaaGreatDoor
open Go.RowKit
variable{s:ae}{z:Int}{a:Nat}{t:ae}{n:Nat}
theorem Xt0{W W':World}{row:Option Nat}(hb:Below W.heap.size W W'):W.grownBy W' row:=⟨hb.os,hb.tape,hb.output,hb.size,fun k hk _=>hb.block k hk⟩
theorem Xsf(h:strOf s t n= .error z):(z !=0)=true:=by
 unfold strOf at h;split at h
 ·injection h with h;subst h;rfl
 ·split at h
  ·injection h with h;subst h;rfl
  ·split at h
   ·injection h with h;subst h;rfl
   ·cases h
theorem Xtb(h:numOf t n= .error z):(z !=0)=true:=by
 unfold numOf at h;split at h
 ·injection h with h;subst h;rfl
 ·split at h
  ·injection h with h;subst h;rfl
  ·cases h
theorem ze(h:rdStr s a= .error z):(z !=0)=true:=by
 unfold rdStr at h;cases hu:dM s a 58 with
 |error e=>
  rw[hu]at h;injection h with h
  subst h;rcases Tp hu with rfl|rfl<;>rfl
 |ok p=>rw[hu,aR]at h;exact Xsf h
theorem DC(h:rdNum s a= .error z):(z !=0)=true:=by
 unfold rdNum at h;cases hu:dM s a 32 with
 |error e=>
  rw[hu]at h;injection h with h
  subst h;rcases Tp hu with rfl|rfl<;>rfl
 |ok p=>rw[hu,aR]at h;exact Xtb h
theorem WG{most:Int}(h:gW most s a= .error z):(z !=0)=true:=by
 unfold gW at h;cases hu:rdNum s a with
 |error e=>rw[hu]at h;injection h with h;subst h;exact DC hu
 |ok p=>
  rw[hu,aR]at h;split at h
  ·injection h with h;subst h;rfl
  ·cases h
theorem Xi0(I:IH)(hI:dG I)(s:ae)(hs:s.length≤4294967280)(n ba a:Nat)(w:World)(hw:Ok I w)(hB:vg w n s ba)(hA:uh w ba a)(ha:a≤4294967280)(most x:Int)(b:Nat)(h:gW most s a= .ok (x,b)):
 Calls Tryz.prog 235 #[.int .i64 most,dJ (n+2),dJ (n+3)] w fun e w'=>e= .returned (.int .i64 x)∧uh w' ba b∧w.grownBy w' (some ba):=by
 have he:=Tg h;have hn:rdNum s a= .ok (x,b):=by
  unfold gW at h;cases hu:rdNum s a with
  |error e=>rw[hu]at h;cases h
  |ok p=>
   rw[hu,aR]at h;split at h
   ·cases h
   ·exact h
 have DD:=Qh (Nq I hI s hs n ba a w hw hB hA ha x b hn);have c2:=cell0 hB.r2;have d1:decide (x<0)=false:=Qf (by omega);have d2:decide (most<x)=false:=Qf (by omega);clear h he hn hB hA;go_enter Tryz.func235,Tryz.ntmps235
 go_wp2_with fail
 refine DD.O.mono ?_;rintro e w1 ⟨rfl,Aq,hg1⟩;go_wp2;go_ret;exact⟨rfl,Aq,hg1⟩
theorem Xg6(I:IH)(hI:dG I)(s:ae)(hs:s.length≤4294967280)(n ba a:Nat)(w:World)(hw:Ok I w)(hB:vg w n s ba)(hA:uh w ba a)(ha:a≤4294967280)(most z:Int)(h:gW most s a= .error z):
 Calls Tryz.prog 235 #[.int .i64 most,dJ (n+2),dJ (n+3)] w fun e w'=>e=vM z∧w.grownBy w' (some ba):=by
 have c2:=cell0 hB.r2;unfold gW at h;cases hu:rdNum s a with
 |error e=>
  rw[hu]at h;injection h with h
  subst h;have DD:=Qh (Pn I hI s hs n ba a w hw hB hA ha e (DC hu) hu);clear hu hB hA;go_enter Tryz.func235,Tryz.ntmps235
  go_wp2_with fail
  refine DD.O.mono ?_;rintro e w1 ⟨rfl,au⟩;go_wp2;exact⟨rfl,rfl,Xt0 au⟩
 |ok p=>
  obtain⟨x,b⟩:=p;rw[hu,aR]at h;split at h
  ·rename_i k;injection h with h
   subst h;have DD:=Qh (Nq I hI s hs n ba a w hw hB hA ha x b hu);have Hb:=Qh hB;have hlt:=hB.lt;have k:x<0∨most<x:=k;have jI:decide (x<0)=true∨(decide (x<0)=false∧decide (most<x)=true):=by
    by_cases h0:x<0
    ·exact .inl (Qt h0)
    ·exact .inr ⟨Qf h0,Qt (by omega)⟩
   clear hu hB hA k;rcases jI with d1|⟨d1,d2⟩
   all_goals
    go_enter Tryz.func235,Tryz.ntmps235
    go_wp2_with fail
    refine DD.O.mono ?_;rintro e w1 ⟨rfl,Aq,hg1⟩;have c3:=cell0 (Hb.O.own hg1 (fun g q=>by injection q with q;omega)).r3;go_wp2_with fail
    refine(WE 2 rfl _).mono ?_;rintro e w2 ⟨rfl,rfl⟩;go_wp2;exact⟨rfl,rfl,hg1⟩
  ·cases h
theorem Xv7{fn:Func}{p u q:Tmp}{ty:TypeId}(h:fn.results=#[.cell p ty,.tmp u,.tmp q])(tmps:Array Value)(P:Program)(w:World):
 (results fn tmps).run P w=
   ((asAddr (tmps.getD p undef)).run P w).andThen fun a w₁=>((loadVar ty a).run P w₁).andThen fun v w₂=> .ok (.tuple #[v,tmps.getD u undef,tmps.getD q undef]) w₂:=by
 simp only[results,h];simp[Sem.run_bind,Result.andThen]
section
variable (w:World) (a b c d:Array Value) (s t u v:TypeId)
theorem Xp8:((((w.alloc (.cells a s)).alloc (.cells b t)).alloc (.cells c u)).alloc (.cells d v)).heap[w.heap.size]?=some (.cells a s (0,0)):=by
 rw[Below.heap_alloc _ _ _ (by simp<;>omega),Below.heap_alloc _ _ _ (by simp<;>omega),Below.heap_alloc _ _ _ (by simp<;>omega),heap_alloc_new]
theorem Xp9:((((w.alloc (.cells a s)).alloc (.cells b t)).alloc (.cells c u)).alloc (.cells d v)).heap[w.heap.size+1]?=some (.cells b t (0,0)):=by
 have:=heap_alloc_new (w.alloc (.cells a s)) (.cells b t);rw[World.size_alloc]at this;rw[Below.heap_alloc _ _ _ (by simp<;>omega),Below.heap_alloc _ _ _ (by simp<;>omega),this]
theorem Xqa:((((w.alloc (.cells a s)).alloc (.cells b t)).alloc (.cells c u)).alloc (.cells d v)).heap[w.heap.size+2]?=some (.cells c u (0,0)):=by
 have:=heap_alloc_new ((w.alloc (.cells a s)).alloc (.cells b t)) (.cells c u);rw[World.size_alloc,World.size_alloc]at this;rw[Below.heap_alloc _ _ _ (by simp<;>omega),this]
theorem Xqb:((((w.alloc (.cells a s)).alloc (.cells b t)).alloc (.cells c u)).alloc (.cells d v)).heap[w.heap.size+3]?=some (.cells d v (0,0)):=by
 have:=heap_alloc_new (((w.alloc (.cells a s)).alloc (.cells b t)).alloc (.cells c u)) (.cells d v);rw[World.size_alloc,World.size_alloc,World.size_alloc]at this;exact this
end
theorem Xnd(s:ae)(ba:Nat)(w:World)(xA:ba<w.heap.size):
 Calls Tryz.prog 160 #[S s,dJ ba] w fun e w'=>e= .returned (.tuple #[zI w.heap.size,BF w.heap.size,cntF w.heap.size])∧vg w' w.heap.size s ba∧Below w.heap.size w w'∧w'.heap.size=w.heap.size+4:=by
 have hmf:∀(fn:Fn) (first cap:Array Value) (w:World),(Instr.makeFunc fn first cap).run Tryz.prog w= .ok (.func fn first cap) w:=fun _ _ _ _=>rfl;go_enter Tryz.func160,Tryz.ntmps160
 go_wp2;refine bodyPost_ret (v:= .tuple #[zI w.heap.size,BF w.heap.size,cntF w.heap.size]) ?_ rfl ?_
 ·rw[Xv7 rfl];simp[asAddr,go_sem]
 ·refine⟨rfl,⟨?_,?_,?_,?_,xA⟩,?_,?_⟩
  ·exact Xp8 w _ _ _ _ _ _ _ _
  ·exact Xp9 w _ _ _ _ _ _ _ _
  ·exact Xqa w _ _ _ _ _ _ _ _
  ·exact Xqb w _ _ _ _ _ _ _ _
  ·exact((((Qb _ _).alloc (Qn _) _).alloc (by simp<;>omega) _).alloc (by simp<;>omega) _).alloc (by simp<;>omega) _
  ·simp
theorem Xk8(I:IH)(B:Nat)(v:Value)(l:List _)(x:_)(vb:Nat)(news:List Value)(w:World)(hv:aM jq 227 I w B v l)(hx:jq.rd I news x)
 (Db:∀j u,news[j]?=some u→w.cell? ⟨vb,j,none⟩=some u) (iW:(l.length+1)*24≤140737488355328) (hB:B≤w.heap.size):
 Calls Tryz.prog 248 #[v,.int .i64 l.length,.slice (some ⟨vb,0,none⟩) 1 1] w fun e w'=> ∃v',e= .returned v'∧aM jq 227 I w' B v' (l++[x])∧w.grownBy w' v.ownBlock:=by
 obtain⟨i0,hi,lD,oQ,uR⟩:=info_parts Tj;obtain⟨xs,bJ,hL⟩:=hv;have HL:=Qh hL;have Hx:=Qh hx;have DF:=Qh Db;have uM:maxLen=9223372036854775807:=rfl;have hlen:l.length≤4611686018427387904:=by omega
 clear hL hx Db;have jI:v= .slice none 0 0∧l.length=0∨ ∃g cap,v= .slice (some ⟨g,0,none⟩) l.length cap∧l.length≤cap∧cap≤9223372036854775807:=by
  rcases bJ.2 with h|⟨g,cap,cur,h1,_,_,h2,h3,_⟩
  ·exact .inl h
  ·exact .inr ⟨g,cap,h1,h2,by rw[uM]at h3;exact h3⟩
 have Po:=Qh uM;clear uM;rcases jI with⟨rfl,h0⟩|⟨g,cap,rfl,dD,il⟩
 ·have:l=[]:=List.eq_nil_of_length_eq_zero h0;subst this;go_enter Tryz.func248,Tryz.ntmps248
  go_wp2_with (at_builtin;refine wpList_append_own _ rfl _ _ 101 rfl B 227 i0 _ 2 24 Tryz.underlying101 hi lD oQ uR rfl (by decide) _ _ _ rfl bJ ⟨vb,0,none⟩ 1 1 news rfl ?qc1 ?qc2 ?qc3 ?qc4 ?qc5 ?qc6 ?_)
  case qc1=>exact jq.len Hx.O
  case qc2=>intro j u hj;rw[Addr.add_lit,Nat.zero_add];exact DF.O j u hj
  case qc3=>exact jq.one Hx.O
  case qc4=>rw[Po.O];simp
  case qc5=>simp
  case qc6=>exact hB
  intro v' w1 dA qL _;go_wp2;go_ret;exact⟨v',rfl,⟨_,dA,bR.append HL.O (bR.one Hx.O)⟩,qL⟩
 ·go_enter Tryz.func248,Tryz.ntmps248
  go_wp2_with (at_builtin;refine wpList_append_own _ rfl _ _ 101 rfl B 227 i0 _ 2 24 Tryz.underlying101 hi lD oQ uR rfl (by decide) _ _ _ rfl bJ ⟨vb,0,none⟩ 1 1 news rfl (jq.len Hx.O) (fun j u hj=>by rw[Addr.add_lit,Nat.zero_add];exact DF.O j u hj) (jq.one Hx.O) (by rw[Po.O];omega) iW hB ?_)
  all_goals
   intro v' w1 dA qL _;go_wp2;go_ret;exact⟨v',rfl,⟨_,by rw[List.length_append];exact dA,bR.append HL.O (bR.one Hx.O)⟩,qL⟩
theorem Xio(I:IH)(B g cap i:Nat)(l:List _)(x:_)(vb:Nat)(tb:TypeId)(news:List Value)(w:World)(hv:aM jq 227 I w B (.slice (some ⟨g,0,none⟩) l.length cap) l)(hx:jq.rd I news x)
 (pX:w.heap[vb]?=some (.cells news.toArray tb (0,0))) (cK:vb≠g) (hi:i<l.length) (pu:l.length+1≤cap) (il:cap≤9223372036854775807):
 Calls Tryz.prog 248 #[.slice (some ⟨g,0,none⟩) l.length cap,.int .i64 i,.slice (some ⟨vb,0,none⟩) 1 1] w fun e w'=> ∃v',e= .returned v'∧aM jq 227 I w' B v' (l.take i++x::l.drop i)∧w.grownBy w' (some g):=by
 obtain⟨i0,Cw,lD,oQ,uR⟩:=info_parts Tj;obtain⟨xs,⟨mP,bJ⟩,hL⟩:=hv;rcases bJ with⟨h0,_⟩|⟨g',cap',cur,h1,Cx,hg,_,Ar,iY,qJ⟩
 ·cases h0
 injection h1 with uK h1b Mg
 injection uK with uK
 injection uK with uK
 subst uK Mg;have eU:(Tryz.prog.info? 227).map (·.size)=some 2:=by rw[Cw];simp[oQ]
 have uL:news.length=2:=jq.len hx;have vZ:=jq.one hx;have ui:xs.length=l.length*2:=mP;have lv:cur.size=cap*2:=iY;have mg:cur.toList.take xs.length=xs:=by rw[mP];exact qJ
 have hov:∀lb cb,(callFunc 277 #[.slice (some ⟨vb,0,none⟩) 1 1,.slice (some ⟨g,(i+1)*2,none⟩) lb cb]).run Tryz.prog w= .ok (.value (.bool false)) w:=fun lb cb=>by
  rw[run_callFunc_extern Tryz.func277 (by kernel_rfl) (by kernel_rfl) (by kernel_rfl) (e:=Extern.SlicesOverlaps.overlaps #[101,101] #[4]) (by kernel_rfl),
   Lib.run_overlaps_apart w 101 4 227 Tryz.underlying101 2 (fun w=>by simp[go_sem]) ⟨vb,0,none⟩ ⟨g,(i+1)*2,none⟩ 1 1 lb cb cK tb 227 2 cur.size (by simp[World.shape?,pX,uL]) (by simp[World.shape?,hg]) (by omega) (by simp[World.frozen?,pX]) (by simp[World.frozen?,pX])]
  rfl
 obtain⟨jW,qy⟩:∃c,c=over cur (i*2+2) (xs.drop (i*2)):=⟨_,rfl⟩;have oD:jW.size=cur.size:=by rw[qy];exact CG _ _ _ (by rw[List.length_drop];omega)
 obtain⟨rA,qz⟩:∃c,c=over jW (i*2) news:=⟨_,rfl⟩;have oV:rA.size=jW.size:=by rw[qz];exact CG _ _ _ (by omega)
 have iX:rA.toList.take ((l.length+1)*2)=xs.take (i*2)++news++xs.drop (i*2):=by
  have:=insert_row cur xs news (i*2) 2 (by omega) mg uL (by omega);rw[←qy,←qz]at this;rw[show(l.length+1)*2=xs.length+2 by omega];exact this
 have Au:∀ty dc sc,(Builtin.copy_ #[101,101] ty #[.slice (some ⟨g,(i+1)*2,none⟩) (l.length-i) dc,.slice (some ⟨g,i*2,none⟩) (l.length+1-i) sc]).run Tryz.prog w.drew= .ok (goInt ((l.length-i:Nat):Int)) (w.drew.setRow g jW):=fun ty dc sc=>by
  have h:=Fg (P:=Tryz.prog) w.drew 101 101 ty 227 2 g ((i+1)*2) (l.length-i) dc ⟨g,i*2,none⟩ (l.length+1-i) sc cur 227 (xs.drop (i*2)) Tryz.underlying101 eU hg (by rw[List.length_drop];simp only[Nat.min_def];split<;>omega)
   (fun j u hj=>by
     rw[Addr.add_lit];rw[List.getElem?_drop,←mg,List.getElem?_take]at hj;split at hj
     ·rw[World.cell?_drew,cell_of_row w g _ cur _ _ hg,←Array.getElem?_toList];exact hj
     ·cases hj) (by rw[List.length_drop];omega) (fun u hu=>hL.oneCell u (List.mem_of_mem_drop hu))
  rw[h,show Nat.min (l.length+1-i) (l.length-i)=l.length-i by simp only[Nat.min_def];split<;>omega,qy];rw[show(i+1)*2=i*2+2 by omega];rfl
 have hg1:(w.drew.setRow g jW).heap[g]?=some (.cells jW 227 (0,0)):=setRow_heap w.drew g cur jW _ _ hg;have Av:∀ty dc,(Builtin.copy_ #[101,101] ty #[.slice (some ⟨g,i*2,none⟩) (l.length+1-i) dc,.slice (some ⟨vb,0,none⟩) 1 1]).run Tryz.prog (w.drew.setRow g jW)= .ok (goInt 1) ((w.drew.setRow g jW).setRow g rA):=fun ty dc=>by
  have h:=Fg (P:=Tryz.prog) (w.drew.setRow g jW) 101 101 ty 227 2 g (i*2) (l.length+1-i) dc ⟨vb,0,none⟩ 1 1 jW 227 news Tryz.underlying101 eU hg1 (by rw[uL];simp only[Nat.min_def];split<;>omega)
   (fun j u hj=>by
     rw[Addr.add_lit,Nat.zero_add];have:(w.drew.setRow g jW).heap[vb]?=some (.cells news.toArray tb (0,0)):=by rw[setRow_other _ _ _ _ cK];exact pX
     rw[cell_of_row _ vb j _ _ _ this];simpa using hj) (by omega) vZ
  rw[h,show Nat.min 1 (l.length+1-i)=1 by simp only[Nat.min_def];split<;>omega,qz];rfl
 have sU:=Qh (show(xs.take (i*2)++news++xs.drop (i*2)).length=(l.length+1)*2 by simp;omega);have zF:=Qh (show rA.size=cap*2 by omega);have nM:=Qh iX;have HL:=Qh hL;have Hx:=Qh hx;have zJ:=Qh hg1;have au:¬(cap=i+1):=by omega
 have aD:¬(cap=i):=by omega
 clear iX hL hx hg1 qy qz mP ui iY lv qJ mg uL vZ pX Ar hg;have uF:IntKind.i64.wrap ((i:Int)+1)=(i:Int)+1:=IntWalk.i64_in _ (by omega);have yY:0≤(i:Int)+1:=by omega
 have oF:((i:Int)+1).toNat=i+1:=by omega
 have Bg:i≤l.length:=by omega
 have II:(i:Int)≤(l.length:Int)+1:=by omega
 go_enter Tryz.func248,Tryz.ntmps248
 go_wp2_with (simp only[hov])
 go_region_law (refine step_copy_runI rfl _ _ 101 101 rfl _ _ (by simp[Act.eval,Act.put]) (by simp[Act.eval,Act.put]) (Au _ _ _) ?_)
 go_wp2_with (at_builtin;refine wpList_copy_runI _ rfl _ _ 101 101 rfl _ _ rfl rfl (Av _ _) ?_)
 go_ret;have EP:(l.take i++x::l.drop i).length=l.length+1:=by simp;omega
 refine⟨_,rfl,?_,?_⟩
 ·unfold aM;rw[EP];refine⟨xs.take (i*2)++news++xs.drop (i*2),⟨sU.O,.inr ⟨g,cap,rA,rfl,Cx,setRow_heap _ g jW rA _ _ zJ.O,by omega,by unfold maxLen;omega,zF.O,nM.O⟩⟩,?_⟩;have:=((HL.O.take i).append (bR.one Hx.O)).append (HL.O.drop i);rwa[show l.take i++[x]++l.drop i=l.take i++x::l.drop i by simp]at this
 ·have h0:w.grownBy w.drew (some g):=⟨rfl,rfl,rfl,Qn _,fun _ _ _=>rfl⟩;exact Nb (Nb h0 Bp) Bp
theorem Xjn(I:IH)(B g cap i:Nat)(l:List _)(x:_)(vb:Nat)(tb:TypeId)(news:List Value)(w:World)(hv:aM jq 227 I w B (.slice (some ⟨g,0,none⟩) l.length cap) l)(hx:jq.rd I news x)
 (pX:w.heap[vb]?=some (.cells news.toArray tb (0,0))) (hi:i<l.length) (pu:cap<l.length+1) (iW:(l.length+1)*24≤140737488355328) (hB:B≤w.heap.size):
 Calls Tryz.prog 248 #[.slice (some ⟨g,0,none⟩) l.length cap,.int .i64 i,.slice (some ⟨vb,0,none⟩) 1 1] w fun e w'=> ∃v',e= .returned v'∧aM jq 227 I w' B v' (l.take i++x::l.drop i)∧w.grownBy w' (some g):=by
 obtain⟨i0,Cw,lD,oQ,uR⟩:=info_parts Tj;obtain⟨xs,⟨mP,bJ⟩,hL⟩:=hv;rcases bJ with⟨h0,_⟩|⟨g',cap',cur,h1,Cx,hg,Ob,Ar,iY,qJ⟩
 ·cases h0
 injection h1 with uK h1b Mg
 injection uK with uK
 injection uK with uK
 subst uK Mg;have eU:(Tryz.prog.info? 227).map (·.size)=some 2:=by rw[Cw];simp[oQ]
 have uL:news.length=2:=jq.len hx;have vZ:=jq.one hx;have ui:xs.length=l.length*2:=mP;have lv:cur.size=cap*2:=iY;have mg:cur.toList.take xs.length=xs:=by rw[mP];exact qJ
 have hgw:g<w.heap.size:=(Qg hg);have hvw:vb<w.heap.size:=(Qg pX);have pG:∀(j:Nat) u,xs[j]?=some u→w.cell? ⟨g,j,none⟩=some u:=fun j u hj=>by
  rw[←mg,List.getElem?_take]at hj;split at hj
  ·rw[cell_of_row w g _ cur _ _ hg,←Array.getElem?_toList];exact hj
  ·cases hj
 have hold:(Builtin.firstCells i0.size i (.slice (some ⟨g,0,none⟩) i cap)).run Tryz.prog w.drew= .ok (xs.take (i*2)).toArray w.drew:=
  run_firstCells_some w.drew i0.size i ⟨g,0,none⟩ i cap (xs.take (i*2)) (by rw[oQ,List.length_take];omega) (fun j u hj=>by
   rw[Addr.add_lit,Nat.zero_add];rw[List.getElem?_take]at hj;split at hj
   ·exact pG j u hj
   ·cases hj)
 obtain⟨G,hG⟩:∃G,G=grownCap w (l.length+1) cap 227:=⟨_,rfl⟩;have hGn:l.length+1≤G:=by rw[hG];exact grownCap_ge w _ _ _
 have aai:G≤9223372036854775807:=by
  have:=grownCap_le_maxLen w (l.length+1) cap 227 (by unfold maxLen;omega);rw[←hG]at this;unfold maxLen at this;omega
 obtain⟨z,hz⟩:∃z,i0.zero=some z:=⟨_,lD⟩;have EQ:z.cells.size=2:=by rw[hz]at lD;cases lD;rfl
 obtain⟨ROW,xq⟩:∃ROW:Array Value,ROW=(xs.take (i*2)).toArray++Builtin.zeroCells z.cells (l.length+1-i)++Builtin.zeroCells z.cells (G-(l.length+1)):=⟨_,rfl⟩;have hRs:ROW.size=G*2:=by
  rw[xq,Array.size_append,Array.size_append,size_zeroCells,size_zeroCells,EQ];simp;omega
 have Pp:ROW.toList.take (i*2)=xs.take (i*2):=by
  rw[xq,Array.toList_append,Array.toList_append,List.append_assoc,List.take_append_of_le_length (by simp;omega),List.take_of_length_le (by simp;omega)]
 have RP:∀ty,(Builtin.append_ #[101,3] ty #[.slice (some ⟨g,0,none⟩) i cap,.int .i64 ((l.length:Int)+1-(i:Int))]).run Tryz.prog w=
  .ok (.slice (some ⟨w.heap.size,0,none⟩) (l.length+1) G) (w.drew.alloc (.cells ROW 227)):=fun ty=>by
  have h:=Lib.run_append_grow_zeros w 101 3 ty 227 i0 z .i64 .i64 Tryz.underlying101 Tryz.underlying3 Cw hz (some ⟨g,0,none⟩) i cap (xs.take (i*2)) hold (l.length+1-i) (by omega) (by rw[oQ];omega) (by omega) (by omega) (by rw[uR];omega) (by rw[uR,show i+(l.length+1-i)=l.length+1 by omega];exact growslice_fits pu iW);rw[show i+(l.length+1-i)=l.length+1 by omega,←hG,←xq]at h;rw[show(l.length:Int)+1-(i:Int)=((l.length+1-i:Nat):Int) by omega];exact h
 obtain⟨jr,qM⟩:∃c,c=over ROW (i*2) news:=⟨_,rfl⟩;have oV:jr.size=ROW.size:=by rw[qM];exact CG _ _ _ (by omega)
 obtain⟨oJ,qN⟩:∃c,c=over jr (i*2+2) (xs.drop (i*2)):=⟨_,rfl⟩;have Aw:oJ.size=jr.size:=by rw[qN];exact CG _ _ _ (by rw[List.length_drop];omega)
 have iX:oJ.toList.take ((l.length+1)*2)=xs.take (i*2)++news++xs.drop (i*2):=by
  have:=Xim ROW xs news (i*2) 2 (by omega) Pp uL (by omega);rw[←qM,←qN]at this;rw[show(l.length+1)*2=xs.length+2 by omega];exact this
 obtain⟨W1,ER⟩:∃W1,W1=w.drew.alloc (.cells ROW 227):=⟨_,rfl⟩;have Mh:W1.heap[w.heap.size]?=some (.cells ROW 227 (0,0)):=by rw[ER];exact heap_alloc_new w.drew _
 have Mi:∀b,b<w.heap.size→W1.heap[b]?=w.heap[b]? :=fun b hb=>by rw[ER];exact Below.heap_alloc w.drew _ b hb
 rw[←ER]at RP;have Mj:∀ty dc,(Builtin.copy_ #[101,101] ty #[.slice (some ⟨w.heap.size,i*2,none⟩) (l.length+1-i) dc,.slice (some ⟨vb,0,none⟩) 1 1]).run Tryz.prog W1= .ok (goInt 1) (W1.setRow w.heap.size jr):=fun ty dc=>by
  have h:=Fg (P:=Tryz.prog) W1 101 101 ty 227 2 w.heap.size (i*2) (l.length+1-i) dc ⟨vb,0,none⟩ 1 1 ROW 227 news Tryz.underlying101 eU Mh (by rw[uL];simp only[Nat.min_def];split<;>omega)
   (fun j u hj=>by
     rw[Addr.add_lit,Nat.zero_add,cell_of_row _ vb j _ _ _ ((Mi vb hvw).trans pX)];simpa using hj) (by omega) vZ
  rw[h,show Nat.min 1 (l.length+1-i)=1 by simp only[Nat.min_def];split<;>omega,qM];rfl
 have Kt:(W1.setRow w.heap.size jr).heap[w.heap.size]?=some (.cells jr 227 (0,0)):=setRow_heap W1 w.heap.size ROW jr _ _ Mh;have Mk:∀ty dc sc,(Builtin.copy_ #[101,101] ty #[.slice (some ⟨w.heap.size,(i+1)*2,none⟩) (l.length-i) dc,.slice (some ⟨g,i*2,none⟩) (l.length-i) sc]).run Tryz.prog (W1.setRow w.heap.size jr).drew= .ok (goInt ((l.length-i:Nat):Int)) ((W1.setRow w.heap.size jr).drew.setRow w.heap.size oJ):=fun ty dc sc=>by
  have h:=Fg (P:=Tryz.prog) (W1.setRow w.heap.size jr).drew 101 101 ty 227 2 w.heap.size ((i+1)*2) (l.length-i) dc ⟨g,i*2,none⟩ (l.length-i) sc jr 227 (xs.drop (i*2)) Tryz.underlying101 eU Kt (by rw[List.length_drop];simp only[Nat.min_def];split<;>omega)
   (fun j u hj=>by
     rw[Addr.add_lit];rw[List.getElem?_drop]at hj;have hgg:(W1.setRow w.heap.size jr).heap[g]?=some (.cells cur 227 (0,0)):=by rw[setRow_other _ _ _ _ (by omega),Mi g hgw];exact hg
     rw[World.cell?_drew,cell_of_row _ g _ cur _ _ hgg,←cell_of_row w g _ cur _ _ hg];exact pG _ u hj) (by rw[List.length_drop];omega) (fun u hu=>hL.oneCell u (List.mem_of_mem_drop hu))
  rw[h,show Nat.min (l.length-i) (l.length-i)=l.length-i by simp only[Nat.min_def];split<;>omega,qN];rw[show(i+1)*2=i*2+2 by omega];rfl
 have sU:=Qh (show(xs.take (i*2)++news++xs.drop (i*2)).length=(l.length+1)*2 by simp;omega);have zF:=Qh (show oJ.size=G*2 by omega);have nM:=Qh iX;have HL:=Qh hL;have Hx:=Qh hx;have WH:=Qh Kt;have HW1:=Qh ER;have au:¬(G=i+1):=by omega
 have aD:¬(G=i):=by omega
 have bU:¬(cap=i):=by omega
 clear iX hL hx Kt Mh qM qN xq hRs Pp mP ui iY lv qJ mg uL vZ pX Ar hg hold pG Mi ER hG hz lD EQ oV Aw;have uF:IntKind.i64.wrap ((i:Int)+1)=(i:Int)+1:=IntWalk.i64_in _ (by omega);have yY:0≤(i:Int)+1:=by omega
 have oF:((i:Int)+1).toNat=i+1:=by omega
 have Bg:i≤l.length:=by omega
 have II:(i:Int)≤(l.length:Int)+1:=by omega
 go_enter Tryz.func248,Tryz.ntmps248
 go_wp2_with (first
  |(at_builtin;refine Lib.wpList_append_run _ rfl _ _ _ _ rfl _ _ rfl rfl _ _ (RP _) ?_)
  |(at_builtin;refine wpList_copy_runI _ rfl _ _ 101 101 rfl _ _ rfl rfl (Mj _ _) ?_))
 go_region_law (refine step_copy_runI rfl _ _ 101 101 rfl _ _ (by simp[Act.eval,Act.put]) (by simp[Act.eval,Act.put]) (Mk _ _ _) ?_)
 go_wp2;go_ret;have EP:(l.take i++x::l.drop i).length=l.length+1:=by simp;omega
 refine⟨_,rfl,?_,?_⟩
 ·unfold aM;rw[EP];refine⟨xs.take (i*2)++news++xs.drop (i*2),⟨sU.O,.inr ⟨w.heap.size,G,oJ,rfl,hB,setRow_heap _ w.heap.size jr oJ _ _ WH.O,hGn,by unfold maxLen;omega,zF.O,nM.O⟩⟩,?_⟩;have:=((HL.O.take i).append (bR.one Hx.O)).append (HL.O.drop i);rwa[show l.take i++[x]++l.drop i=l.take i++x::l.drop i by simp]at this
 ·rw[HW1.O];exact⟨rfl,rfl,rfl,by simp,fun k hk _=>by
   rw[setRow_other _ _ _ _ (by omega)];show((w.drew.alloc (.cells ROW 227)).setRow w.heap.size jr).heap[k]?=_;rw[setRow_other _ _ _ _ (by omega)];exact Below.heap_alloc w.drew _ k hk⟩
theorem Xm2(I:IH)(B:Nat)(v:Value)(l:List _)(x:_)(vb i:Nat)(tb:TypeId)(news:List Value)(w:World)(hv:aM jq 227 I w B v l)(hx:jq.rd I news x)
 (pX:w.heap[vb]?=some (.cells news.toArray tb (0,0))) (cK:v.ownBlock≠some vb) (hi:i≤l.length) (iW:(l.length+1)*24≤140737488355328) (hB:B≤w.heap.size):
 Calls Tryz.prog 248 #[v,.int .i64 i,.slice (some ⟨vb,0,none⟩) 1 1] w fun e w'=> ∃v',e= .returned v'∧aM jq 227 I w' B v' (l.take i++x::l.drop i)∧w.grownBy w' v.ownBlock:=by
 by_cases he:i=l.length
 ·subst he;rw[List.take_length,List.drop_length];exact Xk8 I B v l x vb news w hv hx (fun j u hj=>by rw[cell_of_row w vb j _ _ _ pX];simpa using hj) iW hB
 ·have jI:∃g cap,v= .slice (some ⟨g,0,none⟩) l.length cap∧cap≤maxLen:=by
   obtain⟨xs,⟨_,bJ⟩,_⟩:=hv;rcases bJ with⟨_,h⟩|⟨g,cap,cur,h1,_,_,_,h3,_⟩
   ·omega
   ·exact⟨g,cap,h1,h3⟩
  obtain⟨g,cap,rfl,il⟩:=jI;by_cases hr:l.length+1≤cap
  ·exact Xio I B g cap i l x vb tb news w hv hx pX (fun e=>cK (by rw[e];rfl)) (by omega) hr (by unfold maxLen at il;omega)
  ·exact Xjn I B g cap i l x vb tb news w hv hx pX (by omega) (by omega) iW hB
theorem Xmz(h:Ho):∀{l:List Ho},l.any (fun x=>decide (0<ic x.p h.p))=false→jd h l=l.take l.length++h::l.drop l.length
 | [],_=>rfl
 |x::l,hn=>by
  rw[List.any_cons,Bool.or_eq_false_iff]at hn;have hx:gU (els h.p) (els x.p)=false:=by
   have:=of_decide_eq_false hn.1;cases k:gU (els h.p) (els x.p)with
   |false=>rfl
   |true=>
    exfalso;apply this;unfold ic;rw[MO k,k];simp
  rw[jd,if_neg (by simp[hx]),Xmz h hn.2];simp
theorem Xp5(h:Ho):∀{l:List Ho} {i:Nat} (hi:i<l.length),decide (0<ic l[i].p h.p)=true→(l.take i).any (fun x=>decide (0<ic x.p h.p))=false→jd h l=l.take i++h::l.drop i
 | [],_,hi,_,_=>absurd hi (by simp)
 |x::l,0,_,hp,_=>by
  have hx:gU (els h.p) (els x.p)=true:=by
   have:=of_decide_eq_true hp;have h2:0<ic x.p h.p:=this;unfold ic at h2;split at h2
   ·omega
   ·split at h2
    ·assumption
    ·omega
  rw[jd,if_pos hx];rfl
 |x::l,i+1,hi,hp,hn=>by
  rw[List.take_succ_cons,List.any_cons,Bool.or_eq_false_iff]at hn;have hx:gU (els h.p) (els x.p)=false:=by
   have:=of_decide_eq_false hn.1;cases k:gU (els h.p) (els x.p)with
   |false=>rfl
   |true=>
    exfalso;apply this;unfold ic;rw[MO k,k];simp
  rw[jd,if_neg (by simp[hx]),Xp5 h (l:=l) (by simpa using hi) hp hn.2];rfl
theorem Xn1{p:ae}{l:List Ho}{k:Nat}{cur U:Int}{x:Ho}(hk:k<l.length)(hx:l[k]=x)(h:gH p (l.drop k) cur=U):gH p (l.drop (k+1)) (if x.p=p then max cur x.u else cur)=U:=by
 rw[List.drop_eq_getElem_cons hk,hx,gH]at h;exact h
theorem Xnv{l:List Ho}{e:ay}{d:Int}(hk:e.ag=5):appH l e d=(jd ⟨e.af,gH e.af (fu l d) (digits e.target)⟩ (gV (fu l d) e.af),0):=by rw[appH,if_pos hk]
theorem Xxw{l:List Ho}{e:ay}{d:Int}(hk:e.ag=6)(h:(gV (fu l d) e.af).length≠(fu l d).length):appH l e d=(gV (fu l d) e.af,0):=by
 rw[appH,if_neg (by omega),if_pos hk,if_pos];cases hh:wy (fu l d) e.af with
 |true=>rfl
 |false=>exact absurd (xV.2 hh) h
theorem Xvj{l:List Ho}{e:ay}{d:Int}(hk:e.ag=6)(h:(gV (fu l d) e.af).length=(fu l d).length):appH l e d=([],9):=by
 rw[appH,if_neg (by omega),if_pos hk,if_neg];rw[xV.1 h];simp
theorem Xqw{l:List Ho}{e:ay}{d:Int}(h5:e.ag≠5)(h6:e.ag≠6):appH l e d=(fu l d,0):=by
 rw[appH,if_neg h5,if_neg h6]
theorem WI(h:fH s=true):s.length≤10:=by
 unfold fH at h;simp only[Bool.and_eq_true,decide_eq_true_eq]at h;exact h.1.1.1.2
theorem Tx(p:ae)(b:Nat)(l:List Ho)(w:World)(hc:w.cell? ⟨b,1,none⟩=some (S p)):rV 244 #[.pointer (some ⟨b,0,none⟩)] l (fun h=> !(h.p==p)) (Below w.heap.size w):=by
 intro x hx W hW;have JH:=gD (.cells #[S x.p,.int .i64 x.u] 227) (dQ hW hc);clear hc;show Calls Tryz.prog _ #[Kn x,.pointer (some ⟨b,0,none⟩)] W _;go_enter Tryz.func244,Tryz.ntmps244
 go_wp2;go_ret;exact⟨rfl,(Qb _ _).alloc (Qn _) _⟩
theorem Xsr(I:IH)(hI:dG I)(p:ae)(hp:p.length≤4294967280)(b:Nat)(l:List Ho)(hl:∀h∈l,h.p.length≤4294967280)(w:World)(hw:Ok I w)(hc:w.cell? ⟨b,1,none⟩=some (S p)):rV 247 #[.pointer (some ⟨b,0,none⟩)] l (fun h=>decide (0<ic h.p p)) (Below w.heap.size w):=by
 intro x hx W hW;have Hu:=Qh (Td I hI x.p p (hl x hx) hp (W.alloc (.cells #[S x.p,.int .i64 x.u] 227)) ((hw.below (Qn _) hW).alloc _));have JH:=gD (.cells #[S x.p,.int .i64 x.u] 227) (dQ hW hc);clear hc;show Calls Tryz.prog _ #[Kn x,.pointer (some ⟨b,0,none⟩)] W _;go_enter Tryz.func247,Tryz.ntmps247
 go_wp2_with fail
 refine Hu.O.mono ?_;rintro e w1 ⟨rfl,au⟩;go_wp2;go_ret;exact⟨rfl,((Qb _ _).alloc (Qn _) _).trans (au.mono (by simp))⟩
theorem Xv5(I:IH)(hI:dG I)(v:Value)(l:List Ho)(hv:bf jq I v l)(hk:tQ l)(hn:l.length≤100000)(e:ay)(va vx:Value)(dV:bf kT I va e.ai)(dX:bf mE I vx e.ak)(he:az e=0)(d:Int)(w:World)(hw:Ok I w):
 Calls Tryz.prog 177 #[v,eT e va vx,.int .i64 d] w (uT jq I w (appH l e d).1 (appH l e d).2):=by
 have Ha:=Qh (fun w hw=>Ww I v l hv hn d w hw);have HG:=Qh hI;have mK:e.af.length≤4294967280:=by have:=(Bj (CF he).2.2.1).1;omega
 have Hd:=Qh (fun h5=>Vs he h5);have HE:=Qh (@Xnv l e d);have HR:=Qh (@Xxw l e d);have HM:=Qh (@Xvj l e d);have HL:=Qh (@Xqw l e d);have oW:(fu l d).length≤100000:=Nat.le_trans (List.length_filter_le _ _) hn;have Pq:=Qh (hk.act d);have Md:(gV (fu l d) e.af).length≤(fu l d).length:=List.length_filter_le _ _;have Ku:=Qh ((hk.act d).rest e.af);have gY:(fu l d).filter (fun h=> !(h.p==e.af))=gV (fu l d) e.af:=rfl;obtain⟨ao,cap,rfl,dD,il,_⟩:=id hv;obtain⟨aa,ca,rfl,_,_,_⟩:=id dV;obtain⟨ax,cx,rfl,_,_,_⟩:=id dX;clear hv dV dX hI hk he;generalize hra:gV (fu l d) e.af=rest at Md Ku gY HE HR HM;generalize hac:fu l d=act at Ha oW Pq Md gY HE HR HM HL;have vN:=Qh gY;clear hra hac gY;by_cases h5:e.ag=5;case neg=>
  have k5:((e.ag:Int)==5)=false:=by simpa using h5
  by_cases h6:e.ag=6;case neg=>
   have k6:((e.ag:Int)==6)=false:=by simpa using h6
   have Hn:=Qh (HL.O h5 h6);clear h5 h6;go_enter Tryz.func177,Tryz.ntmps177
   go_wp2_with fail
   refine(Ha.O _ (hw.alloc _)).mono ?_;rintro e1 w1 ⟨v1,rfl,dA,au⟩;have gT:=Qh (bS (e:=e) rfl au);have lG:Ok I w1:=(hw.alloc _).below (Qn _) au;have cO:w.heap.size<w1.heap.size:=by have:=au.size;simp at this;omega
   have eG:∀b,w.heap.size≤b→I b=none:=fun b hb=>hw.fresh hb;have av:=((Qb w.heap.size w).alloc (Qn _) (.cells #[.int .i64 e.ag,S e.af,.slice aa e.ai.length ca,S e.target,.int .i64 e.size,S e.aj,.slice ax e.ak.length cx] 26)).trans (au.mono (by simp));obtain⟨I1,jo,aB,jv,_⟩:=(dA.lower (show w.heap.size≤_ by simp)).freeze lG eG;have JI:=Qh jo;have uj:=Qh jv;have wQ:=Qh (HG.O.mono (jo.keep hw (Qn _)));have Hs:=Qh (Pg I1 v1 act jv oW _ _ _ w1 aB (fun _ _=>by kernel_rfl) (Tx e.af w.heap.size act w1 gT.O.c1));obtain⟨a1,Nr,rfl,Au,Ml,_⟩:=id jv;clear dA au eG jv jo lG;go_wp2_with fail
   refine Hs.O.mono ?_;rintro e2 w2 ⟨v2,rfl,fo,aD⟩;rw[vN.O]at fo;have uk:∀b,w1.heap.size≤b→I1 b=none:=fun b hb=>aB.fresh hb;have ul:=Qh uk;have aP:Ok I1 w2:=aB.below (Qn _) aD;have nL:=Qh (gT.O.aA aD);have aK:=av.trans (aD.mono av.size);have fe:w1.heap.size≤w2.heap.size:=aD.size;clear aD av gT aB Hs uk;obtain⟨I2,jA,qA,lg,_⟩:=fo.freeze aP ul.O;have lh:=Qh fo;have UR:=Qh jA;have vv:=Qh lg;obtain⟨a2,cp2,rfl,Av,rJ,_⟩:=id lg;clear fo lg jA;obtain⟨c0,c1,c2,c3,c4,c5,c6⟩:=nL.O;go_wp2;go_ret2;rw[Hn.O];exact⟨_,I1,rfl,aK,JI.O,aP,uj.O⟩
  have k6:((e.ag:Int)==6)=true:=by simpa using h6
  by_cases Cn:rest.length=act.length
  ·have Hn:=Qh (HM.O h6 Cn);have q1:((rest.length:Int)==act.length)=true:=by rw[Cn];simp
   clear h5 h6 Cn;go_enter Tryz.func177,Tryz.ntmps177
   go_wp2_with fail
   refine(Ha.O _ (hw.alloc _)).mono ?_;rintro e1 w1 ⟨v1,rfl,dA,au⟩;have gT:=Qh (bS (e:=e) rfl au);have lG:Ok I w1:=(hw.alloc _).below (Qn _) au;have cO:w.heap.size<w1.heap.size:=by have:=au.size;simp at this;omega
   have eG:∀b,w.heap.size≤b→I b=none:=fun b hb=>hw.fresh hb;have av:=((Qb w.heap.size w).alloc (Qn _) (.cells #[.int .i64 e.ag,S e.af,.slice aa e.ai.length ca,S e.target,.int .i64 e.size,S e.aj,.slice ax e.ak.length cx] 26)).trans (au.mono (by simp));obtain⟨I1,jo,aB,jv,_⟩:=(dA.lower (show w.heap.size≤_ by simp)).freeze lG eG;have JI:=Qh jo;have uj:=Qh jv;have wQ:=Qh (HG.O.mono (jo.keep hw (Qn _)));have Hs:=Qh (Pg I1 v1 act jv oW _ _ _ w1 aB (fun _ _=>by kernel_rfl) (Tx e.af w.heap.size act w1 gT.O.c1));obtain⟨a1,Nr,rfl,Au,Ml,_⟩:=id jv;clear dA au eG jv jo lG;go_wp2_with fail
   refine Hs.O.mono ?_;rintro e2 w2 ⟨v2,rfl,fo,aD⟩;rw[vN.O]at fo;have uk:∀b,w1.heap.size≤b→I1 b=none:=fun b hb=>aB.fresh hb;have ul:=Qh uk;have aP:Ok I1 w2:=aB.below (Qn _) aD;have nL:=Qh (gT.O.aA aD);have aK:=av.trans (aD.mono av.size);have fe:w1.heap.size≤w2.heap.size:=aD.size;clear aD av gT aB Hs uk;obtain⟨I2,jA,qA,lg,_⟩:=fo.freeze aP ul.O;have lh:=Qh fo;have UR:=Qh jA;have vv:=Qh lg;obtain⟨a2,cp2,rfl,Av,rJ,_⟩:=id lg;clear fo lg jA;obtain⟨c0,c1,c2,c3,c4,c5,c6⟩:=nL.O;go_wp2;go_ret2;rw[Hn.O];exact⟨_,I1,rfl,aK,JI.O,aP,bf.nil _ _⟩
  ·have Hn:=Qh (HR.O h6 Cn);have q1:((rest.length:Int)==act.length)=false:=by
    have:((rest.length:Int))≠act.length:=by omega
    simpa using this
   clear h5 h6 Cn;go_enter Tryz.func177,Tryz.ntmps177
   go_wp2_with fail
   refine(Ha.O _ (hw.alloc _)).mono ?_;rintro e1 w1 ⟨v1,rfl,dA,au⟩;have gT:=Qh (bS (e:=e) rfl au);have lG:Ok I w1:=(hw.alloc _).below (Qn _) au;have cO:w.heap.size<w1.heap.size:=by have:=au.size;simp at this;omega
   have eG:∀b,w.heap.size≤b→I b=none:=fun b hb=>hw.fresh hb;have av:=((Qb w.heap.size w).alloc (Qn _) (.cells #[.int .i64 e.ag,S e.af,.slice aa e.ai.length ca,S e.target,.int .i64 e.size,S e.aj,.slice ax e.ak.length cx] 26)).trans (au.mono (by simp));obtain⟨I1,jo,aB,jv,_⟩:=(dA.lower (show w.heap.size≤_ by simp)).freeze lG eG;have JI:=Qh jo;have uj:=Qh jv;have wQ:=Qh (HG.O.mono (jo.keep hw (Qn _)));have Hs:=Qh (Pg I1 v1 act jv oW _ _ _ w1 aB (fun _ _=>by kernel_rfl) (Tx e.af w.heap.size act w1 gT.O.c1));obtain⟨a1,Nr,rfl,Au,Ml,_⟩:=id jv;clear dA au eG jv jo lG;go_wp2_with fail
   refine Hs.O.mono ?_;rintro e2 w2 ⟨v2,rfl,fo,aD⟩;rw[vN.O]at fo;have uk:∀b,w1.heap.size≤b→I1 b=none:=fun b hb=>aB.fresh hb;have ul:=Qh uk;have aP:Ok I1 w2:=aB.below (Qn _) aD;have nL:=Qh (gT.O.aA aD);have aK:=av.trans (aD.mono av.size);have fe:w1.heap.size≤w2.heap.size:=aD.size;clear aD av gT aB Hs uk;obtain⟨I2,jA,qA,lg,_⟩:=fo.freeze aP ul.O;have lh:=Qh fo;have UR:=Qh jA;have vv:=Qh lg;obtain⟨a2,cp2,rfl,Av,rJ,_⟩:=id lg;clear fo lg jA;obtain⟨c0,c1,c2,c3,c4,c5,c6⟩:=nL.O;go_wp2;go_ret2;rw[Hn.O];exact⟨_,I2,rfl,aK,JI.O.trans UR.O (Nat.le_of_lt cO),qA,vv.O⟩
 have k5:((e.ag:Int)==5)=true:=by simpa using h5
 have Hn:=Qh (HE.O h5);have o9:e.target.length≤4294967280:=by
  have hh:=(Wx (Hd.O h5)).2.2.2;have h1:=WI (Hd.O h5);omega
 have Ps:=Qh (fun w=>Xsq e.target o9 (Hd.O h5) w);obtain⟨d0,Oi⟩:∃d0,digits e.target=d0:=⟨_,rfl⟩;obtain⟨U,hU⟩:∃U,gH e.af act d0=U:=⟨_,rfl⟩;rw[Oi]at Ps Hn;rw[hU]at Hn;have HU:=Qh hU;clear h5 Oi o9 hU;go_enter Tryz.func177,Tryz.ntmps177
 go_wp2_with fail
 refine(Ha.O _ (hw.alloc _)).mono ?_;rintro e1 w1 ⟨v1,rfl,dA,au⟩;have gT:=Qh (bS (e:=e) rfl au);have lG:Ok I w1:=(hw.alloc _).below (Qn _) au;have cO:w.heap.size<w1.heap.size:=by have:=au.size;simp at this;omega
 have eG:∀b,w.heap.size≤b→I b=none:=fun b hb=>hw.fresh hb;have av:=((Qb w.heap.size w).alloc (Qn _) (.cells #[.int .i64 e.ag,S e.af,.slice aa e.ai.length ca,S e.target,.int .i64 e.size,S e.aj,.slice ax e.ak.length cx] 26)).trans (au.mono (by simp));obtain⟨I1,jo,aB,jv,_⟩:=(dA.lower (show w.heap.size≤_ by simp)).freeze lG eG;have JI:=Qh jo;have uj:=Qh jv;have wQ:=Qh (HG.O.mono (jo.keep hw (Qn _)));have Hs:=Qh (Pg I1 v1 act jv oW _ _ _ w1 aB (fun _ _=>by kernel_rfl) (Tx e.af w.heap.size act w1 gT.O.c1));obtain⟨a1,Nr,rfl,Au,Ml,_⟩:=id jv;clear dA au eG jv jo lG;go_wp2_with fail
 refine Hs.O.mono ?_;rintro e2 w2 ⟨v2,rfl,fo,aD⟩;rw[vN.O]at fo;have uk:∀b,w1.heap.size≤b→I1 b=none:=fun b hb=>aB.fresh hb;have ul:=Qh uk;have aP:Ok I1 w2:=aB.below (Qn _) aD;have nL:=Qh (gT.O.aA aD);have aK:=av.trans (aD.mono av.size);have fe:w1.heap.size≤w2.heap.size:=aD.size;clear aD av gT aB Hs uk;obtain⟨I2,jA,qA,lg,_⟩:=fo.freeze aP ul.O;have lh:=Qh fo;have UR:=Qh jA;have vv:=Qh lg;obtain⟨a2,cp2,rfl,Av,rJ,_⟩:=id lg;clear fo lg jA;obtain⟨c0,c1,c2,c3,c4,c5,c6⟩:=nL.O;go_wp2_with fail
 refine(Ps.O _).mono ?_;rintro e3 w3 ⟨rfl,bU⟩;have bQ:Ok I1 w3:=aP.below (Qn _) bU;have yt:Ok I2 w3:=qA.below (Qn _) bU;have mH:=Qh (nL.O.aA bU);have rX:=Qh (lh.O.below bU);have wG:w2.heap.size≤w3.heap.size:=bU.size;have df:=aK.trans (bU.mono aK.size);clear c0 c1 c2 c3 c4 c5 c6 nL lh aP qA bU aK;go_wp2_with fail
 go_loopw [10,35] (fun s10 s35 wr=> ∃(k:Nat) (cur:Int),k≤act.length∧s10= .int .i64 cur∧s35= .int .i64 k∧gH e.af (act.drop k) cur=U∧Below w3.heap.size w3 wr) (fun _ i _=>act.length-(intOf i).toNat)
 case atStart=>exact⟨0,d0,Nat.zero_le _,rfl,rfl,HU.O,Qb _ _⟩
 case round=>
  obtain⟨k,cur,hk,rfl,rfl,hu,hb⟩:=hrel;have Hu:=Qh hu;clear hu;by_cases hlt:k<act.length
  ·obtain⟨x,b,off,cap',bN,di,x0,x1⟩:=yj uj.O (bQ.below (Qn _) hb) k hlt;cases di;have bB:=Qh (Xn1 hlt bN Hu.O);obtain⟨c0,c1,c2,c3,c4,c5,c6⟩:=mH.O.aA hb;have c1':=gD (.cells #[S x.p,.int .i64 x.u] 227) c1;clear bN Hu c0 c1 c2 c3 c4 c5 c6;cases hq:(x.p==e.af)
   ·have iQ:=Qh (show gH e.af (act.drop (k+1)) cur=U by have:=bB.O;rwa[if_neg (by simpa using hq)]at this);clear bB;go_wp2;go_roundw;case rel=>exact⟨k+1,cur,by omega,rfl,by go_num,iQ.O,hb.alloc hb.size _⟩
    case measure=>simp[intOf];omega
   ·have iQ:=Qh (show gH e.af (act.drop (k+1)) (max cur x.u)=U by have:=bB.O;rwa[if_pos (by simpa using hq)]at this);clear bB;go_wp2;go_roundw;case rel=>exact⟨k+1,max cur x.u,by omega,rfl,by go_num,iQ.O,hb.alloc hb.size _⟩
    case measure=>simp[intOf];omega
  ·have um:cur=U:=by have:=Hu.O;rwa[List.drop_of_length_le (by omega)]at this
   subst um;have sW:Ok I2 wr:=yt.below (Qn _) hb;have yu:Ok I1 wr:=bQ.below (Qn _) hb;have Pt:=Qh (mH.O.aA hb);have AU:=Qh (rX.O.below hb);have BG:=df.trans (hb.mono df.size);have Gt:w3.heap.size≤wr.heap.size:=hb.size;have wO:=Qh (Xe8 I2 _ rest vv.O _ _ _ wr sW (fun _ _=>by kernel_rfl) (Xsr I1 wQ.O e.af mK w.heap.size rest Ku.O.short wr yu Pt.O.c1));have iY:=IE rest (fun h=>decide (0<ic h.p e.af));clear Hu hb df mH rX bQ yt sW;rcases iY with⟨i,hi,e1,e2,e3⟩|⟨e1,e2⟩
   ·rw[e1]at wO;have Hi:=Qh (Xp5 ⟨e.af,cur⟩ hi e2 e3);clear e1 e2 e3;go_wp2_with fail
    refine wO.O.mono ?_;rintro e5 w5 ⟨rfl,aY⟩;have bX:=yu.below (Qn _) aY;have mD:=Qh (Pt.O.aA aY);have fB:=Qh (AU.O.below aY);have bV:=BG.trans (aY.mono BG.size);have jN:wr.heap.size≤w5.heap.size:=aY.size;obtain⟨c0,c1,c2,c3,c4,c5,c6⟩:=mD.O;clear aY BG Pt AU yu c0 c2 c3 c4 c5 c6;have cK:=fB.O.nA (Qn w5.heap.size);have DI:=Qh (Xm2 I1 w1.heap.size _ rest ⟨e.af,cur⟩ w5.heap.size i 227 [S e.af,.int .i64 cur] _ (fB.O.alloc (.cells #[S e.af,.int .i64 cur] 227)) rfl (heap_alloc_new w5 (.cells #[S e.af,.int .i64 cur] 227)) cK (by omega) (by omega) (by simp;omega));clear cK;go_wp2_with fail
    refine DI.O.mono ?_;rintro e8 w8 ⟨v8,rfl,nC,uo⟩;have yw:=Qh nC;have IR:=Qh uo;clear nC uo;go_wp2;go_ret2;have gM:=fB.O.alloc (.cells #[S e.af,.int .i64 cur] 227);have qB:=Below.own (bV.alloc bV.size _) IR.O gM (Nat.le_of_lt cO) (by simp;omega);have pI:Ok I1 w8:=Ok.own (bX.alloc _) IR.O gM ul.O;obtain⟨I',jo,jA,kG,_⟩:=yw.O.freeze pI ul.O;rw[Hn.O];exact⟨_,I',rfl,qB,JI.O.trans jo (Nat.le_of_lt cO),jA,by rw[Hi.O];exact kG⟩
   ·rw[e1]at wO;have Hi:=Qh (Xmz ⟨e.af,cur⟩ e2);clear e1 e2;go_wp2_with fail
    refine wO.O.mono ?_;rintro e5 w5 ⟨rfl,aY⟩;have bX:=yu.below (Qn _) aY;have mD:=Qh (Pt.O.aA aY);have fB:=Qh (AU.O.below aY);have bV:=BG.trans (aY.mono BG.size);have jN:wr.heap.size≤w5.heap.size:=aY.size;obtain⟨c0,c1,c2,c3,c4,c5,c6⟩:=mD.O;clear aY BG Pt AU yu c0 c2 c3 c4 c5 c6;have cK:=fB.O.nA (Qn w5.heap.size);have DI:=Qh (Xm2 I1 w1.heap.size _ rest ⟨e.af,cur⟩ w5.heap.size rest.length 227 [S e.af,.int .i64 cur] _ (fB.O.alloc (.cells #[S e.af,.int .i64 cur] 227)) rfl (heap_alloc_new w5 (.cells #[S e.af,.int .i64 cur] 227)) cK (by omega) (by omega) (by simp;omega));clear cK;go_wp2_with fail
    refine DI.O.mono ?_;rintro e8 w8 ⟨v8,rfl,nC,uo⟩;have yw:=Qh nC;have IR:=Qh uo;clear nC uo;go_wp2;go_ret2;have gM:=fB.O.alloc (.cells #[S e.af,.int .i64 cur] 227);have qB:=Below.own (bV.alloc bV.size _) IR.O gM (Nat.le_of_lt cO) (by simp;omega);have pI:Ok I1 w8:=Ok.own (bX.alloc _) IR.O gM ul.O;obtain⟨I',jo,jA,kG,_⟩:=yw.O.freeze pI ul.O;rw[Hn.O];exact⟨_,I',rfl,qB,JI.O.trans jo (Nat.le_of_lt cO),jA,by rw[Hi.O];exact kG⟩
