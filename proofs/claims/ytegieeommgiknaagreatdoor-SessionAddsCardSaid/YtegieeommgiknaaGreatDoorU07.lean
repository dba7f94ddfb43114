/- Lemmas for the claim's theorem;conditions: as each says. -/
import Derived.Test.YtegieeommgiknaaGreatDoorU06
import Derived.Lib.MinMax
import Derived.Shelf.Strings.Builder1
import Derived.Shelf.Strings.Builder2
import Derived.Shelf.Strings.Repeat
import Derived.Shelf.Strings.LastIndex
import Derived.Test.YtegieeommgiknaaGreatDoorProg
import Derived.Lib.Repeat
set_option maxHeartbeats 0
set_option maxRecDepth 100000
set_option linter.all false
namespace Go.Proofs.YtegieeommgiknaaGreatDoor
open Go.RowKit
theorem Xkl(I:IH)(B:Nat)(v:Value)(l:List _)(x:_)(vb:Nat)(news:List Value)(w:World)(hv:aQ ku 106 I w B v l)(hx:ku.rd I news x)
 (fV:∀j u,news[j]?=some u→w.cell? ⟨vb,j,none⟩=some u) (iw:(l.length+1)*24≤140737488355328) (hB:B≤w.heap.size):
 Calls Tryz.prog 79 #[v,.int .i64 l.length,.slice (some ⟨vb,0,none⟩) 1 1] w fun e w'=> ∃v',e= .returned v'∧aQ ku 106 I w' B v' (l++[x])∧w.grownBy w' v.ownBlock:=by
 obtain⟨i0,hi,pg,qL,wX⟩:=info_parts Yj;obtain⟨xs,bU,hL⟩:=hv;have HL:=Qh hL;have Hx:=Qh hx;have ma:=Qh fV;have yc:maxLen=9223372036854775807:=rfl;have hlen:l.length≤4611686018427387904:=by omega
 clear hL hx fV;have nS:v= .slice none 0 0∧l.length=0∨ ∃g cap,v= .slice (some ⟨g,0,none⟩) l.length cap∧l.length≤cap∧cap≤9223372036854775807:=by
  rcases bU.2 with h|⟨g,cap,cur,h1,_,_,h2,h3,_⟩
  ·exact .inl h
  ·exact .inr ⟨g,cap,h1,h2,by rw[yc]at h3;exact h3⟩
 have UB:=Qh yc;clear yc;rcases nS with⟨rfl,h0⟩|⟨g,cap,rfl,fu,iv⟩
 ·have:l=[]:=List.eq_nil_of_length_eq_zero h0;subst this;go_enter Tryz.func79,Tryz.ntmps79
  go_wp2_with (at_builtin;refine wpList_append_own _ rfl _ _ 44 rfl B 106 i0 _ 2 24 Tryz.underlying44 hi pg qL wX rfl (by decide) _ _ _ rfl bU ⟨vb,0,none⟩ 1 1 news rfl ?qc1 ?qc2 ?qc3 ?qc4 ?qc5 ?qc6 ?_)
  case qc1=>exact ku.len Hx.O
  case qc2=>intro j u hj;rw[Addr.add_lit,Nat.zero_add];exact ma.O j u hj
  case qc3=>exact ku.one Hx.O
  case qc4=>rw[UB.O];simp
  case qc5=>simp
  case qc6=>exact hB
  intro v' w1 ek nT _;go_wp2;go_ret;exact⟨v',rfl,⟨_,ek,dF.append HL.O (dF.one Hx.O)⟩,nT⟩
 ·go_enter Tryz.func79,Tryz.ntmps79
  go_wp2_with (at_builtin;refine wpList_append_own _ rfl _ _ 44 rfl B 106 i0 _ 2 24 Tryz.underlying44 hi pg qL wX rfl (by decide) _ _ _ rfl bU ⟨vb,0,none⟩ 1 1 news rfl (ku.len Hx.O) (fun j u hj=>by rw[Addr.add_lit,Nat.zero_add];exact ma.O j u hj) (ku.one Hx.O) (by rw[UB.O];omega) iw hB ?_)
  all_goals
   intro v' w1 ek nT _;go_wp2;go_ret;exact⟨v',rfl,⟨_,by rw[List.length_append];exact ek,dF.append HL.O (dF.one Hx.O)⟩,nT⟩
theorem Xil(I:IH)(B g cap i:Nat)(l:List _)(x:_)(vb:Nat)(tb:TypeId)(news:List Value)(w:World)(hv:aQ ku 106 I w B (.slice (some ⟨g,0,none⟩) l.length cap) l)(hx:ku.rd I news x)
 (pu:w.heap[vb]?=some (.cells news.toArray tb (0,0))) (bq:vb≠g) (hi:i<l.length) (tC:l.length+1≤cap) (iv:cap≤9223372036854775807):
 Calls Tryz.prog 79 #[.slice (some ⟨g,0,none⟩) l.length cap,.int .i64 i,.slice (some ⟨vb,0,none⟩) 1 1] w fun e w'=> ∃v',e= .returned v'∧aQ ku 106 I w' B v' (l.take i++x::l.drop i)∧w.grownBy w' (some g):=by
 obtain⟨i0,JE,pg,qL,wX⟩:=info_parts Yj;obtain⟨xs,⟨qo,bU⟩,hL⟩:=hv;rcases bU with⟨h0,_⟩|⟨g',cap',cur,h1,FZ,hg,_,Ed,jf,pE⟩
 ·cases h0
 injection h1 with xY h1b QU
 injection xY with xY
 injection xY with xY
 subst xY QU;have bS:(Tryz.prog.info? 106).map (·.size)=some 2:=by rw[JE];simp[qL]
 have Al:news.length=2:=ku.len hx;have Fa:=ku.one hx;have xA:xs.length=l.length*2:=qo;have lv:cur.size=cap*2:=jf;have oH:cur.toList.take xs.length=xs:=by rw[qo];exact pE
 have hov:∀lb cb,(callFunc 132 #[.slice (some ⟨vb,0,none⟩) 1 1,.slice (some ⟨g,(i+1)*2,none⟩) lb cb]).run Tryz.prog w= .ok (.value (.bool false)) w:=fun lb cb=>by
  rw[run_callFunc_extern Tryz.func132 (by kernel_rfl) (by kernel_rfl) (by kernel_rfl) (e:=Extern.SlicesOverlaps.overlaps #[44,44] #[4]) (by kernel_rfl),
   Lib.run_overlaps_apart w 44 4 106 Tryz.underlying44 2 (fun w=>by simp[go_sem]) ⟨vb,0,none⟩ ⟨g,(i+1)*2,none⟩ 1 1 lb cb bq tb 106 2 cur.size (by simp[World.shape?,pu,Al]) (by simp[World.shape?,hg]) (by omega) (by simp[World.frozen?,pu]) (by simp[World.frozen?,pu])]
  rfl
 obtain⟨lX,uE⟩:∃c,c=over cur (i*2+2) (xs.drop (i*2)):=⟨_,rfl⟩;have uX:lX.size=cur.size:=by rw[uE];exact Gd _ _ _ (by rw[List.length_drop];omega)
 obtain⟨vB,uF⟩:∃c,c=over lX (i*2) news:=⟨_,rfl⟩;have pV:vB.size=lX.size:=by rw[uF];exact Gd _ _ _ (by omega)
 have jM:vB.toList.take ((l.length+1)*2)=xs.take (i*2)++news++xs.drop (i*2):=by
  have:=insert_row cur xs news (i*2) 2 (by omega) oH Al (by omega);rw[←uE,←uF]at this;rw[show(l.length+1)*2=xs.length+2 by omega];exact this
 have Ee:∀ty dc sc,(Builtin.copy_ #[44,44] ty #[.slice (some ⟨g,(i+1)*2,none⟩) (l.length-i) dc,.slice (some ⟨g,i*2,none⟩) (l.length+1-i) sc]).run Tryz.prog w.drew= .ok (goInt ((l.length-i:Nat):Int)) (w.drew.setRow g lX):=fun ty dc sc=>by
  have h:=JW (P:=Tryz.prog) w.drew 44 44 ty 106 2 g ((i+1)*2) (l.length-i) dc ⟨g,i*2,none⟩ (l.length+1-i) sc cur 106 (xs.drop (i*2)) Tryz.underlying44 bS hg (by rw[List.length_drop];simp only[Nat.min_def];split<;>omega)
   (fun j u hj=>by
     rw[Addr.add_lit];rw[List.getElem?_drop,←oH,List.getElem?_take]at hj;split at hj
     ·rw[World.cell?_drew,cell_of_row w g _ cur _ _ hg,←Array.getElem?_toList];exact hj
     ·cases hj) (by rw[List.length_drop];omega) (fun u hu=>hL.oneCell u (List.mem_of_mem_drop hu))
  rw[h,show Nat.min (l.length+1-i) (l.length-i)=l.length-i by simp only[Nat.min_def];split<;>omega,uE];rw[show(i+1)*2=i*2+2 by omega];rfl
 have hg1:(w.drew.setRow g lX).heap[g]?=some (.cells lX 106 (0,0)):=setRow_heap w.drew g cur lX _ _ hg;have Ef:∀ty dc,(Builtin.copy_ #[44,44] ty #[.slice (some ⟨g,i*2,none⟩) (l.length+1-i) dc,.slice (some ⟨vb,0,none⟩) 1 1]).run Tryz.prog (w.drew.setRow g lX)= .ok (goInt 1) ((w.drew.setRow g lX).setRow g vB):=fun ty dc=>by
  have h:=JW (P:=Tryz.prog) (w.drew.setRow g lX) 44 44 ty 106 2 g (i*2) (l.length+1-i) dc ⟨vb,0,none⟩ 1 1 lX 106 news Tryz.underlying44 bS hg1 (by rw[Al];simp only[Nat.min_def];split<;>omega)
   (fun j u hj=>by
     rw[Addr.add_lit,Nat.zero_add];have:(w.drew.setRow g lX).heap[vb]?=some (.cells news.toArray tb (0,0)):=by rw[setRow_other _ _ _ _ bq];exact pu
     rw[cell_of_row _ vb j _ _ _ this];simpa using hj) (by omega) Fa
  rw[h,show Nat.min 1 (l.length+1-i)=1 by simp only[Nat.min_def];split<;>omega,uF];rfl
 have Am:=Qh (show(xs.take (i*2)++news++xs.drop (i*2)).length=(l.length+1)*2 by simp;omega);have Dj:=Qh (show vB.size=cap*2 by omega);have rA:=Qh jM;have HL:=Qh hL;have Hx:=Qh hx;have xB:=Qh hg1;have aG:¬(cap=i+1):=by omega
 have aL:¬(cap=i):=by omega
 clear jM hL hx hg1 uE uF qo xA jf lv pE oH Al Fa pu Ed hg;have AJ:IntKind.i64.wrap ((i:Int)+1)=(i:Int)+1:=IntWalk.i64_in _ (by omega);have Kj:0≤(i:Int)+1:=by omega
 have uW:((i:Int)+1).toNat=i+1:=by omega
 have Ob:i≤l.length:=by omega
 have JO:(i:Int)≤(l.length:Int)+1:=by omega
 go_enter Tryz.func79,Tryz.ntmps79
 go_wp2_with (simp only[hov])
 go_region_law (refine step_copy_runI rfl _ _ 44 44 rfl _ _ (by simp[Act.eval,Act.put]) (by simp[Act.eval,Act.put]) (Ee _ _ _) ?_)
 go_wp2_with (at_builtin;refine wpList_copy_runI _ rfl _ _ 44 44 rfl _ _ rfl rfl (Ef _ _) ?_)
 go_ret;have Kt:(l.take i++x::l.drop i).length=l.length+1:=by simp;omega
 refine⟨_,rfl,?_,?_⟩
 ·unfold aQ;rw[Kt];refine⟨xs.take (i*2)++news++xs.drop (i*2),⟨Am.O,.inr ⟨g,cap,vB,rfl,FZ,setRow_heap _ g lX vB _ _ xB.O,by omega,by unfold maxLen;omega,Dj.O,rA.O⟩⟩,?_⟩;have:=((HL.O.take i).append (dF.one Hx.O)).append (HL.O.drop i);rwa[show l.take i++[x]++l.drop i=l.take i++x::l.drop i by simp]at this
 ·have h0:w.grownBy w.drew (some g):=⟨rfl,rfl,rfl,Qn _,fun _ _ _=>rfl⟩;exact RN (RN h0 bA) bA
theorem Xjd(I:IH)(B g cap i:Nat)(l:List _)(x:_)(vb:Nat)(tb:TypeId)(news:List Value)(w:World)(hv:aQ ku 106 I w B (.slice (some ⟨g,0,none⟩) l.length cap) l)(hx:ku.rd I news x)
 (pu:w.heap[vb]?=some (.cells news.toArray tb (0,0))) (hi:i<l.length) (tC:cap<l.length+1) (iw:(l.length+1)*24≤140737488355328) (hB:B≤w.heap.size):
 Calls Tryz.prog 79 #[.slice (some ⟨g,0,none⟩) l.length cap,.int .i64 i,.slice (some ⟨vb,0,none⟩) 1 1] w fun e w'=> ∃v',e= .returned v'∧aQ ku 106 I w' B v' (l.take i++x::l.drop i)∧w.grownBy w' (some g):=by
 obtain⟨i0,JE,pg,qL,wX⟩:=info_parts Yj;obtain⟨xs,⟨qo,bU⟩,hL⟩:=hv;rcases bU with⟨h0,_⟩|⟨g',cap',cur,h1,FZ,hg,Kl,Ed,jf,pE⟩
 ·cases h0
 injection h1 with xY h1b QU
 injection xY with xY
 injection xY with xY
 subst xY QU;have bS:(Tryz.prog.info? 106).map (·.size)=some 2:=by rw[JE];simp[qL]
 have Al:news.length=2:=ku.len hx;have Fa:=ku.one hx;have xA:xs.length=l.length*2:=qo;have lv:cur.size=cap*2:=jf;have oH:cur.toList.take xs.length=xs:=by rw[qo];exact pE
 have hgw:g<w.heap.size:=(Qg hg);have hvw:vb<w.heap.size:=(Qg pu);have tN:∀(j:Nat) u,xs[j]?=some u→w.cell? ⟨g,j,none⟩=some u:=fun j u hj=>by
  rw[←oH,List.getElem?_take]at hj;split at hj
  ·rw[cell_of_row w g _ cur _ _ hg,←Array.getElem?_toList];exact hj
  ·cases hj
 have hold:(Builtin.firstCells i0.size i (.slice (some ⟨g,0,none⟩) i cap)).run Tryz.prog w.drew= .ok (xs.take (i*2)).toArray w.drew:=
  run_firstCells_some w.drew i0.size i ⟨g,0,none⟩ i cap (xs.take (i*2)) (by rw[qL,List.length_take];omega) (fun j u hj=>by
   rw[Addr.add_lit,Nat.zero_add];rw[List.getElem?_take]at hj;split at hj
   ·exact tN j u hj
   ·cases hj)
 obtain⟨G,hG⟩:∃G,G=grownCap w (l.length+1) cap 106:=⟨_,rfl⟩;have hGn:l.length+1≤G:=by rw[hG];exact grownCap_ge w _ _ _
 have afa:G≤9223372036854775807:=by
  have:=grownCap_le_maxLen w (l.length+1) cap 106 (by unfold maxLen;omega);rw[←hG]at this;unfold maxLen at this;omega
 obtain⟨z,hz⟩:∃z,i0.zero=some z:=⟨_,pg⟩;have WQ:z.cells.size=2:=by rw[hz]at pg;cases pg;rfl
 obtain⟨ROW,Ao⟩:∃ROW:Array Value,ROW=(xs.take (i*2)).toArray++Builtin.zeroCells z.cells (l.length+1-i)++Builtin.zeroCells z.cells (G-(l.length+1)):=⟨_,rfl⟩;have hRs:ROW.size=G*2:=by
  rw[Ao,Array.size_append,Array.size_append,size_zeroCells,size_zeroCells,WQ];simp;omega
 have UC:ROW.toList.take (i*2)=xs.take (i*2):=by
  rw[Ao,Array.toList_append,Array.toList_append,List.append_assoc,List.take_append_of_le_length (by simp;omega),List.take_of_length_le (by simp;omega)]
 have Ju:∀ty,(Builtin.append_ #[44,3] ty #[.slice (some ⟨g,0,none⟩) i cap,.int .i64 ((l.length:Int)+1-(i:Int))]).run Tryz.prog w=
  .ok (.slice (some ⟨w.heap.size,0,none⟩) (l.length+1) G) (w.drew.alloc (.cells ROW 106)):=fun ty=>by
  have h:=Lib.run_append_grow_zeros w 44 3 ty 106 i0 z .i64 .i64 Tryz.underlying44 Tryz.underlying3 JE hz (some ⟨g,0,none⟩) i cap (xs.take (i*2)) hold (l.length+1-i) (by omega) (by rw[qL];omega) (by omega) (by omega) (by rw[wX];omega) (by rw[wX,show i+(l.length+1-i)=l.length+1 by omega];exact growslice_fits tC iw);rw[show i+(l.length+1-i)=l.length+1 by omega,←hG,←Ao]at h;rw[show(l.length:Int)+1-(i:Int)=((l.length+1-i:Nat):Int) by omega];exact h
 obtain⟨jC,nR⟩:∃c,c=over ROW (i*2) news:=⟨_,rfl⟩;have pV:jC.size=ROW.size:=by rw[nR];exact Gd _ _ _ (by omega)
 obtain⟨sw,pz⟩:∃c,c=over jC (i*2+2) (xs.drop (i*2)):=⟨_,rfl⟩;have yn:sw.size=jC.size:=by rw[pz];exact Gd _ _ _ (by rw[List.length_drop];omega)
 have jM:sw.toList.take ((l.length+1)*2)=xs.take (i*2)++news++xs.drop (i*2):=by
  have:=Xih ROW xs news (i*2) 2 (by omega) UC Al (by omega);rw[←nR,←pz]at this;rw[show(l.length+1)*2=xs.length+2 by omega];exact this
 obtain⟨W1,nW⟩:∃W1,W1=w.drew.alloc (.cells ROW 106):=⟨_,rfl⟩;have QV:W1.heap[w.heap.size]?=some (.cells ROW 106 (0,0)):=by rw[nW];exact heap_alloc_new w.drew _
 have QW:∀b,b<w.heap.size→W1.heap[b]?=w.heap[b]? :=fun b hb=>by rw[nW];exact Below.heap_alloc w.drew _ b hb
 rw[←nW]at Ju;have QX:∀ty dc,(Builtin.copy_ #[44,44] ty #[.slice (some ⟨w.heap.size,i*2,none⟩) (l.length+1-i) dc,.slice (some ⟨vb,0,none⟩) 1 1]).run Tryz.prog W1= .ok (goInt 1) (W1.setRow w.heap.size jC):=fun ty dc=>by
  have h:=JW (P:=Tryz.prog) W1 44 44 ty 106 2 w.heap.size (i*2) (l.length+1-i) dc ⟨vb,0,none⟩ 1 1 ROW 106 news Tryz.underlying44 bS QV (by rw[Al];simp only[Nat.min_def];split<;>omega)
   (fun j u hj=>by
     rw[Addr.add_lit,Nat.zero_add,cell_of_row _ vb j _ _ _ ((QW vb hvw).trans pu)];simpa using hj) (by omega) Fa
  rw[h,show Nat.min 1 (l.length+1-i)=1 by simp only[Nat.min_def];split<;>omega,nR];rfl
 have Pb:(W1.setRow w.heap.size jC).heap[w.heap.size]?=some (.cells jC 106 (0,0)):=setRow_heap W1 w.heap.size ROW jC _ _ QV;have QY:∀ty dc sc,(Builtin.copy_ #[44,44] ty #[.slice (some ⟨w.heap.size,(i+1)*2,none⟩) (l.length-i) dc,.slice (some ⟨g,i*2,none⟩) (l.length-i) sc]).run Tryz.prog (W1.setRow w.heap.size jC).drew= .ok (goInt ((l.length-i:Nat):Int)) ((W1.setRow w.heap.size jC).drew.setRow w.heap.size sw):=fun ty dc sc=>by
  have h:=JW (P:=Tryz.prog) (W1.setRow w.heap.size jC).drew 44 44 ty 106 2 w.heap.size ((i+1)*2) (l.length-i) dc ⟨g,i*2,none⟩ (l.length-i) sc jC 106 (xs.drop (i*2)) Tryz.underlying44 bS Pb (by rw[List.length_drop];simp only[Nat.min_def];split<;>omega)
   (fun j u hj=>by
     rw[Addr.add_lit];rw[List.getElem?_drop]at hj;have hgg:(W1.setRow w.heap.size jC).heap[g]?=some (.cells cur 106 (0,0)):=by rw[setRow_other _ _ _ _ (by omega),QW g hgw];exact hg
     rw[World.cell?_drew,cell_of_row _ g _ cur _ _ hgg,←cell_of_row w g _ cur _ _ hg];exact tN _ u hj) (by rw[List.length_drop];omega) (fun u hu=>hL.oneCell u (List.mem_of_mem_drop hu))
  rw[h,show Nat.min (l.length-i) (l.length-i)=l.length-i by simp only[Nat.min_def];split<;>omega,pz];rw[show(i+1)*2=i*2+2 by omega];rfl
 have Am:=Qh (show(xs.take (i*2)++news++xs.drop (i*2)).length=(l.length+1)*2 by simp;omega);have Dj:=Qh (show sw.size=G*2 by omega);have rA:=Qh jM;have HL:=Qh hL;have Hx:=Qh hx;have HN2:=Qh Pb;have S9:=Qh nW;have aG:¬(G=i+1):=by omega
 have aL:¬(G=i):=by omega
 have dO:¬(cap=i):=by omega
 clear jM hL hx Pb QV nR pz Ao hRs UC qo xA jf lv pE oH Al Fa pu Ed hg hold tN QW nW hG hz pg WQ pV yn;have AJ:IntKind.i64.wrap ((i:Int)+1)=(i:Int)+1:=IntWalk.i64_in _ (by omega);have Kj:0≤(i:Int)+1:=by omega
 have uW:((i:Int)+1).toNat=i+1:=by omega
 have Ob:i≤l.length:=by omega
 have JO:(i:Int)≤(l.length:Int)+1:=by omega
 go_enter Tryz.func79,Tryz.ntmps79
 go_wp2_with (first
  |(at_builtin;refine Lib.wpList_append_run _ rfl _ _ _ _ rfl _ _ rfl rfl _ _ (Ju _) ?_)
  |(at_builtin;refine wpList_copy_runI _ rfl _ _ 44 44 rfl _ _ rfl rfl (QX _ _) ?_))
 go_region_law (refine step_copy_runI rfl _ _ 44 44 rfl _ _ (by simp[Act.eval,Act.put]) (by simp[Act.eval,Act.put]) (QY _ _ _) ?_)
 go_wp2;go_ret;have Kt:(l.take i++x::l.drop i).length=l.length+1:=by simp;omega
 refine⟨_,rfl,?_,?_⟩
 ·unfold aQ;rw[Kt];refine⟨xs.take (i*2)++news++xs.drop (i*2),⟨Am.O,.inr ⟨w.heap.size,G,sw,rfl,hB,setRow_heap _ w.heap.size jC sw _ _ HN2.O,hGn,by unfold maxLen;omega,Dj.O,rA.O⟩⟩,?_⟩;have:=((HL.O.take i).append (dF.one Hx.O)).append (HL.O.drop i);rwa[show l.take i++[x]++l.drop i=l.take i++x::l.drop i by simp]at this
 ·rw[S9.O];exact⟨rfl,rfl,rfl,by simp,fun k hk _=>by
   rw[setRow_other _ _ _ _ (by omega)];show((w.drew.alloc (.cells ROW 106)).setRow w.heap.size jC).heap[k]?=_;rw[setRow_other _ _ _ _ (by omega)];exact Below.heap_alloc w.drew _ k hk⟩
theorem Xme(I:IH)(B:Nat)(v:Value)(l:List _)(x:_)(vb i:Nat)(tb:TypeId)(news:List Value)(w:World)(hv:aQ ku 106 I w B v l)(hx:ku.rd I news x)
 (pu:w.heap[vb]?=some (.cells news.toArray tb (0,0))) (bq:v.ownBlock≠some vb) (hi:i≤l.length) (iw:(l.length+1)*24≤140737488355328) (hB:B≤w.heap.size):
 Calls Tryz.prog 79 #[v,.int .i64 i,.slice (some ⟨vb,0,none⟩) 1 1] w fun e w'=> ∃v',e= .returned v'∧aQ ku 106 I w' B v' (l.take i++x::l.drop i)∧w.grownBy w' v.ownBlock:=by
 by_cases he:i=l.length
 ·subst he;rw[List.take_length,List.drop_length];exact Xkl I B v l x vb news w hv hx (fun j u hj=>by rw[cell_of_row w vb j _ _ _ pu];simpa using hj) iw hB
 ·have nS:∃g cap,v= .slice (some ⟨g,0,none⟩) l.length cap∧cap≤maxLen:=by
   obtain⟨xs,⟨_,bU⟩,_⟩:=hv;rcases bU with⟨_,h⟩|⟨g,cap,cur,h1,_,_,_,h3,_⟩
   ·omega
   ·exact⟨g,cap,h1,h3⟩
  obtain⟨g,cap,rfl,iv⟩:=nS;by_cases hr:l.length+1≤cap
  ·exact Xil I B g cap i l x vb tb news w hv hx pu (fun e=>bq (by rw[e];rfl)) (by omega) hr (by unfold maxLen at iv;omega)
  ·exact Xjd I B g cap i l x vb tb news w hv hx pu (by omega) (by omega) iw hB
theorem Xmd(h:Ho):∀{l:List Ho},l.any (fun x=>decide (0<jQ x.p h.p))=false→kF h l=l.take l.length++h::l.drop l.length
 | [],_=>rfl
 |x::l,hn=>by
  rw[List.any_cons,Bool.or_eq_false_iff]at hn;have hx:kZ (els h.p) (els x.p)=false:=by
   have:=of_decide_eq_false hn.1;cases k:kZ (els h.p) (els x.p)with
   |false=>rfl
   |true=>
    exfalso;apply this;unfold jQ;rw[XW k,k];simp
  rw[kF,if_neg (by simp[hx]),Xmd h hn.2];simp
theorem Xpc(h:Ho):∀{l:List Ho} {i:Nat} (hi:i<l.length),decide (0<jQ l[i].p h.p)=true→(l.take i).any (fun x=>decide (0<jQ x.p h.p))=false→kF h l=l.take i++h::l.drop i
 | [],_,hi,_,_=>absurd hi (by simp)
 |x::l,0,_,hp,_=>by
  have hx:kZ (els h.p) (els x.p)=true:=by
   have:=of_decide_eq_true hp;have h2:0<jQ x.p h.p:=this;unfold jQ at h2;split at h2
   ·omega
   ·split at h2
    ·assumption
    ·omega
  rw[kF,if_pos hx];rfl
 |x::l,i+1,hi,hp,hn=>by
  rw[List.take_succ_cons,List.any_cons,Bool.or_eq_false_iff]at hn;have hx:kZ (els h.p) (els x.p)=false:=by
   have:=of_decide_eq_false hn.1;cases k:kZ (els h.p) (els x.p)with
   |false=>rfl
   |true=>
    exfalso;apply this;unfold jQ;rw[XW k,k];simp
  rw[kF,if_neg (by simp[hx]),Xpc h (l:=l) (by simpa using hi) hp hn.2];rfl
theorem Xnf{p:af}{l:List Ho}{k:Nat}{cur U:Int}{x:Ho}(hk:k<l.length)(hx:l[k]=x)(h:iT p (l.drop k) cur=U):iT p (l.drop (k+1)) (if x.p=p then max cur x.u else cur)=U:=by
 rw[List.drop_eq_getElem_cons hk,hx,iT]at h;exact h
theorem Xm7{l:List Ho}{e:bD}{d:Int}(hk:e.av=5):appH l e d=(kF ⟨e.aj,iT e.aj (bY l d) (digits e.target)⟩ (jh (bY l d) e.aj),0):=by rw[appH,if_pos hk]
theorem Xvh{l:List Ho}{e:bD}{d:Int}(hk:e.av=6)(h:(jh (bY l d) e.aj).length≠(bY l d).length):appH l e d=(jh (bY l d) e.aj,0):=by
 rw[appH,if_neg (by omega),if_pos hk,if_pos];cases hh:zO (bY l d) e.aj with
 |true=>rfl
 |false=>exact absurd (Bz.2 hh) h
theorem Xtt{l:List Ho}{e:bD}{d:Int}(hk:e.av=6)(h:(jh (bY l d) e.aj).length=(bY l d).length):appH l e d=([],9):=by
 rw[appH,if_neg (by omega),if_pos hk,if_neg];rw[Bz.1 h];simp
theorem Xpt{l:List Ho}{e:bD}{d:Int}(h5:e.av≠5)(h6:e.av≠6):appH l e d=(bY l d,0):=by
 rw[appH,if_neg h5,if_neg h6]
theorem Xgs{s:af}(h:il s=true):s.length≤10:=by
 unfold il at h;simp only[Bool.and_eq_true,decide_eq_true_eq]at h;exact h.1.1.1.2
theorem Yk(p:af)(b:Nat)(l:List Ho)(w:World)(hc:w.cell? ⟨b,1,none⟩=some (S p)):vZ 75 #[.pointer (some ⟨b,0,none⟩)] l (fun h=> !(h.p==p)) (Below w.heap.size w):=by
 intro x hx W hW;have QS:=kM (.cells #[S x.p,.int .i64 x.u] 106) (aV hW hc);clear hc;show Calls Tryz.prog _ #[O7 x,.pointer (some ⟨b,0,none⟩)] W _;go_enter Tryz.func75,Tryz.ntmps75
 go_wp2;go_ret;exact⟨rfl,(Qb _ _).alloc (Qn _) _⟩
theorem Xrz(I:IH)(hI:fG I)(p:af)(hp:p.length≤4294967280)(b:Nat)(l:List Ho)(hl:∀h∈l,h.p.length≤4294967280)(w:World)(hw:Ok I w)(hc:w.cell? ⟨b,1,none⟩=some (S p)):vZ 78 #[.pointer (some ⟨b,0,none⟩)] l (fun h=>decide (0<jQ h.p p)) (Below w.heap.size w):=by
 intro x hx W hW;have Hu:=Qh (Xjl I hI x.p p (hl x hx) hp (W.alloc (.cells #[S x.p,.int .i64 x.u] 106)) ((hw.below (Qn _) hW).alloc _));have QS:=kM (.cells #[S x.p,.int .i64 x.u] 106) (aV hW hc);clear hc;show Calls Tryz.prog _ #[O7 x,.pointer (some ⟨b,0,none⟩)] W _;go_enter Tryz.func78,Tryz.ntmps78
 go_wp2_with fail
 refine Hu.O.mono ?_;rintro e w1 ⟨rfl,aG⟩;go_wp2;go_ret;exact⟨rfl,((Qb _ _).alloc (Qn _) _).trans (aG.mono (by simp))⟩
theorem Xow(I:IH)(hI:fG I)(v:Value)(l:List Ho)(hv:aZ ku I v l)(hk:yf l)(hn:l.length≤100000)(e:bD)(va vx:Value)(gK:aZ nk I va e.ag)(kw:aZ mU I vx e.aC)(he:aX e=0)(d:Int)(w:World)(hw:Ok I w):
 Calls Tryz.prog 37 #[v,iF e va vx,.int .i64 d] w (Fx ku I w (appH l e d).1 (appH l e d).2):=by
 have Ha:=Qh (fun w hw=>TC I v l hv hn d w hw);have HG:=Qh hI;have qp:e.aj.length≤4294967280:=by have:=(Iu (JV he).2.2.1).1;omega
 have Hd:=Qh (fun h5=>Xik he h5);have HE:=Qh (@Xm7 l e d);have HR:=Qh (@Xvh l e d);have HM:=Qh (@Xtt l e d);have HL:=Qh (@Xpt l e d);have ug:(bY l d).length≤100000:=Nat.le_trans (List.length_filter_le _ _) hn;have UD:=Qh (hk.act d);have Ku:(jh (bY l d) e.aj).length≤(bY l d).length:=List.length_filter_le _ _;have Pd:=Qh ((hk.act d).rest e.aj);have jW:(bY l d).filter (fun h=> !(h.p==e.aj))=jh (bY l d) e.aj:=rfl;obtain⟨ao,cap,rfl,fu,iv,_⟩:=id hv;obtain⟨aa,ca,rfl,_,_,_⟩:=id gK;obtain⟨ax,cx,rfl,_,_,_⟩:=id kw;clear hv gK kw hI hk he;generalize DY:jh (bY l d) e.aj=rest at Ku Pd jW HE HR HM;generalize hac:bY l d=act at Ha ug UD Ku jW HE HR HM HL;have zf:=Qh jW;clear DY hac jW;by_cases h5:e.av=5;case neg=>
  have k5:((e.av:Int)==5)=false:=by simpa using h5
  by_cases h6:e.av=6;case neg=>
   have k6:((e.av:Int)==6)=false:=by simpa using h6
   have Hn:=Qh (HL.O h5 h6);clear h5 h6;go_enter Tryz.func37,Tryz.ntmps37
   go_wp2_with fail
   refine(Ha.O _ (hw.alloc _)).mono ?_;rintro e1 w1 ⟨v1,rfl,ek,aG⟩;have kJ:=Qh (dP (e:=e) rfl aG);have iq:Ok I w1:=(hw.alloc _).below (Qn _) aG;have dJ:w.heap.size<w1.heap.size:=by have:=aG.size;simp at this;omega
   have jN:∀b,w.heap.size≤b→I b=none:=fun b hb=>hw.fresh hb;have aM:=((Qb w.heap.size w).alloc (Qn _) (.cells #[.int .i64 e.av,S e.aj,.slice aa e.ag.length ca,S e.target,.int .i64 e.size,S e.aD,.slice ax e.aC.length cx] 63)).trans (aG.mono (by simp));obtain⟨I1,kL,aO,kQ,_⟩:=(ek.lower (show w.heap.size≤_ by simp)).freeze iq jN;have Oc:=Qh kL;have xD:=Qh kQ;have Yl:=Qh (HG.O.mono (kL.keep hw (Qn _)));have Hs:=Qh (UA I1 v1 act kQ ug _ _ _ w1 aO (fun _ _=>by kernel_rfl) (Yk e.aj w.heap.size act w1 kJ.O.c1));obtain⟨a1,RO,rfl,Ee,QZ,_⟩:=id kQ;clear ek aG jN kQ kL iq;go_wp2_with fail
   refine Hs.O.mono ?_;rintro e2 w2 ⟨v2,rfl,gq,aL⟩;rw[zf.O]at gq;have xE:∀b,w1.heap.size≤b→I1 b=none:=fun b hb=>aO.fresh hb;have xG:=Qh xE;have bn:Ok I1 w2:=aO.below (Qn _) aL;have nX:=Qh (kJ.O.aR aL);have bH:=aM.trans (aL.mono aM.size);have gJ:w1.heap.size≤w2.heap.size:=aL.size;clear aL aM kJ aO Hs xE;obtain⟨I2,lI,uG,iQ,_⟩:=gq.freeze bn xG.O;have BB:=Qh gq;have Zx:=Qh lI;have yG:=Qh iQ;obtain⟨a2,cp2,rfl,Ef,tZ,_⟩:=id iQ;clear gq iQ lI;obtain⟨c0,c1,c2,c3,c4,c5,c6⟩:=nX.O;go_wp2;go_ret2;rw[Hn.O];exact⟨_,I1,rfl,bH,Oc.O,bn,xD.O⟩
  have k6:((e.av:Int)==6)=true:=by simpa using h6
  by_cases QK:rest.length=act.length
  ·have Hn:=Qh (HM.O h6 QK);have q1:((rest.length:Int)==act.length)=true:=by rw[QK];simp
   clear h5 h6 QK;go_enter Tryz.func37,Tryz.ntmps37
   go_wp2_with fail
   refine(Ha.O _ (hw.alloc _)).mono ?_;rintro e1 w1 ⟨v1,rfl,ek,aG⟩;have kJ:=Qh (dP (e:=e) rfl aG);have iq:Ok I w1:=(hw.alloc _).below (Qn _) aG;have dJ:w.heap.size<w1.heap.size:=by have:=aG.size;simp at this;omega
   have jN:∀b,w.heap.size≤b→I b=none:=fun b hb=>hw.fresh hb;have aM:=((Qb w.heap.size w).alloc (Qn _) (.cells #[.int .i64 e.av,S e.aj,.slice aa e.ag.length ca,S e.target,.int .i64 e.size,S e.aD,.slice ax e.aC.length cx] 63)).trans (aG.mono (by simp));obtain⟨I1,kL,aO,kQ,_⟩:=(ek.lower (show w.heap.size≤_ by simp)).freeze iq jN;have Oc:=Qh kL;have xD:=Qh kQ;have Yl:=Qh (HG.O.mono (kL.keep hw (Qn _)));have Hs:=Qh (UA I1 v1 act kQ ug _ _ _ w1 aO (fun _ _=>by kernel_rfl) (Yk e.aj w.heap.size act w1 kJ.O.c1));obtain⟨a1,RO,rfl,Ee,QZ,_⟩:=id kQ;clear ek aG jN kQ kL iq;go_wp2_with fail
   refine Hs.O.mono ?_;rintro e2 w2 ⟨v2,rfl,gq,aL⟩;rw[zf.O]at gq;have xE:∀b,w1.heap.size≤b→I1 b=none:=fun b hb=>aO.fresh hb;have xG:=Qh xE;have bn:Ok I1 w2:=aO.below (Qn _) aL;have nX:=Qh (kJ.O.aR aL);have bH:=aM.trans (aL.mono aM.size);have gJ:w1.heap.size≤w2.heap.size:=aL.size;clear aL aM kJ aO Hs xE;obtain⟨I2,lI,uG,iQ,_⟩:=gq.freeze bn xG.O;have BB:=Qh gq;have Zx:=Qh lI;have yG:=Qh iQ;obtain⟨a2,cp2,rfl,Ef,tZ,_⟩:=id iQ;clear gq iQ lI;obtain⟨c0,c1,c2,c3,c4,c5,c6⟩:=nX.O;go_wp2;go_ret2;rw[Hn.O];exact⟨_,I1,rfl,bH,Oc.O,bn,aZ.nil _ _⟩
  ·have Hn:=Qh (HR.O h6 QK);have q1:((rest.length:Int)==act.length)=false:=by
    have:((rest.length:Int))≠act.length:=by omega
    simpa using this
   clear h5 h6 QK;go_enter Tryz.func37,Tryz.ntmps37
   go_wp2_with fail
   refine(Ha.O _ (hw.alloc _)).mono ?_;rintro e1 w1 ⟨v1,rfl,ek,aG⟩;have kJ:=Qh (dP (e:=e) rfl aG);have iq:Ok I w1:=(hw.alloc _).below (Qn _) aG;have dJ:w.heap.size<w1.heap.size:=by have:=aG.size;simp at this;omega
   have jN:∀b,w.heap.size≤b→I b=none:=fun b hb=>hw.fresh hb;have aM:=((Qb w.heap.size w).alloc (Qn _) (.cells #[.int .i64 e.av,S e.aj,.slice aa e.ag.length ca,S e.target,.int .i64 e.size,S e.aD,.slice ax e.aC.length cx] 63)).trans (aG.mono (by simp));obtain⟨I1,kL,aO,kQ,_⟩:=(ek.lower (show w.heap.size≤_ by simp)).freeze iq jN;have Oc:=Qh kL;have xD:=Qh kQ;have Yl:=Qh (HG.O.mono (kL.keep hw (Qn _)));have Hs:=Qh (UA I1 v1 act kQ ug _ _ _ w1 aO (fun _ _=>by kernel_rfl) (Yk e.aj w.heap.size act w1 kJ.O.c1));obtain⟨a1,RO,rfl,Ee,QZ,_⟩:=id kQ;clear ek aG jN kQ kL iq;go_wp2_with fail
   refine Hs.O.mono ?_;rintro e2 w2 ⟨v2,rfl,gq,aL⟩;rw[zf.O]at gq;have xE:∀b,w1.heap.size≤b→I1 b=none:=fun b hb=>aO.fresh hb;have xG:=Qh xE;have bn:Ok I1 w2:=aO.below (Qn _) aL;have nX:=Qh (kJ.O.aR aL);have bH:=aM.trans (aL.mono aM.size);have gJ:w1.heap.size≤w2.heap.size:=aL.size;clear aL aM kJ aO Hs xE;obtain⟨I2,lI,uG,iQ,_⟩:=gq.freeze bn xG.O;have BB:=Qh gq;have Zx:=Qh lI;have yG:=Qh iQ;obtain⟨a2,cp2,rfl,Ef,tZ,_⟩:=id iQ;clear gq iQ lI;obtain⟨c0,c1,c2,c3,c4,c5,c6⟩:=nX.O;go_wp2;go_ret2;rw[Hn.O];exact⟨_,I2,rfl,bH,Oc.O.trans Zx.O (Nat.le_of_lt dJ),uG,yG.O⟩
 have k5:((e.av:Int)==5)=true:=by simpa using h5
 have Hn:=Qh (HE.O h5);have zu:e.target.length≤4294967280:=by
  have hh:=(Xkx (Hd.O h5)).2.2.2;have h1:=Xgs (Hd.O h5);omega
 have UE:=Qh (fun w=>Xry e.target zu (Hd.O h5) w);obtain⟨d0,Kg⟩:∃d0,digits e.target=d0:=⟨_,rfl⟩;obtain⟨U,hU⟩:∃U,iT e.aj act d0=U:=⟨_,rfl⟩;rw[Kg]at UE Hn;rw[hU]at Hn;have HU:=Qh hU;clear h5 Kg zu hU;go_enter Tryz.func37,Tryz.ntmps37
 go_wp2_with fail
 refine(Ha.O _ (hw.alloc _)).mono ?_;rintro e1 w1 ⟨v1,rfl,ek,aG⟩;have kJ:=Qh (dP (e:=e) rfl aG);have iq:Ok I w1:=(hw.alloc _).below (Qn _) aG;have dJ:w.heap.size<w1.heap.size:=by have:=aG.size;simp at this;omega
 have jN:∀b,w.heap.size≤b→I b=none:=fun b hb=>hw.fresh hb;have aM:=((Qb w.heap.size w).alloc (Qn _) (.cells #[.int .i64 e.av,S e.aj,.slice aa e.ag.length ca,S e.target,.int .i64 e.size,S e.aD,.slice ax e.aC.length cx] 63)).trans (aG.mono (by simp));obtain⟨I1,kL,aO,kQ,_⟩:=(ek.lower (show w.heap.size≤_ by simp)).freeze iq jN;have Oc:=Qh kL;have xD:=Qh kQ;have Yl:=Qh (HG.O.mono (kL.keep hw (Qn _)));have Hs:=Qh (UA I1 v1 act kQ ug _ _ _ w1 aO (fun _ _=>by kernel_rfl) (Yk e.aj w.heap.size act w1 kJ.O.c1));obtain⟨a1,RO,rfl,Ee,QZ,_⟩:=id kQ;clear ek aG jN kQ kL iq;go_wp2_with fail
 refine Hs.O.mono ?_;rintro e2 w2 ⟨v2,rfl,gq,aL⟩;rw[zf.O]at gq;have xE:∀b,w1.heap.size≤b→I1 b=none:=fun b hb=>aO.fresh hb;have xG:=Qh xE;have bn:Ok I1 w2:=aO.below (Qn _) aL;have nX:=Qh (kJ.O.aR aL);have bH:=aM.trans (aL.mono aM.size);have gJ:w1.heap.size≤w2.heap.size:=aL.size;clear aL aM kJ aO Hs xE;obtain⟨I2,lI,uG,iQ,_⟩:=gq.freeze bn xG.O;have BB:=Qh gq;have Zx:=Qh lI;have yG:=Qh iQ;obtain⟨a2,cp2,rfl,Ef,tZ,_⟩:=id iQ;clear gq iQ lI;obtain⟨c0,c1,c2,c3,c4,c5,c6⟩:=nX.O;go_wp2_with fail
 refine(UE.O _).mono ?_;rintro e3 w3 ⟨rfl,dO⟩;have fo:Ok I1 w3:=bn.below (Qn _) dO;have BC:Ok I2 w3:=uG.below (Qn _) dO;have om:=Qh (nX.O.aR dO);have EF:=Qh (BB.O.below dO);have oD:w2.heap.size≤w3.heap.size:=dO.size;have jg:=bH.trans (dO.mono bH.size);clear c0 c1 c2 c3 c4 c5 c6 nX BB bn uG dO bH;go_wp2_with fail
 go_loopw [10,35] (fun s10 TF wr=> ∃(k:Nat) (cur:Int),k≤act.length∧s10= .int .i64 cur∧TF= .int .i64 k∧iT e.aj (act.drop k) cur=U∧Below w3.heap.size w3 wr) (fun _ i _=>act.length-(intOf i).toNat)
 case atStart=>exact⟨0,d0,Nat.zero_le _,rfl,rfl,HU.O,Qb _ _⟩
 case round=>
  obtain⟨k,cur,hk,rfl,rfl,hu,hb⟩:=hrel;have Hu:=Qh hu;clear hu;by_cases hlt:k<act.length
  ·obtain⟨x,b,off,cap',cB,dC,x0,x1⟩:=yu xD.O (fo.below (Qn _) hb) k hlt;cases dC;have bI:=Qh (Xnf hlt cB Hu.O);obtain⟨c0,c1,c2,c3,c4,c5,c6⟩:=om.O.aR hb;have c1':=kM (.cells #[S x.p,.int .i64 x.u] 106) c1;clear cB Hu c0 c1 c2 c3 c4 c5 c6;cases hq:(x.p==e.aj)
   ·have kR:=Qh (show iT e.aj (act.drop (k+1)) cur=U by have:=bI.O;rwa[if_neg (by simpa using hq)]at this);clear bI;go_wp2;go_roundw;case rel=>exact⟨k+1,cur,by omega,rfl,by go_num,kR.O,hb.alloc hb.size _⟩
    case measure=>simp[intOf];omega
   ·have kR:=Qh (show iT e.aj (act.drop (k+1)) (max cur x.u)=U by have:=bI.O;rwa[if_pos (by simpa using hq)]at this);clear bI;go_wp2;go_roundw;case rel=>exact⟨k+1,max cur x.u,by omega,rfl,by go_num,kR.O,hb.alloc hb.size _⟩
    case measure=>simp[intOf];omega
  ·have vC:cur=U:=by have:=Hu.O;rwa[List.drop_of_length_le (by omega)]at this
   subst vC;have WS:Ok I2 wr:=BC.below (Qn _) hb;have BD:Ok I1 wr:=fo.below (Qn _) hb;have UF:=Qh (om.O.aR hb);have EG:=Qh (EF.O.below hb);have FD:=jg.trans (hb.mono jg.size);have UG:w3.heap.size≤wr.heap.size:=hb.size;have FE:=Qh (Xe9 I2 _ rest yG.O _ _ _ wr WS (fun _ _=>by kernel_rfl) (Xrz I1 Yl.O e.aj qp w.heap.size rest Pd.O.short wr BD UF.O.c1));have jf:=RJ rest (fun h=>decide (0<jQ h.p e.aj));clear Hu hb jg om EF fo BC WS;rcases jf with⟨i,hi,e1,e2,e3⟩|⟨e1,e2⟩
   ·rw[e1]at FE;have Hi:=Qh (Xpc ⟨e.aj,cur⟩ hi e2 e3);clear e1 e2 e3;go_wp2_with fail
    refine FE.O.mono ?_;rintro e5 w5 ⟨rfl,df⟩;have fZ:=BD.below (Qn _) df;have oW:=Qh (UF.O.aR df);have gW:=Qh (EG.O.below df);have eH:=FD.trans (df.mono FD.size);have kX:wr.heap.size≤w5.heap.size:=df.size;obtain⟨c0,c1,c2,c3,c4,c5,c6⟩:=oW.O;clear df FD UF EG BD c0 c2 c3 c4 c5 c6;have bq:=gW.O.sO (Qn w5.heap.size);have IB:=Qh (Xme I1 w1.heap.size _ rest ⟨e.aj,cur⟩ w5.heap.size i 106 [S e.aj,.int .i64 cur] _ (gW.O.alloc (.cells #[S e.aj,.int .i64 cur] 106)) rfl (heap_alloc_new w5 (.cells #[S e.aj,.int .i64 cur] 106)) bq (by omega) (by omega) (by simp;omega));clear bq;go_wp2_with fail
    refine IB.O.mono ?_;rintro e8 w8 ⟨v8,rfl,ow,qO⟩;have BF:=Qh ow;have Nr:=Qh qO;clear ow qO;go_wp2;go_ret2;have iV:=gW.O.alloc (.cells #[S e.aj,.int .i64 cur] 106);have mH:=Below.own (eH.alloc eH.size _) Nr.O iV (Nat.le_of_lt dJ) (by simp;omega);have lG:Ok I1 w8:=Ok.own (fZ.alloc _) Nr.O iV xG.O;obtain⟨I',kL,lI,nV,_⟩:=BF.O.freeze lG xG.O;rw[Hn.O];exact⟨_,I',rfl,mH,Oc.O.trans kL (Nat.le_of_lt dJ),lI,by rw[Hi.O];exact nV⟩
   ·rw[e1]at FE;have Hi:=Qh (Xmd ⟨e.aj,cur⟩ e2);clear e1 e2;go_wp2_with fail
    refine FE.O.mono ?_;rintro e5 w5 ⟨rfl,df⟩;have fZ:=BD.below (Qn _) df;have oW:=Qh (UF.O.aR df);have gW:=Qh (EG.O.below df);have eH:=FD.trans (df.mono FD.size);have kX:wr.heap.size≤w5.heap.size:=df.size;obtain⟨c0,c1,c2,c3,c4,c5,c6⟩:=oW.O;clear df FD UF EG BD c0 c2 c3 c4 c5 c6;have bq:=gW.O.sO (Qn w5.heap.size);have IB:=Qh (Xme I1 w1.heap.size _ rest ⟨e.aj,cur⟩ w5.heap.size rest.length 106 [S e.aj,.int .i64 cur] _ (gW.O.alloc (.cells #[S e.aj,.int .i64 cur] 106)) rfl (heap_alloc_new w5 (.cells #[S e.aj,.int .i64 cur] 106)) bq (by omega) (by omega) (by simp;omega));clear bq;go_wp2_with fail
    refine IB.O.mono ?_;rintro e8 w8 ⟨v8,rfl,ow,qO⟩;have BF:=Qh ow;have Nr:=Qh qO;clear ow qO;go_wp2;go_ret2;have iV:=gW.O.alloc (.cells #[S e.aj,.int .i64 cur] 106);have mH:=Below.own (eH.alloc eH.size _) Nr.O iV (Nat.le_of_lt dJ) (by simp;omega);have lG:Ok I1 w8:=Ok.own (fZ.alloc _) Nr.O iV xG.O;obtain⟨I',kL,lI,nV,_⟩:=BF.O.freeze lG xG.O;rw[Hn.O];exact⟨_,I',rfl,mH,Oc.O.trans kL (Nat.le_of_lt dJ),lI,by rw[Hi.O];exact nV⟩
end Go.Proofs.YtegieeommgiknaaGreatDoor
namespace Go.Proofs
open Go.Shelf
def Tryz.wm:Go.Shelf.Ren:=⟨fun|169=>105|n=>n,fun|70=>151|9=>9|0=>0|72=>153|37=>144|127=>187|3=>3|5=>5|n=>n,fun|n=>n⟩
theorem Tryz.K5:Go.Proofs.Lays.n169 Tryz.prog Tryz.wm:={
 mixed:=by kernel_rfl
 f169:=Tryz.func105.trans (congrArg some (by kernel_rfl))
 t0:=Tryz.underlying0
 a0:=Tryz.isAgg0
 z0:=Tryz.sizeOf0
 v0:=Tryz.zeroValue0
 t3:=Tryz.underlying3
 a3:=Tryz.isAgg3
 z3:=Tryz.sizeOf3
 v3:=Tryz.zeroValue3
 t9:=Tryz.underlying9
 a9:=Tryz.isAgg9
 z9:=Tryz.sizeOf9
 v9:=Tryz.zeroValue9
 t37:=Tryz.underlying144
 a37:=Tryz.isAgg144
 z37:=Tryz.sizeOf144
 v37:=Tryz.zeroValue144
 t70:=Tryz.underlying151
 a70:=Tryz.isAgg151
 z70:=Tryz.sizeOf151
 v70:=Tryz.zeroValue151
 t72:=Tryz.underlying153
 a72:=Tryz.isAgg153
 z72:=Tryz.sizeOf153
 v72:=Tryz.zeroValue153
 t127:=Tryz.underlying187
 a127:=Tryz.isAgg187
 z127:=Tryz.sizeOf187
 v127:=Tryz.zeroValue187}
theorem Tryz.uH:Builder.Extra Tryz.prog Tryz.wm:={
 sizeBuilder:=by kernel_rfl
 liesBuilder:=by kernel_rfl
 t5:=Tryz.underlying5
 a5:=Tryz.isAgg5
 z5:=Tryz.sizeOf5
 v5:=Tryz.zeroValue5
 infoByte:=by kernel_rfl
 cellsByte:=by kernel_rfl
 sizeByte:=by kernel_rfl
 neB5:=by decide}
open Go.RowKit in
theorem Tryz.Builder_String_any(B b:Nat)(l:List UInt8)(w:World)(h:Lib.IsBuilder 153 5 B b (Lib.byteCells l) w)(AC:B≤w.heap.size):
 Calls Tryz.prog 105 #[.pointer (some ⟨b,0,none⟩)] w fun e w'=>e= .returned (.string ⟨l.toArray⟩)∧Below B w w':=Any.Builder_String_any Tryz.K5 Tryz.uH B b l w h AC
def Tryz.wo:Go.Shelf.Ren:=⟨fun|105=>113|212=>158|99=>159|165=>154|166=>101|170=>160|169=>105|263=>197|264=>198|206=>199|240=>149|241=>195|276=>190|277=>220|n=>n,fun|9=>9|3=>3|4=>4|20=>20|0=>0|46=>168|109=>199|5=>5|72=>153|76=>156|51=>25|146=>223|53=>166|148=>225|70=>151|37=>144|75=>155|127=>187|164=>218|80=>159|n=>n,fun|n=>n⟩
theorem Tryz.K6:Go.Proofs.Lays.n105 Tryz.prog Tryz.wo:={
 mixed:=by kernel_rfl
 f99:=Tryz.func159.trans (congrArg some (by kernel_rfl))
 f105:=Tryz.func113.trans (congrArg some (by kernel_rfl))
 f165:=Tryz.func154.trans (congrArg some (by kernel_rfl))
 f166:=Tryz.func101.trans (congrArg some (by kernel_rfl))
 f169:=Tryz.func105.trans (congrArg some (by kernel_rfl))
 f170:=Tryz.func160.trans (congrArg some (by kernel_rfl))
 f206:=Tryz.func199.trans (congrArg some (by kernel_rfl))
 f212:=Tryz.func158.trans (congrArg some (by kernel_rfl))
 f240:=Tryz.func149.trans (congrArg some (by kernel_rfl))
 f241:=Tryz.func195.trans (congrArg some (by kernel_rfl))
 f263:=Tryz.func197.trans (congrArg some (by kernel_rfl))
 f264:=Tryz.func198.trans (congrArg some (by kernel_rfl))
 f276:=Tryz.func190.trans (congrArg some (by kernel_rfl))
 f277:=Tryz.func220.trans (congrArg some (by kernel_rfl))
 t0:=Tryz.underlying0
 a0:=Tryz.isAgg0
 z0:=Tryz.sizeOf0
 v0:=Tryz.zeroValue0
 t3:=Tryz.underlying3
 a3:=Tryz.isAgg3
 z3:=Tryz.sizeOf3
 v3:=Tryz.zeroValue3
 t4:=Tryz.underlying4
 a4:=Tryz.isAgg4
 z4:=Tryz.sizeOf4
 v4:=Tryz.zeroValue4
 t5:=Tryz.underlying5
 a5:=Tryz.isAgg5
 z5:=Tryz.sizeOf5
 v5:=Tryz.zeroValue5
 t9:=Tryz.underlying9
 a9:=Tryz.isAgg9
 z9:=Tryz.sizeOf9
 v9:=Tryz.zeroValue9
 t20:=Tryz.underlying20
 a20:=Tryz.isAgg20
 z20:=Tryz.sizeOf20
 v20:=Tryz.zeroValue20
 t37:=Tryz.underlying144
 a37:=Tryz.isAgg144
 z37:=Tryz.sizeOf144
 v37:=Tryz.zeroValue144
 t46:=Tryz.underlying168
 a46:=Tryz.isAgg168
 z46:=Tryz.sizeOf168
 v46:=Tryz.zeroValue168
 t51:=Tryz.underlying25
 a51:=Tryz.isAgg25
 z51:=Tryz.sizeOf25
 v51:=Tryz.zeroValue25
 t53:=Tryz.underlying166
 a53:=Tryz.isAgg166
 z53:=Tryz.sizeOf166
 v53:=Tryz.zeroValue166
 t70:=Tryz.underlying151
 a70:=Tryz.isAgg151
 z70:=Tryz.sizeOf151
 v70:=Tryz.zeroValue151
 t72:=Tryz.underlying153
 a72:=Tryz.isAgg153
 z72:=Tryz.sizeOf153
 v72:=Tryz.zeroValue153
 t75:=Tryz.underlying155
 a75:=Tryz.isAgg155
 z75:=Tryz.sizeOf155
 v75:=Tryz.zeroValue155
 t76:=Tryz.underlying156
 a76:=Tryz.isAgg156
 z76:=Tryz.sizeOf156
 v76:=Tryz.zeroValue156
 t109:=Tryz.underlying199
 a109:=Tryz.isAgg199
 z109:=Tryz.sizeOf199
 v109:=Tryz.zeroValue199
 t127:=Tryz.underlying187
 a127:=Tryz.isAgg187
 z127:=Tryz.sizeOf187
 v127:=Tryz.zeroValue187
 t146:=Tryz.underlying223
 a146:=Tryz.isAgg223
 z146:=Tryz.sizeOf223
 v146:=Tryz.zeroValue223
 t148:=Tryz.underlying225
 a148:=Tryz.isAgg225
 z148:=Tryz.sizeOf225
 v148:=Tryz.zeroValue225
 t164:=Tryz.underlying218
 a164:=Tryz.isAgg218
 z164:=Tryz.sizeOf218
 v164:=Tryz.zeroValue218}
theorem Tryz.uI:Builder.Extra Tryz.prog Tryz.wo:={
 sizeBuilder:=by kernel_rfl
 liesBuilder:=by kernel_rfl
 t5:=Tryz.underlying5
 a5:=Tryz.isAgg5
 z5:=Tryz.sizeOf5
 v5:=Tryz.zeroValue5
 infoByte:=by kernel_rfl
 cellsByte:=by kernel_rfl
 sizeByte:=by kernel_rfl
 neB5:=by decide}
open Go.RowKit Go.Lib in
theorem Tryz.strings_Repeat(s:ByteArray)(c:Nat)(w:World)(hc:c≤9223372036854775807)(hlen:s.size*c≤140737488355328):
 Calls Tryz.prog 113 #[.string s,.int .i64 c] w fun e w'=>e= .returned (.string ⟨(Lib.repeatL s.data.toList c).toArray⟩)∧Below w.heap.size w w':=Any.strings_Repeat Tryz.K6 Tryz.uI s c w hc hlen
def Tryz.wu:Go.Shelf.Ren:=⟨fun|166=>101|240=>149|276=>190|n=>n,fun|0=>0|3=>3|4=>4|5=>5|9=>9|20=>20|37=>144|70=>151|72=>153|75=>155|80=>159|164=>218|n=>n,fun|n=>n⟩
theorem Tryz.K7:Go.Proofs.Lays.n166 Tryz.prog Tryz.wu:={
 mixed:=by kernel_rfl
 f166:=Tryz.func101.trans (congrArg some (by kernel_rfl))
 f240:=Tryz.func149.trans (congrArg some (by kernel_rfl))
 f276:=Tryz.func190.trans (congrArg some (by kernel_rfl))
 t0:=Tryz.underlying0
 a0:=Tryz.isAgg0
 z0:=Tryz.sizeOf0
 v0:=Tryz.zeroValue0
 t3:=Tryz.underlying3
 a3:=Tryz.isAgg3
 z3:=Tryz.sizeOf3
 v3:=Tryz.zeroValue3
 t4:=Tryz.underlying4
 a4:=Tryz.isAgg4
 z4:=Tryz.sizeOf4
 v4:=Tryz.zeroValue4
 t9:=Tryz.underlying9
 a9:=Tryz.isAgg9
 z9:=Tryz.sizeOf9
 v9:=Tryz.zeroValue9
 t20:=Tryz.underlying20
 a20:=Tryz.isAgg20
 z20:=Tryz.sizeOf20
 v20:=Tryz.zeroValue20
 t37:=Tryz.underlying144
 a37:=Tryz.isAgg144
 z37:=Tryz.sizeOf144
 v37:=Tryz.zeroValue144
 t70:=Tryz.underlying151
 a70:=Tryz.isAgg151
 z70:=Tryz.sizeOf151
 v70:=Tryz.zeroValue151
 t72:=Tryz.underlying153
 a72:=Tryz.isAgg153
 z72:=Tryz.sizeOf153
 v72:=Tryz.zeroValue153
 t75:=Tryz.underlying155
 a75:=Tryz.isAgg155
 z75:=Tryz.sizeOf155
 v75:=Tryz.zeroValue155
 t164:=Tryz.underlying218
 a164:=Tryz.isAgg218
 z164:=Tryz.sizeOf218
 v164:=Tryz.zeroValue218}
theorem Tryz.uJ:Builder.Extra Tryz.prog Tryz.wu:={
 sizeBuilder:=by kernel_rfl
 liesBuilder:=by kernel_rfl
 t5:=Tryz.underlying5
 a5:=Tryz.isAgg5
 z5:=Tryz.sizeOf5
 v5:=Tryz.zeroValue5
 infoByte:=by kernel_rfl
 cellsByte:=by kernel_rfl
 sizeByte:=by kernel_rfl
 neB5:=by decide}
theorem Tryz.Builder_WriteString(B b:Nat)(bs:List Value)(s:ByteArray)(w:World)(h:Lib.IsBuilder 153 5 B b bs w)(hlen:bs.length+s.size≤140737488355328)(AC:B≤w.heap.size):
 Calls Tryz.prog 101 #[.pointer (some ⟨b,0,none⟩),.string s] w fun e w'=>e= .returned (.tuple #[.int .i64 s.size,.nilIface])∧(Lib.BuilderAt 153 5 B b (.pointer (some ⟨b,0,none⟩)) (bs++Lib.strCells s) w'∧RowKit.Below B w w'):=Any.Builder_WriteString Tryz.K7 Tryz.uJ B b bs s w h hlen AC
end Go.Proofs
namespace Go.Proofs.YtegieeommgiknaaGreatDoor
def IC(t:List bD)(p:af):List bD:=t.filter fun x=>decide (aW x.aj=0)&&decide (x.aj≠[])&&(qA x.aj==p)
def Ns(p:af):af:=(els p).getLastD []
section
variable (H K8:af→af) (num:Int→af) (nm:Int→af)
def Dm(x:bD):af:=K8 (nm x.av)++(num x.ag.length++x.ag.flatMap fun a=>K8 a.k++K8 a.v)
def Nt:Nat→List bD→bD→af
 |0,_,_=> []
 |n+1,t,x=>if x.av=2 then H (Dm K8 num nm x++num (IC t x.aj).length++(IC t x.aj).flatMap fun y=>K8 (Ns y.aj)++K8 (Nt n t y))
  else H (Dm K8 num nm x++K8 x.target++num x.size++K8 x.aD)
end
def fA(s:af):af:=Lib.itoa s.length++[58]++s++[44]
def jv:List af→af
 | []=> []
 |s::l=>fA s++jv l
def gm(n:Int):af:=Lib.itoa n++[32]
theorem Xg0(l m:List af):jv (l++m)=jv l++jv m:=by
 induction l with
 |nil=>rfl
 |cons s l ih=>rw[List.cons_append,jv,jv,ih,List.append_assoc]
theorem Xjn(n w:Nat)(hn:n<10^w)(hw:1≤w):Lib.nDigits n≤w:=by
 induction w generalizing n with
 |zero=>omega
 |succ w ih=>
  by_cases h:n<10
  ·rw[Lib.nDigits_small h];omega
  ·rw[Lib.nDigits_big h];rw[Nat.pow_succ]at hn;rcases Nat.eq_zero_or_pos w with h0|h0
   ·subst h0;simp at hn;omega
   ·have:=ih (n / 10) (by omega) h0;omega
theorem RP(n:Nat)(h:n≤140737488355328):(Lib.itoa (n:Int)).length≤16:=by
 have:Lib.itoa (n:Int)=Lib.decDigits n:=by simp[Lib.itoa]
 rw[this,Lib.decDigits_length];exact Xjn n 16 (by omega) (by omega)
theorem vD(s:af)(h:s.length≤100000000):(fA s).length≤s.length+18:=by
 have:=RP s.length (by omega);simp[fA];omega
theorem Gf(n:Nat)(h:n≤140737488355328):(gm n).length≤17:=by
 have:=RP n h;simp[gm];omega
structure anv (x:bD):Prop where
 av:x.av=1∨x.av=2∨x.av=3
 La:x.ag.length≤16
 UH:∀a∈x.ag,a.k.length≤32∧a.v.length≤64
 target:x.target.length≤200
 s0:0≤x.size
 s1:x.size≤65536
 aD:x.aD.length≤32
 aj:x.aj.length≤200
 deep:(els x.aj).length≤8
theorem Xiy:∀{l:List At} {p:Option At},fE p l=0→ ∀a∈l,a.k.length≤32∧a.v.length≤64
 | [],_,_,a,ha=>by cases ha
 |x::l,p,h,a,ha=>by
  unfold fE at h;by_cases h1:iB x≠0
  ·rw[if_pos h1]at h;exact absurd h h1
  rw[if_neg h1]at h;split at h
  ·omega
  split at h
  ·omega
  rcases List.mem_cons.1 ha with rfl|ha
  ·have h2:iB a=0:=by omega
   unfold iB at h2;split at h2
   ·omega
   rename_i hk;split at h2
   ·omega
   simp[nI]at hk;omega
  ·exact Xiy h a ha
theorem Xxc{l:List At}(h:oP l=0):l.length≤16∧ ∀a∈l,a.k.length≤32∧a.v.length≤64:=by
 unfold oP at h;split at h
 ·omega
 ·exact⟨by omega,Xiy h⟩
def ahh:bD:=⟨2,[],[],[],0,[],[]⟩
def Deep(n:Nat)(x:bD):Prop:=10≤(els x.aj).length+n
section
variable (H:af→af) (hH:∀s,(H s).length≤32)
abbrev UI(n:Nat)(t:List bD)(x:bD):af:=Nt H fA gm gp n t x
abbrev Pe(x:bD):af:=Dm fA gm gp x
theorem Ym(k:Int):(gp k).length≤7:=by
 unfold gp;repeat' split
 all_goals simp
def zP(l:List At):af:=gm l.length++l.flatMap fun a=>fA a.k++fA a.v
theorem Xk4:∀(l:List At),(∀a∈l,a.k.length≤32∧a.v.length≤64)→(l.flatMap fun a=>fA a.k++fA a.v).length≤132*l.length
 | [],_=>by simp
 |a::l,h=>by
  have h1:=h a (List.mem_cons_self ..);have h2:=Xk4 l fun b hb=>h b (List.mem_cons_of_mem _ hb);have h3:=vD a.k (by omega);have h4:=vD a.v (by omega);simp only[List.flatMap_cons,List.length_append,List.length_cons];omega
theorem Xvf{l:List At}(hn:l.length≤16)(h:∀a∈l,a.k.length≤32∧a.v.length≤64):(zP l).length≤2200:=by
 have h1:=Xk4 l h;have h2:=Gf l.length (by omega);unfold zP;rw[List.length_append];omega
def Yn(n:Nat)(t:List bD)(x:bD)(l:List bD):af:=Pe x++gm (IC t x.aj).length++l.flatMap fun y=>fA (Ns y.aj)++fA (UI H n t y)
end
open Go.RowKit Go.Lib
theorem Xhx(c:UInt8):∀n,repeatL [c] n=List.replicate n c
 |0=>rfl
 |n+1=>by rw[repeatL,Xhx c n,List.replicate_succ];rfl
theorem Xqr(l:af)(c:Int)(w:World)(h0:0≤c)(hc:c≤9223372036854775807)(hl:l.length*c.toNat≤140737488355328):
 Calls Tryz.prog 113 #[S l,.int .i64 c] w fun e w'=>e= .returned (S (repeatL l c.toNat))∧Below w.heap.size w w':=by
 obtain⟨c,rfl⟩:=Int.eq_ofNat_of_zero_le h0;have h:=Tryz.strings_Repeat ⟨l.toArray⟩ c w (by omega) (by rw[ByteArray.size_mk',List.size_toArray];simpa using hl);simpa using h
theorem Xmc(l:List af):Lib.join l []=l.flatten:=by
 unfold Lib.join List.intercalate;induction l with
 |nil=>rfl
 |cons x l ih=>
  cases l with
  |nil=>rfl
  |cons y l=>rw[List.intersperse_cons_cons,List.flatten_cons,List.flatten_cons,ih,List.flatten_cons];rfl
theorem Xsk(b off cap:Nat)(l:List af)(w:World)(hc:∀(j:Nat) x,l[j]?=some x→w.cell? ⟨b,off+j,none⟩=some (S x))(fu:l.length≤cap)(hb:b<w.heap.size)(hn:l.length≤1000000)(hl:l.flatten.length≤140737488355328):
 Calls Tryz.prog 110 #[.slice (some ⟨b,off,none⟩) l.length cap,S []] w fun e w'=>e= .returned (S l.flatten)∧Below w.heap.size w w':=by
 have hx:(l.map fun s=>(⟨s.toArray⟩:ByteArray)).map (·.data.toList)=l:=by
  rw[List.map_map];conv=>rhs;rw[←List.map_id l]
  apply List.map_congr_left;intro b _;simp
 have zw:Lib.join ((l.map fun s=>(⟨s.toArray⟩:ByteArray)).map (·.data.toList)) (⟨[].toArray⟩:ByteArray).data.toList=l.flatten:=by rw[hx];exact Xmc l
 have h:=Tryz.strings_Join b off cap (l.map fun s=>⟨s.toArray⟩) ⟨[].toArray⟩ w (fun j x hx=> ?_) hb (by rw[List.length_map];omega) (by rw[List.length_map];exact fu) (by rw[zw];exact hl)
 ·rw[zw,List.length_map]at h;exact h
 ·rw[List.getElem?_map]at hx;cases hlj:l[j]? with
  |none=>rw[hlj]at hx;simp at hx
  |some s=>
   rw[hlj]at hx;simp at hx;subst hx;exact hc j s hlj
def Yo(s:af):Int:=Lib.lastIndexByte ⟨s.toArray⟩ 47
