/- Lemmas for the claim's theorem;conditions: as each says. -/
import Derived.Test.YtegieeommgiknaaGreatDoorU08
import Derived.Laws.CopyRow
set_option maxHeartbeats 0
set_option maxRecDepth 100000
set_option linter.all false
namespace Go.Proofs.YtegieeommgiknaaGreatDoor
open Go.RowKit
variable{P:Program}{w:World}
theorem UO:(Tryz.prog.info? 63).map (fun i=>(i.zero,i.size,i.bytes))=some (some (.agg #[.int .i64 0,.string ⟨#[]⟩,.slice none 0 0,.string ⟨#[]⟩,.int .i64 0,.string ⟨#[]⟩,.slice none 0 0]),7,112):=by kernel_rfl
theorem G7(I:IH)(v:Value)(l:List _)(hv:aZ bM I v l)(w:World)(hw:Ok I w)(iw:l.length*112≤140737488355328):
 Calls Tryz.prog 38 #[v] w fun e w'=> ∃v',e= .returned v'∧aQ bM 63 I w' w.heap.size v' l∧Below w.heap.size w w':=by
 obtain⟨i0,hi,pg,qL,wX⟩:=info_parts UO;have q22:∀(w:World) (a:Option Addr) (n c n' c':Nat),(binOp .eql 40 (.slice a n c) (.slice none n' c')).run Tryz.prog w= .ok (.bool a.isNone) w:=fun w a n c n' c'=>Lib.run_eql_slice_nil w _ _ a n c n' c' Tryz.underlying40;obtain⟨ao,cap,xs,rfl,fu,iv,hL,hx⟩:=hv.cells hw (by decide);have HL:=Qh hL;have Hx:=Qh hx;clear hL hx hv;cases ao with
 |none=>
  have h0:l.length=0:=by
   rcases Nat.eq_zero_or_pos l.length with h|h
   ·exact h
   ·obtain⟨b,off,arr,e,_⟩:=Hx.O h;cases e
  have:l=[]:=List.eq_nil_of_length_eq_zero h0;subst this;go_enter Tryz.func38,Tryz.ntmps38
  go_wp2;go_ret;exact⟨_,rfl,aQ.nil _ _ _ _ _,Qb _ _⟩
 |some a=>
  go_enter Tryz.func38,Tryz.ntmps38
  go_wp2_with (at_builtin;refine wpList_append_own _ rfl _ _ 40 rfl w.heap.size 63 i0 _ 7 112 Tryz.underlying40 hi pg qL wX rfl (by decide) _ _ _ rfl (World.ownsRow_made w #[] 0 (Qn _) (Nat.zero_le _) (by simp)) a l.length cap xs rfl ?qc1 ?qc2 ?qc3 ?qc4 ?qc5 ?qc6 ?_)
  case qc1=>exact HL.O.1
  case qc2=>
   intro j u hj;have hl:0<l.length:=by
    have:=(List.getElem?_eq_some_iff.1 hj).1;rw[HL.O.1]at this;rcases Nat.eq_zero_or_pos l.length with h|h
    ·rw[h]at this;omega
    ·exact h
   obtain⟨b,off,arr,e,_,hb,hc⟩:=Hx.O hl;cases e;rw[Addr.add_lit];rw[World.cell?_alloc_lt _ _ _ hb];exact hc j u hj
  case qc3=>exact HL.O.oneCell
  case qc4=>rw[Nat.zero_add];omega
  case qc5=>rw[Nat.zero_add];exact iw
  case qc6=>simp
  intro v' w1 bU nT _;go_wp2;go_ret;refine⟨v',rfl,⟨xs,(by have hq:=bU;first|exact hq|(simp at hq;exact hq)),HL.O⟩,?_⟩;exact((Qb _ w).alloc (Qn _) _).grown nT (by simp) (by intro k hk;simp[Value.ownBlock]at hk;omega)
theorem Xje(I:IH)(B:Nat)(v:Value)(l:List _)(x:_)(vb:Nat)(news:List Value)(w:World)(hv:aQ bM 63 I w B v l)(hx:bM.rd I news x)
 (fV:∀j u,news[j]?=some u→w.cell? ⟨vb,j,none⟩=some u) (iw:(l.length+1)*112≤140737488355328) (hB:B≤w.heap.size):
 Calls Tryz.prog 72 #[v,.int .i64 l.length,.slice (some ⟨vb,0,none⟩) 1 1] w fun e w'=> ∃v',e= .returned v'∧aQ bM 63 I w' B v' (l++[x])∧w.grownBy w' v.ownBlock:=by
 obtain⟨i0,hi,pg,qL,wX⟩:=info_parts UO;obtain⟨xs,bU,hL⟩:=hv;have HL:=Qh hL;have Hx:=Qh hx;have ma:=Qh fV;have yc:maxLen=9223372036854775807:=rfl;have hlen:l.length≤4611686018427387904:=by omega
 clear hL hx fV;have nS:v= .slice none 0 0∧l.length=0∨ ∃g cap,v= .slice (some ⟨g,0,none⟩) l.length cap∧l.length≤cap∧cap≤9223372036854775807:=by
  rcases bU.2 with h|⟨g,cap,cur,h1,_,_,h2,h3,_⟩
  ·exact .inl h
  ·exact .inr ⟨g,cap,h1,h2,by rw[yc]at h3;exact h3⟩
 have UB:=Qh yc;clear yc;rcases nS with⟨rfl,h0⟩|⟨g,cap,rfl,fu,iv⟩
 ·have:l=[]:=List.eq_nil_of_length_eq_zero h0;subst this;go_enter Tryz.func72,Tryz.ntmps72
  go_wp2_with (at_builtin;refine wpList_append_own _ rfl _ _ 40 rfl B 63 i0 _ 7 112 Tryz.underlying40 hi pg qL wX rfl (by decide) _ _ _ rfl bU ⟨vb,0,none⟩ 1 1 news rfl ?qc1 ?qc2 ?qc3 ?qc4 ?qc5 ?qc6 ?_)
  case qc1=>exact bM.len Hx.O
  case qc2=>intro j u hj;rw[Addr.add_lit,Nat.zero_add];exact ma.O j u hj
  case qc3=>exact bM.one Hx.O
  case qc4=>rw[UB.O];simp
  case qc5=>simp
  case qc6=>exact hB
  intro v' w1 ek nT _;go_wp2;go_ret;exact⟨v',rfl,⟨_,ek,dF.append HL.O (dF.one Hx.O)⟩,nT⟩
 ·go_enter Tryz.func72,Tryz.ntmps72
  go_wp2_with (at_builtin;refine wpList_append_own _ rfl _ _ 40 rfl B 63 i0 _ 7 112 Tryz.underlying40 hi pg qL wX rfl (by decide) _ _ _ rfl bU ⟨vb,0,none⟩ 1 1 news rfl (bM.len Hx.O) (fun j u hj=>by rw[Addr.add_lit,Nat.zero_add];exact ma.O j u hj) (bM.one Hx.O) (by rw[UB.O];omega) iw hB ?_)
  all_goals
   intro v' w1 ek nT _;go_wp2;go_ret;exact⟨v',rfl,⟨_,by rw[List.length_append];exact ek,dF.append HL.O (dF.one Hx.O)⟩,nT⟩
theorem Xg8(I:IH)(B g cap i:Nat)(l:List _)(x:_)(vb:Nat)(tb:TypeId)(news:List Value)(w:World)(hv:aQ bM 63 I w B (.slice (some ⟨g,0,none⟩) l.length cap) l)(hx:bM.rd I news x)
 (pu:w.heap[vb]?=some (.cells news.toArray tb (0,0))) (bq:vb≠g) (hi:i<l.length) (tC:l.length+1≤cap) (iv:cap≤9223372036854775807):
 Calls Tryz.prog 72 #[.slice (some ⟨g,0,none⟩) l.length cap,.int .i64 i,.slice (some ⟨vb,0,none⟩) 1 1] w fun e w'=> ∃v',e= .returned v'∧aQ bM 63 I w' B v' (l.take i++x::l.drop i)∧w.grownBy w' (some g):=by
 obtain⟨i0,JE,pg,qL,wX⟩:=info_parts UO;obtain⟨xs,⟨qo,bU⟩,hL⟩:=hv;rcases bU with⟨h0,_⟩|⟨g',cap',cur,h1,FZ,hg,_,Ed,jf,pE⟩
 ·cases h0
 injection h1 with xY h1b QU
 injection xY with xY
 injection xY with xY
 subst xY QU;have bS:(Tryz.prog.info? 63).map (·.size)=some 7:=by rw[JE];simp[qL]
 have Al:news.length=7:=bM.len hx;have Fa:=bM.one hx;have xA:xs.length=l.length*7:=qo;have lv:cur.size=cap*7:=jf;have oH:cur.toList.take xs.length=xs:=by rw[qo];exact pE
 have hov:∀lb cb,(callFunc 125 #[.slice (some ⟨vb,0,none⟩) 1 1,.slice (some ⟨g,(i+1)*7,none⟩) lb cb]).run Tryz.prog w= .ok (.value (.bool false)) w:=fun lb cb=>by
  rw[run_callFunc_extern Tryz.func125 (by kernel_rfl) (by kernel_rfl) (by kernel_rfl) (e:=Extern.SlicesOverlaps.overlaps #[40,40] #[4]) (by kernel_rfl),
   Lib.run_overlaps_apart w 40 4 63 Tryz.underlying40 7 (fun w=>by simp[go_sem]) ⟨vb,0,none⟩ ⟨g,(i+1)*7,none⟩ 1 1 lb cb bq tb 63 7 cur.size (by simp[World.shape?,pu,Al]) (by simp[World.shape?,hg]) (by omega) (by simp[World.frozen?,pu]) (by simp[World.frozen?,pu])]
  rfl
 obtain⟨lX,uE⟩:∃c,c=over cur (i*7+7) (xs.drop (i*7)):=⟨_,rfl⟩;have uX:lX.size=cur.size:=by rw[uE];exact Gd _ _ _ (by rw[List.length_drop];omega)
 obtain⟨vB,uF⟩:∃c,c=over lX (i*7) news:=⟨_,rfl⟩;have pV:vB.size=lX.size:=by rw[uF];exact Gd _ _ _ (by omega)
 have jM:vB.toList.take ((l.length+1)*7)=xs.take (i*7)++news++xs.drop (i*7):=by
  have:=insert_row cur xs news (i*7) 7 (by omega) oH Al (by omega);rw[←uE,←uF]at this;rw[show(l.length+1)*7=xs.length+7 by omega];exact this
 have Ee:∀ty dc sc,(Builtin.copy_ #[40,40] ty #[.slice (some ⟨g,(i+1)*7,none⟩) (l.length-i) dc,.slice (some ⟨g,i*7,none⟩) (l.length+1-i) sc]).run Tryz.prog w.drew= .ok (goInt ((l.length-i:Nat):Int)) (w.drew.setRow g lX):=fun ty dc sc=>by
  have h:=JW (P:=Tryz.prog) w.drew 40 40 ty 63 7 g ((i+1)*7) (l.length-i) dc ⟨g,i*7,none⟩ (l.length+1-i) sc cur 63 (xs.drop (i*7)) Tryz.underlying40 bS hg (by rw[List.length_drop];simp only[Nat.min_def];split<;>omega)
   (fun j u hj=>by
     rw[Addr.add_lit];rw[List.getElem?_drop,←oH,List.getElem?_take]at hj;split at hj
     ·rw[World.cell?_drew,cell_of_row w g _ cur _ _ hg,←Array.getElem?_toList];exact hj
     ·cases hj) (by rw[List.length_drop];omega) (fun u hu=>hL.oneCell u (List.mem_of_mem_drop hu))
  rw[h,show Nat.min (l.length+1-i) (l.length-i)=l.length-i by simp only[Nat.min_def];split<;>omega,uE];rw[show(i+1)*7=i*7+7 by omega];rfl
 have hg1:(w.drew.setRow g lX).heap[g]?=some (.cells lX 63 (0,0)):=setRow_heap w.drew g cur lX _ _ hg;have Ef:∀ty dc,(Builtin.copy_ #[40,40] ty #[.slice (some ⟨g,i*7,none⟩) (l.length+1-i) dc,.slice (some ⟨vb,0,none⟩) 1 1]).run Tryz.prog (w.drew.setRow g lX)= .ok (goInt 1) ((w.drew.setRow g lX).setRow g vB):=fun ty dc=>by
  have h:=JW (P:=Tryz.prog) (w.drew.setRow g lX) 40 40 ty 63 7 g (i*7) (l.length+1-i) dc ⟨vb,0,none⟩ 1 1 lX 63 news Tryz.underlying40 bS hg1 (by rw[Al];simp only[Nat.min_def];split<;>omega)
   (fun j u hj=>by
     rw[Addr.add_lit,Nat.zero_add];have:(w.drew.setRow g lX).heap[vb]?=some (.cells news.toArray tb (0,0)):=by rw[setRow_other _ _ _ _ bq];exact pu
     rw[cell_of_row _ vb j _ _ _ this];simpa using hj) (by omega) Fa
  rw[h,show Nat.min 1 (l.length+1-i)=1 by simp only[Nat.min_def];split<;>omega,uF];rfl
 have Am:=Qh (show(xs.take (i*7)++news++xs.drop (i*7)).length=(l.length+1)*7 by simp;omega);have Dj:=Qh (show vB.size=cap*7 by omega);have rA:=Qh jM;have HL:=Qh hL;have Hx:=Qh hx;have xB:=Qh hg1;have aG:¬(cap=i+1):=by omega
 have aL:¬(cap=i):=by omega
 clear jM hL hx hg1 uE uF qo xA jf lv pE oH Al Fa pu Ed hg;have AJ:IntKind.i64.wrap ((i:Int)+1)=(i:Int)+1:=IntWalk.i64_in _ (by omega);have Kj:0≤(i:Int)+1:=by omega
 have uW:((i:Int)+1).toNat=i+1:=by omega
 have Ob:i≤l.length:=by omega
 have JO:(i:Int)≤(l.length:Int)+1:=by omega
 go_enter Tryz.func72,Tryz.ntmps72
 go_wp2_with (simp only[hov])
 go_region_law (refine step_copy_runI rfl _ _ 40 40 rfl _ _ (by simp[Act.eval,Act.put]) (by simp[Act.eval,Act.put]) (Ee _ _ _) ?_)
 go_wp2_with (at_builtin;refine wpList_copy_runI _ rfl _ _ 40 40 rfl _ _ rfl rfl (Ef _ _) ?_)
 go_ret;have Kt:(l.take i++x::l.drop i).length=l.length+1:=by simp;omega
 refine⟨_,rfl,?_,?_⟩
 ·unfold aQ;rw[Kt];refine⟨xs.take (i*7)++news++xs.drop (i*7),⟨Am.O,.inr ⟨g,cap,vB,rfl,FZ,setRow_heap _ g lX vB _ _ xB.O,by omega,by unfold maxLen;omega,Dj.O,rA.O⟩⟩,?_⟩;have:=((HL.O.take i).append (dF.one Hx.O)).append (HL.O.drop i);rwa[show l.take i++[x]++l.drop i=l.take i++x::l.drop i by simp]at this
 ·have h0:w.grownBy w.drew (some g):=⟨rfl,rfl,rfl,Qn _,fun _ _ _=>rfl⟩;exact RN (RN h0 bA) bA
theorem Xit(I:IH)(B g cap i:Nat)(l:List _)(x:_)(vb:Nat)(tb:TypeId)(news:List Value)(w:World)(hv:aQ bM 63 I w B (.slice (some ⟨g,0,none⟩) l.length cap) l)(hx:bM.rd I news x)
 (pu:w.heap[vb]?=some (.cells news.toArray tb (0,0))) (hi:i<l.length) (tC:cap<l.length+1) (iw:(l.length+1)*112≤140737488355328) (hB:B≤w.heap.size):
 Calls Tryz.prog 72 #[.slice (some ⟨g,0,none⟩) l.length cap,.int .i64 i,.slice (some ⟨vb,0,none⟩) 1 1] w fun e w'=> ∃v',e= .returned v'∧aQ bM 63 I w' B v' (l.take i++x::l.drop i)∧w.grownBy w' (some g):=by
 obtain⟨i0,JE,pg,qL,wX⟩:=info_parts UO;obtain⟨xs,⟨qo,bU⟩,hL⟩:=hv;rcases bU with⟨h0,_⟩|⟨g',cap',cur,h1,FZ,hg,Kl,Ed,jf,pE⟩
 ·cases h0
 injection h1 with xY h1b QU
 injection xY with xY
 injection xY with xY
 subst xY QU;have bS:(Tryz.prog.info? 63).map (·.size)=some 7:=by rw[JE];simp[qL]
 have Al:news.length=7:=bM.len hx;have Fa:=bM.one hx;have xA:xs.length=l.length*7:=qo;have lv:cur.size=cap*7:=jf;have oH:cur.toList.take xs.length=xs:=by rw[qo];exact pE
 have hgw:g<w.heap.size:=(Qg hg);have hvw:vb<w.heap.size:=(Qg pu);have tN:∀(j:Nat) u,xs[j]?=some u→w.cell? ⟨g,j,none⟩=some u:=fun j u hj=>by
  rw[←oH,List.getElem?_take]at hj;split at hj
  ·rw[cell_of_row w g _ cur _ _ hg,←Array.getElem?_toList];exact hj
  ·cases hj
 have hold:(Builtin.firstCells i0.size i (.slice (some ⟨g,0,none⟩) i cap)).run Tryz.prog w.drew= .ok (xs.take (i*7)).toArray w.drew:=
  run_firstCells_some w.drew i0.size i ⟨g,0,none⟩ i cap (xs.take (i*7)) (by rw[qL,List.length_take];omega) (fun j u hj=>by
   rw[Addr.add_lit,Nat.zero_add];rw[List.getElem?_take]at hj;split at hj
   ·exact tN j u hj
   ·cases hj)
 obtain⟨G,hG⟩:∃G,G=grownCap w (l.length+1) cap 63:=⟨_,rfl⟩;have hGn:l.length+1≤G:=by rw[hG];exact grownCap_ge w _ _ _
 have afa:G≤9223372036854775807:=by
  have:=grownCap_le_maxLen w (l.length+1) cap 63 (by unfold maxLen;omega);rw[←hG]at this;unfold maxLen at this;omega
 obtain⟨z,hz⟩:∃z,i0.zero=some z:=⟨_,pg⟩;have WQ:z.cells.size=7:=by rw[hz]at pg;cases pg;rfl
 obtain⟨ROW,Ao⟩:∃ROW:Array Value,ROW=(xs.take (i*7)).toArray++Builtin.zeroCells z.cells (l.length+1-i)++Builtin.zeroCells z.cells (G-(l.length+1)):=⟨_,rfl⟩;have hRs:ROW.size=G*7:=by
  rw[Ao,Array.size_append,Array.size_append,size_zeroCells,size_zeroCells,WQ];simp;omega
 have UC:ROW.toList.take (i*7)=xs.take (i*7):=by
  rw[Ao,Array.toList_append,Array.toList_append,List.append_assoc,List.take_append_of_le_length (by simp;omega),List.take_of_length_le (by simp;omega)]
 have Ju:∀ty,(Builtin.append_ #[40,3] ty #[.slice (some ⟨g,0,none⟩) i cap,.int .i64 ((l.length:Int)+1-(i:Int))]).run Tryz.prog w=
  .ok (.slice (some ⟨w.heap.size,0,none⟩) (l.length+1) G) (w.drew.alloc (.cells ROW 63)):=fun ty=>by
  have h:=Lib.run_append_grow_zeros w 40 3 ty 63 i0 z .i64 .i64 Tryz.underlying40 Tryz.underlying3 JE hz (some ⟨g,0,none⟩) i cap (xs.take (i*7)) hold (l.length+1-i) (by omega) (by rw[qL];omega) (by omega) (by omega) (by rw[wX];omega) (by rw[wX,show i+(l.length+1-i)=l.length+1 by omega];exact growslice_fits tC iw);rw[show i+(l.length+1-i)=l.length+1 by omega,←hG,←Ao]at h;rw[show(l.length:Int)+1-(i:Int)=((l.length+1-i:Nat):Int) by omega];exact h
 obtain⟨jC,nR⟩:∃c,c=over ROW (i*7) news:=⟨_,rfl⟩;have pV:jC.size=ROW.size:=by rw[nR];exact Gd _ _ _ (by omega)
 obtain⟨sw,pz⟩:∃c,c=over jC (i*7+7) (xs.drop (i*7)):=⟨_,rfl⟩;have yn:sw.size=jC.size:=by rw[pz];exact Gd _ _ _ (by rw[List.length_drop];omega)
 have jM:sw.toList.take ((l.length+1)*7)=xs.take (i*7)++news++xs.drop (i*7):=by
  have:=Xih ROW xs news (i*7) 7 (by omega) UC Al (by omega);rw[←nR,←pz]at this;rw[show(l.length+1)*7=xs.length+7 by omega];exact this
 obtain⟨W1,nW⟩:∃W1,W1=w.drew.alloc (.cells ROW 63):=⟨_,rfl⟩;have QV:W1.heap[w.heap.size]?=some (.cells ROW 63 (0,0)):=by rw[nW];exact heap_alloc_new w.drew _
 have QW:∀b,b<w.heap.size→W1.heap[b]?=w.heap[b]? :=fun b hb=>by rw[nW];exact Below.heap_alloc w.drew _ b hb
 rw[←nW]at Ju;have QX:∀ty dc,(Builtin.copy_ #[40,40] ty #[.slice (some ⟨w.heap.size,i*7,none⟩) (l.length+1-i) dc,.slice (some ⟨vb,0,none⟩) 1 1]).run Tryz.prog W1= .ok (goInt 1) (W1.setRow w.heap.size jC):=fun ty dc=>by
  have h:=JW (P:=Tryz.prog) W1 40 40 ty 63 7 w.heap.size (i*7) (l.length+1-i) dc ⟨vb,0,none⟩ 1 1 ROW 63 news Tryz.underlying40 bS QV (by rw[Al];simp only[Nat.min_def];split<;>omega)
   (fun j u hj=>by
     rw[Addr.add_lit,Nat.zero_add,cell_of_row _ vb j _ _ _ ((QW vb hvw).trans pu)];simpa using hj) (by omega) Fa
  rw[h,show Nat.min 1 (l.length+1-i)=1 by simp only[Nat.min_def];split<;>omega,nR];rfl
 have Pb:(W1.setRow w.heap.size jC).heap[w.heap.size]?=some (.cells jC 63 (0,0)):=setRow_heap W1 w.heap.size ROW jC _ _ QV;have QY:∀ty dc sc,(Builtin.copy_ #[40,40] ty #[.slice (some ⟨w.heap.size,(i+1)*7,none⟩) (l.length-i) dc,.slice (some ⟨g,i*7,none⟩) (l.length-i) sc]).run Tryz.prog (W1.setRow w.heap.size jC).drew= .ok (goInt ((l.length-i:Nat):Int)) ((W1.setRow w.heap.size jC).drew.setRow w.heap.size sw):=fun ty dc sc=>by
  have h:=JW (P:=Tryz.prog) (W1.setRow w.heap.size jC).drew 40 40 ty 63 7 w.heap.size ((i+1)*7) (l.length-i) dc ⟨g,i*7,none⟩ (l.length-i) sc jC 63 (xs.drop (i*7)) Tryz.underlying40 bS Pb (by rw[List.length_drop];simp only[Nat.min_def];split<;>omega)
   (fun j u hj=>by
     rw[Addr.add_lit];rw[List.getElem?_drop]at hj;have hgg:(W1.setRow w.heap.size jC).heap[g]?=some (.cells cur 63 (0,0)):=by rw[setRow_other _ _ _ _ (by omega),QW g hgw];exact hg
     rw[World.cell?_drew,cell_of_row _ g _ cur _ _ hgg,←cell_of_row w g _ cur _ _ hg];exact tN _ u hj) (by rw[List.length_drop];omega) (fun u hu=>hL.oneCell u (List.mem_of_mem_drop hu))
  rw[h,show Nat.min (l.length-i) (l.length-i)=l.length-i by simp only[Nat.min_def];split<;>omega,pz];rw[show(i+1)*7=i*7+7 by omega];rfl
 have Am:=Qh (show(xs.take (i*7)++news++xs.drop (i*7)).length=(l.length+1)*7 by simp;omega);have Dj:=Qh (show sw.size=G*7 by omega);have rA:=Qh jM;have HL:=Qh hL;have Hx:=Qh hx;have HN2:=Qh Pb;have S9:=Qh nW;have aG:¬(G=i+1):=by omega
 have aL:¬(G=i):=by omega
 have dO:¬(cap=i):=by omega
 clear jM hL hx Pb QV nR pz Ao hRs UC qo xA jf lv pE oH Al Fa pu Ed hg hold tN QW nW hG hz pg WQ pV yn;have AJ:IntKind.i64.wrap ((i:Int)+1)=(i:Int)+1:=IntWalk.i64_in _ (by omega);have Kj:0≤(i:Int)+1:=by omega
 have uW:((i:Int)+1).toNat=i+1:=by omega
 have Ob:i≤l.length:=by omega
 have JO:(i:Int)≤(l.length:Int)+1:=by omega
 go_enter Tryz.func72,Tryz.ntmps72
 go_wp2_with (first
  |(at_builtin;refine Lib.wpList_append_run _ rfl _ _ _ _ rfl _ _ rfl rfl _ _ (Ju _) ?_)
  |(at_builtin;refine wpList_copy_runI _ rfl _ _ 40 40 rfl _ _ rfl rfl (QX _ _) ?_))
 go_region_law (refine step_copy_runI rfl _ _ 40 40 rfl _ _ (by simp[Act.eval,Act.put]) (by simp[Act.eval,Act.put]) (QY _ _ _) ?_)
 go_wp2;go_ret;have Kt:(l.take i++x::l.drop i).length=l.length+1:=by simp;omega
 refine⟨_,rfl,?_,?_⟩
 ·unfold aQ;rw[Kt];refine⟨xs.take (i*7)++news++xs.drop (i*7),⟨Am.O,.inr ⟨w.heap.size,G,sw,rfl,hB,setRow_heap _ w.heap.size jC sw _ _ HN2.O,hGn,by unfold maxLen;omega,Dj.O,rA.O⟩⟩,?_⟩;have:=((HL.O.take i).append (dF.one Hx.O)).append (HL.O.drop i);rwa[show l.take i++[x]++l.drop i=l.take i++x::l.drop i by simp]at this
 ·rw[S9.O];exact⟨rfl,rfl,rfl,by simp,fun k hk _=>by
   rw[setRow_other _ _ _ _ (by omega)];show((w.drew.alloc (.cells ROW 63)).setRow w.heap.size jC).heap[k]?=_;rw[setRow_other _ _ _ _ (by omega)];exact Below.heap_alloc w.drew _ k hk⟩
theorem Xqx(I:IH)(B:Nat)(v:Value)(l:List _)(x:_)(vb i:Nat)(tb:TypeId)(news:List Value)(w:World)(hv:aQ bM 63 I w B v l)(hx:bM.rd I news x)
 (pu:w.heap[vb]?=some (.cells news.toArray tb (0,0))) (bq:v.ownBlock≠some vb) (hi:i≤l.length) (iw:(l.length+1)*112≤140737488355328) (hB:B≤w.heap.size):
 Calls Tryz.prog 72 #[v,.int .i64 i,.slice (some ⟨vb,0,none⟩) 1 1] w fun e w'=> ∃v',e= .returned v'∧aQ bM 63 I w' B v' (l.take i++x::l.drop i)∧w.grownBy w' v.ownBlock:=by
 by_cases he:i=l.length
 ·subst he;rw[List.take_length,List.drop_length];exact Xje I B v l x vb news w hv hx (fun j u hj=>by rw[cell_of_row w vb j _ _ _ pu];simpa using hj) iw hB
 ·have nS:∃g cap,v= .slice (some ⟨g,0,none⟩) l.length cap∧cap≤maxLen:=by
   obtain⟨xs,⟨_,bU⟩,_⟩:=hv;rcases bU with⟨_,h⟩|⟨g,cap,cur,h1,_,_,_,h3,_⟩
   ·omega
   ·exact⟨g,cap,h1,h3⟩
  obtain⟨g,cap,rfl,iv⟩:=nS;by_cases hr:l.length+1≤cap
  ·exact Xg8 I B g cap i l x vb tb news w hv hx pu (fun e=>bq (by rw[e];rfl)) (by omega) hr (by unfold maxLen at iv;omega)
  ·exact Xit I B g cap i l x vb tb news w hv hx pu (by omega) (by omega) iw hB
theorem Xnm(w:World)(t e ty:TypeId)(z:Value)(ht:P.underlying t=some (.slice e))(hv:∀w,(zeroValue e).run P w= .ok z w)(g o n c:Nat)(h1:∀u∈(Builtin.zeroCells z.cells n).toList,u.oneCell'=true)(hn:0<n)(cur:Array Value)(tt:TypeId)
 (hg:w.heap[g]?=some (.cells cur tt (0,0))) (p9:o+n*z.cells.size≤cur.size):
 (Builtin.clear_ #[t] ty #[.slice (some ⟨g,o,none⟩) n c]).run P w= .ok (.tuple #[]) (w.setRow g (cur.toList.take o++(Builtin.zeroCells z.cells n).toList++cur.toList.drop (o+n*z.cells.size)).toArray):=by
 have hl:(Builtin.zeroCells z.cells n).toList.length=n*z.cells.size:=by rw[Array.length_toList,size_zeroCells]
 have jO:=run_storeCells_at (P:=P) g o tt (Builtin.zeroCells z.cells n).toList 0 cur w hg (by rw[hl];omega) h1;rw[hl]at jO;simp only[Nat.add_zero]at jO;obtain⟨m,rfl⟩:∃m,n=m+1:=⟨n-1,by omega⟩;simp[Builtin.clear_,run_underlying ht,hv,jO]
theorem Xca{ops:Array Oper}{rest:List Oper}{op:Oper}{a:Act}{Q:Exit→Act→World→Prop}(Ak:op.guard=none)(ty:TypeId)(x y:Operand)(ho:op.op= .store ty x y)
 (g o:Nat) (cs:List Value) (hx:a.eval x= .pointer (some ⟨g,o,none⟩)) (hy:a.eval y= .agg cs.toArray) (cur:Array Value) (tt:TypeId)
 (hg:w.heap[g]?=some (.cells cur tt (0,0))) (p9:o+cs.length≤cur.size) (hi:(P.info? ty).map (·.size)=some cs.length) (h1:∀v∈cs,v.oneCell'=true)
 (h:wpList P ops Q rest (a.put op.dst undef) (w.setRow g (over cur o cs))):wpList P ops Q (op::rest) a w:=by
 refine wpList_plain Ak fun _ hK=> ?_;have jO:=run_storeCells_at (P:=P) g o tt cs 0 cur w hg (by simpa using p9) h1;have hsv:(storeVar ty ⟨g,o,none⟩ (.agg cs.toArray)).run P w= .ok () (w.setRow g (over cur o cs)):=by
  cases hq:P.info? ty with
  |none=>simp[hq]at hi
  |some i=>
   have hs:cs.length=i.size:=by simp[hq]at hi;omega
   simp only[Nat.add_zero]at jO;simp[storeVar,sizeOf,typeInfo,hq,Value.cells,hs,jO,over]
 unfold Oper.wp execOp;simp only[ho,hx,hy,Instr.storeAt,Instr.sureAddr,Sem.run_bind,Sem.run_pure,Result.andThen_ok,hsv];exact hK _ _ h
theorem Xse(cur:Array Value)(o m:Nat)(cs:List Value)(h:o+cs.length≤m)(ho:o≤cur.size):(over cur o cs).toList.drop m=cur.toList.drop m:=by
 simp only[over];rw[List.drop_append,List.drop_eq_nil_of_le (by simp;omega),List.nil_append,List.drop_drop];congr 1;simp;omega
theorem Xel{B:Nat}{w':World}{r:Option Nat}(h:Below B w w')(hB:w.heap.size≤B):w.grownBy w' r:=
 ⟨h.os,h.tape,h.output,h.size,fun k hk _=>h.block k (by omega)⟩
structure vE (I:IH) (gb:Nat) (cur:Array Value) (w0:World) (F:List bD) (j:Nat) (X:World):Prop where
 pQ:∃arr,X.heap[gb]?=some (.cells arr 63 (0,0))∧arr.size=cur.size∧dF bM I (arr.toList.take (F.length*7)) F∧arr.toList.drop (j*7)=cur.toList.drop (j*7)
 grown:w0.grownBy X (some gb)
section
variable {I:IH} {gb j:Nat} {cur:Array Value} {w0 X X':World} {F:List bD}
theorem vE.pass(h:vE I gb cur w0 F j X)(hb:Below X.heap.size X X'):vE I gb cur w0 F j X':=by
 obtain⟨arr,h1,h2⟩:=h.pQ;have hlt:gb<X.heap.size:=(Qg h1);refine⟨⟨arr,(hb.block _ hlt).trans h1,h2⟩,?_⟩;exact⟨hb.os.trans h.grown.os,hb.tape.trans h.grown.tape,hb.output.trans h.grown.output,Nat.le_trans h.grown.size hb.size,fun k hk bq=>(hb.block k (Nat.lt_of_lt_of_le hk h.grown.size)).trans (h.grown.block k hk bq)⟩
theorem vE.next(h:vE I gb cur w0 F j X):vE I gb cur w0 F (j+1) X:=by
 obtain⟨arr,h1,h2,h3,h4⟩:=h.pQ;refine⟨⟨arr,h1,h2,h3,?_⟩,h.grown⟩;rw[show(j+1)*7=j*7+7 by omega,←List.drop_drop,h4,List.drop_drop]
theorem vE.put{arr:Array Value}(h:vE I gb cur w0 F j X)(h1:X.heap[gb]?=some (.cells arr 63 (0,0)))(x:bD)(cs:List Value)(jf:bM.rd I cs x)(hF:F.length≤j)(hj:j*7+7≤cur.size):
 vE I gb cur w0 (F++[x]) (j+1) (X.setRow gb (over arr (F.length*7) cs)):=by
 obtain⟨anT,Kk,h2,h3,h4⟩:=h.pQ;rw[h1]at Kk;cases Kk;have bO:cs.length=7:=bM.len jf;refine⟨⟨_,setRow_heap _ _ _ _ _ _ h1,by rw[Gd _ _ _ (by omega),h2],?_,?_⟩,RN h.grown bA⟩
 ·rw[List.length_append,List.length_singleton,show(F.length+1)*7=F.length*7+cs.length by omega,Xh8 _ _ _ (by omega)];exact h3.append (dF.one jf)
 ·rw[Xse _ _ _ _ (by omega) (by omega),show(j+1)*7=j*7+7 by omega,←List.drop_drop,h4,List.drop_drop]
theorem vE.cell(h:vE I gb cur w0 F j X)(q:Nat)(hq:j*7≤q):X.cell? ⟨gb,q,none⟩=cur[q]? :=by
 obtain⟨arr,h1,h2,h3,h4⟩:=h.pQ;rw[cell_of_row X gb q _ _ _ h1,←Array.getElem?_toList,←Array.getElem?_toList];have e1:=congrArg (fun L=>L[q-j*7]?) h4;simp only[List.getElem?_drop]at e1;rwa[show j*7+(q-j*7)=q by omega]at e1
end
theorem Xuz:∀w,(zeroValue 63).run Tryz.prog w= .ok (.agg cu) w:=Tryz.zeroValue63
theorem Xmm(n:Nat):∀u∈(Builtin.zeroCells (Value.agg cu).cells n).toList,u.oneCell'=true:=by
 intro u hu;simp only[Builtin.zeroCells,Value.cells]at hu;rw[Array.mem_toList_iff,Array.mem_map]at hu;obtain⟨i,_,rfl⟩:=hu;have h7:i%cu.size<7:=Nat.mod_lt _ (by decide);rcases(show i%cu.size=0∨i%cu.size=1∨i%cu.size=2∨i%cu.size=3∨i%cu.size=4∨i%cu.size=5∨i%cu.size=6 by omega)with h|h|h|h|h|h|h<;>rw[h]<;>rfl
theorem Xeh(I:IH)(B:Nat)(v:Value)(l:List bD)(w:World)(hv:aQ bM 63 I w B v l)(hn:l.length≤1000000)(g:Nat)(cb:Array Value)(p:bD→Bool)(hw:Ok I w)(hI:∀b,B≤b→I b=none)(_hB:B≤w.heap.size)(eg:∀args w,(callFunc g args).run Tryz.prog w= .ok (.enter g args) w)(hp:BG g cb l p (fun W=>w.grownBy W v.ownBlock)):
 Calls Tryz.prog 66 #[v,.func (.func g) #[] cb] w fun e w'=> ∃v',e= .returned v'∧aQ bM 63 I w' B v' (l.filter fun x=> !(p x))∧w.grownBy w' v.ownBlock:=by
 obtain⟨I',kL,lI,nV,hI4⟩:=hv.freeze hw hI;have hpa:BG g cb l p (Below w.heap.size w):=fun x hx a1 a2 c1 c2 W hW=>hp x hx a1 a2 c1 c2 W (Xel hW (Qn _));have hlen:=nV.bL;have Hp:=Qh hp;have FE:=Qh (Xfa I' v l nV g cb p w lI eg hpa);have Heg:=Qh eg;have HI3:=Qh nV;have Hv:=Qh hv;clear hp hpa eg nV;have fV:∃ao cap,v= .slice ao l.length cap∧cap≤9223372036854775807:=by
  obtain⟨ao,cap,e,_,iv,_⟩:=id HI3.O;exact⟨ao,cap,e,by unfold maxLen at iv;omega⟩
 obtain⟨ao,cap,rfl,iv⟩:=fV;rcases RJ l p with⟨i,hi,e1,e2,e3⟩|⟨e1,e2⟩
 ·have aK:∃gb cur,ao=some ⟨gb,0,none⟩∧B≤gb∧w.heap[gb]?=some (.cells cur 63 (0,0))∧l.length≤cap∧cur.size=cap*7∧dF bM I (cur.toList.take (l.length*7)) l:=by
   obtain⟨xs,⟨_,h1⟩,hL⟩:=Hv.O;rcases h1 with⟨_,h0⟩|⟨gb,cap',cur,e,r1,r2,r3,r4,r5,r6⟩
   ·omega
   ·cases e;refine⟨gb,cur,rfl,r1,r2,r3,r5,?_⟩;have r6':cur.toList.take (l.length*7)=xs:=r6;rw[r6'];exact hL
  obtain⟨gb,cur,rfl,FZ,vC,qm,jf,hL⟩:=aK;rw[e1]at FE;have pF:((i:Int)== -1)=false:=by rw[beq_eq_false_iff_ne];omega
  have hF0:((l.take (i+1)).filter fun x=> !(p x))=l.take i:=by
   rw[List.take_succ_eq_append_getElem hi,List.filter_append];have:((l.take i).filter fun x=> !(p x))=l.take i:=List.filter_eq_self.2 fun x hx=>by
    cases hpx:p x with
    |false=>rfl
    |true=>rw[List.any_eq_true.2 ⟨x,hx,hpx⟩]at e3;exact absurd e3 (by simp)
   rw[this];simp[e2]
  have nU:∀j (h:j<l.length),∃a1 a2 c1 c2,aZ nk I (.slice a1 l[j].ag.length c1) l[j].ag∧aZ mU I (.slice a2 l[j].aC.length c2) l[j].aC∧ ∀q u,(eO l[j] (.slice a1 l[j].ag.length c1) (.slice a2 l[j].aC.length c2))[q]?=some u→cur[j*7+q]?=some u:=by
   intro j hj;obtain⟨cs,⟨va,vx,jf,h1,h2⟩,hc⟩:=hL.2 j hj;obtain⟨a1,c1,rfl,_,_,_⟩:=id h1;obtain⟨a2,c2,rfl,_,_,_⟩:=id h2;refine⟨a1,a2,c1,c2,h1,h2,fun q u hu=> ?_⟩;have h3:=hc q u (by rw[jf];exact hu);have hs:bM.size=7:=rfl;rw[hs,List.getElem?_take]at h3;split at h3
   ·rw[←Array.getElem?_toList];exact h3
   ·cases h3
  have UQ:=Qh nU;have hm0:∀X,Below w.heap.size w X→vE I gb cur w ((l.take (i+1)).filter fun x=> !(p x)) (i+1) X:=by
   intro X hX;have hlt:gb<w.heap.size:=(Qg vC);refine⟨⟨cur,(hX.block _ hlt).trans vC,rfl,?_,rfl⟩,Xel hX (Qn _)⟩;rw[hF0,List.length_take,Nat.min_eq_left (by omega)];have:=hL.take i;have hs:bM.size=7:=rfl;rwa[hs,List.take_take,Nat.min_eq_left (by omega)]at this
  have Pg:=Qh hm0;have hFl:((l.take (i+1)).filter fun x=> !(p x)).length=i:=by rw[hF0,List.length_take];omega
  have HFl:=Qh hFl;have Au:(Tryz.prog.info? 63).map (·.size)=some 7:=by kernel_rfl
  have Nv:=Qh Au;clear e1 e2 e3 hF0 nU hm0 hFl hL vC hI4 hv Au;go_enter Tryz.func66,Tryz.ntmps66
  go_wp2_with fail
  refine FE.O.mono ?_;rintro e w1 ⟨rfl,aG⟩;have Nw:=Qh (Pg.O w1 aG);clear aG Pg;go_wp2_with fail
  go_loopw [5,6] (fun s5 s6 X=> ∃(j:Nat) (F:List bD),i+1≤j∧j≤l.length∧s6= .int .i64 j∧s5= .int .i64 F.length∧F.length<j∧F=((l.take j).filter fun x=> !(p x))∧vE I gb cur w F j X) (fun _ j _=>l.length-(intOf j).toNat)
  case atStart=>exact⟨i+1,_,Qn _,hi,by go_num,by rw[HFl.O],by rw[HFl.O];omega,rfl,Nw.O⟩
  case round=>
   clear Nw HFl;obtain⟨j,F,SY,zw,rfl,rfl,hFj,hF,hm⟩:=hrel;have HF:=Qh hF;have Hm:=Qh hm;clear hF hm;by_cases hlt:j<l.length
   ·obtain⟨a1,a2,c1,c2,h1,h2,hc⟩:=UQ.O j hlt;obtain⟨x,cB⟩:∃x,l[j]=x:=⟨_,rfl⟩;have E5:x∈l:=by rw[←cB];exact List.getElem_mem hlt
    rw[cB]at h1 h2 hc;have tq:=(Hm.O.cell (j*7) (Qn _)).trans (hc 0 _ rfl);have rJ:=(Hm.O.cell (j*7+1) (by omega)).trans (hc 1 _ rfl);have rH:=(Hm.O.cell (j*7+2) (by omega)).trans (hc 2 _ rfl);have Q0:=(Hm.O.cell (j*7+3) (by omega)).trans (hc 3 _ rfl);have hc4:=(Hm.O.cell (j*7+4) (by omega)).trans (hc 4 _ rfl);have hc5:=(Hm.O.cell (j*7+5) (by omega)).trans (hc 5 _ rfl);have hc6:=(Hm.O.cell (j*7+6) (by omega)).trans (hc 6 _ rfl);have H12:=Qh (show bM.rd I (eO x (.slice a1 x.ag.length c1) (.slice a2 x.aC.length c2)) x from⟨_,_,rfl,h1,h2⟩);have bI:=Qh (show((l.take (j+1)).filter fun x=> !(p x))=F++(if p x then []else [x]) by
     rw[List.take_succ_eq_append_getElem hlt,cB,List.filter_append,←HF.O];cases h:p x<;>simp[h])
    have oQ:=Qh (Hp.O x E5 a1 a2 c1 c2);clear cB hc E5 h1 h2;have eg:=Heg.O;go_wp2_with fail
    have hmA:=Hm.O.pass ((Qb _ wr).alloc (Qn _) (.cells #[.int .i64 x.av,S x.aj,.slice a1 x.ag.length c1,S x.target,.int .i64 x.size,S x.aD,.slice a2 x.aC.length c2] 63));refine(oQ.O _ hmA.grown).mono ?_;rintro e w4 ⟨rfl,aS⟩;obtain⟨d0,d1,d2,d3,d4,d5,d6⟩:=dP rfl aS;have EH:=Qh (hmA.pass aS);have eQ:gb<w4.heap.size:=by
     obtain⟨arr,h1,_⟩:=EH.O.pQ;exact(Qg h1)
    clear hmA aS tq rJ rH Q0 hc4 hc5 hc6 eg;cases hpx:p x
    ·have jq:=Qh (show F++[x]=((l.take (j+1)).filter fun x=> !(p x)) by rw[bI.O,hpx];simp);obtain⟨arr,Kw,Eb,_⟩:=EH.O.pQ;have Ph:=Qh Kw;have p9:F.length*7+7≤arr.size:=by omega
     have hFl:F.length<l.length:=by omega
     clear hpx Kw Eb;go_wp2_with (refine Xca rfl 63 _ _ rfl gb (F.length*7) (eO x (.slice a1 x.ag.length c1) (.slice a2 x.aC.length c2)) (by simp[Act.eval]) rfl arr 63 Ph.O p9 Nv.O (bM.one H12.O) ?_)
     go_roundw;case rel=>exact⟨j+1,F++[x],by omega,by omega,by go_num,(by rw[List.length_append,List.length_singleton];go_num),(by rw[List.length_append,List.length_singleton];omega),jq.O,EH.O.put Ph.O x _ H12.O (by omega) (by omega)⟩
     case measure=>simp[intOf];omega
    ·have jq:=Qh (show F=((l.take (j+1)).filter fun x=> !(p x)) by rw[bI.O,hpx];simp);clear hpx;go_wp2;go_roundw;case rel=>exact⟨j+1,F,by omega,by omega,by go_num,rfl,by omega,jq.O,EH.O.next⟩
     case measure=>simp[intOf];omega
   ·have GV:j=l.length:=by omega
    have HF2:=Qh (show F=l.filter fun x=> !(p x) by rw[HF.O,List.take_of_length_le (by omega)]);obtain⟨arr,Kw,Eb,O9,ha4⟩:=Hm.O.pQ;have ahx:F.length<l.length:=by omega
    have Kl:¬F.length=cap:=by omega
    have bO:=fun ty=>Xnm (P:=Tryz.prog) wr 40 63 ty _ Tryz.underlying40 Xuz gb (F.length*7) (l.length-F.length) (cap-F.length) (Xmm _) (by omega) arr 63 Kw (by show F.length*7+(l.length-F.length)*7≤arr.size;omega);have acd:=Qh (show arr.size=cur.size∧dF bM I (arr.toList.take (F.length*7)) F from⟨Eb,O9⟩);have Ph:=Qh Kw;have dR:=Hm.O.grown;clear Kw Eb O9 ha4 GV;go_wp2_with fail
    go_ret;have Zy:(Builtin.zeroCells cu (l.length-F.length)).toList.length=(l.length-F.length)*7:=by rw[Array.length_toList,size_zeroCells];rfl
    obtain⟨Eb,O9⟩:=acd.O;have ug:arr.toList.length=cap*7:=by rw[Array.length_toList,Eb,jf]
    rw[←HF2.O];refine⟨_,rfl,⟨_,⟨O9.1,.inr ⟨gb,cap,_,rfl,FZ,setRow_heap _ _ _ _ _ _ Ph.O,by omega,by unfold maxLen;omega,?_,?_⟩⟩,O9⟩,RN dR bA⟩
    ·rw[List.size_toArray,List.length_append,List.length_append,Zy,List.length_take,List.length_drop,ug];show min (F.length*7) (cap*7)+((l.length-F.length)*7+(cap*7-(F.length*7+(l.length-F.length)*7)))=cap*7;omega
    ·show((arr.toList.take (F.length*7)++_).toArray).toList.take (F.length*7)=arr.toList.take (F.length*7);rw[List.toList_toArray,List.take_append_of_le_length (by rw[List.length_take,ug];omega),List.take_take,Nat.min_self]
 ·rw[e1]at FE;have Hf:=Qh (show(l.filter fun x=> !(p x))=l from List.filter_eq_self.2 fun x hx=>by
   cases hpx:p x with
   |false=>rfl
   |true=>rw[List.any_eq_true.2 ⟨x,hx,hpx⟩]at e2;exact absurd e2 (by simp))
  clear e1 e2 hv hI4;go_enter Tryz.func66,Tryz.ntmps66
  go_wp2_with fail
  refine FE.O.mono ?_;rintro e w1 ⟨rfl,aG⟩;go_wp2;go_ret;exact⟨_,rfl,by rw[Hf.O];exact Hv.O.below aG,Xel aG (Qn _)⟩
def iM(e:bD)(x:bD):Bool:=decide (e.av=4)&&under x.aj e.aj
theorem Xmr(I:IH)(hI:fG I)(e:bD)(uU:e.aj.length≤4294967280)(be:Nat)(ve vy:Value)(l:List bD)(hl:II l)(C:World→Prop)(hC:∀W,C W→Ok I W∧bP W be e ve vy):
 BG 64 #[.pointer (some ⟨be,0,none⟩)] l (iM e) C:=by
 intro x hx a1 a2 c1 c2 W hW;obtain⟨iZ,hB⟩:=hC W hW;have Hu:=Qh (fun w hw=>Xkg I hI x.aj e.aj (hl x hx).1 uU w hw);obtain⟨c0,d1,d2,d3,d4,d5,d6⟩:=bP.past hB (.cells #[.int .i64 x.av,S x.aj,.slice a1 x.ag.length c1,S x.target,.int .i64 x.size,S x.aD,.slice a2 x.aC.length c2] 63);clear hB hC d2 d3 d4 d5 d6;by_cases hk:e.av=4
 ·have k1:((e.av:Int)==4)=true:=by simpa using hk
  have Hn:=Qh (show iM e x=under x.aj e.aj by rw[iM,Qt hk];rfl);clear hk;go_enter Tryz.func64,Tryz.ntmps64
  go_wp2_with fail
  refine(Hu.O _ (iZ.alloc _)).mono ?_;rintro e w1 ⟨rfl,aG⟩;go_wp2;go_ret;exact⟨jr Hn.O.symm,((Qb _ _).alloc (Qn _) _).trans (aG.mono (by simp))⟩
 ·have k1:((e.av:Int)==4)=false:=by simpa using hk
  have Hn:=Qh (show iM e x=false by rw[iM,Qf hk];rfl);clear hk;go_enter Tryz.func64,Tryz.ntmps64
  go_wp2;go_ret;exact⟨jr Hn.O.symm,(Qb _ _).alloc (Qn _) _⟩
theorem Xmq(I:IH)(hI:fG I)(x:bD)(hx:x.aj.length≤4294967280)(a1 a2:Option Addr)(c1 c2:Nat)(p:af)(hp:p.length≤4294967280)(W:World)(hW:Ok I W):
 Calls Tryz.prog 70 #[iF x (.slice a1 x.ag.length c1) (.slice a2 x.aC.length c2),S p] W fun e w'=>e= .returned (.int .i64 (jQ x.aj p))∧Below W.heap.size W w':=by
 have Hc:=Qh (fun w hw=>Xjl I hI x.aj p hx hp w hw);go_enter Tryz.func70,Tryz.ntmps70
 go_wp2_with fail
 refine(Hc.O _ (hW.alloc _)).mono ?_;rintro e w1 ⟨rfl,aG⟩;go_wp2;go_ret;exact⟨rfl,((Qb _ _).alloc (Qn _) _).trans (aG.mono (by simp))⟩
def ace(w:World)(n:Nat)(e:Ending)(w':World):Prop:=∃b:Bool,e= .returned (.tuple #[.int .i64 n,.bool b])∧Below w.heap.size w w'
theorem Xei(I:IH)(hI:fG I)(v:Value)(l:List bD)(hv:aZ bM I v l)(hn:l.length≤1000000)(hl:II l)(p:af)(hp:p.length≤4294967280)(w:World)(hw:Ok I w):
 Calls Tryz.prog 69 #[v,S p,.func (.func 70) #[] #[]] w (ace w (bs (iP l p) 0 l.length)):=by
 obtain⟨ao,cap,rfl,fu,iv,_⟩:=id hv;have Hv:=Qh hv;clear hv;have Hl:=Qh hl;clear hl;have eg:∀args w,(callFunc 70 args).run Tryz.prog w= .ok (.enter 70 args) w:=fun _ _=>by kernel_rfl
 obtain⟨N,hN⟩:∃N,bs (iP l p) 0 l.length=N:=⟨_,rfl⟩;have HN:=Qh hN;rw[hN];clear hN;go_enter Tryz.func69,Tryz.ntmps69
 go_wp2_with fail
 go_loopw [9,10] (fun s9 s10 wr=> ∃lo hi:Nat,s9= .int .i64 lo∧s10= .int .i64 hi∧lo≤hi∧hi≤l.length∧bs (iP l p) lo hi=N∧Below w.heap.size w wr) (fun a b _=>(intOf b).toNat-(intOf a).toNat)
 case atStart=>exact⟨0,l.length,rfl,rfl,Nat.zero_le _,Qn _,HN.O,Qb _ _⟩
 case round=>
  clear HN;obtain⟨lo,hi,rfl,rfl,Zz,Od,hr,hb⟩:=hrel;have Hr:=Qh hr;clear hr;have eX:Ok I wr:=hw.below (Qn _) hb;by_cases hlt:lo<hi
  ·obtain⟨x,va,vx,b,off,cap',cB,dC,⟨c0,c1,c2,c3,c4,c5,c6⟩,h1,h2⟩:=wD Hv.O eX ((lo+hi) / 2) (by omega);cases dC;obtain⟨aa,ca,rfl,_,_,_⟩:=id h1;obtain⟨ax,cx,rfl,_,_,_⟩:=id h2;have Hnl:=Qh (show iP l p ((lo+hi) / 2)=!(kZ (els x.aj) (els p)) by rw[iP,List.getElem?_eq_getElem (by omega),cB]);have Hc:=Qh (fun W hW=>Xmq I hI x (Hl.O x (by rw[←cB];exact List.getElem_mem _)).1 aa ax ca cx p hp W hW);have hj:(0:Int)≤((lo:Int)+(hi:Int)) / 2:=by omega
   have Mh:((lo:Int)+(hi:Int)) / 2<(l.length:Int):=by omega
   have hm:(((lo:Int)+(hi:Int)) / 2).toNat=(lo+hi) / 2:=by omega
   have Ky:(((lo+hi) / 2:Nat):Int)=((lo:Int)+(hi:Int)) / 2:=by omega
   have Hm2:=Qh Ky;clear cB h1 h2 Ky;cases hlp:kZ (els x.aj) (els p)
   ·have jq:=Qh (show bs (iP l p) lo ((lo+hi) / 2)=N by rw[←Hr.O];conv=>rhs;rw[bs];rw[dif_pos hlt,Hnl.O,hlp];simp);rcases Xu7 hlp with hc|hc
    all_goals
     rw[hc]at Hc;clear hc hlp;go_wp2_with fail
     refine(Hc.O _ eX).mono ?_;rintro e w1 ⟨rfl,aG⟩;go_wp2;go_roundw;case rel=>exact⟨lo,(lo+hi) / 2,rfl,by rw[Hm2.O],by omega,by omega,jq.O,hb.trans (aG.mono hb.size)⟩
     case measure=>simp[intOf];omega
   ·have jq:=Qh (show bs (iP l p) ((lo+hi) / 2+1) hi=N by rw[←Hr.O];conv=>rhs;rw[bs];rw[dif_pos hlt,Hnl.O,hlp];simp);rw[Xu6 hlp]at Hc;clear hlp;go_wp2_with fail
    refine(Hc.O _ eX).mono ?_;rintro e w1 ⟨rfl,aG⟩;go_wp2;go_roundw;case rel=>exact⟨(lo+hi) / 2+1,hi,(by rw[←Hm2.O];go_num),rfl,by omega,by omega,jq.O,hb.trans (aG.mono hb.size)⟩
    case measure=>simp[intOf];omega
  ·have Hlo:=Qh (show lo=N by rw[←Hr.O,bs,dif_neg hlt]);by_cases vM:lo<l.length
   ·obtain⟨x,va,vx,b,off,cap',cB,dC,⟨c0,c1,c2,c3,c4,c5,c6⟩,h1,h2⟩:=wD Hv.O eX lo vM;cases dC;obtain⟨aa,ca,rfl,_,_,_⟩:=id h1;obtain⟨ax,cx,rfl,_,_,_⟩:=id h2;have Hc:=Qh (fun W hW=>Xmq I hI x (Hl.O x (by rw[←cB];exact List.getElem_mem _)).1 aa ax ca cx p hp W hW);have hd:decide (lo<l.length)=true:=Qt vM;generalize jQ x.aj p=cc at Hc;clear cB h1 h2;go_wp2_with fail
    refine(Hc.O _ eX).mono ?_;rintro e w1 ⟨rfl,aG⟩;go_wp2;go_ret2;rw[←Hlo.O];exact⟨_,rfl,hb.trans (aG.mono hb.size)⟩
   ·have hd:decide (lo<l.length)=false:=Qf vM;go_wp2;go_ret2;rw[←Hlo.O];exact⟨_,rfl,hb⟩
