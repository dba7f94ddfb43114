/- Lemmas for the claim's theorem;conditions: as each says. -/
import Derived.Test.YtmdfjnhfhidmhaaGreatDoorJ12
import Derived.Lib.MinMax
set_option maxHeartbeats 0
set_option maxRecDepth 100000
set_option linter.all false
namespace Go.Proofs.YtmdfjnhfhidmhaaGreatDoor
open Go.RowKit
theorem Xjz(I:IH)(B:Nat)(v:Value)(l:List _)(x:_)(vb:Nat)(news:List Value)(w:World)(hv:aK jB 148 I w B v l)(hx:jB.rd I news x)
 (pY:∀j u,news[j]?=some u→w.cell? ⟨vb,j,none⟩=some u) (fO:(l.length+1)*24≤140737488355328) (hB:B≤w.heap.size):
 Calls Tryz.prog 94 #[v,.int .i64 l.length,.slice (some ⟨vb,0,none⟩) 1 1] w fun e w'=> ∃v',e= .returned v'∧aK jB 148 I w' B v' (l++[x])∧w.grownBy w' v.ownBlock:=by
 obtain⟨i0,hi,oV,ow,uD⟩:=info_parts U5;obtain⟨xs,bg,hL⟩:=hv;have HL:=Qh hL;have Hx:=Qh hx;have Cf:=Qh pY;have vM:maxLen=9223372036854775807:=rfl;have hlen:l.length≤4611686018427387904:=by omega
 clear hL hx pY;have lU:v= .slice none 0 0∧l.length=0∨ ∃g cap,v= .slice (some ⟨g,0,none⟩) l.length cap∧l.length≤cap∧cap≤9223372036854775807:=by
  rcases bg.2 with h|⟨g,cap,cur,h1,_,_,h2,h3,_⟩
  ·exact .inl h
  ·exact .inr ⟨g,cap,h1,h2,by rw[vM]at h3;exact h3⟩
 have QQ:=Qh vM;clear vM;rcases lU with⟨rfl,h0⟩|⟨g,cap,rfl,dO,fJ⟩
 ·have:l=[]:=List.eq_nil_of_length_eq_zero h0;subst this;go_enter Tryz.func94,Tryz.ntmps94
  go_wp2_with (at_builtin;refine wpList_append_own _ rfl _ _ 41 rfl B 148 i0 _ 2 24 Tryz.underlying41 hi oV ow uD rfl (by decide) _ _ _ rfl bg ⟨vb,0,none⟩ 1 1 news rfl ?qc1 ?qc2 ?qc3 ?qc4 ?qc5 ?qc6 ?_)
  case qc1=>exact jB.len Hx.O
  case qc2=>intro j u hj;rw[Addr.add_lit,Nat.zero_add];exact Cf.O j u hj
  case qc3=>exact jB.one Hx.O
  case qc4=>rw[QQ.O];simp
  case qc5=>simp
  case qc6=>exact hB
  intro v' w1 dD lW _;go_wp2;go_ret;exact⟨v',rfl,⟨_,dD,bA.append HL.O (bA.one Hx.O)⟩,lW⟩
 ·go_enter Tryz.func94,Tryz.ntmps94
  go_wp2_with (at_builtin;refine wpList_append_own _ rfl _ _ 41 rfl B 148 i0 _ 2 24 Tryz.underlying41 hi oV ow uD rfl (by decide) _ _ _ rfl bg ⟨vb,0,none⟩ 1 1 news rfl (jB.len Hx.O) (fun j u hj=>by rw[Addr.add_lit,Nat.zero_add];exact Cf.O j u hj) (jB.one Hx.O) (by rw[QQ.O];omega) fO hB ?_)
  all_goals
   intro v' w1 dD lW _;go_wp2;go_ret;exact⟨v',rfl,⟨_,by rw[List.length_append];exact dD,bA.append HL.O (bA.one Hx.O)⟩,lW⟩
theorem Xhs(I:IH)(B g cap i:Nat)(l:List _)(x:_)(vb:Nat)(tb:TypeId)(news:List Value)(w:World)(hv:aK jB 148 I w B (.slice (some ⟨g,0,none⟩) l.length cap) l)(hx:jB.rd I news x)
 (nu:w.heap[vb]?=some (.cells news.toArray tb (0,0))) (bn:vb≠g) (hi:i<l.length) (ql:l.length+1≤cap) (fJ:cap≤9223372036854775807):
 Calls Tryz.prog 94 #[.slice (some ⟨g,0,none⟩) l.length cap,.int .i64 i,.slice (some ⟨vb,0,none⟩) 1 1] w fun e w'=> ∃v',e= .returned v'∧aK jB 148 I w' B v' (l.take i++x::l.drop i)∧w.grownBy w' (some g):=by
 obtain⟨i0,Gf,oV,ow,uD⟩:=info_parts U5;obtain⟨xs,⟨nD,bg⟩,hL⟩:=hv;rcases bg with⟨h0,_⟩|⟨g',cap',cur,h1,yF,hg,_,BC,fE,rQ⟩
 ·cases h0
 injection h1 with vJ h1b Oi
 injection vJ with vJ
 injection vJ with vJ
 subst vJ Oi;have dM:(Tryz.prog.info? 148).map (·.size)=some 2:=by rw[Gf];simp[ow]
 have yn:news.length=2:=jB.len hx;have CP:=jB.one hx;have uR:xs.length=l.length*2:=nD;have kI:cur.size=cap*2:=fE;have mr:cur.toList.take xs.length=xs:=by rw[nD];exact rQ
 have hov:∀lb cb,(callFunc 146 #[.slice (some ⟨vb,0,none⟩) 1 1,.slice (some ⟨g,(i+1)*2,none⟩) lb cb]).run Tryz.prog w= .ok (.value (.bool false)) w:=fun lb cb=>by
  rw[run_callFunc_extern Tryz.func146 (by kernel_rfl) (by kernel_rfl) (by kernel_rfl) (e:=Extern.SlicesOverlaps.overlaps #[41,41] #[4]) (by kernel_rfl),
   Lib.run_overlaps_apart w 41 4 148 Tryz.underlying41 2 (fun w=>by simp[go_sem]) ⟨vb,0,none⟩ ⟨g,(i+1)*2,none⟩ 1 1 lb cb bn tb 148 2 cur.size (by simp[World.shape?,nu,yn]) (by simp[World.shape?,hg]) (by omega) (by simp[World.frozen?,nu]) (by simp[World.frozen?,nu])]
  rfl
 obtain⟨kG,rD⟩:∃c,c=over cur (i*2+2) (xs.drop (i*2)):=⟨_,rfl⟩;have qj:kG.size=cur.size:=by rw[rD];exact DZ _ _ _ (by rw[List.length_drop];omega)
 obtain⟨sD,rE⟩:∃c,c=over kG (i*2) news:=⟨_,rfl⟩;have rU:sD.size=kG.size:=by rw[rE];exact DZ _ _ _ (by omega)
 have jH:sD.toList.take ((l.length+1)*2)=xs.take (i*2)++news++xs.drop (i*2):=by
  have:=insert_row cur xs news (i*2) 2 (by omega) mr yn (by omega);rw[←rD,←rE]at this;rw[show(l.length+1)*2=xs.length+2 by omega];exact this
 have BD:∀ty dc sc,(Builtin.copy_ #[41,41] ty #[.slice (some ⟨g,(i+1)*2,none⟩) (l.length-i) dc,.slice (some ⟨g,i*2,none⟩) (l.length+1-i) sc]).run Tryz.prog w.drew= .ok (goInt ((l.length-i:Nat):Int)) (w.drew.setRow g kG):=fun ty dc sc=>by
  have h:=Gn (P:=Tryz.prog) w.drew 41 41 ty 148 2 g ((i+1)*2) (l.length-i) dc ⟨g,i*2,none⟩ (l.length+1-i) sc cur 148 (xs.drop (i*2)) Tryz.underlying41 dM hg (by rw[List.length_drop];simp only[Nat.min_def];split<;>omega)
   (fun j u hj=>by
     rw[Addr.add_lit];rw[List.getElem?_drop,←mr,List.getElem?_take]at hj;split at hj
     ·rw[World.cell?_drew,cell_of_row w g _ cur _ _ hg,←Array.getElem?_toList];exact hj
     ·cases hj) (by rw[List.length_drop];omega) (fun u hu=>hL.oneCell u (List.mem_of_mem_drop hu))
  rw[h,show Nat.min (l.length+1-i) (l.length-i)=l.length-i by simp only[Nat.min_def];split<;>omega,rD];rw[show(i+1)*2=i*2+2 by omega];rfl
 have hg1:(w.drew.setRow g kG).heap[g]?=some (.cells kG 148 (0,0)):=setRow_heap w.drew g cur kG _ _ hg;have BF:∀ty dc,(Builtin.copy_ #[41,41] ty #[.slice (some ⟨g,i*2,none⟩) (l.length+1-i) dc,.slice (some ⟨vb,0,none⟩) 1 1]).run Tryz.prog (w.drew.setRow g kG)= .ok (goInt 1) ((w.drew.setRow g kG).setRow g sD):=fun ty dc=>by
  have h:=Gn (P:=Tryz.prog) (w.drew.setRow g kG) 41 41 ty 148 2 g (i*2) (l.length+1-i) dc ⟨vb,0,none⟩ 1 1 kG 148 news Tryz.underlying41 dM hg1 (by rw[yn];simp only[Nat.min_def];split<;>omega)
   (fun j u hj=>by
     rw[Addr.add_lit,Nat.zero_add];have:(w.drew.setRow g kG).heap[vb]?=some (.cells news.toArray tb (0,0)):=by rw[setRow_other _ _ _ _ bn];exact nu
     rw[cell_of_row _ vb j _ _ _ this];simpa using hj) (by omega) CP
  rw[h,show Nat.min 1 (l.length+1-i)=1 by simp only[Nat.min_def];split<;>omega,rE];rfl
 have yo:=Qh (show(xs.take (i*2)++news++xs.drop (i*2)).length=(l.length+1)*2 by simp;omega);have Ar:=Qh (show sD.size=cap*2 by omega);have lJ:=Qh jH;have HL:=Qh hL;have Hx:=Qh hx;have Ay:=Qh hg1;have aD:¬(cap=i+1):=by omega
 have aL:¬(cap=i):=by omega
 clear jH hL hx hg1 rD rE nD uR fE kI rQ mr yn CP nu BC hg;have wL:IntKind.i64.wrap ((i:Int)+1)=(i:Int)+1:=IntWalk.i64_in _ (by omega);have Es:0≤(i:Int)+1:=by omega
 have qP:((i:Int)+1).toNat=i+1:=by omega
 have GX:i≤l.length:=by omega
 have Ki:(i:Int)≤(l.length:Int)+1:=by omega
 go_enter Tryz.func94,Tryz.ntmps94
 go_wp2_with (simp only[hov])
 go_region_law (refine step_copy_runI rfl _ _ 41 41 rfl _ _ (by simp[Act.eval,Act.put]) (by simp[Act.eval,Act.put]) (BD _ _ _) ?_)
 go_wp2_with (at_builtin;refine wpList_copy_runI _ rfl _ _ 41 41 rfl _ _ rfl rfl (BF _ _) ?_)
 go_ret;have DV:(l.take i++x::l.drop i).length=l.length+1:=by simp;omega
 refine⟨_,rfl,?_,?_⟩
 ·unfold aK;rw[DV];refine⟨xs.take (i*2)++news++xs.drop (i*2),⟨yo.O,.inr ⟨g,cap,sD,rfl,yF,setRow_heap _ g kG sD _ _ Ay.O,by omega,by unfold maxLen;omega,Ar.O,lJ.O⟩⟩,?_⟩;have:=((HL.O.take i).append (bA.one Hx.O)).append (HL.O.drop i);rwa[show l.take i++[x]++l.drop i=l.take i++x::l.drop i by simp]at this
 ·have h0:w.grownBy w.drew (some g):=⟨rfl,rfl,rfl,Qn _,fun _ _ _=>rfl⟩;exact OW (OW h0 Al) Al
theorem Xin(I:IH)(B g cap i:Nat)(l:List _)(x:_)(vb:Nat)(tb:TypeId)(news:List Value)(w:World)(hv:aK jB 148 I w B (.slice (some ⟨g,0,none⟩) l.length cap) l)(hx:jB.rd I news x)
 (nu:w.heap[vb]?=some (.cells news.toArray tb (0,0))) (hi:i<l.length) (ql:cap<l.length+1) (fO:(l.length+1)*24≤140737488355328) (hB:B≤w.heap.size):
 Calls Tryz.prog 94 #[.slice (some ⟨g,0,none⟩) l.length cap,.int .i64 i,.slice (some ⟨vb,0,none⟩) 1 1] w fun e w'=> ∃v',e= .returned v'∧aK jB 148 I w' B v' (l.take i++x::l.drop i)∧w.grownBy w' (some g):=by
 obtain⟨i0,Gf,oV,ow,uD⟩:=info_parts U5;obtain⟨xs,⟨nD,bg⟩,hL⟩:=hv;rcases bg with⟨h0,_⟩|⟨g',cap',cur,h1,yF,hg,Ej,BC,fE,rQ⟩
 ·cases h0
 injection h1 with vJ h1b Oi
 injection vJ with vJ
 injection vJ with vJ
 subst vJ Oi;have dM:(Tryz.prog.info? 148).map (·.size)=some 2:=by rw[Gf];simp[ow]
 have yn:news.length=2:=jB.len hx;have CP:=jB.one hx;have uR:xs.length=l.length*2:=nD;have kI:cur.size=cap*2:=fE;have mr:cur.toList.take xs.length=xs:=by rw[nD];exact rQ
 have hgw:g<w.heap.size:=(Qg hg);have hvw:vb<w.heap.size:=(Qg nu);have qB:∀(j:Nat) u,xs[j]?=some u→w.cell? ⟨g,j,none⟩=some u:=fun j u hj=>by
  rw[←mr,List.getElem?_take]at hj;split at hj
  ·rw[cell_of_row w g _ cur _ _ hg,←Array.getElem?_toList];exact hj
  ·cases hj
 have hold:(Builtin.firstCells i0.size i (.slice (some ⟨g,0,none⟩) i cap)).run Tryz.prog w.drew= .ok (xs.take (i*2)).toArray w.drew:=
  run_firstCells_some w.drew i0.size i ⟨g,0,none⟩ i cap (xs.take (i*2)) (by rw[ow,List.length_take];omega) (fun j u hj=>by
   rw[Addr.add_lit,Nat.zero_add];rw[List.getElem?_take]at hj;split at hj
   ·exact qB j u hj
   ·cases hj)
 obtain⟨G,hG⟩:∃G,G=grownCap w (l.length+1) cap 148:=⟨_,rfl⟩;have hGn:l.length+1≤G:=by rw[hG];exact grownCap_ge w _ _ _
 have abF:G≤9223372036854775807:=by
  have:=grownCap_le_maxLen w (l.length+1) cap 148 (by unfold maxLen;omega);rw[←hG]at this;unfold maxLen at this;omega
 obtain⟨z,hz⟩:∃z,i0.zero=some z:=⟨_,oV⟩;have TH:z.cells.size=2:=by rw[hz]at oV;cases oV;rfl
 obtain⟨ROW,yt⟩:∃ROW:Array Value,ROW=(xs.take (i*2)).toArray++Builtin.zeroCells z.cells (l.length+1-i)++Builtin.zeroCells z.cells (G-(l.length+1)):=⟨_,rfl⟩;have hRs:ROW.size=G*2:=by
  rw[yt,Array.size_append,Array.size_append,size_zeroCells,size_zeroCells,TH];simp;omega
 have QR:ROW.toList.take (i*2)=xs.take (i*2):=by
  rw[yt,Array.toList_append,Array.toList_append,List.append_assoc,List.take_append_of_le_length (by simp;omega),List.take_of_length_le (by simp;omega)]
 have TI:∀ty,(Builtin.append_ #[41,3] ty #[.slice (some ⟨g,0,none⟩) i cap,.int .i64 ((l.length:Int)+1-(i:Int))]).run Tryz.prog w=
  .ok (.slice (some ⟨w.heap.size,0,none⟩) (l.length+1) G) (w.drew.alloc (.cells ROW 148)):=fun ty=>by
  have h:=Lib.run_append_grow_zeros w 41 3 ty 148 i0 z .i64 .i64 Tryz.underlying41 Tryz.underlying3 Gf hz (some ⟨g,0,none⟩) i cap (xs.take (i*2)) hold (l.length+1-i) (by omega) (by rw[ow];omega) (by omega) (by omega) (by rw[uD];omega) (by rw[uD,show i+(l.length+1-i)=l.length+1 by omega];exact growslice_fits ql fO);rw[show i+(l.length+1-i)=l.length+1 by omega,←hG,←yt]at h;rw[show(l.length:Int)+1-(i:Int)=((l.length+1-i:Nat):Int) by omega];exact h
 obtain⟨jF,rX⟩:∃c,c=over ROW (i*2) news:=⟨_,rfl⟩;have rU:jF.size=ROW.size:=by rw[rX];exact DZ _ _ _ (by omega)
 obtain⟨pI,rY⟩:∃c,c=over jF (i*2+2) (xs.drop (i*2)):=⟨_,rfl⟩;have xq:pI.size=jF.size:=by rw[rY];exact DZ _ _ _ (by rw[List.length_drop];omega)
 have jH:pI.toList.take ((l.length+1)*2)=xs.take (i*2)++news++xs.drop (i*2):=by
  have:=Xho ROW xs news (i*2) 2 (by omega) QR yn (by omega);rw[←rX,←rY]at this;rw[show(l.length+1)*2=xs.length+2 by omega];exact this
 obtain⟨W1,uJ⟩:∃W1,W1=w.drew.alloc (.cells ROW 148):=⟨_,rfl⟩;have Oj:W1.heap[w.heap.size]?=some (.cells ROW 148 (0,0)):=by rw[uJ];exact heap_alloc_new w.drew _
 have Ol:∀b,b<w.heap.size→W1.heap[b]?=w.heap[b]? :=fun b hb=>by rw[uJ];exact Below.heap_alloc w.drew _ b hb
 rw[←uJ]at TI;have Om:∀ty dc,(Builtin.copy_ #[41,41] ty #[.slice (some ⟨w.heap.size,i*2,none⟩) (l.length+1-i) dc,.slice (some ⟨vb,0,none⟩) 1 1]).run Tryz.prog W1= .ok (goInt 1) (W1.setRow w.heap.size jF):=fun ty dc=>by
  have h:=Gn (P:=Tryz.prog) W1 41 41 ty 148 2 w.heap.size (i*2) (l.length+1-i) dc ⟨vb,0,none⟩ 1 1 ROW 148 news Tryz.underlying41 dM Oj (by rw[yn];simp only[Nat.min_def];split<;>omega)
   (fun j u hj=>by
     rw[Addr.add_lit,Nat.zero_add,cell_of_row _ vb j _ _ _ ((Ol vb hvw).trans nu)];simpa using hj) (by omega) CP
  rw[h,show Nat.min 1 (l.length+1-i)=1 by simp only[Nat.min_def];split<;>omega,rX];rfl
 have Mi:(W1.setRow w.heap.size jF).heap[w.heap.size]?=some (.cells jF 148 (0,0)):=setRow_heap W1 w.heap.size ROW jF _ _ Oj;have Oo:∀ty dc sc,(Builtin.copy_ #[41,41] ty #[.slice (some ⟨w.heap.size,(i+1)*2,none⟩) (l.length-i) dc,.slice (some ⟨g,i*2,none⟩) (l.length-i) sc]).run Tryz.prog (W1.setRow w.heap.size jF).drew= .ok (goInt ((l.length-i:Nat):Int)) ((W1.setRow w.heap.size jF).drew.setRow w.heap.size pI):=fun ty dc sc=>by
  have h:=Gn (P:=Tryz.prog) (W1.setRow w.heap.size jF).drew 41 41 ty 148 2 w.heap.size ((i+1)*2) (l.length-i) dc ⟨g,i*2,none⟩ (l.length-i) sc jF 148 (xs.drop (i*2)) Tryz.underlying41 dM Mi (by rw[List.length_drop];simp only[Nat.min_def];split<;>omega)
   (fun j u hj=>by
     rw[Addr.add_lit];rw[List.getElem?_drop]at hj;have hgg:(W1.setRow w.heap.size jF).heap[g]?=some (.cells cur 148 (0,0)):=by rw[setRow_other _ _ _ _ (by omega),Ol g hgw];exact hg
     rw[World.cell?_drew,cell_of_row _ g _ cur _ _ hgg,←cell_of_row w g _ cur _ _ hg];exact qB _ u hj) (by rw[List.length_drop];omega) (fun u hu=>hL.oneCell u (List.mem_of_mem_drop hu))
  rw[h,show Nat.min (l.length-i) (l.length-i)=l.length-i by simp only[Nat.min_def];split<;>omega,rY];rw[show(i+1)*2=i*2+2 by omega];rfl
 have yo:=Qh (show(xs.take (i*2)++news++xs.drop (i*2)).length=(l.length+1)*2 by simp;omega);have Ar:=Qh (show pI.size=G*2 by omega);have lJ:=Qh jH;have HL:=Qh hL;have Hx:=Qh hx;have Yo:=Qh Mi;have HW1:=Qh uJ;have aD:¬(G=i+1):=by omega
 have aL:¬(G=i):=by omega
 have dX:¬(cap=i):=by omega
 clear jH hL hx Mi Oj rX rY yt hRs QR nD uR fE kI rQ mr yn CP nu BC hg hold qB Ol uJ hG hz oV TH rU xq;have wL:IntKind.i64.wrap ((i:Int)+1)=(i:Int)+1:=IntWalk.i64_in _ (by omega);have Es:0≤(i:Int)+1:=by omega
 have qP:((i:Int)+1).toNat=i+1:=by omega
 have GX:i≤l.length:=by omega
 have Ki:(i:Int)≤(l.length:Int)+1:=by omega
 go_enter Tryz.func94,Tryz.ntmps94
 go_wp2_with (first
  |(at_builtin;refine Lib.wpList_append_run _ rfl _ _ _ _ rfl _ _ rfl rfl _ _ (TI _) ?_)
  |(at_builtin;refine wpList_copy_runI _ rfl _ _ 41 41 rfl _ _ rfl rfl (Om _ _) ?_))
 go_region_law (refine step_copy_runI rfl _ _ 41 41 rfl _ _ (by simp[Act.eval,Act.put]) (by simp[Act.eval,Act.put]) (Oo _ _ _) ?_)
 go_wp2;go_ret;have DV:(l.take i++x::l.drop i).length=l.length+1:=by simp;omega
 refine⟨_,rfl,?_,?_⟩
 ·unfold aK;rw[DV];refine⟨xs.take (i*2)++news++xs.drop (i*2),⟨yo.O,.inr ⟨w.heap.size,G,pI,rfl,hB,setRow_heap _ w.heap.size jF pI _ _ Yo.O,hGn,by unfold maxLen;omega,Ar.O,lJ.O⟩⟩,?_⟩;have:=((HL.O.take i).append (bA.one Hx.O)).append (HL.O.drop i);rwa[show l.take i++[x]++l.drop i=l.take i++x::l.drop i by simp]at this
 ·rw[HW1.O];exact⟨rfl,rfl,rfl,by simp,fun k hk _=>by
   rw[setRow_other _ _ _ _ (by omega)];show((w.drew.alloc (.cells ROW 148)).setRow w.heap.size jF).heap[k]?=_;rw[setRow_other _ _ _ _ (by omega)];exact Below.heap_alloc w.drew _ k hk⟩
theorem Xlk(I:IH)(B:Nat)(v:Value)(l:List _)(x:_)(vb i:Nat)(tb:TypeId)(news:List Value)(w:World)(hv:aK jB 148 I w B v l)(hx:jB.rd I news x)
 (nu:w.heap[vb]?=some (.cells news.toArray tb (0,0))) (bn:v.ownBlock≠some vb) (hi:i≤l.length) (fO:(l.length+1)*24≤140737488355328) (hB:B≤w.heap.size):
 Calls Tryz.prog 94 #[v,.int .i64 i,.slice (some ⟨vb,0,none⟩) 1 1] w fun e w'=> ∃v',e= .returned v'∧aK jB 148 I w' B v' (l.take i++x::l.drop i)∧w.grownBy w' v.ownBlock:=by
 by_cases he:i=l.length
 ·subst he;rw[List.take_length,List.drop_length];exact Xjz I B v l x vb news w hv hx (fun j u hj=>by rw[cell_of_row w vb j _ _ _ nu];simpa using hj) fO hB
 ·have lU:∃g cap,v= .slice (some ⟨g,0,none⟩) l.length cap∧cap≤maxLen:=by
   obtain⟨xs,⟨_,bg⟩,_⟩:=hv;rcases bg with⟨_,h⟩|⟨g,cap,cur,h1,_,_,_,h3,_⟩
   ·omega
   ·exact⟨g,cap,h1,h3⟩
  obtain⟨g,cap,rfl,fJ⟩:=lU;by_cases hr:l.length+1≤cap
  ·exact Xhs I B g cap i l x vb tb news w hv hx nu (fun e=>bn (by rw[e];rfl)) (by omega) hr (by unfold maxLen at fJ;omega)
  ·exact Xin I B g cap i l x vb tb news w hv hx nu (by omega) (by omega) fO hB
theorem Xlj(h:Ho):∀{l:List Ho},l.any (fun x=>decide (0<iU x.p h.p))=false→jl h l=l.take l.length++h::l.drop l.length
 | [],_=>rfl
 |x::l,hn=>by
  rw[List.any_cons,Bool.or_eq_false_iff]at hn;have hx:jO (els h.p) (els x.p)=false:=by
   have:=of_decide_eq_false hn.1;cases k:jO (els h.p) (els x.p)with
   |false=>rfl
   |true=>
    exfalso;apply this;unfold iU;rw[Um k,k];simp
  rw[jl,if_neg (by simp[hx]),Xlj h hn.2];simp
theorem Xoa(h:Ho):∀{l:List Ho} {i:Nat} (hi:i<l.length),decide (0<iU l[i].p h.p)=true→(l.take i).any (fun x=>decide (0<iU x.p h.p))=false→jl h l=l.take i++h::l.drop i
 | [],_,hi,_,_=>absurd hi (by simp)
 |x::l,0,_,hp,_=>by
  have hx:jO (els h.p) (els x.p)=true:=by
   have:=of_decide_eq_true hp;have h2:0<iU x.p h.p:=this;unfold iU at h2;split at h2
   ·omega
   ·split at h2
    ·assumption
    ·omega
  rw[jl,if_pos hx];rfl
 |x::l,i+1,hi,hp,hn=>by
  rw[List.take_succ_cons,List.any_cons,Bool.or_eq_false_iff]at hn;have hx:jO (els h.p) (els x.p)=false:=by
   have:=of_decide_eq_false hn.1;cases k:jO (els h.p) (els x.p)with
   |false=>rfl
   |true=>
    exfalso;apply this;unfold iU;rw[Um k,k];simp
  rw[jl,if_neg (by simp[hx]),Xoa h (l:=l) (by simpa using hi) hp hn.2];rfl
theorem Xmi{p:af}{l:List Ho}{k:Nat}{cur U:Int}{x:Ho}(hk:k<l.length)(hx:l[k]=x)(h:gK p (l.drop k) cur=U):gK p (l.drop (k+1)) (if x.p=p then max cur x.u else cur)=U:=by
 rw[List.drop_eq_getElem_cons hk,hx,gK]at h;exact h
theorem Xl9{l:List Ho}{e:aT}{d:Int}(hk:e.au=5):appH l e d=(jl ⟨e.ag,gK e.ag (dP l d) (digits e.target)⟩ (ic (dP l d) e.ag),0):=by rw[appH,if_pos hk]
theorem Xu6{l:List Ho}{e:aT}{d:Int}(hk:e.au=6)(h:(ic (dP l d) e.ag).length≠(dP l d).length):appH l e d=(ic (dP l d) e.ag,0):=by
 rw[appH,if_neg (by omega),if_pos hk,if_pos];cases hh:xw (dP l d) e.ag with
 |true=>rfl
 |false=>exact absurd (yI.2 hh) h
theorem Xs6{l:List Ho}{e:aT}{d:Int}(hk:e.au=6)(h:(ic (dP l d) e.ag).length=(dP l d).length):appH l e d=([],9):=by
 rw[appH,if_neg (by omega),if_pos hk,if_neg];rw[yI.1 h];simp
theorem Xov{l:List Ho}{e:aT}{d:Int}(h5:e.au≠5)(h6:e.au≠6):appH l e d=(dP l d,0):=by
 rw[appH,if_neg h5,if_neg h6]
theorem Yp{s:af}(h:fK s=true):s.length≤10:=by
 unfold fK at h;simp only[Bool.and_eq_true,decide_eq_true_eq]at h;exact h.1.1.1.2
theorem U7(p:af)(b:Nat)(l:List Ho)(w:World)(hc:w.cell? ⟨b,1,none⟩=some (S p)):tF 90 #[.pointer (some ⟨b,0,none⟩)] l (fun h=> !(h.p==p)) (Below w.heap.size w):=by
 intro x hx W hW;have Lc:=kP (.cells #[S x.p,.int .i64 x.u] 148) (bK hW hc);clear hc;show Calls Tryz.prog _ #[Mh x,.pointer (some ⟨b,0,none⟩)] W _;go_enter Tryz.func90,Tryz.ntmps90
 go_wp2;go_ret;exact⟨rfl,(Qb _ _).alloc (Qn _) _⟩
theorem Xq2(I:IH)(hI:eG I)(p:af)(hp:p.length≤4294967280)(b:Nat)(l:List Ho)(hl:∀h∈l,h.p.length≤4294967280)(w:World)(hw:Ok I w)(hc:w.cell? ⟨b,1,none⟩=some (S p)):tF 93 #[.pointer (some ⟨b,0,none⟩)] l (fun h=>decide (0<iU h.p p)) (Below w.heap.size w):=by
 intro x hx W hW;have Hu:=Qh (Xiv I hI x.p p (hl x hx) hp (W.alloc (.cells #[S x.p,.int .i64 x.u] 148)) ((hw.below (Qn _) hW).alloc _));have Lc:=kP (.cells #[S x.p,.int .i64 x.u] 148) (bK hW hc);clear hc;show Calls Tryz.prog _ #[Mh x,.pointer (some ⟨b,0,none⟩)] W _;go_enter Tryz.func93,Tryz.ntmps93
 go_wp2_with fail
 refine Hu.O.mono ?_;rintro e w1 ⟨rfl,aD⟩;go_wp2;go_ret;exact⟨rfl,((Qb _ _).alloc (Qn _) _).trans (aD.mono (by simp))⟩
theorem Xnw(I:IH)(hI:eG I)(v:Value)(l:List Ho)(hv:aZ jB I v l)(hk:vL l)(hn:l.length≤100000)(e:aT)(va vx:Value)(fq:aZ lD I va e.aj)(kJ:aZ lY I vx e.aA)(he:aP e=0)(d:Int)(w:World)(hw:Ok I w):
 Calls Tryz.prog 39 #[v,gN e va vx,.int .i64 d] w (xz jB I w (appH l e d).1 (appH l e d).2):=by
 have Ha:=Qh (fun w hw=>U6 I v l hv hn d w hw);have HG:=Qh hI;have nV:e.ag.length≤4294967280:=by have:=(Ey (Gm he).2.2.1).1;omega
 have Hd:=Qh (fun h5=>WW he h5);have HE:=Qh (@Xl9 l e d);have HR:=Qh (@Xu6 l e d);have HM:=Qh (@Xs6 l e d);have HL:=Qh (@Xov l e d);have uI:(dP l d).length≤100000:=Nat.le_trans (List.length_filter_le _ _) hn;have QS:=Qh (hk.act d);have GY:(ic (dP l d) e.ag).length≤(dP l d).length:=List.length_filter_le _ _;have Dc:=Qh ((hk.act d).rest e.ag);have jd:(dP l d).filter (fun h=> !(h.p==e.ag))=ic (dP l d) e.ag:=rfl;obtain⟨ao,cap,rfl,dO,fJ,_⟩:=id hv;obtain⟨aa,ca,rfl,_,_,_⟩:=id fq;obtain⟨ax,cx,rfl,_,_,_⟩:=id kJ;clear hv fq kJ hI hk he;generalize Eu:ic (dP l d) e.ag=rest at GY Dc jd HE HR HM;generalize NU:dP l d=act at Ha uI QS GY jd HE HR HM HL;have wT:=Qh jd;clear Eu NU jd;by_cases h5:e.au=5;case neg=>
  have k5:((e.au:Int)==5)=false:=by simpa using h5
  by_cases h6:e.au=6;case neg=>
   have k6:((e.au:Int)==6)=false:=by simpa using h6
   have Hn:=Qh (HL.O h5 h6);clear h5 h6;go_enter Tryz.func39,Tryz.ntmps39
   go_wp2_with fail
   refine(Ha.O _ (hw.alloc _)).mono ?_;rintro e1 w1 ⟨v1,rfl,dD,aD⟩;have kU:=Qh (dx (e:=e) rfl aD);have jN:Ok I w1:=(hw.alloc _).below (Qn _) aD;have bZ:w.heap.size<w1.heap.size:=by have:=aD.size;simp at this;omega
   have iR:∀b,w.heap.size≤b→I b=none:=fun b hb=>hw.fresh hb;have aH:=((Qb w.heap.size w).alloc (Qn _) (.cells #[.int .i64 e.au,S e.ag,.slice aa e.aj.length ca,S e.target,.int .i64 e.size,S e.av,.slice ax e.aA.length cx] 81)).trans (aD.mono (by simp));obtain⟨I1,jC,aM,eU,_⟩:=(dD.lower (show w.heap.size≤_ by simp)).freeze jN iR;have Ld:=Qh jC;have uS:=Qh eU;have U8:=Qh (HG.O.mono (jC.keep hw (Qn _)));have Hs:=Qh (QP I1 v1 act eU uI _ _ _ w1 aM (fun _ _=>by kernel_rfl) (U7 e.ag w.heap.size act w1 kU.O.c1));obtain⟨a1,O5,rfl,BD,Oq,_⟩:=id eU;clear dD aD iR eU jC jN;go_wp2_with fail
   refine Hs.O.mono ?_;rintro e2 w2 ⟨v2,rfl,ed,aL⟩;rw[wT.O]at ed;have uT:∀b,w1.heap.size≤b→I1 b=none:=fun b hb=>aM.fresh hb;have uU:=Qh uT;have aX:Ok I1 w2:=aM.below (Qn _) aL;have oH:=Qh (kU.O.aQ aL);have aY:=aH.trans (aL.mono aH.size);have eZ:w1.heap.size≤w2.heap.size:=aL.size;clear aL aH kU aM Hs uT;obtain⟨I2,ku,rF,lN,_⟩:=ed.freeze aX uU.O;have yX:=Qh ed;have Wq:=Qh ku;have wz:=Qh lN;obtain⟨a2,cp2,rfl,BF,qJ,_⟩:=id lN;clear ed lN ku;obtain⟨c0,c1,c2,c3,c4,c5,c6⟩:=oH.O;go_wp2;go_ret2;rw[Hn.O];exact⟨_,I1,rfl,aY,Ld.O,aX,uS.O⟩
  have k6:((e.au:Int)==6)=true:=by simpa using h6
  by_cases NT:rest.length=act.length
  ·have Hn:=Qh (HM.O h6 NT);have q1:((rest.length:Int)==act.length)=true:=by rw[NT];simp
   clear h5 h6 NT;go_enter Tryz.func39,Tryz.ntmps39
   go_wp2_with fail
   refine(Ha.O _ (hw.alloc _)).mono ?_;rintro e1 w1 ⟨v1,rfl,dD,aD⟩;have kU:=Qh (dx (e:=e) rfl aD);have jN:Ok I w1:=(hw.alloc _).below (Qn _) aD;have bZ:w.heap.size<w1.heap.size:=by have:=aD.size;simp at this;omega
   have iR:∀b,w.heap.size≤b→I b=none:=fun b hb=>hw.fresh hb;have aH:=((Qb w.heap.size w).alloc (Qn _) (.cells #[.int .i64 e.au,S e.ag,.slice aa e.aj.length ca,S e.target,.int .i64 e.size,S e.av,.slice ax e.aA.length cx] 81)).trans (aD.mono (by simp));obtain⟨I1,jC,aM,eU,_⟩:=(dD.lower (show w.heap.size≤_ by simp)).freeze jN iR;have Ld:=Qh jC;have uS:=Qh eU;have U8:=Qh (HG.O.mono (jC.keep hw (Qn _)));have Hs:=Qh (QP I1 v1 act eU uI _ _ _ w1 aM (fun _ _=>by kernel_rfl) (U7 e.ag w.heap.size act w1 kU.O.c1));obtain⟨a1,O5,rfl,BD,Oq,_⟩:=id eU;clear dD aD iR eU jC jN;go_wp2_with fail
   refine Hs.O.mono ?_;rintro e2 w2 ⟨v2,rfl,ed,aL⟩;rw[wT.O]at ed;have uT:∀b,w1.heap.size≤b→I1 b=none:=fun b hb=>aM.fresh hb;have uU:=Qh uT;have aX:Ok I1 w2:=aM.below (Qn _) aL;have oH:=Qh (kU.O.aQ aL);have aY:=aH.trans (aL.mono aH.size);have eZ:w1.heap.size≤w2.heap.size:=aL.size;clear aL aH kU aM Hs uT;obtain⟨I2,ku,rF,lN,_⟩:=ed.freeze aX uU.O;have yX:=Qh ed;have Wq:=Qh ku;have wz:=Qh lN;obtain⟨a2,cp2,rfl,BF,qJ,_⟩:=id lN;clear ed lN ku;obtain⟨c0,c1,c2,c3,c4,c5,c6⟩:=oH.O;go_wp2;go_ret2;rw[Hn.O];exact⟨_,I1,rfl,aY,Ld.O,aX,aZ.nil _ _⟩
  ·have Hn:=Qh (HR.O h6 NT);have q1:((rest.length:Int)==act.length)=false:=by
    have:((rest.length:Int))≠act.length:=by omega
    simpa using this
   clear h5 h6 NT;go_enter Tryz.func39,Tryz.ntmps39
   go_wp2_with fail
   refine(Ha.O _ (hw.alloc _)).mono ?_;rintro e1 w1 ⟨v1,rfl,dD,aD⟩;have kU:=Qh (dx (e:=e) rfl aD);have jN:Ok I w1:=(hw.alloc _).below (Qn _) aD;have bZ:w.heap.size<w1.heap.size:=by have:=aD.size;simp at this;omega
   have iR:∀b,w.heap.size≤b→I b=none:=fun b hb=>hw.fresh hb;have aH:=((Qb w.heap.size w).alloc (Qn _) (.cells #[.int .i64 e.au,S e.ag,.slice aa e.aj.length ca,S e.target,.int .i64 e.size,S e.av,.slice ax e.aA.length cx] 81)).trans (aD.mono (by simp));obtain⟨I1,jC,aM,eU,_⟩:=(dD.lower (show w.heap.size≤_ by simp)).freeze jN iR;have Ld:=Qh jC;have uS:=Qh eU;have U8:=Qh (HG.O.mono (jC.keep hw (Qn _)));have Hs:=Qh (QP I1 v1 act eU uI _ _ _ w1 aM (fun _ _=>by kernel_rfl) (U7 e.ag w.heap.size act w1 kU.O.c1));obtain⟨a1,O5,rfl,BD,Oq,_⟩:=id eU;clear dD aD iR eU jC jN;go_wp2_with fail
   refine Hs.O.mono ?_;rintro e2 w2 ⟨v2,rfl,ed,aL⟩;rw[wT.O]at ed;have uT:∀b,w1.heap.size≤b→I1 b=none:=fun b hb=>aM.fresh hb;have uU:=Qh uT;have aX:Ok I1 w2:=aM.below (Qn _) aL;have oH:=Qh (kU.O.aQ aL);have aY:=aH.trans (aL.mono aH.size);have eZ:w1.heap.size≤w2.heap.size:=aL.size;clear aL aH kU aM Hs uT;obtain⟨I2,ku,rF,lN,_⟩:=ed.freeze aX uU.O;have yX:=Qh ed;have Wq:=Qh ku;have wz:=Qh lN;obtain⟨a2,cp2,rfl,BF,qJ,_⟩:=id lN;clear ed lN ku;obtain⟨c0,c1,c2,c3,c4,c5,c6⟩:=oH.O;go_wp2;go_ret2;rw[Hn.O];exact⟨_,I2,rfl,aY,Ld.O.trans Wq.O (Nat.le_of_lt bZ),rF,wz.O⟩
 have k5:((e.au:Int)==5)=true:=by simpa using h5
 have Hn:=Qh (HE.O h5);have xh:e.target.length≤4294967280:=by
  have hh:=(Yn (Hd.O h5)).2.2.2;have h1:=Yp (Hd.O h5);omega
 have QT:=Qh (fun w=>Xq1 e.target xh (Hd.O h5) w);obtain⟨d0,TJ⟩:∃d0,digits e.target=d0:=⟨_,rfl⟩;obtain⟨U,hU⟩:∃U,gK e.ag act d0=U:=⟨_,rfl⟩;rw[TJ]at QT Hn;rw[hU]at Hn;have HU:=Qh hU;clear h5 TJ xh hU;go_enter Tryz.func39,Tryz.ntmps39
 go_wp2_with fail
 refine(Ha.O _ (hw.alloc _)).mono ?_;rintro e1 w1 ⟨v1,rfl,dD,aD⟩;have kU:=Qh (dx (e:=e) rfl aD);have jN:Ok I w1:=(hw.alloc _).below (Qn _) aD;have bZ:w.heap.size<w1.heap.size:=by have:=aD.size;simp at this;omega
 have iR:∀b,w.heap.size≤b→I b=none:=fun b hb=>hw.fresh hb;have aH:=((Qb w.heap.size w).alloc (Qn _) (.cells #[.int .i64 e.au,S e.ag,.slice aa e.aj.length ca,S e.target,.int .i64 e.size,S e.av,.slice ax e.aA.length cx] 81)).trans (aD.mono (by simp));obtain⟨I1,jC,aM,eU,_⟩:=(dD.lower (show w.heap.size≤_ by simp)).freeze jN iR;have Ld:=Qh jC;have uS:=Qh eU;have U8:=Qh (HG.O.mono (jC.keep hw (Qn _)));have Hs:=Qh (QP I1 v1 act eU uI _ _ _ w1 aM (fun _ _=>by kernel_rfl) (U7 e.ag w.heap.size act w1 kU.O.c1));obtain⟨a1,O5,rfl,BD,Oq,_⟩:=id eU;clear dD aD iR eU jC jN;go_wp2_with fail
 refine Hs.O.mono ?_;rintro e2 w2 ⟨v2,rfl,ed,aL⟩;rw[wT.O]at ed;have uT:∀b,w1.heap.size≤b→I1 b=none:=fun b hb=>aM.fresh hb;have uU:=Qh uT;have aX:Ok I1 w2:=aM.below (Qn _) aL;have oH:=Qh (kU.O.aQ aL);have aY:=aH.trans (aL.mono aH.size);have eZ:w1.heap.size≤w2.heap.size:=aL.size;clear aL aH kU aM Hs uT;obtain⟨I2,ku,rF,lN,_⟩:=ed.freeze aX uU.O;have yX:=Qh ed;have Wq:=Qh ku;have wz:=Qh lN;obtain⟨a2,cp2,rfl,BF,qJ,_⟩:=id lN;clear ed lN ku;obtain⟨c0,c1,c2,c3,c4,c5,c6⟩:=oH.O;go_wp2_with fail
 refine(QT.O _).mono ?_;rintro e3 w3 ⟨rfl,dX⟩;have eT:Ok I1 w3:=aX.below (Qn _) dX;have yY:Ok I2 w3:=rF.below (Qn _) dX;have l8:=Qh (oH.O.aQ dX);have Cc:=Qh (yX.O.below dX);have pJ:w2.heap.size≤w3.heap.size:=dX.size;have gp:=aY.trans (dX.mono aY.size);clear c0 c1 c2 c3 c4 c5 c6 oH yX aX rF dX aY;go_wp2_with fail
 go_loopw [10,35] (fun s10 s35 wr=> ∃(k:Nat) (cur:Int),k≤act.length∧s10= .int .i64 cur∧s35= .int .i64 k∧gK e.ag (act.drop k) cur=U∧Below w3.heap.size w3 wr) (fun _ i _=>act.length-(intOf i).toNat)
 case atStart=>exact⟨0,d0,Nat.zero_le _,rfl,rfl,HU.O,Qb _ _⟩
 case round=>
  obtain⟨k,cur,hk,rfl,rfl,hu,hb⟩:=hrel;have Hu:=Qh hu;clear hu;by_cases hlt:k<act.length
  ·obtain⟨x,b,off,cap',dA,cZ,x0,x1⟩:=wy uS.O (eT.below (Qn _) hb) k hlt;cases cZ;have bu:=Qh (Xmi hlt dA Hu.O);obtain⟨c0,c1,c2,c3,c4,c5,c6⟩:=l8.O.aQ hb;have c1':=kP (.cells #[S x.p,.int .i64 x.u] 148) c1;clear dA Hu c0 c1 c2 c3 c4 c5 c6;cases hq:(x.p==e.ag)
   ·have jI:=Qh (show gK e.ag (act.drop (k+1)) cur=U by have:=bu.O;rwa[if_neg (by simpa using hq)]at this);clear bu;go_wp2;go_roundw;case rel=>exact⟨k+1,cur,by omega,rfl,by go_num,jI.O,hb.alloc hb.size _⟩
    case measure=>simp[intOf];omega
   ·have jI:=Qh (show gK e.ag (act.drop (k+1)) (max cur x.u)=U by have:=bu.O;rwa[if_pos (by simpa using hq)]at this);clear bu;go_wp2;go_roundw;case rel=>exact⟨k+1,max cur x.u,by omega,rfl,by go_num,jI.O,hb.alloc hb.size _⟩
    case measure=>simp[intOf];omega
  ·have sF:cur=U:=by have:=Hu.O;rwa[List.drop_of_length_le (by omega)]at this
   subst sF;have TK:Ok I2 wr:=yY.below (Qn _) hb;have yZ:Ok I1 wr:=eT.below (Qn _) hb;have QU:=Qh (l8.O.aQ hb);have Cg:=Qh (Cc.O.below hb);have De:=gp.trans (hb.mono gp.size);have QV:w3.heap.size≤wr.heap.size:=hb.size;have Df:=Qh (Xei I2 _ rest wz.O _ _ _ wr TK (fun _ _=>by kernel_rfl) (Xq2 I1 U8.O e.ag nV w.heap.size rest Dc.O.short wr yZ QU.O.c1));have fE:=LZ rest (fun h=>decide (0<iU h.p e.ag));clear Hu hb gp l8 Cc eT yY TK;rcases fE with⟨i,hi,e1,e2,e3⟩|⟨e1,e2⟩
   ·rw[e1]at Df;have Hi:=Qh (Xoa ⟨e.ag,cur⟩ hi e2 e3);clear e1 e2 e3;go_wp2_with fail
    refine Df.O.mono ?_;rintro e5 w5 ⟨rfl,bM⟩;have dL:=yZ.below (Qn _) bM;have mU:=Qh (QU.O.aQ bM);have fw:=Qh (Cg.O.below bM);have dE:=De.trans (bM.mono De.size);have jM:wr.heap.size≤w5.heap.size:=bM.size;obtain⟨c0,c1,c2,c3,c4,c5,c6⟩:=mU.O;clear bM De QU Cg yZ c0 c2 c3 c4 c5 c6;have bn:=fw.O.nP (Qn w5.heap.size);have EU:=Qh (Xlk I1 w1.heap.size _ rest ⟨e.ag,cur⟩ w5.heap.size i 148 [S e.ag,.int .i64 cur] _ (fw.O.alloc (.cells #[S e.ag,.int .i64 cur] 148)) rfl (heap_alloc_new w5 (.cells #[S e.ag,.int .i64 cur] 148)) bn (by omega) (by omega) (by simp;omega));clear bn;go_wp2_with fail
    refine EU.O.mono ?_;rintro e8 w8 ⟨v8,rfl,mf,qN⟩;have y9:=Qh mf;have Kq:=Qh qN;clear mf qN;go_wp2;go_ret2;have gM:=fw.O.alloc (.cells #[S e.ag,.int .i64 cur] 148);have mR:=Below.own (dE.alloc dE.size _) Kq.O gM (Nat.le_of_lt bZ) (by simp;omega);have kL:Ok I1 w8:=Ok.own (dL.alloc _) Kq.O gM uU.O;obtain⟨I',jC,ku,lX,_⟩:=y9.O.freeze kL uU.O;rw[Hn.O];exact⟨_,I',rfl,mR,Ld.O.trans jC (Nat.le_of_lt bZ),ku,by rw[Hi.O];exact lX⟩
   ·rw[e1]at Df;have Hi:=Qh (Xlj ⟨e.ag,cur⟩ e2);clear e1 e2;go_wp2_with fail
    refine Df.O.mono ?_;rintro e5 w5 ⟨rfl,bM⟩;have dL:=yZ.below (Qn _) bM;have mU:=Qh (QU.O.aQ bM);have fw:=Qh (Cg.O.below bM);have dE:=De.trans (bM.mono De.size);have jM:wr.heap.size≤w5.heap.size:=bM.size;obtain⟨c0,c1,c2,c3,c4,c5,c6⟩:=mU.O;clear bM De QU Cg yZ c0 c2 c3 c4 c5 c6;have bn:=fw.O.nP (Qn w5.heap.size);have EU:=Qh (Xlk I1 w1.heap.size _ rest ⟨e.ag,cur⟩ w5.heap.size rest.length 148 [S e.ag,.int .i64 cur] _ (fw.O.alloc (.cells #[S e.ag,.int .i64 cur] 148)) rfl (heap_alloc_new w5 (.cells #[S e.ag,.int .i64 cur] 148)) bn (by omega) (by omega) (by simp;omega));clear bn;go_wp2_with fail
    refine EU.O.mono ?_;rintro e8 w8 ⟨v8,rfl,mf,qN⟩;have y9:=Qh mf;have Kq:=Qh qN;clear mf qN;go_wp2;go_ret2;have gM:=fw.O.alloc (.cells #[S e.ag,.int .i64 cur] 148);have mR:=Below.own (dE.alloc dE.size _) Kq.O gM (Nat.le_of_lt bZ) (by simp;omega);have kL:Ok I1 w8:=Ok.own (dL.alloc _) Kq.O gM uU.O;obtain⟨I',jC,ku,lX,_⟩:=y9.O.freeze kL uU.O;rw[Hn.O];exact⟨_,I',rfl,mR,Ld.O.trans jC (Nat.le_of_lt bZ),ku,by rw[Hi.O];exact lX⟩
open Go.RowKit Go.Lib
theorem EW{T e:TypeId}{B b:Nat}{bs:List Value}{w w':World}(h:Lib.IsBuilder T e B b bs w)(hb:Below w.heap.size w w'):Lib.IsBuilder T e B b bs w':=by
 have key:∀p,Lib.BuilderAt T e B b p bs w→Lib.BuilderAt T e B b p bs w':=fun p h=>by
  have hlt:=h.lt;obtain⟨hB,v,hv,bg,bn⟩:=h;refine⟨hB,v,(hb.block b hlt).trans hv,bg.kept (row:=none) ⟨hb.os,hb.tape,hb.output,hb.size,fun k hk _=>hb.block k hk⟩ ?_,bn⟩;cases v.ownBlock<;>simp
 rcases h with h|h
 ·exact .inl (key _ h)
 ·exact .inr (key _ h)
theorem O6(I:IH)(hI:eG I)(s:af)(hs:s.length≤140737488355200)(w:World)(hw:Ok I w):
 Calls Tryz.prog 154 #[S s] w fun e w'=>e= .returned (S (fG s))∧Below w.heap.size w w':=by
 have TL:=Qs s.length (by omega);go_enter Tryz.func154,Tryz.ntmps154
 go_wp2_with fail
 refine(XU I hI _ _ hw (by omega) (by omega)).mono ?_;rintro e w1 ⟨rfl,aD⟩;go_wp2;go_ret;exact⟨PV (by simp[fG]),aD⟩
theorem QW(I:IH)(hI:eG I)(n:Nat)(hn:n≤140737488355200)(w:World)(hw:Ok I w):
 Calls Tryz.prog 153 #[.int .i64 n] w fun e w'=>e= .returned (S (gB n))∧Below w.heap.size w w':=by
 have TL:=Qs n (by omega);go_enter Tryz.func153,Tryz.ntmps153
 go_wp2_with fail
 refine(XU I hI _ _ hw (by omega) (by omega)).mono ?_;rintro e w1 ⟨rfl,aD⟩;go_wp2;go_ret;exact⟨rfl,aD⟩
def uV(w:World)(b off:Nat)(l:List af):Prop:=∀(j:Nat) x,l[j]?=some x→w.cell? ⟨b,off+j,none⟩=some (S x)
theorem Xip(W:World)(l:List af)(T:TypeId):uV (W.alloc (.cells (l.map fun s=>S s).toArray T)) W.heap.size 0 l:=fun j x hx=>by
 rw[cell_of_row _ W.heap.size _ _ _ _ (heap_alloc_new W _),Nat.zero_add,List.getElem?_toArray,List.getElem?_map,hx];rfl
theorem Xhi(I:IH)(hI:eG I)(b off cap n:Nat)(l:List af)(DV:l.length=n)(dO:l.length≤cap)(fJ:cap≤maxLen)(w:World)(hv:uV w b off l)(hs:(iA l).length≤140737488355200)(hw:Ok I w):
 Calls Tryz.prog 242 #[.slice (some ⟨b,off,none⟩) n cap] w fun e w'=>e= .returned (S (iA l))∧Below w.heap.size w w':=by
 subst DV;have hlen:l.length≤9223372036854775807:=by unfold maxLen at fJ;omega
 have Hv:=Qh hv;clear hv;have iR:Lib.IsBuilder 203 5 w.heap.size w.heap.size (Lib.byteCells (iA (l.take 0))) (w.alloc (.cells #[.pointer none,.slice none 0 0] 203)):=Lib.fresh_isBuilder _ _ w;have kw:=Qh iR;clear iR;go_enter Tryz.func242,Tryz.ntmps242
 go_wp2_with fail
 go_loopw [8] (fun s8 wr=> ∃k:Nat,k≤l.length∧s8= .int .i64 k∧Lib.IsBuilder 203 5 w.heap.size w.heap.size (Lib.byteCells (iA (l.take k))) wr∧Below w.heap.size w wr∧w.heap.size<wr.heap.size) (fun i _=>l.length-(intOf i).toNat)
 case atStart=>exact⟨0,Nat.zero_le _,rfl,kw.O,(Qb _ _).alloc (Qn _) _,by simp⟩
 case round=>
  obtain⟨k,hk,rfl,nX,hb,dM⟩:=hrel;have tJ:=Qh nX;clear nX;have dG:Ok I wr:=hw.below (Qn _) hb;by_cases hlt:k<l.length
  ·obtain⟨s,Ws⟩:∃s,l[k]=s:=⟨_,rfl⟩;have hc:wr.cell? ⟨b,off+k,none⟩=some (S s):=bK hb (Hv.O k s (by rw[List.getElem?_eq_getElem hlt,Ws]));have ny:=Qh (show iA (l.take (k+1))=iA (l.take k)++fG s by rw[List.take_succ_eq_append_getElem hlt,Xf8,Ws];simp[iA]);have qR:=Qh (show iA l=iA (l.take (k+1))++iA (l.drop (k+1)) by rw[←Xf8,List.take_append_drop]);have fO:(iA (l.take k)).length+(fG s).length≤140737488355200:=by
    rw[qR.O,ny.O]at hs;simp at hs;omega
   have GQ:s.length≤140737488355200:=by
    have:s.length≤(fG s).length:=by simp[fG];omega
    omega
   clear Ws;go_wp2_with fail
   refine(O6 I hI s GQ _ dG).mono ?_;rintro e w1 ⟨rfl,aD⟩;have om:=EW tJ.O aD;have bZ:=aD.size;go_wp2_with fail
   refine(Tryz.Builder_WriteString w.heap.size w.heap.size _ _ _ om (by rw[ByteArray.size_mk',List.size_toArray];simp[Lib.byteCells];omega) (by omega)).mono ?_;rintro e w2 ⟨rfl,mV,aL⟩;have eZ:=mV.lt;have EX:Hid (Lib.IsBuilder 203 5 w.heap.size w.heap.size (Lib.byteCells (iA (l.take (k+1)))) w2):=Qh (.inr (by
    have:=mV;rw[Lib.strCells_toArray,Lib.byteCells,Lib.byteCells,←List.map_append,←ny.O]at this;exact this))
   clear om mV;go_wp2;go_roundw;case rel=>exact⟨k+1,by omega,by go_num,EX.O,(hb.trans (aD.mono (Nat.le_of_lt dM))).trans aL,by omega⟩
   case measure=>simp[intOf];omega
  ·have nY:l.take k=l:=List.take_of_length_le (by omega);rw[nY]at tJ;clear nY;go_wp2_with fail
   refine(Tryz.Builder_String_any w.heap.size w.heap.size _ _ tJ.O (Nat.le_of_lt dM)).mono ?_;rintro e w1 ⟨rfl,aD⟩;go_wp2;go_ret;exact⟨rfl,hb.trans aD⟩
def Dh:af:=[48,49,50,51,52,53,54,55,56,57]
theorem Xkp(u:Nat)(h:u<10):(Dh.drop u).take (u+1-u)=decDigits u:=by
 rw[decDigits_one h];match u,h with
 |0,_=>rfl
 |1,_=>rfl
 |2,_=>rfl
 |3,_=>rfl
 |4,_=>rfl
 |5,_=>rfl
 |6,_=>rfl
 |7,_=>rfl
 |8,_=>rfl
 |9,_=>rfl
theorem Xj4{n:Nat}(h:¬n<10):decDigits n=decDigits (n / 10)++decDigits (n%10):=by
 rw[decDigits_one (i:=n%10) (by omega),decDigits.eq_def n,dif_neg h]
theorem Xk3(u:Nat)(hu:u<18446744073709551616):∀w:World,Calls Tryz.prog 244 #[.int .u64 u] w fun e w'=>e= .returned (S (decDigits u))∧Below w.heap.size w w':=by
 induction u using Nat.strongRecOn with
 |ind u ih=>
  intro w;have Eo:(decDigits u).length≤20:=by rw[decDigits_length];exact Xiz _ _ (by omega) (by omega)
  by_cases h:u<10
  ·have Ht:=Qh (Xkp u h);clear ih Eo;go_enter Tryz.func244,Tryz.ntmps244
   go_wp2;go_ret;exact⟨PV (by have h:=Ht.O;rwa[show u+1-u=1 by omega]at h),Qb _ _⟩
  ·have Hd:=Qh (Xj4 h);have En:=ih (u / 10) (by omega) (by omega);have DR:=ih (u%10) (by omega) (by omega);have La:(decDigits (u / 10)).length+(decDigits (u%10)).length≤20:=by rw[Hd.O,List.length_append]at Eo;exact Eo
   have Kc:=Qh En;have Ko:=Qh DR;rw[show((u / 10:Nat):Int)=(u:Int) / 10 by omega]at Kc;rw[show((u%10:Nat):Int)=(u:Int)%10 by omega]at Ko;clear ih En DR Eo;go_enter Tryz.func244,Tryz.ntmps244
   go_wp2_with fail
   refine(Kc.O _).mono ?_;rintro e w1 ⟨rfl,aD⟩;go_wp2_with fail
   refine(Ko.O _).mono ?_;rintro e w2 ⟨rfl,aL⟩;go_wp2;go_ret;exact⟨PV Hd.O.symm,aD.trans (aL.mono aD.size)⟩
theorem Xq9(n:Nat)(hn:n≤9223372036854775807)(w:World):Calls Tryz.prog 203 #[.int .i64 n] w fun e w'=>e= .returned (S (itoa n))∧Below w.heap.size w w':=by
 have Hi:=Qh (show itoa (n:Int)=decDigits n by simp[itoa]);have hw:IntKind.u64.wrap (n:Int)=n:=IntWalk.u64_in _ (by omega);go_enter Tryz.func203,Tryz.ntmps203
 go_wp2_with fail
 refine(Xk3 n (by omega) _).mono ?_;rintro e w1 ⟨rfl,aD⟩;go_wp2;go_ret;exact⟨PV Hi.O.symm,aD⟩
theorem Xk4(n:Nat)(hn:n≤140737488355200)(w:World):
 Calls Tryz.prog 157 #[.int .i64 n] w fun e w'=>e= .returned (S (gB n))∧Below w.heap.size w w':=by
 have TL:=Qs n (by omega);go_enter Tryz.func157,Tryz.ntmps157
 go_wp2_with fail
 refine(Xq9 n (by omega) _).mono ?_;rintro e w1 ⟨rfl,aD⟩;go_wp2;go_ret;exact⟨rfl,aD⟩
