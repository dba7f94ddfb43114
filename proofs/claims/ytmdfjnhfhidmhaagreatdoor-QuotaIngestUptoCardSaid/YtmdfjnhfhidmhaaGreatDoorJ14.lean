/- Lemmas for the claim's theorem;conditions: as each says. -/
import Derived.Test.YtmdfjnhfhidmhaaGreatDoorJ12
import Derived.Laws.CopyRow
set_option maxHeartbeats 0
set_option maxRecDepth 100000
set_option linter.all false
namespace Go.Proofs.YtmdfjnhfhidmhaaGreatDoor
open Go.RowKit
variable{P:Program}{w:World}
theorem QX:(Tryz.prog.info? 81).map (fun i=>(i.zero,i.size,i.bytes))=some (some (.agg #[.int .i64 0,.string ⟨#[]⟩,.slice none 0 0,.string ⟨#[]⟩,.int .i64 0,.string ⟨#[]⟩,.slice none 0 0]),7,112):=by kernel_rfl
theorem IL(I:IH)(v:Value)(l:List _)(hv:aZ bQ I v l)(w:World)(hw:Ok I w)(fO:l.length*112≤140737488355328):
 Calls Tryz.prog 69 #[v] w fun e w'=> ∃v',e= .returned v'∧aK bQ 81 I w' w.heap.size v' l∧Below w.heap.size w w':=by
 obtain⟨i0,hi,oV,ow,uD⟩:=info_parts QX;have q22:∀(w:World) (a:Option Addr) (n c n' c':Nat),(binOp .eql 37 (.slice a n c) (.slice none n' c')).run Tryz.prog w= .ok (.bool a.isNone) w:=fun w a n c n' c'=>Lib.run_eql_slice_nil w _ _ a n c n' c' Tryz.underlying37;obtain⟨ao,cap,xs,rfl,dO,fJ,hL,hx⟩:=hv.cells hw (by decide);have HL:=Qh hL;have Hx:=Qh hx;clear hL hx hv;cases ao with
 |none=>
  have h0:l.length=0:=by
   rcases Nat.eq_zero_or_pos l.length with h|h
   ·exact h
   ·obtain⟨b,off,arr,e,_⟩:=Hx.O h;cases e
  have:l=[]:=List.eq_nil_of_length_eq_zero h0;subst this;go_enter Tryz.func69,Tryz.ntmps69
  go_wp2;go_ret;exact⟨_,rfl,aK.nil _ _ _ _ _,Qb _ _⟩
 |some a=>
  go_enter Tryz.func69,Tryz.ntmps69
  go_wp2_with (at_builtin;refine wpList_append_own _ rfl _ _ 37 rfl w.heap.size 81 i0 _ 7 112 Tryz.underlying37 hi oV ow uD rfl (by decide) _ _ _ rfl (World.ownsRow_made w #[] 0 (Qn _) (Nat.zero_le _) (by simp)) a l.length cap xs rfl ?qc1 ?qc2 ?qc3 ?qc4 ?qc5 ?qc6 ?_)
  case qc1=>exact HL.O.1
  case qc2=>
   intro j u hj;have hl:0<l.length:=by
    have:=(List.getElem?_eq_some_iff.1 hj).1;rw[HL.O.1]at this;rcases Nat.eq_zero_or_pos l.length with h|h
    ·rw[h]at this;omega
    ·exact h
   obtain⟨b,off,arr,e,_,hb,hc⟩:=Hx.O hl;cases e;rw[Addr.add_lit];rw[World.cell?_alloc_lt _ _ _ hb];exact hc j u hj
  case qc3=>exact HL.O.oneCell
  case qc4=>rw[Nat.zero_add];omega
  case qc5=>rw[Nat.zero_add];exact fO
  case qc6=>simp
  intro v' w1 bg lW _;go_wp2;go_ret;refine⟨v',rfl,⟨xs,(by have hq:=bg;first|exact hq|(simp at hq;exact hq)),HL.O⟩,?_⟩;exact((Qb _ w).alloc (Qn _) _).grown lW (by simp) (by intro k hk;simp[Value.ownBlock]at hk;omega)
theorem Xio(I:IH)(B:Nat)(v:Value)(l:List _)(x:_)(vb:Nat)(news:List Value)(w:World)(hv:aK bQ 81 I w B v l)(hx:bQ.rd I news x)
 (pY:∀j u,news[j]?=some u→w.cell? ⟨vb,j,none⟩=some u) (fO:(l.length+1)*112≤140737488355328) (hB:B≤w.heap.size):
 Calls Tryz.prog 88 #[v,.int .i64 l.length,.slice (some ⟨vb,0,none⟩) 1 1] w fun e w'=> ∃v',e= .returned v'∧aK bQ 81 I w' B v' (l++[x])∧w.grownBy w' v.ownBlock:=by
 obtain⟨i0,hi,oV,ow,uD⟩:=info_parts QX;obtain⟨xs,bg,hL⟩:=hv;have HL:=Qh hL;have Hx:=Qh hx;have Cf:=Qh pY;have vM:maxLen=9223372036854775807:=rfl;have hlen:l.length≤4611686018427387904:=by omega
 clear hL hx pY;have lU:v= .slice none 0 0∧l.length=0∨ ∃g cap,v= .slice (some ⟨g,0,none⟩) l.length cap∧l.length≤cap∧cap≤9223372036854775807:=by
  rcases bg.2 with h|⟨g,cap,cur,h1,_,_,h2,h3,_⟩
  ·exact .inl h
  ·exact .inr ⟨g,cap,h1,h2,by rw[vM]at h3;exact h3⟩
 have QQ:=Qh vM;clear vM;rcases lU with⟨rfl,h0⟩|⟨g,cap,rfl,dO,fJ⟩
 ·have:l=[]:=List.eq_nil_of_length_eq_zero h0;subst this;go_enter Tryz.func88,Tryz.ntmps88
  go_wp2_with (at_builtin;refine wpList_append_own _ rfl _ _ 37 rfl B 81 i0 _ 7 112 Tryz.underlying37 hi oV ow uD rfl (by decide) _ _ _ rfl bg ⟨vb,0,none⟩ 1 1 news rfl ?qc1 ?qc2 ?qc3 ?qc4 ?qc5 ?qc6 ?_)
  case qc1=>exact bQ.len Hx.O
  case qc2=>intro j u hj;rw[Addr.add_lit,Nat.zero_add];exact Cf.O j u hj
  case qc3=>exact bQ.one Hx.O
  case qc4=>rw[QQ.O];simp
  case qc5=>simp
  case qc6=>exact hB
  intro v' w1 dD lW _;go_wp2;go_ret;exact⟨v',rfl,⟨_,dD,bA.append HL.O (bA.one Hx.O)⟩,lW⟩
 ·go_enter Tryz.func88,Tryz.ntmps88
  go_wp2_with (at_builtin;refine wpList_append_own _ rfl _ _ 37 rfl B 81 i0 _ 7 112 Tryz.underlying37 hi oV ow uD rfl (by decide) _ _ _ rfl bg ⟨vb,0,none⟩ 1 1 news rfl (bQ.len Hx.O) (fun j u hj=>by rw[Addr.add_lit,Nat.zero_add];exact Cf.O j u hj) (bQ.one Hx.O) (by rw[QQ.O];omega) fO hB ?_)
  all_goals
   intro v' w1 dD lW _;go_wp2;go_ret;exact⟨v',rfl,⟨_,by rw[List.length_append];exact dD,bA.append HL.O (bA.one Hx.O)⟩,lW⟩
theorem Xgk(I:IH)(B g cap i:Nat)(l:List _)(x:_)(vb:Nat)(tb:TypeId)(news:List Value)(w:World)(hv:aK bQ 81 I w B (.slice (some ⟨g,0,none⟩) l.length cap) l)(hx:bQ.rd I news x)
 (nu:w.heap[vb]?=some (.cells news.toArray tb (0,0))) (bn:vb≠g) (hi:i<l.length) (ql:l.length+1≤cap) (fJ:cap≤9223372036854775807):
 Calls Tryz.prog 88 #[.slice (some ⟨g,0,none⟩) l.length cap,.int .i64 i,.slice (some ⟨vb,0,none⟩) 1 1] w fun e w'=> ∃v',e= .returned v'∧aK bQ 81 I w' B v' (l.take i++x::l.drop i)∧w.grownBy w' (some g):=by
 obtain⟨i0,Gf,oV,ow,uD⟩:=info_parts QX;obtain⟨xs,⟨nD,bg⟩,hL⟩:=hv;rcases bg with⟨h0,_⟩|⟨g',cap',cur,h1,yF,hg,_,BC,fE,rQ⟩
 ·cases h0
 injection h1 with vJ h1b Oi
 injection vJ with vJ
 injection vJ with vJ
 subst vJ Oi;have dM:(Tryz.prog.info? 81).map (·.size)=some 7:=by rw[Gf];simp[ow]
 have yn:news.length=7:=bQ.len hx;have CP:=bQ.one hx;have uR:xs.length=l.length*7:=nD;have kI:cur.size=cap*7:=fE;have mr:cur.toList.take xs.length=xs:=by rw[nD];exact rQ
 have hov:∀lb cb,(callFunc 142 #[.slice (some ⟨vb,0,none⟩) 1 1,.slice (some ⟨g,(i+1)*7,none⟩) lb cb]).run Tryz.prog w= .ok (.value (.bool false)) w:=fun lb cb=>by
  rw[run_callFunc_extern Tryz.func142 (by kernel_rfl) (by kernel_rfl) (by kernel_rfl) (e:=Extern.SlicesOverlaps.overlaps #[37,37] #[4]) (by kernel_rfl),
   Lib.run_overlaps_apart w 37 4 81 Tryz.underlying37 7 (fun w=>by simp[go_sem]) ⟨vb,0,none⟩ ⟨g,(i+1)*7,none⟩ 1 1 lb cb bn tb 81 7 cur.size (by simp[World.shape?,nu,yn]) (by simp[World.shape?,hg]) (by omega) (by simp[World.frozen?,nu]) (by simp[World.frozen?,nu])]
  rfl
 obtain⟨kG,rD⟩:∃c,c=over cur (i*7+7) (xs.drop (i*7)):=⟨_,rfl⟩;have qj:kG.size=cur.size:=by rw[rD];exact DZ _ _ _ (by rw[List.length_drop];omega)
 obtain⟨sD,rE⟩:∃c,c=over kG (i*7) news:=⟨_,rfl⟩;have rU:sD.size=kG.size:=by rw[rE];exact DZ _ _ _ (by omega)
 have jH:sD.toList.take ((l.length+1)*7)=xs.take (i*7)++news++xs.drop (i*7):=by
  have:=insert_row cur xs news (i*7) 7 (by omega) mr yn (by omega);rw[←rD,←rE]at this;rw[show(l.length+1)*7=xs.length+7 by omega];exact this
 have BD:∀ty dc sc,(Builtin.copy_ #[37,37] ty #[.slice (some ⟨g,(i+1)*7,none⟩) (l.length-i) dc,.slice (some ⟨g,i*7,none⟩) (l.length+1-i) sc]).run Tryz.prog w.drew= .ok (goInt ((l.length-i:Nat):Int)) (w.drew.setRow g kG):=fun ty dc sc=>by
  have h:=Gn (P:=Tryz.prog) w.drew 37 37 ty 81 7 g ((i+1)*7) (l.length-i) dc ⟨g,i*7,none⟩ (l.length+1-i) sc cur 81 (xs.drop (i*7)) Tryz.underlying37 dM hg (by rw[List.length_drop];simp only[Nat.min_def];split<;>omega)
   (fun j u hj=>by
     rw[Addr.add_lit];rw[List.getElem?_drop,←mr,List.getElem?_take]at hj;split at hj
     ·rw[World.cell?_drew,cell_of_row w g _ cur _ _ hg,←Array.getElem?_toList];exact hj
     ·cases hj) (by rw[List.length_drop];omega) (fun u hu=>hL.oneCell u (List.mem_of_mem_drop hu))
  rw[h,show Nat.min (l.length+1-i) (l.length-i)=l.length-i by simp only[Nat.min_def];split<;>omega,rD];rw[show(i+1)*7=i*7+7 by omega];rfl
 have hg1:(w.drew.setRow g kG).heap[g]?=some (.cells kG 81 (0,0)):=setRow_heap w.drew g cur kG _ _ hg;have BF:∀ty dc,(Builtin.copy_ #[37,37] ty #[.slice (some ⟨g,i*7,none⟩) (l.length+1-i) dc,.slice (some ⟨vb,0,none⟩) 1 1]).run Tryz.prog (w.drew.setRow g kG)= .ok (goInt 1) ((w.drew.setRow g kG).setRow g sD):=fun ty dc=>by
  have h:=Gn (P:=Tryz.prog) (w.drew.setRow g kG) 37 37 ty 81 7 g (i*7) (l.length+1-i) dc ⟨vb,0,none⟩ 1 1 kG 81 news Tryz.underlying37 dM hg1 (by rw[yn];simp only[Nat.min_def];split<;>omega)
   (fun j u hj=>by
     rw[Addr.add_lit,Nat.zero_add];have:(w.drew.setRow g kG).heap[vb]?=some (.cells news.toArray tb (0,0)):=by rw[setRow_other _ _ _ _ bn];exact nu
     rw[cell_of_row _ vb j _ _ _ this];simpa using hj) (by omega) CP
  rw[h,show Nat.min 1 (l.length+1-i)=1 by simp only[Nat.min_def];split<;>omega,rE];rfl
 have yo:=Qh (show(xs.take (i*7)++news++xs.drop (i*7)).length=(l.length+1)*7 by simp;omega);have Ar:=Qh (show sD.size=cap*7 by omega);have lJ:=Qh jH;have HL:=Qh hL;have Hx:=Qh hx;have Ay:=Qh hg1;have aD:¬(cap=i+1):=by omega
 have aL:¬(cap=i):=by omega
 clear jH hL hx hg1 rD rE nD uR fE kI rQ mr yn CP nu BC hg;have wL:IntKind.i64.wrap ((i:Int)+1)=(i:Int)+1:=IntWalk.i64_in _ (by omega);have Es:0≤(i:Int)+1:=by omega
 have qP:((i:Int)+1).toNat=i+1:=by omega
 have GX:i≤l.length:=by omega
 have Ki:(i:Int)≤(l.length:Int)+1:=by omega
 go_enter Tryz.func88,Tryz.ntmps88
 go_wp2_with (simp only[hov])
 go_region_law (refine step_copy_runI rfl _ _ 37 37 rfl _ _ (by simp[Act.eval,Act.put]) (by simp[Act.eval,Act.put]) (BD _ _ _) ?_)
 go_wp2_with (at_builtin;refine wpList_copy_runI _ rfl _ _ 37 37 rfl _ _ rfl rfl (BF _ _) ?_)
 go_ret;have DV:(l.take i++x::l.drop i).length=l.length+1:=by simp;omega
 refine⟨_,rfl,?_,?_⟩
 ·unfold aK;rw[DV];refine⟨xs.take (i*7)++news++xs.drop (i*7),⟨yo.O,.inr ⟨g,cap,sD,rfl,yF,setRow_heap _ g kG sD _ _ Ay.O,by omega,by unfold maxLen;omega,Ar.O,lJ.O⟩⟩,?_⟩;have:=((HL.O.take i).append (bA.one Hx.O)).append (HL.O.drop i);rwa[show l.take i++[x]++l.drop i=l.take i++x::l.drop i by simp]at this
 ·have h0:w.grownBy w.drew (some g):=⟨rfl,rfl,rfl,Qn _,fun _ _ _=>rfl⟩;exact OW (OW h0 Al) Al
theorem Xh0(I:IH)(B g cap i:Nat)(l:List _)(x:_)(vb:Nat)(tb:TypeId)(news:List Value)(w:World)(hv:aK bQ 81 I w B (.slice (some ⟨g,0,none⟩) l.length cap) l)(hx:bQ.rd I news x)
 (nu:w.heap[vb]?=some (.cells news.toArray tb (0,0))) (hi:i<l.length) (ql:cap<l.length+1) (fO:(l.length+1)*112≤140737488355328) (hB:B≤w.heap.size):
 Calls Tryz.prog 88 #[.slice (some ⟨g,0,none⟩) l.length cap,.int .i64 i,.slice (some ⟨vb,0,none⟩) 1 1] w fun e w'=> ∃v',e= .returned v'∧aK bQ 81 I w' B v' (l.take i++x::l.drop i)∧w.grownBy w' (some g):=by
 obtain⟨i0,Gf,oV,ow,uD⟩:=info_parts QX;obtain⟨xs,⟨nD,bg⟩,hL⟩:=hv;rcases bg with⟨h0,_⟩|⟨g',cap',cur,h1,yF,hg,Ej,BC,fE,rQ⟩
 ·cases h0
 injection h1 with vJ h1b Oi
 injection vJ with vJ
 injection vJ with vJ
 subst vJ Oi;have dM:(Tryz.prog.info? 81).map (·.size)=some 7:=by rw[Gf];simp[ow]
 have yn:news.length=7:=bQ.len hx;have CP:=bQ.one hx;have uR:xs.length=l.length*7:=nD;have kI:cur.size=cap*7:=fE;have mr:cur.toList.take xs.length=xs:=by rw[nD];exact rQ
 have hgw:g<w.heap.size:=(Qg hg);have hvw:vb<w.heap.size:=(Qg nu);have qB:∀(j:Nat) u,xs[j]?=some u→w.cell? ⟨g,j,none⟩=some u:=fun j u hj=>by
  rw[←mr,List.getElem?_take]at hj;split at hj
  ·rw[cell_of_row w g _ cur _ _ hg,←Array.getElem?_toList];exact hj
  ·cases hj
 have hold:(Builtin.firstCells i0.size i (.slice (some ⟨g,0,none⟩) i cap)).run Tryz.prog w.drew= .ok (xs.take (i*7)).toArray w.drew:=
  run_firstCells_some w.drew i0.size i ⟨g,0,none⟩ i cap (xs.take (i*7)) (by rw[ow,List.length_take];omega) (fun j u hj=>by
   rw[Addr.add_lit,Nat.zero_add];rw[List.getElem?_take]at hj;split at hj
   ·exact qB j u hj
   ·cases hj)
 obtain⟨G,hG⟩:∃G,G=grownCap w (l.length+1) cap 81:=⟨_,rfl⟩;have hGn:l.length+1≤G:=by rw[hG];exact grownCap_ge w _ _ _
 have abF:G≤9223372036854775807:=by
  have:=grownCap_le_maxLen w (l.length+1) cap 81 (by unfold maxLen;omega);rw[←hG]at this;unfold maxLen at this;omega
 obtain⟨z,hz⟩:∃z,i0.zero=some z:=⟨_,oV⟩;have TH:z.cells.size=7:=by rw[hz]at oV;cases oV;rfl
 obtain⟨ROW,yt⟩:∃ROW:Array Value,ROW=(xs.take (i*7)).toArray++Builtin.zeroCells z.cells (l.length+1-i)++Builtin.zeroCells z.cells (G-(l.length+1)):=⟨_,rfl⟩;have hRs:ROW.size=G*7:=by
  rw[yt,Array.size_append,Array.size_append,size_zeroCells,size_zeroCells,TH];simp;omega
 have QR:ROW.toList.take (i*7)=xs.take (i*7):=by
  rw[yt,Array.toList_append,Array.toList_append,List.append_assoc,List.take_append_of_le_length (by simp;omega),List.take_of_length_le (by simp;omega)]
 have TI:∀ty,(Builtin.append_ #[37,3] ty #[.slice (some ⟨g,0,none⟩) i cap,.int .i64 ((l.length:Int)+1-(i:Int))]).run Tryz.prog w=
  .ok (.slice (some ⟨w.heap.size,0,none⟩) (l.length+1) G) (w.drew.alloc (.cells ROW 81)):=fun ty=>by
  have h:=Lib.run_append_grow_zeros w 37 3 ty 81 i0 z .i64 .i64 Tryz.underlying37 Tryz.underlying3 Gf hz (some ⟨g,0,none⟩) i cap (xs.take (i*7)) hold (l.length+1-i) (by omega) (by rw[ow];omega) (by omega) (by omega) (by rw[uD];omega) (by rw[uD,show i+(l.length+1-i)=l.length+1 by omega];exact growslice_fits ql fO);rw[show i+(l.length+1-i)=l.length+1 by omega,←hG,←yt]at h;rw[show(l.length:Int)+1-(i:Int)=((l.length+1-i:Nat):Int) by omega];exact h
 obtain⟨jF,rX⟩:∃c,c=over ROW (i*7) news:=⟨_,rfl⟩;have rU:jF.size=ROW.size:=by rw[rX];exact DZ _ _ _ (by omega)
 obtain⟨pI,rY⟩:∃c,c=over jF (i*7+7) (xs.drop (i*7)):=⟨_,rfl⟩;have xq:pI.size=jF.size:=by rw[rY];exact DZ _ _ _ (by rw[List.length_drop];omega)
 have jH:pI.toList.take ((l.length+1)*7)=xs.take (i*7)++news++xs.drop (i*7):=by
  have:=Xho ROW xs news (i*7) 7 (by omega) QR yn (by omega);rw[←rX,←rY]at this;rw[show(l.length+1)*7=xs.length+7 by omega];exact this
 obtain⟨W1,uJ⟩:∃W1,W1=w.drew.alloc (.cells ROW 81):=⟨_,rfl⟩;have Oj:W1.heap[w.heap.size]?=some (.cells ROW 81 (0,0)):=by rw[uJ];exact heap_alloc_new w.drew _
 have Ol:∀b,b<w.heap.size→W1.heap[b]?=w.heap[b]? :=fun b hb=>by rw[uJ];exact Below.heap_alloc w.drew _ b hb
 rw[←uJ]at TI;have Om:∀ty dc,(Builtin.copy_ #[37,37] ty #[.slice (some ⟨w.heap.size,i*7,none⟩) (l.length+1-i) dc,.slice (some ⟨vb,0,none⟩) 1 1]).run Tryz.prog W1= .ok (goInt 1) (W1.setRow w.heap.size jF):=fun ty dc=>by
  have h:=Gn (P:=Tryz.prog) W1 37 37 ty 81 7 w.heap.size (i*7) (l.length+1-i) dc ⟨vb,0,none⟩ 1 1 ROW 81 news Tryz.underlying37 dM Oj (by rw[yn];simp only[Nat.min_def];split<;>omega)
   (fun j u hj=>by
     rw[Addr.add_lit,Nat.zero_add,cell_of_row _ vb j _ _ _ ((Ol vb hvw).trans nu)];simpa using hj) (by omega) CP
  rw[h,show Nat.min 1 (l.length+1-i)=1 by simp only[Nat.min_def];split<;>omega,rX];rfl
 have Mi:(W1.setRow w.heap.size jF).heap[w.heap.size]?=some (.cells jF 81 (0,0)):=setRow_heap W1 w.heap.size ROW jF _ _ Oj;have Oo:∀ty dc sc,(Builtin.copy_ #[37,37] ty #[.slice (some ⟨w.heap.size,(i+1)*7,none⟩) (l.length-i) dc,.slice (some ⟨g,i*7,none⟩) (l.length-i) sc]).run Tryz.prog (W1.setRow w.heap.size jF).drew= .ok (goInt ((l.length-i:Nat):Int)) ((W1.setRow w.heap.size jF).drew.setRow w.heap.size pI):=fun ty dc sc=>by
  have h:=Gn (P:=Tryz.prog) (W1.setRow w.heap.size jF).drew 37 37 ty 81 7 w.heap.size ((i+1)*7) (l.length-i) dc ⟨g,i*7,none⟩ (l.length-i) sc jF 81 (xs.drop (i*7)) Tryz.underlying37 dM Mi (by rw[List.length_drop];simp only[Nat.min_def];split<;>omega)
   (fun j u hj=>by
     rw[Addr.add_lit];rw[List.getElem?_drop]at hj;have hgg:(W1.setRow w.heap.size jF).heap[g]?=some (.cells cur 81 (0,0)):=by rw[setRow_other _ _ _ _ (by omega),Ol g hgw];exact hg
     rw[World.cell?_drew,cell_of_row _ g _ cur _ _ hgg,←cell_of_row w g _ cur _ _ hg];exact qB _ u hj) (by rw[List.length_drop];omega) (fun u hu=>hL.oneCell u (List.mem_of_mem_drop hu))
  rw[h,show Nat.min (l.length-i) (l.length-i)=l.length-i by simp only[Nat.min_def];split<;>omega,rY];rw[show(i+1)*7=i*7+7 by omega];rfl
 have yo:=Qh (show(xs.take (i*7)++news++xs.drop (i*7)).length=(l.length+1)*7 by simp;omega);have Ar:=Qh (show pI.size=G*7 by omega);have lJ:=Qh jH;have HL:=Qh hL;have Hx:=Qh hx;have Yo:=Qh Mi;have HW1:=Qh uJ;have aD:¬(G=i+1):=by omega
 have aL:¬(G=i):=by omega
 have dX:¬(cap=i):=by omega
 clear jH hL hx Mi Oj rX rY yt hRs QR nD uR fE kI rQ mr yn CP nu BC hg hold qB Ol uJ hG hz oV TH rU xq;have wL:IntKind.i64.wrap ((i:Int)+1)=(i:Int)+1:=IntWalk.i64_in _ (by omega);have Es:0≤(i:Int)+1:=by omega
 have qP:((i:Int)+1).toNat=i+1:=by omega
 have GX:i≤l.length:=by omega
 have Ki:(i:Int)≤(l.length:Int)+1:=by omega
 go_enter Tryz.func88,Tryz.ntmps88
 go_wp2_with (first
  |(at_builtin;refine Lib.wpList_append_run _ rfl _ _ _ _ rfl _ _ rfl rfl _ _ (TI _) ?_)
  |(at_builtin;refine wpList_copy_runI _ rfl _ _ 37 37 rfl _ _ rfl rfl (Om _ _) ?_))
 go_region_law (refine step_copy_runI rfl _ _ 37 37 rfl _ _ (by simp[Act.eval,Act.put]) (by simp[Act.eval,Act.put]) (Oo _ _ _) ?_)
 go_wp2;go_ret;have DV:(l.take i++x::l.drop i).length=l.length+1:=by simp;omega
 refine⟨_,rfl,?_,?_⟩
 ·unfold aK;rw[DV];refine⟨xs.take (i*7)++news++xs.drop (i*7),⟨yo.O,.inr ⟨w.heap.size,G,pI,rfl,hB,setRow_heap _ w.heap.size jF pI _ _ Yo.O,hGn,by unfold maxLen;omega,Ar.O,lJ.O⟩⟩,?_⟩;have:=((HL.O.take i).append (bA.one Hx.O)).append (HL.O.drop i);rwa[show l.take i++[x]++l.drop i=l.take i++x::l.drop i by simp]at this
 ·rw[HW1.O];exact⟨rfl,rfl,rfl,by simp,fun k hk _=>by
   rw[setRow_other _ _ _ _ (by omega)];show((w.drew.alloc (.cells ROW 81)).setRow w.heap.size jF).heap[k]?=_;rw[setRow_other _ _ _ _ (by omega)];exact Below.heap_alloc w.drew _ k hk⟩
theorem Xp1(I:IH)(B:Nat)(v:Value)(l:List _)(x:_)(vb i:Nat)(tb:TypeId)(news:List Value)(w:World)(hv:aK bQ 81 I w B v l)(hx:bQ.rd I news x)
 (nu:w.heap[vb]?=some (.cells news.toArray tb (0,0))) (bn:v.ownBlock≠some vb) (hi:i≤l.length) (fO:(l.length+1)*112≤140737488355328) (hB:B≤w.heap.size):
 Calls Tryz.prog 88 #[v,.int .i64 i,.slice (some ⟨vb,0,none⟩) 1 1] w fun e w'=> ∃v',e= .returned v'∧aK bQ 81 I w' B v' (l.take i++x::l.drop i)∧w.grownBy w' v.ownBlock:=by
 by_cases he:i=l.length
 ·subst he;rw[List.take_length,List.drop_length];exact Xio I B v l x vb news w hv hx (fun j u hj=>by rw[cell_of_row w vb j _ _ _ nu];simpa using hj) fO hB
 ·have lU:∃g cap,v= .slice (some ⟨g,0,none⟩) l.length cap∧cap≤maxLen:=by
   obtain⟨xs,⟨_,bg⟩,_⟩:=hv;rcases bg with⟨_,h⟩|⟨g,cap,cur,h1,_,_,_,h3,_⟩
   ·omega
   ·exact⟨g,cap,h1,h3⟩
  obtain⟨g,cap,rfl,fJ⟩:=lU;by_cases hr:l.length+1≤cap
  ·exact Xgk I B g cap i l x vb tb news w hv hx nu (fun e=>bn (by rw[e];rfl)) (by omega) hr (by unfold maxLen at fJ;omega)
  ·exact Xh0 I B g cap i l x vb tb news w hv hx nu (by omega) (by omega) fO hB
theorem Xmo(w:World)(t e ty:TypeId)(z:Value)(ht:P.underlying t=some (.slice e))(hv:∀w,(zeroValue e).run P w= .ok z w)(g o n c:Nat)(h1:∀u∈(Builtin.zeroCells z.cells n).toList,u.oneCell'=true)(hn:0<n)(cur:Array Value)(tt:TypeId)
 (hg:w.heap[g]?=some (.cells cur tt (0,0))) (nN:o+n*z.cells.size≤cur.size):
 (Builtin.clear_ #[t] ty #[.slice (some ⟨g,o,none⟩) n c]).run P w= .ok (.tuple #[]) (w.setRow g (cur.toList.take o++(Builtin.zeroCells z.cells n).toList++cur.toList.drop (o+n*z.cells.size)).toArray):=by
 have hl:(Builtin.zeroCells z.cells n).toList.length=n*z.cells.size:=by rw[Array.length_toList,size_zeroCells]
 have jk:=run_storeCells_at (P:=P) g o tt (Builtin.zeroCells z.cells n).toList 0 cur w hg (by rw[hl];omega) h1;rw[hl]at jk;simp only[Nat.add_zero]at jk;obtain⟨m,rfl⟩:∃m,n=m+1:=⟨n-1,by omega⟩;simp[Builtin.clear_,run_underlying ht,hv,jk]
theorem Yq{ops:Array Oper}{rest:List Oper}{op:Oper}{a:Act}{Q:Exit→Act→World→Prop}(yg:op.guard=none)(ty:TypeId)(x y:Operand)(ho:op.op= .store ty x y)
 (g o:Nat) (cs:List Value) (hx:a.eval x= .pointer (some ⟨g,o,none⟩)) (hy:a.eval y= .agg cs.toArray) (cur:Array Value) (tt:TypeId)
 (hg:w.heap[g]?=some (.cells cur tt (0,0))) (nN:o+cs.length≤cur.size) (hi:(P.info? ty).map (·.size)=some cs.length) (h1:∀v∈cs,v.oneCell'=true)
 (h:wpList P ops Q rest (a.put op.dst undef) (w.setRow g (over cur o cs))):wpList P ops Q (op::rest) a w:=by
 refine wpList_plain yg fun _ hK=> ?_;have jk:=run_storeCells_at (P:=P) g o tt cs 0 cur w hg (by simpa using nN) h1;have hsv:(storeVar ty ⟨g,o,none⟩ (.agg cs.toArray)).run P w= .ok () (w.setRow g (over cur o cs)):=by
  cases hq:P.info? ty with
  |none=>simp[hq]at hi
  |some i=>
   have hs:cs.length=i.size:=by simp[hq]at hi;omega
   simp only[Nat.add_zero]at jk;simp[storeVar,sizeOf,typeInfo,hq,Value.cells,hs,jk,over]
 unfold Oper.wp execOp;simp only[ho,hx,hy,Instr.storeAt,Instr.sureAddr,Sem.run_bind,Sem.run_pure,Result.andThen_ok,hsv];exact hK _ _ h
theorem Xrk(cur:Array Value)(o m:Nat)(cs:List Value)(h:o+cs.length≤m)(ho:o≤cur.size):(over cur o cs).toList.drop m=cur.toList.drop m:=by
 simp only[over];rw[List.drop_append,List.drop_eq_nil_of_le (by simp;omega),List.nil_append,List.drop_drop];congr 1;simp;omega
theorem Yr{B:Nat}{w':World}{r:Option Nat}(h:Below B w w')(hB:w.heap.size≤B):w.grownBy w' r:=
 ⟨h.os,h.tape,h.output,h.size,fun k hk _=>h.block k (by omega)⟩
structure sG (I:IH) (gb:Nat) (cur:Array Value) (w0:World) (F:List aT) (j:Nat) (X:World):Prop where
 nG:∃arr,X.heap[gb]?=some (.cells arr 81 (0,0))∧arr.size=cur.size∧bA bQ I (arr.toList.take (F.length*7)) F∧arr.toList.drop (j*7)=cur.toList.drop (j*7)
 grown:w0.grownBy X (some gb)
section
variable {I:IH} {gb j:Nat} {cur:Array Value} {w0 X X':World} {F:List aT}
theorem sG.pass(h:sG I gb cur w0 F j X)(hb:Below X.heap.size X X'):sG I gb cur w0 F j X':=by
 obtain⟨arr,h1,h2⟩:=h.nG;have hlt:gb<X.heap.size:=(Qg h1);refine⟨⟨arr,(hb.block _ hlt).trans h1,h2⟩,?_⟩;exact⟨hb.os.trans h.grown.os,hb.tape.trans h.grown.tape,hb.output.trans h.grown.output,Nat.le_trans h.grown.size hb.size,fun k hk bn=>(hb.block k (Nat.lt_of_lt_of_le hk h.grown.size)).trans (h.grown.block k hk bn)⟩
theorem sG.next(h:sG I gb cur w0 F j X):sG I gb cur w0 F (j+1) X:=by
 obtain⟨arr,h1,h2,h3,h4⟩:=h.nG;refine⟨⟨arr,h1,h2,h3,?_⟩,h.grown⟩;rw[show(j+1)*7=j*7+7 by omega,←List.drop_drop,h4,List.drop_drop]
theorem sG.put{arr:Array Value}(h:sG I gb cur w0 F j X)(h1:X.heap[gb]?=some (.cells arr 81 (0,0)))(x:aT)(cs:List Value)(fE:bQ.rd I cs x)(hF:F.length≤j)(hj:j*7+7≤cur.size):
 sG I gb cur w0 (F++[x]) (j+1) (X.setRow gb (over arr (F.length*7) cs)):=by
 obtain⟨al9,Ei,h2,h3,h4⟩:=h.nG;rw[h1]at Ei;cases Ei;have dC:cs.length=7:=bQ.len fE;refine⟨⟨_,setRow_heap _ _ _ _ _ _ h1,by rw[DZ _ _ _ (by omega),h2],?_,?_⟩,OW h.grown Al⟩
 ·rw[List.length_append,List.length_singleton,show(F.length+1)*7=F.length*7+cs.length by omega,Xq _ _ _ (by omega)];exact h3.append (bA.one fE)
 ·rw[Xrk _ _ _ _ (by omega) (by omega),show(j+1)*7=j*7+7 by omega,←List.drop_drop,h4,List.drop_drop]
theorem sG.cell(h:sG I gb cur w0 F j X)(q:Nat)(hq:j*7≤q):X.cell? ⟨gb,q,none⟩=cur[q]? :=by
 obtain⟨arr,h1,h2,h3,h4⟩:=h.nG;rw[cell_of_row X gb q _ _ _ h1,←Array.getElem?_toList,←Array.getElem?_toList];have e1:=congrArg (fun L=>L[q-j*7]?) h4;simp only[List.getElem?_drop]at e1;rwa[show j*7+(q-j*7)=q by omega]at e1
end
theorem Xum:∀w,(zeroValue 81).run Tryz.prog w= .ok (.agg bH) w:=Tryz.zeroValue81
theorem Xls(n:Nat):∀u∈(Builtin.zeroCells (Value.agg bH).cells n).toList,u.oneCell'=true:=by
 intro u hu;simp only[Builtin.zeroCells,Value.cells]at hu;rw[Array.mem_toList_iff,Array.mem_map]at hu;obtain⟨i,_,rfl⟩:=hu;have h7:i%bH.size<7:=Nat.mod_lt _ (by decide);rcases(show i%bH.size=0∨i%bH.size=1∨i%bH.size=2∨i%bH.size=3∨i%bH.size=4∨i%bH.size=5∨i%bH.size=6 by omega)with h|h|h|h|h|h|h<;>rw[h]<;>rfl
theorem Xdv(I:IH)(B:Nat)(v:Value)(l:List aT)(w:World)(hv:aK bQ 81 I w B v l)(hn:l.length≤1000000)(g:Nat)(cb:Array Value)(p:aT→Bool)(hw:Ok I w)(hI:∀b,B≤b→I b=none)(_hB:B≤w.heap.size)(eg:∀args w,(callFunc g args).run Tryz.prog w= .ok (.enter g args) w)(hp:yU g cb l p (fun W=>w.grownBy W v.ownBlock)):
 Calls Tryz.prog 82 #[v,.func (.func g) #[] cb] w fun e w'=> ∃v',e= .returned v'∧aK bQ 81 I w' B v' (l.filter fun x=> !(p x))∧w.grownBy w' v.ownBlock:=by
 obtain⟨I',jC,ku,lX,hI4⟩:=hv.freeze hw hI;have QY:yU g cb l p (Below w.heap.size w):=fun x hx a1 a2 c1 c2 W hW=>hp x hx a1 a2 c1 c2 W (Yr hW (Qn _));have hlen:=lX.bF;have Hp:=Qh hp;have Df:=Qh (Xej I' v l lX g cb p w ku eg QY);have Heg:=Qh eg;have HI3:=Qh lX;have Hv:=Qh hv;clear hp QY eg lX;have pY:∃ao cap,v= .slice ao l.length cap∧cap≤9223372036854775807:=by
  obtain⟨ao,cap,e,_,fJ,_⟩:=id HI3.O;exact⟨ao,cap,e,by unfold maxLen at fJ;omega⟩
 obtain⟨ao,cap,rfl,fJ⟩:=pY;rcases LZ l p with⟨i,hi,e1,e2,e3⟩|⟨e1,e2⟩
 ·have aS:∃gb cur,ao=some ⟨gb,0,none⟩∧B≤gb∧w.heap[gb]?=some (.cells cur 81 (0,0))∧l.length≤cap∧cur.size=cap*7∧bA bQ I (cur.toList.take (l.length*7)) l:=by
   obtain⟨xs,⟨_,h1⟩,hL⟩:=Hv.O;rcases h1 with⟨_,h0⟩|⟨gb,cap',cur,e,r1,r2,r3,r4,r5,r6⟩
   ·omega
   ·cases e;refine⟨gb,cur,rfl,r1,r2,r3,r5,?_⟩;have r6':cur.toList.take (l.length*7)=xs:=r6;rw[r6'];exact hL
  obtain⟨gb,cur,rfl,yF,sF,JH,fE,hL⟩:=aS;rw[e1]at Df;have ng:((i:Int)== -1)=false:=by rw[beq_eq_false_iff_ne];omega
  have Yt:((l.take (i+1)).filter fun x=> !(p x))=l.take i:=by
   rw[List.take_succ_eq_append_getElem hi,List.filter_append];have:((l.take i).filter fun x=> !(p x))=l.take i:=List.filter_eq_self.2 fun x hx=>by
    cases hpx:p x with
    |false=>rfl
    |true=>rw[List.any_eq_true.2 ⟨x,hx,hpx⟩]at e3;exact absurd e3 (by simp)
   rw[this];simp[e2]
  have lV:∀j (h:j<l.length),∃a1 a2 c1 c2,aZ lD I (.slice a1 l[j].aj.length c1) l[j].aj∧aZ lY I (.slice a2 l[j].aA.length c2) l[j].aA∧ ∀q u,(dI l[j] (.slice a1 l[j].aj.length c1) (.slice a2 l[j].aA.length c2))[q]?=some u→cur[j*7+q]?=some u:=by
   intro j hj;obtain⟨cs,⟨va,vx,fE,h1,h2⟩,hc⟩:=hL.2 j hj;obtain⟨a1,c1,rfl,_,_,_⟩:=id h1;obtain⟨a2,c2,rfl,_,_,_⟩:=id h2;refine⟨a1,a2,c1,c2,h1,h2,fun q u hu=> ?_⟩;have h3:=hc q u (by rw[fE];exact hu);have hs:bQ.size=7:=rfl;rw[hs,List.getElem?_take]at h3;split at h3
   ·rw[←Array.getElem?_toList];exact h3
   ·cases h3
  have QZ:=Qh lV;have hm0:∀X,Below w.heap.size w X→sG I gb cur w ((l.take (i+1)).filter fun x=> !(p x)) (i+1) X:=by
   intro X hX;have hlt:gb<w.heap.size:=(Qg sF);refine⟨⟨cur,(hX.block _ hlt).trans sF,rfl,?_,rfl⟩,Yr hX (Qn _)⟩;rw[Yt,List.length_take,Nat.min_eq_left (by omega)];have:=hL.take i;have hs:bQ.size=7:=rfl;rwa[hs,List.take_take,Nat.min_eq_left (by omega)]at this
  have Mj:=Qh hm0;have Yu:((l.take (i+1)).filter fun x=> !(p x)).length=i:=by rw[Yt,List.length_take];omega
  have Yv:=Qh Yu;have yx:(Tryz.prog.info? 81).map (·.size)=some 7:=by kernel_rfl
  have Kr:=Qh yx;clear e1 e2 e3 Yt lV hm0 Yu hL sF hI4 hv yx;go_enter Tryz.func82,Tryz.ntmps82
  go_wp2_with fail
  refine Df.O.mono ?_;rintro e w1 ⟨rfl,aD⟩;have Kb:=Qh (Mj.O w1 aD);clear aD Mj;go_wp2_with fail
  go_loopw [5,6] (fun s5 s6 X=> ∃(j:Nat) (F:List aT),i+1≤j∧j≤l.length∧s6= .int .i64 j∧s5= .int .i64 F.length∧F.length<j∧F=((l.take j).filter fun x=> !(p x))∧sG I gb cur w F j X) (fun _ j _=>l.length-(intOf j).toNat)
  case atStart=>exact⟨i+1,_,Qn _,hi,by go_num,by rw[Yv.O],by rw[Yv.O];omega,rfl,Kb.O⟩
  case round=>
   clear Kb Yv;obtain⟨j,F,PG,xk,rfl,rfl,hFj,hF,hm⟩:=hrel;have HF:=Qh hF;have Hm:=Qh hm;clear hF hm;by_cases hlt:j<l.length
   ·obtain⟨a1,a2,c1,c2,h1,h2,hc⟩:=QZ.O j hlt;obtain⟨x,dA⟩:∃x,l[j]=x:=⟨_,rfl⟩;have CQ:x∈l:=by rw[←dA];exact List.getElem_mem hlt
    rw[dA]at h1 h2 hc;have vH:=(Hm.O.cell (j*7) (Qn _)).trans (hc 0 _ rfl);have uG:=(Hm.O.cell (j*7+1) (by omega)).trans (hc 1 _ rfl);have yj:=(Hm.O.cell (j*7+2) (by omega)).trans (hc 2 _ rfl);have Ot:=(Hm.O.cell (j*7+3) (by omega)).trans (hc 3 _ rfl);have hc4:=(Hm.O.cell (j*7+4) (by omega)).trans (hc 4 _ rfl);have hc5:=(Hm.O.cell (j*7+5) (by omega)).trans (hc 5 _ rfl);have hc6:=(Hm.O.cell (j*7+6) (by omega)).trans (hc 6 _ rfl);have H12:=Qh (show bQ.rd I (dI x (.slice a1 x.aj.length c1) (.slice a2 x.aA.length c2)) x from⟨_,_,rfl,h1,h2⟩);have bu:=Qh (show((l.take (j+1)).filter fun x=> !(p x))=F++(if p x then []else [x]) by
     rw[List.take_succ_eq_append_getElem hlt,dA,List.filter_append,←HF.O];cases h:p x<;>simp[h])
    have kX:=Qh (Hp.O x CQ a1 a2 c1 c2);clear dA hc CQ h1 h2;have eg:=Heg.O;go_wp2_with fail
    have Yw:=Hm.O.pass ((Qb _ wr).alloc (Qn _) (.cells #[.int .i64 x.au,S x.ag,.slice a1 x.aj.length c1,S x.target,.int .i64 x.size,S x.av,.slice a2 x.aA.length c2] 81));refine(kX.O _ Yw.grown).mono ?_;rintro e w4 ⟨rfl,aR⟩;obtain⟨d0,d1,d2,d3,d4,d5,d6⟩:=dx rfl aR;have Ch:=Qh (Yw.pass aR);have dJ:gb<w4.heap.size:=by
     obtain⟨arr,h1,_⟩:=Ch.O.nG;exact(Qg h1)
    clear Yw aR vH uG yj Ot hc4 hc5 hc6 eg;cases hpx:p x
    ·have iL:=Qh (show F++[x]=((l.take (j+1)).filter fun x=> !(p x)) by rw[bu.O,hpx];simp);obtain⟨arr,GZ,Bu,_⟩:=Ch.O.nG;have Mk:=Qh GZ;have nN:F.length*7+7≤arr.size:=by omega
     have Yu:F.length<l.length:=by omega
     clear hpx GZ Bu;go_wp2_with (refine Yq rfl 81 _ _ rfl gb (F.length*7) (dI x (.slice a1 x.aj.length c1) (.slice a2 x.aA.length c2)) (by simp[Act.eval]) rfl arr 81 Mk.O nN Kr.O (bQ.one H12.O) ?_)
     go_roundw;case rel=>exact⟨j+1,F++[x],by omega,by omega,by go_num,(by rw[List.length_append,List.length_singleton];go_num),(by rw[List.length_append,List.length_singleton];omega),iL.O,Ch.O.put Mk.O x _ H12.O (by omega) (by omega)⟩
     case measure=>simp[intOf];omega
    ·have iL:=Qh (show F=((l.take (j+1)).filter fun x=> !(p x)) by rw[bu.O,hpx];simp);clear hpx;go_wp2;go_roundw;case rel=>exact⟨j+1,F,by omega,by omega,by go_num,rfl,by omega,iL.O,Ch.O.next⟩
     case measure=>simp[intOf];omega
   ·have Q0:j=l.length:=by omega
    have HF2:=Qh (show F=l.filter fun x=> !(p x) by rw[HF.O,List.take_of_length_le (by omega)]);obtain⟨arr,GZ,Bu,L8,ha4⟩:=Hm.O.nG;have aei:F.length<l.length:=by omega
    have Ej:¬F.length=cap:=by omega
    have dC:=fun ty=>Xmo (P:=Tryz.prog) wr 37 81 ty _ Tryz.underlying37 Xum gb (F.length*7) (l.length-F.length) (cap-F.length) (Xls _) (by omega) arr 81 GZ (by show F.length*7+(l.length-F.length)*7≤arr.size;omega);have Yx:=Qh (show arr.size=cur.size∧bA bQ I (arr.toList.take (F.length*7)) F from⟨Bu,L8⟩);have Mk:=Qh GZ;have gI:=Hm.O.grown;clear GZ Bu L8 ha4 Q0;go_wp2_with fail
    go_ret;have Wp:(Builtin.zeroCells bH (l.length-F.length)).toList.length=(l.length-F.length)*7:=by rw[Array.length_toList,size_zeroCells];rfl
    obtain⟨Bu,L8⟩:=Yx.O;have uI:arr.toList.length=cap*7:=by rw[Array.length_toList,Bu,fE]
    rw[←HF2.O];refine⟨_,rfl,⟨_,⟨L8.1,.inr ⟨gb,cap,_,rfl,yF,setRow_heap _ _ _ _ _ _ Mk.O,by omega,by unfold maxLen;omega,?_,?_⟩⟩,L8⟩,OW gI Al⟩
    ·rw[List.size_toArray,List.length_append,List.length_append,Wp,List.length_take,List.length_drop,uI];show min (F.length*7) (cap*7)+((l.length-F.length)*7+(cap*7-(F.length*7+(l.length-F.length)*7)))=cap*7;omega
    ·show((arr.toList.take (F.length*7)++_).toArray).toList.take (F.length*7)=arr.toList.take (F.length*7);rw[List.toList_toArray,List.take_append_of_le_length (by rw[List.length_take,uI];omega),List.take_take,Nat.min_self]
 ·rw[e1]at Df;have Hf:=Qh (show(l.filter fun x=> !(p x))=l from List.filter_eq_self.2 fun x hx=>by
   cases hpx:p x with
   |false=>rfl
   |true=>rw[List.any_eq_true.2 ⟨x,hx,hpx⟩]at e2;exact absurd e2 (by simp))
  clear e1 e2 hv hI4;go_enter Tryz.func82,Tryz.ntmps82
  go_wp2_with fail
  refine Df.O.mono ?_;rintro e w1 ⟨rfl,aD⟩;go_wp2;go_ret;exact⟨_,rfl,by rw[Hf.O];exact Hv.O.below aD,Yr aD (Qn _)⟩
