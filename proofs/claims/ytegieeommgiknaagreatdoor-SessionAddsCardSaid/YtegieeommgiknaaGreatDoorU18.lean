/- Lemmas for the claim's theorem;conditions: as each says. -/
import Derived.Test.YtegieeommgiknaaGreatDoorU17
set_option maxHeartbeats 0
set_option maxRecDepth 100000
set_option linter.all false
namespace Go.Proofs.YtegieeommgiknaaGreatDoor
open Go.RowKit
variable{i:Nat}{D:DataW Unit}{s:bV}
theorem Xni(b:Nat)(s:af)(hs:s.length≤140737488355328)(w:World)(hc:w.cell? ⟨b,0,none⟩=some (S s))(qW:b<w.heap.size):
 Calls Tryz.prog 60 #[.slice (some ⟨b,0,none⟩) 1 1] w fun e w'=>e= .returned (S (dW s))∧Below w.heap.size w w':=
 Xpo b 0 1 [s] s (by simp) hs w (fun j x hx=>by match j,hx with|0,hx=>cases hx;exact hc) (by simp) qW (by simp)
structure qj (n m B bo:Nat) (C0:Array Value) (w0:World) (J:IH) (W:World) (q:ib) (lm:List Ck) (l:List Xt) (vk ve:Value) (nn:Nat):Prop where
 ro:W.heap[m]?=some (.cells #[vk,.int .i64 q.bg,S q.str] 43 (0,0))
 r0:W.heap[n]?=some (.cells C0 43 (0,0))
 r1:W.heap[n+1]?=some (.cells #[.slice none 0 0,.int .i64 0,S []] 43 (0,0))
 rm:∃D,W.ownsMap Tryz.prog 9 qi B nn D∧vG D lm
 rb:W.heap[bo]?=some (.cells #[ve] 61 (0,0))
 ck:aQ si 103 J W (n+2) vk q.aJ
 ox:aQ mU 65 J W (n+2) ve l
 ok:Ok J W
 fn:∀b,b=n∨b=n+1∨b=m∨b=B∨b=bo→J b=none
 fk:∀g,vk.ownBlock=some g→J g=none
 fe:∀g,ve.ownBlock=some g→J g=none
 NH:n+2≤m
 lB:n+2≤B
 lo:n+2≤bo
 hB:B<W.heap.size
 nw:n≤w0.heap.size
 eU:Below n w0 W
section
variable {n m B bo:Nat} {C0:Array Value} {w0:World} {J J':IH} {W W':World} {q q':ib} {lm lm2:List Ck} {l l':List Xt} {vk ve oo Co:Value} {nn:Nat}
theorem qj.lt(h:qj n m B bo C0 w0 J W q lm l vk ve nn):m<W.heap.size∧bo<W.heap.size∧n+1<W.heap.size:=⟨(Qg h.ro),(Qg h.rb),(Qg h.r1)⟩
theorem YU{W:World}{P:Program}{k:TypeId}{R:Value→Option (DataW Unit×List MemPlace)}{b nn:Nat}(h:W.ownsMap P k R b nn D){c:Array Value}{t:TypeId}{f:Nat×Nat}(hi:W.heap[i]?=some (.cells c t f)):i≠b:=by
 intro e;subst e;obtain⟨es,clock,hb,_⟩:=h;rw[hi]at hb;cases hb
theorem qj.mb(h:qj n m B bo C0 w0 J W q lm l vk ve nn):m≠bo:=fun e=>by
 have:=h.ro;rw[e,h.rb]at this;exact absurd (Obj.cells.inj (Option.some.inj this)).2.1 (by decide)
theorem qj.mB(h:qj n m B bo C0 w0 J W q lm l vk ve nn):m≠B∧bo≠B:=by
 obtain⟨D,h1,_⟩:=h.rm;exact⟨YU h1 h.ro,YU h1 h.rb⟩
theorem qj.zi(h:qj n m B bo C0 w0 J W q lm l vk ve nn):vk.ownBlock≠some m∧vk.ownBlock≠some bo∧vk.ownBlock≠some B∧(∀b,b<n+2→vk.ownBlock≠some b):=by
 refine⟨BR h.ck h.ro (by decide),BR h.ck h.rb (by decide),fun e=> ?_,fun b hb e=> ?_⟩
 ·obtain⟨D,h1,_⟩:=h.rm;obtain⟨_,cur,hc⟩:=wy h.ck e;exact YU h1 hc rfl
 ·have:=(wy h.ck e).1;omega
theorem qj.EQ(h:qj n m B bo C0 w0 J W q lm l vk ve nn):ve.ownBlock≠some m∧ve.ownBlock≠some bo∧ve.ownBlock≠some B∧(∀b,b<n+2→ve.ownBlock≠some b):=by
 refine⟨BR h.ox h.ro (by decide),BR h.ox h.rb (by decide),fun e=> ?_,fun b hb e=> ?_⟩
 ·obtain⟨D,h1,_⟩:=h.rm;obtain⟨_,cur,hc⟩:=wy h.ox e;exact YU h1 hc rfl
 ·have:=(wy h.ox e).1;omega
theorem qj.kv(h:qj n m B bo C0 w0 J W q lm l vk ve nn):vk.ownBlock=none∨vk.ownBlock≠ve.ownBlock:=by
 cases hk:vk.ownBlock with
 |none=>exact .inl rfl
 |some g=>
  refine .inr fun e=> ?_;obtain⟨_,c1,h1⟩:=wy h.ck hk;obtain⟨_,c2,h2⟩:=wy h.ox e.symm;rw[h1]at h2;exact absurd (Obj.cells.inj (Option.some.inj h2)).2.1 (by decide)
theorem qj.vkv(h:qj n m B bo C0 w0 J W q lm l vk ve nn):ve.ownBlock=none∨ve.ownBlock≠vk.ownBlock:=by
 rcases h.kv with h1|h1
 ·cases he:ve.ownBlock with
  |none=>exact .inl rfl
  |some g=>exact .inr (by rw[h1];simp)
 ·exact .inr fun e=>h1 e.symm
theorem qj.ext(h:qj n m B bo C0 w0 J W q lm l vk ve nn)(hb:Below W.heap.size W W')(hx:Ext W.heap.size J J')(iZ:Ok J' W'):qj n m B bo C0 w0 J' W' q lm l vk ve nn:=by
 obtain⟨l1,l2,l3⟩:=h.lt;have hk:=hx.keep h.ok (Qn _);have hs:=hb.size;obtain⟨D,d1,d2⟩:=h.rm;refine⟨(hb.block _ l1).trans h.ro,(hb.block _ (by omega)).trans h.r0,(hb.block _ l3).trans h.r1,⟨D,d1.kept (Xio hb) (by simp),d2⟩,(hb.block _ l2).trans h.rb,(h.ck.below hb).mono hk,(h.ox.below hb).mono hk,iZ,fun b vO=> ?_,fun g hg=> ?_,fun g hg=> ?_,h.NH,h.lB,h.lo,by have:=h.hB;omega,h.nw,h.eU.trans (hb.mono (by omega))⟩
 ·rw[hx b (by have:=h.hB;have:=h.NH;omega)];exact h.fn b vO
 ·rw[hx g ((wy h.ck hg).2.elim fun c hc=>(Qg hc))];exact h.fk g hg
 ·rw[hx g ((wy h.ox hg).2.elim fun c hc=>(Qg hc))];exact h.fe g hg
theorem qj.below(h:qj n m B bo C0 w0 J W q lm l vk ve nn)(hb:Below W.heap.size W W'):qj n m B bo C0 w0 J W' q lm l vk ve nn:=h.ext hb (Ext.refl _ _) (h.ok.below (Qn _) hb)
theorem qj.past(h:qj n m B bo C0 w0 J W q lm l vk ve nn)(o:Obj):qj n m B bo C0 w0 J (W.alloc o) q lm l vk ve nn:=h.below ((Qb _ _).alloc (Qn _) o)
theorem qj.mapped(h:qj n m B bo C0 w0 J W q lm l vk ve nn)(hg:W.grownBy W' (some B)){n2:Nat}(hD:W'.ownsMap Tryz.prog 9 qi B n2 D)(hM:vG D lm2):qj n m B bo C0 w0 J W' q lm2 l vk ve n2:=by
 obtain⟨l1,l2,l3⟩:=h.lt;have hb:=h.lB;have k:∀i,i<W.heap.size→i≠B→W'.heap[i]?=W.heap[i]? :=fun i hi bq=>hg.block i hi (fun e=>bq (by cases e;rfl))
 exact⟨(k _ l1 h.mB.1).trans h.ro,(k _ (by omega) (by omega)).trans h.r0,(k _ l3 (by omega)).trans h.r1,⟨D,hD,hM⟩,(k _ l2 h.mB.2).trans h.rb,h.ck.kept hg (.inr h.zi.2.2.1),h.ox.kept hg (.inr h.EQ.2.2.1),h.ok.grown hg (fun g e=>by cases e;exact h.fn _ (by simp)),h.fn,h.fk,h.fe,h.NH,h.lB,h.lo,by have:=h.hB;have:=hg.size;omega,h.nw,
  h.eU.grown hg (by omega) (fun i e=>by cases e;omega)⟩
theorem qj.added(h:qj n m B bo C0 w0 J W q lm l vk ve nn)(ho:aQ si 103 J W' (n+2) oo q'.aJ)(hg:W.grownBy W' vk.ownBlock)(hl:∀g,oo.ownBlock=some g→vk.ownBlock=some g∨W.heap.size≤g)(e1:q'.bg=q.bg)(e2:q'.str=q.str):
 qj n m B bo C0 w0 J (W'.setCell ⟨m,0,none⟩ oo) q' lm l oo ve nn:=by
 obtain⟨l1,l2,l3⟩:=h.lt;obtain⟨k1,k2,k3,k4⟩:=h.zi;have hm:=h.NH;have s:∀i,i≠m→(W'.setCell ⟨m,0,none⟩ oo).heap[i]?=W'.heap[i]? :=fun i hi=>heap_setCell_other W' ⟨m,0,none⟩ i oo hi;have k:∀i,i<W.heap.size→vk.ownBlock≠some i→W'.heap[i]?=W.heap[i]? :=fun i hi bq=>hg.block i hi (fun e=>bq e.symm);have r1:=(k m l1 k1).trans h.ro;obtain⟨D,d1,d2⟩:=h.rm;have d3:=d1.kept hg (fun e=>k3 e.symm);have gs:W'.grownBy (W'.setCell ⟨m,0,none⟩ oo) (some m):=grownBy_setCell' W' m oo;refine⟨by rw[e1,e2];exact heap_setCell_same W' m 0 _ _ oo r1,(s _ (by omega)).trans ((k _ (by omega) (k4 _ (by omega))).trans h.r0),(s _ (by omega)).trans ((k _ l3 (k4 _ (by omega))).trans h.r1),⟨D,d3.kept gs (fun e=>h.mB.1 (by cases e;rfl)),d2⟩,(s _ h.mb.symm).trans ((k _ l2 k2).trans h.rb),ho.stored (BR ho r1 (by decide)) 0 oo,?_,(h.ok.grown hg (fun g e=>h.fk g e)).setCell (a:=⟨m,0,none⟩) (h.fn m (by simp)) oo,h.fn,fun g hk=> ?_,h.fe,h.NH,h.lB,h.lo,by have:=h.hB;have:=hg.size;simp;omega,h.nw,?_⟩
 ·have ox1:=h.ox.kept hg h.vkv;exact ox1.stored (BR ox1 r1 (by decide)) 0 oo
 ·rcases hl g hk with h1|h1
  ·exact h.fk g h1
  ·exact h.ok.fresh h1
 ·exact(h.eU.grown hg (by omega) (fun i e=>by have:=(wy h.ck e).1;omega)).setCell (p:=⟨m,0,none⟩) (by show n≤m;omega) oo
theorem qj.wrote(h:qj n m B bo C0 w0 J W q lm l vk ve nn)(b:af):qj n m B bo C0 w0 J (W.setCell ⟨m,2,none⟩ (S b)) ⟨q.aJ,q.bg,b⟩ lm l vk ve nn:=by
 have hm:=h.NH;have s:∀i,i≠m→(W.setCell ⟨m,2,none⟩ (S b)).heap[i]?=W.heap[i]? :=fun i hi=>heap_setCell_other W ⟨m,2,none⟩ i (S b) hi;have gs:W.grownBy (W.setCell ⟨m,2,none⟩ (S b)) (some m):=⟨rfl,rfl,rfl,by simp,fun i _ hk=>s i (fun e=>hk (by rw[e]))⟩;obtain⟨D,d1,d2⟩:=h.rm;exact⟨heap_setCell_same W m 2 _ _ (S b) h.ro,(s _ (by omega)).trans h.r0,(s _ (by omega)).trans h.r1,⟨D,d1.kept gs (fun e=>h.mB.1 (by cases e;rfl)),d2⟩,(s _ h.mb.symm).trans h.rb,h.ck.stored h.zi.1 2 _,h.ox.stored h.EQ.1 2 _,h.ok.setCell (a:=⟨m,2,none⟩) (h.fn m (by simp)) _,h.fn,h.fk,h.fe,h.NH,h.lB,h.lo,by have:=h.hB;simp;omega,h.nw,h.eU.setCell (p:=⟨m,2,none⟩) (by show n≤m;omega) _⟩
theorem qj.PO(h:qj n m B bo C0 w0 J W q lm l vk ve nn)(hr:W'.heap[bo]?=some (.cells #[Co] 61 (0,0)))(ho:aQ mU 65 J W' (n+2) Co l')(hg:yj W W' ve.ownBlock bo)(hl:∀g,Co.ownBlock=some g→ve.ownBlock=some g∨W.heap.size≤g):qj n m B bo C0 w0 J W' q lm l' vk Co nn:=by
 obtain⟨l1,l2,l3⟩:=h.lt;obtain⟨k1,k2,k3,k4⟩:=h.EQ;have hb:=h.lo;have k:∀i,i<W.heap.size→ve.ownBlock≠some i→i≠bo→W'.heap[i]?=W.heap[i]? :=fun i hi bq Ml=>hg.block i hi (fun e=>bq e.symm) Ml;obtain⟨D,⟨es,clock,d1,d2⟩,d3⟩:=h.rm;refine⟨(k _ l1 k1 h.mb).trans h.ro,(k _ (by omega) (k4 _ (by omega)) (by omega)).trans h.r0,(k _ l3 (k4 _ (by omega)) (by omega)).trans h.r1,⟨D,⟨es,clock,(k _ h.hB k3 h.mB.2.symm).trans d1,d2⟩,d3⟩,hr,?_,ho,?_,h.fn,h.fk,fun g hk=> ?_,h.NH,h.lB,h.lo,Nat.lt_of_lt_of_le h.hB hg.size,h.nw,hg.below h.eU h.nw (fun g e=>by have:=(wy h.ox e).1;omega) (by omega)⟩
 ·obtain⟨xs,x1,x2⟩:=h.ck;refine⟨xs,⟨x1.1,?_⟩,x2⟩;rcases x1.2 with y|⟨g,cap,cur,y1,y2,y3,y4⟩
  ·exact .inl y
  ·have hvg:vk.ownBlock=some g:=by rw[y1];rfl
   refine .inr ⟨g,cap,cur,y1,y2,(k g (Qg y3) (fun e=> ?_) (fun e=>h.zi.2.1 (by rw[hvg,e]))).trans y3,y4⟩;rcases h.kv with z|z
   ·rw[hvg]at z;cases z
   ·exact z (by rw[hvg,e])
 ·refine h.ok.of_block fun b c hc=>k b (h.ok.lt hc) (fun e=> ?_) (fun e=> ?_)
  ·rw[h.fe b e]at hc;cases hc
  ·rw[e,h.fn bo (by simp)]at hc;cases hc
 ·rcases hl g hk with h1|h1
  ·exact h.fe g h1
  ·exact h.ok.fresh h1
end
structure Dz (s:bV):Prop where
 num:0≤s.num∧s.num≤255
 aA:0≤s.aA∧s.aA≤1000000000
 bE:s.bE.length≤32
 aU:s.aU.length≤14680064
 BO:s.aB.length≤400
 err:∀e∈s.aB,aX e=0
 wf:∀e∈s.aB,e.Wf
 aC:∀e∈s.aB,e.aC.length≤1000
theorem Xrv(h:Dz s):(rW s).length≤400:=by
 have h1:=Av (n:=s.num) (by have:=h.num;omega) (by have:=h.num;omega);have h2:=Av (n:=s.aA) (by have:=h.aA;omega) (by have:=h.aA;omega);have h3:=vD s.bE (by have:=h.bE;omega);have h4:=Gf s.aU.length (by have:=h.aU;omega);have h5:=PC s.aU;have h6:=vD (dW s.aU) (by omega);have h7:=Gf s.aB.length (by have:=h.BO;omega);have h8:=h.bE;unfold rW;simp only[List.length_append];omega
theorem Xos(h:Dz s)(k:Nat):(o7 s k).length≤22000000:=by
 have h1:=Xrv h;have h2:=Xph (l:=s.aB.take k) fun e he=>⟨R6 (h.err e (List.mem_of_mem_take he)),h.aC e (List.mem_of_mem_take he)⟩;have h3:(s.aB.take k).length≤s.aB.length:=by simp;omega
 have h4:=h.BO;unfold o7;rw[List.length_append];omega
abbrev YV(n:Nat)(st p4 sm p6 p7 u:af)(ao:Option Addr)(le co:Nat)(x:Nat×Nat):List (Option Tmp×Value):=
 [(some 20,.pointer (some ⟨n,4,none⟩)),(some 21,S st),(some 22,.int .i64 (st.length:Int)),(some 23,S p4),(some 24,.pointer (some ⟨n,4,none⟩)),(some 25,S st),(some 26,.slice (some ⟨x.1,0,none⟩) 1 1),(some 27,S sm),(some 28,S p6),(some 29,S (p4++p6)),
  (some 30,.pointer (some ⟨n,3,none⟩)),(some 31,.slice ao le co),(some 32,.int .i64 (le:Int)),(some 33,S p7),(some 34,S u),(some 35,.tuple #[.int .i64 (u.length:Int),.nilIface])]
theorem tT{n:Nat}{st p4 sm p6 p7 u:af}{ao:Option Addr}{le co:Nat}{x:Nat×Nat}:bC (YV n st p4 sm p6 p7 u ao le co x):=by
 unfold bC;simp
theorem Xro(I:IH)(hI:fG I)(s:bV)(ve:Value)(mG:aZ bM I ve s.aB)(hg:Dz s)(w:World)(hw:Ok I w):
 Calls Tryz.prog 51 #[nD s ve] w fun r w'=>r= .returned (S (dW (lu s)))∧Below w.heap.size w w':=by
 obtain⟨ao,co,rfl,_,_,_⟩:=id mG;have Hv:=Qh mG;have Hg:=Qh hg;have Mi:=hg.num;have hdt:=hg.aA;have adj:=hg.BO;have jO:=hg.aU;have hpv:=hg.bE;have F6:=Qh (fun k=>Xos hg k);have Az:=Av (n:=s.num) (by omega) (by omega);have Ky:=Av (n:=s.aA) (by omega) (by omega);have BL:=vD s.bE (by omega);have Lh:=Gf s.aU.length (by omega);have vL:=PC s.aU;have Dq:=vD (dW s.aU) (by omega);have hm6:=Gf s.aB.length (by omega);have H1:=Qh (fun w hw=>R8 I hI s.num (by omega) (by omega) w hw);have H2:=Qh (fun w hw=>R8 I hI s.aA (by omega) (by omega) w hw);have H3:=Qh (fun w hw=>RQ I hI s.bE (by omega) w hw);have H4:=Qh (fun w hw=>UJ I hI s.aU.length (by omega) w hw);have H5:=Qh (fun b w hc hb=>Xni b s.aU (by omega) w hc hb);have H6:=Qh (fun w hw=>RQ I hI (dW s.aU) (by omega) w hw);have H7:=Qh (fun w hw=>UJ I hI s.aB.length (by omega) w hw);have Hh:=Qh (show gm s.num++gm s.aA++fA s.bE++(gm s.aU.length++fA (dW s.aU)++gm s.aB.length)=o7 s 0 by
  rw[o7,List.take_zero];simp[rW])
 clear mG hg Mi hdt;generalize gm s.num=p1 at Az H1 Hh;generalize gm s.aA=p2 at Ky H2 Hh;generalize fA s.bE=p3 at BL H3 Hh;generalize gm (s.aU.length:Int)=p4 at Lh H4 Hh;generalize fA (dW s.aU)=p6 at Dq H6 Hh;generalize dW s.aU=sm at vL Dq H5 H6;generalize gm (s.aB.length:Int)=p7 at hm6 H7 Hh;obtain⟨T,hT⟩:∃T,dW (lu s)=T:=⟨_,rfl⟩;rw[hT];have HT:=Qh hT;clear hT;obtain⟨w1,nW⟩:∃w1,w.alloc (.cells #[.int .i64 s.num,.int .i64 s.aA,S s.bE,.slice ao s.aB.length co,S s.aU,S s.sl] 56)=w1:=⟨_,rfl⟩;have kJ:=Qh (show lD w1 w.heap.size s (.slice ao s.aB.length co) by rw[←nW];exact GD rfl (Qb _ _));have aO:Ok I w1:=by rw[←nW];exact hw.alloc _
 have aM:Below w.heap.size w w1:=by rw[←nW];exact(Qb w.heap.size w).alloc (Qn _) _
 have qC:Lib.IsBuilder 153 5 w1.heap.size w1.heap.size (Lib.byteCells []) (w1.alloc (.cells #[.pointer none,.slice none 0 0] 153)):=Lib.fresh_isBuilder _ _ w1;have Vs:w1.heap.size=w.heap.size+1:=by rw[←nW];simp
 have dJ:w.heap.size<w1.heap.size:=by omega
 have sU:∀b,w1.heap.size≤b→I b=none:=fun b hb=>aO.fresh hb;have Dw:=Qh (lD.past kJ.O (.cells #[.pointer none,.slice none 0 0] 153));have qh:Ok I (w1.alloc (.cells #[.pointer none,.slice none 0 0] 153)):=aO.alloc _;go_enter Tryz.func51,Tryz.ntmps51
 go_wp2_with fail
 rw[←Vs];clear Vs;obtain⟨c0,c1,c2,c3,c4,c5⟩:=Dw.O;have e0:=cell_regrown c0;have e1:=cell_regrown c1;have e2:=cell_regrown c2;clear c0 c1 c2 c3 c4 c5 kJ nW;refine zI 11 (by kernel_rfl) (by kernel_rfl) ?_;simp only[List.take_succ_cons,List.take_zero,List.drop_succ_cons,List.drop_zero];repeat(go_big_quiet_step ((with_reducible first|exact Calls.regrown_of (H1.O _ (qh.below (Qn _) (below_regrown _ _ _)))|exact Calls.regrown_of (H2.O _ (qh.below (Qn _) (below_regrown _ _ _)))|exact Calls.regrown_of (H3.O _ (qh.below (Qn _) (below_regrown _ _ _))))))
 refine wpQuiet_nil ?_;intro w2 bJ;have aL:Below ((w1.alloc (.cells #[.pointer none,.slice none 0 0] 153))).heap.size ((w1.alloc (.cells #[.pointer none,.slice none 0 0] 153))) w2:=by
  obtain⟨pq,rfl⟩:=bJ;exact below_regrown _ _ _
 clear bJ;have oZ:=IE qC aL;have bn:Ok I w2:=qh.below (Qn _) aL;have nX:=Qh (Dw.O.aR aL);have bH:Below w.heap.size w w2:=(aM.alloc (by have:=aM.size;omega) (.cells #[.pointer none,.slice none 0 0] 153)).trans (aL.mono (by simp;omega));have gJ:w1.heap.size≤w2.heap.size:=by have:=aL.size;simp at this;omega
 clear e0 e1 e2 aL Dw qC aO qh aM H1 H2 H3;go_wp2_with fail
 refine(Tryz.Builder_WriteString w1.heap.size w1.heap.size _ _ _ oZ (by rw[ByteArray.size_mk',List.size_toArray];simp[Lib.byteCells];omega) (by omega)).mono ?_;rintro e3 w3 ⟨rfl,PP,dO⟩;have oD:=PP.lt;have PQ:=Qh (Vb (z:=p1++p2++p3) PP (by simp));have fo:Ok I w3:=bn.of_block fun b c hb=>dO.block b (Nat.lt_of_not_le fun h=>by rw[sU b h]at hb;cases hb);have om:=Qh (nX.O.far dO dJ);have jg:=bH.trans (dO.mono (Nat.le_of_lt dJ));clear oZ PP dO bH bn nX gJ;obtain⟨c0,c1,c2,c3,c4,c5⟩:=om.O;go_wp2_with fail
 obtain⟨bl,qW⟩:∃bl,w1.heap.size=bl:=⟨_,rfl⟩;obtain⟨u,hu⟩:∃u,p4++(p6++p7)=u:=⟨_,rfl⟩;have d46:¬9223372036854775807<p4.length+p6.length:=by omega
 have d51:¬9223372036854775807<p4.length+p6.length+p7.length:=by omega
 have hul:u.length=p4.length+p6.length+p7.length:=by rw[←hu];simp;omega
 rw[List.append_assoc p4,hu]at Hh;rw[qW]at PQ sU dJ oD ⊢;refine qR (X:=Nat×Nat) (YV w.heap.size s.aU p4 sm p6 p7 u ao s.aB.length co) (yh w3 15 6 100 [(0,S s.aU)] [] (fun w8=>Lib.IsBuilder 153 5 bl bl (Lib.byteCells (o7 s 0)) w8∧bl<w8.heap.size∧ ∃w7,Below w3.heap.size w3 w7∧Below bl w7 w8)) (by kernel_rfl) (by kernel_rfl) ?_ ?_ ?_
 ·exact⟨(0,0),yh.start _ _⟩
 ·rintro x s' a' w' i bS bO ha hC hi;obtain⟨aH,oi,dI,au⟩:=mem_ready.1 hi;rcases i with _|_|_|_|_|_|_|_|_|_|_|_|_|_|_|_|i
  rotate_left 16
  ·simp at dI
  all_goals
   have dH:=dI;simp at dI;subst dI;simp[Region.binds]at au
  ·have e1:a'.tmps[1]?.getD undef= .pointer (some ⟨w.heap.size,0,none⟩):=oL ha (by simp);have hl:s'.getD 15 false=false:=gU bO [14,9,3,2,1,0] (by kernel_rfl) (by rfl) aH;refine wpOp_step dH (fun K' hK=> ?_);rw[if_pos (by rfl)];unfold Oper.wp;simp[go_sem,e1,Oper.upon];exact hK _ _ ⟨x,dS (d:=some 20) (v:=(.pointer (some ⟨w.heap.size,4,none⟩))) tT ha rfl aH,hC.step hl (Qb _ _) (by decide) (by decide) (by decide)⟩
  ·have e20:a'.tmps[20]?.getD undef= .pointer (some ⟨w.heap.size,4,none⟩):=gI (i:=0) tT ha rfl (by first|simpa using au|simpa using au.1) (by simp);have c4':=aV (hC.eU (gU bO [14,9,3,2,1] (by kernel_rfl) (by rfl) aH)) c4;have hl:s'.getD 15 false=false:=gU bO [14,9,3,2,1] (by kernel_rfl) (by rfl) aH;refine wpOp_step dH (fun K' hK=> ?_);rw[if_pos (by rfl)];unfold Oper.wp;simp[go_sem,e20,c4',Oper.upon];exact hK _ _ ⟨x,dS (d:=some 21) (v:=(S s.aU)) tT ha rfl aH,hC.step hl (Qb _ _) (by decide) (by decide) (by decide)⟩
  ·have e21:a'.tmps[21]?.getD undef=S s.aU:=gI (i:=1) tT ha rfl (by first|simpa using au|simpa using au.1) (by simp);have hl:s'.getD 15 false=false:=gU bO [14,9,3,2] (by kernel_rfl) (by rfl) aH;refine wpOp_step dH (fun K' hK=> ?_);rw[if_pos (by rfl)];unfold Oper.wp;simp[go_sem,e21,Oper.upon];exact hK _ _ ⟨x,dS (d:=some 22) (v:=(.int .i64 (s.aU.length:Int))) tT ha rfl aH,hC.step hl (Qb _ _) (by decide) (by decide) (by decide)⟩
  ·have e22:a'.tmps[22]?.getD undef= .int .i64 (s.aU.length:Int):=gI (i:=2) tT ha rfl (by first|simpa using au|simpa using au.1) (by simp);have hl:s'.getD 15 false=false:=gU bO [14,9,3] (by kernel_rfl) (by rfl) aH;have sG:=fo.below (Qn _) (hC.eU hl);refine wpOp_step dH (fun K' hK=> ?_);rw[if_pos (by rfl)];unfold Oper.wp;simp[go_sem,e22,Oper.upon];refine(H4.O w' sG).mono ?_;rintro r4 w4 ⟨rfl,aS⟩;exact hK _ _ ⟨x,dS (d:=some 23) (v:=(S p4)) tT ha rfl aH,hC.step hl aS (by decide) (by decide) (by decide)⟩
  ·have e1:a'.tmps[1]?.getD undef= .pointer (some ⟨w.heap.size,0,none⟩):=oL ha (by simp);have hl:s'.getD 15 false=false:=gU bO [14,9,8,7,6,5,4] (by kernel_rfl) (by rfl) aH;refine wpOp_step dH (fun K' hK=> ?_);rw[if_pos (by rfl)];unfold Oper.wp;simp[go_sem,e1,Oper.upon];exact hK _ _ ⟨x,dS (d:=some 24) (v:=(.pointer (some ⟨w.heap.size,4,none⟩))) tT ha rfl aH,hC.step hl (Qb _ _) (by decide) (by decide) (by decide)⟩
  ·have e24:a'.tmps[24]?.getD undef= .pointer (some ⟨w.heap.size,4,none⟩):=gI (i:=4) tT ha rfl (by first|simpa using au|simpa using au.1) (by simp);have c4':=aV (hC.eU (gU bO [14,9,8,7,6,5] (by kernel_rfl) (by rfl) aH)) c4;have hl:s'.getD 15 false=false:=gU bO [14,9,8,7,6,5] (by kernel_rfl) (by rfl) aH;refine wpOp_step dH (fun K' hK=> ?_);rw[if_pos (by rfl)];unfold Oper.wp;simp[go_sem,e24,c4',Oper.upon];exact hK _ _ ⟨x,dS (d:=some 25) (v:=(S s.aU)) tT ha rfl aH,hC.step hl (Qb _ _) (by decide) (by decide) (by decide)⟩
  ·have e25:a'.tmps[25]?.getD undef=S s.aU:=gI (i:=5) tT ha rfl (by first|simpa using au|simpa using au.1) (by simp);have hl:s'.getD 15 false=false:=gU bO [14,9,8,7,6] (by kernel_rfl) (by rfl) aH;have ha:=ha.trans (YH (L:=YV w.heap.size s.aU p4 sm p6 p7 u ao s.aB.length co x) (M:=YV w.heap.size s.aU p4 sm p6 p7 u ao s.aB.length co (w'.heap.size,x.2)) 6 rfl (fun j bq=>by
    rcases j with _|_|_|_|_|_|_|j<;>first|rfl|(exact absurd rfl bq)|simp) aH)
   refine wpOp_step dH (fun K' hK=> ?_);rw[if_pos (by rfl)];unfold Oper.wp;simp[go_sem,e25,Oper.upon];refine hK _ _ ⟨(w'.heap.size,x.2),dS (d:=some 26) (v:= .slice (some ⟨w'.heap.size,0,none⟩) 1 1) tT ha rfl aH,hC.at1 hl ((Qb _ _).alloc (Qn _) _) (by decide) (by decide) (fun p hp=> ?_)⟩;simp at hp;subst hp;simp
  ·have e26:a'.tmps[26]?.getD undef= .slice (some ⟨x.1,0,none⟩) 1 1:=gI (i:=6) tT ha rfl (by first|simpa using au|simpa using au.1) (by simp);have AA:=hC.f1 (by first|simpa using au|simpa using au.1) (gU bO [14,9,8,7] (by kernel_rfl) (by rfl) aH) _ (List.mem_singleton.2 rfl);have hl:s'.getD 15 false=false:=gU bO [14,9,8,7] (by kernel_rfl) (by rfl) aH;have sG:=fo.below (Qn _) (hC.eU hl);refine wpOp_step dH (fun K' hK=> ?_);rw[if_pos (by rfl)];unfold Oper.wp;simp[go_sem,e26,Oper.upon];refine(H5.O x.1 w' AA (block_lt_of_cell AA)).mono ?_;rintro r4 w4 ⟨rfl,aS⟩;exact hK _ _ ⟨x,dS (d:=some 27) (v:=(S sm)) tT ha rfl aH,hC.step hl aS (by decide) (by decide) (by decide)⟩
  ·have e27:a'.tmps[27]?.getD undef=S sm:=gI (i:=7) tT ha rfl (by first|simpa using au|simpa using au.1) (by simp);have hl:s'.getD 15 false=false:=gU bO [14,9,8] (by kernel_rfl) (by rfl) aH;have sG:=fo.below (Qn _) (hC.eU hl);refine wpOp_step dH (fun K' hK=> ?_);rw[if_pos (by rfl)];unfold Oper.wp;simp[go_sem,e27,Oper.upon];refine(H6.O w' sG).mono ?_;rintro r4 w4 ⟨rfl,aS⟩;exact hK _ _ ⟨x,dS (d:=some 28) (v:=(S p6)) tT ha rfl aH,hC.step hl aS (by decide) (by decide) (by decide)⟩
  ·have e23:a'.tmps[23]?.getD undef=S p4:=gI (i:=3) tT ha rfl (by simpa using au.1) (by simp);have e28:a'.tmps[28]?.getD undef=S p6:=gI (i:=8) tT ha rfl (by first|simpa using au.2|simpa using au.2.1) (by simp);have hl:s'.getD 15 false=false:=gU bO [14,9] (by kernel_rfl) (by rfl) aH;refine wpOp_step dH (fun K' hK=> ?_);rw[if_pos (by rfl)];unfold Oper.wp;simp[go_sem,e23,e28,d46,Oper.upon];exact hK _ _ ⟨x,dS (d:=some 29) (v:=(S (p4++p6))) tT ha rfl aH,hC.step hl (Qb _ _) (by decide) (by decide) (by decide)⟩
  ·have e1:a'.tmps[1]?.getD undef= .pointer (some ⟨w.heap.size,0,none⟩):=oL ha (by simp);have hl:s'.getD 15 false=false:=gU bO [14,13,12,11,10] (by kernel_rfl) (by rfl) aH;refine wpOp_step dH (fun K' hK=> ?_);rw[if_pos (by rfl)];unfold Oper.wp;simp[go_sem,e1,Oper.upon];exact hK _ _ ⟨x,dS (d:=some 30) (v:=(.pointer (some ⟨w.heap.size,3,none⟩))) tT ha rfl aH,hC.step hl (Qb _ _) (by decide) (by decide) (by decide)⟩
  ·have e30:a'.tmps[30]?.getD undef= .pointer (some ⟨w.heap.size,3,none⟩):=gI (i:=10) tT ha rfl (by first|simpa using au|simpa using au.1) (by simp);have c3':=aV (hC.eU (gU bO [14,13,12,11] (by kernel_rfl) (by rfl) aH)) c3;have hl:s'.getD 15 false=false:=gU bO [14,13,12,11] (by kernel_rfl) (by rfl) aH;refine wpOp_step dH (fun K' hK=> ?_);rw[if_pos (by rfl)];unfold Oper.wp;simp[go_sem,e30,c3',Oper.upon];exact hK _ _ ⟨x,dS (d:=some 31) (v:=(.slice ao s.aB.length co)) tT ha rfl aH,hC.step hl (Qb _ _) (by decide) (by decide) (by decide)⟩
  ·have e31:a'.tmps[31]?.getD undef= .slice ao s.aB.length co:=gI (i:=11) tT ha rfl (by first|simpa using au|simpa using au.1) (by simp);have hl:s'.getD 15 false=false:=gU bO [14,13,12] (by kernel_rfl) (by rfl) aH;refine wpOp_step dH (fun K' hK=> ?_);rw[if_pos (by rfl)];unfold Oper.wp;simp[go_sem,e31,Oper.upon];exact hK _ _ ⟨x,dS (d:=some 32) (v:=(.int .i64 (s.aB.length:Int))) tT ha rfl aH,hC.step hl (Qb _ _) (by decide) (by decide) (by decide)⟩
  ·have e32:a'.tmps[32]?.getD undef= .int .i64 (s.aB.length:Int):=gI (i:=12) tT ha rfl (by first|simpa using au|simpa using au.1) (by simp);have hl:s'.getD 15 false=false:=gU bO [14,13] (by kernel_rfl) (by rfl) aH;have sG:=fo.below (Qn _) (hC.eU hl);refine wpOp_step dH (fun K' hK=> ?_);rw[if_pos (by rfl)];unfold Oper.wp;simp[go_sem,e32,Oper.upon];refine(H7.O w' sG).mono ?_;rintro r4 w4 ⟨rfl,aS⟩;exact hK _ _ ⟨x,dS (d:=some 33) (v:=(S p7)) tT ha rfl aH,hC.step hl aS (by decide) (by decide) (by decide)⟩
  ·have e29:a'.tmps[29]?.getD undef=S (p4++p6):=gI (i:=9) tT ha rfl (by simpa using au.1) (by simp);have e33:a'.tmps[33]?.getD undef=S p7:=gI (i:=13) tT ha rfl (by first|simpa using au.2|simpa using au.2.1) (by simp);have hl:s'.getD 15 false=false:=gU bO [14] (by kernel_rfl) (by rfl) aH;refine wpOp_step dH (fun K' hK=> ?_);rw[if_pos (by rfl)];unfold Oper.wp;simp[go_sem,e29,e33,d51,hu,Oper.upon];exact hK _ _ ⟨x,dS (d:=some 34) (v:=(S u)) tT ha rfl aH,hC.step hl (Qb _ _) (by decide) (by decide) (by decide)⟩
  ·have e34:a'.tmps[34]?.getD undef=S u:=gI (i:=14) tT ha rfl (by first|simpa using au|simpa using au.1) (by simp);have e3x:a'.tmps[3]?.getD undef= .pointer (some ⟨bl,0,none⟩):=oL ha (by simp);have hl:s'.getD 15 false=false:=gG aH;have uY:=hC.eU hl;refine wpOp_step dH (fun K' hK=> ?_);rw[if_pos (by rfl)];unfold Oper.wp;simp[go_sem,e34,e3x,Oper.upon];refine(Tryz.Builder_WriteString bl bl _ _ _ (IE PQ.O uY) (by rw[ByteArray.size_mk',List.size_toArray];simp[Lib.byteCells];omega) (by have:=uY.size;omega)).mono ?_;rintro r8 w8 ⟨rfl,Je,mH⟩;refine hK _ _ ⟨x,dS (d:=some 35) (v:= .tuple #[.int .i64 (u.length:Int),.nilIface]) tT ha rfl aH,yh.end' aH ⟨Vb (z:=o7 s 0) Je Hh.O,Je.lt,w',uY,mH⟩⟩
 ·rintro x s' a' w8 eu ha hC;obtain⟨Je,LG,w7,uT,mH⟩:=hC.fin (eu 15 (by decide));rw[qz _ _ _ _ (fun i hi=>by rw[Nat.zero_add];exact eu i (by simpa using hi))]at ha;subst ha;simp only[dE,Act.put];subst qW;have Vt:=Qh Je;have lG:Ok I w8:=(fo.below (Qn _) uT).of_block fun b c hb=>mH.block b (Nat.lt_of_not_le fun h=>by rw[sU b h]at hb;cases hb);have Sc:=Qh ((om.O.aR uT).far mH dJ);have Jf:=(jg.trans (uT.mono jg.size)).trans (mH.mono (Nat.le_of_lt dJ));clear hC eu Je mH uT d46 d51 hul hu fo om jg PQ c0 c1 c2 c3 c4 c5 H4 H5 H6 H7 oD;obtain⟨c0,c1,c2,c3,c4,c5⟩:=Sc.O;go_wp2_with fail
  clear c0 c1 c2 c3 c4 c5;go_loopw [39] (fun s39 wr=> ∃k:Nat,k≤s.aB.length∧s39= .int .i64 k∧Lib.IsBuilder 153 5 w1.heap.size w1.heap.size (Lib.byteCells (o7 s k)) wr∧Ok I wr∧lD wr w.heap.size s (.slice ao s.aB.length co)∧Below w.heap.size w wr∧w1.heap.size<wr.heap.size) (fun i _=>s.aB.length-(intOf i).toNat)
  case atStart=>exact⟨0,Nat.zero_le _,rfl,Vt.O,lG,Sc.O,Jf,LG⟩
  case round=>
   clear Vt Sc Jf lG LG;obtain⟨k,hk,rfl,qx,eX,rU,hb,bS⟩:=hrel;have ww:=Qh qx;have sP:=Qh rU;have oh:=F6.O k;clear qx rU;by_cases hlt:k<s.aB.length
   ·obtain⟨x,RY,RZ,b,off,cap',cB,dC,⟨x0,x1,x2,x3,x4,x5,x6⟩,h1,h2⟩:=wD Hv.O eX k hlt;cases dC;obtain⟨xa,xc,rfl,_,_,_⟩:=id h1;obtain⟨xx,xd,rfl,_,_,_⟩:=id h2;have qK:x∈s.aB:=by rw[←cB];exact List.getElem_mem hlt
    have KT:=Hg.O.wf x qK;have QM:=Hg.O.aC x qK;have ni:=Hg.O.err x qK;have Xa:=R6 ni;have Ea:=Xa.aj;have hxt:=Xa.target;have bI:=Qh (Xlk hlt cB);have xw:Ok I (wr.alloc (.cells #[.int .i64 x.av,S x.aj,.slice xa x.ag.length xc,S x.target,.int .i64 x.size,S x.aD,.slice xx x.aC.length xd] 63)):=eX.alloc _;have PR:=Qh (fun w hw=>Xs9 I hI x _ _ h1 h2 KT (by omega) (by omega) Xa ni (by omega) w hw);have uU:=Xku Xa (show x.aC.length≤1000 by omega);clear cB h1 h2 qK ni KT Xa;generalize yJ x=y at bI PR uU;generalize o7 s k=u at bI ww oh;go_wp2_with fail
    refine(PR.O _ xw).mono ?_;rintro e1 w4 ⟨rfl,aS⟩;have uT:Below wr.heap.size wr w4:=((Qb _ _).alloc (Qn _) (.cells #[.int .i64 x.av,S x.aj,.slice xa x.ag.length xc,S x.target,.int .i64 x.size,S x.aD,.slice xx x.aC.length xd] 63)).trans (aS.mono (by simp));have Vu:=IE ww.O uT;have dz:Ok I w4:=eX.below (Qn _) uT;have iI:=Qh (sP.O.aR uT);have eQ:=uT.size;have cK:=hb.trans (uT.mono hb.size);clear aS uT ww sP x0 x1 x2 x3 x4 x5 x6 PR xw;go_wp2_with fail
    refine(Tryz.Builder_WriteString w1.heap.size w1.heap.size _ _ _ Vu (by rw[ByteArray.size_mk',List.size_toArray];simp[Lib.byteCells];omega) (by omega)).mono ?_;rintro e5 w5 ⟨rfl,zT,df⟩;have kX:=zT.lt;have Lu:=Qh (Vb (z:=o7 s (k+1)) zT bI.O.symm);have fZ:Ok I w5:=dz.of_block fun b c hb=>df.block b (Nat.lt_of_not_le fun h=>by rw[sU b h]at hb;cases hb);have oW:=Qh (iI.O.far df dJ);have eH:=cK.trans (df.mono (Nat.le_of_lt dJ));clear Vu zT df cK dz iI;go_wp2;go_roundw;case rel=>exact⟨k+1,by omega,by go_num,Lu.O,fZ,oW.O,eH,kX⟩
    case measure=>simp[intOf];omega
   ·have Hn:=Qh (Xor s (k:=k) (by omega));rw[Hn.O]at ww oh;obtain⟨u,hu⟩:∃u,lu s=u:=⟨_,rfl⟩;rw[hu]at ww oh;have Hu:=Qh (show T=dW u by rw[←HT.O,hu]);clear hu Hn;go_wp2_with fail
    refine(Tryz.Builder_String_any w1.heap.size w1.heap.size _ _ ww.O (by omega)).mono ?_;rintro e3 w5 ⟨rfl,df⟩;have eH:=hb.trans (df.mono (Nat.le_of_lt dJ));have H6:=Qh (Xni w5.heap.size u (by omega) (w5.alloc (.cells #[S u] 9)) (by simp) (by simp));go_wp2_with fail
    refine H6.O.mono ?_;rintro e6 w6 ⟨rfl,gF⟩;go_wp2;go_ret;rw[Hu.O];exact⟨rfl,(eH.alloc eH.size _).trans (gF.mono (by have:=eH.size;simp;omega))⟩
def four(l:List Int)(a b c d:Nat)(va vb vc vd:Int):List Int:=(((l.set a va).set b vb).set c vc).set d vd
theorem Xip(l:List Int)(a b c d:Nat)(va vb vc vd:Int):(four l a b c d va vb vc vd).length=l.length:=by simp[four]
theorem Xs4(l:List Int)(a b c d:Nat)(ha:a<l.length)(hb:b<l.length)(hc:c<l.length)(hd:d<l.length):four l a b c d (l.getD a 0) (l.getD b 0) (l.getD c 0) (l.getD d 0)=l:=by
 simp[four,List.getD,ha,hb,hc,hd]
structure Apart (n a b c d:Nat):Prop where
 la:a<n
 lb:b<n
 lc:c<n
 ld:d<n
 ab:a≠b
 ac:a≠c
 ad:a≠d
 bc:b≠c
 bd:b≠d
 cd:c≠d
section
variable {l:List Int} {a b c d:Nat} {va vb vc vd:Int}
theorem Xs3(h:Apart l.length a b c d)(x:Int):(four l a b c d va vb vc vd).set a x=four l a b c d x vb vc vd:=by
 unfold four;rw[List.set_comm _ _ h.ad.symm,List.set_comm _ _ h.ac.symm,List.set_comm _ _ h.ab.symm,List.set_set]
theorem Xs2(h:Apart l.length a b c d)(x:Int):(four l a b c d va vb vc vd).set b x=four l a b c d va x vc vd:=by
 unfold four;rw[List.set_comm _ _ h.bd.symm,List.set_comm _ _ h.bc.symm,List.set_set]
theorem Xs1(h:Apart l.length a b c d)(x:Int):(four l a b c d va vb vc vd).set c x=four l a b c d va vb x vd:=by
 unfold four;rw[List.set_comm _ _ h.cd.symm,List.set_set]
theorem Xs0(_h:Apart l.length a b c d)(x:Int):(four l a b c d va vb vc vd).set d x=four l a b c d va vb vc x:=by
 unfold four;rw[List.set_set]
theorem Sd{l:List Int}{j:Nat}(h:i≠j)(x:Int):(l.set i x).getD j 0=l.getD j 0:=by
 simp[List.getD,List.getElem?_set_ne h]
theorem YW{l:List Int}(h:i<l.length)(x:Int):(l.set i x).getD i 0=x:=by
 simp[List.getD,h]
theorem Xx5(h:Apart l.length a b c d):(four l a b c d va vb vc vd).getD a 0=va:=by
 unfold four;rw[Sd h.ad.symm,Sd h.ac.symm,Sd h.ab.symm,YW h.la]
theorem Xx4(h:Apart l.length a b c d):(four l a b c d va vb vc vd).getD b 0=vb:=by
 unfold four;rw[Sd h.bd.symm,Sd h.bc.symm,YW (by simpa using h.lb)]
theorem Xx3(h:Apart l.length a b c d):(four l a b c d va vb vc vd).getD c 0=vc:=by
 unfold four;rw[Sd h.cd.symm,YW (by simpa using h.lc)]
theorem Xx2(h:Apart l.length a b c d):(four l a b c d va vb vc vd).getD d 0=vd:=by
 unfold four;rw[YW (by simpa using h.ld)]
end
structure j6 (w:World) (t:TypeId) (l:List Int) (a b c d:Nat) (va vb vc vd:Int) (X:World):Prop where
 pQ:X.heap[w.heap.size]?=some (.cells (row (four l a b c d va vb vc vd)) t (0,0))
 zero:X.heap[w.heap.size+1]?=some (.cells (row (List.replicate 16 0)) t (0,0))
 below:Below w.heap.size w X
section
variable {w X X':World} {t:TypeId} {l:List Int} {a b c d:Nat} {va vb vc vd:Int}
theorem j6.lt(h:j6 w t l a b c d va vb vc vd X):w.heap.size+1<X.heap.size:=(Qg h.zero)
theorem j6.pass(h:j6 w t l a b c d va vb vc vd X)(hb:Below X.heap.size X X'):j6 w t l a b c d va vb vc vd X':=
 ⟨(hb.block _ (by have:=h.lt;omega)).trans h.pQ,(hb.block _ h.lt).trans h.zero,h.below.trans (hb.mono h.below.size)⟩
theorem j6.cell(h:j6 w t l a b c d va vb vc vd X)(q:Nat)(hq:q<l.length):X.cell? ⟨w.heap.size,q,none⟩=some (.int .u32 ((four l a b c d va vb vc vd).getD q 0)):=
 (cell_of_row X _ q _ _ _ h.pQ).trans (sF (by rw[Xip];exact hq))
theorem j6.ca(h:j6 w t l a b c d va vb vc vd X)(k:Apart l.length a b c d):X.cell? ⟨w.heap.size,a,none⟩=some (.int .u32 va):=by rw[h.cell a k.la,Xx5 k]
theorem j6.cb(h:j6 w t l a b c d va vb vc vd X)(k:Apart l.length a b c d):X.cell? ⟨w.heap.size,b,none⟩=some (.int .u32 vb):=by rw[h.cell b k.lb,Xx4 k]
theorem j6.cc(h:j6 w t l a b c d va vb vc vd X)(k:Apart l.length a b c d):X.cell? ⟨w.heap.size,c,none⟩=some (.int .u32 vc):=by rw[h.cell c k.lc,Xx3 k]
theorem j6.cd(h:j6 w t l a b c d va vb vc vd X)(k:Apart l.length a b c d):X.cell? ⟨w.heap.size,d,none⟩=some (.int .u32 vd):=by rw[h.cell d k.ld,Xx2 k]
theorem j6.fr(h:j6 w t l a b c d va vb vc vd X)(q:Nat):X.frozen? ⟨w.heap.size,q,none⟩=false:=frozen_of_row X _ q _ _ h.pQ
theorem j6.put(h:j6 w t l a b c d va vb vc vd X)(q:Nat)(x:Int){L:List Int}(hL:(four l a b c d va vb vc vd).set q x=L){RV vb' yL vd':Int}(hL':L=four l a b c d RV vb' yL vd'):j6 w t l a b c d RV vb' yL vd' (X.setCell ⟨w.heap.size,q,none⟩ (.int .u32 x)):=by
 subst hL';refine⟨?_,?_,h.below.setCell (p:=⟨w.heap.size,q,none⟩) (Qn _) _⟩
 ·rw[←hL];exact heap_setCell x h.pQ
 ·rw[Below.heap_setCell _ _ _ _ (by simp)];exact h.zero
theorem j6.pa(h:j6 w t l a b c d va vb vc vd X)(k:Apart l.length a b c d)(x:Int):j6 w t l a b c d x vb vc vd (X.setCell ⟨w.heap.size,a,none⟩ (.int .u32 x)):=h.put a x (Xs3 k x) rfl
theorem j6.pb(h:j6 w t l a b c d va vb vc vd X)(k:Apart l.length a b c d)(x:Int):j6 w t l a b c d va x vc vd (X.setCell ⟨w.heap.size,b,none⟩ (.int .u32 x)):=h.put b x (Xs2 k x) rfl
theorem j6.pc(h:j6 w t l a b c d va vb vc vd X)(k:Apart l.length a b c d)(x:Int):j6 w t l a b c d va vb x vd (X.setCell ⟨w.heap.size,c,none⟩ (.int .u32 x)):=h.put c x (Xs1 k x) rfl
theorem j6.pd(h:j6 w t l a b c d va vb vc vd X)(k:Apart l.length a b c d)(x:Int):j6 w t l a b c d va vb vc x (X.setCell ⟨w.heap.size,d,none⟩ (.int .u32 x)):=h.put d x (Xs0 k x) rfl
end
theorem YX(x:Int)(k d m:Int)(hk:xJ k d m)(w:World):
 Calls Tryz.prog 218 #[.int .u32 x,.int .u64 k] w fun e w'=>e= .returned (.int .u32 (oI d m x))∧Below w.heap.size w w':=
 (Xlt x k d m hk w).mono fun _ _ ⟨h1,h2⟩=>⟨h1,by rw[h2];exact Qb _ _⟩
theorem Xwr:xJ 16 65536 65536:= .inl ⟨rfl,rfl,rfl⟩
theorem Xws:xJ 12 4096 1048576:= .inr (.inl ⟨rfl,rfl,rfl⟩)
theorem Xxw:xJ 8 256 16777216:= .inr (.inr (.inl ⟨rfl,rfl,rfl⟩))
theorem Xxx:xJ 7 128 33554432:= .inr (.inr (.inr ⟨rfl,rfl,rfl⟩))
theorem Xx1{α:Type}:∀{l:List α},l.length=16→ ∃a b c d e f g h i j k m n o p q,l=[a,b,c,d,e,f,g,h,i,j,k,m,n,o,p,q]
 | [a,b,c,d,e,f,g,h,i,j,k,m,n,o,p,q],_=>⟨a,b,c,d,e,f,g,h,i,j,k,m,n,o,p,q,rfl⟩
theorem Xlu(l:List Int)(hl:l.length=16)(qa qb qc qd:Nat)(x y:Int)(w:World)(Oh:Apart 16 qa qb qc qd):
 Calls Tryz.prog 183 #[.agg (row l),.int .i64 qa,.int .i64 qb,.int .i64 qc,.int .i64 qd,.int .u32 x,.int .u32 y] w fun e w'=>e= .returned (.agg (row (qE l qa qb qc qd x y)))∧Below w.heap.size w w':=by
 have iA:Hid (Apart l.length qa qb qc qd):=Qh (by rw[hl];exact Oh);have SN:j6 w 190 l qa qb qc qd (l.getD qa 0) (l.getD qb 0) (l.getD qc 0) (l.getD qd 0) ((w.alloc (.cells (row l) 190)).alloc (.cells (row (List.replicate 16 0)) 190)):=
  ⟨by rw[Xs4 _ _ _ _ _ iA.O.la iA.O.lb iA.O.lc iA.O.ld];exact(Below.heap_alloc (w.alloc (.cells (row l) 190)) (.cells (row (List.replicate 16 0)) 190) w.heap.size (by simp)).trans (heap_alloc_new w (.cells (row l) 190)),
    (by have h:=heap_alloc_new (w.alloc (.cells (row l) 190)) (.cells (row (List.replicate 16 0)) 190);rwa[show(w.alloc (.cells (row l) 190)).heap.size=w.heap.size+1 by simp]at h),
    ((Qb w.heap.size w).alloc (Qn _) (.cells (row l) 190)).alloc (by simp) (.cells (row (List.replicate 16 0)) 190)⟩
 obtain⟨va,Pp⟩:∃va,l.getD qa 0=va:=⟨_,rfl⟩;obtain⟨vb,Pq⟩:∃vb,l.getD qb 0=vb:=⟨_,rfl⟩;obtain⟨vc,Ps⟩:∃vc,l.getD qc 0=vc:=⟨_,rfl⟩;obtain⟨vd,Pt⟩:∃vd,l.getD qd 0=vd:=⟨_,rfl⟩;have Hm:=Qh (show qE l qa qb qc qd x y=four l qa qb qc qd (wO va vb vc vd x y).1 (wO va vb vc vd x y).2.1 (wO va vb vc vd x y).2.2.1 (wO va vb vc vd x y).2.2.2 by rw[qE,Pp,Pq,Ps,Pt,four]);rw[Pp,Pq,Ps,Pt]at SN;clear Pp Pq Ps Pt;have HM:=Qh SN;clear SN;have n1:(qa:Int)<16:=by have:=Oh.la;omega
 have n2:(qb:Int)<16:=by have:=Oh.lb;omega
 have n3:(qc:Int)<16:=by have:=Oh.lc;omega
 have n4:(qd:Int)<16:=by have:=Oh.ld;omega
 clear Oh;obtain⟨v0,v1,v2,v3,v4,v5,v6,v7,v8,v9,v10,v11,v12,v13,v14,v15,Cg⟩:=Xx1 hl;have aK:row l=#[.int .u32 v0,.int .u32 v1,.int .u32 v2,.int .u32 v3,.int .u32 v4,.int .u32 v5,.int .u32 v6,.int .u32 v7,.int .u32 v8,.int .u32 v9,.int .u32 v10,.int .u32 v11,.int .u32 v12,.int .u32 v13,.int .u32 v14,.int .u32 v15]:=by rw[Cg];rfl
 have JU:=Qh Cg;have jl:=Qh aK;have Am:=Qh hl;clear Cg aK hl;rw[jl.O];go_enter Tryz.func183,Tryz.ntmps183
 go_wp2_with fail
 rw[←jl.O];rw[show(#[.int .u32 0,.int .u32 0,.int .u32 0,.int .u32 0,.int .u32 0,.int .u32 0,.int .u32 0,.int .u32 0,.int .u32 0,.int .u32 0,.int .u32 0,.int .u32 0,.int .u32 0,.int .u32 0,.int .u32 0,.int .u32 0]:Array Value)=row (List.replicate 16 0)from rfl];generalize(w.alloc (.cells (row l) 190)).alloc (.cells (row (List.replicate 16 0)) 190)=X at HM ⊢;clear jl JU;have g1:=cell_regrown (HM.O.ca iA.O);have g2:=cell_regrown (HM.O.cb iA.O);refine zI 11 (by kernel_rfl) (by kernel_rfl) ?_;simp only[List.take_succ_cons,List.take_zero,List.drop_succ_cons,List.drop_zero];repeat(go_big_quiet_step ((fail)))
 refine wpQuiet_nil ?_;intro X1 bJ;have qf:Below (X).heap.size (X) X1:=by
  obtain⟨pq,rfl⟩:=bJ;exact below_regrown _ _ _
 clear bJ;have iD:=HM.O.pass qf;clear g1 g2 qf HM;have HM:=Qh iD;have g1:=iD.ca iA.O;have g2:=fun q=>iD.fr q;clear iD;go_wp2_with fail
 have iD:=HM.O.pa iA.O ((va+vb+x)%4294967296);clear HM g1 g2;obtain⟨a1,Kw⟩:∃a1,(va+vb+x)%4294967296=a1:=⟨_,rfl⟩;rw[Kw]at iD ⊢;have Ph:=Qh Kw;clear Kw;have HM:=Qh iD;clear iD;generalize X1.setCell _ _=X at HM ⊢;have g1:=cell_regrown (HM.O.cd iA.O);have g2:=cell_regrown (HM.O.ca iA.O);refine zI 10 (by kernel_rfl) (by kernel_rfl) ?_;simp only[List.take_succ_cons,List.take_zero,List.drop_succ_cons,List.drop_zero];repeat(go_big_quiet_step ((exact Calls.regrown_of (YX _ _ _ _ Xwr _))))
 refine wpQuiet_nil ?_;intro X1 bJ;have qf:Below (X).heap.size (X) X1:=by
  obtain⟨pq,rfl⟩:=bJ;exact below_regrown _ _ _
 clear bJ;have iD:=HM.O.pass qf;clear g1 g2 qf HM;have HM:=Qh iD;have g1:=iD.cd iA.O;have g2:=fun q=>iD.fr q;clear iD;go_wp2_with fail
 have iD:=HM.O.pd iA.O (oI 65536 65536 (bits .xor .u32 vd a1));clear HM g1 g2;obtain⟨d1,pF⟩:∃d1,oI 65536 65536 (bits .xor .u32 vd a1)=d1:=⟨_,rfl⟩;rw[pF]at iD ⊢;have Hd1:=Qh pF;clear pF;have HM:=Qh iD;clear iD;generalize X1.setCell _ _=X at HM ⊢;have g1:=cell_regrown (HM.O.cc iA.O);have g2:=cell_regrown (HM.O.cd iA.O);refine zI 9 (by kernel_rfl) (by kernel_rfl) ?_;simp only[List.take_succ_cons,List.take_zero,List.drop_succ_cons,List.drop_zero];repeat(go_big_quiet_step ((fail)))
 refine wpQuiet_nil ?_;intro X1 bJ;have qf:Below (X).heap.size (X) X1:=by
  obtain⟨pq,rfl⟩:=bJ;exact below_regrown _ _ _
 clear bJ;have iD:=HM.O.pass qf;clear g1 g2 qf HM;have HM:=Qh iD;have g1:=iD.cc iA.O;have g2:=fun q=>iD.fr q;clear iD;go_wp2_with fail
 have iD:=HM.O.pc iA.O ((vc+d1)%4294967296);clear HM g1 g2;obtain⟨c1,rJ⟩:∃c1,(vc+d1)%4294967296=c1:=⟨_,rfl⟩;rw[rJ]at iD ⊢;have Hc1:=Qh rJ;clear rJ;have HM:=Qh iD;clear iD;generalize X1.setCell _ _=X at HM ⊢;have g1:=cell_regrown (HM.O.cb iA.O);have g2:=cell_regrown (HM.O.cc iA.O);refine zI 10 (by kernel_rfl) (by kernel_rfl) ?_;simp only[List.take_succ_cons,List.take_zero,List.drop_succ_cons,List.drop_zero];repeat(go_big_quiet_step ((exact Calls.regrown_of (YX _ _ _ _ Xws _))))
 refine wpQuiet_nil ?_;intro X1 bJ;have qf:Below (X).heap.size (X) X1:=by
  obtain⟨pq,rfl⟩:=bJ;exact below_regrown _ _ _
 clear bJ;have iD:=HM.O.pass qf;clear g1 g2 qf HM;have HM:=Qh iD;have g1:=iD.cb iA.O;have g2:=fun q=>iD.fr q;clear iD;go_wp2_with fail
 have iD:=HM.O.pb iA.O (oI 4096 1048576 (bits .xor .u32 vb c1));clear HM g1 g2;obtain⟨b1,aG⟩:∃b1,oI 4096 1048576 (bits .xor .u32 vb c1)=b1:=⟨_,rfl⟩;rw[aG]at iD ⊢;have Hb1:=Qh aG;clear aG;have HM:=Qh iD;clear iD;generalize X1.setCell _ _=X at HM ⊢;have g1:=cell_regrown (HM.O.ca iA.O);have g2:=cell_regrown (HM.O.cb iA.O);refine zI 11 (by kernel_rfl) (by kernel_rfl) ?_;simp only[List.take_succ_cons,List.take_zero,List.drop_succ_cons,List.drop_zero];repeat(go_big_quiet_step ((fail)))
 refine wpQuiet_nil ?_;intro X1 bJ;have qf:Below (X).heap.size (X) X1:=by
  obtain⟨pq,rfl⟩:=bJ;exact below_regrown _ _ _
 clear bJ;have iD:=HM.O.pass qf;clear g1 g2 qf HM;have HM:=Qh iD;have g1:=iD.ca iA.O;have g2:=fun q=>iD.fr q;clear iD;go_wp2_with fail
 have iD:=HM.O.pa iA.O ((a1+b1+y)%4294967296);clear HM g1 g2;obtain⟨a2,Eb⟩:∃a2,(a1+b1+y)%4294967296=a2:=⟨_,rfl⟩;rw[Eb]at iD ⊢;have EI:=Qh Eb;clear Eb;have HM:=Qh iD;clear iD;generalize X1.setCell _ _=X at HM ⊢;have g1:=cell_regrown (HM.O.cd iA.O);have g2:=cell_regrown (HM.O.ca iA.O);refine zI 10 (by kernel_rfl) (by kernel_rfl) ?_;simp only[List.take_succ_cons,List.take_zero,List.drop_succ_cons,List.drop_zero];repeat(go_big_quiet_step ((exact Calls.regrown_of (YX _ _ _ _ Xxw _))))
 refine wpQuiet_nil ?_;intro X1 bJ;have qf:Below (X).heap.size (X) X1:=by
  obtain⟨pq,rfl⟩:=bJ;exact below_regrown _ _ _
 clear bJ;have iD:=HM.O.pass qf;clear g1 g2 qf HM;have HM:=Qh iD;have g1:=iD.cd iA.O;have g2:=fun q=>iD.fr q;clear iD;go_wp2_with fail
 have iD:=HM.O.pd iA.O (oI 256 16777216 (bits .xor .u32 d1 a2));clear HM g1 g2;obtain⟨d2,uS⟩:∃d2,oI 256 16777216 (bits .xor .u32 d1 a2)=d2:=⟨_,rfl⟩;rw[uS]at iD ⊢;have Hd2:=Qh uS;clear uS;have HM:=Qh iD;clear iD;generalize X1.setCell _ _=X at HM ⊢;have g1:=cell_regrown (HM.O.cc iA.O);have g2:=cell_regrown (HM.O.cd iA.O);refine zI 9 (by kernel_rfl) (by kernel_rfl) ?_;simp only[List.take_succ_cons,List.take_zero,List.drop_succ_cons,List.drop_zero];repeat(go_big_quiet_step ((fail)))
 refine wpQuiet_nil ?_;intro X1 bJ;have qf:Below (X).heap.size (X) X1:=by
  obtain⟨pq,rfl⟩:=bJ;exact below_regrown _ _ _
 clear bJ;have iD:=HM.O.pass qf;clear g1 g2 qf HM;have HM:=Qh iD;have g1:=iD.cc iA.O;have g2:=fun q=>iD.fr q;clear iD;go_wp2_with fail
 have iD:=HM.O.pc iA.O ((c1+d2)%4294967296);clear HM g1 g2;obtain⟨c2,rH⟩:∃c2,(c1+d2)%4294967296=c2:=⟨_,rfl⟩;rw[rH]at iD ⊢;have RS:=Qh rH;clear rH;have HM:=Qh iD;clear iD;generalize X1.setCell _ _=X at HM ⊢;have g1:=cell_regrown (HM.O.cb iA.O);have g2:=cell_regrown (HM.O.cc iA.O);refine zI 10 (by kernel_rfl) (by kernel_rfl) ?_;simp only[List.take_succ_cons,List.take_zero,List.drop_succ_cons,List.drop_zero];repeat(go_big_quiet_step ((exact Calls.regrown_of (YX _ _ _ _ Xxx _))))
 refine wpQuiet_nil ?_;intro X1 bJ;have qf:Below (X).heap.size (X) X1:=by
  obtain⟨pq,rfl⟩:=bJ;exact below_regrown _ _ _
 clear bJ;have iD:=HM.O.pass qf;clear g1 g2 qf HM;have HM:=Qh iD;have g1:=iD.cb iA.O;have g2:=fun q=>iD.fr q;clear iD;have iD:=HM.O.pb iA.O (oI 128 33554432 (bits .xor .u32 b1 c2));have jM:qE l qa qb qc qd x y=four l qa qb qc qd a2 (oI 128 33554432 (bits .xor .u32 b1 c2)) c2 d2:=by
  rw[Hm.O];simp only[wO,←Int.add_assoc,Ph.O,Hd1.O,Hc1.O,Hb1.O,EI.O,Hd2.O,RS.O]
 clear Ph Hd1 Hc1 Hb1 EI Hd2 RS Hm;have h0:=iD.pQ;have h1:=iD.zero;have aT:=iD.below;have hlen:(four l qa qb qc qd a2 (oI 128 33554432 (bits .xor .u32 b1 c2)) c2 d2).length=16:=by rw[Xip,Am.O]
 generalize four l qa qb qc qd a2 (oI 128 33554432 (bits .xor .u32 b1 c2)) c2 d2=F at h0 hlen jM;have rA:=Qh jM;clear jM;clear iD HM;have DC:(Tryz.prog.info? 190).map (·.size)=some (row F).size:=by rw[bZ,hlen];kernel_rfl
 have ado:(row (List.replicate 16 0)).size=(row F).size:=by rw[bZ,bZ,hlen];rfl
 have adp:(row F).all (·.oneCell')=true:=by simp[row,Value.oneCell']
 clear hlen
 go_wp2_with (first
  |(refine wpList_load_row rfl 190 _ rfl w.heap.size rfl 190 (row F) (0,0) _ h0 Tryz.underlying190 rfl DC ?_)
  |(refine wpList_store_row rfl 190 _ _ rfl (w.heap.size+1) (row F) rfl rfl 190 (row (List.replicate 16 0)) h1 DC ado adp ?_))
 refine bodyPost_ret (results_cell_row rfl _ _ (w.heap.size+1) _ (row F) (0,0) _ rfl (setRow_heap _ _ _ _ _ _ h1) Tryz.underlying190 rfl DC) rfl ⟨by rw[rA.O],below_setRow aT (by omega) _⟩
theorem Xhj(a b c:Int):bits .xor .u32 (bits .xor .u32 a b) c=bits .xor .u32 a (bits .xor .u32 b c):=by
 have hr:∀x:BitVec 32,BitVec.ofInt 32 (x.toNat:Int)=x:=fun x=>by
  apply BitVec.eq_of_toNat_eq;simp
 have hb:∀x y:Int,bits .xor .u32 x y=((BitVec.ofInt 32 x^^^BitVec.ofInt 32 y).toNat:Int):=fun x y=>by
  have:=(BitVec.ofInt 32 x^^^BitVec.ofInt 32 y).isLt;simp only[bits,IntKind.wrap,IntKind.bits,IntKind.signed];exact Int.emod_eq_of_lt (by omega) (by omega)
 rw[hb,hb a b,hb a,hb b c,hr,hr,BitVec.xor_assoc]
theorem Xsg(a:Int)(h0:0≤a)(h1:a<4294967296):bits .or .u32 0 a=a:=by
 have hb:bits .or .u32 0 a=((BitVec.ofInt 32 0 ||| BitVec.ofInt 32 a).toNat:Int):=by
  have:=(BitVec.ofInt 32 0 ||| BitVec.ofInt 32 a).isLt;simp only[bits,IntKind.wrap,IntKind.bits,IntKind.signed];exact Int.emod_eq_of_lt (by omega) (by omega)
 rw[hb];simp;omega
def pW(s:af)(j:Nat):Nat→Int
 |0=>0
 |1=>nK s (4*j)
 |2=>bits .or .u32 (nK s (4*j)) (nK s (4*j+1)*256%4294967296)
 |3=>bits .or .u32 (bits .or .u32 (nK s (4*j)) (nK s (4*j+1)*256%4294967296)) (nK s (4*j+2)*65536%4294967296)
 |_=>vF s j
def sH(s:af)(k:Nat):List Int:=(List.range 16).map fun j=>pW s j (k-4*j)
theorem Xnp(s:af)(k:Nat):(sH s k).length=16:=by simp[sH]
theorem Xr0(s:af):sH s 0=List.replicate 16 0:=by
 simp[sH,pW,List.map_const']
theorem Xnz(s:af)(j n:Nat)(h:4≤n):pW s j n=vF s j:=by
 match n,h with
 |n+4,_=>rfl
theorem Xud(s:af):sH s 64=words s:=by
 apply List.map_congr_left;intro j hj;have:=List.mem_range.1 hj;exact Xnz s j _ (by omega)
theorem Xwt(s:af)(q r:Nat)(hq:q<16)(_hr:r<4):(sH s (4*q+r)).getD q 0=pW s q r:=by
 simp[sH,List.getD,hq]
theorem Xr1(s:af)(q r:Nat)(_hq:q<16)(hr:r<4):(sH s (4*q+r)).set q (pW s q (r+1))=sH s (4*q+r+1):=by
 apply List.ext_getElem
 ·simp[sH]
 ·intro j h1 h2;simp only[sH,List.getElem_set,List.getElem_map,List.getElem_range];by_cases h:q=j
  ·subst h;rw[if_pos rfl,show 4*q+r+1-4*q=r+1 by omega]
  ·rw[if_neg h];rcases Nat.lt_or_ge j q with hj|hj
   ·rw[Xnz s j _ (by omega),Xnz s j _ (by omega)]
   ·rw[show 4*q+r-4*j=0 by omega,show 4*q+r+1-4*j=0 by omega]
theorem Xi0(s:af)(i:Nat):0≤nK s i∧nK s i<4294967296:=by unfold nK;omega
theorem YY(s:af)(k:Nat)(h:k<s.length):(s[k].toNat:Int)%4294967296=nK s k:=by simp[nK,h]
theorem adr(s:af)(q k:Nat)(hk:k=4*q+0)(h:k<s.length):bits .or .u32 (pW s q 0) ((s[k].toNat:Int)%4294967296)=pW s q 1:=by
 rw[YY s k h,hk];exact Xsg _ (Xi0 _ _).1 (Xi0 _ _).2
theorem ads(s:af)(q k:Nat)(hk:k=4*q+1)(h:k<s.length):bits .or .u32 (pW s q 1) ((s[k].toNat:Int)%4294967296*256%4294967296)=pW s q 2:=by
 rw[YY s k h,hk];rfl
theorem adt(s:af)(q k:Nat)(hk:k=4*q+2)(h:k<s.length):bits .or .u32 (pW s q 2) ((s[k].toNat:Int)%4294967296*65536%4294967296)=pW s q 3:=by
 rw[YY s k h,hk];rfl
theorem adu(s:af)(q k:Nat)(hk:k=4*q+3)(h:k<s.length):bits .or .u32 (pW s q 3) ((s[k].toNat:Int)%4294967296*16777216%4294967296)=pW s q 4:=by
 rw[YY s k h,hk];rfl
def o8(hs:List Int)(k:Nat):List Int:=(List.range 16).map fun j=>if j<8 then(if j<k then hs.getD j 0 else 0)else(if j-8<k then gL.getD (j-8) 0 else 0)
theorem Xgt(hs:List Int)(k:Nat):(o8 hs k).length=16:=by simp[o8]
theorem Xpz(hs:List Int):o8 hs 0=List.replicate 16 0:=by simp[o8,List.map_const']
theorem Xp0(hs:List Int)(k:Nat)(hk:k<8):((o8 hs k).set k (hs.getD k 0)).set (k+8) (gL.getD k 0)=o8 hs (k+1):=by
 apply List.ext_getElem
 ·simp[o8]
 ·intro j h1 h2;simp only[o8,List.getElem_set,List.getElem_map,List.getElem_range];by_cases h:k+8=j
  ·subst h;rw[if_pos rfl,if_neg (by omega),if_pos (by omega),show k+8-8=k by omega]
  ·rw[if_neg h];by_cases h':k=j
   ·subst h';rw[if_pos rfl,if_pos hk,if_pos (by omega)]
   ·rw[if_neg h'];by_cases hj:j<8
    ·rw[if_pos hj,if_pos hj];by_cases N9:j<k
     ·rw[if_pos N9,if_pos (by omega)]
     ·rw[if_neg N9,if_neg (by omega)]
    ·rw[if_neg hj,if_neg hj];by_cases N9:j-8<k
     ·rw[if_pos N9,if_pos (by omega)]
     ·rw[if_neg N9,if_neg (by omega)]
theorem Xrf(hs:List Int)(h:hs.length=8):o8 hs 8=hs++gL:=by
 obtain⟨a,b,c,d,e,f,g,i,rfl⟩:=Pv h;rfl
def Jg:List af:=[[48,49,50,51,52,53,54,55,56,57,97,98,99,100,101,102],[101,97,52,56,57,102,100,54,49,99,48,50,98,55,53,51],[98,56,99,48,53,50,102,100,97,101,51,54,55,49,57,52],[55,57,51,49,100,99,98,101,50,54,53,97,52,48,102,56],[57,48,53,55,50,52,97,102,101,49,98,99,54,56,51,100],[50,99,54,97,48,98,56,51,52,100,55,53,102,101,49,57],[99,53,49,102,101,100,52,97,48,55,54,51,57,50,56,98],[100,98,55,101,99,49,51,57,53,48,102,52,56,54,50,97],[54,102,101,57,98,51,48,56,99,50,100,55,49,52,97,53],[97,50,56,52,55,54,49,53,102,98,57,101,51,99,100,48]]
def pU(r:Nat):af:=Jg.getD r []
def vH(c:Nat):Nat:=if 97≤c then c-87 else c-48
theorem Xe7(r:Nat)(h:r<10):(pU r).length=16:=by revert r;decide
theorem Xmu(r i:Nat)(hr:r<10)(hi:i<16):vH ((pU r).getD i 0).toNat=jV r i∧48≤((pU r).getD i 0).toNat∧((pU r).getD i 0).toNat≤102:=by
 revert i;revert r;decide
theorem Xdk(r:Nat)(hr:r<10)(w:World):Calls Tryz.prog 181 #[.int .i64 r] w fun e w'=>e= .returned (S (pU r))∧Below w.heap.size w w':=by
 match r,hr with
 |0,_=>go_enter Tryz.func181,Tryz.ntmps181;go_wp2;go_ret;exact⟨rfl,Qb _ _⟩
 |1,_=>go_enter Tryz.func181,Tryz.ntmps181;go_wp2;go_ret;exact⟨rfl,Qb _ _⟩
 |2,_=>go_enter Tryz.func181,Tryz.ntmps181;go_wp2;go_ret;exact⟨rfl,Qb _ _⟩
 |3,_=>go_enter Tryz.func181,Tryz.ntmps181;go_wp2;go_ret;exact⟨rfl,Qb _ _⟩
 |4,_=>go_enter Tryz.func181,Tryz.ntmps181;go_wp2;go_ret;exact⟨rfl,Qb _ _⟩
 |5,_=>go_enter Tryz.func181,Tryz.ntmps181;go_wp2;go_ret;exact⟨rfl,Qb _ _⟩
 |6,_=>go_enter Tryz.func181,Tryz.ntmps181;go_wp2;go_ret;exact⟨rfl,Qb _ _⟩
 |7,_=>go_enter Tryz.func181,Tryz.ntmps181;go_wp2;go_ret;exact⟨rfl,Qb _ _⟩
 |8,_=>go_enter Tryz.func181,Tryz.ntmps181;go_wp2;go_ret;exact⟨rfl,Qb _ _⟩
 |9,_=>go_enter Tryz.func181,Tryz.ntmps181;go_wp2;go_ret;exact⟨rfl,Qb _ _⟩
theorem YZ(c:Nat)(h0:48≤c)(h1:c≤102)(w:World):Calls Tryz.prog 184 #[.int .u8 c] w fun e w'=>e= .returned (.int .i64 (vH c:Nat))∧Below w.heap.size w w':=by
 have AJ:IntKind.i64.wrap (c:Int)=c:=IntWalk.i64_in _ (by omega);by_cases h:97≤c
 ·have hd:decide (97≤(c:Int))=true:=by simp;omega
  have Hp:=Qh (show(vH c:Int)=(c:Int)-87 by rw[vH,if_pos h];omega);go_enter Tryz.func184,Tryz.ntmps184
  go_wp2;go_ret;exact⟨dZ Hp.O.symm,Qb _ _⟩
 ·have hd:decide (97≤(c:Int))=false:=by simp;omega
  have Hp:=Qh (show(vH c:Int)=(c:Int)-48 by rw[vH,if_neg h];omega);go_enter Tryz.func184,Tryz.ntmps184
  go_wp2;go_ret;exact⟨dZ Hp.O.symm,Qb _ _⟩
theorem Xfw(w:World):Calls Tryz.prog 134 #[] w fun e w'=>e= .returned (.agg (row gL))∧Below w.heap.size w w':=by
 go_enter Tryz.func134,Tryz.ntmps134
 go_wp2;refine bodyPost_ret (results_cell_row rfl _ _ w.heap.size _ (row gL) (0,0) _ rfl (heap_alloc_new w (.cells (row gL) 162)) Tryz.underlying162 rfl (by kernel_rfl)) rfl ⟨rfl,?_⟩;exact(Qb _ _).alloc (Qn _) _
def ER:Array Value:=#[.int .i64 0,.int .i64 0,.int .i64 0,.int .i64 0]
theorem Xqm(k:Nat)(h:k<4):jE k=(k,k+4,k+8,k+12):=by revert k;decide
theorem Xqn(k:Nat)(h:k<4):jE (k+4)=(k,4+(k+1)%4,8+(k+2)%4,12+(k+3)%4):=by revert k;decide
theorem Xfv(k:Nat)(hk:k<8)(w:World):Calls Tryz.prog 182 #[.int .i64 k] w fun e w'=>e= .returned (EK (jE k))∧Below w.heap.size w w':=by
 by_cases h:k<4
 ·have Hq:=Qh (Xqm k h);have hz:=heap_alloc_new w (.cells ER 194);have Q9:(Tryz.prog.info? 194).map (·.size)=some (#[.int .i64 k,.int .i64 ((k:Int)+4),.int .i64 ((k:Int)+8),.int .i64 ((k:Int)+12)]:Array Value).size:=by kernel_rfl
  have F7:(#[.int .i64 k,.int .i64 ((k:Int)+4),.int .i64 ((k:Int)+8),.int .i64 ((k:Int)+12)]:Array Value).all (·.oneCell')=true:=by simp[Value.oneCell']
  go_enter Tryz.func182,Tryz.ntmps182
  go_wp2_with (refine wpList_store_row rfl 194 _ _ rfl w.heap.size #[.int .i64 k,.int .i64 ((k:Int)+4),.int .i64 ((k:Int)+8),.int .i64 ((k:Int)+12)] rfl rfl 194 ER hz Q9 rfl F7 ?_)
  refine bodyPost_ret (results_cell_row rfl _ _ w.heap.size _ #[.int .i64 k,.int .i64 ((k:Int)+4),.int .i64 ((k:Int)+8),.int .i64 ((k:Int)+12)] (0,0) _ rfl (setRow_heap _ _ _ _ _ _ hz) Tryz.underlying194 rfl Q9) rfl ⟨by rw[Hq.O];rfl,below_setRow ((Qb _ _).alloc (Qn _) _) (Qn _) _⟩
 ·obtain⟨q,rfl⟩:∃q,k=q+4:=⟨k-4,by omega⟩;have Hq:=Qh (Xqn q (by omega));have hz:=heap_alloc_new w (.cells ER 194);have hs:((q+4:Nat):Int)=(q:Int)+4:=by omega
  rw[hs];clear hs;have Q9:(Tryz.prog.info? 194).map (·.size)=some (#[.int .i64 q,.int .i64 (4+((q:Int)+1)%4),.int .i64 (8+((q:Int)+2)%4),.int .i64 (12+((q:Int)+3)%4)]:Array Value).size:=by kernel_rfl
  have F7:(#[.int .i64 q,.int .i64 (4+((q:Int)+1)%4),.int .i64 (8+((q:Int)+2)%4),.int .i64 (12+((q:Int)+3)%4)]:Array Value).all (·.oneCell')=true:=by simp[Value.oneCell']
  go_enter Tryz.func182,Tryz.ntmps182
  go_wp2_with (refine wpList_store_row rfl 194 _ _ rfl w.heap.size #[.int .i64 q,.int .i64 (4+((q:Int)+1)%4),.int .i64 (8+((q:Int)+2)%4),.int .i64 (12+((q:Int)+3)%4)] rfl rfl 194 ER hz Q9 rfl F7 ?_)
  refine bodyPost_ret (results_cell_row rfl _ _ w.heap.size _ #[.int .i64 q,.int .i64 (4+((q:Int)+1)%4),.int .i64 (8+((q:Int)+2)%4),.int .i64 (12+((q:Int)+3)%4)] (0,0) _ rfl (setRow_heap _ _ _ _ _ _ hz) Tryz.underlying194 rfl Q9) rfl ⟨by rw[Hq.O];rfl,below_setRow ((Qb _ _).alloc (Qn _) _) (Qn _) _⟩
