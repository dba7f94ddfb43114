/-
  Walks and laws that the claim's theorem uses: texts CkC CkA CkB, joined; comments out. Conditions: as each theorem says.
-/
import Derived.Test.YtdeknddamidldaaGreatDoorQ12
import Derived.Maps.AppendAt
import Derived.Laws.OwnMore
namespace Go.Proofs.YtdeknddamidldaaGreatDoor
open Go.RowKit
theorem Xaz {α:Type} {T:Ty α} {I:IH} {P:Program} {ts te:TypeId} {bytes:Nat} (hE:ElemOk P ts te T bytes) {w0:World} {ops:Array Oper} {rest:List Oper} {o:Oper} {a:Act} {Q:Exit→Act→World→Prop} (hgd:o.guard=none) (s x:Operand)
 (ho:o.op= .call { callee:= .builtin .append,args:= #[s,x],argTypes:= #[ts,ts] }) (B:Nat) (v:Value) (l:List α) (hs:a.eval s=v) (hown:OwnS T te I w0 B v l)
 (y:α) (cs:List Value) (tb:TypeId) (hx:a.eval x= .slice (some ⟨w0.heap.size,0,none⟩) 1 1) (hy:T.rd I cs y) (hbig:(l.length+1)*bytes≤140737488355328) (hl:l.length+1≤9223372036854775807) (hB:B≤w0.heap.size)
 (h:∀v' w',OwnS T te I w' B v' (l++ [y])→w0.grownBy w' v.ownBlock→(∀g,v'.ownBlock=some g→v.ownBlock=some g∨w0.heap.size≤g)→wpList P ops Q rest (a.put o.dst v') w'):wpList P ops Q (o::rest) a (w0.alloc (.cells cs.toArray tb)):=by
 obtain ⟨i,z,h1,h2,h3,h4,h5,h6,h7⟩:=hE
 obtain ⟨xs,k1,k2⟩:=hown
 refine wpList_append_own_at (w0.alloc (.cells cs.toArray tb)) hgd s x ts ho B te i z T.size bytes h1 h2 h3 h4 h5 h6 h7 v l.length xs hs (k1.alloc _) ⟨w0.heap.size,0,none⟩ 1 1 cs hx (by rw [T.len hy,Nat.one_mul])
  (fun j u hu=>by rw [Addr.add_lit,Nat.zero_add,World.cell?_alloc_new];simpa using hu) (T.one hy) (by unfold maxLen;omega) hbig (by simp;omega) (fun v' w' r1 r2 _ r4=>h v' w' ⟨xs++cs,by rw [List.length_append];exact r1,k2.append (LiesL.one hy)⟩ ?_ ?_)
 ·exact ⟨r2.os,r2.tape,r2.output,by have:=r2.size;simp at this;omega,fun k hk hne=>(r2.block k (by simp;omega) hne).trans (Below.heap_alloc _ _ _ hk)⟩
 ·intro g hg
  rcases r4 with r4|r4
  ·exact .inl (r4▸hg)
  ·rw [r4] at hg
   simp at hg
   exact .inr (by omega)
theorem Xbe {w w':World} (hb:Below w.heap.size w w') (row:Option Nat):w.grownBy w' row:=⟨hb.os,hb.tape,hb.output,hb.size,fun k hk _=>hb.block k hk⟩
theorem Xa8 {w w1 w2:World} {row:Option Nat} (h1:w.grownBy w1 row) (h2:w1.grownBy w2 row):w.grownBy w2 row:=
 ⟨h2.os.trans h1.os,h2.tape.trans h1.tape,h2.output.trans h1.output,Nat.le_trans h1.size h2.size,fun k hk hne=>(h2.block k (Nat.lt_of_lt_of_le hk h1.size) hne).trans (h1.block k hk hne)⟩
theorem Xi2 {w W:World} {row:Option Nat} {g:Nat} (h:w.grownBy W row) (hg:w.heap.size≤g) (j:Nat) (u:Value):w.grownBy (W.setCell ⟨g,j,none⟩ u) row:=
 ⟨h.os,h.tape,h.output,by rw [World.size_setCell];exact h.size,fun k hk hne=>(heap_setCell_other W ⟨g,j,none⟩ k u (by simp;omega)).trans (h.block k hk hne)⟩
theorem Xnn {w W:World} {row:Option Nat} (h:w.grownBy W row):w.grownBy W.drew row:=⟨h.os,h.tape,h.output,h.size,h.block⟩
def XB (n:Int) (x:Xt):Prop:=0≤x.s∧x.s≤255∧0≤x.o∧x.o≤1099511627776∧0≤x.n∧x.n≤n
theorem XB.mono {n m:Int} {x:Xt} (h:XB n x) (hm:n≤m):XB m x:=by unfold XB at *;omega
section
variable {I:IH} {W:World} {B:Nat} {v:Value} {l:List Xt}
theorem Xoc (h:OwnS tXt 73 I W B v l) (h0:0<l.length):∃g cap y,v= .slice (some ⟨g,0,none⟩) l.length cap∧l.length≤cap∧l.getLast? =some y∧B≤g∧g<W.heap.size∧
 W.cell? ⟨g,(l.length-1)*3,none⟩=some (.int .i64 y.s)∧W.cell? ⟨g,(l.length-1)*3+1,none⟩=some (.int .i64 y.o)∧W.cell? ⟨g,(l.length-1)*3+2,none⟩=some (.int .i64 y.n)∧(∀j,W.frozen? ⟨g,j,none⟩=false):=by
 obtain ⟨xs,h1,h2⟩:=h
 rcases h1.2 with ⟨_,hz⟩|⟨g,cap,cur,hv,hb,hg,hnc,_⟩
 ·omega
 subst hv
 have hlt:g<W.heap.size:=(Array.getElem?_eq_some_iff.1 hg).1
 have hxl:xs.length=l.length*3:=h2.1
 have hi:l.length-1<l.length:=by omega
 obtain ⟨cs,k1,k2⟩:=h2.2 (l.length-1) hi
 have k1':cs= [.int .i64 (l[l.length-1]).s,.int .i64 (l[l.length-1]).o,.int .i64 (l[l.length-1]).n]:=k1
 subst k1'
 refine ⟨g,cap,l[l.length-1],rfl,hnc,by rw [List.getLast?_eq_getElem?,List.getElem?_eq_getElem hi],hb,hlt,?_,?_,?_,fun j=>h1.frozenAt j⟩
 ·rw [h1.cellAt _ (by show (l.length-1)*3<l.length*3;omega)];exact k2 0 _ rfl
 ·rw [h1.cellAt _ (by show (l.length-1)*3+1<l.length*3;omega)];exact k2 1 _ rfl
 ·rw [h1.cellAt _ (by show (l.length-1)*3+2<l.length*3;omega)];exact k2 2 _ rfl
theorem Xtg {g cap:Nat} {y:Xt} {n:Int} (h:OwnS tXt 73 I W B (.slice (some ⟨g,0,none⟩) l.length cap) l) (hy:l.getLast? =some y):
 OwnS tXt 73 I (W.setCell ⟨g,(l.length-1)*3+2,none⟩ (.int .i64 n)) B (.slice (some ⟨g,0,none⟩) l.length cap) (l.dropLast++ [⟨y.s,y.o,n⟩]):=by
 obtain ⟨xs,h1,h2⟩:=h
 have h0:0<l.length:=by cases l with
  |nil=>simp at hy
  |cons a l=>simp
 have hl:(l.dropLast++ [(⟨y.s,y.o,n⟩:Xt)]).length=l.length:=by simp;omega
 have hs:=(h1.stored ((l.length-1)*3+2) (.int .i64 n)).1
 refine ⟨_,by rw [hl];exact hs,by rw [hl,List.length_set];exact h2.1,fun i hi=> ?_⟩
 rw [hl] at hi
 obtain ⟨cs,k1,k2⟩:=h2.2 i hi
 by_cases he:i=l.length-1
 ·have hyl:l[i]=y:=by
   have:l.getLast? =some l[i]:=by rw [List.getLast?_eq_getElem?,←he,List.getElem?_eq_getElem hi]
   rw [hy] at this;exact (Option.some.inj this).symm
  have k1':cs= [.int .i64 (l[i]).s,.int .i64 (l[i]).o,.int .i64 (l[i]).n]:=k1
  rw [hyl] at k1'
  subst k1'
  refine ⟨[.int .i64 y.s,.int .i64 y.o,.int .i64 n],?_,fun j u hu=> ?_⟩
  ·show _=_
   rw [List.getElem_append_right (by simp;omega)]
   simp
  ·have hxl:xs.length=l.length*3:=h2.1
   match j,hu with
   |0,hu=>
    rw [List.getElem?_set_ne (by show (l.length-1)*3+2≠i*3+0;omega)];exact (k2 0 _ rfl).trans hu
   |1,hu=>
    rw [List.getElem?_set_ne (by show (l.length-1)*3+2≠i*3+1;omega)];exact (k2 1 _ rfl).trans hu
   |2,hu=>
    have e:i*tXt.size+2=(l.length-1)*3+2:=by show i*3+2=_;omega
    rw [e,List.getElem?_set_self (by omega)];exact hu
 ·refine ⟨cs,?_,fun j u hu=> ?_⟩
  ·rw [List.getElem_append_left (by simp;omega),List.getElem_dropLast];exact k1
  ·have hj:j<3:=by rw [←show cs.length=3 from tXt.len k1];exact (List.getElem?_eq_some_iff.1 hu).1
   rw [List.getElem?_set_ne (by show (l.length-1)*3+2≠i*3+j;omega)];exact k2 j u hu
end
abbrev xtW (x:Xt):Value:= .agg #[.int .i64 x.s,.int .i64 x.o,.int .i64 x.n]
abbrev xtL (x:Xt):List Value:= [.int .i64 x.s,.int .i64 x.o,.int .i64 x.n]
theorem Xuf:(Tryz.prog.info? 73).map (fun i=>(i.zero,i.size,i.bytes))=some (some (.agg #[.int .i64 0,.int .i64 0,.int .i64 0]),3,24):=by kernel_rfl
theorem Xgw:ElemOk Tryz.prog 37 73 tXt 24:=ElemOk.of Tryz.underlying37 Xuf rfl (by decide) rfl
theorem Xox (x:Xt):addX [] x= [x]:=rfl
theorem Xoz {l:List Xt} {y x:Xt} (h:l.getLast? =some y) (hn:¬(x.s≠0∧y.s=x.s∧y.o+y.n=x.o)):addX l x=l++ [x]:=by
 unfold addX;rw [h];show (if _ then _ else _)=_;rw [if_neg hn]
theorem Xoy {l:List Xt} {y x:Xt} (h:l.getLast? =some y) (hn:x.s≠0∧y.s=x.s∧y.o+y.n=x.o):addX l x=l.dropLast++ [⟨y.s,y.o,y.n+x.n⟩]:=by
 unfold addX;rw [h];show (if _ then _ else _)=_;rw [if_pos hn]
theorem Xf9 {l:List Xt} {y:Xt} (h:l.getLast? =some y):y∈l:=List.mem_of_getLast? h
theorem Xvl {l:List Xt} {x:Xt} {n m:Int} (hm:0≤m) (hl:∀z∈l,XB n z) (hx:XB m x) (hn:0≤n):∀z∈addX l x,XB (n+m) z:=by
 intro z hz
 cases hg:l.getLast? with
 |none=>
  have:l= []:=List.getLast?_eq_none_iff.1 hg
  subst this
  rw [Xox] at hz
  simp at hz;subst hz
  exact hx.mono (by omega)
 |some y=>
  have hy:=hl y (Xf9 hg)
  by_cases hc:x.s≠0∧y.s=x.s∧y.o+y.n=x.o
  ·rw [Xoy hg hc] at hz
   rcases List.mem_append.1 hz with hz|hz
   ·exact (hl z (List.dropLast_subset _ hz)).mono (by omega)
   ·simp at hz;subst hz
    unfold XB at*
    simp only
    omega
  ·rw [Xoz hg hc] at hz
   rcases List.mem_append.1 hz with hz|hz
   ·exact (hl z hz).mono (by omega)
   ·simp at hz;subst hz
    exact hx.mono (by omega)
theorem Xn0 {I:IH} (W:World) (n:Nat) (hn:n=W.heap.size):OwnS tXt 73 I (W.alloc (.cells #[] 73)) n (.slice (some ⟨n,0,none⟩) 0 0) []:=by
 subst hn
 exact ⟨[],World.ownsRow_made W #[] 0 (Qn _) (Nat.zero_le _) (by simp),LiesL.nil _ _⟩
theorem SrcS.of_own {α:Type} {T:Ty α} {E:TypeId} {I:IH} {w:World} {B:Nat} {v:Value} {l:List α} (h:OwnS T E I w B v l):SrcS T I w v l:=by
 obtain ⟨xs,h1,h2⟩:=h
 rcases id h1.2 with ⟨hv,h0⟩|⟨g,cap,cur,hv,_⟩
 ·exact ⟨none,0,xs,by rw [h0];exact hv,h2,fun h=>by omega⟩
 ·refine ⟨_,cap,xs,hv,h2,fun _=>⟨_,rfl,fun j u hu=> ?_⟩⟩
  exact h1.cells (by rw [hv];rfl) j u hu
def AddR (I:IH) (B:Nat) (w:World) (v:Value) (l:List Xt) (e:Ending) (w':World):Prop:=
 ∃v',e= .returned v'∧OwnS tXt 73 I w' B v' l∧w.grownBy w' v.ownBlock∧ ∀g,v'.ownBlock=some g→v.ownBlock=some g∨w.heap.size≤g
set_option maxRecDepth 100000 in
set_option maxHeartbeats 1000000 in
theorem Xpf (I:IH) (B:Nat) (v0:Value) (x:Xt) (w:World) (hv:OwnS tXt 73 I w B v0 []) (hB:B≤w.heap.size):
 Calls Tryz.prog 85 #[v0,xtW x] w (AddR I B w v0 (addX [] x)):=by
 have Hn:=Qh (Xox x)
 obtain ⟨ao,n,cap,hvv,hn0⟩:∃ao n cap,v0= .slice ao n cap∧n=0:=by
  obtain ⟨xs,h1,_⟩:=hv
  rcases h1.2 with ⟨h,_⟩|⟨g,cap,cur,h,_⟩
  ·exact ⟨_,_,_,h,rfl⟩
  ·exact ⟨_,_,_,h,rfl⟩
 subst hvv
 subst hn0
 have hbb:Below w.heap.size w (w.alloc (.cells #[.int .i64 x.s,.int .i64 x.o,.int .i64 x.n] 73)):=(Qb _ _).alloc (Qn _) _
 have c0:(w.alloc (.cells #[.int .i64 x.s,.int .i64 x.o,.int .i64 x.n] 73)).cell? ⟨w.heap.size,0,none⟩=some (.int .i64 x.s):=by simp
 have c1:(w.alloc (.cells #[.int .i64 x.s,.int .i64 x.o,.int .i64 x.n] 73)).cell? ⟨w.heap.size,1,none⟩=some (.int .i64 x.o):=by simp
 have c2:(w.alloc (.cells #[.int .i64 x.s,.int .i64 x.o,.int .i64 x.n] 73)).cell? ⟨w.heap.size,2,none⟩=some (.int .i64 x.n):=by simp
 have Ha:=Qh (hv.alloc (.cells #[.int .i64 x.s,.int .i64 x.o,.int .i64 x.n] 73))
 clear hv
 go_enter Tryz.func85,Tryz.ntmps85
 go_wp2_with fail
 generalize (w.alloc (.cells #[.int .i64 x.s,.int .i64 x.o,.int .i64 x.n] 73))=w1 at hbb c0 c1 c2 Ha ⊢
 refine wp_region_quiet_below (by kernel_rfl) (by kernel_rfl) ?_
 repeat (go_big_quiet_step ((fail)))
 refine wpQuiet_nil ?_
 intro w2 hwq
 have hb2:Below (w1).heap.size (w1) w2:=by
  obtain ⟨pq,rfl⟩:=hwq
  exact below_regrown _ _ _
 clear hwq
 have hgr1:=Xbe (hbb.trans (hb2.mono hbb.size)) (Value.slice ao 0 cap).ownBlock
 replace Ha:=Qh (Ha.out.below hb2)
 replace c0:=Xaa hb2 c0
 replace c1:=Xaa hb2 c1
 replace c2:=Xaa hb2 c2
 have hB1:B≤w2.heap.size:=by have:=hgr1.size;omega
 go_wp2_with (at_builtin;refine Xaz (w0:=w2) Xgw rfl _ _ rfl B _ _ rfl Ha.out x (xtL x) _ rfl rfl (by (try simp only [List.length_nil]);omega) (by (try simp only [List.length_nil]);omega) hB1 ?_)
 intro v9 w9 hown9 hg9 hl9
 have hgr:=Xa8 hgr1 hg9
 have hsz:=hgr1.size
 go_wp2
 go_ret
 exact ⟨_,rfl,(by rw [Hn.out];exact hown9),hgr,fun g h=>(hl9 g h).imp id (fun h=>by omega)⟩
set_option maxRecDepth 100000 in
set_option maxHeartbeats 2000000 in
theorem Xpe (I:IH) (B:Nat) (v0:Value) (l:List Xt) (x:Xt) (w:World) (hv:OwnS tXt 73 I w B v0 l) (hB:B≤w.heap.size) (h0:0<l.length) (hn:l.length≤100000) (hl:∀z∈l,XB 1099511627776 z) (hx:XB 1099511627776 x):
 Calls Tryz.prog 85 #[v0,xtW x] w (AddR I B w v0 (addX l x)):=by
 have hbb:Below w.heap.size w (w.alloc (.cells #[.int .i64 x.s,.int .i64 x.o,.int .i64 x.n] 73)):=(Qb _ _).alloc (Qn _) _
 have c0:(w.alloc (.cells #[.int .i64 x.s,.int .i64 x.o,.int .i64 x.n] 73)).cell? ⟨w.heap.size,0,none⟩=some (.int .i64 x.s):=by simp
 have c1:(w.alloc (.cells #[.int .i64 x.s,.int .i64 x.o,.int .i64 x.n] 73)).cell? ⟨w.heap.size,1,none⟩=some (.int .i64 x.o):=by simp
 have c2:(w.alloc (.cells #[.int .i64 x.s,.int .i64 x.o,.int .i64 x.n] 73)).cell? ⟨w.heap.size,2,none⟩=some (.int .i64 x.n):=by simp
 have hv1:=hv.alloc (.cells #[.int .i64 x.s,.int .i64 x.o,.int .i64 x.n] 73)
 obtain ⟨g,cap,y,rfl,hcp,hy,hbg,hlt,y0,y1,y2,hfr⟩:=Xoc hv1 h0
 have Ha:=Qh hv1
 have Happ:=Qh (fun h=>Xoz (l:=l) (x:=x) hy h)
 have Hmrg:=Qh (fun h=>Xoy (l:=l) (x:=x) hy h)
 have hyb:=hl y (Xf9 hy)
 unfold XB at hx hyb
 have Hy:=Qh hy
 clear hv hv1 hl hy
 have i1:(0:Int)<(l.length:Int):=by omega
 have m1:IntKind.i64.wrap ((l.length:Int)-1)=((l.length-1:Nat):Int):=by rw [IntWalk.i64_in _ (by omega)];omega
 have m2:IntKind.i64.wrap (y.o+y.n)=y.o+y.n:=IntWalk.i64_in _ (by omega)
 have m3:(l.length:Int)-1=((l.length-1:Nat):Int):=by omega
 have i2:l.length-1<l.length:=by omega
 have g0:=cell_regrown y0
 have g1:=cell_regrown y1
 have g2:=cell_regrown y2
 have z0:=cell_regrown c0
 have z1:=cell_regrown c1
 have z2:=cell_regrown c2
 by_cases hs0:x.s=0
 ·have e1:(x.s != 0)=false:=by simpa using hs0
  have e2:(x.s==0)=true:=by simpa using hs0
  have Hn:=Qh (Happ.out (by rintro ⟨h,_⟩;exact h hs0))
  clear hs0 Happ Hmrg
  go_enter Tryz.func85,Tryz.ntmps85
  go_wp2_with fail
  generalize (w.alloc (.cells #[.int .i64 x.s,.int .i64 x.o,.int .i64 x.n] 73))=w1 at hbb c0 c1 c2 y0 y1 y2 g0 g1 g2 z0 z1 z2 Ha ⊢
  refine wp_region_quiet_below (by kernel_rfl) (by kernel_rfl) ?_
  repeat (go_big_quiet_step ((fail)))
  refine wpQuiet_nil ?_
  intro w2 hwq
  have hb2:Below (w1).heap.size (w1) w2:=by
   obtain ⟨pq,rfl⟩:=hwq
   exact below_regrown _ _ _
  clear hwq
  have hbb2:=hbb.trans (hb2.mono hbb.size)
  have hgr1:=Xbe hbb2 (Value.slice (some ⟨g,0,none⟩) l.length cap).ownBlock
  replace Ha:=Qh (Ha.out.below hb2)
  replace c0:=Xaa hb2 c0
  replace c1:=Xaa hb2 c1
  replace c2:=Xaa hb2 c2
  have hB1:B≤w2.heap.size:=by have:=hgr1.size;omega
  clear y0 y1 y2 g0 g1 g2 z0 z1 z2
  go_wp2_with (at_builtin;refine Xaz (w0:=w2) Xgw rfl _ _ rfl B _ _ rfl Ha.out x (xtL x) _ rfl rfl (by (try simp only [List.length_nil]);omega) (by (try simp only [List.length_nil]);omega) hB1 ?_)
  intro v9 w9 hown9 hg9 hl9
  have hgr:=Xa8 hgr1 hg9
  have hsz:=hgr1.size
  go_wp2
  go_ret
  exact ⟨_,rfl,(by rw [Hn.out];exact hown9),hgr,fun g h=>(hl9 g h).imp id (fun h=>by omega)⟩
 have e1:(x.s != 0)=true:=by simpa using hs0
 have e2:(x.s==0)=false:=by simpa using hs0
 by_cases hss:y.s=x.s
 case neg=>
  have e3:(y.s==x.s)=false:=by simpa using hss
  have Hn:=Qh (Happ.out (by rintro ⟨_,h,_⟩;exact hss h))
  clear hs0 hss Happ Hmrg
  go_enter Tryz.func85,Tryz.ntmps85
  go_wp2_with fail
  generalize (w.alloc (.cells #[.int .i64 x.s,.int .i64 x.o,.int .i64 x.n] 73))=w1 at hbb c0 c1 c2 y0 y1 y2 g0 g1 g2 z0 z1 z2 Ha ⊢
  refine wp_region_quiet_below (by kernel_rfl) (by kernel_rfl) ?_
  repeat (go_big_quiet_step ((fail)))
  refine wpQuiet_nil ?_
  intro w2 hwq
  have hb2:Below (w1).heap.size (w1) w2:=by
   obtain ⟨pq,rfl⟩:=hwq
   exact below_regrown _ _ _
  clear hwq
  have hbb2:=hbb.trans (hb2.mono hbb.size)
  have hgr1:=Xbe hbb2 (Value.slice (some ⟨g,0,none⟩) l.length cap).ownBlock
  replace Ha:=Qh (Ha.out.below hb2)
  replace c0:=Xaa hb2 c0
  replace c1:=Xaa hb2 c1
  replace c2:=Xaa hb2 c2
  have hB1:B≤w2.heap.size:=by have:=hgr1.size;omega
  clear y0 y1 y2 g0 g1 g2 z0 z1 z2
  go_wp2_with (at_builtin;refine Xaz (w0:=w2) Xgw rfl _ _ rfl B _ _ rfl Ha.out x (xtL x) _ rfl rfl (by (try simp only [List.length_nil]);omega) (by (try simp only [List.length_nil]);omega) hB1 ?_)
  intro v9 w9 hown9 hg9 hl9
  have hgr:=Xa8 hgr1 hg9
  have hsz:=hgr1.size
  go_wp2
  go_ret
  exact ⟨_,rfl,(by rw [Hn.out];exact hown9),hgr,fun g h=>(hl9 g h).imp id (fun h=>by omega)⟩
 have e3:(y.s==x.s)=true:=by simpa using hss
 by_cases hoo:y.o+y.n=x.o
 case neg=>
  have e4:(y.o+y.n==x.o)=false:=by simpa using hoo
  have Hn:=Qh (Happ.out (by rintro ⟨_,_,h⟩;exact hoo h))
  clear hs0 hss hoo Happ Hmrg
  go_enter Tryz.func85,Tryz.ntmps85
  go_wp2_with fail
  generalize (w.alloc (.cells #[.int .i64 x.s,.int .i64 x.o,.int .i64 x.n] 73))=w1 at hbb c0 c1 c2 y0 y1 y2 g0 g1 g2 z0 z1 z2 Ha ⊢
  refine wp_region_quiet_below (by kernel_rfl) (by kernel_rfl) ?_
  repeat (go_big_quiet_step ((fail)))
  refine wpQuiet_nil ?_
  intro w2 hwq
  have hb2:Below (w1).heap.size (w1) w2:=by
   obtain ⟨pq,rfl⟩:=hwq
   exact below_regrown _ _ _
  clear hwq
  have hbb2:=hbb.trans (hb2.mono hbb.size)
  have hgr1:=Xbe hbb2 (Value.slice (some ⟨g,0,none⟩) l.length cap).ownBlock
  replace Ha:=Qh (Ha.out.below hb2)
  replace c0:=Xaa hb2 c0
  replace c1:=Xaa hb2 c1
  replace c2:=Xaa hb2 c2
  have hB1:B≤w2.heap.size:=by have:=hgr1.size;omega
  clear y0 y1 y2 g0 g1 g2 z0 z1 z2
  go_wp2_with (at_builtin;refine Xaz (w0:=w2) Xgw rfl _ _ rfl B _ _ rfl Ha.out x (xtL x) _ rfl rfl (by (try simp only [List.length_nil]);omega) (by (try simp only [List.length_nil]);omega) hB1 ?_)
  intro v9 w9 hown9 hg9 hl9
  have hgr:=Xa8 hgr1 hg9
  have hsz:=hgr1.size
  go_wp2
  go_ret
  exact ⟨_,rfl,(by rw [Hn.out];exact hown9),hgr,fun g h=>(hl9 g h).imp id (fun h=>by omega)⟩
 have e4:(y.o+y.n==x.o)=true:=by simpa using hoo
 have Hn:=Qh (Hmrg.out ⟨hs0,hss,hoo⟩)
 clear hs0 hss hoo Happ Hmrg
 go_enter Tryz.func85,Tryz.ntmps85
 go_wp2_with fail
 generalize (w.alloc (.cells #[.int .i64 x.s,.int .i64 x.o,.int .i64 x.n] 73))=w1 at hbb c0 c1 c2 y0 y1 y2 g0 g1 g2 z0 z1 z2 Ha ⊢
 refine wp_region_quiet_below (by kernel_rfl) (by kernel_rfl) ?_
 repeat (go_big_quiet_step ((fail)))
 refine wpQuiet_nil ?_
 intro w2 hwq
 have hb2:Below (w1).heap.size (w1) w2:=by
  obtain ⟨pq,rfl⟩:=hwq
  exact below_regrown _ _ _
 clear hwq
 have hbb2:=hbb.trans (hb2.mono hbb.size)
 have hgr1:=Xbe hbb2 (Value.slice (some ⟨g,0,none⟩) l.length cap).ownBlock
 replace Ha:=Qh (Ha.out.below hb2)
 replace c0:=Xaa hb2 c0
 replace c1:=Xaa hb2 c1
 replace c2:=Xaa hb2 c2
 have hB1:B≤w2.heap.size:=by have:=hgr1.size;omega
 clear y0 y1 y2 g0 g1 g2 z0 z1 z2
 have hE:=(Xn0 (I:=I) w2 w2.heap.size rfl)
 have hS:=SrcS.of_own (Ha.out.alloc (.cells #[] 73))
 go_wp2_with (at_builtin;refine Xcd Xgw rfl _ _ rfl rfl hE rfl hS (by (try simp only [List.length_nil]);omega) (by (try simp only [List.length_nil]);omega) (by simp) ?_)
 intro v6 w3 hown3 hg3
 have hb3:Below w2.heap.size w2 w3:=Below.own ((Qb _ w2).alloc (Qn _) (.cells #[] 73)) hg3 hE (Qn _) (by simp)
 obtain ⟨g6,cap6,y6,rfl,hcp6,hy6,hbg6,hlt6,y0,y1,y2,hfr6⟩:=Xoc hown3 h0
 obtain rfl:y=y6:=by rw [Hy.out] at hy6;exact Option.some.inj hy6
 replace c2:=Xaa hb3 c2
 have Hown3:=Qh hown3
 have hgr2:=Xa8 hgr1 (Xbe hb3 (Value.slice (some ⟨g,0,none⟩) l.length cap).ownBlock)
 have hfr:=hfr6 ((l.length-1)*3+2)
 have m4:IntKind.i64.wrap (y.n+x.n)=y.n+x.n:=IntWalk.i64_in _ (by omega)
 have hsz2:=hgr1.size
 clear hown3 hg3 hb3 hE hS hfr6 Ha c0 c1 y0 y1 hgr1 hbb hbb2 hb2
 go_wp2_with fail
 go_big_region
 go_wp2
 go_ret
 exact ⟨_,rfl,by rw [Hn.out];exact (Xtg Hown3.out Hy.out).lower (by omega),by first|exact Xi2 hgr2 (by omega) _ _|exact Xnn (Xi2 hgr2 (by omega) _ _),fun q hq=> .inr (by simp [Value.ownBlock] at hq;omega)⟩
theorem Xhg (I:IH) (B:Nat) (v0:Value) (l:List Xt) (x:Xt) (w:World) (hv:OwnS tXt 73 I w B v0 l) (hB:B≤w.heap.size) (hn:l.length≤100000) (hl:∀z∈l,XB 1099511627776 z) (hx:XB 1099511627776 x):
 Calls Tryz.prog 85 #[v0,xtW x] w (AddR I B w v0 (addX l x)):=by
 cases l with
 |nil=>exact Xpf I B v0 x w hv hB
 |cons a l=>exact Xpe I B v0 (a::l) x w hv hB (by simp) hn hl hx
theorem Xnq {s:Bytes} {k h:Nat} (hk:k<s.length) {N:Nat} (hr:firstG (s.drop k) k h=N):(if k+1=96∨(16≤k+1∧ckH h (s.getD k 0)<2048) then k+1 else firstG (s.drop (k+1)) (k+1) (ckH h (s.getD k 0)))=N:=by
 rw [List.drop_eq_getElem_cons hk,firstG] at hr
 rw [←hr];simp [List.getD,hk]
theorem Xv0 (h:Nat) (b:UInt8):ckH h b<65536:=Nat.mod_lt _ (by decide)
theorem Xu7 (h:Nat) (b:UInt8):((2*(h:Int)+40503*((b.toNat:Int)+1))%65536)=((ckH h b:Nat):Int):=by unfold ckH;omega
set_option maxRecDepth 100000 in
set_option maxHeartbeats 1000000 in
theorem Xm9 (s:Bytes) (hs:s.length≤4294967280) (w:World):
 Calls Tryz.prog 139 #[S s] w fun e w'=>e= .returned (.int .i64 (firstP s:Nat))∧Below w.heap.size w w':=by
 obtain ⟨N,hN⟩:∃N,firstP s=N:=⟨_,rfl⟩
 have HN:=Qh (show firstG (s.drop 0) 0 0=N from hN)
 rw [hN]
 clear hN
 go_enter Tryz.func139,Tryz.ntmps139
 go_wp2_with fail
 go_loopw [3,4] (fun s3 s4 wr=> ∃k h:Nat,k≤s.length∧h<65536∧s4= .int .i64 k∧s3= .int .i64 h∧firstG (s.drop k) k h=N∧Below w.heap.size w wr) (fun _ i _=>s.length-(intOf i).toNat)
 case atStart=>exact ⟨0,0,Nat.zero_le _,by decide,rfl,rfl,HN.out,Qb _ _⟩
 case round=>
  clear HN
  obtain ⟨k,h,hk,hh,rfl,rfl,hr,hb⟩:=hrel
  have Hr:=Qh hr
  clear hr
  by_cases hlt:k<s.length
  ·have hx:=run_at (P:=Tryz.prog) Tryz.underlying9 s (k:Int) k rfl hlt
   have Hst:=Qh (Xnq hlt Hr.out)
   have hch:(s.getD k 0).toNat<256:=(s.getD k 0).toNat_lt
   have hcl:=Xv0 h (s.getD k 0)
   have hce:=Xu7 h (s.getD k 0)
   generalize hH:ckH h (s.getD k 0)=H at Hst hcl hce
   generalize (s.getD k 0).toNat=c at hx hch hce
   have m1:IntKind.i64.wrap (2*(h:Int))=2*(h:Int):=IntWalk.i64_in _ (by omega)
   have m2:IntKind.i64.wrap ((c:Int)+1)=(c:Int)+1:=IntWalk.i64_in _ (by omega)
   have m3:IntKind.i64.wrap (40503*((c:Int)+1))=40503*((c:Int)+1):=IntWalk.i64_in _ (by omega)
   have m4:IntKind.i64.wrap (2*(h:Int)+40503*((c:Int)+1))=2*(h:Int)+40503*((c:Int)+1):=IntWalk.i64_in _ (by omega)
   have m5:IntKind.i64.wrap ((k:Int)+1)=(k:Int)+1:=IntWalk.i64_in _ (by omega)
   clear hH Hr
   by_cases h96:k+1=96
   ·have Hn:=Qh (show k+1=N by have:=Hst.out;rwa [if_pos (.inl h96)] at this)
    have d1:((k:Int)+1==96)=true:=by simpa using (show (k:Int)+1=96 by omega)
    clear Hst h96
    go_wp2
    go_ret
    exact ⟨Xac (by rw [←Hn.out];go_num),hb⟩
   have d1:((k:Int)+1==96)=false:=by simpa using (show (k:Int)+1≠96 by omega)
   by_cases h16:16≤k+1
   ·have d2:decide ((16:Int)≤(k:Int)+1)=true:=Qt (by omega)
    by_cases hlh:H<2048
    ·have Hn:=Qh (show k+1=N by have:=Hst.out;rwa [if_pos (.inr ⟨h16,hlh⟩)] at this)
     have d3:decide ((H:Int)<2048)=true:=Qt (by omega)
     clear Hst h96 h16
     go_wp2
     go_ret
     exact ⟨Xac (by rw [←Hn.out];go_num),hb⟩
    ·have Hn:=Qh (show firstG (s.drop (k+1)) (k+1) H=N by have:=Hst.out;rwa [if_neg (by omega)] at this)
     have d3:decide ((H:Int)<2048)=false:=Qf (by omega)
     clear Hst h96 h16
     go_wp2
     go_roundw
     case rel=>exact ⟨k+1,H,by omega,hcl,by go_num,by rw [hce],Hn.out,hb⟩
     case measure=>simp [intOf];omega
   ·have d2:decide ((16:Int)≤(k:Int)+1)=false:=Qf (by omega)
    have Hn:=Qh (show firstG (s.drop (k+1)) (k+1) H=N by have:=Hst.out;rwa [if_neg (by omega)] at this)
    clear Hst h96 h16
    go_wp2
    go_roundw
    case rel=>exact ⟨k+1,H,by omega,hcl,by go_num,by rw [hce],Hn.out,hb⟩
    case measure=>simp [intOf];omega
  ·have Hn:=Qh (show s.length=N by have:=Hr.out;rw [List.drop_of_length_le (by omega),firstG] at this;omega)
   go_wp2
   go_ret
   exact ⟨Xac (by rw [←Hn.out]),hb⟩
set_option maxRecDepth 100000 in
set_option maxHeartbeats 1000000 in
theorem Xm8 (I:IH) (s:Bytes) (hs:s.length≤4294967280) (w:World):
 Calls Tryz.prog 86 #[S s] w fun e w'=> ∃v',e= .returned v'∧OwnS tStr 9 I w' w.heap.size v' (chunksP s)∧Below w.heap.size w w':=by
 have Hst:=Qh (show OwnS tStr 9 I (w.alloc (.cells #[] 9)) w.heap.size (.slice (some ⟨w.heap.size,0,none⟩) 0 0) [] from ⟨[],World.ownsRow_made w #[] 0 (Qn _) (Nat.zero_le _) (by simp),LiesL.nil _ _⟩)
 obtain ⟨N,hN⟩:∃N,chunksP s=N:=⟨_,rfl⟩
 have HN:=Qh (show []++chunksP s=N from hN)
 rw [hN]
 have hs':=hs
 generalize hs0:s=s0 at HN hs'
 clear hN
 go_enter Tryz.func86,Tryz.ntmps86
 go_wp2_with fail
 go_loopw [0,3] (fun s0 s3 wr=> ∃(r:Bytes) (out:List Bytes),s0=S r∧r.length+out.length≤4294967280∧OwnS tStr 9 I wr w.heap.size s3 out∧out++chunksP r=N∧Below w.heap.size w wr) (fun r _ _=>(match r with| .string b=>b.size|_=>0))
 case atStart=>exact ⟨s0,[],rfl,by simpa using hs',Hst.out,HN.out,(Qb _ _).alloc (Qn _) _⟩
 case round=>
  clear Hst HN
  obtain ⟨r,out,rfl,hl,hown,hr,hb⟩:=hrel
  have Hown:=Qh hown
  have Hr:=Qh hr
  clear hown hr
  by_cases h0:r= []
  ·have f1:(0:Int)<(r.length:Int)↔False:=by rw [h0];simp
   have hl0:r.length=0:=by rw [h0];rfl
   have Hn:=Qh (show out=N by have:=Hr.out;rw [h0,Xp1,List.append_nil] at this;exact this)
   clear Hr h0 f1
   go_wp2
   go_ret
   exact ⟨_,rfl,(by rw [←Hn.out];exact Hown.out),hb⟩
  ·have hpos:=List.length_pos_iff.2 h0
   have hp:=Xd2 h0
   have hf:=Xlu r
   have Hf:=Qh (fun w=>Xm9 r (by omega) w)
   have Hn:=Qh (show (out++ [r.take (firstP r)])++chunksP (r.drop (firstP r))=N by rw [←Hr.out,Xh7 h0];simp)
   generalize firstP r=n at Hf Hn hp hf
   have hle:(n:Int)≤(r.length:Int):=by omega
   have hle0:(0:Int)≤(n:Int):=by omega
   clear Hr h0
   go_wp2_with fail
   refine (Hf.out _).mono ?_
   rintro e1 w1 ⟨rfl,hb1⟩
   have hb1':=hb.trans (hb1.mono hb.size)
   have Hown1:=Qh (Hown.out.below hb1)
   clear hb1 Hf Hown
   go_wp2_with (at_builtin;refine Xad (w0:=w1) Xgk rfl _ _ rfl _ _ _ rfl Hown1.out (r.take n) [S (r.take n)] _ rfl rfl (by omega) (by omega) (Below.size hb1') ?_)
   intro v9 w9 hown9 hg9
   have hb9:=Below.own hb1' hg9 Hown1.out (Qn _) (Below.size hb1')
   go_wp2
   go_roundw
   case rel=>exact ⟨r.drop n,_,by simp [List.take_of_length_le],by simp;omega,hown9,Hn.out,hb9⟩
   case measure=>simp [ByteArray.size];omega
set_option maxRecDepth 100000 in
set_option maxHeartbeats 1000000 in
theorem Xm6 (s:Bytes) (hs:s.length≤4294967280) (i:Nat) (hi:i≤s.length) (w:World):
 Calls Tryz.prog 138 #[S s,.int .i64 i] w fun e w'=>e= .returned (.int .i64 (zerosP (s.drop i):Nat))∧Below w.heap.size w w':=by
 obtain ⟨N,hN⟩:∃N,zerosP (s.drop i)=N:=⟨_,rfl⟩
 have HN:=Qh (show 0+zerosP (s.drop (i+0))=N by rw [Nat.zero_add];exact hN)
 rw [hN]
 clear hN
 go_enter Tryz.func138,Tryz.ntmps138
 go_wp2_with fail
 go_loopw [5] (fun s5 wr=> ∃n:Nat,i+n≤s.length∧s5= .int .i64 n∧n+zerosP (s.drop (i+n))=N∧Below w.heap.size w wr) (fun n _=>s.length-(intOf n).toNat)
 case atStart=>exact ⟨0,by omega,rfl,HN.out,Qb _ _⟩
 case round=>
  clear HN
  obtain ⟨n,hn,rfl,hr,hb⟩:=hrel
  have Hr:=Qh hr
  clear hr
  have m1:IntKind.i64.wrap ((i:Int)+(n:Int))=(i:Int)+(n:Int):=IntWalk.i64_in _ (by omega)
  by_cases hlt:i+n<s.length
  ·have hx:=run_at (P:=Tryz.prog) Tryz.underlying9 s ((i:Int)+(n:Int)) (i+n) (by omega) hlt
   have d1:decide ((i:Int)+(n:Int)<(s.length:Int))=true:=Qt (by omega)
   have hst:n+(if s.getD (i+n) 0=0 then zerosP (s.drop (i+n+1))+1 else 0)=N:=by
    rw [←Hr.out,List.drop_eq_getElem_cons hlt,zerosP]
    simp [List.getD,hlt]
   have he:=Xuz (s.getD (i+n) 0) 0 (by decide)
   have he':((((s.getD (i+n) 0).toNat:Nat):Int)==0)=(s.getD (i+n) 0==0):=he
   have Hst:=Qh hst
   clear hst he
   generalize s.getD (i+n) 0=ch at hx Hst he'
   cases hc:(ch==0)
   ·rw [hc] at he'
    have Hn:=Qh (show n=N by have:=Hst.out;rwa [if_neg (by simpa using hc),Nat.add_zero] at this)
    clear hc Hst Hr
    go_wp2
    go_ret
    exact ⟨Xac (by rw [←Hn.out]),hb⟩
   ·rw [hc] at he'
    have Hn:=Qh (show n+1+zerosP (s.drop (i+(n+1)))=N by
     have:=Hst.out
     rw [if_pos (by simpa using hc)] at this
     rw [←this,show i+(n+1)=i+n+1 by omega];omega)
    clear hc Hst Hr
    go_wp2
    go_roundw
    case rel=>exact ⟨n+1,by omega,by go_num,Hn.out,hb⟩
    case measure=>simp [intOf];omega
  ·have d1:decide ((i:Int)+(n:Int)<(s.length:Int))=false:=Qf (by omega)
   have Hn:=Qh (show n=N by have:=Hr.out;rwa [List.drop_of_length_le (by omega),zerosP,Nat.add_zero] at this)
   clear Hr
   go_wp2
   go_ret
   exact ⟨Xac (by rw [←Hn.out]),hb⟩
def tSg:Ty Sg:=Ty.flat 2 (fun x=> [.int .i64 x.n,S x.d]) (fun _=>rfl) (fun _ u h=>by simp at h;rcases h with rfl|rfl<;>rfl)
theorem Xuh:(Tryz.prog.info? 141).map (fun i=>(i.zero,i.size,i.bytes))=some (some (.agg #[.int .i64 0,.string ⟨#[]⟩]),2,24):=by kernel_rfl
theorem Xjh:ElemOk Tryz.prog 138 141 tSg 24:=ElemOk.of Tryz.underlying138 Xuh rfl (by decide) rfl
theorem sgAt {I:IH} {v:Value} {l:List Sg} {w:World} (h:RdS tSg I v l) (hw:Ok I w) (i:Nat) (hi:i<l.length):∃x b off cap,l[i]=x∧v= .slice (some ⟨b,off,none⟩) l.length cap∧
 w.cell? ⟨b,off+i*2,none⟩=some (.int .i64 x.n)∧w.cell? ⟨b,off+i*2+1,none⟩=some (S x.d):=by
 obtain ⟨b,off,cap,cs,hv,hcs,hc⟩:=h.at_ hw hi
 have hcs':cs= [.int .i64 l[i].n,S l[i].d]:=hcs
 subst hcs'
 exact ⟨_,b,off,cap,rfl,hv,hc 0 _ rfl,hc 1 _ rfl⟩
def accP (s:Bytes) (f i:Nat):Bytes:=(s.drop f).take (i-f)
theorem Xsm {s:Bytes} {i:Nat}:accP s i i= []:=by simp [accP]
theorem Xvm {s:Bytes} {f i:Nat} (hi:i≤s.length):(accP s f i).length=i-f:=by simp [accP];omega
theorem Xuc {s:Bytes} {f i m:Nat} (hf:f≤i):accP s f i++(s.drop i).take m=accP s f (i+m):=by
 unfold accP
 rw [show i+m-f=(i-f)+m by omega,List.take_add,List.drop_drop,show f+(i-f)=i by omega]
theorem Xqn {d:Bytes} (h:0<d.length):dataG d= [⟨0,d⟩]:=by
 unfold dataG;rw [if_neg (List.length_pos_iff.1 h)]
theorem Xqm {d:Bytes} (h:d.length=0):dataG d= []:=by
 unfold dataG;rw [if_pos (List.eq_nil_of_length_eq_zero h)]
set_option maxRecDepth 100000 in
set_option maxHeartbeats 2000000 in
theorem Xm7 (I:IH) (s:Bytes) (hs:s.length≤4294967280) (w:World):
 Calls Tryz.prog 84 #[S s] w fun e w'=> ∃v',e= .returned v'∧OwnS tSg 141 I w' w.heap.size v' (segsP s)∧Below w.heap.size w w':=by
 have Hst:=Qh (show OwnS tSg 141 I (w.alloc (.cells #[] 141)) w.heap.size (.slice (some ⟨w.heap.size,0,none⟩) 0 0) [] from ⟨[],World.ownsRow_made w #[] 0 (Qn _) (Nat.zero_le _) (by simp),LiesL.nil _ _⟩)
 obtain ⟨N,hN⟩:∃N,segsP s=N:=⟨_,rfl⟩
 have HN:=Qh (show []++segR (accP s 0 0) (s.drop 0)=N by rw [Xsm];exact hN)
 rw [hN]
 clear hN
 go_enter Tryz.func84,Tryz.ntmps84
 go_wp2_with fail
 go_loopw [3,4,5] (fun s3 s4 s5 wr=> ∃(f i:Nat) (out:List Sg),f≤i∧i≤s.length∧s4= .int .i64 f∧s5= .int .i64 i∧out.length≤2*f∧OwnS tSg 141 I wr w.heap.size s3 out∧out++segR (accP s f i) (s.drop i)=N∧Below w.heap.size w wr) (fun _ _ i _=>s.length-(intOf i).toNat)
 case atStart=>exact ⟨0,0,[],Qn _,Nat.zero_le _,rfl,rfl,Qn _,Hst.out,HN.out,(Qb _ _).alloc (Qn _) _⟩
 case round=>
  clear Hst HN
  obtain ⟨f,i,out,hfi,hi,rfl,rfl,hol,hown,hr,hb⟩:=hrel
  have Hown:=Qh hown
  have Hr:=Qh hr
  clear hown hr
  have hal:=Xvm (f:=f) hi
  have f0:(0:Int)≤f:=by omega
  have f1:(f:Int)≤i:=by omega
  have f2:(i:Int)≤s.length:=by omega
  by_cases hlt:i<s.length
  ·have Hz:=Qh (fun w=>Xm6 s hs i hi w)
   have hne:s.drop i≠ []:=by
    intro e
    have:=congrArg List.length e
    rw [List.length_drop] at this
    simp at this;omega
   have hzl:=Xgt (s.drop i)
   rw [List.length_drop] at hzl
   have Hh:=Qh (fun h=>Xs4 (acc:=accP s f i) hne h)
   have Hd:=Qh (fun h=>Xs5 (acc:=accP s f i) hne h)
   obtain ⟨z,hz⟩:∃z,zerosP (s.drop i)=z:=⟨_,rfl⟩
   rw [hz] at Hz hzl Hh Hd
   clear hne hz
   go_wp2_with fail
   refine (Hz.out _).mono ?_
   rintro e1 w1 ⟨rfl,hb1⟩
   have hb1':=hb.trans (hb1.mono hb.size)
   have Hown1:=Qh (Hown.out.below hb1)
   clear hb1 Hz Hown
   by_cases h32:32≤z
   ·have d1:decide ((32:Int)≤(z:Int))=true:=Qt (by omega)
    have hi2:=hi
    have hn:out++(dataG (accP s f i)++⟨(z:Nat),[]⟩::segR (accP s (i+z) (i+z)) (s.drop (i+z)))=N:=by
     rw [Xsm,←Hr.out,Hh.out h32,List.drop_drop]
    have Hn:=Qh hn
    clear hn Hh Hd Hr
    by_cases hgt:f<i
    ·have Hn2:=Qh (show (out++ [⟨0,accP s f i⟩])++ [⟨(z:Nat),[]⟩]++segR (accP s (i+z) (i+z)) (s.drop (i+z))=N by
      rw [←Hn.out,Xqn (by omega)];simp)
     have hg2:(f:Int)<i:=by omega
     clear Hn
     go_wp2_with (at_builtin;refine Xad (w0:=w1) Xjh rfl _ _ rfl _ _ _ rfl Hown1.out ⟨0,accP s f i⟩ [.int .i64 0,S (accP s f i)] _ rfl rfl (by (try simp only [List.length_append,List.length_singleton]);omega) (by (try simp only [List.length_append,List.length_singleton]);omega) (Below.size hb1') ?_)
     intro v9 w9 hown9 hg9
     have hb9:=Below.own hb1' hg9 Hown1.out (Qn _) (Below.size hb1')
     go_wp2_with (at_builtin;refine Xad (w0:=w9) Xjh rfl _ _ rfl _ _ _ rfl hown9 ⟨(z:Nat),[]⟩ [.int .i64 z,S []] _ rfl rfl (by (try simp only [List.length_append,List.length_singleton]);omega) (by (try simp only [List.length_append,List.length_singleton]);omega) (Below.size hb9) ?_)
     intro v8 w8 hown8 hg8
     have hb8:=Below.own hb9 hg8 hown9 (Qn _) (Below.size hb9)
     go_wp2
     go_roundw
     case rel=>exact ⟨i+z,i+z,_,Qn _,by omega,by go_num,by go_num,by simp;omega,hown8,by simpa using Hn2.out,hb8⟩
     case measure=>simp [intOf];omega
    ·have hif:i=f:=by omega
     have Hn2:=Qh (show out++ [⟨(z:Nat),[]⟩]++segR (accP s (i+z) (i+z)) (s.drop (i+z))=N by
      rw [←Hn.out,Xqm (by omega)];simp)
     have hg2:¬(f:Int)<i:=by omega
     clear Hn
     go_wp2_with (at_builtin;refine Xad (w0:=w1) Xjh rfl _ _ rfl _ _ _ rfl Hown1.out ⟨(z:Nat),[]⟩ [.int .i64 z,S []] _ rfl rfl (by (try simp only [List.length_append,List.length_singleton]);omega) (by (try simp only [List.length_append,List.length_singleton]);omega) (Below.size hb1') ?_)
     intro v9 w9 hown9 hg9
     have hb9:=Below.own hb1' hg9 Hown1.out (Qn _) (Below.size hb1')
     go_wp2
     go_roundw
     case rel=>exact ⟨i+z,i+z,_,Qn _,by omega,by go_num,by go_num,by simp;omega,hown9,Hn2.out,hb9⟩
     case measure=>simp [intOf];omega
   ·have d1:decide ((32:Int)≤(z:Int))=false:=Qf (by omega)
    have Hn:=Qh (show out++segR (accP s f (i+max z 1)) (s.drop (i+max z 1))=N by
     rw [←Hr.out,Hd.out h32,Xuc hfi,List.drop_drop])
    clear Hh Hd Hr
    by_cases hz0:z=0
    ·have hze:((z:Int)==0)=true:=by rw [hz0];rfl
     have Hn2:=Qh (show out++segR (accP s f (i+1)) (s.drop (i+1))=N by rw [←Hn.out,hz0];rfl)
     clear Hn
     go_wp2
     go_roundw
     case rel=>exact ⟨f,i+1,_,by omega,by omega,rfl,by go_num,hol,Hown1.out,Hn2.out,hb1'⟩
     case measure=>simp [intOf];omega
    ·have hze:((z:Int)==0)=false:=by simpa using hz0
     have Hn2:=Qh (show out++segR (accP s f (i+z)) (s.drop (i+z))=N by rw [←Hn.out,Nat.max_eq_left (by omega)])
     clear Hn
     go_wp2
     go_roundw
     case rel=>exact ⟨f,i+z,_,by omega,by omega,rfl,by go_num,hol,Hown1.out,Hn2.out,hb1'⟩
     case measure=>simp [intOf];omega
  ·have hie:i=s.length:=by omega
   have hn:out++dataG (accP s f i)=N:=by have:=Hr.out;rwa [List.drop_of_length_le (by omega),Xuk] at this
   have Hn:=Qh hn
   clear hn Hr
   by_cases hgt:f<s.length
   ·have Hn2:=Qh (show out++ [⟨0,accP s f i⟩]=N by rw [←Hn.out,Xqn (by omega)])
    have hg2:(f:Int)<s.length:=by omega
    clear Hn
    subst hie
    go_wp2_with (at_builtin;refine Xad (w0:=wr) Xjh rfl _ _ rfl _ _ _ rfl Hown.out ⟨0,accP s f s.length⟩ [.int .i64 0,S (accP s f s.length)] _ rfl rfl (by (try simp only [List.length_append,List.length_singleton]);omega) (by (try simp only [List.length_append,List.length_singleton]);omega) (Below.size hb) ?_)
    intro v9 w9 hown9 hg9
    have hb9:=Below.own hb hg9 Hown.out (Qn _) (Below.size hb)
    go_wp2
    go_ret
    exact ⟨_,rfl,(by rw [←Hn2.out];exact hown9),hb9⟩
   ·have hif:i=f:=by omega
    have Hn2:=Qh (show out=N by rw [←Hn.out,Xqm (by omega),List.append_nil])
    have hg2:¬(f:Int)<s.length:=by omega
    clear Hn
    go_wp2
    go_ret
    exact ⟨_,rfl,(by rw [←Hn2.out];exact Hown.out),hb⟩
end Go.Proofs.YtdeknddamidldaaGreatDoor
