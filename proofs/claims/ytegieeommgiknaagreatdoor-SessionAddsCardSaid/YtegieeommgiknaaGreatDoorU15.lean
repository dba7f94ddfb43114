/- Lemmas for the claim's theorem;conditions: as each says. -/
import Derived.Test.YtegieeommgiknaaGreatDoorU14
import Derived.Laws.OwnMore
import Derived.Maps.Own
import Derived.Maps.OwnOps
import Derived.Maps.OwnSet
import Derived.Maps.Views
set_option maxHeartbeats 0
set_option maxRecDepth 100000
set_option linter.all false
namespace Go.Proofs.YtegieeommgiknaaGreatDoor
open Go.RowKit
variable{w:World}{y:Xt}{I:IH}{x:Xt}{l:List Ck}{v:Value}{s:af}{W:World}{n:Int}{i:Nat}{d:af}{c:Ck}{D:DataW Unit}{α:Type}{T:Ty α}{g:Nat}{m:Int}{B k f:Nat}
theorem Lx{P:Program}{ts te:TypeId}{bytes:Nat}(hE:eZ P ts te T bytes){w0:World}{ops:Array Oper}{rest:List Oper}{o:Oper}{a:Act}{Q:Exit→Act→World→Prop}(Ak:o.guard=none)(s x:Operand)
 (ho:o.op= .call {callee:= .builtin .append,args:=#[s,x],argTypes:=#[ts,ts]}) (B:Nat) (v:Value) (l:List α) (hs:a.eval s=v) (bU:aQ T te I w0 B v l)
 (y:α) (cs:List Value) (tb:TypeId) (hx:a.eval x= .slice (some ⟨w0.heap.size,0,none⟩) 1 1) (hy:T.rd I cs y) (iw:(l.length+1)*bytes≤140737488355328) (hl:l.length+1≤9223372036854775807) (hB:B≤w0.heap.size)
 (h:∀v' w',aQ T te I w' B v' (l++[y])→w0.grownBy w' v.ownBlock→(∀g,v'.ownBlock=some g→v.ownBlock=some g∨w0.heap.size≤g)→wpList P ops Q rest (a.put o.dst v') w'):wpList P ops Q (o::rest) a (w0.alloc (.cells cs.toArray tb)):=by
 obtain⟨i,z,h1,h2,h3,h4,h5,h6,h7⟩:=hE;obtain⟨xs,k1,k2⟩:=bU
 refine wpList_append_own_at (w0.alloc (.cells cs.toArray tb)) Ak s x ts ho B te i z T.size bytes h1 h2 h3 h4 h5 h6 h7 v l.length xs hs (k1.alloc _) ⟨w0.heap.size,0,none⟩ 1 1 cs hx (by rw[T.len hy,Nat.one_mul])
  (fun j u hu=>by rw[Addr.add_lit,Nat.zero_add,World.cell?_alloc_new];simpa using hu) (T.one hy) (by unfold maxLen;omega) iw (by simp;omega) (fun v' w' r1 r2 _ r4=>h v' w' ⟨xs++cs,by rw[List.length_append];exact r1,k2.append (dF.one hy)⟩ ?_ ?_)
 ·exact⟨r2.os,r2.tape,r2.output,by have:=r2.size;simp at this;omega,fun k hk bq=>(r2.block k (by simp;omega) bq).trans (Below.heap_alloc _ _ _ hk)⟩
 ·intro g hg;rcases r4 with r4|r4
  ·exact .inl (r4▸hg)
  ·rw[r4]at hg;simp at hg;exact .inr (by omega)
theorem I8{w':World}(hb:Below w.heap.size w w')(row:Option Nat):w.grownBy w' row:=⟨hb.os,hb.tape,hb.output,hb.size,fun k hk _=>hb.block k hk⟩
theorem LA{w1 w2:World}{row:Option Nat}(h1:w.grownBy w1 row)(h2:w1.grownBy w2 row):w.grownBy w2 row:=
 ⟨h2.os.trans h1.os,h2.tape.trans h1.tape,h2.output.trans h1.output,Nat.le_trans h1.size h2.size,fun k hk bq=>(h2.block k (Nat.lt_of_lt_of_le hk h1.size) bq).trans (h1.block k hk bq)⟩
theorem Xjp{row:Option Nat}(h:w.grownBy W row)(hg:w.heap.size≤g)(j:Nat)(u:Value):w.grownBy (W.setCell ⟨g,j,none⟩ u) row:=
 ⟨h.os,h.tape,h.output,by rw[World.size_setCell];exact h.size,fun k hk bq=>(heap_setCell_other W ⟨g,j,none⟩ k u (by simp;omega)).trans (h.block k hk bq)⟩
theorem Xoa{row:Option Nat}(h:w.grownBy W row):w.grownBy W.drew row:=⟨h.os,h.tape,h.output,h.size,h.block⟩
def XB(n:Int)(x:Xt):Prop:=0≤x.s∧x.s≤255∧0≤x.o∧x.o≤1099511627776∧0≤x.n∧x.n≤n
theorem XB.mono(h:XB n x)(hm:n≤m):XB m x:=by unfold XB at*;omega
section
variable {I:IH} {W:World} {B:Nat} {v:Value} {l:List Xt}
theorem YP(h:aQ mU 65 I W B v l)(h0:0<l.length):∃g cap y,v= .slice (some ⟨g,0,none⟩) l.length cap∧l.length≤cap∧l.getLast?=some y∧B≤g∧g<W.heap.size∧
 W.cell? ⟨g,(l.length-1)*3,none⟩=some (.int .i64 y.s)∧W.cell? ⟨g,(l.length-1)*3+1,none⟩=some (.int .i64 y.o)∧W.cell? ⟨g,(l.length-1)*3+2,none⟩=some (.int .i64 y.n)∧(∀j,W.frozen? ⟨g,j,none⟩=false):=by
 obtain⟨xs,h1,h2⟩:=h;rcases h1.2 with⟨_,hz⟩|⟨g,cap,cur,hv,hb,hg,Kl,_⟩
 ·omega
 subst hv;have hlt:g<W.heap.size:=(Qg hg);have qo:xs.length=l.length*3:=h2.1;have hi:l.length-1<l.length:=by omega
 obtain⟨cs,k1,k2⟩:=h2.2 (l.length-1) hi;have k1':cs=[.int .i64 (l[l.length-1]).s,.int .i64 (l[l.length-1]).o,.int .i64 (l[l.length-1]).n]:=k1;subst k1';refine⟨g,cap,l[l.length-1],rfl,Kl,by rw[List.getLast?_eq_getElem?,List.getElem?_eq_getElem hi],hb,hlt,?_,?_,?_,fun j=>h1.frozenAt j⟩
 ·rw[h1.cellAt _ (by show(l.length-1)*3<l.length*3;omega)];exact k2 0 _ rfl
 ·rw[h1.cellAt _ (by show(l.length-1)*3+1<l.length*3;omega)];exact k2 1 _ rfl
 ·rw[h1.cellAt _ (by show(l.length-1)*3+2<l.length*3;omega)];exact k2 2 _ rfl
theorem Xo9{cap:Nat}(h:aQ mU 65 I W B (.slice (some ⟨g,0,none⟩) l.length cap) l)(hy:l.getLast?=some y):
 aQ mU 65 I (W.setCell ⟨g,(l.length-1)*3+2,none⟩ (.int .i64 n)) B (.slice (some ⟨g,0,none⟩) l.length cap) (l.dropLast++[⟨y.s,y.o,n⟩]):=by
 obtain⟨xs,h1,h2⟩:=h;have h0:0<l.length:=by cases l with
  |nil=>simp at hy
  |cons a l=>simp
 have hl:(l.dropLast++[(⟨y.s,y.o,n⟩:Xt)]).length=l.length:=by simp;omega
 have hs:=(h1.stored ((l.length-1)*3+2) (.int .i64 n)).1;refine⟨_,by rw[hl];exact hs,by rw[hl,List.length_set];exact h2.1,fun i hi=> ?_⟩;rw[hl]at hi;obtain⟨cs,k1,k2⟩:=h2.2 i hi;by_cases he:i=l.length-1
 ·have hyl:l[i]=y:=by
   have:l.getLast?=some l[i]:=by rw[List.getLast?_eq_getElem?,←he,List.getElem?_eq_getElem hi]
   rw[hy]at this;exact(Option.some.inj this).symm
  have k1':cs=[.int .i64 (l[i]).s,.int .i64 (l[i]).o,.int .i64 (l[i]).n]:=k1;rw[hyl]at k1';subst k1';refine⟨[.int .i64 y.s,.int .i64 y.o,.int .i64 n],?_,fun j u hu=> ?_⟩
  ·show _=_;rw[List.getElem_append_right (by simp;omega)];simp
  ·have qo:xs.length=l.length*3:=h2.1;match j,hu with
   |0,hu=>
    rw[List.getElem?_set_ne (by show(l.length-1)*3+2≠i*3+0;omega)];exact(k2 0 _ rfl).trans hu
   |1,hu=>
    rw[List.getElem?_set_ne (by show(l.length-1)*3+2≠i*3+1;omega)];exact(k2 1 _ rfl).trans hu
   |2,hu=>
    have e:i*mU.size+2=(l.length-1)*3+2:=by show i*3+2=_;omega
    rw[e,List.getElem?_set_self (by omega)];exact hu
 ·refine⟨cs,?_,fun j u hu=> ?_⟩
  ·rw[List.getElem_append_left (by simp;omega),List.getElem_dropLast];exact k1
  ·have hj:j<3:=by rw[←show cs.length=3 from mU.len k1];exact(List.getElem?_eq_some_iff.1 hu).1
   rw[List.getElem?_set_ne (by show(l.length-1)*3+2≠i*3+j;omega)];exact k2 j u hu
end
abbrev FL(x:Xt):Value:= .agg #[.int .i64 x.s,.int .i64 x.o,.int .i64 x.n]
abbrev ND(x:Xt):List Value:=[.int .i64 x.s,.int .i64 x.o,.int .i64 x.n]
theorem Xvw:(Tryz.prog.info? 65).map (fun i=>(i.zero,i.size,i.bytes))=some (some (.agg #[.int .i64 0,.int .i64 0,.int .i64 0]),3,24):=by kernel_rfl
theorem LB:eZ Tryz.prog 61 65 mU 24:=eZ.of Tryz.underlying61 Xvw rfl (by decide) rfl
theorem Xk6(x:Xt):kH [] x=[x]:=rfl
theorem Xk8{l:List Xt}(h:l.getLast?=some y)(hn:¬(x.s≠0∧y.s=x.s∧y.o+y.n=x.o)):kH l x=l++[x]:=by
 unfold kH;rw[h];show(if _ then _ else _)=_;rw[if_neg hn]
theorem Xk7{l:List Xt}(h:l.getLast?=some y)(hn:x.s≠0∧y.s=x.s∧y.o+y.n=x.o):kH l x=l.dropLast++[⟨y.s,y.o,y.n+x.n⟩]:=by
 unfold kH;rw[h];show(if _ then _ else _)=_;rw[if_pos hn]
theorem Xem{l:List Xt}(h:l.getLast?=some y):y∈l:=List.mem_of_getLast? h
theorem Xtv{l:List Xt}(hm:0≤m)(hl:∀z∈l,XB n z)(hx:XB m x)(hn:0≤n):∀z∈kH l x,XB (n+m) z:=by
 intro z hz;cases hg:l.getLast? with
 |none=>
  have:l=[]:=List.getLast?_eq_none_iff.1 hg;subst this;rw[Xk6]at hz;simp at hz;subst hz;exact hx.mono (by omega)
 |some y=>
  have hy:=hl y (Xem hg);by_cases hc:x.s≠0∧y.s=x.s∧y.o+y.n=x.o
  ·rw[Xk7 hg hc]at hz;rcases List.mem_append.1 hz with hz|hz
   ·exact(hl z (List.dropLast_subset _ hz)).mono (by omega)
   ·simp at hz;subst hz;unfold XB at*;simp only;omega
  ·rw[Xk8 hg hc]at hz;rcases List.mem_append.1 hz with hz|hz
   ·exact(hl z hz).mono (by omega)
   ·simp at hz;subst hz;exact hx.mono (by omega)
theorem Xoj(W:World)(n:Nat)(hn:n=W.heap.size):aQ mU 65 I (W.alloc (.cells #[] 65)) n (.slice (some ⟨n,0,none⟩) 0 0) []:=by
 subst hn;exact⟨[],World.ownsRow_made W #[] 0 (Qn _) (Nat.zero_le _) (by simp),dF.nil _ _⟩
theorem jY.PD{E:TypeId}{l:List α}(h:aQ T E I w B v l):jY T I w v l:=by
 obtain⟨xs,h1,h2⟩:=h;rcases id h1.2 with⟨hv,h0⟩|⟨g,cap,cur,hv,_⟩
 ·exact⟨none,0,xs,by rw[h0];exact hv,h2,fun h=>by omega⟩
 ·refine⟨_,cap,xs,hv,h2,fun _=>⟨_,rfl,fun j u hu=> ?_⟩⟩;exact h1.cells (by rw[hv];rfl) j u hu
def PE(I:IH)(B:Nat)(w:World)(v:Value)(l:List Xt)(e:Ending)(w':World):Prop:=
 ∃v',e= .returned v'∧aQ mU 65 I w' B v' l∧w.grownBy w' v.ownBlock∧ ∀g,v'.ownBlock=some g→v.ownBlock=some g∨w.heap.size≤g
theorem Xqg(I:IH)(B:Nat)(v0:Value)(x:Xt)(w:World)(hv:aQ mU 65 I w B v0 [])(hB:B≤w.heap.size):
 Calls Tryz.prog 82 #[v0,FL x] w (PE I B w v0 (kH [] x)):=by
 have Hn:=Qh (Xk6 x);obtain⟨ao,n,cap,dC,E9⟩:∃ao n cap,v0= .slice ao n cap∧n=0:=by
  obtain⟨xs,h1,_⟩:=hv;rcases h1.2 with⟨h,_⟩|⟨g,cap,cur,h,_⟩
  ·exact⟨_,_,_,h,rfl⟩
  ·exact⟨_,_,_,h,rfl⟩
 subst dC;subst E9;have nz:Below w.heap.size w (w.alloc (.cells #[.int .i64 x.s,.int .i64 x.o,.int .i64 x.n] 65)):=(Qb _ _).alloc (Qn _) _;have c0:(w.alloc (.cells #[.int .i64 x.s,.int .i64 x.o,.int .i64 x.n] 65)).cell? ⟨w.heap.size,0,none⟩=some (.int .i64 x.s):=by simp
 have c1:(w.alloc (.cells #[.int .i64 x.s,.int .i64 x.o,.int .i64 x.n] 65)).cell? ⟨w.heap.size,1,none⟩=some (.int .i64 x.o):=by simp
 have c2:(w.alloc (.cells #[.int .i64 x.s,.int .i64 x.o,.int .i64 x.n] 65)).cell? ⟨w.heap.size,2,none⟩=some (.int .i64 x.n):=by simp
 have Ha:=Qh (hv.alloc (.cells #[.int .i64 x.s,.int .i64 x.o,.int .i64 x.n] 65));clear hv;go_enter Tryz.func82,Tryz.ntmps82
 go_wp2_with fail
 generalize(w.alloc (.cells #[.int .i64 x.s,.int .i64 x.o,.int .i64 x.n] 65))=w1 at nz c0 c1 c2 Ha ⊢;refine wp_region_quiet_below (by kernel_rfl) (by kernel_rfl) ?_;repeat(go_big_quiet_step ((fail)))
 refine wpQuiet_nil ?_;intro w2 bJ;have aL:Below (w1).heap.size (w1) w2:=by
  obtain⟨pq,rfl⟩:=bJ;exact below_regrown _ _ _
 clear bJ;have jF:=I8 (nz.trans (aL.mono nz.size)) (Value.slice ao 0 cap).ownBlock;replace Ha:=Qh (Ha.O.below aL);replace c0:=aV aL c0;replace c1:=aV aL c1;replace c2:=aV aL c2;have qI:B≤w2.heap.size:=by have:=jF.size;omega
 go_wp2_with (at_builtin;refine Lx (w0:=w2) LB rfl _ _ rfl B _ _ rfl Ha.O x (ND x) _ rfl rfl (by(try simp only[List.length_nil]);omega) (by(try simp only[List.length_nil]);omega) qI ?_)
 intro v9 w9 bX bK l7;have dR:=LA jF bK;have bS:=jF.size;go_wp2;go_ret;exact⟨_,rfl,(by rw[Hn.O];exact bX),dR,fun g h=>(l7 g h).imp id (fun h=>by omega)⟩
theorem Xqf(I:IH)(B:Nat)(v0:Value)(l:List Xt)(x:Xt)(w:World)(hv:aQ mU 65 I w B v0 l)(hB:B≤w.heap.size)(h0:0<l.length)(hn:l.length≤100000)(hl:∀z∈l,XB 1099511627776 z)(hx:XB 1099511627776 x):
 Calls Tryz.prog 82 #[v0,FL x] w (PE I B w v0 (kH l x)):=by
 have nz:Below w.heap.size w (w.alloc (.cells #[.int .i64 x.s,.int .i64 x.o,.int .i64 x.n] 65)):=(Qb _ _).alloc (Qn _) _;have c0:(w.alloc (.cells #[.int .i64 x.s,.int .i64 x.o,.int .i64 x.n] 65)).cell? ⟨w.heap.size,0,none⟩=some (.int .i64 x.s):=by simp
 have c1:(w.alloc (.cells #[.int .i64 x.s,.int .i64 x.o,.int .i64 x.n] 65)).cell? ⟨w.heap.size,1,none⟩=some (.int .i64 x.o):=by simp
 have c2:(w.alloc (.cells #[.int .i64 x.s,.int .i64 x.o,.int .i64 x.n] 65)).cell? ⟨w.heap.size,2,none⟩=some (.int .i64 x.n):=by simp
 have ny:=hv.alloc (.cells #[.int .i64 x.s,.int .i64 x.o,.int .i64 x.n] 65);obtain⟨g,cap,y,rfl,Q7,hy,hbg,hlt,y0,y1,y2,jN⟩:=YP ny h0;have Ha:=Qh ny;have mQ:=Qh (fun h=>Xk8 (l:=l) (x:=x) hy h);have xO:=Qh (fun h=>Xk7 (l:=l) (x:=x) hy h);have Mo:=hl y (Xem hy);unfold XB at hx Mo;have Hy:=Qh hy;clear hv ny hl hy;have i1:(0:Int)<(l.length:Int):=by omega
 have m1:IntKind.i64.wrap ((l.length:Int)-1)=((l.length-1:Nat):Int):=by rw[IntWalk.i64_in _ (by omega)];omega
 have m2:IntKind.i64.wrap (y.o+y.n)=y.o+y.n:=IntWalk.i64_in _ (by omega);have m3:(l.length:Int)-1=((l.length-1:Nat):Int):=by omega
 have i2:l.length-1<l.length:=by omega
 have g0:=cell_regrown y0;have g1:=cell_regrown y1;have g2:=cell_regrown y2;have z0:=cell_regrown c0;have z1:=cell_regrown c1;have z2:=cell_regrown c2;by_cases ky:x.s=0
 ·have e1:(x.s !=0)=false:=by simpa using ky
  have e2:(x.s==0)=true:=by simpa using ky
  have Hn:=Qh (mQ.O (by rintro⟨h,_⟩;exact h ky));clear ky mQ xO;go_enter Tryz.func82,Tryz.ntmps82
  go_wp2_with fail
  generalize(w.alloc (.cells #[.int .i64 x.s,.int .i64 x.o,.int .i64 x.n] 65))=w1 at nz c0 c1 c2 y0 y1 y2 g0 g1 g2 z0 z1 z2 Ha ⊢;refine wp_region_quiet_below (by kernel_rfl) (by kernel_rfl) ?_;repeat(go_big_quiet_step ((fail)))
  refine wpQuiet_nil ?_;intro w2 bJ;have aL:Below (w1).heap.size (w1) w2:=by
   obtain⟨pq,rfl⟩:=bJ;exact below_regrown _ _ _
  clear bJ;have nP:=nz.trans (aL.mono nz.size);have jF:=I8 nP (Value.slice (some ⟨g,0,none⟩) l.length cap).ownBlock;replace Ha:=Qh (Ha.O.below aL);replace c0:=aV aL c0;replace c1:=aV aL c1;replace c2:=aV aL c2;have qI:B≤w2.heap.size:=by have:=jF.size;omega
  clear y0 y1 y2 g0 g1 g2 z0 z1 z2;go_wp2_with (at_builtin;refine Lx (w0:=w2) LB rfl _ _ rfl B _ _ rfl Ha.O x (ND x) _ rfl rfl (by(try simp only[List.length_nil]);omega) (by(try simp only[List.length_nil]);omega) qI ?_)
  intro v9 w9 bX bK l7;have dR:=LA jF bK;have bS:=jF.size;go_wp2;go_ret;exact⟨_,rfl,(by rw[Hn.O];exact bX),dR,fun g h=>(l7 g h).imp id (fun h=>by omega)⟩
 have e1:(x.s !=0)=true:=by simpa using ky
 have e2:(x.s==0)=false:=by simpa using ky
 by_cases Ei:y.s=x.s;case neg=>
  have e3:(y.s==x.s)=false:=by simpa using Ei
  have Hn:=Qh (mQ.O (by rintro⟨_,h,_⟩;exact Ei h));clear ky Ei mQ xO;go_enter Tryz.func82,Tryz.ntmps82
  go_wp2_with fail
  generalize(w.alloc (.cells #[.int .i64 x.s,.int .i64 x.o,.int .i64 x.n] 65))=w1 at nz c0 c1 c2 y0 y1 y2 g0 g1 g2 z0 z1 z2 Ha ⊢;refine wp_region_quiet_below (by kernel_rfl) (by kernel_rfl) ?_;repeat(go_big_quiet_step ((fail)))
  refine wpQuiet_nil ?_;intro w2 bJ;have aL:Below (w1).heap.size (w1) w2:=by
   obtain⟨pq,rfl⟩:=bJ;exact below_regrown _ _ _
  clear bJ;have nP:=nz.trans (aL.mono nz.size);have jF:=I8 nP (Value.slice (some ⟨g,0,none⟩) l.length cap).ownBlock;replace Ha:=Qh (Ha.O.below aL);replace c0:=aV aL c0;replace c1:=aV aL c1;replace c2:=aV aL c2;have qI:B≤w2.heap.size:=by have:=jF.size;omega
  clear y0 y1 y2 g0 g1 g2 z0 z1 z2;go_wp2_with (at_builtin;refine Lx (w0:=w2) LB rfl _ _ rfl B _ _ rfl Ha.O x (ND x) _ rfl rfl (by(try simp only[List.length_nil]);omega) (by(try simp only[List.length_nil]);omega) qI ?_)
  intro v9 w9 bX bK l7;have dR:=LA jF bK;have bS:=jF.size;go_wp2;go_ret;exact⟨_,rfl,(by rw[Hn.O];exact bX),dR,fun g h=>(l7 g h).imp id (fun h=>by omega)⟩
 have e3:(y.s==x.s)=true:=by simpa using Ei
 by_cases FM:y.o+y.n=x.o;case neg=>
  have e4:(y.o+y.n==x.o)=false:=by simpa using FM
  have Hn:=Qh (mQ.O (by rintro⟨_,_,h⟩;exact FM h));clear ky Ei FM mQ xO;go_enter Tryz.func82,Tryz.ntmps82
  go_wp2_with fail
  generalize(w.alloc (.cells #[.int .i64 x.s,.int .i64 x.o,.int .i64 x.n] 65))=w1 at nz c0 c1 c2 y0 y1 y2 g0 g1 g2 z0 z1 z2 Ha ⊢;refine wp_region_quiet_below (by kernel_rfl) (by kernel_rfl) ?_;repeat(go_big_quiet_step ((fail)))
  refine wpQuiet_nil ?_;intro w2 bJ;have aL:Below (w1).heap.size (w1) w2:=by
   obtain⟨pq,rfl⟩:=bJ;exact below_regrown _ _ _
  clear bJ;have nP:=nz.trans (aL.mono nz.size);have jF:=I8 nP (Value.slice (some ⟨g,0,none⟩) l.length cap).ownBlock;replace Ha:=Qh (Ha.O.below aL);replace c0:=aV aL c0;replace c1:=aV aL c1;replace c2:=aV aL c2;have qI:B≤w2.heap.size:=by have:=jF.size;omega
  clear y0 y1 y2 g0 g1 g2 z0 z1 z2;go_wp2_with (at_builtin;refine Lx (w0:=w2) LB rfl _ _ rfl B _ _ rfl Ha.O x (ND x) _ rfl rfl (by(try simp only[List.length_nil]);omega) (by(try simp only[List.length_nil]);omega) qI ?_)
  intro v9 w9 bX bK l7;have dR:=LA jF bK;have bS:=jF.size;go_wp2;go_ret;exact⟨_,rfl,(by rw[Hn.O];exact bX),dR,fun g h=>(l7 g h).imp id (fun h=>by omega)⟩
 have e4:(y.o+y.n==x.o)=true:=by simpa using FM
 have Hn:=Qh (xO.O ⟨ky,Ei,FM⟩);clear ky Ei FM mQ xO;go_enter Tryz.func82,Tryz.ntmps82
 go_wp2_with fail
 generalize(w.alloc (.cells #[.int .i64 x.s,.int .i64 x.o,.int .i64 x.n] 65))=w1 at nz c0 c1 c2 y0 y1 y2 g0 g1 g2 z0 z1 z2 Ha ⊢;refine wp_region_quiet_below (by kernel_rfl) (by kernel_rfl) ?_;repeat(go_big_quiet_step ((fail)))
 refine wpQuiet_nil ?_;intro w2 bJ;have aL:Below (w1).heap.size (w1) w2:=by
  obtain⟨pq,rfl⟩:=bJ;exact below_regrown _ _ _
 clear bJ;have nP:=nz.trans (aL.mono nz.size);have jF:=I8 nP (Value.slice (some ⟨g,0,none⟩) l.length cap).ownBlock;replace Ha:=Qh (Ha.O.below aL);replace c0:=aV aL c0;replace c1:=aV aL c1;replace c2:=aV aL c2;have qI:B≤w2.heap.size:=by have:=jF.size;omega
 clear y0 y1 y2 g0 g1 g2 z0 z1 z2;have hE:=(Xoj (I:=I) w2 w2.heap.size rfl);have hS:=jY.PD (Ha.O.alloc (.cells #[] 65));go_wp2_with (at_builtin;refine Xhl LB rfl _ _ rfl rfl hE rfl hS (by(try simp only[List.length_nil]);omega) (by(try simp only[List.length_nil]);omega) (by simp) ?_)
 intro v6 w3 JJ iX;have dO:Below w2.heap.size w2 w3:=Below.own ((Qb _ w2).alloc (Qn _) (.cells #[] 65)) iX hE (Qn _) (by simp);obtain⟨g6,cap6,y6,rfl,ao3,hy6,ao4,I9,y0,y1,y2,Vi⟩:=YP JJ h0;obtain rfl:y=y6:=by rw[Hy.O]at hy6;exact Option.some.inj hy6
 replace c2:=aV dO c2;have EF:=Qh JJ;have Vj:=LA jF (I8 dO (Value.slice (some ⟨g,0,none⟩) l.length cap).ownBlock);have jN:=Vi ((l.length-1)*3+2);have m4:IntKind.i64.wrap (y.n+x.n)=y.n+x.n:=IntWalk.i64_in _ (by omega);have gJ:=jF.size;clear JJ iX dO hE hS Vi Ha c0 c1 y0 y1 jF nz nP aL;go_wp2_with fail
 go_big_region
 go_wp2;go_ret;exact⟨_,rfl,by rw[Hn.O];exact(Xo9 EF.O Hy.O).lower (by omega),by first|exact Xjp Vj (by omega) _ _|exact Xoa (Xjp Vj (by omega) _ _),fun q hq=> .inr (by simp[Value.ownBlock]at hq;omega)⟩
theorem Xh1(I:IH)(B:Nat)(v0:Value)(l:List Xt)(x:Xt)(w:World)(hv:aQ mU 65 I w B v0 l)(hB:B≤w.heap.size)(hn:l.length≤100000)(hl:∀z∈l,XB 1099511627776 z)(hx:XB 1099511627776 x):
 Calls Tryz.prog 82 #[v0,FL x] w (PE I B w v0 (kH l x)):=by
 cases l with
 |nil=>exact Xqg I B v0 x w hv hB
 |cons a l=>exact Xqf I B v0 (a::l) x w hv hB (by simp) hn hl hx
theorem Xir{h:Nat}(hk:k<s.length){N:Nat}(hr:iH (s.drop k) k h=N):(if k+1=96∨(16≤k+1∧I7 h (s.getD k 0)<2048)then k+1 else iH (s.drop (k+1)) (k+1) (I7 h (s.getD k 0)))=N:=by
 rw[List.drop_eq_getElem_cons hk,iH]at hr;rw[←hr];simp[List.getD,hk]
theorem Xvu(h:Nat)(b:UInt8):I7 h b<65536:=Nat.mod_lt _ (by decide)
theorem Xtm(h:Nat)(b:UInt8):((2*(h:Int)+40503*((b.toNat:Int)+1))%65536)=((I7 h b:Nat):Int):=by unfold I7;omega
theorem Xnu(s:af)(hs:s.length≤4294967280)(w:World):
 Calls Tryz.prog 137 #[S s] w fun e w'=>e= .returned (.int .i64 (jb s:Nat))∧Below w.heap.size w w':=by
 obtain⟨N,hN⟩:∃N,jb s=N:=⟨_,rfl⟩;have HN:=Qh (show iH (s.drop 0) 0 0=N from hN);rw[hN];clear hN;go_enter Tryz.func137,Tryz.ntmps137
 go_wp2_with fail
 go_loopw [3,4] (fun s3 s4 wr=> ∃k h:Nat,k≤s.length∧h<65536∧s4= .int .i64 k∧s3= .int .i64 h∧iH (s.drop k) k h=N∧Below w.heap.size w wr) (fun _ i _=>s.length-(intOf i).toNat)
 case atStart=>exact⟨0,0,Nat.zero_le _,by decide,rfl,rfl,HN.O,Qb _ _⟩
 case round=>
  clear HN;obtain⟨k,h,hk,hh,rfl,rfl,hr,hb⟩:=hrel;have Hr:=Qh hr;clear hr;by_cases hlt:k<s.length
  ·have hx:=iG (P:=Tryz.prog) Tryz.underlying9 s (k:Int) k rfl hlt;have bI:=Qh (Xir hlt Hr.O);have hch:(s.getD k 0).toNat<256:=(s.getD k 0).toNat_lt;have bO:=Xvu h (s.getD k 0);have Mq:=Xtm h (s.getD k 0);generalize hH:I7 h (s.getD k 0)=H at bI bO Mq;generalize(s.getD k 0).toNat=c at hx hch Mq;have m1:IntKind.i64.wrap (2*(h:Int))=2*(h:Int):=IntWalk.i64_in _ (by omega);have m2:IntKind.i64.wrap ((c:Int)+1)=(c:Int)+1:=IntWalk.i64_in _ (by omega);have m3:IntKind.i64.wrap (40503*((c:Int)+1))=40503*((c:Int)+1):=IntWalk.i64_in _ (by omega);have m4:IntKind.i64.wrap (2*(h:Int)+40503*((c:Int)+1))=2*(h:Int)+40503*((c:Int)+1):=IntWalk.i64_in _ (by omega);have m5:IntKind.i64.wrap ((k:Int)+1)=(k:Int)+1:=IntWalk.i64_in _ (by omega);clear hH Hr;by_cases Ja:k+1=96
   ·have Hn:=Qh (show k+1=N by have:=bI.O;rwa[if_pos (.inl Ja)]at this);have d1:((k:Int)+1==96)=true:=by simpa using(show(k:Int)+1=96 by omega)
    clear bI Ja;go_wp2;go_ret;exact⟨dZ (by rw[←Hn.O];go_num),hb⟩
   have d1:((k:Int)+1==96)=false:=by simpa using(show(k:Int)+1≠96 by omega)
   by_cases JC:16≤k+1
   ·have d2:decide ((16:Int)≤(k:Int)+1)=true:=Qt (by omega);by_cases Zz:H<2048
    ·have Hn:=Qh (show k+1=N by have:=bI.O;rwa[if_pos (.inr ⟨JC,Zz⟩)]at this);have d3:decide ((H:Int)<2048)=true:=Qt (by omega);clear bI Ja JC;go_wp2;go_ret;exact⟨dZ (by rw[←Hn.O];go_num),hb⟩
    ·have Hn:=Qh (show iH (s.drop (k+1)) (k+1) H=N by have:=bI.O;rwa[if_neg (by omega)]at this);have d3:decide ((H:Int)<2048)=false:=Qf (by omega);clear bI Ja JC;go_wp2;go_roundw;case rel=>exact⟨k+1,H,by omega,bO,by go_num,by rw[Mq],Hn.O,hb⟩
     case measure=>simp[intOf];omega
   ·have d2:decide ((16:Int)≤(k:Int)+1)=false:=Qf (by omega);have Hn:=Qh (show iH (s.drop (k+1)) (k+1) H=N by have:=bI.O;rwa[if_neg (by omega)]at this);clear bI Ja JC;go_wp2;go_roundw;case rel=>exact⟨k+1,H,by omega,bO,by go_num,by rw[Mq],Hn.O,hb⟩
    case measure=>simp[intOf];omega
  ·have Hn:=Qh (show s.length=N by have:=Hr.O;rw[List.drop_of_length_le (by omega),iH]at this;omega);go_wp2;go_ret;exact⟨dZ (by rw[←Hn.O]),hb⟩
theorem Xnt(I:IH)(s:af)(hs:s.length≤4294967280)(w:World):
 Calls Tryz.prog 83 #[S s] w fun e w'=> ∃v',e= .returned v'∧aQ iE 9 I w' w.heap.size v' (dw s)∧Below w.heap.size w w':=by
 have bI:=Qh (show aQ iE 9 I (w.alloc (.cells #[] 9)) w.heap.size (.slice (some ⟨w.heap.size,0,none⟩) 0 0) []from⟨[],World.ownsRow_made w #[] 0 (Qn _) (Nat.zero_le _) (by simp),dF.nil _ _⟩);obtain⟨N,hN⟩:∃N,dw s=N:=⟨_,rfl⟩;have HN:=Qh (show []++dw s=N from hN);rw[hN];have ZB:=hs;generalize ky:s=s0 at HN ZB;clear hN;go_enter Tryz.func83,Tryz.ntmps83
 go_wp2_with fail
 go_loopw [0,3] (fun s0 s3 wr=> ∃(r:af) (out:List af),s0=S r∧r.length+out.length≤4294967280∧aQ iE 9 I wr w.heap.size s3 out∧out++dw r=N∧Below w.heap.size w wr) (fun r _ _=>(match r with| .string b=>b.size|_=>0))
 case atStart=>exact⟨s0,[],rfl,by simpa using ZB,bI.O,HN.O,(Qb _ _).alloc (Qn _) _⟩
 case round=>
  clear bI HN;obtain⟨r,out,rfl,hl,bU,hr,hb⟩:=hrel;have di:=Qh bU;have Hr:=Qh hr;clear bU hr;by_cases h0:r=[]
  ·have f1:(0:Int)<(r.length:Int)↔False:=by rw[h0];simp
   have vN:r.length=0:=by rw[h0];rfl
   have Hn:=Qh (show out=N by have:=Hr.O;rw[h0,Xjw,List.append_nil]at this;exact this);clear Hr h0 f1;go_wp2;go_ret;exact⟨_,rfl,(by rw[←Hn.O];exact di.O),hb⟩
  ·have xX:=List.length_pos_iff.2 h0;have hp:=Vf h0;have hf:=Xiq r;have Hf:=Qh (fun w=>Xnu r (by omega) w);have Hn:=Qh (show(out++[r.take (jb r)])++dw (r.drop (jb r))=N by rw[←Hr.O,Xfj h0];simp);generalize jb r=n at Hf Hn hp hf;have ul:(n:Int)≤(r.length:Int):=by omega
   have afr:(0:Int)≤(n:Int):=by omega
   clear Hr h0;go_wp2_with fail
   refine(Hf.O _).mono ?_;rintro e1 w1 ⟨rfl,aG⟩;have aM:=hb.trans (aG.mono hb.size);have oV:=Qh (di.O.below aG);clear aG Hf di;go_wp2_with (at_builtin;refine qX (w0:=w1) Oq rfl _ _ rfl _ _ _ rfl oV.O (r.take n) [S (r.take n)] _ rfl rfl (by omega) (by omega) (Below.size aM) ?_)
   intro v9 w9 bX bK;have iO:=Below.own aM bK oV.O (Qn _) (Below.size aM);go_wp2;go_roundw;case rel=>exact⟨r.drop n,_,by simp[List.take_of_length_le],by simp;omega,bX,Hn.O,iO⟩
   case measure=>simp[ByteArray.size];omega
theorem Xnr(s:af)(hs:s.length≤4294967280)(i:Nat)(hi:i≤s.length)(w:World):
 Calls Tryz.prog 136 #[S s,.int .i64 i] w fun e w'=>e= .returned (.int .i64 (dY (s.drop i):Nat))∧Below w.heap.size w w':=by
 obtain⟨N,hN⟩:∃N,dY (s.drop i)=N:=⟨_,rfl⟩;have HN:=Qh (show 0+dY (s.drop (i+0))=N by rw[Nat.zero_add];exact hN);rw[hN];clear hN;go_enter Tryz.func136,Tryz.ntmps136
 go_wp2_with fail
 go_loopw [5] (fun s5 wr=> ∃n:Nat,i+n≤s.length∧s5= .int .i64 n∧n+dY (s.drop (i+n))=N∧Below w.heap.size w wr) (fun n _=>s.length-(intOf n).toNat)
 case atStart=>exact⟨0,by omega,rfl,HN.O,Qb _ _⟩
 case round=>
  clear HN;obtain⟨n,hn,rfl,hr,hb⟩:=hrel;have Hr:=Qh hr;clear hr;have m1:IntKind.i64.wrap ((i:Int)+(n:Int))=(i:Int)+(n:Int):=IntWalk.i64_in _ (by omega);by_cases hlt:i+n<s.length
  ·have hx:=iG (P:=Tryz.prog) Tryz.underlying9 s ((i:Int)+(n:Int)) (i+n) (by omega) hlt;have d1:decide ((i:Int)+(n:Int)<(s.length:Int))=true:=Qt (by omega);have jO:n+(if s.getD (i+n) 0=0 then dY (s.drop (i+n+1))+1 else 0)=N:=by
    rw[←Hr.O,List.drop_eq_getElem_cons hlt,dY];simp[List.getD,hlt]
   have he:=XZ (s.getD (i+n) 0) 0 (by decide);have Rc:((((s.getD (i+n) 0).toNat:Nat):Int)==0)=(s.getD (i+n) 0==0):=he;have bI:=Qh jO;clear jO he;generalize s.getD (i+n) 0=ch at hx bI Rc;cases hc:(ch==0)
   ·rw[hc]at Rc;have Hn:=Qh (show n=N by have:=bI.O;rwa[if_neg (by simpa using hc),Nat.add_zero]at this);clear hc bI Hr;go_wp2;go_ret;exact⟨dZ (by rw[←Hn.O]),hb⟩
   ·rw[hc]at Rc;have Hn:=Qh (show n+1+dY (s.drop (i+(n+1)))=N by
     have:=bI.O;rw[if_pos (by simpa using hc)]at this;rw[←this,show i+(n+1)=i+n+1 by omega];omega)
    clear hc bI Hr;go_wp2;go_roundw;case rel=>exact⟨n+1,by omega,by go_num,Hn.O,hb⟩
    case measure=>simp[intOf];omega
  ·have d1:decide ((i:Int)+(n:Int)<(s.length:Int))=false:=Qf (by omega);have Hn:=Qh (show n=N by have:=Hr.O;rwa[List.drop_of_length_le (by omega),dY,Nat.add_zero]at this);clear Hr;go_wp2;go_ret;exact⟨dZ (by rw[←Hn.O]),hb⟩
def Gh:Ty Sg:=Ty.flat 2 (fun x=> [.int .i64 x.n,S x.d]) (fun _=>rfl) (fun _ u h=>by simp at h;rcases h with rfl|rfl<;>rfl)
theorem Xwd:(Tryz.prog.info? 131).map (fun i=>(i.zero,i.size,i.bytes))=some (some (.agg #[.int .i64 0,.string ⟨#[]⟩]),2,24):=by kernel_rfl
theorem NE:eZ Tryz.prog 128 131 Gh 24:=eZ.of Tryz.underlying128 Xwd rfl (by decide) rfl
theorem Vk{l:List Sg}(h:aZ Gh I v l)(hw:Ok I w)(i:Nat)(hi:i<l.length):∃x b off cap,l[i]=x∧v= .slice (some ⟨b,off,none⟩) l.length cap∧
 w.cell? ⟨b,off+i*2,none⟩=some (.int .i64 x.n)∧w.cell? ⟨b,off+i*2+1,none⟩=some (S x.d):=by
 obtain⟨b,off,cap,cs,hv,jf,hc⟩:=h.at_ hw hi;have lv:cs=[.int .i64 l[i].n,S l[i].d]:=jf;subst lv;exact⟨_,b,off,cap,rfl,hv,hc 0 _ rfl,hc 1 _ rfl⟩
def mE(s:af)(f i:Nat):af:=(s.drop f).take (i-f)
theorem Xtx:mE s i i=[]:=by simp[mE]
theorem Xxs(hi:i≤s.length):(mE s f i).length=i-f:=by simp[mE];omega
theorem Xvn{m:Nat}(hf:f≤i):mE s f i++(s.drop i).take m=mE s f (i+m):=by
 unfold mE;rw[show i+m-f=(i-f)+m by omega,List.take_add,List.drop_drop,show f+(i-f)=i by omega]
theorem Xru(h:0<d.length):jJ d=[⟨0,d⟩]:=by
 unfold jJ;rw[if_neg (List.length_pos_iff.1 h)]
theorem Xrt(h:d.length=0):jJ d=[]:=by
 unfold jJ;rw[if_pos (List.eq_nil_of_length_eq_zero h)]
theorem Xns(I:IH)(s:af)(hs:s.length≤4294967280)(w:World):
 Calls Tryz.prog 81 #[S s] w fun e w'=> ∃v',e= .returned v'∧aQ Gh 131 I w' w.heap.size v' (iR s)∧Below w.heap.size w w':=by
 have bI:=Qh (show aQ Gh 131 I (w.alloc (.cells #[] 131)) w.heap.size (.slice (some ⟨w.heap.size,0,none⟩) 0 0) []from⟨[],World.ownsRow_made w #[] 0 (Qn _) (Nat.zero_le _) (by simp),dF.nil _ _⟩);obtain⟨N,hN⟩:∃N,iR s=N:=⟨_,rfl⟩;have HN:=Qh (show []++oJ (mE s 0 0) (s.drop 0)=N by rw[Xtx];exact hN);rw[hN];clear hN;go_enter Tryz.func81,Tryz.ntmps81
 go_wp2_with fail
 go_loopw [3,4,5] (fun s3 s4 s5 wr=> ∃(f i:Nat) (out:List Sg),f≤i∧i≤s.length∧s4= .int .i64 f∧s5= .int .i64 i∧out.length≤2*f∧aQ Gh 131 I wr w.heap.size s3 out∧out++oJ (mE s f i) (s.drop i)=N∧Below w.heap.size w wr) (fun _ _ i _=>s.length-(intOf i).toNat)
 case atStart=>exact⟨0,0,[],Qn _,Nat.zero_le _,rfl,rfl,Qn _,bI.O,HN.O,(Qb _ _).alloc (Qn _) _⟩
 case round=>
  clear bI HN;obtain⟨f,i,out,hfi,hi,rfl,rfl,Gt,bU,hr,hb⟩:=hrel;have di:=Qh bU;have Hr:=Qh hr;clear bU hr;have ug:=Xxs (f:=f) hi;have f0:(0:Int)≤f:=by omega
  have f1:(f:Int)≤i:=by omega
  have f2:(i:Int)≤s.length:=by omega
  by_cases hlt:i<s.length
  ·have Hz:=Qh (fun w=>Xnr s hs i hi w);have bq:s.drop i≠[]:=by
    intro e;have:=congrArg List.length e;rw[List.length_drop]at this;simp at this;omega
   have Zy:=YL (s.drop i);rw[List.length_drop]at Zy;have Hh:=Qh (fun h=>Xot (acc:=mE s f i) bq h);have Hd:=Qh (fun h=>Xou (acc:=mE s f i) bq h);obtain⟨z,hz⟩:∃z,dY (s.drop i)=z:=⟨_,rfl⟩;rw[hz]at Hz Zy Hh Hd;clear bq hz;go_wp2_with fail
   refine(Hz.O _).mono ?_;rintro e1 w1 ⟨rfl,aG⟩;have aM:=hb.trans (aG.mono hb.size);have oV:=Qh (di.O.below aG);clear aG Hz di;by_cases mF:32≤z
   ·have d1:decide ((32:Int)≤(z:Int))=true:=Qt (by omega);have Ml:=hi;have hn:out++(jJ (mE s f i)++⟨(z:Nat),[]⟩::oJ (mE s (i+z) (i+z)) (s.drop (i+z)))=N:=by
     rw[Xtx,←Hr.O,Hh.O mF,List.drop_drop]
    have Hn:=Qh hn;clear hn Hh Hd Hr;by_cases Gx:f<i
    ·have kR:=Qh (show(out++[⟨0,mE s f i⟩])++[⟨(z:Nat),[]⟩]++oJ (mE s (i+z) (i+z)) (s.drop (i+z))=N by
      rw[←Hn.O,Xru (by omega)];simp)
     have hg2:(f:Int)<i:=by omega
     clear Hn;go_wp2_with (at_builtin;refine qX (w0:=w1) NE rfl _ _ rfl _ _ _ rfl oV.O ⟨0,mE s f i⟩ [.int .i64 0,S (mE s f i)] _ rfl rfl (by(try simp only[List.length_append,List.length_singleton]);omega) (by(try simp only[List.length_append,List.length_singleton]);omega) (Below.size aM) ?_)
     intro v9 w9 bX bK;have iO:=Below.own aM bK oV.O (Qn _) (Below.size aM);go_wp2_with (at_builtin;refine qX (w0:=w9) NE rfl _ _ rfl _ _ _ rfl bX ⟨(z:Nat),[]⟩ [.int .i64 z,S []] _ rfl rfl (by(try simp only[List.length_append,List.length_singleton]);omega) (by(try simp only[List.length_append,List.length_singleton]);omega) (Below.size iO) ?_)
     intro v8 w8 ow qO;have mH:=Below.own iO qO bX (Qn _) (Below.size iO);go_wp2;go_roundw;case rel=>exact⟨i+z,i+z,_,Qn _,by omega,by go_num,by go_num,by simp;omega,ow,by simpa using kR.O,mH⟩
     case measure=>simp[intOf];omega
    ·have JE:i=f:=by omega
     have kR:=Qh (show out++[⟨(z:Nat),[]⟩]++oJ (mE s (i+z) (i+z)) (s.drop (i+z))=N by
      rw[←Hn.O,Xrt (by omega)];simp)
     have hg2:¬(f:Int)<i:=by omega
     clear Hn;go_wp2_with (at_builtin;refine qX (w0:=w1) NE rfl _ _ rfl _ _ _ rfl oV.O ⟨(z:Nat),[]⟩ [.int .i64 z,S []] _ rfl rfl (by(try simp only[List.length_append,List.length_singleton]);omega) (by(try simp only[List.length_append,List.length_singleton]);omega) (Below.size aM) ?_)
     intro v9 w9 bX bK;have iO:=Below.own aM bK oV.O (Qn _) (Below.size aM);go_wp2;go_roundw;case rel=>exact⟨i+z,i+z,_,Qn _,by omega,by go_num,by go_num,by simp;omega,bX,kR.O,iO⟩
     case measure=>simp[intOf];omega
   ·have d1:decide ((32:Int)≤(z:Int))=false:=Qf (by omega);have Hn:=Qh (show out++oJ (mE s f (i+max z 1)) (s.drop (i+max z 1))=N by
     rw[←Hr.O,Hd.O mF,Xvn hfi,List.drop_drop])
    clear Hh Hd Hr;by_cases pg:z=0
    ·have hze:((z:Int)==0)=true:=by rw[pg];rfl
     have kR:=Qh (show out++oJ (mE s f (i+1)) (s.drop (i+1))=N by rw[←Hn.O,pg];rfl);clear Hn;go_wp2;go_roundw;case rel=>exact⟨f,i+1,_,by omega,by omega,rfl,by go_num,Gt,oV.O,kR.O,aM⟩
     case measure=>simp[intOf];omega
    ·have hze:((z:Int)==0)=false:=by simpa using pg
     have kR:=Qh (show out++oJ (mE s f (i+z)) (s.drop (i+z))=N by rw[←Hn.O,Nat.max_eq_left (by omega)]);clear Hn;go_wp2;go_roundw;case rel=>exact⟨f,i+z,_,by omega,by omega,rfl,by go_num,Gt,oV.O,kR.O,aM⟩
     case measure=>simp[intOf];omega
  ·have Oe:i=s.length:=by omega
   have hn:out++jJ (mE s f i)=N:=by have:=Hr.O;rwa[List.drop_of_length_le (by omega),Xrw]at this
   have Hn:=Qh hn;clear hn Hr;by_cases Gx:f<s.length
   ·have kR:=Qh (show out++[⟨0,mE s f i⟩]=N by rw[←Hn.O,Xru (by omega)]);have hg2:(f:Int)<s.length:=by omega
    clear Hn;subst Oe;go_wp2_with (at_builtin;refine qX (w0:=wr) NE rfl _ _ rfl _ _ _ rfl di.O ⟨0,mE s f s.length⟩ [.int .i64 0,S (mE s f s.length)] _ rfl rfl (by(try simp only[List.length_append,List.length_singleton]);omega) (by(try simp only[List.length_append,List.length_singleton]);omega) (Below.size hb) ?_)
    intro v9 w9 bX bK;have iO:=Below.own hb bK di.O (Qn _) (Below.size hb);go_wp2;go_ret;exact⟨_,rfl,(by rw[←kR.O];exact bX),iO⟩
   ·have JE:i=f:=by omega
    have kR:=Qh (show out=N by rw[←Hn.O,Xrt (by omega),List.append_nil]);have hg2:¬(f:Int)<s.length:=by omega
    clear Hn;go_wp2;go_ret;exact⟨_,rfl,(by rw[←kR.O];exact di.O),hb⟩
def si:Ty Ck:=Ty.flat 4 (fun c=> [S c.d,.int .i64 c.x.s,.int .i64 c.x.o,.int .i64 c.x.n]) (fun _=>rfl) (fun _ u h=>by simp at h;rcases h with rfl|rfl|rfl|rfl<;>rfl)
theorem Xxb:(Tryz.prog.info? 103).map (fun i=>(i.zero,i.size,i.bytes))=some (some (.agg #[.string ⟨#[]⟩,.int .i64 0,.int .i64 0,.int .i64 0]),4,40):=by kernel_rfl
theorem Xoc:eZ Tryz.prog 41 103 si 40:=eZ.of Tryz.underlying41 Xxb rfl (by decide) rfl
theorem KG(h:aZ si I v l)(hw:Ok I w)(i:Nat)(hi:i<l.length):∃x b off cap,l[i]=x∧v= .slice (some ⟨b,off,none⟩) l.length cap∧
 w.cell? ⟨b,off+i*4,none⟩=some (S x.d)∧w.cell? ⟨b,off+i*4+1,none⟩=some (.int .i64 x.x.s)∧w.cell? ⟨b,off+i*4+2,none⟩=some (.int .i64 x.x.o)∧w.cell? ⟨b,off+i*4+3,none⟩=some (.int .i64 x.x.n):=by
 obtain⟨b,off,cap,cs,hv,jf,hc⟩:=h.at_ hw hi;have lv:cs=[S l[i].d,.int .i64 l[i].x.s,.int .i64 l[i].x.o,.int .i64 l[i].x.n]:=jf;subst lv;exact⟨_,b,off,cap,rfl,hv,hc 0 _ rfl,hc 1 _ rfl,hc 2 _ rfl,hc 3 _ rfl⟩
abbrev fD(s:ib)(vc:Value):Value:= .agg #[vc,.int .i64 s.bg,S s.str]
def lN(l:List Ck)(d:af):Xt×Bool:=match gZ l d with|some x=>(x,true)|none=>(⟨0,0,0⟩,false)
theorem Xs5{N:Xt×Bool}(hk:k<l.length)(hc:l[k]=c)(h:lN (l.drop k) d=N):(if c.d=d then(c.x,true)else lN (l.drop (k+1)) d)=N:=by
 rw[List.drop_eq_getElem_cons hk,hc]at h;rw[←h];unfold lN;rw[gZ];split<;>rfl
theorem Xqh(I:IH)(s:ib)(vc:Value)(hv:aZ si I vc s.aJ)(d:af)(w:World)(hw:Ok I w):
 Calls Tryz.prog 84 #[fD s vc,S d] w fun e w'=>e= .returned (.tuple #[FL (lN s.aJ d).1,.bool (lN s.aJ d).2])∧Below w.heap.size w w':=by
 have Kt:=hv.bL;obtain⟨ao,cap,rfl,_,_,_⟩:=id hv;have Hv:=Qh hv;obtain⟨N,hN⟩:∃N,lN s.aJ d=N:=⟨_,rfl⟩;have HN:=Qh (show lN (s.aJ.drop 0) d=N from hN);rw[hN];clear hv hN;have b0:Below w.heap.size w (w.alloc (.cells #[.slice ao s.aJ.length cap,.int .i64 s.bg,S s.str] 43)):=(Qb _ _).alloc (Qn _) _;go_enter Tryz.func84,Tryz.ntmps84
 go_wp2_with fail
 have aO:Ok I ((w.alloc (.cells #[.slice ao s.aJ.length cap,.int .i64 s.bg,S s.str] 43)).alloc (.cells #[.int .i64 0,.int .i64 0,.int .i64 0] 65)):=(hw.alloc _).alloc _;have wQ:=Qh (show(Tryz.prog.info? 65).map (·.size)=some 3 by kernel_rfl);have jl:=Qh (fun c:Array Value=>show((w.alloc (.cells #[.slice ao s.aJ.length cap,.int .i64 s.bg,S s.str] 43)).alloc (.cells c 65)).heap[w.heap.size+1]?=some (.cells c 65 (0,0)) by have:=heap_alloc_new (w.alloc (.cells #[.slice ao s.aJ.length cap,.int .i64 s.bg,S s.str] 43)) (.cells c 65);simpa using this);go_loop [6] (fun s6=> ∃k:Nat,k≤s.aJ.length∧s6= .int .i64 k∧lN (s.aJ.drop k) d=N) (fun i=>s.aJ.length-(intOf i).toNat)
 case atStart=>exact⟨0,Nat.zero_le _,rfl,HN.O⟩
 case round=>
  clear HN;obtain⟨k,hk,rfl,hr⟩:=hrel;have Hr:=Qh hr;clear hr;by_cases hlt:k<s.aJ.length
  ·obtain⟨x,b,off,cap',cB,dC,x0,x1,x2,x3⟩:=KG Hv.O aO k hlt;cases dC;have bI:=Qh (Xs5 hlt cB Hr.O);clear cB Hr;by_cases hd:x.d=d
   ·have Hn:=Qh (show N=(x.x,true) by have:=bI.O;rw[if_pos hd]at this;exact this.symm);have Eh:(x.d==d)=true:=by simpa using hd
    clear hd bI;go_wp2;refine bodyPost_ret (v:= .tuple #[FL x.x,.bool true]) ?_ rfl ?_
    ·rw[results_cell_tmp rfl];simp[asAddr,run_loadVar_row _ (w.heap.size+1) 65 65 #[.int .i64 x.x.s,.int .i64 x.x.o,.int .i64 x.x.n] (0,0) _ (jl.O _) Tryz.underlying65 rfl wQ.O]
    ·rw[Hn.O];exact⟨rfl,b0.alloc b0.size _⟩
   ·have Hn:=Qh (show lN (s.aJ.drop (k+1)) d=N by have:=bI.O;rwa[if_neg hd]at this);have Eh:(x.d==d)=false:=by simpa using hd
    clear hd bI;go_wp2;go_round;case rel=>exact⟨k+1,by omega,by go_num,Hn.O⟩
    case measure=>simp[intOf];omega
  ·have Hn:=Qh (show N=(⟨0,0,0⟩,false) by have:=Hr.O;rw[List.drop_of_length_le (by omega)]at this;exact this.symm);clear Hr;go_wp2;refine bodyPost_ret (v:= .tuple #[FL ⟨0,0,0⟩,.bool false]) ?_ rfl ?_
   ·rw[results_cell_tmp rfl];simp[asAddr,run_loadVar_row _ (w.heap.size+1) 65 65 #[.int .i64 0,.int .i64 0,.int .i64 0] (0,0) _ (jl.O _) Tryz.underlying65 rfl wQ.O]
   ·rw[Hn.O];exact⟨rfl,b0.alloc b0.size _⟩
theorem Xk0:(Tryz.prog.info? 103).map (fun i=>(i.zero,i.size,i.bytes))=some (some (.agg #[.string ⟨#[]⟩,.int .i64 0,.int .i64 0,.int .i64 0]),4,40):=by kernel_rfl
theorem Xpm(I:IH)(v:Value)(l:List _)(hv:aZ si I v l)(w:World)(hw:Ok I w)(iw:l.length*40≤140737488355328):
 Calls Tryz.prog 52 #[v] w fun e w'=> ∃v',e= .returned v'∧aQ si 103 I w' w.heap.size v' l∧Below w.heap.size w w':=by
 obtain⟨i0,hi,pg,qL,wX⟩:=info_parts Xk0;have q22:∀(w:World) (a:Option Addr) (n c n' c':Nat),(binOp .eql 41 (.slice a n c) (.slice none n' c')).run Tryz.prog w= .ok (.bool a.isNone) w:=fun w a n c n' c'=>Lib.run_eql_slice_nil w _ _ a n c n' c' Tryz.underlying41;obtain⟨ao,cap,xs,rfl,fu,iv,hL,hx⟩:=hv.cells hw (by decide);have HL:=Qh hL;have Hx:=Qh hx;clear hL hx hv;cases ao with
 |none=>
  have h0:l.length=0:=by
   rcases Nat.eq_zero_or_pos l.length with h|h
   ·exact h
   ·obtain⟨b,off,arr,e,_⟩:=Hx.O h;cases e
  have:l=[]:=List.eq_nil_of_length_eq_zero h0;subst this;go_enter Tryz.func52,Tryz.ntmps52
  go_wp2;go_ret;exact⟨_,rfl,aQ.nil _ _ _ _ _,Qb _ _⟩
 |some a=>
  go_enter Tryz.func52,Tryz.ntmps52
  go_wp2_with (at_builtin;refine wpList_append_own _ rfl _ _ 41 rfl w.heap.size 103 i0 _ 4 40 Tryz.underlying41 hi pg qL wX rfl (by decide) _ _ _ rfl (World.ownsRow_made w #[] 0 (Qn _) (Nat.zero_le _) (by simp)) a l.length cap xs rfl ?qc1 ?qc2 ?qc3 ?qc4 ?qc5 ?qc6 ?_)
  case qc1=>exact HL.O.1
  case qc2=>
   intro j u hj;have hl:0<l.length:=by
    have:=(List.getElem?_eq_some_iff.1 hj).1;rw[HL.O.1]at this;rcases Nat.eq_zero_or_pos l.length with h|h
    ·rw[h]at this;omega
    ·exact h
   obtain⟨b,off,arr,e,_,hb,hc⟩:=Hx.O hl;cases e;rw[Addr.add_lit];rw[World.cell?_alloc_lt _ _ _ hb];exact hc j u hj
  case qc3=>exact HL.O.oneCell
  case qc4=>rw[Nat.zero_add];omega
  case qc5=>rw[Nat.zero_add];exact iw
  case qc6=>simp
  intro v' w1 bU nT _;go_wp2;go_ret;refine⟨v',rfl,⟨xs,(by have hq:=bU;first|exact hq|(simp at hq;exact hq)),HL.O⟩,?_⟩;exact((Qb _ w).alloc (Qn _) _).grown nT (by simp) (by intro k hk;simp[Value.ownBlock]at hk;omega)
theorem PG:Go.Maps.Keyed Tryz.prog 9:=Go.Maps.string_keyed Tryz.underlying9
theorem PH(p:af)(hp:p.length≤4294967280):keyOf Tryz.prog 9 (S p)=some (.string p):=by
 have h:=Go.WideMaps.keyOf_string_mk (P:=Tryz.prog) Tryz.underlying9 (s:=⟨p.toArray⟩) (by rw[ByteArray.size_mk',List.size_toArray];unfold maxLen;omega);simpa using h
def zV(x:Xt):DataW Unit:= .agg [.lit (.int .i64 x.s),.lit (.int .i64 x.o),.lit (.int .i64 x.n)]
def qi(v:Value):Option (DataW Unit×List MemPlace):=
 match v with
 | .agg a=>match a.toList with
   | [.int .i64 s,.int .i64 o,.int .i64 n]=>some (zV ⟨s,o,n⟩,[])
   |_=>none
 |_=>none
theorem Xj1(x:Xt):qi (FL x)=some (zV x,[]):=rfl
theorem Xq6{z:DataW Unit×List MemPlace}(h:qi v=some z):∃x,v=FL x∧z=(zV x,[]):=by
 unfold qi at h;split at h
 ·rename_i a;split at h
  ·rename_i s o n e;refine⟨⟨s,o,n⟩,?_,(Option.some.inj h).symm⟩;rw[←Array.toArray_toList (xs:=a),e]
  ·cases h
 ·cases h
theorem Xol(h:zV x=zV y):x=y:=by
 unfold zV at h;cases x;cases y;simp at h;obtain⟨rfl,rfl,rfl⟩:=h;rfl
def vG(D:DataW Unit)(l:List Ck):Prop:=∀p:af,(gZ l p=none→Go.Maps.has D (.string p)=false)∧ ∀x,gZ l p=some x→Go.Maps.has D (.string p)=true∧ ∀z,D.atKey (.string p) z=zV x
theorem Xun:vG (.map []) []:=fun _=>⟨fun _=>rfl,fun _ h=>(by cases h)⟩
theorem Xjr(l:List Ck)(c:Ck)(p:af):gZ (l++[c]) p=match gZ l p with|some x=>some x|none=>if c.d=p then some c.x else none:=by
 induction l with
 |nil=>rfl
 |cons a l ih=>
  rw[List.cons_append,gZ,gZ];by_cases h:a.d=p
  ·rw[if_pos h,if_pos h]
  ·rw[if_neg h,if_neg h,ih]
theorem Xum(h:vG D l)(hc:gZ l c.d=some y):vG D (l++[c]):=fun p=>by
 have hp:=h p;rw[Xjr];cases hf:gZ l p with
 |some x=>rw[hf]at hp;exact hp
 |none=>
  rw[hf]at hp;have bq:c.d≠p:=fun e=>by rw[e,hf]at hc;cases hc
  dsimp only;rw[if_neg bq];exact hp
theorem Xpa(h:vG D l)(hD:Go.Maps.IsMap D)(hc:gZ l c.d=none):vG (D.put (.string c.d) (zV c.x)) (l++[c]):=fun p=>by
 have hp:=h p;rw[Xjr];by_cases bq:c.d=p
 ·subst bq;rw[hc];dsimp only;rw[if_pos rfl];refine⟨fun e=>(by cases e),fun x hx=> ?_⟩;cases hx;exact⟨Go.Maps.has_put_same hD (show WideAt.IsKeyLit (.string c.d)from trivial) _,fun z=>Go.Maps.atKey_put_same hD (show WideAt.IsKeyLit (.string c.d)from trivial) _ z⟩
 ·have hk:(Lit.string p)≠ .string c.d:=by intro e;cases e;exact bq rfl
  rw[Go.Maps.has_put_other hk];cases hf:gZ l p with
  |some x=>
   rw[hf]at hp;refine⟨fun e=>(by cases e),fun y hy=>⟨(hp.2 y hy).1,fun z=> ?_⟩⟩;rw[Go.Maps.atKey_put_other hk];exact(hp.2 y hy).2 z
  |none=>
   rw[hf]at hp;dsimp only;rw[if_neg bq];exact⟨fun _=>hp.1 rfl,fun x hx=>(by cases hx)⟩
theorem Xyb(w:World):(zeroValue 65).run Tryz.prog w= .ok (FL ⟨0,0,0⟩) w:=by kernel_rfl
theorem Xxz{n:Nat}(h:W.ownsMap Tryz.prog 9 qi B n D)(hM:vG D l){p:af}(hp:p.length≤4294967280):
 (Instr.lookup 145 (.map (some B)) (S p) true).run Tryz.prog W= .ok (.tuple #[FL (lN l p).1,.bool (lN l p).2]) W:=by
 obtain⟨v,ps,h1,h2⟩:=h.look_ok PG Tryz.underlying145 (Xyb W) (Xj1 ⟨0,0,0⟩) (PH p hp);obtain⟨x,rfl,hx⟩:=Xq6 h2;have hx:=(Prod.mk.inj hx).1;rw[h1];unfold lN;cases hf:gZ l p with
 |none=>
  have k:=(hM p).1 hf;rw[Go.Maps.atKey_of_not_has k]at hx;rw[k,←Xol hx]
 |some y=>
  obtain⟨k1,k2⟩:=(hM p).2 y hf;rw[k2]at hx;rw[k1,←Xol hx]
theorem Xu5(I:IH)(s:ib)(vc:Value)(hv:aZ si I vc s.aJ)(hn:s.aJ.length≤10000000)(hd:∀c∈s.aJ,c.d.length≤32)(w:World)(hw:Ok I w):
 Calls Tryz.prog 97 #[fD s vc] w fun e w'=> ∃B D,e= .returned (.map (some B))∧w.heap.size≤B∧w'.ownsMap Tryz.prog 9 qi B s.aJ.length D∧vG D s.aJ∧Below w.heap.size w w':=by
 have WG:= @run_makeMap Tryz.prog;obtain⟨ao,cap,rfl,_,_,_⟩:=id hv;have Hv:=Qh hv;have Hd:=Qh hd;have b0:Below w.heap.size w (w.alloc (.cells #[.slice ao s.aJ.length cap,.int .i64 s.bg,S s.str] 43)):=(Qb _ _).alloc (Qn _) _;have Pg:=Qh (show((w.alloc (.cells #[.slice ao s.aJ.length cap,.int .i64 s.bg,S s.str] 43)).alloc (.map #[] 0)).ownsMap Tryz.prog 9 qi (w.heap.size+1) 0 (.map []) by
  have:=World.ownsMap_made (H:=Unit) (w.alloc (.cells #[.slice ao s.aJ.length cap,.int .i64 s.bg,S s.str] 43)) Tryz.prog 9 qi;rwa[World.size_alloc]at this)
 have tX:Below w.heap.size w ((w.alloc (.cells #[.slice ao s.aJ.length cap,.int .i64 s.bg,S s.str] 43)).alloc (.map #[] 0)):=b0.alloc b0.size _;have iq:Ok I ((w.alloc (.cells #[.slice ao s.aJ.length cap,.int .i64 s.bg,S s.str] 43)).alloc (.map #[] 0)):=(hw.alloc _).alloc _;have hIB:I (w.heap.size+1)=none:=hw.fresh (by omega);obtain⟨B,hB⟩:∃B,w.heap.size+1=B:=⟨_,rfl⟩;clear hv hd b0;go_enter Tryz.func97,Tryz.ntmps97
 go_wp2;rw[hB]at Pg hIB;generalize hW:((w.alloc (.cells #[.slice ao s.aJ.length cap,.int .i64 s.bg,S s.str] 43)).alloc (.map #[] 0))=W0 at Pg tX iq ⊢;clear hW WG;go_loopw [12] (fun s12 wr=> ∃(k:Nat) (D:DataW Unit),k≤s.aJ.length∧s12= .int .i64 k∧wr.ownsMap Tryz.prog 9 qi B k D∧vG D (s.aJ.take k)∧Ok I wr∧Below w.heap.size w wr) (fun i _=>s.aJ.length-(intOf i).toNat)
 case atStart=>exact⟨0,_,Nat.zero_le _,rfl,Pg.O,Xun,iq,tX⟩
 case round=>
  clear Pg iq tX;obtain⟨k,D,hk,rfl,bU,Ci,iZ,hb⟩:=hrel;have di:=Qh bU;have LC:=Qh Ci;clear bU Ci;by_cases hlt:k<s.aJ.length
  ·obtain⟨c,b,off,cap',qm,dC,x0,x1,x2,x3⟩:=KG Hv.O iZ k hlt;cases dC;have hcd:=Hd.O c (by rw[←qm];exact List.getElem_mem hlt);have mq:=Qh (show s.aJ.take (k+1)=s.aJ.take k++[c] by rw[List.take_succ_eq_append_getElem hlt,qm]);have o1:=di.O.alloc (.cells #[S c.d,.int .i64 c.x.s,.int .i64 c.x.o,.int .i64 c.x.n] 103);have AO:=Xxz o1 LC.O (p:=c.d) (by omega);have b1:=hb.alloc hb.size (.cells #[S c.d,.int .i64 c.x.s,.int .i64 c.x.o,.int .i64 c.x.n] 103);cases hf:gZ (s.aJ.take k) c.d with
   |some y=>
    have jN:lN (s.aJ.take k) c.d=(y,true):=by unfold lN;rw[hf]
    rw[jN]at AO;have Hn:=Qh (show vG D (s.aJ.take (k+1)) by rw[mq.O];exact Xum LC.O hf);clear hf jN qm o1 mq;go_wp2;go_roundw;case rel=>exact⟨k+1,D,by omega,by go_num,((di.O.alloc _).alloc _).mono (by omega),Hn.O,(iZ.alloc _).alloc _,b1.alloc b1.size _⟩
    case measure=>simp[intOf];omega
   |none=>
    have jN:lN (s.aJ.take k) c.d=(⟨0,0,0⟩,false):=by unfold lN;rw[hf]
    rw[jN]at AO;have o2:=o1.alloc (.cells #[.int .i64 0,.int .i64 0,.int .i64 0] 65);have Hn:=Qh (show vG (D.put (.string c.d) (zV c.x)) (s.aJ.take (k+1)) by rw[mq.O];exact Xpa LC.O di.O.isMap hf);have LD:=Qh (PH c.d (by omega));have bn:=(iZ.alloc (.cells #[S c.d,.int .i64 c.x.s,.int .i64 c.x.o,.int .i64 c.x.n] 103)).alloc (.cells #[.int .i64 0,.int .i64 0,.int .i64 0] 65);have b2:=b1.alloc b1.size (.cells #[.int .i64 0,.int .i64 0,.int .i64 0] 65);have Ho2:=Qh o2;clear hf jN qm o1 o2 mq
    go_wp2_with (first
     |(at_mapUpdate;refine wpList_mapUpdate_own _ rfl _ _ _ 145 rfl 9 65 PG Tryz.underlying145 qi B k D rfl Ho2.O (by unfold maxLen;omega) _ _ _ rfl rfl LD.O _ [] (Xj1 c.x) ?_)
     |go_in)
    intro w3 Jy iX;go_wp2;go_roundw;case rel=>exact⟨k+1,_,by omega,by go_num,Jy,Hn.O,bn.grown iX (fun g e=>by cases e;exact hIB),b2.grown iX b2.size (fun g e=>by cases e;omega)⟩
    case measure=>simp[intOf];omega
  ·have Hn:=Qh (show vG D s.aJ by have:=LC.O;rwa[List.take_of_length_le (by omega)]at this);have hks:k=s.aJ.length:=by omega
   subst hks;go_wp2;go_ret;exact⟨B,D,rfl,by omega,di.O,Hn.O,hb⟩
