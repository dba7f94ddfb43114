/- Lemmas for the claim's theorem;conditions: as each says. -/
import Derived.RegionTactic
import Derived.Test.YtmdfjnhfhidmhaaGreatDoorJ08
import Derived.Maps.AppendAt
import Derived.Laws.OwnMore
set_option maxHeartbeats 0
set_option maxRecDepth 100000
set_option linter.all false
namespace Go.Proofs.YtmdfjnhfhidmhaaGreatDoor
open Go.RowKit
section
variable {P:Program} {α:Type} {T:Ty α} {I:IH}
theorem Xdq{t ty e:TypeId}{i:TypeInfo}(ht:P.underlying t=some (.slice e))(hi:P.info? e=some i)(w:World)(b ao:Option Addr)(n cap c:Nat)(hn:n≤cap):
 (Builtin.append_ #[t,t] ty #[.slice b n cap,.slice ao 0 c]).run P w= .ok (.slice b n cap) w:=by
 cases b<;>cases ao<;>simp[Builtin.append_,run_underlying ht,sizeOf,typeInfo,hi,Builtin.lenOf,Builtin.firstCells,loadCells,loadCellsFrom,hn,storeCells]
def iV(T:Ty α)(I:IH)(w:World)(v:Value)(l:List α):Prop:=
 ∃ao c cs,v= .slice ao l.length c∧bA T I cs l∧(0<l.length→ ∃ad,ao=some ad∧ ∀j u,cs[j]?=some u→w.cell? (ad.add j)=some u)
theorem iV.uO{w:World}{v:Value}{l:List α}(h:aZ T I v l)(hw:Ok I w)(hs:0<T.size):iV T I w v l:=by
 obtain⟨ao,cap,xs,hv,_,_,hl,hc⟩:=h.cells hw hs;refine⟨ao,cap,xs,hv,hl,fun h0=> ?_⟩;obtain⟨b,off,arr,rfl,_,_,fE⟩:=hc h0;exact⟨_,rfl,fun j u hu=>by rw[Addr.add_lit];exact fE j u hu⟩
theorem iV.jR{w:World}{x:α}{cs:List Value}{g:Nat}(hx:T.rd I cs x)(hc:∀j u,cs[j]?=some u→w.cell? ⟨g,j,none⟩=some u):iV T I w (.slice (some ⟨g,0,none⟩) 1 1) [x]:=
 ⟨_,_,cs,rfl,bA.one hx,fun _=>⟨_,rfl,fun j u hu=>by rw[Addr.add_lit,Nat.zero_add];exact hc j u hu⟩⟩
theorem Xf3{ts te ty:TypeId}{bytes:Nat}(hE:dS P ts te T bytes){w:World}{B:Nat}{v:Value}{l:List α}(bg:aK T te I w B v l){vx:Value}{ys:List α}(hy:iV T I w vx ys)
 (fO:(l.length+ys.length)*bytes≤140737488355328) (hl:l.length+ys.length≤9223372036854775807) (hB:B≤w.heap.size):
 ∃v' w',(Builtin.append_ #[ts,ts] ty #[v,vx]).run P w= .ok v' w'∧aK T te I w' B v' (l++ys)∧w.grownBy w' v.ownBlock:=by
 obtain⟨i,z,h1,h2,h3,h4,h5,h6,h7⟩:=hE;obtain⟨ao,c,cs,rfl,k1,k2⟩:=hy;obtain⟨xs,k3,k4⟩:=bg;rcases Nat.eq_zero_or_pos ys.length with h0|h0
 ·have:ys=[]:=List.eq_nil_of_length_eq_zero h0;subst this;have hv:∃b n cap,v= .slice b n cap∧n≤cap:=by
   rcases k3.2 with⟨h8,_⟩|⟨g,cap,cur,h8,_,_,h9,_⟩
   ·exact⟨_,_,_,h8,Qn _⟩
   ·exact⟨_,_,_,h8,h9⟩
  obtain⟨b,n,cap,rfl,hn⟩:=hv;refine⟨_,w,Xdq h1 h2 w b ao n cap c hn,⟨xs,by rw[List.append_nil];exact k3,by rw[List.append_nil];exact k4⟩,⟨rfl,rfl,rfl,Qn _,fun _ _ _=>rfl⟩⟩
 ·obtain⟨ad,rfl,fE⟩:=k2 h0;obtain⟨v',w',hr,r1,r2,_⟩:=run_append_own (P:=P) w B ts ty te i z T.size bytes h1 h2 h3 h4 h5 h6 h7 v l.length xs k3 ad ys.length c cs k1.1 fE k1.oneCell (by unfold maxLen;omega) fO hB;exact⟨v',w',hr,⟨xs++cs,by rw[List.length_append];exact r1,k4.append k1⟩,r2⟩
theorem EP{ts te:TypeId}{bytes:Nat}(hE:dS P ts te T bytes){w:World}{ops:Array Oper}{o:Oper}{a:Act}{K:Act→World→Prop}{Q:Exit→Act→World→Prop}{E:Prop}(yg:o.guard=none)(s x:Operand)
 (ho:o.op= .call {callee:= .builtin .append,args:=#[s,x],argTypes:=#[ts,ts]}) {B:Nat} {v:Value} {l:List α} (hs:a.eval s=v) (bg:aK T te I w B v l) {vx:Value} {ys:List α} (hx:a.eval x=vx) (hy:iV T I w vx ys)
 (fO:(l.length+ys.length)*bytes≤140737488355328) (hl:l.length+ys.length≤9223372036854775807) (hB:B≤w.heap.size)
 (h:∀v' w',aK T te I w' B v' (l++ys)→w.grownBy w' v.ownBlock→K (a.put o.dst v') w'):
 if Region.wanted o (yielded ops a.tmps)=true then Oper.wp P o a w K Q else E:=by
 obtain⟨v',w',hr,h1,h2⟩:=Xf3 (ty:=o.type) hE bg hy fO hl hB;rw[if_pos (by simp[Region.wanted,yg])];unfold Oper.wp execOp;simp only[ho,resolve,invoke,builtin,Sem.run_bind,Sem.run_pure,Result.andThen_ok,List.map_toArray,List.map_cons,List.map_nil,hs,hx,hr];exact h v' w' h1 h2
theorem Xgy{ts te:TypeId}{bytes:Nat}(hE:dS P ts te T bytes){w:World}{ops:Array Oper}{rest:List Oper}{o:Oper}{a:Act}{Q:Exit→Act→World→Prop}(yg:o.guard=none)(s x:Operand)
 (ho:o.op= .call {callee:= .builtin .append,args:=#[s,x],argTypes:=#[ts,ts]}) {B:Nat} {v:Value} {l:List α} (hs:a.eval s=v) (bg:aK T te I w B v l) {vx:Value} {ys:List α} (hx:a.eval x=vx) (hy:iV T I w vx ys)
 (fO:(l.length+ys.length)*bytes≤140737488355328) (hl:l.length+ys.length≤9223372036854775807) (hB:B≤w.heap.size)
 (h:∀v' w',aK T te I w' B v' (l++ys)→w.grownBy w' v.ownBlock→wpList P ops Q rest (a.put o.dst v') w'):wpList P ops Q (o::rest) a w:=
 wpList_plain yg fun K hK=>by
  obtain⟨v',w',hr,h1,h2⟩:=Xf3 (ty:=o.type) hE bg hy fO hl hB;unfold Oper.wp execOp;simp only[ho,resolve,invoke,builtin,Sem.run_bind,Sem.run_pure,Result.andThen_ok,List.map_toArray,List.map_cons,List.map_nil,hs,hx,hr];exact hK _ _ (h v' w' h1 h2)
end
variable{w:World}{v:Value}{α:Type}{l:List α}{ts te:TypeId}{bytes B:Nat}{I:IH}{x y:Xt}{s:af}{g:Nat}{ops:Array Oper}{o:Oper}{a:Act}{Q:Exit→Act→World→Prop}{n:Int}{i:Nat}{T:Ty α}{W:World}{m:Int}{f:Nat}{d:af}
theorem IE{P:Program}(hE:dS P ts te T bytes){w0:World}{rest:List Oper}(yg:o.guard=none)(s x:Operand)
 (ho:o.op= .call {callee:= .builtin .append,args:=#[s,x],argTypes:=#[ts,ts]}) (B:Nat) (v:Value) (l:List α) (hs:a.eval s=v) (bg:aK T te I w0 B v l)
 (y:α) (cs:List Value) (tb:TypeId) (hx:a.eval x= .slice (some ⟨w0.heap.size,0,none⟩) 1 1) (hy:T.rd I cs y) (fO:(l.length+1)*bytes≤140737488355328) (hl:l.length+1≤9223372036854775807) (hB:B≤w0.heap.size)
 (h:∀v' w',aK T te I w' B v' (l++[y])→w0.grownBy w' v.ownBlock→(∀g,v'.ownBlock=some g→v.ownBlock=some g∨w0.heap.size≤g)→wpList P ops Q rest (a.put o.dst v') w'):wpList P ops Q (o::rest) a (w0.alloc (.cells cs.toArray tb)):=by
 obtain⟨i,z,h1,h2,h3,h4,h5,h6,h7⟩:=hE;obtain⟨xs,k1,k2⟩:=bg
 refine wpList_append_own_at (w0.alloc (.cells cs.toArray tb)) yg s x ts ho B te i z T.size bytes h1 h2 h3 h4 h5 h6 h7 v l.length xs hs (k1.alloc _) ⟨w0.heap.size,0,none⟩ 1 1 cs hx (by rw[T.len hy,Nat.one_mul])
  (fun j u hu=>by rw[Addr.add_lit,Nat.zero_add,World.cell?_alloc_new];simpa using hu) (T.one hy) (by unfold maxLen;omega) fO (by simp;omega) (fun v' w' r1 r2 _ r4=>h v' w' ⟨xs++cs,by rw[List.length_append];exact r1,k2.append (bA.one hy)⟩ ?_ ?_)
 ·exact⟨r2.os,r2.tape,r2.output,by have:=r2.size;simp at this;omega,fun k hk bn=>(r2.block k (by simp;omega) bn).trans (Below.heap_alloc _ _ _ hk)⟩
 ·intro g hg;rcases r4 with r4|r4
  ·exact .inl (r4▸hg)
  ·rw[r4]at hg;simp at hg;exact .inr (by omega)
theorem EQ{w':World}(hb:Below w.heap.size w w')(row:Option Nat):w.grownBy w' row:=⟨hb.os,hb.tape,hb.output,hb.size,fun k hk _=>hb.block k hk⟩
theorem IG{w1 w2:World}{row:Option Nat}(h1:w.grownBy w1 row)(h2:w1.grownBy w2 row):w.grownBy w2 row:=
 ⟨h2.os.trans h1.os,h2.tape.trans h1.tape,h2.output.trans h1.output,Nat.le_trans h1.size h2.size,fun k hk bn=>(h2.block k (Nat.lt_of_lt_of_le hk h1.size) bn).trans (h1.block k hk bn)⟩
theorem Xi2{row:Option Nat}(h:w.grownBy W row)(hg:w.heap.size≤g)(j:Nat)(u:Value):w.grownBy (W.setCell ⟨g,j,none⟩ u) row:=
 ⟨h.os,h.tape,h.output,by rw[World.size_setCell];exact h.size,fun k hk bn=>(heap_setCell_other W ⟨g,j,none⟩ k u (by simp;omega)).trans (h.block k hk bn)⟩
theorem Xne{row:Option Nat}(h:w.grownBy W row):w.grownBy W.drew row:=⟨h.os,h.tape,h.output,h.size,h.block⟩
def XB(n:Int)(x:Xt):Prop:=0≤x.s∧x.s≤255∧0≤x.o∧x.o≤1099511627776∧0≤x.n∧x.n≤n
theorem XB.mono(h:XB n x)(hm:n≤m):XB m x:=by unfold XB at*;omega
section
variable {I:IH} {W:World} {B:Nat} {v:Value} {l:List Xt}
theorem U0(h:aK lY 109 I W B v l)(h0:0<l.length):∃g cap y,v= .slice (some ⟨g,0,none⟩) l.length cap∧l.length≤cap∧l.getLast?=some y∧B≤g∧g<W.heap.size∧
 W.cell? ⟨g,(l.length-1)*3,none⟩=some (.int .i64 y.s)∧W.cell? ⟨g,(l.length-1)*3+1,none⟩=some (.int .i64 y.o)∧W.cell? ⟨g,(l.length-1)*3+2,none⟩=some (.int .i64 y.n)∧(∀j,W.frozen? ⟨g,j,none⟩=false):=by
 obtain⟨xs,h1,h2⟩:=h;rcases h1.2 with⟨_,hz⟩|⟨g,cap,cur,hv,hb,hg,Ej,_⟩
 ·omega
 subst hv;have hlt:g<W.heap.size:=(Qg hg);have nD:xs.length=l.length*3:=h2.1;have hi:l.length-1<l.length:=by omega
 obtain⟨cs,k1,k2⟩:=h2.2 (l.length-1) hi;have k1':cs=[.int .i64 (l[l.length-1]).s,.int .i64 (l[l.length-1]).o,.int .i64 (l[l.length-1]).n]:=k1;subst k1';refine⟨g,cap,l[l.length-1],rfl,Ej,by rw[List.getLast?_eq_getElem?,List.getElem?_eq_getElem hi],hb,hlt,?_,?_,?_,fun j=>h1.frozenAt j⟩
 ·rw[h1.cellAt _ (by show(l.length-1)*3<l.length*3;omega)];exact k2 0 _ rfl
 ·rw[h1.cellAt _ (by show(l.length-1)*3+1<l.length*3;omega)];exact k2 1 _ rfl
 ·rw[h1.cellAt _ (by show(l.length-1)*3+2<l.length*3;omega)];exact k2 2 _ rfl
theorem Xn6{cap:Nat}(h:aK lY 109 I W B (.slice (some ⟨g,0,none⟩) l.length cap) l)(hy:l.getLast?=some y):
 aK lY 109 I (W.setCell ⟨g,(l.length-1)*3+2,none⟩ (.int .i64 n)) B (.slice (some ⟨g,0,none⟩) l.length cap) (l.dropLast++[⟨y.s,y.o,n⟩]):=by
 obtain⟨xs,h1,h2⟩:=h;have h0:0<l.length:=by cases l with
  |nil=>simp at hy
  |cons a l=>simp
 have hl:(l.dropLast++[(⟨y.s,y.o,n⟩:Xt)]).length=l.length:=by simp;omega
 have hs:=(h1.stored ((l.length-1)*3+2) (.int .i64 n)).1;refine⟨_,by rw[hl];exact hs,by rw[hl,List.length_set];exact h2.1,fun i hi=> ?_⟩;rw[hl]at hi;obtain⟨cs,k1,k2⟩:=h2.2 i hi;by_cases he:i=l.length-1
 ·have hyl:l[i]=y:=by
   have:l.getLast?=some l[i]:=by rw[List.getLast?_eq_getElem?,←he,List.getElem?_eq_getElem hi]
   rw[hy]at this;exact(Option.some.inj this).symm
  have k1':cs=[.int .i64 (l[i]).s,.int .i64 (l[i]).o,.int .i64 (l[i]).n]:=k1;rw[hyl]at k1';subst k1';refine⟨[.int .i64 y.s,.int .i64 y.o,.int .i64 n],?_,fun j u hu=> ?_⟩
  ·show _=_;rw[List.getElem_append_right (by simp;omega)];simp
  ·have nD:xs.length=l.length*3:=h2.1;match j,hu with
   |0,hu=>
    rw[List.getElem?_set_ne (by show(l.length-1)*3+2≠i*3+0;omega)];exact(k2 0 _ rfl).trans hu
   |1,hu=>
    rw[List.getElem?_set_ne (by show(l.length-1)*3+2≠i*3+1;omega)];exact(k2 1 _ rfl).trans hu
   |2,hu=>
    have e:i*lY.size+2=(l.length-1)*3+2:=by show i*3+2=_;omega
    rw[e,List.getElem?_set_self (by omega)];exact hu
 ·refine⟨cs,?_,fun j u hu=> ?_⟩
  ·rw[List.getElem_append_left (by simp;omega),List.getElem_dropLast];exact k1
  ·have hj:j<3:=by rw[←show cs.length=3 from lY.len k1];exact(List.getElem?_eq_some_iff.1 hu).1
   rw[List.getElem?_set_ne (by show(l.length-1)*3+2≠i*3+j;omega)];exact k2 j u hu
end
abbrev C9(x:Xt):Value:= .agg #[.int .i64 x.s,.int .i64 x.o,.int .i64 x.n]
abbrev Kk(x:Xt):List Value:=[.int .i64 x.s,.int .i64 x.o,.int .i64 x.n]
theorem Xvm:(Tryz.prog.info? 109).map (fun i=>(i.zero,i.size,i.bytes))=some (some (.agg #[.int .i64 0,.int .i64 0,.int .i64 0]),3,24):=by kernel_rfl
theorem II:dS Tryz.prog 79 109 lY 24:=dS.of Tryz.underlying79 Xvm rfl (by decide) rfl
theorem X5(x:Xt):jr [] x=[x]:=rfl
theorem X6{l:List Xt}(h:l.getLast?=some y)(hn:¬(x.s≠0∧y.s=x.s∧y.o+y.n=x.o)):jr l x=l++[x]:=by
 unfold jr;rw[h];show(if _ then _ else _)=_;rw[if_neg hn]
theorem X7{l:List Xt}(h:l.getLast?=some y)(hn:x.s≠0∧y.s=x.s∧y.o+y.n=x.o):jr l x=l.dropLast++[⟨y.s,y.o,y.n+x.n⟩]:=by
 unfold jr;rw[h];show(if _ then _ else _)=_;rw[if_pos hn]
theorem X8{l:List Xt}(h:l.getLast?=some y):y∈l:=List.mem_of_getLast? h
theorem Xs7{l:List Xt}(hm:0≤m)(hl:∀z∈l,XB n z)(hx:XB m x)(hn:0≤n):∀z∈jr l x,XB (n+m) z:=by
 intro z hz;cases hg:l.getLast? with
 |none=>
  have:l=[]:=List.getLast?_eq_none_iff.1 hg;subst this;rw[X5]at hz;simp at hz;subst hz;exact hx.mono (by omega)
 |some y=>
  have hy:=hl y (X8 hg);by_cases hc:x.s≠0∧y.s=x.s∧y.o+y.n=x.o
  ·rw[X7 hg hc]at hz;rcases List.mem_append.1 hz with hz|hz
   ·exact(hl z (List.dropLast_subset _ hz)).mono (by omega)
   ·simp at hz;subst hz;unfold XB at*;simp only;omega
  ·rw[X6 hg hc]at hz;rcases List.mem_append.1 hz with hz|hz
   ·exact(hl z hz).mono (by omega)
   ·simp at hz;subst hz;exact hx.mono (by omega)
theorem Xnp(W:World)(n:Nat)(hn:n=W.heap.size):aK lY 109 I (W.alloc (.cells #[] 109)) n (.slice (some ⟨n,0,none⟩) 0 0) []:=by
 subst hn;exact⟨[],World.ownsRow_made W #[] 0 (Qn _) (Nat.zero_le _) (by simp),bA.nil _ _⟩
theorem iV.Md{E:TypeId}(h:aK T E I w B v l):iV T I w v l:=by
 obtain⟨xs,h1,h2⟩:=h;rcases id h1.2 with⟨hv,h0⟩|⟨g,cap,cur,hv,_⟩
 ·exact⟨none,0,xs,by rw[h0];exact hv,h2,fun h=>by omega⟩
 ·refine⟨_,cap,xs,hv,h2,fun _=>⟨_,rfl,fun j u hu=> ?_⟩⟩;exact h1.cells (by rw[hv];rfl) j u hu
def Me(I:IH)(B:Nat)(w:World)(v:Value)(l:List Xt)(e:Ending)(w':World):Prop:=
 ∃v',e= .returned v'∧aK lY 109 I w' B v' l∧w.grownBy w' v.ownBlock∧ ∀g,v'.ownBlock=some g→v.ownBlock=some g∨w.heap.size≤g
theorem Xpg(I:IH)(B:Nat)(v0:Value)(x:Xt)(w:World)(hv:aK lY 109 I w B v0 [])(hB:B≤w.heap.size):
 Calls Tryz.prog 115 #[v0,C9 x] w (Me I B w v0 (jr [] x)):=by
 have Hn:=Qh (X5 x);obtain⟨ao,n,cap,cZ,Er⟩:∃ao n cap,v0= .slice ao n cap∧n=0:=by
  obtain⟨xs,h1,_⟩:=hv;rcases h1.2 with⟨h,_⟩|⟨g,cap,cur,h,_⟩
  ·exact⟨_,_,_,h,rfl⟩
  ·exact⟨_,_,_,h,rfl⟩
 subst cZ;subst Er;have kV:Below w.heap.size w (w.alloc (.cells #[.int .i64 x.s,.int .i64 x.o,.int .i64 x.n] 109)):=(Qb _ _).alloc (Qn _) _;have c0:(w.alloc (.cells #[.int .i64 x.s,.int .i64 x.o,.int .i64 x.n] 109)).cell? ⟨w.heap.size,0,none⟩=some (.int .i64 x.s):=by simp
 have c1:(w.alloc (.cells #[.int .i64 x.s,.int .i64 x.o,.int .i64 x.n] 109)).cell? ⟨w.heap.size,1,none⟩=some (.int .i64 x.o):=by simp
 have c2:(w.alloc (.cells #[.int .i64 x.s,.int .i64 x.o,.int .i64 x.n] 109)).cell? ⟨w.heap.size,2,none⟩=some (.int .i64 x.n):=by simp
 have Ha:=Qh (hv.alloc (.cells #[.int .i64 x.s,.int .i64 x.o,.int .i64 x.n] 109));clear hv;go_enter Tryz.func115,Tryz.ntmps115
 go_wp2_with fail
 generalize(w.alloc (.cells #[.int .i64 x.s,.int .i64 x.o,.int .i64 x.n] 109))=w1 at kV c0 c1 c2 Ha ⊢;refine wp_region_quiet_below (by kernel_rfl) (by kernel_rfl) ?_;repeat(go_big_quiet_step ((fail)))
 refine wpQuiet_nil ?_;intro w2 bq;have aL:Below (w1).heap.size (w1) w2:=by
  obtain⟨pq,rfl⟩:=bq;exact below_regrown _ _ _
 clear bq;have iG:=EQ (kV.trans (aL.mono kV.size)) (Value.slice ao 0 cap).ownBlock;replace Ha:=Qh (Ha.O.below aL);replace c0:=bK aL c0;replace c1:=bK aL c1;replace c2:=bK aL c2;have xn:B≤w2.heap.size:=by have:=iG.size;omega
 go_wp2_with (at_builtin;refine IE (w0:=w2) II rfl _ _ rfl B _ _ rfl Ha.O x (Kk x) _ rfl rfl (by(try simp only[List.length_nil]);omega) (by(try simp only[List.length_nil]);omega) xn ?_)
 intro v9 w9 bD bP jf;have gI:=IG iG bP;have dM:=iG.size;go_wp2;go_ret;exact⟨_,rfl,(by rw[Hn.O];exact bD),gI,fun g h=>(jf g h).imp id (fun h=>by omega)⟩
theorem Xpf(I:IH)(B:Nat)(v0:Value)(l:List Xt)(x:Xt)(w:World)(hv:aK lY 109 I w B v0 l)(hB:B≤w.heap.size)(h0:0<l.length)(hn:l.length≤100000)(hl:∀z∈l,XB 1099511627776 z)(hx:XB 1099511627776 x):
 Calls Tryz.prog 115 #[v0,C9 x] w (Me I B w v0 (jr l x)):=by
 have kV:Below w.heap.size w (w.alloc (.cells #[.int .i64 x.s,.int .i64 x.o,.int .i64 x.n] 109)):=(Qb _ _).alloc (Qn _) _;have c0:(w.alloc (.cells #[.int .i64 x.s,.int .i64 x.o,.int .i64 x.n] 109)).cell? ⟨w.heap.size,0,none⟩=some (.int .i64 x.s):=by simp
 have c1:(w.alloc (.cells #[.int .i64 x.s,.int .i64 x.o,.int .i64 x.n] 109)).cell? ⟨w.heap.size,1,none⟩=some (.int .i64 x.o):=by simp
 have c2:(w.alloc (.cells #[.int .i64 x.s,.int .i64 x.o,.int .i64 x.n] 109)).cell? ⟨w.heap.size,2,none⟩=some (.int .i64 x.n):=by simp
 have nC:=hv.alloc (.cells #[.int .i64 x.s,.int .i64 x.o,.int .i64 x.n] 109);obtain⟨g,cap,y,rfl,NW,hy,hbg,hlt,y0,y1,y2,iR⟩:=U0 nC h0;have Ha:=Qh nC;have qz:=Qh (fun h=>X6 (l:=l) (x:=x) hy h);have uP:=Qh (fun h=>X7 (l:=l) (x:=x) hy h);have JF:=hl y (X8 hy);unfold XB at hx JF;have Hy:=Qh hy;clear hv nC hl hy;have i1:(0:Int)<(l.length:Int):=by omega
 have m1:IntKind.i64.wrap ((l.length:Int)-1)=((l.length-1:Nat):Int):=by rw[IntWalk.i64_in _ (by omega)];omega
 have m2:IntKind.i64.wrap (y.o+y.n)=y.o+y.n:=IntWalk.i64_in _ (by omega);have m3:(l.length:Int)-1=((l.length-1:Nat):Int):=by omega
 have i2:l.length-1<l.length:=by omega
 have g0:=cell_regrown y0;have g1:=cell_regrown y1;have g2:=cell_regrown y2;have z0:=cell_regrown c0;have z1:=cell_regrown c1;have z2:=cell_regrown c2;by_cases lC:x.s=0
 ·have e1:(x.s !=0)=false:=by simpa using lC
  have e2:(x.s==0)=true:=by simpa using lC
  have Hn:=Qh (qz.O (by rintro⟨h,_⟩;exact h lC));clear lC qz uP;go_enter Tryz.func115,Tryz.ntmps115
  go_wp2_with fail
  generalize(w.alloc (.cells #[.int .i64 x.s,.int .i64 x.o,.int .i64 x.n] 109))=w1 at kV c0 c1 c2 y0 y1 y2 g0 g1 g2 z0 z1 z2 Ha ⊢;refine wp_region_quiet_below (by kernel_rfl) (by kernel_rfl) ?_;repeat(go_big_quiet_step ((fail)))
  refine wpQuiet_nil ?_;intro w2 bq;have aL:Below (w1).heap.size (w1) w2:=by
   obtain⟨pq,rfl⟩:=bq;exact below_regrown _ _ _
  clear bq;have lM:=kV.trans (aL.mono kV.size);have iG:=EQ lM (Value.slice (some ⟨g,0,none⟩) l.length cap).ownBlock;replace Ha:=Qh (Ha.O.below aL);replace c0:=bK aL c0;replace c1:=bK aL c1;replace c2:=bK aL c2;have xn:B≤w2.heap.size:=by have:=iG.size;omega
  clear y0 y1 y2 g0 g1 g2 z0 z1 z2;go_wp2_with (at_builtin;refine IE (w0:=w2) II rfl _ _ rfl B _ _ rfl Ha.O x (Kk x) _ rfl rfl (by(try simp only[List.length_nil]);omega) (by(try simp only[List.length_nil]);omega) xn ?_)
  intro v9 w9 bD bP jf;have gI:=IG iG bP;have dM:=iG.size;go_wp2;go_ret;exact⟨_,rfl,(by rw[Hn.O];exact bD),gI,fun g h=>(jf g h).imp id (fun h=>by omega)⟩
 have e1:(x.s !=0)=true:=by simpa using lC
 have e2:(x.s==0)=false:=by simpa using lC
 by_cases Bz:y.s=x.s;case neg=>
  have e3:(y.s==x.s)=false:=by simpa using Bz
  have Hn:=Qh (qz.O (by rintro⟨_,h,_⟩;exact Bz h));clear lC Bz qz uP;go_enter Tryz.func115,Tryz.ntmps115
  go_wp2_with fail
  generalize(w.alloc (.cells #[.int .i64 x.s,.int .i64 x.o,.int .i64 x.n] 109))=w1 at kV c0 c1 c2 y0 y1 y2 g0 g1 g2 z0 z1 z2 Ha ⊢;refine wp_region_quiet_below (by kernel_rfl) (by kernel_rfl) ?_;repeat(go_big_quiet_step ((fail)))
  refine wpQuiet_nil ?_;intro w2 bq;have aL:Below (w1).heap.size (w1) w2:=by
   obtain⟨pq,rfl⟩:=bq;exact below_regrown _ _ _
  clear bq;have lM:=kV.trans (aL.mono kV.size);have iG:=EQ lM (Value.slice (some ⟨g,0,none⟩) l.length cap).ownBlock;replace Ha:=Qh (Ha.O.below aL);replace c0:=bK aL c0;replace c1:=bK aL c1;replace c2:=bK aL c2;have xn:B≤w2.heap.size:=by have:=iG.size;omega
  clear y0 y1 y2 g0 g1 g2 z0 z1 z2;go_wp2_with (at_builtin;refine IE (w0:=w2) II rfl _ _ rfl B _ _ rfl Ha.O x (Kk x) _ rfl rfl (by(try simp only[List.length_nil]);omega) (by(try simp only[List.length_nil]);omega) xn ?_)
  intro v9 w9 bD bP jf;have gI:=IG iG bP;have dM:=iG.size;go_wp2;go_ret;exact⟨_,rfl,(by rw[Hn.O];exact bD),gI,fun g h=>(jf g h).imp id (fun h=>by omega)⟩
 have e3:(y.s==x.s)=true:=by simpa using Bz
 by_cases Db:y.o+y.n=x.o;case neg=>
  have e4:(y.o+y.n==x.o)=false:=by simpa using Db
  have Hn:=Qh (qz.O (by rintro⟨_,_,h⟩;exact Db h));clear lC Bz Db qz uP;go_enter Tryz.func115,Tryz.ntmps115
  go_wp2_with fail
  generalize(w.alloc (.cells #[.int .i64 x.s,.int .i64 x.o,.int .i64 x.n] 109))=w1 at kV c0 c1 c2 y0 y1 y2 g0 g1 g2 z0 z1 z2 Ha ⊢;refine wp_region_quiet_below (by kernel_rfl) (by kernel_rfl) ?_;repeat(go_big_quiet_step ((fail)))
  refine wpQuiet_nil ?_;intro w2 bq;have aL:Below (w1).heap.size (w1) w2:=by
   obtain⟨pq,rfl⟩:=bq;exact below_regrown _ _ _
  clear bq;have lM:=kV.trans (aL.mono kV.size);have iG:=EQ lM (Value.slice (some ⟨g,0,none⟩) l.length cap).ownBlock;replace Ha:=Qh (Ha.O.below aL);replace c0:=bK aL c0;replace c1:=bK aL c1;replace c2:=bK aL c2;have xn:B≤w2.heap.size:=by have:=iG.size;omega
  clear y0 y1 y2 g0 g1 g2 z0 z1 z2;go_wp2_with (at_builtin;refine IE (w0:=w2) II rfl _ _ rfl B _ _ rfl Ha.O x (Kk x) _ rfl rfl (by(try simp only[List.length_nil]);omega) (by(try simp only[List.length_nil]);omega) xn ?_)
  intro v9 w9 bD bP jf;have gI:=IG iG bP;have dM:=iG.size;go_wp2;go_ret;exact⟨_,rfl,(by rw[Hn.O];exact bD),gI,fun g h=>(jf g h).imp id (fun h=>by omega)⟩
 have e4:(y.o+y.n==x.o)=true:=by simpa using Db
 have Hn:=Qh (uP.O ⟨lC,Bz,Db⟩);clear lC Bz Db qz uP;go_enter Tryz.func115,Tryz.ntmps115
 go_wp2_with fail
 generalize(w.alloc (.cells #[.int .i64 x.s,.int .i64 x.o,.int .i64 x.n] 109))=w1 at kV c0 c1 c2 y0 y1 y2 g0 g1 g2 z0 z1 z2 Ha ⊢;refine wp_region_quiet_below (by kernel_rfl) (by kernel_rfl) ?_;repeat(go_big_quiet_step ((fail)))
 refine wpQuiet_nil ?_;intro w2 bq;have aL:Below (w1).heap.size (w1) w2:=by
  obtain⟨pq,rfl⟩:=bq;exact below_regrown _ _ _
 clear bq;have lM:=kV.trans (aL.mono kV.size);have iG:=EQ lM (Value.slice (some ⟨g,0,none⟩) l.length cap).ownBlock;replace Ha:=Qh (Ha.O.below aL);replace c0:=bK aL c0;replace c1:=bK aL c1;replace c2:=bK aL c2;have xn:B≤w2.heap.size:=by have:=iG.size;omega
 clear y0 y1 y2 g0 g1 g2 z0 z1 z2;have hE:=(Xnp (I:=I) w2 w2.heap.size rfl);have hS:=iV.Md (Ha.O.alloc (.cells #[] 109));go_wp2_with (at_builtin;refine Xgy II rfl _ _ rfl rfl hE rfl hS (by(try simp only[List.length_nil]);omega) (by(try simp only[List.length_nil]);omega) (by simp) ?_)
 intro v6 w3 Gd tX;have dX:Below w2.heap.size w2 w3:=Below.own ((Qb _ w2).alloc (Qn _) (.cells #[] 109)) tX hE (Qn _) (by simp);obtain⟨g6,cap6,y6,rfl,alg,hy6,alh,ER,y0,y1,y2,QJ⟩:=U0 Gd h0;obtain rfl:y=y6:=by rw[Hy.O]at hy6;exact Option.some.inj hy6
 replace c2:=bK dX c2;have Cc:=Qh Gd;have QK:=IG iG (EQ dX (Value.slice (some ⟨g,0,none⟩) l.length cap).ownBlock);have iR:=QJ ((l.length-1)*3+2);have m4:IntKind.i64.wrap (y.n+x.n)=y.n+x.n:=IntWalk.i64_in _ (by omega);have eZ:=iG.size;clear Gd tX dX hE hS QJ Ha c0 c1 y0 y1 iG kV lM aL;go_wp2_with fail
 go_big_region
 go_wp2;go_ret;exact⟨_,rfl,by rw[Hn.O];exact(Xn6 Cc.O Hy.O).lower (by omega),by first|exact Xi2 QK (by omega) _ _|exact Xne (Xi2 QK (by omega) _ _),fun q hq=> .inr (by simp[Value.ownBlock]at hq;omega)⟩
theorem X9(I:IH)(B:Nat)(v0:Value)(l:List Xt)(x:Xt)(w:World)(hv:aK lY 109 I w B v0 l)(hB:B≤w.heap.size)(hn:l.length≤100000)(hl:∀z∈l,XB 1099511627776 z)(hx:XB 1099511627776 x):
 Calls Tryz.prog 115 #[v0,C9 x] w (Me I B w v0 (jr l x)):=by
 cases l with
 |nil=>exact Xpg I B v0 x w hv hB
 |cons a l=>exact Xpf I B v0 (a::l) x w hv hB (by simp) hn hl hx
theorem Xhy{k h:Nat}(hk:k<s.length){N:Nat}(hr:fZ (s.drop k) k h=N):(if k+1=96∨(16≤k+1∧Ez h (s.getD k 0)<2048)then k+1 else fZ (s.drop (k+1)) (k+1) (Ez h (s.getD k 0)))=N:=by
 rw[List.drop_eq_getElem_cons hk,fZ]at hr;rw[←hr];simp[List.getD,hk]
theorem Xvj(h:Nat)(b:UInt8):Ez h b<65536:=Nat.mod_lt _ (by decide)
theorem Xsw(h:Nat)(b:UInt8):((2*(h:Int)+40503*((b.toNat:Int)+1))%65536)=((Ez h b:Nat):Int):=by unfold Ez;omega
theorem Xmx(s:af)(hs:s.length≤4294967280)(w:World):
 Calls Tryz.prog 169 #[S s] w fun e w'=>e= .returned (.int .i64 (gW s:Nat))∧Below w.heap.size w w':=by
 obtain⟨N,hN⟩:∃N,gW s=N:=⟨_,rfl⟩;have HN:=Qh (show fZ (s.drop 0) 0 0=N from hN);rw[hN];clear hN;go_enter Tryz.func169,Tryz.ntmps169
 go_wp2_with fail
 go_loopw [3,4] (fun s3 s4 wr=> ∃k h:Nat,k≤s.length∧h<65536∧s4= .int .i64 k∧s3= .int .i64 h∧fZ (s.drop k) k h=N∧Below w.heap.size w wr) (fun _ i _=>s.length-(intOf i).toNat)
 case atStart=>exact⟨0,0,Nat.zero_le _,by decide,rfl,rfl,HN.O,Qb _ _⟩
 case round=>
  clear HN;obtain⟨k,h,hk,hh,rfl,rfl,hr,hb⟩:=hrel;have Hr:=Qh hr;clear hr;by_cases hlt:k<s.length
  ·have hx:=gm (P:=Tryz.prog) Tryz.underlying9 s (k:Int) k rfl hlt;have bu:=Qh (Xhy hlt Hr.O);have DU:(s.getD k 0).toNat<256:=(s.getD k 0).toNat_lt;have dC:=Xvj h (s.getD k 0);have JG:=Xsw h (s.getD k 0);generalize hH:Ez h (s.getD k 0)=H at bu dC JG;generalize(s.getD k 0).toNat=c at hx DU JG;have m1:IntKind.i64.wrap (2*(h:Int))=2*(h:Int):=IntWalk.i64_in _ (by omega);have m2:IntKind.i64.wrap ((c:Int)+1)=(c:Int)+1:=IntWalk.i64_in _ (by omega);have m3:IntKind.i64.wrap (40503*((c:Int)+1))=40503*((c:Int)+1):=IntWalk.i64_in _ (by omega);have m4:IntKind.i64.wrap (2*(h:Int)+40503*((c:Int)+1))=2*(h:Int)+40503*((c:Int)+1):=IntWalk.i64_in _ (by omega);have m5:IntKind.i64.wrap ((k:Int)+1)=(k:Int)+1:=IntWalk.i64_in _ (by omega);clear hH Hr;by_cases ES:k+1=96
   ·have Hn:=Qh (show k+1=N by have:=bu.O;rwa[if_pos (.inl ES)]at this);have d1:((k:Int)+1==96)=true:=by simpa using(show(k:Int)+1=96 by omega)
    clear bu ES;go_wp2;go_ret;exact⟨di (by rw[←Hn.O];go_num),hb⟩
   have d1:((k:Int)+1==96)=false:=by simpa using(show(k:Int)+1≠96 by omega)
   by_cases F7:16≤k+1
   ·have d2:decide ((16:Int)≤(k:Int)+1)=true:=Qt (by omega);by_cases Wn:H<2048
    ·have Hn:=Qh (show k+1=N by have:=bu.O;rwa[if_pos (.inr ⟨F7,Wn⟩)]at this);have d3:decide ((H:Int)<2048)=true:=Qt (by omega);clear bu ES F7;go_wp2;go_ret;exact⟨di (by rw[←Hn.O];go_num),hb⟩
    ·have Hn:=Qh (show fZ (s.drop (k+1)) (k+1) H=N by have:=bu.O;rwa[if_neg (by omega)]at this);have d3:decide ((H:Int)<2048)=false:=Qf (by omega);clear bu ES F7;go_wp2;go_roundw;case rel=>exact⟨k+1,H,by omega,dC,by go_num,by rw[JG],Hn.O,hb⟩
     case measure=>simp[intOf];omega
   ·have d2:decide ((16:Int)≤(k:Int)+1)=false:=Qf (by omega);have Hn:=Qh (show fZ (s.drop (k+1)) (k+1) H=N by have:=bu.O;rwa[if_neg (by omega)]at this);clear bu ES F7;go_wp2;go_roundw;case rel=>exact⟨k+1,H,by omega,dC,by go_num,by rw[JG],Hn.O,hb⟩
    case measure=>simp[intOf];omega
  ·have Hn:=Qh (show s.length=N by have:=Hr.O;rw[List.drop_of_length_le (by omega),fZ]at this;omega);go_wp2;go_ret;exact⟨di (by rw[←Hn.O]),hb⟩
theorem Xmw(I:IH)(s:af)(hs:s.length≤4294967280)(w:World):
 Calls Tryz.prog 116 #[S s] w fun e w'=> ∃v',e= .returned v'∧aK iE 9 I w' w.heap.size v' (bT s)∧Below w.heap.size w w':=by
 have bu:=Qh (show aK iE 9 I (w.alloc (.cells #[] 9)) w.heap.size (.slice (some ⟨w.heap.size,0,none⟩) 0 0) []from⟨[],World.ownsRow_made w #[] 0 (Qn _) (Nat.zero_le _) (by simp),bA.nil _ _⟩);obtain⟨N,hN⟩:∃N,bT s=N:=⟨_,rfl⟩;have HN:=Qh (show []++bT s=N from hN);rw[hN];have Wo:=hs;generalize lC:s=s0 at HN Wo;clear hN;go_enter Tryz.func116,Tryz.ntmps116
 go_wp2_with fail
 go_loopw [0,3] (fun s0 s3 wr=> ∃(r:af) (out:List af),s0=S r∧r.length+out.length≤4294967280∧aK iE 9 I wr w.heap.size s3 out∧out++bT r=N∧Below w.heap.size w wr) (fun r _ _=>(match r with| .string b=>b.size|_=>0))
 case atStart=>exact⟨s0,[],rfl,by simpa using Wo,bu.O,HN.O,(Qb _ _).alloc (Qn _) _⟩
 case round=>
  clear bu HN;obtain⟨r,out,rfl,hl,bg,hr,hb⟩:=hrel;have bL:=Qh bg;have Hr:=Qh hr;clear bg hr;by_cases h0:r=[]
  ·have f1:(0:Int)<(r.length:Int)↔False:=by rw[h0];simp
   have tT:r.length=0:=by rw[h0];rfl
   have Hn:=Qh (show out=N by have:=Hr.O;rw[h0,Xja,List.append_nil]at this;exact this);clear Hr h0 f1;go_wp2;go_ret;exact⟨_,rfl,(by rw[←Hn.O];exact bL.O),hb⟩
  ·have vI:=List.length_pos_iff.2 h0;have hp:=P9 h0;have hf:=WO r;have Hf:=Qh (fun w=>Xmx r (by omega) w);have Hn:=Qh (show(out++[r.take (gW r)])++bT (r.drop (gW r))=N by rw[←Hr.O,WQ h0];simp);generalize gW r=n at Hf Hn hp hf;have CL:(n:Int)≤(r.length:Int):=by omega
   have abz:(0:Int)≤(n:Int):=by omega
   clear Hr h0;go_wp2_with fail
   refine(Hf.O _).mono ?_;rintro e1 w1 ⟨rfl,aD⟩;have aH:=hb.trans (aD.mono hb.size);have mQ:=Qh (bL.O.below aD);clear aD Hf bL;go_wp2_with (at_builtin;refine pE (w0:=w1) Ql rfl _ _ rfl _ _ _ rfl mQ.O (r.take n) [S (r.take n)] _ rfl rfl (by omega) (by omega) (Below.size aH) ?_)
   intro v9 w9 bD bP;have gP:=Below.own aH bP mQ.O (Qn _) (Below.size aH);go_wp2;go_roundw;case rel=>exact⟨r.drop n,_,by simp[List.take_of_length_le],by simp;omega,bD,Hn.O,gP⟩
   case measure=>simp[ByteArray.size];omega
theorem Xmu(s:af)(hs:s.length≤4294967280)(i:Nat)(hi:i≤s.length)(w:World):
 Calls Tryz.prog 168 #[S s,.int .i64 i] w fun e w'=>e= .returned (.int .i64 (dw (s.drop i):Nat))∧Below w.heap.size w w':=by
 obtain⟨N,hN⟩:∃N,dw (s.drop i)=N:=⟨_,rfl⟩;have HN:=Qh (show 0+dw (s.drop (i+0))=N by rw[Nat.zero_add];exact hN);rw[hN];clear hN;go_enter Tryz.func168,Tryz.ntmps168
 go_wp2_with fail
 go_loopw [5] (fun s5 wr=> ∃n:Nat,i+n≤s.length∧s5= .int .i64 n∧n+dw (s.drop (i+n))=N∧Below w.heap.size w wr) (fun n _=>s.length-(intOf n).toNat)
 case atStart=>exact⟨0,by omega,rfl,HN.O,Qb _ _⟩
 case round=>
  clear HN;obtain⟨n,hn,rfl,hr,hb⟩:=hrel;have Hr:=Qh hr;clear hr;have m1:IntKind.i64.wrap ((i:Int)+(n:Int))=(i:Int)+(n:Int):=IntWalk.i64_in _ (by omega);by_cases hlt:i+n<s.length
  ·have hx:=gm (P:=Tryz.prog) Tryz.underlying9 s ((i:Int)+(n:Int)) (i+n) (by omega) hlt;have d1:decide ((i:Int)+(n:Int)<(s.length:Int))=true:=Qt (by omega);have jk:n+(if s.getD (i+n) 0=0 then dw (s.drop (i+n+1))+1 else 0)=N:=by
    rw[←Hr.O,List.drop_eq_getElem_cons hlt,dw];simp[List.getD,hlt]
   have he:=Ux (s.getD (i+n) 0) 0 (by decide);have Og:((((s.getD (i+n) 0).toNat:Nat):Int)==0)=(s.getD (i+n) 0==0):=he;have bu:=Qh jk;clear jk he;generalize s.getD (i+n) 0=ch at hx bu Og;cases hc:(ch==0)
   ·rw[hc]at Og;have Hn:=Qh (show n=N by have:=bu.O;rwa[if_neg (by simpa using hc),Nat.add_zero]at this);clear hc bu Hr;go_wp2;go_ret;exact⟨di (by rw[←Hn.O]),hb⟩
   ·rw[hc]at Og;have Hn:=Qh (show n+1+dw (s.drop (i+(n+1)))=N by
     have:=bu.O;rw[if_pos (by simpa using hc)]at this;rw[←this,show i+(n+1)=i+n+1 by omega];omega)
    clear hc bu Hr;go_wp2;go_roundw;case rel=>exact⟨n+1,by omega,by go_num,Hn.O,hb⟩
    case measure=>simp[intOf];omega
  ·have d1:decide ((i:Int)+(n:Int)<(s.length:Int))=false:=Qf (by omega);have Hn:=Qh (show n=N by have:=Hr.O;rwa[List.drop_of_length_le (by omega),dw,Nat.add_zero]at this);clear Hr;go_wp2;go_ret;exact⟨di (by rw[←Hn.O]),hb⟩
def D9:Ty Sg:=Ty.flat 2 (fun x=> [.int .i64 x.n,S x.d]) (fun _=>rfl) (fun _ u h=>by simp at h;rcases h with rfl|rfl<;>rfl)
theorem Xvs:(Tryz.prog.info? 168).map (fun i=>(i.zero,i.size,i.bytes))=some (some (.agg #[.int .i64 0,.string ⟨#[]⟩]),2,24):=by kernel_rfl
theorem Kl:dS Tryz.prog 165 168 D9 24:=dS.of Tryz.underlying165 Xvs rfl (by decide) rfl
theorem QL{l:List Sg}(h:aZ D9 I v l)(hw:Ok I w)(i:Nat)(hi:i<l.length):∃x b off cap,l[i]=x∧v= .slice (some ⟨b,off,none⟩) l.length cap∧
 w.cell? ⟨b,off+i*2,none⟩=some (.int .i64 x.n)∧w.cell? ⟨b,off+i*2+1,none⟩=some (S x.d):=by
 obtain⟨b,off,cap,cs,hv,fE,hc⟩:=h.at_ hw hi;have kI:cs=[.int .i64 l[i].n,S l[i].d]:=fE;subst kI;exact⟨_,b,off,cap,rfl,hv,hc 0 _ rfl,hc 1 _ rfl⟩
def kS(s:af)(f i:Nat):af:=(s.drop f).take (i-f)
theorem Xta:kS s i i=[]:=by simp[kS]
theorem Xw2(hi:i≤s.length):(kS s f i).length=i-f:=by simp[kS];omega
theorem Xvb{m:Nat}(hf:f≤i):kS s f i++(s.drop i).take m=kS s f (i+m):=by
 unfold kS;rw[show i+m-f=(i-f)+m by omega,List.take_add,List.drop_drop,show f+(i-f)=i by omega]
theorem Xqw(h:0<d.length):iJ d=[⟨0,d⟩]:=by
 unfold iJ;rw[if_neg (List.length_pos_iff.1 h)]
theorem Xqv(h:d.length=0):iJ d=[]:=by
 unfold iJ;rw[if_pos (List.eq_nil_of_length_eq_zero h)]
theorem Xmv(I:IH)(s:af)(hs:s.length≤4294967280)(w:World):
 Calls Tryz.prog 114 #[S s] w fun e w'=> ∃v',e= .returned v'∧aK D9 168 I w' w.heap.size v' (iK s)∧Below w.heap.size w w':=by
 have bu:=Qh (show aK D9 168 I (w.alloc (.cells #[] 168)) w.heap.size (.slice (some ⟨w.heap.size,0,none⟩) 0 0) []from⟨[],World.ownsRow_made w #[] 0 (Qn _) (Nat.zero_le _) (by simp),bA.nil _ _⟩);obtain⟨N,hN⟩:∃N,iK s=N:=⟨_,rfl⟩;have HN:=Qh (show []++mh (kS s 0 0) (s.drop 0)=N by rw[Xta];exact hN);rw[hN];clear hN;go_enter Tryz.func114,Tryz.ntmps114
 go_wp2_with fail
 go_loopw [3,4,5] (fun s3 s4 s5 wr=> ∃(f i:Nat) (out:List Sg),f≤i∧i≤s.length∧s4= .int .i64 f∧s5= .int .i64 i∧out.length≤2*f∧aK D9 168 I wr w.heap.size s3 out∧out++mh (kS s f i) (s.drop i)=N∧Below w.heap.size w wr) (fun _ _ i _=>s.length-(intOf i).toNat)
 case atStart=>exact⟨0,0,[],Qn _,Nat.zero_le _,rfl,rfl,Qn _,bu.O,HN.O,(Qb _ _).alloc (Qn _) _⟩
 case round=>
  clear bu HN;obtain⟨f,i,out,hfi,hi,rfl,rfl,F3,bg,hr,hb⟩:=hrel;have bL:=Qh bg;have Hr:=Qh hr;clear bg hr;have uI:=Xw2 (f:=f) hi;have f0:(0:Int)≤f:=by omega
  have f1:(f:Int)≤i:=by omega
  have f2:(i:Int)≤s.length:=by omega
  by_cases hlt:i<s.length
  ·have Hz:=Qh (fun w=>Xmu s hs i hi w);have bn:s.drop i≠[]:=by
    intro e;have:=congrArg List.length e;rw[List.length_drop]at this;simp at this;omega
   have Wp:=Ur (s.drop i);rw[List.length_drop]at Wp;have Hh:=Qh (fun h=>Xnu (acc:=kS s f i) bn h);have Hd:=Qh (fun h=>Xnv (acc:=kS s f i) bn h);obtain⟨z,hz⟩:∃z,dw (s.drop i)=z:=⟨_,rfl⟩;rw[hz]at Hz Wp Hh Hd;clear bn hz;go_wp2_with fail
   refine(Hz.O _).mono ?_;rintro e1 w1 ⟨rfl,aD⟩;have aH:=hb.trans (aD.mono hb.size);have mQ:=Qh (bL.O.below aD);clear aD Hz bL;by_cases pz:32≤z
   ·have d1:decide ((32:Int)≤(z:Int))=true:=Qt (by omega);have DR:=hi;have hn:out++(iJ (kS s f i)++⟨(z:Nat),[]⟩::mh (kS s (i+z) (i+z)) (s.drop (i+z)))=N:=by
     rw[Xta,←Hr.O,Hh.O pz,List.drop_drop]
    have Hn:=Qh hn;clear hn Hh Hd Hr;by_cases Et:f<i
    ·have jI:=Qh (show(out++[⟨0,kS s f i⟩])++[⟨(z:Nat),[]⟩]++mh (kS s (i+z) (i+z)) (s.drop (i+z))=N by
      rw[←Hn.O,Xqw (by omega)];simp)
     have hg2:(f:Int)<i:=by omega
     clear Hn;go_wp2_with (at_builtin;refine pE (w0:=w1) Kl rfl _ _ rfl _ _ _ rfl mQ.O ⟨0,kS s f i⟩ [.int .i64 0,S (kS s f i)] _ rfl rfl (by(try simp only[List.length_append,List.length_singleton]);omega) (by(try simp only[List.length_append,List.length_singleton]);omega) (Below.size aH) ?_)
     intro v9 w9 bD bP;have gP:=Below.own aH bP mQ.O (Qn _) (Below.size aH);go_wp2_with (at_builtin;refine pE (w0:=w9) Kl rfl _ _ rfl _ _ _ rfl bD ⟨(z:Nat),[]⟩ [.int .i64 z,S []] _ rfl rfl (by(try simp only[List.length_append,List.length_singleton]);omega) (by(try simp only[List.length_append,List.length_singleton]);omega) (Below.size gP) ?_)
     intro v8 w8 mf qN;have mR:=Below.own gP qN bD (Qn _) (Below.size gP);go_wp2;go_roundw;case rel=>exact⟨i+z,i+z,_,Qn _,by omega,by go_num,by go_num,by simp;omega,mf,by simpa using jI.O,mR⟩
     case measure=>simp[intOf];omega
    ·have Gf:i=f:=by omega
     have jI:=Qh (show out++[⟨(z:Nat),[]⟩]++mh (kS s (i+z) (i+z)) (s.drop (i+z))=N by
      rw[←Hn.O,Xqv (by omega)];simp)
     have hg2:¬(f:Int)<i:=by omega
     clear Hn;go_wp2_with (at_builtin;refine pE (w0:=w1) Kl rfl _ _ rfl _ _ _ rfl mQ.O ⟨(z:Nat),[]⟩ [.int .i64 z,S []] _ rfl rfl (by(try simp only[List.length_append,List.length_singleton]);omega) (by(try simp only[List.length_append,List.length_singleton]);omega) (Below.size aH) ?_)
     intro v9 w9 bD bP;have gP:=Below.own aH bP mQ.O (Qn _) (Below.size aH);go_wp2;go_roundw;case rel=>exact⟨i+z,i+z,_,Qn _,by omega,by go_num,by go_num,by simp;omega,bD,jI.O,gP⟩
     case measure=>simp[intOf];omega
   ·have d1:decide ((32:Int)≤(z:Int))=false:=Qf (by omega);have Hn:=Qh (show out++mh (kS s f (i+max z 1)) (s.drop (i+max z 1))=N by
     rw[←Hr.O,Hd.O pz,Xvb hfi,List.drop_drop])
    clear Hh Hd Hr;by_cases oV:z=0
    ·have hze:((z:Int)==0)=true:=by rw[oV];rfl
     have jI:=Qh (show out++mh (kS s f (i+1)) (s.drop (i+1))=N by rw[←Hn.O,oV];rfl);clear Hn;go_wp2;go_roundw;case rel=>exact⟨f,i+1,_,by omega,by omega,rfl,by go_num,F3,mQ.O,jI.O,aH⟩
     case measure=>simp[intOf];omega
    ·have hze:((z:Int)==0)=false:=by simpa using oV
     have jI:=Qh (show out++mh (kS s f (i+z)) (s.drop (i+z))=N by rw[←Hn.O,Nat.max_eq_left (by omega)]);clear Hn;go_wp2;go_roundw;case rel=>exact⟨f,i+z,_,by omega,by omega,rfl,by go_num,F3,mQ.O,jI.O,aH⟩
     case measure=>simp[intOf];omega
  ·have Lb:i=s.length:=by omega
   have hn:out++iJ (kS s f i)=N:=by have:=Hr.O;rwa[List.drop_of_length_le (by omega),Xqz]at this
   have Hn:=Qh hn;clear hn Hr;by_cases Et:f<s.length
   ·have jI:=Qh (show out++[⟨0,kS s f i⟩]=N by rw[←Hn.O,Xqw (by omega)]);have hg2:(f:Int)<s.length:=by omega
    clear Hn;subst Lb;go_wp2_with (at_builtin;refine pE (w0:=wr) Kl rfl _ _ rfl _ _ _ rfl bL.O ⟨0,kS s f s.length⟩ [.int .i64 0,S (kS s f s.length)] _ rfl rfl (by(try simp only[List.length_append,List.length_singleton]);omega) (by(try simp only[List.length_append,List.length_singleton]);omega) (Below.size hb) ?_)
    intro v9 w9 bD bP;have gP:=Below.own hb bP bL.O (Qn _) (Below.size hb);go_wp2;go_ret;exact⟨_,rfl,(by rw[←jI.O];exact bD),gP⟩
   ·have Gf:i=f:=by omega
    have jI:=Qh (show out=N by rw[←Hn.O,Xqv (by omega),List.append_nil]);have hg2:¬(f:Int)<s.length:=by omega
    clear Hn;go_wp2;go_ret;exact⟨_,rfl,(by rw[←jI.O];exact bL.O),hb⟩
