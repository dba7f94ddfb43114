/- Lemmas for the claim's theorem;conditions: as each says. -/
import Derived.Test.YtmdfjnhfhidmhaaGreatDoorQ18
set_option maxHeartbeats 0
set_option maxRecDepth 100000
set_option linter.all false
namespace Go.Proofs.YtmdfjnhfhidmhaaGreatDoor
open Go.RowKit
variable{w:World}{s:Array Bool}{b:Nat}{a:Act}{w':World}{i k B Bx:Nat}
structure qE (w w':World) (row:Option Nat) (bo:Nat):Prop where
 os:w'.os=w.os
 tape:w'.tape=w.tape
 output:w'.output=w.output
 size:w.heap.size≤w'.heap.size
 block:∀k,k<w.heap.size→some k≠row→k≠bo→w'.heap[k]?=w.heap[k]?
section
variable {w w' w'':World} {row:Option Nat} {bo n:Nat}
theorem qE.jb(h:w.grownBy w' row)(bo:Nat):qE w w' row bo:=⟨h.os,h.tape,h.output,h.size,fun k hk hr _=>h.block k hk hr⟩
theorem qE.set(h:qE w w' row bo)(j:Nat)(u:Value):qE w (w'.setCell ⟨bo,j,none⟩ u) row bo:=
 ⟨h.os,h.tape,h.output,by have:=h.size;simp;omega,fun k hk hr hb=>(heap_setCell_other w' ⟨bo,j,none⟩ k u hb).trans (h.block k hk hr hb)⟩
theorem qE.E9{g:Nat}(h:qE w w' (some g) bo)(j:Nat)(u:Value):qE w (w'.setCell ⟨g,j,none⟩ u) (some g) bo:=
 ⟨h.os,h.tape,h.output,by have:=h.size;simp;omega,fun k hk hr hb=>(heap_setCell_other w' ⟨g,j,none⟩ k u (fun e=>hr (by rw[show k=g from e]))).trans (h.block k hk hr hb)⟩
theorem qE.drew(h:qE w w' row bo):qE w w'.drew row bo:=⟨h.os,h.tape,h.output,h.size,h.block⟩
theorem qE.below(h:qE w w' row bo)(hb:Below n w'' w)(hn:n≤w''.heap.size)(hr:∀g,row=some g→n≤g)(ho:n≤bo):Below n w'' w':=by
 have hg:∀k,k<n→w'.heap[k]?=w.heap[k]? :=fun k hk=>h.block k (by have:=hb.size;omega) (fun e=>by have:=hr k e.symm;omega) (by omega);exact⟨h.os.trans hb.os,h.tape.trans hb.tape,h.output.trans hb.output,Nat.le_trans hb.size h.size,fun k hk=>(hg k hk).trans (hb.block k hk)⟩
end
def Fa(I:IH)(bo B:Nat)(w:World)(v:Value)(l:List Xt)(e:Ending)(w':World):Prop:=
 ∃u v',e= .returned u∧w'.heap[bo]?=some (.cells #[v'] 79 (0,0))∧aN kQ 109 I w' B v' l∧qE w w' v.ownBlock bo∧ ∀g,v'.ownBlock=some g→v.ownBlock=some g∨w.heap.size≤g
theorem Xsm(I:IH)(bo B:Nat)(v0:Value)(x:Xt)(w:World)(hv:aN kQ 109 I w B v0 [])(oZ:w.heap[bo]?=some (.cells #[v0] 79 (0,0)))(hB:B≤w.heap.size):
 Calls Tryz.prog 195 #[EX x,.pointer (some ⟨bo,0,none⟩)] w (Fa I bo B w v0 (iE [] x)):=by
 have Hn:=Qh (Yu x);obtain⟨ao,n,cap,dC,Gi⟩:∃ao n cap,v0= .slice ao n cap∧n=0:=by
  obtain⟨xs,h1,_⟩:=hv;rcases h1.2 with⟨h,_⟩|⟨g,cap,cur,h,_⟩
  ·exact⟨_,_,_,h,rfl⟩
  ·exact⟨_,_,_,h,rfl⟩
 subst dC;subst Gi;have mJ:Below w.heap.size w (w.alloc (.cells #[.int .i64 x.s,.int .i64 x.o,.int .i64 x.n] 109)):=(Qb _ _).alloc (Qn _) _;have c0:(w.alloc (.cells #[.int .i64 x.s,.int .i64 x.o,.int .i64 x.n] 109)).cell? ⟨w.heap.size,0,none⟩=some (.int .i64 x.s):=by simp
 have c1:(w.alloc (.cells #[.int .i64 x.s,.int .i64 x.o,.int .i64 x.n] 109)).cell? ⟨w.heap.size,1,none⟩=some (.int .i64 x.o):=by simp
 have c2:(w.alloc (.cells #[.int .i64 x.s,.int .i64 x.o,.int .i64 x.n] 109)).cell? ⟨w.heap.size,2,none⟩=some (.int .i64 x.n):=by simp
 have cb:(w.alloc (.cells #[.int .i64 x.s,.int .i64 x.o,.int .i64 x.n] 109)).cell? ⟨bo,0,none⟩=some (.slice ao 0 cap):=jH _ ((cell_of_row w _ 0 _ _ _ oZ).trans rfl);have gb:=cell_regrown cb;have jU:=Qh ((Below.heap_alloc w (.cells #[.int .i64 x.s,.int .i64 x.o,.int .i64 x.n] 109) _ (Qg oZ)).trans oZ);have Ha:=Qh (hv.alloc (.cells #[.int .i64 x.s,.int .i64 x.o,.int .i64 x.n] 109));clear hv oZ;go_enter Tryz.func195,Tryz.ntmps195
 go_wp2_with fail
 generalize(w.alloc (.cells #[.int .i64 x.s,.int .i64 x.o,.int .i64 x.n] 109))=w1 at mJ c0 c1 c2 cb gb Ha jU ⊢;refine wp_region_quiet_below (by kernel_rfl) (by kernel_rfl) ?_;repeat(go_big_quiet_step ((fail)))
 refine wpQuiet_nil ?_;intro w2 dD;have aP:Below (w1).heap.size (w1) w2:=by
  obtain⟨pq,rfl⟩:=dD;exact below_regrown _ _ _
 clear dD;have nC:=mJ.trans (aP.mono mJ.size);replace Ha:=Qh (Ha.q.below aP);replace jU:=Qh ((aP.block _ (Qg jU.q)).trans jU.q);replace c0:=bI aP c0;replace c1:=bI aP c1;replace c2:=bI aP c2;replace cb:=bI aP cb;have fb:w2.frozen? ⟨bo,0,none⟩=false:=frozen_of_row w2 _ 0 _ _ jU.q;have xA:B≤w2.heap.size:=by have:=nC.size;omega
 have aZ:(Value.slice ao 0 cap).ownBlock≠some bo:=fun e=>by
  obtain⟨_,cur,hc⟩:=oF Ha.q e;rw[jU.q]at hc;exact absurd (Obj.cells.inj (Option.some.inj hc)).2.1 (by decide)
 have mq:=Ky nC (Value.slice ao 0 cap).ownBlock;go_wp2_with (at_builtin;refine Kw (w0:=w2) Oa rfl _ _ rfl B _ _ rfl Ha.q x (N9 x) _ rfl rfl (by(try simp only[List.length_nil]);omega) (by(try simp only[List.length_nil]);omega) xA ?_)
 intro v9 w9 fV dY tL;obtain⟨a9,n9,k9,rfl⟩:=zI fV;have KA:=iV dY aZ cb;have KC:=AQ dY aZ cb fb;have fF:=N8 mq dY;have cu:=mq.size;have p8:=(dY.block _ (Qg jU.q) (fun e=>aZ e.symm)).trans jU.q;go_wp2;go_end0
 refine⟨_,_,rfl,heap_setCell_same w9 bo 0 _ _ _ p8,(by rw[Hn.q];exact fV.stored (vN fV p8 (by decide)) 0 _),(qE.jb fF bo).set 0 _,fun g h=>(tL g h).imp id (fun h=>by omega)⟩
theorem Xsl(I:IH)(bo B:Nat)(v0:Value)(l:List Xt)(x:Xt)(w:World)(hv:aN kQ 109 I w B v0 l)(oZ:w.heap[bo]?=some (.cells #[v0] 79 (0,0)))(hB:B≤w.heap.size)(h0:0<l.length)(hn:l.length≤100000)(hl:∀z∈l,XB 1099511627776 z)(hx:XB 1099511627776 x):
 Calls Tryz.prog 195 #[EX x,.pointer (some ⟨bo,0,none⟩)] w (Fa I bo B w v0 (iE l x)):=by
 have mJ:Below w.heap.size w (w.alloc (.cells #[.int .i64 x.s,.int .i64 x.o,.int .i64 x.n] 109)):=(Qb _ _).alloc (Qn _) _;have c0:(w.alloc (.cells #[.int .i64 x.s,.int .i64 x.o,.int .i64 x.n] 109)).cell? ⟨w.heap.size,0,none⟩=some (.int .i64 x.s):=by simp
 have c1:(w.alloc (.cells #[.int .i64 x.s,.int .i64 x.o,.int .i64 x.n] 109)).cell? ⟨w.heap.size,1,none⟩=some (.int .i64 x.o):=by simp
 have c2:(w.alloc (.cells #[.int .i64 x.s,.int .i64 x.o,.int .i64 x.n] 109)).cell? ⟨w.heap.size,2,none⟩=some (.int .i64 x.n):=by simp
 have vg:=hv.alloc (.cells #[.int .i64 x.s,.int .i64 x.o,.int .i64 x.n] 109);obtain⟨g,cap,y,rfl,I5,hy,hbg,hlt,y0,y1,y2,jg⟩:=Yt vg h0;have cb:(w.alloc (.cells #[.int .i64 x.s,.int .i64 x.o,.int .i64 x.n] 109)).cell? ⟨bo,0,none⟩=some (.slice (some ⟨g,0,none⟩) l.length cap):=jH _ ((cell_of_row w _ 0 _ _ _ oZ).trans rfl);have gb:=cell_regrown cb;have jU:=Qh ((Below.heap_alloc w (.cells #[.int .i64 x.s,.int .i64 x.o,.int .i64 x.n] 109) _ (Qg oZ)).trans oZ);have Ha:=Qh vg;have qR:=Qh (fun h=>Yv (l:=l) (x:=x) hy h);have zJ:=Qh (fun h=>Yw (l:=l) (x:=x) hy h);have Pg:=hl y (Yx hy);unfold XB at hx Pg;have Hy:=Qh hy;clear hv vg hl hy oZ;have i1:(0:Int)<(l.length:Int):=by omega
 have m1:IntKind.i64.wrap ((l.length:Int)-1)=((l.length-1:Nat):Int):=by rw[IntWalk.i64_in _ (by omega)];omega
 have m2:IntKind.i64.wrap (y.o+y.n)=y.o+y.n:=IntWalk.i64_in _ (by omega);have m3:(l.length:Int)-1=((l.length-1:Nat):Int):=by omega
 have i2:l.length-1<l.length:=by omega
 have i3:(0:Int)≤((l.length-1:Nat):Int):=by omega
 have g0:=cell_regrown y0;have g1:=cell_regrown y1;have g2:=cell_regrown y2;have z0:=cell_regrown c0;have z1:=cell_regrown c1;have z2:=cell_regrown c2;by_cases lN:x.s=0
 ·have e1:(x.s !=0)=false:=by simpa using lN
  have e2:(x.s==0)=true:=by simpa using lN
  have Hn:=Qh (qR.q (by rintro⟨h,_⟩;exact h lN));clear lN qR zJ;go_enter Tryz.func195,Tryz.ntmps195
  go_wp2_with fail
  generalize(w.alloc (.cells #[.int .i64 x.s,.int .i64 x.o,.int .i64 x.n] 109))=w1 at mJ c0 c1 c2 cb gb Ha jU y0 y1 y2 g0 g1 g2 z0 z1 z2 ⊢;refine wp_region_quiet_below (by kernel_rfl) (by kernel_rfl) ?_;repeat(go_big_quiet_step ((fail)))
  refine wpQuiet_nil ?_;intro w2 dD;have aP:Below (w1).heap.size (w1) w2:=by
   obtain⟨pq,rfl⟩:=dD;exact below_regrown _ _ _
  clear dD;have nC:=mJ.trans (aP.mono mJ.size);replace Ha:=Qh (Ha.q.below aP);replace jU:=Qh ((aP.block _ (Qg jU.q)).trans jU.q);replace c0:=bI aP c0;replace c1:=bI aP c1;replace c2:=bI aP c2;replace cb:=bI aP cb;have fb:w2.frozen? ⟨bo,0,none⟩=false:=frozen_of_row w2 _ 0 _ _ jU.q;have xA:B≤w2.heap.size:=by have:=nC.size;omega
  clear y0 y1 y2 g0 g1 g2 z0 z1 z2 gb;have aZ:(Value.slice (some ⟨g,0,none⟩) l.length cap).ownBlock≠some bo:=fun e=>by
   obtain⟨_,cur,hc⟩:=oF Ha.q e;rw[jU.q]at hc;exact absurd (Obj.cells.inj (Option.some.inj hc)).2.1 (by decide)
  have mq:=Ky nC (Value.slice (some ⟨g,0,none⟩) l.length cap).ownBlock;go_wp2_with (at_builtin;refine Kw (w0:=w2) Oa rfl _ _ rfl B _ _ rfl Ha.q x (N9 x) _ rfl rfl (by(try simp only[List.length_nil]);omega) (by(try simp only[List.length_nil]);omega) xA ?_)
  intro v9 w9 fV dY tL;obtain⟨a9,n9,k9,rfl⟩:=zI fV;have KA:=iV dY aZ cb;have KC:=AQ dY aZ cb fb;have fF:=N8 mq dY;have cu:=mq.size;have p8:=(dY.block _ (Qg jU.q) (fun e=>aZ e.symm)).trans jU.q;go_wp2;go_end0
  refine⟨_,_,rfl,heap_setCell_same w9 bo 0 _ _ _ p8,(by rw[Hn.q];exact fV.stored (vN fV p8 (by decide)) 0 _),(qE.jb fF bo).set 0 _,fun g h=>(tL g h).imp id (fun h=>by omega)⟩
 have e1:(x.s !=0)=true:=by simpa using lN
 have e2:(x.s==0)=false:=by simpa using lN
 by_cases Gz:y.s=x.s;case neg=>
  have e3:(y.s==x.s)=false:=by simpa using Gz
  have Hn:=Qh (qR.q (by rintro⟨_,h,_⟩;exact Gz h));clear lN Gz qR zJ;go_enter Tryz.func195,Tryz.ntmps195
  go_wp2_with fail
  generalize(w.alloc (.cells #[.int .i64 x.s,.int .i64 x.o,.int .i64 x.n] 109))=w1 at mJ c0 c1 c2 cb gb Ha jU y0 y1 y2 g0 g1 g2 z0 z1 z2 ⊢;refine wp_region_quiet_below (by kernel_rfl) (by kernel_rfl) ?_;repeat(go_big_quiet_step ((fail)))
  refine wpQuiet_nil ?_;intro w2 dD;have aP:Below (w1).heap.size (w1) w2:=by
   obtain⟨pq,rfl⟩:=dD;exact below_regrown _ _ _
  clear dD;have nC:=mJ.trans (aP.mono mJ.size);replace Ha:=Qh (Ha.q.below aP);replace jU:=Qh ((aP.block _ (Qg jU.q)).trans jU.q);replace c0:=bI aP c0;replace c1:=bI aP c1;replace c2:=bI aP c2;replace cb:=bI aP cb;have fb:w2.frozen? ⟨bo,0,none⟩=false:=frozen_of_row w2 _ 0 _ _ jU.q;have xA:B≤w2.heap.size:=by have:=nC.size;omega
  clear y0 y1 y2 g0 g1 g2 z0 z1 z2 gb;have aZ:(Value.slice (some ⟨g,0,none⟩) l.length cap).ownBlock≠some bo:=fun e=>by
   obtain⟨_,cur,hc⟩:=oF Ha.q e;rw[jU.q]at hc;exact absurd (Obj.cells.inj (Option.some.inj hc)).2.1 (by decide)
  have mq:=Ky nC (Value.slice (some ⟨g,0,none⟩) l.length cap).ownBlock;go_wp2_with (at_builtin;refine Kw (w0:=w2) Oa rfl _ _ rfl B _ _ rfl Ha.q x (N9 x) _ rfl rfl (by(try simp only[List.length_nil]);omega) (by(try simp only[List.length_nil]);omega) xA ?_)
  intro v9 w9 fV dY tL;obtain⟨a9,n9,k9,rfl⟩:=zI fV;have KA:=iV dY aZ cb;have KC:=AQ dY aZ cb fb;have fF:=N8 mq dY;have cu:=mq.size;have p8:=(dY.block _ (Qg jU.q) (fun e=>aZ e.symm)).trans jU.q;go_wp2;go_end0
  refine⟨_,_,rfl,heap_setCell_same w9 bo 0 _ _ _ p8,(by rw[Hn.q];exact fV.stored (vN fV p8 (by decide)) 0 _),(qE.jb fF bo).set 0 _,fun g h=>(tL g h).imp id (fun h=>by omega)⟩
 have e3:(y.s==x.s)=true:=by simpa using Gz
 by_cases Ic:y.o+y.n=x.o;case neg=>
  have e4:(y.o+y.n==x.o)=false:=by simpa using Ic
  have Hn:=Qh (qR.q (by rintro⟨_,_,h⟩;exact Ic h));clear lN Gz Ic qR zJ;go_enter Tryz.func195,Tryz.ntmps195
  go_wp2_with fail
  generalize(w.alloc (.cells #[.int .i64 x.s,.int .i64 x.o,.int .i64 x.n] 109))=w1 at mJ c0 c1 c2 cb gb Ha jU y0 y1 y2 g0 g1 g2 z0 z1 z2 ⊢;refine wp_region_quiet_below (by kernel_rfl) (by kernel_rfl) ?_;repeat(go_big_quiet_step ((fail)))
  refine wpQuiet_nil ?_;intro w2 dD;have aP:Below (w1).heap.size (w1) w2:=by
   obtain⟨pq,rfl⟩:=dD;exact below_regrown _ _ _
  clear dD;have nC:=mJ.trans (aP.mono mJ.size);replace Ha:=Qh (Ha.q.below aP);replace jU:=Qh ((aP.block _ (Qg jU.q)).trans jU.q);replace c0:=bI aP c0;replace c1:=bI aP c1;replace c2:=bI aP c2;replace cb:=bI aP cb;have fb:w2.frozen? ⟨bo,0,none⟩=false:=frozen_of_row w2 _ 0 _ _ jU.q;have xA:B≤w2.heap.size:=by have:=nC.size;omega
  clear y0 y1 y2 g0 g1 g2 z0 z1 z2 gb;have aZ:(Value.slice (some ⟨g,0,none⟩) l.length cap).ownBlock≠some bo:=fun e=>by
   obtain⟨_,cur,hc⟩:=oF Ha.q e;rw[jU.q]at hc;exact absurd (Obj.cells.inj (Option.some.inj hc)).2.1 (by decide)
  have mq:=Ky nC (Value.slice (some ⟨g,0,none⟩) l.length cap).ownBlock;go_wp2_with (at_builtin;refine Kw (w0:=w2) Oa rfl _ _ rfl B _ _ rfl Ha.q x (N9 x) _ rfl rfl (by(try simp only[List.length_nil]);omega) (by(try simp only[List.length_nil]);omega) xA ?_)
  intro v9 w9 fV dY tL;obtain⟨a9,n9,k9,rfl⟩:=zI fV;have KA:=iV dY aZ cb;have KC:=AQ dY aZ cb fb;have fF:=N8 mq dY;have cu:=mq.size;have p8:=(dY.block _ (Qg jU.q) (fun e=>aZ e.symm)).trans jU.q;go_wp2;go_end0
  refine⟨_,_,rfl,heap_setCell_same w9 bo 0 _ _ _ p8,(by rw[Hn.q];exact fV.stored (vN fV p8 (by decide)) 0 _),(qE.jb fF bo).set 0 _,fun g h=>(tL g h).imp id (fun h=>by omega)⟩
 have e4:(y.o+y.n==x.o)=true:=by simpa using Ic
 have Hn:=Qh (zJ.q ⟨lN,Gz,Ic⟩);clear lN Gz Ic qR zJ;go_enter Tryz.func195,Tryz.ntmps195
 go_wp2_with fail
 generalize(w.alloc (.cells #[.int .i64 x.s,.int .i64 x.o,.int .i64 x.n] 109))=w1 at mJ c0 c1 c2 cb gb Ha jU y0 y1 y2 g0 g1 g2 z0 z1 z2 ⊢;refine wp_region_quiet_below (by kernel_rfl) (by kernel_rfl) ?_;repeat(go_big_quiet_step ((fail)))
 refine wpQuiet_nil ?_;intro w2 dD;have aP:Below (w1).heap.size (w1) w2:=by
  obtain⟨pq,rfl⟩:=dD;exact below_regrown _ _ _
 clear dD;have nC:=mJ.trans (aP.mono mJ.size);replace Ha:=Qh (Ha.q.below aP);replace jU:=Qh ((aP.block _ (Qg jU.q)).trans jU.q);replace c0:=bI aP c0;replace c1:=bI aP c1;replace c2:=bI aP c2;replace cb:=bI aP cb;have fb:w2.frozen? ⟨bo,0,none⟩=false:=frozen_of_row w2 _ 0 _ _ jU.q;have xA:B≤w2.heap.size:=by have:=nC.size;omega
 replace y2:=bI aP y2;obtain⟨g',cap',y',dC,_,hy',_,ako,_,_,_,KD⟩:=Yt Ha.q h0;cases dC;have Vf:=KD ((l.length-1)*3+2);have m4:IntKind.i64.wrap (y.n+x.n)=y.n+x.n:=IntWalk.i64_in _ (by omega);have mq:=Ky nC (Value.slice (some ⟨g,0,none⟩) l.length cap).ownBlock;clear y0 y1 g0 g1 g2 z0 z1 z2 gb jg KD hy' aP c0 c1;have aZ:g≠bo:=fun e=>vN Ha.q jU.q (by decide) (by simp[Value.ownBlock,e]);go_wp2_with fail
 go_big_region
 go_wp2;refine bodyPost_ret (results_none rfl _ _ _) rfl ?_;exact⟨_,_,rfl,(heap_setCell_other _ ⟨g,(l.length-1)*3+2,none⟩ bo _ (by show bo≠g;omega)).trans jU.q,by rw[Hn.q];exact Xpz Ha.q Hy.q,(by first|exact(qE.jb mq bo).E9 _ _|exact((qE.jb mq bo).E9 _ _).drew|exact(qE.jb mq bo).drew.E9 _ _),fun q hq=> .inl hq⟩
theorem Rz(I:IH)(bo B:Nat)(v0:Value)(l:List Xt)(x:Xt)(w:World)(hv:aN kQ 109 I w B v0 l)(oZ:w.heap[bo]?=some (.cells #[v0] 79 (0,0)))(hB:B≤w.heap.size)(hn:l.length≤100000)(hl:∀z∈l,XB 1099511627776 z)(hx:XB 1099511627776 x):
 Calls Tryz.prog 195 #[EX x,.pointer (some ⟨bo,0,none⟩)] w (Fa I bo B w v0 (iE l x)):=by
 cases l with
 |nil=>exact Xsm I bo B v0 x w hv oZ hB
 |cons a l=>exact Xsl I bo B v0 (a::l) x w hv oZ hB (by simp) hn hl hx
theorem Xsk(bo:Nat)(v:Value)(w:World)(hc:w.cell? ⟨bo,0,none⟩=some v):Calls Tryz.prog 196 #[.pointer (some ⟨bo,0,none⟩)] w fun e w'=>e= .returned v∧w'=w:=by
 go_enter Tryz.func196,Tryz.ntmps196
 go_wp2;go_ret;exact⟨rfl,rfl⟩
theorem Xjc(w:World):Calls Tryz.prog 149 #[] w fun e w'=>e= .returned (.tuple #[.func (.func 195) #[] #[.pointer (some ⟨w.heap.size,0,none⟩)],.func (.func 196) #[] #[.pointer (some ⟨w.heap.size,0,none⟩)]])∧w'=w.alloc (.cells #[.slice none 0 0] 79):=by
 go_enter Tryz.func149,Tryz.ntmps149
 go_wp2;go_ret2;exact⟨rfl,rfl⟩
theorem qU{P:Program}{o:Oper}{K:Act→World→Prop}{Q:Exit→Act→World→Prop}(ty:TypeId)(x y:Operand)(ho:o.op= .store ty x y)
 (g off:Nat) (cs:List Value) (v:Value) (hx:a.eval x= .pointer (some ⟨g,off,none⟩)) (hy:a.eval y=v) (hv:v.cells=cs.toArray) (cur:Array Value) (tt:TypeId)
 (hg:w.heap[g]?=some (.cells cur tt (0,0))) (j5:off+cs.length≤cur.size) (hi:(P.info? ty).map (·.size)=some cs.length) (h1:∀v∈cs,v.oneCell'=true)
 (h:K (a.put o.dst undef) (w.setRow g (over cur off cs))):o.wp P a w K Q:=by
 have kN:=run_storeCells_at (P:=P) g off tt cs 0 cur w hg (by simpa using j5) h1;have UZ:(storeVar ty ⟨g,off,none⟩ v).run P w= .ok () (w.setRow g (over cur off cs)):=by
  cases hq:P.info? ty with
  |none=>simp[hq]at hi
  |some i=>
   have hs:cs.length=i.size:=by simp[hq]at hi;omega
   simp only[Nat.add_zero]at kN;simp[storeVar,sizeOf,typeInfo,hq,hv,hs,kN,over]
 unfold Oper.wp execOp;simp only[ho,hx,hy,Instr.storeAt,Instr.sureAddr,Sem.run_bind,Sem.run_pure,Result.andThen_ok,UZ];exact h
theorem YK{w'':World}{r:Option Nat}(h:w.grownBy w' r)(k:w'.grownBy w'' r):w.grownBy w'' r:=
 ⟨k.os.trans h.os,k.tape.trans h.tape,k.output.trans h.output,Nat.le_trans h.size k.size,fun i hi hr=>(k.block i (Nat.lt_of_lt_of_le hi h.size) hr).trans (h.block i hi hr)⟩
theorem kz(h:s.size≤i):s.getD i false=false:=by
 rw[Array.getD_eq_getD_getElem?,Array.getElem?_eq_none h];rfl
theorem YL{ops:Array Oper}(h:BN ops s)(hp:uF ops [k,i]=true)(aJ:s.getD i true=false):s.getD k false=false:=gK h [i] hp rfl aJ
theorem qF{L M:List (Option Tmp×Value)}(D:List Nat)(hl:L.length=M.length)(h:∀j,j ∉ D→L[j]?=M[j]?)(Vg:∀j∈D,s.getD j false=false):bH L 0 s a=bH M 0 s a:=
 NS _ _ _ _ _ hl fun j hj=>by
  rw[Nat.zero_add]at hj;exact h j (fun e=>by rw[Vg j e]at hj;cases hj)
theorem wP{α:Type}{T:Ty α}{E:TypeId}{I:IH}{v:Value}{l:List α}(h:aN T E I w B v l):∃ao cap,v= .slice ao l.length cap:=by
 obtain⟨xs,h1,_⟩:=h;rcases h1.2 with⟨h,h0⟩|⟨g,cap,cur,h,_⟩
 ·exact⟨none,0,by rw[h,h0]⟩
 ·exact⟨_,_,h⟩
structure rG {Y:Type} (W:World) (jc ja:Nat) (Gc:Y→World→Prop) (Ga:Nat→World→Prop) (m:Nat×Y→Nat) (t:TypeId) (s1 s2 s3:Nat) (R1 R2 R3:Nat×Y→Array Value) (x:Nat×Y) (s:Array Bool) (w:World):Prop where
 off:s.getD s1 false=false→Below W.heap.size W w
 fc:s.getD jc false=true→s.getD s1 false=false→Gc x.2 w
 fa:s.getD ja false=true→s.getD s1 false=false→Ga x.1 w
 on:s.getD s1 false=true→ ∃wb,Below W.heap.size W wb∧Gc x.2 wb∧Ga x.1 wb∧wb.grownBy w (some (m x))∧
  w.heap[m x]?=some (.cells (if s.getD s3 false=true then R3 x else if s.getD s2 false=true then R2 x else R1 x) t (0,0))
section
variable {Y:Type} {W w w':World} {jc ja:Nat} {Gc:Y→World→Prop} {Ga:Nat→World→Prop} {m:Nat×Y→Nat} {t:TypeId} {s1 s2 s3:Nat} {R1 R2 R3:Nat×Y→Array Value} {x:Nat×Y} {s:Array Bool} {i:Nat}
theorem rG.start(n:Nat)(x:Nat×Y):rG W jc ja Gc Ga m t s1 s2 s3 R1 R2 R3 x (Array.replicate n false) {W with drawn:=W.drawn+1}:=
 ⟨fun _=>(Qb _ _).drew,fun h=>(by rw[sw]at h;cases h),fun h=>(by rw[sw]at h;cases h),fun h=>(by rw[sw]at h;cases h)⟩
theorem rG.pure(h:rG W jc ja Gc Ga m t s1 s2 s3 R1 R2 R3 x s w)(hc:i≠jc)(ha:i≠ja)(h1:i≠s1)(h2:i≠s2)(h3:i≠s3):rG W jc ja Gc Ga m t s1 s2 s3 R1 R2 R3 x (s.setIfInBounds i true) w:=by
 refine⟨?_,?_,?_,?_⟩
 ·rw[getD_set_ne false h1];exact h.off
 ·rw[getD_set_ne false h1,getD_set_ne false hc];exact h.fc
 ·rw[getD_set_ne false h1,getD_set_ne false ha];exact h.fa
 ·rw[getD_set_ne false h1,getD_set_ne false h2,getD_set_ne false h3];exact h.on
theorem rG.call(h:rG W jc ja Gc Ga m t s1 s2 s3 R1 R2 R3 x s w)(hl:s.getD s1 false=false)(hb:Below w.heap.size w w'){y:Y}(hy:Gc y w')(uI:∀k,Ga k w→Ga k w')(ha:jc≠ja)(h1:jc≠s1):
 rG W jc ja Gc Ga m t s1 s2 s3 R1 R2 R3 (x.1,y) (s.setIfInBounds jc true) w':=by
 refine⟨fun _=>(h.off hl).trans (hb.mono (h.off hl).size),fun _ _=>hy,?_,?_⟩
 ·rw[getD_set_ne false ha];exact fun q _=>uI _ (h.fa q hl)
 ·rw[getD_set_ne false h1,hl];intro q;cases q
theorem rG.made(h:rG W jc ja Gc Ga m t s1 s2 s3 R1 R2 R3 x s w)(hl:s.getD s1 false=false)(hb:Below w.heap.size w w')(hk:Ga k w')(uJ:∀y,Gc y w→Gc y w')(hc:ja≠jc)(h1:ja≠s1):
 rG W jc ja Gc Ga m t s1 s2 s3 R1 R2 R3 (k,x.2) (s.setIfInBounds ja true) w':=by
 refine⟨fun _=>(h.off hl).trans (hb.mono (h.off hl).size),?_,fun _ _=>hk,?_⟩
 ·rw[getD_set_ne false hc];exact fun q _=>uJ _ (h.fc q hl)
 ·rw[getD_set_ne false h1,hl];intro q;cases q
theorem rG.lH(h:rG W jc ja Gc Ga m t s1 s2 s3 R1 R2 R3 x s w)(aJ:s.getD s1 true=false)(hc:Gc x.2 w)(ha:Ga x.1 w)(h2:s.getD s2 false=false)(h3:s.getD s3 false=false)(hd:s1≠s2∧s1≠s3)
 {cur:Array Value} (hg:w.heap[m x]?=some (.cells cur t (0,0))) {R:Array Value} (hR:R=R1 x):rG W jc ja Gc Ga m t s1 s2 s3 R1 R2 R3 x (s.setIfInBounds s1 true) (w.setRow (m x) R):=by
 have e:=zH (tJ aJ);have hl:s.getD s1 false=false:=jl aJ;refine⟨fun q=>(by rw[e]at q;cases q),fun _ q=>(by rw[e]at q;cases q),fun _ q=>(by rw[e]at q;cases q),fun _=>⟨w,h.off hl,hc,ha,vE,?_⟩⟩;rw[getD_set_ne false hd.1,getD_set_ne false hd.2,h2,h3,hR];exact setRow_heap w (m x) cur _ t (0,0) hg
end
def RA(I:IH)(w:World)(q:dX)(n:Int)(e:Ending)(w':World):Prop:=
 ∃Ib I',e= .returned (.tuple #[fI q Ib,.int .i64 n])∧Below w.heap.size w w'∧Ext w.heap.size I I'∧Ok I' w'∧aY pY I' Ib q.aM
abbrev Ie(n:Nat)(ao:Option Addr)(le cap:Nat)(aW:Int)(str:af)(x:Nat×(Option Addr×Nat)):List (Option Tmp×Value):=
 [(some 7,.pointer (some ⟨n,0,none⟩)),(some 8,.slice ao le cap),(some 9,.slice x.2.1 le x.2.2),(some 10,.pointer (some ⟨n,1,none⟩)),(some 11,.int .i64 aW),(some 12,.pointer (some ⟨n,2,none⟩)),(some 13,S str),(some 14,.agg #[.slice x.2.1 le x.2.2,.int .i64 aW,S str]),(some 6,.pointer (some ⟨x.1,0,none⟩)),(none,undef)]
theorem sJ{n:Nat}{ao:Option Addr}{le cap:Nat}{aW:Int}{str:af}{x:Nat×(Option Addr×Nat)}:bE (Ie n ao le cap aW str x):=by
 unfold bE;simp
theorem YM(I:IH)(s:dX)(vc:Value)(hv:aY pY I vc s.aM)(hn:s.aM.length≤1000000000)(n:Int)(w:World)(hw:Ok I w):
 Calls Tryz.prog 62 #[fI s vc,.int .i64 n] w (RA I w (gG s n).1 (gG s n).2):=by
 obtain⟨ao,cap,rfl,_,_,_⟩:=id hv;have mh:=Qh (fun w hw=>Yz I _ s.aM hv w hw (by omega));obtain⟨W2,mH⟩:∃W2,((w.alloc (.cells #[.slice ao s.aM.length cap,.int .i64 s.aW,S s.str] 40)).alloc (.cells #[.slice none 0 0,.int .i64 0,S []] 40))=W2:=⟨_,rfl⟩;have bC:Ok I W2:=by rw[←mH];exact(hw.alloc _).alloc _
 have fw:W2.heap.size=w.heap.size+2:=by rw[←mH];simp
 have yF:=Qh (show W2.heap[w.heap.size]?=some (.cells #[.slice ao s.aM.length cap,.int .i64 s.aW,S s.str] 40 (0,0)) by rw[←mH];exact(Below.heap_alloc _ _ _ (by simp)).trans (heap_alloc_new w _));have rA:=Qh (show W2.heap[w.heap.size+1]?=some (.cells #[.slice none 0 0,.int .i64 0,S []] 40 (0,0)) by
  rw[←mH];have h:=heap_alloc_new (w.alloc (.cells #[.slice ao s.aM.length cap,.int .i64 s.aW,S s.str] 40)) (.cells #[.slice none 0 0,.int .i64 0,S []] 40);simpa using h)
 have aP:Below w.heap.size w W2:=by rw[←mH];exact((Qb _ _).alloc (Qn _) _).alloc (by simp) _
 have c0:W2.cell? ⟨w.heap.size,0,none⟩=some (.slice ao s.aM.length cap):=(cell_of_row _ _ 0 _ _ _ yF.q).trans rfl;have c1:W2.cell? ⟨w.heap.size,1,none⟩=some (.int .i64 s.aW):=(cell_of_row _ _ 1 _ _ _ yF.q).trans rfl;have c2:W2.cell? ⟨w.heap.size,2,none⟩=some (S s.str):=(cell_of_row _ _ 2 _ _ _ yF.q).trans rfl;clear hv;go_enter Tryz.func62,Tryz.ntmps62
 go_wp2_with fail
 refine tK (X:=Nat×(Option Addr×Nat)) (Ie w.heap.size ao s.aM.length cap s.aW s.str) (rG W2 2 8 (fun y w=>aN pY 156 I w W2.heap.size (.slice y.1 s.aM.length y.2) s.aM) (fun k w=>w.heap[k]?=some (.cells #[.slice none 0 0,.int .i64 0,S []] 40 (0,0))∧W2.heap.size≤k) (fun x=>x.1) 40 9 211 212 (fun x=> #[.slice x.2.1 s.aM.length x.2.2,.int .i64 s.aW,S s.str]) (fun x=> #[.slice x.2.1 s.aM.length x.2.2,.int .i64 s.aW,S s.str]) (fun x=> #[.slice x.2.1 s.aM.length x.2.2,.int .i64 s.aW,S s.str])) (by kernel_rfl) (by kernel_rfl) ?_ ?_ ?_
 ·exact⟨(0,default),rG.start _ _⟩
 ·rintro x s' a' w' i cu bU ha hC hi;obtain⟨aJ,oi,dN,aA⟩:=mem_ready.1 hi;rcases i with _|_|_|_|_|_|_|_|_|_|i
  rotate_left 10
  ·simp at dN
  all_goals
   have bY:=dN;simp at dN;subst dN;simp[Region.binds]at aA
  ·have e2:a'.tmps[2]?.getD undef= .pointer (some ⟨w.heap.size,0,none⟩):=lT ha (by simp);refine wpOp_step bY (fun K' hK=> ?_);rw[if_pos (by rfl)];unfold Oper.wp;simp[go_sem,e2,Oper.upon];exact hK _ _ ⟨x,dF (d:=some 7) (v:= .pointer (some ⟨w.heap.size,0,none⟩)) sJ ha rfl aJ,hC.pure (by decide) (by decide) (by decide) (by decide) (by decide)⟩
  ·have e7:a'.tmps[7]?.getD undef= .pointer (some ⟨w.heap.size,0,none⟩):=fD (i:=0) sJ ha rfl (by first|simpa using aA|simp[aA]) (by simp);have hl:s'.getD 9 false=false:=gK bU [1] (by kernel_rfl) (by rfl) aJ;have cq:=bI (hC.off hl) c0;refine wpOp_step bY (fun K' hK=> ?_);rw[if_pos (by rfl)];unfold Oper.wp;simp[go_sem,e7,cq,Oper.upon];exact hK _ _ ⟨x,dF (d:=some 8) (v:= .slice ao s.aM.length cap) sJ ha rfl aJ,hC.pure (by decide) (by decide) (by decide) (by decide) (by decide)⟩
  ·have e8:a'.tmps[8]?.getD undef= .slice ao s.aM.length cap:=fD (i:=1) sJ ha rfl (by first|simpa using aA|simp[aA]) (by simp);have hl:s'.getD 9 false=false:=gK bU [2] (by kernel_rfl) (by rfl) aJ;have nD:=bC.below (Qn _) (hC.off hl);refine wpOp_step bY (fun K' hK=> ?_);rw[if_pos (by rfl)];unfold Oper.wp;simp[go_sem,e8,Oper.upon];refine(mh.q _ nD).mono ?_;rintro r4 w4 ⟨v7,rfl,ho,bA⟩;obtain⟨a7,k7,rfl⟩:=wP ho;have ha:=ha.trans (qF (L:=Ie w.heap.size ao s.aM.length cap s.aW s.str x) (M:=Ie w.heap.size ao s.aM.length cap s.aW s.str (x.1,(a7,k7))) [2,7] rfl (fun j aZ=>by
    rcases j with _|_|_|_|_|_|_|_|_|_|j<;>first|rfl|(exact absurd (by decide) aZ)|simp) (List.forall_mem_cons.2 ⟨jl aJ,List.forall_mem_cons.2 ⟨gK bU [2] (by kernel_rfl) (by rfl) aJ,List.forall_mem_nil _⟩⟩))
   exact hK _ _ ⟨(x.1,(a7,k7)),dF (d:=some 9) (v:= .slice (a7,k7).1 s.aM.length (a7,k7).2) sJ ha rfl aJ,hC.call hl bA (ho.lower (hC.off hl).size) (fun k hk=>⟨(bA.block _ (Qg hk.1)).trans hk.1,hk.2⟩) (by decide) (by decide)⟩
  ·have e2:a'.tmps[2]?.getD undef= .pointer (some ⟨w.heap.size,0,none⟩):=lT ha (by simp);refine wpOp_step bY (fun K' hK=> ?_);rw[if_pos (by rfl)];unfold Oper.wp;simp[go_sem,e2,Oper.upon];exact hK _ _ ⟨x,dF (d:=some 10) (v:= .pointer (some ⟨w.heap.size,1,none⟩)) sJ ha rfl aJ,hC.pure (by decide) (by decide) (by decide) (by decide) (by decide)⟩
  ·have e10:a'.tmps[10]?.getD undef= .pointer (some ⟨w.heap.size,1,none⟩):=fD (i:=3) sJ ha rfl (by first|simpa using aA|simp[aA]) (by simp);have hl:s'.getD 9 false=false:=gK bU [4] (by kernel_rfl) (by rfl) aJ;have cq:=bI (hC.off hl) c1;refine wpOp_step bY (fun K' hK=> ?_);rw[if_pos (by rfl)];unfold Oper.wp;simp[go_sem,e10,cq,Oper.upon];exact hK _ _ ⟨x,dF (d:=some 11) (v:= .int .i64 s.aW) sJ ha rfl aJ,hC.pure (by decide) (by decide) (by decide) (by decide) (by decide)⟩
  ·have e2:a'.tmps[2]?.getD undef= .pointer (some ⟨w.heap.size,0,none⟩):=lT ha (by simp);refine wpOp_step bY (fun K' hK=> ?_);rw[if_pos (by rfl)];unfold Oper.wp;simp[go_sem,e2,Oper.upon];exact hK _ _ ⟨x,dF (d:=some 12) (v:= .pointer (some ⟨w.heap.size,2,none⟩)) sJ ha rfl aJ,hC.pure (by decide) (by decide) (by decide) (by decide) (by decide)⟩
  ·have e12:a'.tmps[12]?.getD undef= .pointer (some ⟨w.heap.size,2,none⟩):=fD (i:=5) sJ ha rfl (by first|simpa using aA|simp[aA]) (by simp);have hl:s'.getD 9 false=false:=gK bU [6] (by kernel_rfl) (by rfl) aJ;have cq:=bI (hC.off hl) c2;refine wpOp_step bY (fun K' hK=> ?_);rw[if_pos (by rfl)];unfold Oper.wp;simp[go_sem,e12,cq,Oper.upon];exact hK _ _ ⟨x,dF (d:=some 13) (v:=S s.str) sJ ha rfl aJ,hC.pure (by decide) (by decide) (by decide) (by decide) (by decide)⟩
  ·have e9:a'.tmps[9]?.getD undef= .slice x.2.1 s.aM.length x.2.2:=fD (i:=2) sJ ha rfl (by first|simpa using aA|simp[aA]) (by simp);have e11:a'.tmps[11]?.getD undef= .int .i64 s.aW:=fD (i:=4) sJ ha rfl (by first|simpa using aA|simp[aA]) (by simp);have e13:a'.tmps[13]?.getD undef=S s.str:=fD (i:=6) sJ ha rfl (by first|simpa using aA|simp[aA]) (by simp);refine wpOp_step bY (fun K' hK=> ?_);rw[if_pos (by rfl)];unfold Oper.wp;simp[go_sem,e9,e11,e13,Oper.upon];exact hK _ _ ⟨x,dF (d:=some 14) (v:= .agg #[.slice x.2.1 s.aM.length x.2.2,.int .i64 s.aW,S s.str]) sJ ha rfl aJ,hC.pure (by decide) (by decide) (by decide) (by decide) (by decide)⟩
  ·have hl:s'.getD 9 false=false:=gK bU [8] (by kernel_rfl) (by rfl) aJ;refine wpOp_step bY (fun K' hK=> ?_);rw[if_pos (by rfl)];unfold Oper.wp;simp[go_sem,Oper.upon];have ha:=ha.trans (qF (L:=Ie w.heap.size ao s.aM.length cap s.aW s.str x) (M:=Ie w.heap.size ao s.aM.length cap s.aW s.str (w'.heap.size,x.2)) [8] rfl (fun j aZ=>by
    rcases j with _|_|_|_|_|_|_|_|_|_|j<;>first|rfl|(exact absurd (by decide) aZ)|simp) (List.forall_mem_cons.2 ⟨jl aJ,List.forall_mem_nil _⟩))
   exact hK _ _ ⟨(w'.heap.size,x.2),dF (d:=some 6) (v:= .pointer (some ⟨w'.heap.size,0,none⟩)) sJ ha rfl aJ,hC.made hl ((Qb _ _).alloc (Qn _) _) ⟨heap_alloc_new _ _,(hC.off hl).size⟩ (fun y hy=>hy.alloc _) (by decide) (by decide)⟩
  ·have e14:a'.tmps[14]?.getD undef= .agg #[.slice x.2.1 s.aM.length x.2.2,.int .i64 s.aW,S s.str]:=fD (i:=7) sJ ha rfl (by first|simpa using aA|simp[aA]) (by simp);have e6:a'.tmps[6]?.getD undef= .pointer (some ⟨x.1,0,none⟩):=fD (i:=8) sJ ha rfl (by first|simpa using aA|simp[aA]) (by simp);refine wpOp_step bY (fun K' hK=> ?_);rw[if_pos (by rfl)];have wC:s'.getD 2 false=true:=by first|simpa using aA|simp[aA]
   have MJ:s'.getD 8 false=true:=by first|simpa using aA|simp[aA]
   have CS:s'.getD 9 false=false:=jl aJ;have aU:w'.heap[x.1]?=some (.cells _ 40 (0,0)):=(hC.fa MJ CS).1;refine qU 40 _ _ rfl (x.1) 0 [.slice x.2.1 s.aM.length x.2.2,.int .i64 s.aW,S s.str] (.agg #[.slice x.2.1 s.aM.length x.2.2,.int .i64 s.aW,S s.str]) (by simp[Act.eval,e14,e6]) (by simp[Act.eval,e14,e6]) (by rfl) _ _ aU (by simp) (by kernel_rfl) (by simp[Value.oneCell']) ?_;exact hK _ _ ⟨x,dF (d:=none) (v:=undef) sJ ha rfl aJ,hC.lH aJ (hC.fc wC CS) (hC.fa MJ CS) (kz (by simp[cu])) (kz (by simp[cu])) (by decide) aU (by rfl)⟩
 ·rintro x s' a' w8 eX ha hC;obtain⟨wb,gQ,uJ,uI,fF,aU⟩:=hC.on (eX 9 (by decide));simp only[ite_self]at aU;rw[su _ _ _ _ (fun i hi=>by rw[Nat.zero_add];exact eX i (by simpa using hi))]at ha;subst ha;simp only[df,Act.put];obtain⟨m,jm,k7⟩:=x;dsimp only at uJ uI fF aU ⊢;have aZ:=vN uJ uI.1 (by decide);have si:=uJ.kept fF (.inr aZ);have hm:w.heap.size+2≤m:=by have:=uI.2;omega
  have iC:Ok I w8:=(bC.below (Qn _) gQ).grown fF (fun g e=>by cases e;exact hw.fresh (by omega));have mJ:Below w.heap.size w w8:=(aP.trans (gQ.mono aP.size)).grown fF (by have:=gQ.size;omega) (fun k e=>by cases e;omega);obtain⟨J,wQ,oJ,yG,KE⟩:=si.freeze iC (fun b hb=>hw.fresh (by omega));have HJ:=Qh (And.intro (wQ.mono (show w.heap.size≤W2.heap.size by omega)) (And.intro oJ yG));have hz:∀b,b<w.heap.size+2→w8.heap[b]?=W2.heap[b]? :=fun b hb=>(fF.block _ (by have:=gQ.size;omega) (fun e=>by cases e;omega)).trans (gQ.block _ (by omega));have oV:=Qh ((hz (w.heap.size+1) (by omega)).trans rA.q);have Ig:J m=none:=by rw[KE m aZ];exact hw.fresh (by omega)
  have a1:w8.cell? ⟨w.heap.size,1,none⟩=some (.int .i64 s.aW):=(cell_of_row _ _ 1 _ _ _ ((hz w.heap.size (by omega)).trans yF.q)).trans rfl;have d0:w8.cell? ⟨m,0,none⟩=some (.slice jm s.aM.length k7):=(cell_of_row _ _ 0 _ _ _ aU).trans rfl;have d1:w8.cell? ⟨m,1,none⟩=some (.int .i64 s.aW):=(cell_of_row _ _ 1 _ _ _ aU).trans rfl;have d2:w8.cell? ⟨m,2,none⟩=some (S s.str):=(cell_of_row _ _ 2 _ _ _ aU).trans rfl;have f0:=frozen_of_row w8 _ 0 _ _ aU;have f1:=frozen_of_row w8 _ 1 _ _ aU;have f2:=frozen_of_row w8 _ 2 _ _ aU;have g0:=frozen_of_row w8 _ 0 _ _ oV.q;have g1:=frozen_of_row w8 _ 1 _ _ oV.q;have g2:=frozen_of_row w8 _ 2 _ _ oV.q;have k0:w8.cell? ⟨w.heap.size+1,0,none⟩=some (.slice none 0 0):=(cell_of_row _ _ 0 _ _ _ oV.q).trans rfl;have k1:w8.cell? ⟨w.heap.size+1,1,none⟩=some (.int .i64 0):=(cell_of_row _ _ 1 _ _ _ oV.q).trans rfl;have k2:w8.cell? ⟨w.heap.size+1,2,none⟩=some (S []):=(cell_of_row _ _ 2 _ _ _ oV.q).trans rfl;have Vh:m≠w.heap.size+1:=by omega
  have Gy:w.heap.size+1≠m:=by omega
  have Od:=Qh aU;have yH:=Qh (show(Tryz.prog.info? 40).map (·.size)=some 3 by kernel_rfl);have jA:I (w.heap.size+1)=none:=hw.fresh (by omega);have qG:J (w.heap.size+1)=none:=by rw[wQ _ (by omega)];exact jA
  clear hz uJ uI fF aU aZ si gQ hC eX wQ oJ yG KE c0 c1 c2 yF rA mh iC;by_cases h1:n<1
  ·have e1:decide (n<1)=true:=Qt h1;have Hn:=Qh (show gG s n=(s,2) by rw[gG,if_pos (.inl h1)]);clear h1;go_wp2;refine bodyPost_ret (v:= .tuple #[fI s (.slice jm s.aM.length k7),.int .i64 2]) ?_ rfl ?_
   ·rw[results_cell_tmp rfl];simp[asAddr,run_loadVar_row _ (w.heap.size+1) 40 40 #[.slice jm s.aM.length k7,.int .i64 s.aW,S s.str] (0,0) _ (E8 oV.q) Tryz.underlying40 rfl yH.q]
   ·rw[Hn.q];exact⟨_,J,rfl,((mJ.setCell (p:=⟨w.heap.size+1,0,none⟩) (Nat.le_succ _) _).setCell (p:=⟨w.heap.size+1,1,none⟩) (Nat.le_succ _) _).setCell (p:=⟨w.heap.size+1,2,none⟩) (Nat.le_succ _) _,HJ.q.1,((HJ.q.2.1.setCell qG _).setCell qG _).setCell qG _,HJ.q.2.2⟩
  have e1:decide (n<1)=false:=Qf h1;by_cases h2:255<n
  ·have e2:decide (255<n)=true:=Qt h2;have Hn:=Qh (show gG s n=(s,2) by rw[gG,if_pos (.inr h2)]);clear h1 h2;go_wp2;refine bodyPost_ret (v:= .tuple #[fI s (.slice jm s.aM.length k7),.int .i64 2]) ?_ rfl ?_
   ·rw[results_cell_tmp rfl];simp[asAddr,run_loadVar_row _ (w.heap.size+1) 40 40 #[.slice jm s.aM.length k7,.int .i64 s.aW,S s.str] (0,0) _ (E8 oV.q) Tryz.underlying40 rfl yH.q]
   ·rw[Hn.q];exact⟨_,J,rfl,((mJ.setCell (p:=⟨w.heap.size+1,0,none⟩) (Nat.le_succ _) _).setCell (p:=⟨w.heap.size+1,1,none⟩) (Nat.le_succ _) _).setCell (p:=⟨w.heap.size+1,2,none⟩) (Nat.le_succ _) _,HJ.q.1,((HJ.q.2.1.setCell qG _).setCell qG _).setCell qG _,HJ.q.2.2⟩
  have e2:decide (255<n)=false:=Qf h2;by_cases h3:n≤s.aW
  ·have e3:decide (n≤s.aW)=true:=Qt h3;have Hn:=Qh (show gG s n=(s,14) by rw[gG,if_neg (by omega),if_pos h3]);clear h1 h2 h3;go_wp2;refine bodyPost_ret (v:= .tuple #[fI s (.slice jm s.aM.length k7),.int .i64 14]) ?_ rfl ?_
   ·rw[results_cell_tmp rfl];simp[asAddr,run_loadVar_row _ (w.heap.size+1) 40 40 #[.slice jm s.aM.length k7,.int .i64 s.aW,S s.str] (0,0) _ (E8 oV.q) Tryz.underlying40 rfl yH.q]
   ·rw[Hn.q];exact⟨_,J,rfl,((mJ.setCell (p:=⟨w.heap.size+1,0,none⟩) (Nat.le_succ _) _).setCell (p:=⟨w.heap.size+1,1,none⟩) (Nat.le_succ _) _).setCell (p:=⟨w.heap.size+1,2,none⟩) (Nat.le_succ _) _,HJ.q.1,((HJ.q.2.1.setCell qG _).setCell qG _).setCell qG _,HJ.q.2.2⟩
  have e3:decide (n≤s.aW)=false:=Qf h3;have Hn:=Qh (show gG s n=(⟨s.aM,n,[]⟩,0) by rw[gG,if_neg (by omega),if_neg h3]);clear h1 h2 h3;have RB:=Qh (show((w8.setCell ⟨m,1,none⟩ (.int .i64 n)).setCell ⟨m,2,none⟩ (.string ⟨#[]⟩)).heap[w.heap.size+1]?=some (.cells #[.slice none 0 0,.int .i64 0,S []] 40 (0,0))from(heap_setCell_other _ ⟨m,2,none⟩ _ _ (by show w.heap.size+1≠m;omega)).trans ((heap_setCell_other _ ⟨m,1,none⟩ _ _ (by show w.heap.size+1≠m;omega)).trans oV.q));go_wp2;refine bodyPost_ret (v:= .tuple #[fI ⟨s.aM,n,[]⟩ (.slice jm s.aM.length k7),.int .i64 0]) ?_ rfl ?_
  ·rw[results_cell_tmp rfl];simp[asAddr,run_loadVar_row _ (w.heap.size+1) 40 40 #[.slice jm s.aM.length k7,.int .i64 n,S []] (0,0) _ (E8 RB.q) Tryz.underlying40 rfl yH.q]
  ·rw[Hn.q];exact⟨_,J,rfl,((((mJ.setCell (p:=⟨m,1,none⟩) (by show w.heap.size≤m;omega) _).setCell (p:=⟨m,2,none⟩) (by show w.heap.size≤m;omega) _).setCell (p:=⟨w.heap.size+1,0,none⟩) (Nat.le_succ _) _).setCell (p:=⟨w.heap.size+1,1,none⟩) (Nat.le_succ _) _).setCell (p:=⟨w.heap.size+1,2,none⟩) (Nat.le_succ _) _,HJ.q.1,((((HJ.q.2.1.setCell Ig _).setCell Ig _).setCell qG _).setCell qG _).setCell qG _,HJ.q.2.2⟩
open Go.RowKit Go.Shelf
attribute [local go_sem] Oper.semAt_some
theorem Xqo(s:af)(hs:s.length≤4294967280)(w:World):
 Calls Tryz.prog 239 #[S s] w fun e w'=>e= .returned (.int .i64 (gL s:Nat))∧Below w.heap.size w w':=by
 obtain⟨N,hN⟩:∃N,gL s=N:=⟨_,rfl⟩;have HN:=Qh (show fO (s.drop 0) 0 0=N from hN);rw[hN];clear hN;go_enter Tryz.func239,Tryz.ntmps239
 go_wp2_with fail
 go_loopw [3,8] (fun s3 s8 wr=> ∃k h:Nat,k≤s.length∧h<65536∧s8= .int .i64 k∧s3= .int .i64 h∧fO (s.drop k) k h=N∧Below w.heap.size w wr) (fun _ i _=>s.length-(intOf i).toNat)
 case atStart=>exact⟨0,0,Nat.zero_le _,by decide,rfl,rfl,HN.q,Qb _ _⟩
 case round=>
  clear HN;obtain⟨k,h,hk,hh,rfl,rfl,hr,hb⟩:=hrel;have Hr:=Qh hr;clear hr;by_cases hlt:k<s.length
  ·have hx:=l6 (P:=Tryz.prog) Tryz.underlying9 s (k:Int) k rfl hlt;have bT:=Qh (Xke hlt Hr.q);have hch:(s.getD k 0).toNat<256:=(s.getD k 0).toNat_lt;have bU:=Xtg h (s.getD k 0);have Ph:=Xss h (s.getD k 0);generalize hH:AP h (s.getD k 0)=H at bT bU Ph;generalize(s.getD k 0).toNat=c at hx hch Ph;have m1:IntKind.i64.wrap (2*(h:Int))=2*(h:Int):=IntWalk.i64_in _ (by omega);have m2:IntKind.i64.wrap ((c:Int)+1)=(c:Int)+1:=IntWalk.i64_in _ (by omega);have m3:IntKind.i64.wrap (40503*((c:Int)+1))=40503*((c:Int)+1):=IntWalk.i64_in _ (by omega);have m4:IntKind.i64.wrap (2*(h:Int)+40503*((c:Int)+1))=2*(h:Int)+40503*((c:Int)+1):=IntWalk.i64_in _ (by omega);have m5:IntKind.i64.wrap ((k:Int)+1)=(k:Int)+1:=IntWalk.i64_in _ (by omega);clear hH Hr;by_cases KF:k+1=96
   ·have Hn:=Qh (show k+1=N by have:=bT.q;rwa[if_pos (.inl KF)]at this);have d1:((k:Int)+1==96)=true:=by simpa using(show(k:Int)+1=96 by omega)
    clear bT KF;go_wp2;go_ret;exact⟨dK (by rw[←Hn.q];go_num),hb⟩
   have d1:((k:Int)+1==96)=false:=by simpa using(show(k:Int)+1≠96 by omega)
   by_cases Mm:16≤k+1
   ·have d2:decide ((16:Int)≤(k:Int)+1)=true:=Qt (by omega);by_cases hlh:H<2048
    ·have Hn:=Qh (show k+1=N by have:=bT.q;rwa[if_pos (.inr ⟨Mm,hlh⟩)]at this);have d3:decide ((H:Int)<2048)=true:=Qt (by omega);clear bT KF Mm;go_wp2;go_ret;exact⟨dK (by rw[←Hn.q];go_num),hb⟩
    ·have Hn:=Qh (show fO (s.drop (k+1)) (k+1) H=N by have:=bT.q;rwa[if_neg (by omega)]at this);have d3:decide ((H:Int)<2048)=false:=Qf (by omega);clear bT KF Mm;go_wp2;go_roundw;case rel=>exact⟨k+1,H,by omega,bU,by go_num,by rw[Ph],Hn.q,hb⟩
     case measure=>simp[intOf];omega
   ·have d2:decide ((16:Int)≤(k:Int)+1)=false:=Qf (by omega);have Hn:=Qh (show fO (s.drop (k+1)) (k+1) H=N by have:=bT.q;rwa[if_neg (by omega)]at this);clear bT KF Mm;go_wp2;go_roundw;case rel=>exact⟨k+1,H,by omega,bU,by go_num,by rw[Ph],Hn.q,hb⟩
    case measure=>simp[intOf];omega
  ·have Hn:=Qh (show s.length=N by have:=Hr.q;rw[List.drop_of_length_le (by omega),fO]at this;omega);go_wp2;go_ret;exact⟨dK (by rw[←Hn.q]),hb⟩
def vO(b:Nat)(w:World):Nat:=match w.cell? ⟨b,0,none⟩with|some (.string s)=>s.size|_=>0
theorem YN{s:af}{t:TypeId}(h:w.heap[b]?=some (.cells #[S s] t (0,0))):vO b w=s.length:=by
 unfold vO;rw[cell_of_row w b 0 _ _ _ h];simp[ByteArray.size]
theorem RD(hb:Below w.heap.size w w'):w.grownBy w' none:=⟨hb.os,hb.tape,hb.output,hb.size,fun k hk _=>hb.block k hk⟩
theorem Xmn(n:Nat)(hn:1≤n)(s:af)(hs:s.length≤4294967280)(Bx:Nat)(w:World)(hB:w.heap[Bx]?=some (.cells #[S s] 9 (0,0))):
 Dz Fence.wide n Tryz.prog 238 #[.pointer (some ⟨Bx,0,none⟩)] (fun x:af=> #[S x]) Bx (fun W W'=>W'.heap[Bx]?=W.heap[Bx]?) (fun xs=>xs=bN s) s.length w:=by
 intro l J W hW hJ YO hY h0;have MK:W.heap[Bx]?=some (.cells #[S s] 9 (0,0)):=(hW.block _ (Qg hB)).trans hB;have HJ:=Qh hJ;have HJw:=Qh YO;have HY:=Qh hY;have H0:=Qh h0;have HB:=Qh MK;clear hJ YO hY h0 hW hB MK;have bU:=Rq s;obtain⟨N,hN⟩:∃N,bN s=N:=⟨_,rfl⟩;have HN:=Qh (show []++bN s=N from hN);rw[hN]at bU ⊢;clear hN;refine callsIn_of_wp Tryz.func238 rfl trivial ?_ rfl;simp only[Tryz.ntmps238,List.size_toArray,List.length_cons,List.length_nil,Nat.reduceAdd,Nat.reduceSub,Array.replicate_succ,Array.replicate_zero,List.push_toArray,List.append_toArray,List.nil_append,List.cons_append];gi_wp2
 gi_loopw [3] (fun _ wr=> ∃(r:af) (pre:List af),wr.heap[Bx]?=some (.cells #[S r] 9 (0,0))∧r.length≤s.length∧pre++bN r=N∧J pre wr) (fun _ wr=>vO Bx wr)
 case atStart=>exact⟨s,[],HB.q,Qn _,HN.q,H0.q⟩
 case round=>
  clear HB HN H0;obtain⟨r,pre,qV,IX,ry,hj⟩:=hrel;have p9:=Qh ry;have Hj:=Qh hj;have vP:=Qh qV;have yl:=YN qV;have c0:wr.cell? ⟨Bx,0,none⟩=some (S r):=(cell_of_row wr _ 0 _ _ _ qV).trans rfl;clear ry hj qV;by_cases h0:r=[]
  ·have Hn:=Qh (show pre=N by have:=p9.q;rw[h0,Xmo,List.append_nil]at this;exact this);obtain⟨p1,p2,p3,p4⟩:=Bp h0;clear h0;gi_wp2
   go_end0
   exact⟨⟨_,rfl⟩,pre,Hn.q,Hj.q⟩
  ·obtain⟨p1,p2,p3,p4⟩:=Bo h0;have wm:=List.length_pos_iff.2 h0;have hp:=NU h0;have hf:=Yl r;have Hf:=Qh (Xqo r (by omega) wr);have Hn:=Qh (show(pre++[r.take (gL r)])++bN (r.drop (gL r))=N by rw[←p9.q,Yn h0];simp);have nO:pre.length<s.length:=by
    have:=congrArg List.length Hn.q;simp only[List.length_append,List.length_cons,List.length_nil]at this;omega
   generalize gL r=m at Hf Hn hp hf;have sS:(m:Int)≤(r.length:Int):=by omega
   have akq:(0:Int)≤(m:Int):=by omega
   clear h0 p9;gi_wp2_with fail
   refine⟨trivial,(callsIn_wide.2 Hf.q).mono ?_⟩;rintro e1 w1 ⟨rfl,aG⟩;have GA:=HJ.q _ _ _ none Hj.q (RD aG) (fun r h=>by cases h);obtain⟨fn,tmps,assign,body,hy,hR⟩:=HY.q pre (r.take m) w1 GA nO;have c1:=bI aG c0;have wR:=Qh ((aG.block _ (Qg vP.q)).trans vP.q);clear Hf aG GA Hj vP c0;gi_wp2
   refine hR.mono ?_;rintro e W3 ⟨rfl,yt,qx⟩;have RF:=Qh yt;have wS:=qx.trans wR.q;have wT:=Qh wS;have c3:W3.cell? ⟨Bx,0,none⟩=some (S r):=(cell_of_row W3 _ 0 _ _ _ wS).trans rfl;have f3:W3.frozen? ⟨Bx,0,none⟩=false:=frozen_of_row W3 _ 0 _ _ wS;clear yt qx wS hy c1;have htd:List.take (r.length-m) (List.drop m r)=r.drop m:=List.take_of_length_le (by rw[List.length_drop];omega);gi_wp2
   go_roundw;case rel=>exact⟨r.drop m,_,heap_setCell_same W3 Bx 0 _ _ (S (r.drop m)) wT.q,by simp;omega,Hn.q,HJw.q _ _ _ RF.q⟩
   case measure=>rw[YN (heap_setCell_same W3 Bx 0 _ _ (S (r.drop m)) wT.q),yl,List.length_drop];omega
theorem Xoq(s:af)(w:World):Calls Tryz.prog 199 #[S s] w fun e w'=>e= .returned (.func (.func 238) #[] #[.pointer (some ⟨w.heap.size,0,none⟩)])∧w'=w.alloc (.cells #[S s] 9):=by
 go_enter Tryz.func199,Tryz.ntmps199
 go_wp2;go_ret;exact⟨rfl,rfl⟩
def zK(Bx b:Nat)(w:World)(pre:List af)(W:World):Prop:=
 ∃v,W.heap[b]?=some (.cells #[v] 126 (0,0))∧aN ib 9 (fun _=>none) W (b+1) v pre∧Below Bx w W
theorem Xq0(hw:Bx≤w.heap.size)(hB:Bx≤B):OwnFrom B (zK Bx b w):=by
 intro pre W W' row ⟨v,h1,h2,h3⟩ hg hr;exact⟨v,YJ h1 hg fun r e=>(hr r e).2,h2.turn hg fun r e=>(hr r e).2,Below.turn h3 hw hB hg hr⟩
theorem Xqz(aZ:Bx<b)(pre:List af)(W:World)(u:Value)(h:zK Bx b w pre W):zK Bx b w pre (W.setCell ⟨Bx,0,none⟩ u):=by
 obtain⟨v,h1,h2,h3⟩:=h;refine⟨v,(heap_setCell_other W ⟨Bx,0,none⟩ b u (by show b≠Bx;omega)).trans h1,h2.stored (fun e=> ?_) 0 u,h3.setCell (p:=⟨Bx,0,none⟩) (Qn _) u⟩;have:=(oF h2 e).1;omega
theorem Xgf(n:Nat)(hn:2≤n)(s:af)(hs:s.length≤4294967280)(Bx:Nat)(w:World)(hB:w.heap[Bx]?=some (.cells #[S s] 9 (0,0))):
 CallsIn Fence.wide n Tryz.prog 237 #[.slice none 0 0,.func (.func 238) #[] #[.pointer (some ⟨Bx,0,none⟩)]] w fun e w'=> ∃v,e= .returned v∧aN ib 9 (fun _=>none) w' w.heap.size v (bN s)∧Below Bx w w':=by
 have hlB:Bx<w.heap.size:=(Qg hB);have bU:=Rq s;refine callsIn_of_wp_marks Tryz.func237 rfl trivial ?_ rfl;simp only[Tryz.ntmps237,List.size_toArray,List.length_cons,List.length_nil,Nat.reduceAdd,Nat.reduceSub,Array.replicate_succ,Array.replicate_zero,List.push_toArray,List.append_toArray,List.nil_append,List.cons_append];gi_wp2
 have CO:(w.alloc (.cells #[.slice none 0 0] 126)).heap[Bx]?=some (.cells #[S s] 9 (0,0)):=(Below.heap_alloc _ _ _ hlB).trans hB;have Pd:zK Bx w.heap.size w [] (w.alloc (.cells #[.slice none 0 0] 126)):=⟨_,heap_alloc_new w _,aN.nil _ _ _ _ _,(Qb _ _).alloc (by omega) _⟩;have cu:(w.alloc (.cells #[.slice none 0 0] 126)).heap.size=w.heap.size+1:=by simp
 obtain⟨W0,Pj⟩:∃W0,w.alloc (.cells #[.slice none 0 0] 126)=W0:=⟨_,rfl⟩;rw[Pj]at CO Pd cu ⊢;clear Pj
 refine Xmv rfl (by omega) (gf:=238) (lb:=#[.pointer (some ⟨Bx,0,none⟩)]) rfl trivial (enters_of Tryz.func238 (by kernel_rfl) rfl)
  (Xmn (n-1) (by omega) s hs Bx W0 CO) (by omega) (fun h k=>k.trans h) (fun W l o' hl=>World.putObj_heap_other (by omega)) (fun _=>rfl)
  (zK Bx w.heap.size w) (Xq0 (by omega) (by omega)) (fun pre W u h=>Xqz hlB pre W u h) Pd
  (fun x=> {tmps:=#[.slice none 0 0,.func (.func 238) #[] #[.pointer (some ⟨Bx,0,none⟩)],.pointer (some ⟨w.heap.size,0,none⟩),undef,.slice none 0 0,S x,.func (.func 238) #[] #[.pointer (some ⟨Bx,0,none⟩)],S x,undef,undef,undef,undef,undef],defers:=[]})
  ?assign ?body ?done
 case assign=>
  intro l x W K hK;gi_wp2
  exact hK
 case body=>
  intro l pre x W ⟨v,h1,h2,h3⟩ nO;have c0:W.cell? ⟨w.heap.size,0,none⟩=some v:=(cell_of_row W _ 0 _ _ _ h1).trans rfl;have f0:=frozen_of_row W _ 0 _ _ h1;have aZ:v.ownBlock≠some w.heap.size:=fun e=>by have:=(oF h2 e).1;omega
  have hlt:w.heap.size<W.heap.size:=(Qg h1);obtain⟨a0,n0,k0,rfl⟩:=zI h2;have H1:=Qh h1;have H2:=Qh h2;have H3:=Qh h3;clear h1 h2 h3;gi_wp2_with (gi_at_builtin;go_loud (refine Kz (w0:=W) VF rfl _ _ rfl (w.heap.size+1) _ pre rfl H2.q x [S x] _ (by first|rfl|simp[Act.eval]) rfl (by omega) (by omega) (by omega) ?_))
  intro v7 w7 uZ kI Oe;obtain⟨g7,n7,k7,rfl⟩:=Xp0 uZ;have co7:=iV kI aZ c0;have fo7:=AQ kI aZ c0 f0;gi_wp2
  have e1:w7.heap[w.heap.size]?=some (.cells #[.slice a0 n0 k0] 126 (0,0)):=(kI.block _ hlt (fun e=>aZ e.symm)).trans H1.q;refine⟨(KeepsFrom.own H2.q kI).trans (KeepsFrom.uH w7 ⟨w.heap.size,0,none⟩ _),?_,_,heap_setCell_same w7 w.heap.size 0 _ _ _ e1,uZ.stored (fun e=>by have:=(oF uZ e).1;omega) 0 _,(H3.q.grown kI (by omega) (fun k hk=>by have:=(oF H2.q hk).1;omega)).setCell (p:=⟨w.heap.size,0,none⟩) (by show Bx≤w.heap.size;omega) _⟩;exact(heap_setCell_other w7 ⟨w.heap.size,0,none⟩ Bx _ (by show Bx≠w.heap.size;omega)).trans (kI.block _ (by omega) (fun e=>by have:=(oF H2.q e.symm).1;omega))
 case done=>
  rintro D xs W hD rfl ⟨v,h1,h2,h3⟩ hK;have c0:W.cell? ⟨w.heap.size,0,none⟩=some v:=(cell_of_row W _ 0 _ _ _ h1).trans rfl;gi_wp2
  refine⟨by simp,.inl ⟨_,_,rfl,run_takeDeferred hK,?_⟩⟩;exact⟨_,results_tmp rfl _ _ _,v,rfl,(h2.turn (grownBy_putObj' _ D _) (fun r e=>by cases e;exact⟨_,hK,rfl⟩)).lower (by omega),Below.turn h3 (by omega) (Qn _) (grownBy_putObj' _ D _) (fun r e=>by cases e;exact⟨by omega,_,hK,rfl⟩)⟩
theorem Xin(n:Nat)(hn:3≤n)(s:af)(hs:s.length≤4294967280)(Bx:Nat)(w:World)(hB:w.heap[Bx]?=some (.cells #[S s] 9 (0,0))):
 CallsIn Fence.wide n Tryz.prog 198 #[.func (.func 238) #[] #[.pointer (some ⟨Bx,0,none⟩)]] w fun e w'=> ∃v,e= .returned v∧aN ib 9 (fun _=>none) w' w.heap.size v (bN s)∧Below Bx w w':=by
 have Ha:=Qh (Xgf (n-1) (by omega) s hs Bx w hB);refine callsIn_of_wp Tryz.func198 rfl trivial ?_ rfl;simp only[Tryz.ntmps198,List.size_toArray,List.length_cons,List.length_nil,Nat.reduceAdd,Nat.reduceSub,Array.replicate_succ,Array.replicate_zero,List.push_toArray,List.append_toArray,List.nil_append,List.cons_append];gi_wp2_with fail
 refine⟨trivial,fun _=>by omega,Ha.q.mono ?_⟩;rintro e w1 ⟨v,rfl,h1,h2⟩;gi_wp2
 go_ret;exact⟨v,rfl,h1,h2⟩
theorem Xqn(I:IH)(s:af)(hs:s.length≤4294967280)(w:World):
 Calls Tryz.prog 151 #[S s] w fun e w'=> ∃v',e= .returned v'∧aN ib 9 I w' w.heap.size v' (bN s)∧Below w.heap.size w w':=by
 have Hc:=Qh (fun w=>Xoq s w);have Hs:=Qh (callsIn_wide.1 (Xin 3 (Qn _) s hs w.heap.size (w.alloc (.cells #[S s] 9)) (heap_alloc_new w _)));go_enter Tryz.func151,Tryz.ntmps151
 go_wp2_with fail
 refine(Hc.q _).mono ?_;rintro e w1 ⟨rfl,rfl⟩;go_wp2_with fail
 refine Hs.q.mono ?_;rintro e w2 ⟨v,rfl,⟨xs,h1,h2⟩,h3⟩;go_wp2;go_ret;exact⟨v,rfl,aN.lower ⟨xs,h1,h2.1,fun i hi=>by obtain⟨cs,q1,q2⟩:=h2.2 i hi;exact⟨cs,q1,q2⟩⟩ (by simp),((Qb w.heap.size w).alloc (Qn _) _).trans h3⟩
