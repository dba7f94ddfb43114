/- Lemmas for the claim's theorem;conditions: as each says. -/
import Derived.Test.YtmdfjnhfhidmhaaGreatDoorJ33
set_option maxHeartbeats 0
set_option maxRecDepth 100000
set_option linter.all false
namespace Go.Proofs.YtmdfjnhfhidmhaaGreatDoor
open Go.RowKit
variable{x:dK}{L:List dK}{k:Nat}{e:aT}{n:Nat}{st:List af}{j m:Nat}{w:World}{α:Type}{T:Ty α}{B:Nat}{v:Value}{l:List α}
def Rds(st:List af)(x:Xt)(d:af):Prop:=
 (x.s=0∧x.o=0∧0≤x.n∧d=List.replicate x.n.toNat 0)∨
 (1≤x.s∧x.s≤st.length∧0≤x.o∧0≤x.n∧x.o+x.n≤(kR st x).length∧d=((kR st x).drop x.o.toNat).take x.n.toNat)
def FR(st:List af):List Xt→af→Prop
 | [],d=>d=[]
 |x::l,d=> ∃a b,d=a++b∧Rds st x a∧FR st l b
theorem Rds.len{st:List af} {x:Xt} {d:af} (h:Rds st x d):0≤x.n∧(d.length:Int)=x.n:=by
 rcases h with ⟨_,_,h,rfl⟩|⟨_,_,h0,h1,h2,rfl⟩
 ·rw [List.length_replicate];omega
 ·rw [List.length_take,List.length_drop];omega
theorem Xoe:∀{l:List Xt} {d out:af},FR st l d→out.length+d.length≤65536→mP st l out=(out++d,0)
 | [],d,out,h,_=>by
   have h:d=[]:=h;subst h;rw[List.append_nil];rfl
 |x::l,d,out,⟨a,b,e,h1,h2⟩,hl=>by
  subst e;rw[List.length_append]at hl;have hn:=h1.len;have ih:=Xoe (out:=out++a) h2 (by rw[List.length_append];omega);rw[List.append_assoc]at ih;rw[mP];rcases h1 with⟨z0,z1,z2,rfl⟩|⟨z0,z1,z2,z3,z4,rfl⟩
  ·rw[if_neg (by rw[VC (by omega) (by omega) (by omega) (by omega) (by omega)];decide),if_neg (by omega),if_neg (by omega),if_pos z0];exact ih
  ·rw[if_neg (by rw[VC (by omega) (by omega) (by omega) (by omega) (by omega)];decide),if_neg (by omega),if_neg (by omega),if_neg (by omega)];exact ih
theorem Xuj{l:List Xt}{d:af}(h:FR st l d)(hl:d.length≤65536):wu st l=(d,0):=by
 have:=Xoe (out:=[]) h (by simpa using hl);simpa[wu]using this
def aan(st st':List af):Prop:=st.length≤st'.length∧ ∀i:Nat,i<st.length→ ∃t,st'.getD i []=st.getD i []++t
def apC(g:Sg):af:=if g.d=[]then List.replicate g.n.toNat 0 else g.d
def FT(cs:List af):List af:=cs.flatMap fun c=>(iK c).flatMap fun g=>bT g.d
def zz:List af→List af→Bool
 |_,[]=>false
 |pre,c::l=>(pre.any fun p=>fA p==fA c&&p !=c) || zz (pre++[c]) l
def agJ(cs:List af):Bool:=zz [] (FT cs)
def Inj(U:List af):Prop:=∀a∈U,∀b∈U,fA a=fA b→a=b
structure StR (A:List af) (U:List af) (q:fM):Prop where
 aV:q.aV=(A.length:Nat)+1
 aJ:∀k∈q.aJ,∃d∈U,k.d=fA d∧Rds (A++[q.str]) k.x d
structure PtR (A U:List af) (p:fM×List Xt) (a:af) (p':fM×List Xt):Prop where
 st:StR A U p'.1
 rd:FR (A++[p'.1.str]) p'.2 a
 grow:∃t,p'.1.str=p.1.str++t
structure aao (st:List af) (e:aT) (c:jK):Prop where
 au:e.au=c.au
 ag:e.ag=c.ag
 size:e.size=(c.aF.length:Nat)
 rd:FR st e.aA c.aF
 small:c.aF.length≤1000
def CE(st:List af):List aT→List jK→Prop
 | [],[]=>True
 |e::l,c::m=>aao st e c∧CE st l m
 |_,_=>False
def Jl(q:fM)(c:jK):fM:=if c.au=1 then(jL q c.aF).1 else q
theorem Xx4:∀{l:List aT} {m:List jK} {q:fM},CE st l m→l.foldl (qE st) q=m.foldl Jl q
 | [],[],_,_=>rfl
 |e::l,c::m,q,⟨h1,h2⟩=>by
  have e1:qE st q e=Jl q c:=by
   unfold qE Jl;rw[h1.au,Xuj h1.rd (by have:=h1.small;omega)]
  rw[List.foldl_cons,List.foldl_cons,e1];exact Xx4 h2
 | [],_::_,_,h=>h.elim
 |_::_,[],_,h=>h.elim
structure DrR (L:List dK) (U:List af) (d:ig) (m:List jK):Prop where
 aB:CE (dN L++[d.aU.str]) d.aB m
 aU:d.aU=m.foldl Jl ⟨(eQ L).aJ,(L.length:Nat)+1,[]⟩
 st:StR (dN L) U d.aU
structure WrR (U:List af) (want:List (List jK)) (L:List dK):Prop where
 len:L.length=want.length
 aB:∀i (h1:i<L.length) (h2:i<want.length),CE (dN L) L[i].aB want[i]
 aJ:∀k∈(eQ L).aJ,∃d∈U,k.d=fA d∧Rds (dN L) k.x d
theorem Xqk(L:List dK)(s:dK):dN (L++[s])=dN L++[s.bC]:=by simp[dN]
theorem Xtj{s:mG}{d:Int}(h:(gq s e d).2=0):bS s.aI e=((gq s e d).1.aI,0)∧appH s.holds e d=((gq s e d).1.holds,0)∧aP e=0:=by
 have he:=(Xqn h).2.2;unfold gq at h ⊢;by_cases h1:(bS s.aI e).2≠0
 ·rw[if_pos h1]at h;exact absurd h h1
 rw[if_neg h1]at h ⊢;by_cases h2:sw s e d≠0
 ·rw[if_pos h2]at h;exact absurd h h2
 rw[if_neg h2]at h ⊢;by_cases h3:(appH s.holds e d).2≠0
 ·rw[if_pos h3]at h;exact absurd h h3
 rw[if_neg h3];exact⟨Prod.ext rfl (by simpa using h1),Prod.ext rfl (by simpa using h3),he⟩
def jy(L:List dK)(k:Nat)(x:dK)(j:Nat):fM:=(x.aB.take j).foldl (qE (dN L)) (jE (qF (dN L) L k) x.num).1
def sN(L:List dK)(k:Nat)(x:dK)(j:Nat):mG:=pK (bY cB (L.take k)) x.aG (x.aB.take j)
theorem Xqm(L:List dK)(k:Nat)(hj:j<x.aB.length)(he:x.aB[j]=e):jy L k x (j+1)=qE (dN L) (jy L k x j) e:=by
 unfold jy;rw[List.take_succ_eq_append_getElem hj,he,List.foldl_append];rfl
theorem Xtk(hk:k<L.length)(hx:L[k]=x):jy L k x x.aB.length=qF (dN L) L (k+1):=by
 rw[Xkw _ hk hx,jy,List.take_length];rfl
theorem Xqi(L:List dK)(k:Nat)(hj:j<x.aB.length)(he:x.aB[j]=e):sN L k x (j+1)=(gq (sN L k x j) e x.aG).1:=Xts hj he
theorem Xth(hk:k<L.length)(hx:L[k]=x):sN L k x x.aB.length=bY cB (L.take (k+1)):=by
 rw[Xva hk hx,sN,List.take_length]
structure ArS (n:Nat) (L:List dK) (k:Nat) (x:dK) (j:Nat) (e:aT):Prop where
 sin:Ab n (sN L k x j)
 stp:(gq (sN L k x j) e x.aG).2=0
 err:aP e=0
 wf:e.Wf
 ag:e.ag.length≤300
 target:e.target.length≤300
 aA:e.aA.length≤1000
 xs:∀y∈e.aA,0≤y.s∧y.s≤(k+1:Nat)
 aU:wD (jy L k x j)
 aJ:(jy L k x j).aJ.length≤10000000
theorem Xu5(h:iD n m L)(hn:n≤150)(hm:m≤254)(hk:k<L.length)(hx:L[k]=x)(hj:j<x.aB.length)(he:x.aB[j]=e):ArS n L k x j e:=by
 have sO:x∈L:=by rw[←hx];exact List.getElem_mem hk
 have hem:e∈x.aB:=by rw[←he];exact List.getElem_mem hj
 have Nz:=h.err sO e hem;have hs:=Rl Nz;have hw:=h.at_ hk hx;have hlen:=h.len;have jk:=Xow (h.Rq hk hx) j hj;rw[he]at jk;have hr:=(h.Vh (by omega) hm (dN L) k (by omega)).begin (by omega);have hp:=Rs hk hx;have ht:=h.tot;have hf:=wV.fold (by omega) (by omega) (dN L) (x.aB.take j) hr.2 (by rw[List.length_take];omega);rw[List.length_take]at hf;have hq:jy L k x j=(x.aB.take j).foldl (qE (dN L)) ⟨(qF (dN L) L k).aJ,(k:Nat)+1,[]⟩:=by
  unfold jy;rw[hw.num,hr.1]
 rw[←hq]at hf;exact⟨h.sin hk hx j (by omega),jk,Nz,Xkj Nz,hs.1,hs.2,hw.aA e hem,fun y hy=>hw.xs e hem y hy,hf.Rt (by omega) (by omega) (by omega),Nat.le_trans hf.aJ (by omega)⟩
theorem Xs3(h:iD n m L)(hn:n≤150)(hm:m≤254)(hk:k<L.length)(hx:L[k]=x):
 jE (qF (dN L) L k) ((k:Nat)+1)=(jy L k x 0,0)∧(qF (dN L) L k).aJ.length≤10000000:=by
 have hw:=h.at_ hk hx;have hlen:=h.len;have Oh:=h.Vh (by omega) hm (dN L) k (by omega);have hr:=Oh.begin (by omega);have hp:=Rs hk hx;have ht:=h.tot;refine⟨?_,Nat.le_trans Oh.aJ (by omega)⟩;unfold jy;rw[hw.num,hr.1];rfl
structure wK (I:IH) (w0:World) (vs:Value) (J:IH) (W:World) (S0:mG) (q:fM) (vk vt vh:Value):Prop where
 at_:mH I w0 J W
 ext:Ext w0.heap.size I J
 Jm:J (w0.heap.size+1)=none
 VO:J (w0.heap.size+2)=none
 box:W.cell? ⟨w0.heap.size,3,none⟩=some vs
 O:W.heap[w0.heap.size+1]?=some (.cells bE 43 (0,0))
 row:W.heap[w0.heap.size+2]?=some (.cells #[.int .i64 0,.int .i64 0,.string ⟨#[]⟩,.slice none 0 0,vk,.int .i64 q.aV,S q.str,vt,vh] 43 (0,0))
 rk:aZ qf J vk q.aJ
 rt:aZ bQ J vt S0.aI
 rh:aZ jB J vh S0.holds
section
variable {I:IH} {w0:World} {vs:Value} {J J':IH} {W W':World} {S0 S1:mG} {q q1:fM} {vk vt vh tN NA NB:Value}
theorem wK.lt(h:wK I w0 vs J W S0 q vk vt vh):w0.heap.size+2<W.heap.size:=(Qg h.row)
theorem wK.aQ(h:wK I w0 vs J W S0 q vk vt vh)(hb:Below W.heap.size W W')(hx:Ext W.heap.size J J')(iQ:Ok J' W'):wK I w0 vs J' W' S0 q vk vt vh:=by
 have hk:=hx.keep h.at_.ok (Qn _);have hs:=h.at_.size;have hlt:=h.lt;exact⟨h.at_.ext hb hx iQ,h.ext.trans hx hs,(hx _ (by omega)).trans h.Jm,(hx _ hlt).trans h.VO,bK hb h.box,(hb.block _ (by omega)).trans h.O,(hb.block _ hlt).trans h.row,h.rk.mono hk,h.rt.mono hk,h.rh.mono hk⟩
theorem wK.quiet(h:wK I w0 vs J W S0 q vk vt vh)(hb:Below W.heap.size W W'):wK I w0 vs J W' S0 q vk vt vh:=h.aQ hb (Ext.refl _ _) (h.at_.ok.below (Qn _) hb)
theorem wK.past(h:wK I w0 vs J W S0 q vk vt vh)(o:Obj):wK I w0 vs J (W.alloc o) S0 q vk vt vh:=h.quiet ((Qb _ _).alloc (Qn _) o)
theorem wK.own(h:wK I w0 vs J W S0 q vk vt vh){row:Option Nat}(hg:W.grownBy W' row)(hr:∀g,row=some g→J g=none∧w0.heap.size+3≤g):wK I w0 vs J W' S0 q vk vt vh:=by
 have hlt:=h.lt;have bn:∀b,b<w0.heap.size+3→row≠some b:=fun b hb e=>by have:=(hr b e).2;omega
 exact⟨⟨h.at_.ok.grown hg fun g e=>(hr g e).1,h.at_.keep,h.at_.eY.grown hg h.at_.size fun g e=>by have:=(hr g e).2;omega⟩,h.ext,h.Jm,h.VO,jo hg (bn w0.heap.size (by omega)) h.box,(hg.block _ (by omega) (fun e=>bn _ (by omega) e.symm)).trans h.O,(hg.block _ hlt (fun e=>bn _ (by omega) e.symm)).trans h.row,h.rk,h.rt,h.rh⟩
theorem wK.put(h:wK I w0 vs J W S0 q vk vt vh)(hg:W.grownBy W' (some (w0.heap.size+2)))
 (hr:W'.heap[w0.heap.size+2]?=some (.cells #[.int .i64 0,.int .i64 0,.string ⟨#[]⟩,.slice none 0 0,tN,.int .i64 q1.aV,S q1.str,NA,NB] 43 (0,0))) (rk:aZ qf J tN q1.aJ) (rt:aZ bQ J NA S1.aI) (rh:aZ jB J NB S1.holds):
 wK I w0 vs J W' S1 q1 tN NA NB:=by
 have hlt:=h.lt;exact⟨⟨h.at_.ok.grown hg fun g e=>by injection e with e;subst e;exact h.VO,h.at_.keep,h.at_.eY.grown hg h.at_.size fun g e=>by injection e with e;omega⟩,h.ext,h.Jm,h.VO,jo hg (by simp) h.box,(hg.block _ (by omega) (fun e=>by injection e with e;omega)).trans h.O,hr,rk,rt,rh⟩
end
theorem aK.Jn{E:TypeId}{I0 J:IH}(h:aK T E I0 w B v l)(h0:∀b,I0 b=none)(hw:Ok J w)(hI:∀g,v.ownBlock=some g→J g=none):
 ∃J',(∀b c,J b=some c→J' b=some c)∧Ok J' w∧aZ T J' v l:=by
 obtain⟨xs,⟨h1,Ei⟩,h2⟩:=h;rcases Ei with⟨rfl,h0'⟩|⟨g,cap,cur,rfl,hb,hg,Ej,fJ,fE,ht⟩
 ·have:l=[]:=List.eq_nil_of_length_eq_zero h0';subst this;exact⟨J,fun _ _ h=>h,hw,aZ.nil T J⟩
 ·have Ow:=hI g (by simp[Value.ownBlock]);have kY:∀b c,J b=some c→(J.add g cur) b=some c:=fun b c hc=>by
   unfold IH.add;by_cases e:b=g
   ·subst e;rw[Ow]at hc;cases hc
   ·rw[if_neg e];exact hc
  refine⟨J.add g cur,kY,hw.add hg,⟨_,cap,rfl,Ej,fJ,fun _=>⟨g,0,cur,rfl,by simp[IH.add],fun i hi=> ?_⟩⟩⟩;obtain⟨cs,k1,k2⟩:=h2.2 i hi;refine⟨cs,T.mono (fun b c hc=>by rw[h0 b]at hc;cases hc) k1,fun j u hu=> ?_⟩;have hx:=k2 j u hu;rw[←ht,List.getElem?_take]at hx;split at hx
  ·rw[Nat.zero_add,←Array.getElem?_toList];exact hx
  ·cases hx
theorem KR{P:Program}{I:IH}{ts te:TypeId}{bytes:Nat}(hE:dS P ts te T bytes){ops:Array Oper}{rest:List Oper}{o:Oper}{a:Act}{Q:Exit→Act→World→Prop}(yg:o.guard=none)(s x:Operand)
 (ho:o.op= .call {callee:= .builtin .append,args:=#[s,x],argTypes:=#[ts,ts]})    (hs:a.eval s=v) (bg:aK T te I w B v l) {vx:Value} {ys:List α} (hx:a.eval x=vx) (hy:iV T I w vx ys)
 (fO:(l.length+ys.length)*bytes≤140737488355328) (hl:l.length+ys.length≤9223372036854775807) (hB:B≤w.heap.size)
 (h:∀v' w',aK T te I w' B v' (l++ys)→w.grownBy w' v.ownBlock→(∀g,v'.ownBlock=some g→v.ownBlock=some g∨w.heap.size≤g)→wpList P ops Q rest (a.put o.dst v') w'):wpList P ops Q (o::rest) a w:=
 wpList_plain yg fun _ hK=>Mt hE s x ho hs bg hx hy fO hl hB fun v' w' h1 h2 h3=>hK _ _ (h v' w' h1 h2 h3)
theorem mD.own{w':World}{s:dK}{ve:Value}{row:Option Nat}(h:mD w n s ve)(hg:w.grownBy w' row)(bn:row≠some n):mD w' n s ve:=
 ⟨jo hg bn h.c0,jo hg bn h.c1,jo hg bn h.c2,jo hg bn h.c3,jo hg bn h.c4,jo hg bn h.c5⟩
theorem Xqj(L:List dK)(k:Nat):dN (L.take k)=(dN L).take k:=by unfold dN;rw[List.map_take]
theorem Xql(hk:k<L.length)(hx:L[k]=x):dN (L.take (k+1))=dN (L.take k)++[x.bC]:=by
 rw[List.take_succ_eq_append_getElem hk,hx,Xqk]
def SK(I:IH)(w:World)(L:List dK)(r:Ending)(w':World):Prop:=
 ∃vk vt vh J,r= .returned (gU ⟨0,0,[],[],eQ L,(bY cB L).aI,(bY cB L).holds⟩ (.slice none 0 0) vk vt vh)∧Below w.heap.size w w'∧Ext w.heap.size I J∧Ok J w'∧aZ qf J vk (eQ L).aJ∧aZ bQ J vt (bY cB L).aI∧aZ jB J vh (bY cB L).holds
theorem Xqp(I:IH)(hI:eG I)(ai dt sp:Int)(L:List dK)(h:iD n m L)(hn:n≤150)(hm:m≤254)(vs:Value)(pY:aZ AJ I vs L)(w:World)(hw:Ok I w):
 Calls Tryz.prog 60 #[qH ai dt sp vs] w (SK I w L):=by
 have hlen:=h.len;have HA:=Qh h;have HG:=Qh hI;have Cf:=Qh pY;have si:=Qh (show(Tryz.prog.info? 43).map (·.size)=some 9 by kernel_rfl);obtain⟨so,sc,rfl,_,_,_⟩:=id pY;obtain⟨W3,Gi⟩:∃W3,(((w.alloc (.cells #[.int .u32 ai,.int .i64 dt,.int .i64 sp,.slice so L.length sc] 63)).alloc (.cells bE 43)).alloc (.cells bE 43))=W3:=⟨_,rfl⟩;obtain⟨pJ,Ji,G7,pz⟩:=Xev w _ _ _ _ _ _ W3 Gi;have A3:=Qh (show mH I w I W3 by rw[←Gi];exact(((mH.start hw).past _).past _).past _);have z3:W3.cell? ⟨w.heap.size,3,none⟩=some (.slice so L.length sc):=(cell_of_row _ _ 3 _ _ _ Ji).trans rfl
 have M0:=Qh (show wK I w (.slice so L.length sc) I W3 cB IZ (.slice none 0 0) (.slice none 0 0) (.slice none 0 0)from
  ⟨A3.O,Ext.refl _ _,hw.fresh (by omega),hw.fresh (by omega),z3,G7,pz,aZ.nil _ _,aZ.nil _ _,aZ.nil _ _⟩)
 clear h hI pY Ji G7 pz A3;go_enter Tryz.func60,Tryz.ntmps60
 go_wp2_with fail
 clear Gi z3;go_loopw [4,18] (fun s4 s18 wr=> ∃(k:Nat) (J:IH) (vk vt vh:Value),k≤L.length∧s18= .int .i64 k∧aK iE 9 (fun _=>none) wr (w.heap.size+3) s4 (dN (L.take k))∧(∀g,s4.ownBlock=some g→J g=none)∧wK I w (.slice so L.length sc) J wr (bY cB (L.take k)) (qF (dN L) L k) vk vt vh) (fun _ i _=>L.length-(intOf i).toNat)
 case atStart=>exact⟨0,I,_,_,_,Nat.zero_le _,rfl,aK.nil _ _ _ _ _,fun g e=>by simp[Value.ownBlock]at e,M0.O⟩
 case round=>
  clear M0;obtain⟨k,J,vk,vt,vh,hk,rfl,hO,wM,hM⟩:=hrel;have M:=Qh hM;have HO:=Qh hO;have yH:=Qh wM;clear hM hO wM;by_cases hlt:k<L.length
  ·obtain⟨x,ve,b,off,cap',dA,cZ,⟨c0,c1,c2,c3,c4,c5⟩,h1⟩:=YK (Cf.O.mono M.O.at_.keep) M.O.at_.ok k hlt;cases cZ;have qM:=Qh dA;have xm:x.aB.length≤150:=Nat.le_trans (HA.O.aB (by rw[←dA];exact List.getElem_mem hlt)) hn;have Hb:=Qh (Xs3 HA.O hn hm hlt dA);have Hve:=Qh h1;obtain⟨eo,ec,rfl,_,_,_⟩:=id h1;have m1:IntKind.i64.wrap ((k:Int)+1)=(k:Int)+1:=IntWalk.i64_in _ (by omega);have CR:(dN (L.take k)).length=k:=by simp[dN];omega
   have Vr:=Qh CR;have Wv:=M.O.at_.size;have hMl:=M.O.lt;clear dA h1 CR
   go_wp2_with (at_builtin
                refine KR Ql rfl _ _ rfl (B:=w.heap.size+3) rfl ((HO.O.alloc _).alloc _) (vx:= .slice (some ⟨(wr.alloc (.cells #[.int .i64 x.num,.int .i64 x.aG,S x.bR,.slice eo x.aB.length ec,S x.bC,S x.sl] 76)).heap.size,0,none⟩) 1 1) (by simp[Act.eval]) (iV.jR (T:=iE) (x:=x.bC) (cs:=[S x.bC]) rfl (fun j u hu=>by rw[World.cell?_alloc_new];simpa using hu)) (by rw[Vr.O];simp;omega) (by rw[Vr.O];simp;omega) (by simp;omega) ?_;intro v5 w5 RU hg5 WA;have M5:=Qh (((M.O.past (.cells #[.int .i64 x.num,.int .i64 x.aG,S x.bR,.slice eo x.aB.length ec,S x.bC,S x.sl] 76)).past (.cells #[S x.bC] 9)).own hg5 (fun g e=>⟨yH.O g e,HO.O.qo e⟩));have VP:=M5.O.row;have z4:w5.cell? ⟨w.heap.size+2,4,none⟩=some vk:=(cell_of_row _ _ 4 _ _ _ VP).trans rfl;have z5:w5.cell? ⟨w.heap.size+2,5,none⟩=some (.int .i64 (qF (dN L) L k).aV):=(cell_of_row _ _ 5 _ _ _ VP).trans rfl;have z6:w5.cell? ⟨w.heap.size+2,6,none⟩=some (S (qF (dN L) L k).str):=(cell_of_row _ _ 6 _ _ _ VP).trans rfl)
   have HO5:=Qh (show aK iE 9 (fun _=>none) w5 (w.heap.size+3) v5 (dN (L.take (k+1))) by rw[Xql hlt qM.O];exact RU);have SL:∀g,v5.ownBlock=some g→J g=none:=fun g e=>(WA g e).elim (yH.O g) (fun q=>M.O.at_.ok.fresh (by simp at q;omega));have Lh:=hg5.size;rw[World.size_alloc,World.size_alloc]at Lh;have SB5:=Qh (mD.own ((Ri (W:=wr) (s:=x) (ve:= .slice eo x.aB.length ec) (t:=76) rfl (Qb _ _)).past (.cells #[S x.bC] 9)) hg5 (HO.O.nP (Qn _)));have yV:=Qh (Xoo J (qF (dN L) L k) vk M5.O.rk (by have:=Hb.O.2;omega) ((k:Int)+1) w5 M5.O.at_.ok);rw[Hb.O.1]at yV;clear RU hg5 WA M HO yH c0 c1 c2 c3 c4 c5;refine yV.O.mono ?_;rintro e6 w6 ⟨SN,J6,rfl,fF,Ew,iO,NC⟩;obtain⟨ak6,ck6,rfl,_,_,_⟩:=id NC;have M6:=Qh (M5.O.aQ fF Ew iO);have HO6:=Qh (HO5.O.below fF);have aat:∀g,v5.ownBlock=some g→J6 g=none:=fun g e=>(Ew g (zZ HO5.O e).2).trans (SL g e);have SB6:=Qh (SB5.O.aQ fF);have aav:=Qh (Hve.O.mono (fun b c hc=>Ew.keep M5.O.at_.ok (Qn _) b c (hc)));have OO:=fF.size;have hM6:=M6.O.row;clear M5 z4 z5 z6 VP yV fF Ew iO HO5 SL SB5 Hve
   go_wp2_with (refine kC rfl rfl 40 _ _ rfl (w.heap.size+2) 4 [.slice ak6 (jy L k x 0).aJ.length ck6,.int .i64 (jy L k x 0).aV,S (jy L k x 0).str] (fH (jy L k x 0) (.slice ak6 (jy L k x 0).aJ.length ck6)) (by simp[Act.eval]) (by simp[Act.eval]) (by rfl) _ 43 hM6 (by simp) (by kernel_rfl) (by simp[Value.oneCell']) #[.int .i64 0,.int .i64 0,.string ⟨#[]⟩,.slice none 0 0,.slice ak6 (jy L k x 0).aJ.length ck6,.int .i64 (jy L k x 0).aV,S (jy L k x 0).str,vt,vh] (by rfl) ?_
                intro w7 gL nM;have d3:=(SB6.O.own gL (by simp;omega)).c3)
   have M7:=Qh (M6.O.put (S1:=sN L k x 0) gL nM NC M6.O.rt M6.O.rh);have HO7:=Qh (HO6.O.kept gL (.inr (HO6.O.cK (by omega))));have SB7:=Qh (SB6.O.own gL (by simp;omega));have zP:=gL.size;obtain⟨n6,O3⟩:∃n6,n6=wr.heap.size:=⟨_,rfl⟩;rw[←O3]at SB7 ⊢;have apT:w.heap.size+3≤n6∧n6<w7.heap.size:=by omega
   clear d3 hM6 gL nM M6 HO6 SB6 NC O3 Lh OO zP;go_loopw [40] (fun s40 wr=> ∃(j:Nat) (K:IH) (vk vt vh:Value),j≤x.aB.length∧s40= .int .i64 j∧aK iE 9 (fun _=>none) wr (w.heap.size+3) v5 (dN (L.take (k+1)))∧(∀g,v5.ownBlock=some g→K g=none)∧(∀b c,J6 b=some c→K b=some c)∧mD wr n6 x (.slice eo x.aB.length ec)∧wK I w (.slice (some ⟨b,off,none⟩) L.length sc) K wr (sN L k x j) (jy L k x j) vk vt vh) (fun i _=>x.aB.length-(intOf i).toNat)
   case atStart=>exact⟨0,J6,_,_,_,Nat.zero_le _,rfl,HO7.O,aat,fun _ _ h=>h,SB7.O,M7.O⟩
   case round=>
    clear M7 HO7 SB7;obtain⟨j,K,vk,vt,vh,hj,rfl,hO,wM,PR,SQ,hM⟩:=hrel;have M:=Qh hM;have HO:=Qh hO;have yH:=Qh wM;have Jo:=Qh PR;have SB:=Qh SQ;clear hM hO wM PR SQ;by_cases BL:j<x.aB.length
    ·obtain⟨e,va,vx,b2,EL,cap2,CL,cZ,⟨c0,c1,c2,c3,c4,c5,c6⟩,h2,h3⟩:=yu (aav.O.mono Jo.O) M.O.at_.ok j BL;cases cZ;obtain⟨aa,ca,rfl,_,_,_⟩:=id h2;obtain⟨ax,cx,rfl,_,_,_⟩:=id h3;have Hs:=Qh (Xu5 HA.O hn hm hlt qM.O BL CL);have Hq:=Qh (Xqm L k BL CL);have Ht:=Qh (Xqi L k BL CL);obtain⟨kt,kh,ke⟩:=Xtj Hs.O.stp;have Hkt:=Qh kt;have Hkh:=Qh kh;have Hke:=Qh ke;have Hra:=Qh h2;have Hrx:=Qh h3;have hwM:=M.O.lt;clear CL h2 h3 kt kh ke;obtain⟨n8,SS⟩:∃n8,n8=wr.heap.size:=⟨_,rfl⟩;go_upto_if 46 with fail
     have EB:=Qh (dx (W:=wr) (e:=e) (va:= .slice aa e.aj.length ca) (vx:= .slice ax e.aA.length cx) (t:=81) SS (Qb _ _));rw[←SS];obtain⟨wA,hwA⟩:∃wA,wr.alloc (.cells #[.int .i64 e.au,S e.ag,.slice aa e.aj.length ca,S e.target,.int .i64 e.size,S e.av,.slice ax e.aA.length cx] 81)=wA:=⟨_,rfl⟩;rw[hwA]at EB ⊢;have MA:=Qh (M.O.past (.cells #[.int .i64 e.au,S e.ag,.slice aa e.aj.length ca,S e.target,.int .i64 e.size,S e.av,.slice ax e.aA.length cx] 81));have Py:=Qh (HO.O.alloc (.cells #[.int .i64 e.au,S e.ag,.slice aa e.aj.length ca,S e.target,.int .i64 e.size,S e.av,.slice ax e.aA.length cx] 81));have SV:=Qh (SB.O.past (.cells #[.int .i64 e.au,S e.ag,.slice aa e.aj.length ca,S e.target,.int .i64 e.size,S e.av,.slice ax e.aA.length cx] 81));rw[hwA]at MA Py SV;have aaz:w.heap.size+3≤n8:=by omega
     clear hwA M HO SB c0 c1 c2 c3 c4 c5 c6 SS;have SX:=MA.O.row;have z4:wA.cell? ⟨w.heap.size+2,4,none⟩=some vk:=(cell_of_row _ _ 4 _ _ _ SX).trans rfl;have z5:wA.cell? ⟨w.heap.size+2,5,none⟩=some (.int .i64 (jy L k x j).aV):=(cell_of_row _ _ 5 _ _ _ SX).trans rfl;have z6:wA.cell? ⟨w.heap.size+2,6,none⟩=some (S (jy L k x j).str):=(cell_of_row _ _ 6 _ _ _ SX).trans rfl;go_cut [9,10] (fun s9 s10 wx=> ∃(K':IH) (tN:Value),aK iE 9 (fun _=>none) wx (w.heap.size+3) v5 (dN (L.take (k+1)))∧(∀g,v5.ownBlock=some g→K' g=none)∧(∀b c,K b=some c→K' b=some c)∧mD wx n6 x (.slice (some ⟨b2,EL,none⟩) x.aB.length ec)∧bB wx n8 e (.slice aa e.aj.length ca) (.slice ax e.aA.length cx)∧wK I w (.slice (some ⟨b,off,none⟩) L.length sc) K' wx (sN L k x j) (qE (dN L) (jy L k x j) e) tN vt vh)
     case first=>
      by_cases vZ:e.au=1;case neg=>
       have f1:(e.au==1)=false:=by simpa using vZ
       have Hn:=Qh (show qE (dN L) (jy L k x j) e=jy L k x j from if_neg vZ);clear vZ;go_wp2_with fail
       go_meet;exact⟨K,vk,Py.O,yH.O,fun _ _ h=>h,SV.O,EB.O,by rw[Hn.O];exact MA.O⟩
      case pos=>
       have f1:(e.au==1)=true:=by simpa using vZ
       obtain⟨ct,cn,WC⟩:∃ct cn,wu (dN L) e.aA=(ct,cn):=⟨_,_,rfl⟩;have dC:ct.length≤65536:=by have:=Xod (dN L) e.aA;rw[WC]at this;exact this
       obtain⟨q2,xs2,n2,uF⟩:∃q2 xs2 n2,jL (jy L k x j) ct=(q2,xs2,n2):=⟨_,_,_,rfl⟩;have Hn:=Qh (show qE (dN L) (jy L k x j) e=q2 by rw[qE,if_pos vZ,WC,uF]);obtain⟨K9,VN,tY,jX⟩:=Py.O.Jn (fun _=>rfl) MA.O.at_.ok yH.O;have Nv:=Qh (Xxn K9 v5 (.slice ax e.aA.length cx) (dN (L.take (k+1))) e.aA jX (Hrx.O.mono VN) (fun s hs=>by
        obtain⟨y,hy,rfl⟩:=List.mem_map.1 hs;obtain⟨i,hi,he⟩:=List.getElem_of_mem (List.mem_of_mem_take hy);have:=(HA.O.at_ hi he).bC;omega) wA tY)
       rw[Xqj,Xr4 (dN L) (k+1) Hs.O.xs (by simp[dN];omega),WC]at Nv;have Hpu:=Qh (fun w hw=>(by
        have Gh:=Hs.O.aU;have:=Xvi 4294901760 10000000 (by decide) (by decide) K (jy L k x j) vk MA.O.rk ⟨by have:=Gh.s0;omega,by have:=Gh.s1;omega,Gh.str,Hs.O.aJ,fun k hk=>(Gh.cx k hk).x⟩ (fun k hk=>(Gh.cx k hk).d) ct (by omega) w hw;rwa[uF]at this:Calls Tryz.prog 103 #[fH (jy L k x j) vk,S ct] w (Fy K w (q2,xs2,n2))))
       have x6:=EB.O.c6;clear vZ WC uF VN tY jX;go_wp2_with fail
       refine Nv.O.mono ?_;rintro e10 oF ⟨rfl,mE⟩;have yc:=Qh (MA.O.quiet mE);have Jp:=yc.O.row;have z4:oF.cell? ⟨w.heap.size+2,4,none⟩=some vk:=(cell_of_row _ _ 4 _ _ _ Jp).trans rfl;have z5:oF.cell? ⟨w.heap.size+2,5,none⟩=some (.int .i64 (jy L k x j).aV):=(cell_of_row _ _ 5 _ _ _ Jp).trans rfl;have z6:oF.cell? ⟨w.heap.size+2,6,none⟩=some (S (jy L k x j).str):=(cell_of_row _ _ 6 _ _ _ Jp).trans rfl;have FU:=Qh (Py.O.below mE);have SY:=Qh (SV.O.aQ mE);have S9:=Qh (EB.O.aQ mE);clear mE Nv MA Py SV EB SX x6;go_wp2_with fail
       refine(Hpu.O oF yc.O.at_.ok).mono ?_;rintro e11 wJ ⟨apV,apW,K11,rfl,oO,Jq,qi,KS,Ta⟩;obtain⟨ak,ck,rfl,_,_,_⟩:=id KS;obtain⟨ay,cy,rfl,_,_,_⟩:=id Ta;have GA:=Qh (yc.O.aQ oO Jq qi);have aaB:=GA.O.row;have SS:=block_lt_of_cell S9.O.c0;have O3:=block_lt_of_cell SY.O.c0;have Tc:=Qh (FU.O.below oO);have aaC:=Qh (SY.O.aQ oO);have Bh:=Qh (S9.O.aQ oO);have Td:∀g,v5.ownBlock=some g→K11 g=none:=fun g e=>(Jq g (zZ FU.O e).2).trans (yH.O g e);have aaD:=Jq.keep yc.O.at_.ok (Qn _);clear oO Jq qi yc Jp z4 z5 z6 Hpu
       go_wp2_with (refine kC rfl rfl 40 _ _ rfl (w.heap.size+2) 4 [.slice ak q2.aJ.length ck,.int .i64 q2.aV,S q2.str] (fH q2 (.slice ak q2.aJ.length ck)) (by simp[Act.eval]) (by simp[Act.eval]) (by rfl) _ 43 aaB (by simp) (by kernel_rfl) (by simp[Value.oneCell']) #[.int .i64 0,.int .i64 0,.string ⟨#[]⟩,.slice none 0 0,.slice ak q2.aJ.length ck,.int .i64 q2.aV,S q2.str,vt,vh] (by rfl) ?_
                    intro VJ l6 FP)
       go_meet;have apX:w.heap.size+3≤n8:=aaz;rw[Hn.O]
       exact⟨K11,_,Tc.O.kept l6 (.inr (Tc.O.cK (by omega))),Td,aaD,aaC.O.own l6 (by simp;omega),⟨jo l6 (by simp;omega) Bh.O.c0,jo l6 (by simp;omega) Bh.O.c1,jo l6 (by simp;omega) Bh.O.c2,jo l6 (by simp;omega) Bh.O.c3,jo l6 (by simp;omega) Bh.O.c4,jo l6 (by simp;omega) Bh.O.c5,jo l6 (by simp;omega) Bh.O.c6⟩,
        GA.O.put l6 FP KS GA.O.rt GA.O.rh⟩
     case rest=>
     obtain⟨K',tN,hO,wM,Ox,SQ,hEB,hM⟩:=hcut;have M1:=Qh hM;have HO1:=Qh hO;have Te:=Qh wM;have Hk1:=Qh (fun b c hc=>Ox b c (Jo.O b c hc));have SB1:=Qh SQ;have Gv:=Qh hEB;have Tf:=Qh (Hra.O.mono Ox);have Tg:=Qh (Hrx.O.mono Ox);clear hM hO wM Ox SQ hEB MA Py SV EB z4 z5 z6 SX yH Jo Hra Hrx;obtain⟨S1,hS1⟩:∃S1,(gq (sN L k x j) e x.aG).1=S1:=⟨_,rfl⟩;obtain⟨q1,rV⟩:∃q1,qE (dN L) (jy L k x j) e=q1:=⟨_,rfl⟩;rw[hS1]at Hkt Hkh Ht;rw[rV]at Hq M1;have FM:=Qh (Xol K' (HG.O.mono M1.O.at_.keep) vt (sN L k x j).aI M1.O.rt Hs.O.sin.IX Hs.O.sin.ok.aI.BN (by have:=Hs.O.sin.ok.C8;omega) e _ _ Tf.O Tg.O Hs.O.wf (by have:=Hs.O.ag;omega) (by have:=Hs.O.target;omega) _ M1.O.at_.ok);rw[Hkt.O]at FM;obtain⟨VQ,VR,rfl,_,_,_⟩:=id M1.O.rt;obtain⟨x0,x1,x2,x3,x4,x5,x6⟩:=Gv.O;have z7:wc.cell? ⟨w.heap.size+2,7,none⟩=some _:=(cell_of_row _ _ 7 _ _ _ M1.O.row).trans rfl;clear hS1 rV;go_wp2_with fail
     refine FM.O.mono ?_;rintro e2 w2 ⟨vt2,K2,rfl,aL,oQ,aX,Jr⟩;obtain⟨at2,VS,rfl,_,_,_⟩:=id Jr;have M2:=Qh (M1.O.aQ aL oQ aX);have HO2:=Qh (HO1.O.below aL);have O3:=block_lt_of_cell SB1.O.c0;have SS:=block_lt_of_cell Gv.O.c0;have SB2:=Qh (SB1.O.aQ aL);have KT:=Qh (Gv.O.aQ aL);have yD:=oQ.keep M1.O.at_.ok (Qn _);have Ti:=Qh (show ∀g,v5.ownBlock=some g→K2 g=none from fun g e=>(oQ g (zZ HO1.O e).2).trans (Te.O g e));have Hk2:=Qh (fun b c hc=>yD b c (Hk1.O b c hc));have hM2:=M2.O.row;have rU:=aL.size;clear x0 x1 x2 x3 x4 x5 x6 z7 FM aL oQ aX M1 HO1 SB1 Gv Te Hk1
     go_wp2_with (refine kC rfl rfl 37 _ _ rfl (w.heap.size+2) 7 [.slice at2 S1.aI.length VS] (.slice at2 S1.aI.length VS) (by simp[Act.eval]) (by simp[Act.eval]) (by rfl) _ 43 hM2 (by simp) (by kernel_rfl) (by simp[Value.oneCell']) #[.int .i64 0,.int .i64 0,.string ⟨#[]⟩,.slice none 0 0,tN,.int .i64 q1.aV,S q1.str,.slice at2 S1.aI.length VS,vh] (by rfl) ?_
                  intro w3 tX tV;have z8:w3.cell? ⟨w.heap.size+2,8,none⟩=some vh:=(cell_of_row _ _ 8 _ _ _ tV).trans rfl;have x0:=jo tX (by simp;omega) KT.O.c0;have x1:=jo tX (by simp;omega) KT.O.c1;have x2:=jo tX (by simp;omega) KT.O.c2;have x3:=jo tX (by simp;omega) KT.O.c3;have x4:=jo tX (by simp;omega) KT.O.c4;have x5:=jo tX (by simp;omega) KT.O.c5;have x6:=jo tX (by simp;omega) KT.O.c6;have y1:=(SB2.O.own tX (by simp;omega)).c1)
     have M3:=Qh (M2.O.put (S1:=⟨S1.aI,(sN L k x j).holds⟩) tX tV M2.O.rk Jr M2.O.rh);have HO3:=Qh (HO2.O.kept tX (.inr (HO2.O.cK (by omega))));have SB3:=Qh (SB2.O.own tX (by simp;omega));have xq:=tX.size;have kK:=Qh (Xnw K2 (HG.O.mono M3.O.at_.keep) vh (sN L k x j).holds M3.O.rh Hs.O.sin.ok.holds (by have:=Hs.O.sin.ok.hlen;omega) e _ _ (Tf.O.mono yD) (Tg.O.mono yD) Hs.O.err x.aG w3 M3.O.at_.ok);rw[Hkh.O]at kK;clear tX tV M2 HO2 SB2 KT hM2;refine kK.O.mono ?_;rintro e4 w4 ⟨vh4,K4,rfl,aR,rT,bU,Tj⟩;obtain⟨ah4,ch4,rfl,_,_,_⟩:=id Tj;have M4:=Qh (M3.O.aQ aR rT bU);have HO4:=Qh (HO3.O.below aR);have SB4:=Qh (SB3.O.aQ aR);have BG:=rT.keep M3.O.at_.ok (Qn _);have aaL:=Qh (show ∀g,v5.ownBlock=some g→K4 g=none from fun g e=>(rT g (zZ HO3.O e).2).trans (Ti.O g e));have hM4:=M4.O.row;have DX:=aR.size;clear x0 x1 x2 x3 x4 x5 x6 z8 y1 kK aR rT bU M3 HO3 SB3 Ti
     go_wp2_with (refine kC rfl rfl 41 _ _ rfl (w.heap.size+2) 8 [.slice ah4 S1.holds.length ch4] (.slice ah4 S1.holds.length ch4) (by simp[Act.eval]) (by simp[Act.eval]) (by rfl) _ 43 hM4 (by simp) (by kernel_rfl) (by simp[Value.oneCell']) #[.int .i64 0,.int .i64 0,.string ⟨#[]⟩,.slice none 0 0,tN,.int .i64 q1.aV,S q1.str,.slice at2 S1.aI.length VS,.slice ah4 S1.holds.length ch4] (by rfl) ?_
                  intro w5 hg5 wY)
     go_roundw
     case rel=>exact⟨j+1,K4,_,_,_,by omega,by go_num,HO4.O.kept hg5 (.inr (HO4.O.cK (by omega))),aaL.O,fun b c hc=>BG b c (Hk2.O b c hc),SB4.O.own hg5 (by simp;omega),
      by rw[Hq.O,Ht.O];exact M4.O.put hg5 wY M4.O.rk M4.O.rt Tj⟩
     case measure=>simp[intOf];omega
    ·have Q0:j=x.aB.length:=by omega
     subst Q0;go_wp2;go_roundw;case rel=>exact⟨k+1,K,_,_,_,by omega,by go_num,HO.O,yH.O,by rw[←Xth hlt qM.O,←Xtk hlt qM.O];exact M.O⟩
     case measure=>simp[intOf];omega
  ·have nY:k=L.length:=by omega
   subst nY;have aS:=M.O.row;have z0:wr.cell? ⟨w.heap.size+2,0,none⟩=some _:=(cell_of_row _ _ 0 _ _ _ aS).trans rfl;have z1:wr.cell? ⟨w.heap.size+2,1,none⟩=some _:=(cell_of_row _ _ 1 _ _ _ aS).trans rfl;have z2:wr.cell? ⟨w.heap.size+2,2,none⟩=some _:=(cell_of_row _ _ 2 _ _ _ aS).trans rfl;have z3:wr.cell? ⟨w.heap.size+2,3,none⟩=some _:=(cell_of_row _ _ 3 _ _ _ aS).trans rfl;have z4:wr.cell? ⟨w.heap.size+2,4,none⟩=some _:=(cell_of_row _ _ 4 _ _ _ aS).trans rfl;have z5:wr.cell? ⟨w.heap.size+2,5,none⟩=some _:=(cell_of_row _ _ 5 _ _ _ aS).trans rfl;have z6:wr.cell? ⟨w.heap.size+2,6,none⟩=some _:=(cell_of_row _ _ 6 _ _ _ aS).trans rfl;have z7:wr.cell? ⟨w.heap.size+2,7,none⟩=some _:=(cell_of_row _ _ 7 _ _ _ aS).trans rfl;have z8:wr.cell? ⟨w.heap.size+2,8,none⟩=some _:=(cell_of_row _ _ 8 _ _ _ aS).trans rfl;have hl:=M.O.lt;rw[List.take_length,YU]at M;rw[YU]at z5 z6 aS;obtain⟨ak,ck,rfl,_,_,_⟩:=id M.O.rk;obtain⟨at',yC,rfl,_,_,_⟩:=id M.O.rt;obtain⟨ah,ch,rfl,_,_,_⟩:=id M.O.rh;have iT:=M.O.O;clear aS
   go_wp2_with (refine kC rfl rfl 43 _ _ rfl (w.heap.size+1) 0 (dz ⟨0,0,[],[],eQ L,(bY cB L).aI,(bY cB L).holds⟩ (.slice none 0 0) (.slice ak (eQ L).aJ.length ck) (.slice at' (bY cB L).aI.length yC) (.slice ah (bY cB L).holds.length ch)) (gU ⟨0,0,[],[],eQ L,(bY cB L).aI,(bY cB L).holds⟩ (.slice none 0 0) (.slice ak (eQ L).aJ.length ck) (.slice at' (bY cB L).aI.length yC) (.slice ah (bY cB L).holds.length ch)) (by simp[Act.eval]) (by simp[Act.eval]) (by rfl) _ 43 iT (by simp) (by kernel_rfl) (by simp[Value.oneCell']) (dz ⟨0,0,[],[],eQ L,(bY cB L).aI,(bY cB L).holds⟩ (.slice none 0 0) (.slice ak (eQ L).aJ.length ck) (.slice at' (bY cB L).aI.length yC) (.slice ah (bY cB L).holds.length ch)).toArray (by rfl) ?_
                intro w9 bP jX)
   refine bodyPost_ret (results_cell_row rfl _ _ (w.heap.size+1) _ (dz ⟨0,0,[],[],eQ L,(bY cB L).aI,(bY cB L).holds⟩ (.slice none 0 0) (.slice ak (eQ L).aJ.length ck) (.slice at' (bY cB L).aI.length yC) (.slice ah (bY cB L).holds.length ch)).toArray (0,0) _ rfl jX Tryz.underlying43 rfl si.O) rfl ?_;exact⟨_,_,_,J,rfl,M.O.at_.eY.grown bP M.O.at_.size (fun k e=>by injection e with e;omega),M.O.ext,M.O.at_.ok.grown bP (fun g e=>by injection e with e;subst e;exact M.O.Jm),M.O.rk,M.O.rt,M.O.rh⟩
