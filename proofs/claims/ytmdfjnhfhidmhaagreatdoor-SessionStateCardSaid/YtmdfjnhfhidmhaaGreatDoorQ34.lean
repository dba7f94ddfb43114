/- Lemmas for the claim's theorem;conditions: as each says. -/
import Derived.Test.YtmdfjnhfhidmhaaGreatDoorQ33
set_option maxHeartbeats 0
set_option maxRecDepth 100000
set_option linter.all false
namespace Go.Proofs.YtmdfjnhfhidmhaaGreatDoor
open Go.RowKit
variable{x:bu}{L:List bu}{k:Nat}{e:aQ}{n:Nat}{st:List af}{j m:Nat}{w:World}{α:Type}{T:Ty α}{B:Nat}{v:Value}{l:List α}
def Tq(st:List af)(x:Xt)(d:af):Prop:=
 (x.s=0∧x.o=0∧0≤x.n∧d=List.replicate x.n.toNat 0)∨
 (1≤x.s∧x.s≤st.length∧0≤x.o∧0≤x.n∧x.o+x.n≤(iI st x).length∧d=((iI st x).drop x.o.toNat).take x.n.toNat)
def zY(st:List af):List Xt→af→Prop
 | [],d=>d=[]
 |x::l,d=> ∃a b,d=a++b∧Tq st x a∧zY st l b
theorem Tq.len {st:List af} {x:Xt} {d:af} (h:Tq st x d):0≤x.n∧(d.length:Int)=x.n:=by
 rcases h with ⟨_,_,h,rfl⟩|⟨_,_,h0,h1,h2,rfl⟩
 ·rw [List.length_replicate];omega
 ·rw [List.length_take,List.length_drop];omega
theorem Xk8:∀{l:List Xt} {d out:af},zY st l d→out.length+d.length≤65536→jP st l out=(out++d,0)
 | [],d,out,h,_=>by
   have h:d=[]:=h;subst h;rw[List.append_nil];rfl
 |x::l,d,out,⟨a,b,e,h1,h2⟩,hl=>by
  subst e;rw[List.length_append]at hl;have hn:=h1.len;have ih:=Xk8 (out:=out++a) h2 (by rw[List.length_append];omega);rw[List.append_assoc]at ih;rw[jP];rcases h1 with⟨z0,z1,z2,rfl⟩|⟨z0,z1,z2,z3,z4,rfl⟩
  ·rw[if_neg (by rw[Ov (by omega) (by omega) (by omega) (by omega) (by omega)];decide),if_neg (by omega),if_neg (by omega),if_pos z0];exact ih
  ·rw[if_neg (by rw[Ov (by omega) (by omega) (by omega) (by omega) (by omega)];decide),if_neg (by omega),if_neg (by omega),if_neg (by omega)];exact ih
theorem Xqd{l:List Xt}{d:af}(h:zY st l d)(hl:d.length≤65536):qQ st l=(d,0):=by
 have:=Xk8 (out:=[]) h (by simpa using hl);simpa[qQ]using this
def Tt(st st':List af):Prop:=st.length≤st'.length∧ ∀i:Nat,i<st.length→ ∃t,st'.getD i []=st.getD i []++t
def aih(g:Sg):af:=if g.d=[]then List.replicate g.n.toNat 0 else g.d
def zZ(cs:List af):List af:=cs.flatMap fun c=>(gX c).flatMap fun g=>bN g.d
def uM:List af→List af→Bool
 |_,[]=>false
 |pre,c::l=>(pre.any fun p=>dA p==dA c&&p !=c) || uM (pre++[c]) l
def aac(cs:List af):Bool:=uM [] (zZ cs)
def Inj(U:List af):Prop:=∀a∈U,∀b∈U,dA a=dA b→a=b
structure StR (A:List af) (U:List af) (q:dX):Prop where
 aW:q.aW=(A.length:Nat)+1
 aM:∀k∈q.aM,∃d∈U,k.d=dA d∧Tq (A++[q.str]) k.x d
structure PtR (A U:List af) (p:dX×List Xt) (a:af) (p':dX×List Xt):Prop where
 st:StR A U p'.1
 rd:zY (A++[p'.1.str]) p'.2 a
 grow:∃t,p'.1.str=p.1.str++t
structure Tu (st:List af) (e:aQ) (c:gy):Prop where
 aj:e.aj=c.aj
 ag:e.ag=c.ag
 size:e.size=(c.aF.length:Nat)
 rd:zY st e.aD c.aF
 small:c.aF.length≤1000
def xh(st:List af):List aQ→List gy→Prop
 | [],[]=>True
 |e::l,c::m=>Tu st e c∧xh st l m
 |_,_=>False
def Cv(q:dX)(c:gy):dX:=if c.aj=1 then(jE q c.aF).1 else q
theorem again:∀{l:List aQ} {m:List gy} {q:dX},xh st l m→l.foldl (mD st) q=m.foldl Cv q
 | [],[],_,_=>rfl
 |e::l,c::m,q,⟨h1,h2⟩=>by
  have e1:mD st q e=Cv q c:=by
   unfold mD Cv;rw[h1.aj,Xqd h1.rd (by have:=h1.small;omega)]
  rw[List.foldl_cons,List.foldl_cons,e1];exact again h2
 | [],_::_,_,h=>h.elim
 |_::_,[],_,h=>h.elim
structure DrR (L:List bu) (U:List af) (d:fP) (m:List gy):Prop where
 aB:xh (bP L++[d.bL.str]) d.aB m
 bL:d.bL=m.foldl Cv ⟨(di L).aM,(L.length:Nat)+1,[]⟩
 st:StR (bP L) U d.bL
structure WrR (U:List af) (want:List (List gy)) (L:List bu):Prop where
 len:L.length=want.length
 aB:∀i (h1:i<L.length) (h2:i<want.length),xh (bP L) L[i].aB want[i]
 aM:∀k∈(di L).aM,∃d∈U,k.d=dA d∧Tq (bP L) k.x d
theorem Xmy(L:List bu)(s:bu):bP (L++[s])=bP L++[s.aV]:=by simp[bP]
theorem Xkq{s:jw}{d:Int}(h:(cZ s e d).2=0):bG s.aK e=((cZ s e d).1.aK,0)∧appH s.aC e d=((cZ s e d).1.aC,0)∧aL e=0:=by
 have he:=(YZ h).2.2;unfold cZ at h ⊢;by_cases h1:(bG s.aK e).2≠0
 ·rw[if_pos h1]at h;exact absurd h h1
 rw[if_neg h1]at h ⊢;by_cases h2:nz s e d≠0
 ·rw[if_pos h2]at h;exact absurd h h2
 rw[if_neg h2]at h ⊢;by_cases h3:(appH s.aC e d).2≠0
 ·rw[if_pos h3]at h;exact absurd h h3
 rw[if_neg h3];exact⟨Prod.ext rfl (by simpa using h1),Prod.ext rfl (by simpa using h3),he⟩
def gq(L:List bu)(k:Nat)(x:bu)(j:Nat):dX:=(x.aB.take j).foldl (mD (bP L)) (gG (mE (bP L) L k) x.num).1
def kJ(L:List bu)(k:Nat)(x:bu)(j:Nat):jw:=iZ (bg bf (L.take k)) x.az (x.aB.take j)
theorem Xm2(L:List bu)(k:Nat)(hj:j<x.aB.length)(he:x.aB[j]=e):gq L k x (j+1)=mD (bP L) (gq L k x j) e:=by
 unfold gq;rw[List.take_succ_eq_append_getElem hj,he,List.foldl_append];rfl
theorem Xpe(hk:k<L.length)(hx:L[k]=x):gq L k x x.aB.length=mE (bP L) L (k+1):=by
 rw[Zg _ hk hx,gq,List.take_length];rfl
theorem Xh6(L:List bu)(k:Nat)(hj:j<x.aB.length)(he:x.aB[j]=e):kJ L k x (j+1)=(cZ (kJ L k x j) e x.az).1:=Xpq hj he
theorem Tv(hk:k<L.length)(hx:L[k]=x):kJ L k x x.aB.length=bg bf (L.take (k+1)):=by
 rw[Xq1 hk hx,kJ,List.take_length]
structure ArS (n:Nat) (L:List bu) (k:Nat) (x:bu) (j:Nat) (e:aQ):Prop where
 sin:u6 n (kJ L k x j)
 stp:(cZ (kJ L k x j) e x.az).2=0
 err:aL e=0
 wf:e.Wf
 ag:e.ag.length≤300
 av:e.av.length≤300
 aD:e.aD.length≤1000
 xs:∀y∈e.aD,0≤y.s∧y.s≤(k+1:Nat)
 bL:qW (gq L k x j)
 aM:(gq L k x j).aM.length≤10000000
theorem Xls(h:cO n m L)(hn:n≤150)(hm:m≤254)(hk:k<L.length)(hx:L[k]=x)(hj:j<x.aB.length)(he:x.aB[j]=e):ArS n L k x j e:=by
 have yu:x∈L:=by rw[←hx];exact List.getElem_mem hk
 have Vp:e∈x.aB:=by rw[←he];exact List.getElem_mem hj
 have FU:=h.err yu e Vp;have hs:=KM FU;have hw:=h.at_ hk hx;have hlen:=h.len;have kN:=Zb (h.KO hk hx) j hj;rw[he]at kN;have hr:=(h.Ot (by omega) hm (bP L) k (by omega)).begin (by omega);have hp:=KP hk hx;have ht:=h.tot;have hf:=rM.fold (by omega) (by omega) (bP L) (x.aB.take j) hr.2 (by rw[List.length_take];omega);rw[List.length_take]at hf;have hq:gq L k x j=(x.aB.take j).foldl (mD (bP L)) ⟨(mE (bP L) L k).aM,(k:Nat)+1,[]⟩:=by
  unfold gq;rw[hw.num,hr.1]
 rw[←hq]at hf;exact⟨h.sin hk hx j (by omega),kN,FU,R8 FU,hs.1,hs.2,hw.aD e Vp,fun y hy=>hw.xs e Vp y hy,hf.KQ (by omega) (by omega) (by omega),Nat.le_trans hf.aM (by omega)⟩
theorem Xoz(h:cO n m L)(hn:n≤150)(hm:m≤254)(hk:k<L.length)(hx:L[k]=x):
 gG (mE (bP L) L k) ((k:Nat)+1)=(gq L k x 0,0)∧(mE (bP L) L k).aM.length≤10000000:=by
 have hw:=h.at_ hk hx;have hlen:=h.len;have Gs:=h.Ot (by omega) hm (bP L) k (by omega);have hr:=Gs.begin (by omega);have hp:=KP hk hx;have ht:=h.tot;refine⟨?_,Nat.le_trans Gs.aM (by omega)⟩;unfold gq;rw[hw.num,hr.1];rfl
structure qZ (I:IH) (w0:World) (vs:Value) (J:IH) (W:World) (S0:jw) (zq:dX) (vk vt vh:Value):Prop where
 at_:lq I w0 J W
 ext:Ext w0.heap.size I J
 xk:J (w0.heap.size+1)=none
 OG:J (w0.heap.size+2)=none
 box:W.cell? ⟨w0.heap.size,3,none⟩=some vs
 q:W.heap[w0.heap.size+1]?=some (.cells dJ 43 (0,0))
 row:W.heap[w0.heap.size+2]?=some (.cells #[.int .i64 0,.int .i64 0,.string ⟨#[]⟩,.slice none 0 0,vk,.int .i64 zq.aW,S zq.str,vt,vh] 43 (0,0))
 rk:aY pY J vk zq.aM
 rt:aY bJ J vt S0.aK
 rh:aY jh J vh S0.aC
section
variable {I:IH} {w0:World} {vs:Value} {J J':IH} {W W':World} {S0 S1:jw} {q q1:dX} {vk vt vh nM Cw Cx:Value}
theorem qZ.lt(h:qZ I w0 vs J W S0 q vk vt vh):w0.heap.size+2<W.heap.size:=(Qg h.row)
theorem qZ.aX(h:qZ I w0 vs J W S0 q vk vt vh)(hb:Below W.heap.size W W')(hx:Ext W.heap.size J J')(iU:Ok J' W'):qZ I w0 vs J' W' S0 q vk vt vh:=by
 have hk:=hx.keep h.at_.ok (Qn _);have hs:=h.at_.size;have hlt:=h.lt;exact⟨h.at_.ext hb hx iU,h.ext.trans hx hs,(hx _ (by omega)).trans h.xk,(hx _ hlt).trans h.OG,bI hb h.box,(hb.block _ (by omega)).trans h.q,(hb.block _ hlt).trans h.row,h.rk.mono hk,h.rt.mono hk,h.rh.mono hk⟩
theorem qZ.quiet(h:qZ I w0 vs J W S0 q vk vt vh)(hb:Below W.heap.size W W'):qZ I w0 vs J W' S0 q vk vt vh:=h.aX hb (Ext.refl _ _) (h.at_.ok.below (Qn _) hb)
theorem qZ.past(h:qZ I w0 vs J W S0 q vk vt vh)(o:Obj):qZ I w0 vs J (W.alloc o) S0 q vk vt vh:=h.quiet ((Qb _ _).alloc (Qn _) o)
theorem qZ.own(h:qZ I w0 vs J W S0 q vk vt vh){row:Option Nat}(hg:W.grownBy W' row)(hr:∀g,row=some g→J g=none∧w0.heap.size+3≤g):qZ I w0 vs J W' S0 q vk vt vh:=by
 have hlt:=h.lt;have aZ:∀b,b<w0.heap.size+3→row≠some b:=fun b hb e=>by have:=(hr b e).2;omega
 exact⟨⟨h.at_.ok.grown hg fun g e=>(hr g e).1,h.at_.keep,h.at_.eD.grown hg h.at_.size fun g e=>by have:=(hr g e).2;omega⟩,h.ext,h.xk,h.OG,iV hg (aZ w0.heap.size (by omega)) h.box,(hg.block _ (by omega) (fun e=>aZ _ (by omega) e.symm)).trans h.q,(hg.block _ hlt (fun e=>aZ _ (by omega) e.symm)).trans h.row,h.rk,h.rt,h.rh⟩
theorem qZ.put(h:qZ I w0 vs J W S0 q vk vt vh)(hg:W.grownBy W' (some (w0.heap.size+2)))
 (hr:W'.heap[w0.heap.size+2]?=some (.cells #[.int .i64 0,.int .i64 0,.string ⟨#[]⟩,.slice none 0 0,nM,.int .i64 q1.aW,S q1.str,Cw,Cx] 43 (0,0))) (rk:aY pY J nM q1.aM) (rt:aY bJ J Cw S1.aK) (rh:aY jh J Cx S1.aC):
 qZ I w0 vs J W' S1 q1 nM Cw Cx:=by
 have hlt:=h.lt;exact⟨⟨h.at_.ok.grown hg fun g e=>by injection e with e;subst e;exact h.OG,h.at_.keep,h.at_.eD.grown hg h.at_.size fun g e=>by injection e with e;omega⟩,h.ext,h.xk,h.OG,iV hg (by simp) h.box,(hg.block _ (by omega) (fun e=>by injection e with e;omega)).trans h.q,hr,rk,rt,rh⟩
end
theorem aN.Cy{E:TypeId}{I0 J:IH}(h:aN T E I0 w B v l)(h0:∀b,I0 b=none)(hw:Ok J w)(hI:∀g,v.ownBlock=some g→J g=none):
 ∃J',(∀b c,J b=some c→J' b=some c)∧Ok J' w∧aY T J' v l:=by
 obtain⟨xs,⟨h1,Bf⟩,h2⟩:=h;rcases Bf with⟨rfl,h0'⟩|⟨g,cap,cur,rfl,hb,hg,Bg,gV,fK,ht⟩
 ·have:l=[]:=List.eq_nil_of_length_eq_zero h0';subst this;exact⟨J,fun _ _ h=>h,hw,aY.nil T J⟩
 ·have Pe:=hI g (by simp[Value.ownBlock]);have nH:∀b c,J b=some c→(J.add g cur) b=some c:=fun b c hc=>by
   unfold IH.add;by_cases e:b=g
   ·subst e;rw[Pe]at hc;cases hc
   ·rw[if_neg e];exact hc
  refine⟨J.add g cur,nH,hw.add hg,⟨_,cap,rfl,Bg,gV,fun _=>⟨g,0,cur,rfl,by simp[IH.add],fun i hi=> ?_⟩⟩⟩;obtain⟨cs,k1,k2⟩:=h2.2 i hi;refine⟨cs,T.mono (fun b c hc=>by rw[h0 b]at hc;cases hc) k1,fun j u hu=> ?_⟩;have hx:=k2 j u hu;rw[←ht,List.getElem?_take]at hx;split at hx
  ·rw[Nat.zero_add,←Array.getElem?_toList];exact hx
  ·cases hx
theorem Xga{P:Program}{I:IH}{ts te:TypeId}{bytes:Nat}(hE:dx P ts te T bytes){ops:Array Oper}{rest:List Oper}{o:Oper}{a:Act}{Q:Exit→Act→World→Prop}(yf:o.guard=none)(s x:Operand)
 (ho:o.op= .call {callee:= .builtin .append,args:=#[s,x],argTypes:=#[ts,ts]})    (hs:a.eval s=v) (bM:aN T te I w B v l) {vx:Value} {ys:List α} (hx:a.eval x=vx) (hy:uE T I w vx ys)
 (eU:(l.length+ys.length)*bytes≤140737488355328) (hl:l.length+ys.length≤9223372036854775807) (hB:B≤w.heap.size)
 (h:∀v' w',aN T te I w' B v' (l++ys)→w.grownBy w' v.ownBlock→(∀g,v'.ownBlock=some g→v.ownBlock=some g∨w.heap.size≤g)→wpList P ops Q rest (a.put o.dst v') w'):wpList P ops Q (o::rest) a w:=
 wpList_plain yf fun _ hK=>Ri hE s x ho hs bM hx hy eU hl hB fun v' w' h1 h2 h3=>hK _ _ (h v' w' h1 h2 h3)
theorem jD.own{w':World}{s:bu}{ve:Value}{row:Option Nat}(h:jD w n s ve)(hg:w.grownBy w' row)(aZ:row≠some n):jD w' n s ve:=
 ⟨iV hg aZ h.c0,iV hg aZ h.c1,iV hg aZ h.c2,iV hg aZ h.c3,iV hg aZ h.c4,iV hg aZ h.c5⟩
theorem Xmx(L:List bu)(k:Nat):bP (L.take k)=(bP L).take k:=by unfold bP;rw[List.map_take]
theorem Xmz(hk:k<L.length)(hx:L[k]=x):bP (L.take (k+1))=bP (L.take k)++[x.aV]:=by
 rw[List.take_succ_eq_append_getElem hk,hx,Xmy]
def Lm(I:IH)(w:World)(L:List bu)(r:Ending)(w':World):Prop:=
 ∃vk vt vh J,r= .returned (kD ⟨0,0,[],[],di L,(bg bf L).aK,(bg bf L).aC⟩ (.slice none 0 0) vk vt vh)∧Below w.heap.size w w'∧Ext w.heap.size I J∧Ok J w'∧aY pY J vk (di L).aM∧aY bJ J vt (bg bf L).aK∧aY jh J vh (bg bf L).aC
theorem Xm7(I:IH)(hI:cB I)(ai dt sp:Int)(L:List bu)(h:cO n m L)(hn:n≤150)(hm:m≤254)(vs:Value)(je:aY iO I vs L)(w:World)(hw:Ok I w):
 Calls Tryz.prog 60 #[ed ai dt sp vs] w (Lm I w L):=by
 have hlen:=h.len;have HA:=Qh h;have HG:=Qh hI;have um:=Qh je;have vV:=Qh (show(Tryz.prog.info? 43).map (·.size)=some 9 by kernel_rfl);obtain⟨so,sc,rfl,_,_,_⟩:=id je;obtain⟨W3,Ay⟩:∃W3,(((w.alloc (.cells #[.int .u32 ai,.int .i64 dt,.int .i64 sp,.slice so L.length sc] 63)).alloc (.cells dJ 43)).alloc (.cells dJ 43))=W3:=⟨_,rfl⟩;obtain⟨mW,Bc,xD,rf⟩:=Tg w _ _ _ _ _ _ W3 Ay;have A3:=Qh (show lq I w I W3 by rw[←Ay];exact(((lq.start hw).past _).past _).past _);have z3:W3.cell? ⟨w.heap.size,3,none⟩=some (.slice so L.length sc):=(cell_of_row _ _ 3 _ _ _ Bc).trans rfl
 have M0:=Qh (show qZ I w (.slice so L.length sc) I W3 bf Ca (.slice none 0 0) (.slice none 0 0) (.slice none 0 0)from
  ⟨A3.q,Ext.refl _ _,hw.fresh (by omega),hw.fresh (by omega),z3,xD,rf,aY.nil _ _,aY.nil _ _,aY.nil _ _⟩)
 clear h hI je Bc xD rf A3;go_enter Tryz.func60,Tryz.ntmps60
 go_wp2_with fail
 clear Ay z3;go_loopw [4,18] (fun s4 s18 wr=> ∃(k:Nat) (J:IH) (vk vt vh:Value),k≤L.length∧s18= .int .i64 k∧aN ib 9 (fun _=>none) wr (w.heap.size+3) s4 (bP (L.take k))∧(∀g,s4.ownBlock=some g→J g=none)∧qZ I w (.slice so L.length sc) J wr (bg bf (L.take k)) (mE (bP L) L k) vk vt vh) (fun _ i _=>L.length-(intOf i).toNat)
 case atStart=>exact⟨0,I,_,_,_,Nat.zero_le _,rfl,aN.nil _ _ _ _ _,fun g e=>by simp[Value.ownBlock]at e,M0.q⟩
 case round=>
  clear M0;obtain⟨k,J,vk,vt,vh,hk,rfl,hO,vw,hM⟩:=hrel;have M:=Qh hM;have HO:=Qh hO;have AA:=Qh vw;clear hM hO vw;by_cases hlt:k<L.length
  ·obtain⟨x,ve,b,off,cap',dz,dC,⟨c0,c1,c2,c3,c4,c5⟩,h1⟩:=Kv (um.q.mono M.q.at_.keep) M.q.at_.ok k hlt;cases dC;have nP:=Qh dz;have Al:x.aB.length≤150:=Nat.le_trans (HA.q.aB (by rw[←dz];exact List.getElem_mem hlt)) hn;have Hb:=Qh (Xoz HA.q hn hm hlt dz);have OH:=Qh h1;obtain⟨eo,ec,rfl,_,_,_⟩:=id h1;have m1:IntKind.i64.wrap ((k:Int)+1)=(k:Int)+1:=IntWalk.i64_in _ (by omega);have xw:(bP (L.take k)).length=k:=by simp[bP];omega
   have Oj:=Qh xw;have hM0:=M.q.at_.size;have hMl:=M.q.lt;clear dz h1 xw
   go_wp2_with (at_builtin
                refine Xga VF rfl _ _ rfl (B:=w.heap.size+3) rfl ((HO.q.alloc _).alloc _) (vx:= .slice (some ⟨(wr.alloc (.cells #[.int .i64 x.num,.int .i64 x.az,S x.bq,.slice eo x.aB.length ec,S x.aV,S x.sl] 76)).heap.size,0,none⟩) 1 1) (by simp[Act.eval]) (uE.vJ (T:=ib) (x:=x.aV) (cs:=[S x.aV]) rfl (fun j u hu=>by rw[World.cell?_alloc_new];simpa using hu)) (by rw[Oj.q];simp;omega) (by rw[Oj.q];simp;omega) (by simp;omega) ?_;intro v5 w5 ho5 qy hl5;have M5:=Qh (((M.q.past (.cells #[.int .i64 x.num,.int .i64 x.az,S x.bq,.slice eo x.aB.length ec,S x.aV,S x.sl] 76)).past (.cells #[S x.aV] 9)).own qy (fun g e=>⟨AA.q g e,HO.q.l5 e⟩));have OI:=M5.q.row;have z4:w5.cell? ⟨w.heap.size+2,4,none⟩=some vk:=(cell_of_row _ _ 4 _ _ _ OI).trans rfl;have z5:w5.cell? ⟨w.heap.size+2,5,none⟩=some (.int .i64 (mE (bP L) L k).aW):=(cell_of_row _ _ 5 _ _ _ OI).trans rfl;have z6:w5.cell? ⟨w.heap.size+2,6,none⟩=some (S (mE (bP L) L k).str):=(cell_of_row _ _ 6 _ _ _ OI).trans rfl)
   have Tw:=Qh (show aN ib 9 (fun _=>none) w5 (w.heap.size+3) v5 (bP (L.take (k+1))) by rw[Xmz hlt nP.q];exact ho5);have Lp:∀g,v5.ownBlock=some g→J g=none:=fun g e=>(hl5 g e).elim (AA.q g) (fun q=>M.q.at_.ok.fresh (by simp at q;omega));have Pq:=qy.size;rw[World.size_alloc,World.size_alloc]at Pq;have SB5:=Qh (jD.own ((Ku (W:=wr) (s:=x) (ve:= .slice eo x.aB.length ec) (t:=76) rfl (Qb _ _)).past (.cells #[S x.aV] 9)) qy (HO.q.wE (Qn _)));have ul:=Qh (YM J (mE (bP L) L k) vk M5.q.rk (by have:=Hb.q.2;omega) ((k:Int)+1) w5 M5.q.at_.ok);rw[Hb.q.1]at ul;clear ho5 qy hl5 M HO AA c0 c1 c2 c3 c4 c5;refine ul.q.mono ?_;rintro e6 w6 ⟨vk6,J6,rfl,fC,Az,gD,FV⟩;obtain⟨Tx,Tz,rfl,_,_,_⟩:=id FV;have M6:=Qh (M5.q.aX fC Az gD);have TA:=Qh (Tw.q.below fC);have TB:∀g,v5.ownBlock=some g→J6 g=none:=fun g e=>(Az g (Dx Tw.q e).2).trans (Lp g e);have TC:=Qh (SB5.q.aX fC);have TD:=Qh (OH.q.mono (fun b c hc=>Az.keep M5.q.at_.ok (Qn _) b c (hc)));have Je:=fC.size;have hM6:=M6.q.row;clear M5 z4 z5 z6 OI ul fC Az gD Tw Lp SB5 OH
   go_wp2_with (refine jy rfl rfl 40 _ _ rfl (w.heap.size+2) 4 [.slice Tx (gq L k x 0).aM.length Tz,.int .i64 (gq L k x 0).aW,S (gq L k x 0).str] (fI (gq L k x 0) (.slice Tx (gq L k x 0).aM.length Tz)) (by simp[Act.eval]) (by simp[Act.eval]) (by rfl) _ 43 hM6 (by simp) (by kernel_rfl) (by simp[Value.oneCell']) #[.int .i64 0,.int .i64 0,.string ⟨#[]⟩,.slice none 0 0,.slice Tx (gq L k x 0).aM.length Tz,.int .i64 (gq L k x 0).aW,S (gq L k x 0).str,vt,vh] (by rfl) ?_
                intro w7 kI oO;have d3:=(TC.q.own kI (by simp;omega)).c3)
   have M7:=Qh (M6.q.put (S1:=kJ L k x 0) kI oO FV M6.q.rt M6.q.rh);have HO7:=Qh (TA.q.kept kI (.inr (TA.q.iK (by omega))));have TE:=Qh (TC.q.own kI (by simp;omega));have Vq:=kI.size;obtain⟨n6,yz⟩:∃n6,n6=wr.heap.size:=⟨_,rfl⟩;rw[←yz]at TE ⊢;have ais:w.heap.size+3≤n6∧n6<w7.heap.size:=by omega
   clear d3 hM6 kI oO M6 TA TC FV yz Pq Je Vq;go_loopw [40] (fun s40 wr=> ∃(j:Nat) (K:IH) (vk vt vh:Value),j≤x.aB.length∧s40= .int .i64 j∧aN ib 9 (fun _=>none) wr (w.heap.size+3) v5 (bP (L.take (k+1)))∧(∀g,v5.ownBlock=some g→K g=none)∧(∀b c,J6 b=some c→K b=some c)∧jD wr n6 x (.slice eo x.aB.length ec)∧qZ I w (.slice (some ⟨b,off,none⟩) L.length sc) K wr (kJ L k x j) (gq L k x j) vk vt vh) (fun i _=>x.aB.length-(intOf i).toNat)
   case atStart=>exact⟨0,J6,_,_,_,Nat.zero_le _,rfl,HO7.q,TB,fun _ _ h=>h,TE.q,M7.q⟩
   case round=>
    clear M7 HO7 TE;obtain⟨j,K,vk,vt,vh,hj,rfl,hO,vw,GL,Lr,hM⟩:=hrel;have M:=Qh hM;have HO:=Qh hO;have AA:=Qh vw;have TF:=Qh GL;have SB:=Qh Lr;clear hM hO vw GL Lr;by_cases vB:j<x.aB.length
    ·obtain⟨e,va,vx,b2,mM,cap2,sS,dC,⟨c0,c1,c2,c3,c4,c5,c6⟩,h2,h3⟩:=uT (TD.q.mono TF.q) M.q.at_.ok j vB;cases dC;obtain⟨aa,ca,rfl,_,_,_⟩:=id h2;obtain⟨ax,cx,rfl,_,_,_⟩:=id h3;have Hs:=Qh (Xls HA.q hn hm hlt nP.q vB sS);have Hq:=Qh (Xm2 L k vB sS);have Ht:=Qh (Xh6 L k vB sS);obtain⟨kt,kh,ke⟩:=Xkq Hs.q.stp;have Ls:=Qh kt;have Lt:=Qh kh;have Hke:=Qh ke;have Lu:=Qh h2;have Iz:=Qh h3;have hwM:=M.q.lt;clear sS h2 h3 kt kh ke;obtain⟨n8,Lv⟩:∃n8,n8=wr.heap.size:=⟨_,rfl⟩;go_upto_if 46 with fail
     have EB:=Qh (eO (W:=wr) (e:=e) (va:= .slice aa e.au.length ca) (vx:= .slice ax e.aD.length cx) (t:=81) Lv (Qb _ _));rw[←Lv];obtain⟨wA,Lx⟩:∃wA,wr.alloc (.cells #[.int .i64 e.aj,S e.ag,.slice aa e.au.length ca,S e.av,.int .i64 e.size,S e.aI,.slice ax e.aD.length cx] 81)=wA:=⟨_,rfl⟩;rw[Lx]at EB ⊢;have MA:=Qh (M.q.past (.cells #[.int .i64 e.aj,S e.ag,.slice aa e.au.length ca,S e.av,.int .i64 e.size,S e.aI,.slice ax e.aD.length cx] 81));have IA:=Qh (HO.q.alloc (.cells #[.int .i64 e.aj,S e.ag,.slice aa e.au.length ca,S e.av,.int .i64 e.size,S e.aI,.slice ax e.aD.length cx] 81));have LA:=Qh (SB.q.past (.cells #[.int .i64 e.aj,S e.ag,.slice aa e.au.length ca,S e.av,.int .i64 e.size,S e.aI,.slice ax e.aD.length cx] 81));rw[Lx]at MA IA LA;have TG:w.heap.size+3≤n8:=by omega
     clear Lx M HO SB c0 c1 c2 c3 c4 c5 c6 Lv;have LB:=MA.q.row;have z4:wA.cell? ⟨w.heap.size+2,4,none⟩=some vk:=(cell_of_row _ _ 4 _ _ _ LB).trans rfl;have z5:wA.cell? ⟨w.heap.size+2,5,none⟩=some (.int .i64 (gq L k x j).aW):=(cell_of_row _ _ 5 _ _ _ LB).trans rfl;have z6:wA.cell? ⟨w.heap.size+2,6,none⟩=some (S (gq L k x j).str):=(cell_of_row _ _ 6 _ _ _ LB).trans rfl;go_cut [9,10] (fun s9 s10 wx=> ∃(K':IH) (nM:Value),aN ib 9 (fun _=>none) wx (w.heap.size+3) v5 (bP (L.take (k+1)))∧(∀g,v5.ownBlock=some g→K' g=none)∧(∀b c,K b=some c→K' b=some c)∧jD wx n6 x (.slice (some ⟨b2,mM,none⟩) x.aB.length ec)∧eY wx n8 e (.slice aa e.au.length ca) (.slice ax e.aD.length cx)∧qZ I w (.slice (some ⟨b,off,none⟩) L.length sc) K' wx (kJ L k x j) (mD (bP L) (gq L k x j) e) nM vt vh)
     case first=>
      by_cases sW:e.aj=1;case neg=>
       have f1:(e.aj==1)=false:=by simpa using sW
       have Hn:=Qh (show mD (bP L) (gq L k x j) e=gq L k x j from if_neg sW);clear sW;go_wp2_with fail
       go_meet;exact⟨K,vk,IA.q,AA.q,fun _ _ h=>h,LA.q,EB.q,by rw[Hn.q];exact MA.q⟩
      case pos=>
       have f1:(e.aj==1)=true:=by simpa using sW
       obtain⟨ct,cn,Ps⟩:∃ct cn,qQ (bP L) e.aD=(ct,cn):=⟨_,_,rfl⟩;have bU:ct.length≤65536:=by have:=Y8 (bP L) e.aD;rw[Ps]at this;exact this
       obtain⟨q2,TH,n2,qJ⟩:∃q2 TH n2,jE (gq L k x j) ct=(q2,TH,n2):=⟨_,_,_,rfl⟩;have Hn:=Qh (show mD (bP L) (gq L k x j) e=q2 by rw[mD,if_pos sW,Ps,qJ]);obtain⟨K9,hk9,q8,iy⟩:=IA.q.Cy (fun _=>rfl) MA.q.at_.ok AA.q;have TI:=Qh (Xtf K9 v5 (.slice ax e.aD.length cx) (bP (L.take (k+1))) e.aD iy (Iz.q.mono hk9) (fun s hs=>by
        obtain⟨y,hy,rfl⟩:=List.mem_map.1 hs;obtain⟨i,hi,he⟩:=List.getElem_of_mem (List.mem_of_mem_take hy);have:=(HA.q.at_ hi he).aV;omega) wA q8)
       rw[Xmx,Xn9 (bP L) (k+1) Hs.q.xs (by simp[bP];omega),Ps]at TI;have Hpu:=Qh (fun w hw=>(by
        have Aw:=Hs.q.bL;have:=Zw 4294901760 10000000 (by decide) (by decide) K (gq L k x j) vk MA.q.rk ⟨by have:=Aw.s0;omega,by have:=Aw.s1;omega,Aw.str,Hs.q.aM,fun k hk=>(Aw.cx k hk).x⟩ (fun k hk=>(Aw.cx k hk).d) ct (by omega) w hw;rwa[qJ]at this:Calls Tryz.prog 103 #[fI (gq L k x j) vk,S ct] w (Fj K w (q2,TH,n2))))
       have x6:=EB.q.c6;clear sW Ps qJ hk9 q8 iy;go_wp2_with fail
       refine TI.q.mono ?_;rintro e10 qi ⟨rfl,nZ⟩;have sN:=Qh (MA.q.quiet nZ);have Cz:=sN.q.row;have z4:qi.cell? ⟨w.heap.size+2,4,none⟩=some vk:=(cell_of_row _ _ 4 _ _ _ Cz).trans rfl;have z5:qi.cell? ⟨w.heap.size+2,5,none⟩=some (.int .i64 (gq L k x j).aW):=(cell_of_row _ _ 5 _ _ _ Cz).trans rfl;have z6:qi.cell? ⟨w.heap.size+2,6,none⟩=some (S (gq L k x j).str):=(cell_of_row _ _ 6 _ _ _ Cz).trans rfl;have Aa:=Qh (IA.q.below nZ);have LC:=Qh (LA.q.aX nZ);have LD:=Qh (EB.q.aX nZ);clear nZ TI MA IA LA EB LB x6;go_wp2_with fail
       refine(Hpu.q qi sN.q.at_.ok).mono ?_;rintro e11 xU ⟨aiu,aiv,K11,rfl,oL,CB,oG,DV,LF⟩;obtain⟨ak,ck,rfl,_,_,_⟩:=id DV;obtain⟨ay,cy,rfl,_,_,_⟩:=id LF;have Bd:=Qh (sN.q.aX oL CB oG);have TJ:=Bd.q.row;have Lv:=block_lt_of_cell LD.q.c0;have yz:=block_lt_of_cell LC.q.c0;have LG:=Qh (Aa.q.below oL);have TK:=Qh (LC.q.aX oL);have vW:=Qh (LD.q.aX oL);have LH:∀g,v5.ownBlock=some g→K11 g=none:=fun g e=>(CB g (Dx Aa.q e).2).trans (AA.q g e);have TL:=CB.keep sN.q.at_.ok (Qn _);clear oL CB oG sN Cz z4 z5 z6 Hpu
       go_wp2_with (refine jy rfl rfl 40 _ _ rfl (w.heap.size+2) 4 [.slice ak q2.aM.length ck,.int .i64 q2.aW,S q2.str] (fI q2 (.slice ak q2.aM.length ck)) (by simp[Act.eval]) (by simp[Act.eval]) (by rfl) _ 43 TJ (by simp) (by kernel_rfl) (by simp[Value.oneCell']) #[.int .i64 0,.int .i64 0,.string ⟨#[]⟩,.slice none 0 0,.slice ak q2.aM.length ck,.int .i64 q2.aW,S q2.str,vt,vh] (by rfl) ?_
                    intro ZX lL FR)
       go_meet;have aiw:w.heap.size+3≤n8:=TG;rw[Hn.q]
       exact⟨K11,_,LG.q.kept lL (.inr (LG.q.iK (by omega))),LH,TL,TK.q.own lL (by simp;omega),⟨iV lL (by simp;omega) vW.q.c0,iV lL (by simp;omega) vW.q.c1,iV lL (by simp;omega) vW.q.c2,iV lL (by simp;omega) vW.q.c3,iV lL (by simp;omega) vW.q.c4,iV lL (by simp;omega) vW.q.c5,iV lL (by simp;omega) vW.q.c6⟩,
        Bd.q.put lL FR DV Bd.q.rt Bd.q.rh⟩
     case rest=>
     obtain⟨K',nM,hO,vw,CW,Lr,hEB,hM⟩:=hcut;have M1:=Qh hM;have TM:=Qh hO;have LJ:=Qh vw;have Hk1:=Qh (fun b c hc=>CW b c (TF.q b c hc));have IB:=Qh Lr;have AX:=Qh hEB;have LK:=Qh (Lu.q.mono CW);have LM:=Qh (Iz.q.mono CW);clear hM hO vw CW Lr hEB MA IA LA EB z4 z5 z6 LB AA TF Lu Iz;obtain⟨S1,MQ⟩:∃S1,(cZ (kJ L k x j) e x.az).1=S1:=⟨_,rfl⟩;obtain⟨q1,nI⟩:∃q1,mD (bP L) (gq L k x j) e=q1:=⟨_,rfl⟩;rw[MQ]at Ls Lt Ht;rw[nI]at Hq M1;have zX:=Qh (QH K' (HG.q.mono M1.q.at_.keep) vt (kJ L k x j).aK M1.q.rt Hs.q.sin.AU Hs.q.sin.ok.aK.yw (by have:=Hs.q.sin.ok.xP;omega) e _ _ LK.q LM.q Hs.q.wf (by have:=Hs.q.ag;omega) (by have:=Hs.q.av;omega) _ M1.q.at_.ok);rw[Ls.q]at zX;obtain⟨at7,ct7,rfl,_,_,_⟩:=id M1.q.rt;obtain⟨x0,x1,x2,x3,x4,x5,x6⟩:=AX.q;have z7:wc.cell? ⟨w.heap.size+2,7,none⟩=some _:=(cell_of_row _ _ 7 _ _ _ M1.q.row).trans rfl;clear MQ nI;go_wp2_with fail
     refine zX.q.mono ?_;rintro e2 w2 ⟨vt2,K2,rfl,aP,rO,bC,CE⟩;obtain⟨at2,OJ,rfl,_,_,_⟩:=id CE;have M2:=Qh (M1.q.aX aP rO bC);have TN:=Qh (TM.q.below aP);have yz:=block_lt_of_cell IB.q.c0;have Lv:=block_lt_of_cell AX.q.c0;have FW:=Qh (IB.q.aX aP);have yK:=Qh (AX.q.aX aP);have yj:=rO.keep M1.q.at_.ok (Qn _);have LP:=Qh (show ∀g,v5.ownBlock=some g→K2 g=none from fun g e=>(rO g (Dx TM.q e).2).trans (LJ.q g e));have Hk2:=Qh (fun b c hc=>yj b c (Hk1.q b c hc));have hM2:=M2.q.row;have sQ:=aP.size;clear x0 x1 x2 x3 x4 x5 x6 z7 zX aP rO bC M1 TM IB AX LJ Hk1
     go_wp2_with (refine jy rfl rfl 37 _ _ rfl (w.heap.size+2) 7 [.slice at2 S1.aK.length OJ] (.slice at2 S1.aK.length OJ) (by simp[Act.eval]) (by simp[Act.eval]) (by rfl) _ 43 hM2 (by simp) (by kernel_rfl) (by simp[Value.oneCell']) #[.int .i64 0,.int .i64 0,.string ⟨#[]⟩,.slice none 0 0,nM,.int .i64 q1.aW,S q1.str,.slice at2 S1.aK.length OJ,vh] (by rfl) ?_
                  intro w3 kS qK;have z8:w3.cell? ⟨w.heap.size+2,8,none⟩=some vh:=(cell_of_row _ _ 8 _ _ _ qK).trans rfl;have x0:=iV kS (by simp;omega) yK.q.c0;have x1:=iV kS (by simp;omega) yK.q.c1;have x2:=iV kS (by simp;omega) yK.q.c2;have x3:=iV kS (by simp;omega) yK.q.c3;have x4:=iV kS (by simp;omega) yK.q.c4;have x5:=iV kS (by simp;omega) yK.q.c5;have x6:=iV kS (by simp;omega) yK.q.c6;have y1:=(FW.q.own kS (by simp;omega)).c1)
     have M3:=Qh (M2.q.put (S1:=⟨S1.aK,(kJ L k x j).aC⟩) kS qK M2.q.rk CE M2.q.rh);have TP:=Qh (TN.q.kept kS (.inr (TN.q.iK (by omega))));have FX:=Qh (FW.q.own kS (by simp;omega));have IW:=kS.size;have qY:=Qh (Qm K2 (HG.q.mono M3.q.at_.keep) vh (kJ L k x j).aC M3.q.rh Hs.q.sin.ok.aC (by have:=Hs.q.sin.ok.hlen;omega) e _ _ (LK.q.mono yj) (LM.q.mono yj) Hs.q.err x.az w3 M3.q.at_.ok);rw[Lt.q]at qY;clear kS qK M2 TN FW yK hM2;refine qY.q.mono ?_;rintro e4 w4 ⟨vh4,K4,rfl,bA,uS,cK,xZ⟩;obtain⟨DW,DX,rfl,_,_,_⟩:=id xZ;have M4:=Qh (M3.q.aX bA uS cK);have HO4:=Qh (TP.q.below bA);have TQ:=Qh (FX.q.aX bA);have Pt:=uS.keep M3.q.at_.ok (Qn _);have TR:=Qh (show ∀g,v5.ownBlock=some g→K4 g=none from fun g e=>(uS g (Dx TP.q e).2).trans (LP.q g e));have hM4:=M4.q.row;have hs4:=bA.size;clear x0 x1 x2 x3 x4 x5 x6 z8 y1 qY bA uS cK M3 TP FX LP
     go_wp2_with (refine jy rfl rfl 41 _ _ rfl (w.heap.size+2) 8 [.slice DW S1.aC.length DX] (.slice DW S1.aC.length DX) (by simp[Act.eval]) (by simp[Act.eval]) (by rfl) _ 43 hM4 (by simp) (by kernel_rfl) (by simp[Value.oneCell']) #[.int .i64 0,.int .i64 0,.string ⟨#[]⟩,.slice none 0 0,nM,.int .i64 q1.aW,S q1.str,.slice at2 S1.aK.length OJ,.slice DW S1.aC.length DX] (by rfl) ?_
                  intro w5 qy DY)
     go_roundw
     case rel=>exact⟨j+1,K4,_,_,_,by omega,by go_num,HO4.q.kept qy (.inr (HO4.q.iK (by omega))),TR.q,fun b c hc=>Pt b c (Hk2.q b c hc),TQ.q.own qy (by simp;omega),
      by rw[Hq.q,Ht.q];exact M4.q.put qy DY M4.q.rk M4.q.rt xZ⟩
     case measure=>simp[intOf];omega
    ·have EL:j=x.aB.length:=by omega
     subst EL;go_wp2;go_roundw;case rel=>exact⟨k+1,K,_,_,_,by omega,by go_num,HO.q,AA.q,by rw[←Tv hlt nP.q,←Xpe hlt nP.q];exact M.q⟩
     case measure=>simp[intOf];omega
  ·have oP:k=L.length:=by omega
   subst oP;have aU:=M.q.row;have z0:wr.cell? ⟨w.heap.size+2,0,none⟩=some _:=(cell_of_row _ _ 0 _ _ _ aU).trans rfl;have z1:wr.cell? ⟨w.heap.size+2,1,none⟩=some _:=(cell_of_row _ _ 1 _ _ _ aU).trans rfl;have z2:wr.cell? ⟨w.heap.size+2,2,none⟩=some _:=(cell_of_row _ _ 2 _ _ _ aU).trans rfl;have z3:wr.cell? ⟨w.heap.size+2,3,none⟩=some _:=(cell_of_row _ _ 3 _ _ _ aU).trans rfl;have z4:wr.cell? ⟨w.heap.size+2,4,none⟩=some _:=(cell_of_row _ _ 4 _ _ _ aU).trans rfl;have z5:wr.cell? ⟨w.heap.size+2,5,none⟩=some _:=(cell_of_row _ _ 5 _ _ _ aU).trans rfl;have z6:wr.cell? ⟨w.heap.size+2,6,none⟩=some _:=(cell_of_row _ _ 6 _ _ _ aU).trans rfl;have z7:wr.cell? ⟨w.heap.size+2,7,none⟩=some _:=(cell_of_row _ _ 7 _ _ _ aU).trans rfl;have z8:wr.cell? ⟨w.heap.size+2,8,none⟩=some _:=(cell_of_row _ _ 8 _ _ _ aU).trans rfl;have hl:=M.q.lt;rw[List.take_length,Sj]at M;rw[Sj]at z5 z6 aU;obtain⟨ak,ck,rfl,_,_,_⟩:=id M.q.rk;obtain⟨at',tO,rfl,_,_,_⟩:=id M.q.rt;obtain⟨ah,ch,rfl,_,_,_⟩:=id M.q.rh;have dW:=M.q.q;clear aU
   go_wp2_with (refine jy rfl rfl 43 _ _ rfl (w.heap.size+1) 0 (fB ⟨0,0,[],[],di L,(bg bf L).aK,(bg bf L).aC⟩ (.slice none 0 0) (.slice ak (di L).aM.length ck) (.slice at' (bg bf L).aK.length tO) (.slice ah (bg bf L).aC.length ch)) (kD ⟨0,0,[],[],di L,(bg bf L).aK,(bg bf L).aC⟩ (.slice none 0 0) (.slice ak (di L).aM.length ck) (.slice at' (bg bf L).aK.length tO) (.slice ah (bg bf L).aC.length ch)) (by simp[Act.eval]) (by simp[Act.eval]) (by rfl) _ 43 dW (by simp) (by kernel_rfl) (by simp[Value.oneCell']) (fB ⟨0,0,[],[],di L,(bg bf L).aK,(bg bf L).aC⟩ (.slice none 0 0) (.slice ak (di L).aM.length ck) (.slice at' (bg bf L).aK.length tO) (.slice ah (bg bf L).aC.length ch)).toArray (by rfl) ?_
                intro w9 dY iy)
   refine bodyPost_ret (results_cell_row rfl _ _ (w.heap.size+1) _ (fB ⟨0,0,[],[],di L,(bg bf L).aK,(bg bf L).aC⟩ (.slice none 0 0) (.slice ak (di L).aM.length ck) (.slice at' (bg bf L).aK.length tO) (.slice ah (bg bf L).aC.length ch)).toArray (0,0) _ rfl iy Tryz.underlying43 rfl vV.q) rfl ?_;exact⟨_,_,_,J,rfl,M.q.at_.eD.grown dY M.q.at_.size (fun k e=>by injection e with e;omega),M.q.ext,M.q.at_.ok.grown dY (fun g e=>by injection e with e;subst e;exact M.q.xk),M.q.rk,M.q.rt,M.q.rh⟩
