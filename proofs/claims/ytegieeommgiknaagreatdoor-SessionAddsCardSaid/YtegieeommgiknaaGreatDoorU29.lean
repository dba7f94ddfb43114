/- Lemmas for the claim's theorem;conditions: as each says. -/
import Derived.Test.YtegieeommgiknaaGreatDoorU28
set_option maxHeartbeats 0
set_option maxRecDepth 100000
set_option linter.all false
namespace Go.Proofs.YtegieeommgiknaaGreatDoor
variable{x:bV}{L:List bV}{k:Nat}{st:List af}{e:bD}{n j m:Nat}{w:World}{d:af}{α:Type}{T:Ty α}{B:Nat}{v:Value}{l:List α}
def Wl(st:List af)(x:Xt)(d:af):Prop:=
 (x.s=0∧x.o=0∧0≤x.n∧d=List.replicate x.n.toNat 0)∨
 (1≤x.s∧x.s≤st.length∧0≤x.o∧0≤x.n∧x.o+x.n≤(lZ st x).length∧d=((lZ st x).drop x.o.toNat).take x.n.toNat)
def Js(st:List af):List Xt→af→Prop
 | [],d=>d=[]
 |x::l,d=> ∃a b,d=a++b∧Wl st x a∧Js st l b
theorem Wl.len{x:Xt}(h:Wl st x d):0≤x.n∧(d.length:Int)=x.n:=by
 rcases h with⟨_,_,h,rfl⟩|⟨_,_,h0,h1,h2,rfl⟩
 ·rw[List.length_replicate];omega
 ·rw[List.length_take,List.length_drop];omega
theorem Xpe:∀{l:List Xt} {d out:af},Js st l d→out.length+d.length≤65536→lH st l out=(out++d,0)
 | [],d,out,h,_=>by
   have h:d=[]:=h;subst h;rw[List.append_nil];rfl
 |x::l,d,out,⟨a,b,e,h1,h2⟩,hl=>by
  subst e;rw[List.length_append]at hl;have hn:=h1.len;have ih:=Xpe (out:=out++a) h2 (by rw[List.length_append];omega);rw[List.append_assoc]at ih;rw[lH];rcases h1 with⟨z0,z1,z2,rfl⟩|⟨z0,z1,z2,z3,z4,rfl⟩
  ·rw[if_neg (by rw[Sj (by omega) (by omega) (by omega) (by omega) (by omega)];decide),if_neg (by omega),if_neg (by omega),if_pos z0];exact ih
  ·rw[if_neg (by rw[Sj (by omega) (by omega) (by omega) (by omega) (by omega)];decide),if_neg (by omega),if_neg (by omega),if_neg (by omega)];exact ih
theorem Xuw{l:List Xt}(h:Js st l d)(hl:d.length≤65536):tF st l=(d,0):=by
 have:=Xpe (out:=[]) h (by simpa using hl);simpa[tF]using this
def aet(st st':List af):Prop:=st.length≤st'.length∧ ∀i:Nat,i<st.length→ ∃t,st'.getD i []=st.getD i []++t
def ar9(g:Sg):af:=if g.d=[]then List.replicate g.n.toNat 0 else g.d
def Jt(cs:List af):List af:=cs.flatMap fun c=>(iR c).flatMap fun g=>dw g.d
def Cc:List af→List af→Bool
 |_,[]=>false
 |pre,c::l=>(pre.any fun p=>dW p==dW c&&p !=c) || Cc (pre++[c]) l
def akt(cs:List af):Bool:=Cc [] (Jt cs)
def Inj(U:List af):Prop:=∀a∈U,∀b∈U,dW a=dW b→a=b
structure StR (A:List af) (U:List af) (q:ib):Prop where
 bg:q.bg=(A.length:Nat)+1
 aJ:∀k∈q.aJ,∃d∈U,k.d=dW d∧Wl (A++[q.str]) k.x d
structure PtR (A U:List af) (p:ib×List Xt) (a:af) (p':ib×List Xt):Prop where
 st:StR A U p'.1
 rd:Js (A++[p'.1.str]) p'.2 a
 grow:∃t,p'.1.str=p.1.str++t
structure aeu (st:List af) (e:bD) (c:ic):Prop where
 av:e.av=c.av
 aj:e.aj=c.aj
 size:e.size=(c.aI.length:Nat)
 rd:Js st e.aC c.aI
 small:c.aI.length≤1000
def EX(st:List af):List bD→List ic→Prop
 | [],[]=>True
 |e::l,c::m=>aeu st e c∧EX st l m
 |_,_=>False
def L6(q:ib)(c:ic):ib:=if c.av=1 then(jA q c.aI).1 else q
theorem again:∀{l:List bD} {m:List ic} {q:ib},EX st l m→l.foldl (mi st) q=m.foldl L6 q
 | [],[],_,_=>rfl
 |e::l,c::m,q,⟨h1,h2⟩=>by
  have e1:mi st q e=L6 q c:=by
   unfold mi L6;rw[h1.av,Xuw h1.rd (by have:=h1.small;omega)]
  rw[List.foldl_cons,List.foldl_cons,e1];exact again h2
 | [],_::_,_,h=>h.elim
 |_::_,[],_,h=>h.elim
structure DrR (L:List bV) (U:List af) (d:fU) (m:List ic):Prop where
 aB:EX (bT L++[d.bf.str]) d.aB m
 bf:d.bf=m.foldl L6 ⟨(bB L).aJ,(L.length:Nat)+1,[]⟩
 st:StR (bT L) U d.bf
structure WrR (U:List af) (want:List (List ic)) (L:List bV):Prop where
 len:L.length=want.length
 aB:∀i (h1:i<L.length) (h2:i<want.length),EX (bT L) L[i].aB want[i]
 aJ:∀k∈(bB L).aJ,∃d∈U,k.d=dW d∧Wl (bT L) k.x d
theorem Xrh(L:List bV)(s:bV):bT (L++[s])=bT L++[s.aU]:=by simp[bT]
open Go.RowKit
theorem ZV{s:oC}{d:Int}(h:(fK s e d).2=0):dh s.aF e=((fK s e d).1.aF,0)∧appH s.holds e d=((fK s e d).1.holds,0)∧aX e=0:=by
 have he:=(Xrj h).2.2;unfold fK at h ⊢;by_cases h1:(dh s.aF e).2≠0
 ·rw[if_pos h1]at h;exact absurd h h1
 rw[if_neg h1]at h ⊢;by_cases h2:rE s e d≠0
 ·rw[if_pos h2]at h;exact absurd h h2
 rw[if_neg h2]at h ⊢;by_cases h3:(appH s.holds e d).2≠0
 ·rw[if_pos h3]at h;exact absurd h h3
 rw[if_neg h3];exact⟨Prod.ext rfl (by simpa using h1),Prod.ext rfl (by simpa using h3),he⟩
def eD(L:List bV)(k:Nat)(x:bV)(j:Nat):ib:=(x.aB.take j).foldl (mi (bT L)) (gM (nA (bT L) L k) x.num).1
def lS(L:List bV)(k:Nat)(x:bV)(j:Nat):oC:=nN (aP aN (L.take k)) x.aA (x.aB.take j)
theorem ZT(L:List bV)(k:Nat)(hj:j<x.aB.length)(he:x.aB[j]=e):eD L k x (j+1)=mi (bT L) (eD L k x j) e:=by
 unfold eD;rw[List.take_succ_eq_append_getElem hj,he,List.foldl_append];rfl
theorem Z7(hk:k<L.length)(hx:L[k]=x):eD L k x x.aB.length=nA (bT L) L (k+1):=by
 rw[Xlo _ hk hx,eD,List.take_length];rfl
theorem ZU(L:List bV)(k:Nat)(hj:j<x.aB.length)(he:x.aB[j]=e):lS L k x (j+1)=(fK (lS L k x j) e x.aA).1:=Xua hj he
theorem Z5(hk:k<L.length)(hx:L[k]=x):lS L k x x.aB.length=aP aN (L.take (k+1)):=by
 rw[Xvl hk hx,lS,List.take_length]
structure ArS (n:Nat) (L:List bV) (k:Nat) (x:bV) (j:Nat) (e:bD):Prop where
 sin:Cu n (lS L k x j)
 ZW:(fK (lS L k x j) e x.aA).2=0
 err:aX e=0
 wf:e.Wf
 aj:e.aj.length≤300
 target:e.target.length≤300
 aC:e.aC.length≤1000
 xs:∀y∈e.aC,0≤y.s∧y.s≤(k+1:Nat)
 bf:yO (eD L k x j)
 aJ:(eD L k x j).aJ.length≤10000000
theorem ZR(h:eT n m L)(hn:n≤150)(hm:m≤254)(hk:k<L.length)(hx:L[k]=x)(hj:j<x.aB.length)(he:x.aB[j]=e):ArS n L k x j e:=by
 have qK:x∈L:=by rw[←hx];exact List.getElem_mem hk
 have hem:e∈x.aB:=by rw[←he];exact List.getElem_mem hj
 have QB:=h.err qK e hem;have hs:=VB QB;have hw:=h.at_ hk hx;have hlen:=h.len;have jO:=Xpu (h.VD hk hx) j hj;rw[he]at jO;have hr:=(h.Y8 (by omega) hm (bT L) k (by omega)).begin (by omega);have hp:=VE hk hx;have ht:=h.tot;have hf:=zl.fold (by omega) (by omega) (bT L) (x.aB.take j) hr.2 (by rw[List.length_take];omega);rw[List.length_take]at hf;have hq:eD L k x j=(x.aB.take j).foldl (mi (bT L)) ⟨(nA (bT L) L k).aJ,(k:Nat)+1,[]⟩:=by
  unfold eD;rw[hw.num,hr.1]
 rw[←hq]at hf;exact⟨h.sin hk hx j (by omega),jO,QB,Xla QB,hs.1,hs.2,hw.aC e hem,fun y hy=>hw.xs e hem y hy,hf.VF (by omega) (by omega) (by omega),Nat.le_trans hf.aJ (by omega)⟩
theorem ZQ(h:eT n m L)(hn:n≤150)(hm:m≤254)(hk:k<L.length)(hx:L[k]=x):
 gM (nA (bT L) L k) ((k:Nat)+1)=(eD L k x 0,0)∧(nA (bT L) L k).aJ.length≤10000000:=by
 have hw:=h.at_ hk hx;have hlen:=h.len;have Ay:=h.Y8 (by omega) hm (bT L) k (by omega);have hr:=Ay.begin (by omega);have hp:=VE hk hx;have ht:=h.tot;refine⟨?_,Nat.le_trans Ay.aJ (by omega)⟩;unfold eD;rw[hw.num,hr.1];rfl
structure um (I:IH) (w0:World) (vs:Value) (J:IH) (W:World) (S0:oC) (q:ib) (vk vt vh:Value):Prop where
 at_:lJ I w0 J W
 ext:Ext w0.heap.size I J
 rZ:J (w0.heap.size+1)=none
 Zn:J (w0.heap.size+2)=none
 box:W.cell? ⟨w0.heap.size,3,none⟩=some vs
 O:W.heap[w0.heap.size+1]?=some (.cells aY 46 (0,0))
 row:W.heap[w0.heap.size+2]?=some (.cells #[.int .i64 0,.int .i64 0,.string ⟨#[]⟩,.slice none 0 0,vk,.int .i64 q.bg,S q.str,vt,vh] 46 (0,0))
 rk:aZ si J vk q.aJ
 rt:aZ bM J vt S0.aF
 rh:aZ ku J vh S0.holds
section
variable {I:IH} {w0:World} {vs:Value} {J J':IH} {W W':World} {S0 S1:oC} {q q1:ib} {vk vt vh oo CZ C7:Value}
theorem um.lt(h:um I w0 vs J W S0 q vk vt vh):w0.heap.size+2<W.heap.size:=(Qg h.row)
theorem um.aR(h:um I w0 vs J W S0 q vk vt vh)(hb:Below W.heap.size W W')(hx:Ext W.heap.size J J')(iZ:Ok J' W'):um I w0 vs J' W' S0 q vk vt vh:=by
 have hk:=hx.keep h.at_.ok (Qn _);have hs:=h.at_.size;have hlt:=h.lt;exact⟨h.at_.ext hb hx iZ,h.ext.trans hx hs,(hx _ (by omega)).trans h.rZ,(hx _ hlt).trans h.Zn,aV hb h.box,(hb.block _ (by omega)).trans h.O,(hb.block _ hlt).trans h.row,h.rk.mono hk,h.rt.mono hk,h.rh.mono hk⟩
theorem um.quiet(h:um I w0 vs J W S0 q vk vt vh)(hb:Below W.heap.size W W'):um I w0 vs J W' S0 q vk vt vh:=h.aR hb (Ext.refl _ _) (h.at_.ok.below (Qn _) hb)
theorem um.past(h:um I w0 vs J W S0 q vk vt vh)(o:Obj):um I w0 vs J (W.alloc o) S0 q vk vt vh:=h.quiet ((Qb _ _).alloc (Qn _) o)
theorem um.own(h:um I w0 vs J W S0 q vk vt vh){row:Option Nat}(hg:W.grownBy W' row)(hr:∀g,row=some g→J g=none∧w0.heap.size+3≤g):um I w0 vs J W' S0 q vk vt vh:=by
 have hlt:=h.lt;have bq:∀b,b<w0.heap.size+3→row≠some b:=fun b hb e=>by have:=(hr b e).2;omega
 exact⟨⟨h.at_.ok.grown hg fun g e=>(hr g e).1,h.at_.keep,h.at_.eU.grown hg h.at_.size fun g e=>by have:=(hr g e).2;omega⟩,h.ext,h.rZ,h.Zn,fC hg (bq w0.heap.size (by omega)) h.box,(hg.block _ (by omega) (fun e=>bq _ (by omega) e.symm)).trans h.O,(hg.block _ hlt (fun e=>bq _ (by omega) e.symm)).trans h.row,h.rk,h.rt,h.rh⟩
theorem um.put(h:um I w0 vs J W S0 q vk vt vh)(hg:W.grownBy W' (some (w0.heap.size+2)))
 (hr:W'.heap[w0.heap.size+2]?=some (.cells #[.int .i64 0,.int .i64 0,.string ⟨#[]⟩,.slice none 0 0,oo,.int .i64 q1.bg,S q1.str,CZ,C7] 46 (0,0))) (rk:aZ si J oo q1.aJ) (rt:aZ bM J CZ S1.aF) (rh:aZ ku J C7 S1.holds):
 um I w0 vs J W' S1 q1 oo CZ C7:=by
 have hlt:=h.lt;exact⟨⟨h.at_.ok.grown hg fun g e=>by injection e with e;subst e;exact h.Zn,h.at_.keep,h.at_.eU.grown hg h.at_.size fun g e=>by injection e with e;omega⟩,h.ext,h.rZ,h.Zn,fC hg (by simp) h.box,(hg.block _ (by omega) (fun e=>by injection e with e;omega)).trans h.O,hr,rk,rt,rh⟩
end
theorem aQ.L8{E:TypeId}{I0 J:IH}(h:aQ T E I0 w B v l)(h0:∀b,I0 b=none)(hw:Ok J w)(hI:∀g,v.ownBlock=some g→J g=none):
 ∃J',(∀b c,J b=some c→J' b=some c)∧Ok J' w∧aZ T J' v l:=by
 obtain⟨xs,⟨h1,Kk⟩,h2⟩:=h;rcases Kk with⟨rfl,h0'⟩|⟨g,cap,cur,rfl,hb,hg,Kl,iv,jf,ht⟩
 ·have:l=[]:=List.eq_nil_of_length_eq_zero h0';subst this;exact⟨J,fun _ _ h=>h,hw,aZ.nil T J⟩
 ·have Q5:=hI g (by simp[Value.ownBlock]);have mM:∀b c,J b=some c→(J.add g cur) b=some c:=fun b c hc=>by
   unfold IH.add;by_cases e:b=g
   ·subst e;rw[Q5]at hc;cases hc
   ·rw[if_neg e];exact hc
  refine⟨J.add g cur,mM,hw.add hg,⟨_,cap,rfl,Kl,iv,fun _=>⟨g,0,cur,rfl,by simp[IH.add],fun i hi=> ?_⟩⟩⟩;obtain⟨cs,k1,k2⟩:=h2.2 i hi;refine⟨cs,T.mono (fun b c hc=>by rw[h0 b]at hc;cases hc) k1,fun j u hu=> ?_⟩;have hx:=k2 j u hu;rw[←ht,List.getElem?_take]at hx;split at hx
  ·rw[Nat.zero_add,←Array.getElem?_toList];exact hx
  ·cases hx
theorem Xda{P:Program}{I:IH}{ts te:TypeId}{bytes:Nat}(hE:eZ P ts te T bytes){ops:Array Oper}{rest:List Oper}{o:Oper}{a:Act}{Q:Exit→Act→World→Prop}(Ak:o.guard=none)(s x:Operand)
 (ho:o.op= .call {callee:= .builtin .append,args:=#[s,x],argTypes:=#[ts,ts]})    (hs:a.eval s=v) (bU:aQ T te I w B v l) {vx:Value} {ys:List α} (hx:a.eval x=vx) (hy:jY T I w vx ys)
 (iw:(l.length+ys.length)*bytes≤140737488355328) (hl:l.length+ys.length≤9223372036854775807) (hB:B≤w.heap.size)
 (h:∀v' w',aQ T te I w' B v' (l++ys)→w.grownBy w' v.ownBlock→(∀g,v'.ownBlock=some g→v.ownBlock=some g∨w.heap.size≤g)→wpList P ops Q rest (a.put o.dst v') w'):wpList P ops Q (o::rest) a w:=
 wpList_plain Ak fun _ hK=>G8 hE s x ho hs bU hx hy iw hl hB fun v' w' h1 h2 h3=>hK _ _ (h v' w' h1 h2 h3)
theorem lD.own{w':World}{s:bV}{ve:Value}{row:Option Nat}(h:lD w n s ve)(hg:w.grownBy w' row)(bq:row≠some n):lD w' n s ve:=
 ⟨fC hg bq h.c0,fC hg bq h.c1,fC hg bq h.c2,fC hg bq h.c3,fC hg bq h.c4,fC hg bq h.c5⟩
theorem Xrg(L:List bV)(k:Nat):bT (L.take k)=(bT L).take k:=by unfold bT;rw[List.map_take]
theorem ZN(hk:k<L.length)(hx:L[k]=x):bT (L.take (k+1))=bT (L.take k)++[x.aU]:=by
 rw[List.take_succ_eq_append_getElem hk,hx,Xrh]
def Gz(I:IH)(w:World)(L:List bV)(r:Ending)(w':World):Prop:=
 ∃vk vt vh J,r= .returned (gP ⟨0,0,[],[],bB L,(aP aN L).aF,(aP aN L).holds⟩ (.slice none 0 0) vk vt vh)∧Below w.heap.size w w'∧Ext w.heap.size I J∧Ok J w'∧aZ si J vk (bB L).aJ∧aZ bM J vt (aP aN L).aF∧aZ ku J vh (aP aN L).holds
theorem Xrm(I:IH)(hI:fG I)(ai dt sp:Int)(L:List bV)(h:eT n m L)(hn:n≤150)(hm:m≤254)(vs:Value)(fV:aZ fw I vs L)(w:World)(hw:Ok I w):
 Calls Tryz.prog 23 #[bW ai dt sp vs] w (Gz I w L):=by
 have hlen:=h.len;have HA:=Qh h;have HG:=Qh hI;have ma:=Qh fV;have oM:=Qh (show(Tryz.prog.info? 46).map (·.size)=some 9 by kernel_rfl);obtain⟨so,sc,rfl,_,_,_⟩:=id fV;obtain⟨W3,tY⟩:∃W3,(((w.alloc (.cells #[.int .u32 ai,.int .i64 dt,.int .i64 sp,.slice so L.length sc] 30)).alloc (.cells aY 46)).alloc (.cells aY 46))=W3:=⟨_,rfl⟩;obtain⟨oD,rX,pK,mF⟩:=MC w _ _ _ _ _ _ W3 tY;have A3:=Qh (show lJ I w I W3 by rw[←tY];exact(((lJ.start hw).past _).past _).past _);have z3:W3.cell? ⟨w.heap.size,3,none⟩=some (.slice so L.length sc):=(cell_of_row _ _ 3 _ _ _ rX).trans rfl
 have M0:=Qh (show um I w (.slice so L.length sc) I W3 aN AP (.slice none 0 0) (.slice none 0 0) (.slice none 0 0)from
  ⟨A3.O,Ext.refl _ _,hw.fresh (by omega),hw.fresh (by omega),z3,pK,mF,aZ.nil _ _,aZ.nil _ _,aZ.nil _ _⟩)
 clear h hI fV rX pK mF A3;go_enter Tryz.func23,Tryz.ntmps23
 go_wp2_with fail
 clear tY z3;go_loopw [4,18] (fun s4 s18 wr=> ∃(k:Nat) (J:IH) (vk vt vh:Value),k≤L.length∧s18= .int .i64 k∧aQ iE 9 (fun _=>none) wr (w.heap.size+3) s4 (bT (L.take k))∧(∀g,s4.ownBlock=some g→J g=none)∧um I w (.slice so L.length sc) J wr (aP aN (L.take k)) (nA (bT L) L k) vk vt vh) (fun _ i _=>L.length-(intOf i).toNat)
 case atStart=>exact⟨0,I,_,_,_,Nat.zero_le _,rfl,aQ.nil _ _ _ _ _,fun g e=>by simp[Value.ownBlock]at e,M0.O⟩
 case round=>
  clear M0;obtain⟨k,J,vk,vt,vh,hk,rfl,hO,yU,hM⟩:=hrel;have M:=Qh hM;have HO:=Qh hO;have AB:=Qh yU;clear hM hO yU;by_cases hlt:k<L.length
  ·obtain⟨x,ve,b,off,cap',cB,dC,⟨c0,c1,c2,c3,c4,c5⟩,h1⟩:=Cx (ma.O.mono M.O.at_.keep) M.O.at_.ok k hlt;cases dC;have pM:=Qh cB;have uU:x.aB.length≤150:=Nat.le_trans (HA.O.aB (by rw[←cB];exact List.getElem_mem hlt)) hn;have Hb:=Qh (ZQ HA.O hn hm hlt cB);have Aq:=Qh h1;obtain⟨eo,ec,rfl,_,_,_⟩:=id h1;have m1:IntKind.i64.wrap ((k:Int)+1)=(k:Int)+1:=IntWalk.i64_in _ (by omega);have oh:(bT (L.take k)).length=k:=by simp[bT];omega
   have F6:=Qh oh;have SN:=M.O.at_.size;have hMl:=M.O.lt;clear cB h1 oh
   go_wp2_with (at_builtin
                refine Xda Oq rfl _ _ rfl (B:=w.heap.size+3) rfl ((HO.O.alloc _).alloc _) (vx:= .slice (some ⟨(wr.alloc (.cells #[.int .i64 x.num,.int .i64 x.aA,S x.bE,.slice eo x.aB.length ec,S x.aU,S x.sl] 56)).heap.size,0,none⟩) 1 1) (by simp[Act.eval]) (jY.mo (T:=iE) (x:=x.aU) (cs:=[S x.aU]) rfl (fun j u hu=>by rw[World.cell?_alloc_new];simpa using hu)) (by rw[F6.O];simp;omega) (by rw[F6.O];simp;omega) (by simp;omega) ?_;intro v5 w5 KA hg5 ZJ;have M5:=Qh (((M.O.past (.cells #[.int .i64 x.num,.int .i64 x.aA,S x.bE,.slice eo x.aB.length ec,S x.aU,S x.sl] 56)).past (.cells #[S x.aU] 9)).own hg5 (fun g e=>⟨AB.O g e,HO.O.rf e⟩));have Ep:=M5.O.row;have z4:w5.cell? ⟨w.heap.size+2,4,none⟩=some vk:=(cell_of_row _ _ 4 _ _ _ Ep).trans rfl;have z5:w5.cell? ⟨w.heap.size+2,5,none⟩=some (.int .i64 (nA (bT L) L k).bg):=(cell_of_row _ _ 5 _ _ _ Ep).trans rfl;have z6:w5.cell? ⟨w.heap.size+2,6,none⟩=some (S (nA (bT L) L k).str):=(cell_of_row _ _ 6 _ _ _ Ep).trans rfl)
   have HO5:=Qh (show aQ iE 9 (fun _=>none) w5 (w.heap.size+3) v5 (bT (L.take (k+1))) by rw[ZN hlt pM.O];exact KA);have Wm:∀g,v5.ownBlock=some g→J g=none:=fun g e=>(ZJ g e).elim (AB.O g) (fun q=>M.O.at_.ok.fresh (by simp at q;omega));have Gq:=hg5.size;rw[World.size_alloc,World.size_alloc]at Gq;have ME:=Qh (lD.own ((GD (W:=wr) (s:=x) (ve:= .slice eo x.aB.length ec) (t:=56) rfl (Qb _ _)).past (.cells #[S x.aU] 9)) hg5 (HO.O.sO (Qn _)));have lC:=Qh (Xpl J (nA (bT L) L k) vk M5.O.rk (by have:=Hb.O.2;omega) ((k:Int)+1) w5 M5.O.at_.ok);rw[Hb.O.1]at lC;clear KA hg5 ZJ M HO AB c0 c1 c2 c3 c4 c5;refine lC.O.mono ?_;rintro e6 w6 ⟨MF,J6,rfl,gF,kW,fF,wY⟩;obtain⟨Cy,Cz,rfl,_,_,_⟩:=id wY;have M6:=Qh (M5.O.aR gF kW fF);have HO6:=Qh (HO5.O.below gF);have aex:∀g,v5.ownBlock=some g→J6 g=none:=fun g e=>(kW g (xk HO5.O e).2).trans (Wm g e);have KC:=Qh (ME.O.aR gF);have GG:=Qh (Aq.O.mono (fun b c hc=>kW.keep M5.O.at_.ok (Qn _) b c (hc)));have vK:=gF.size;have MG:=M6.O.row;clear M5 z4 z5 z6 Ep lC gF kW fF HO5 Wm ME Aq
   go_wp2_with (refine fO rfl rfl 43 _ _ rfl (w.heap.size+2) 4 [.slice Cy (eD L k x 0).aJ.length Cz,.int .i64 (eD L k x 0).bg,S (eD L k x 0).str] (fD (eD L k x 0) (.slice Cy (eD L k x 0).aJ.length Cz)) (by simp[Act.eval]) (by simp[Act.eval]) (by rfl) _ 46 MG (by simp) (by kernel_rfl) (by simp[Value.oneCell']) #[.int .i64 0,.int .i64 0,.string ⟨#[]⟩,.slice none 0 0,.slice Cy (eD L k x 0).aJ.length Cz,.int .i64 (eD L k x 0).bg,S (eD L k x 0).str,vt,vh] (by rfl) ?_
                intro w7 iy gN;have d3:=(KC.O.own iy (by simp;omega)).c3)
   have M7:=Qh (M6.O.put (S1:=lS L k x 0) iy gN wY M6.O.rt M6.O.rh);have HO7:=Qh (HO6.O.kept iy (.inr (HO6.O.dm (by omega))));have GH:=Qh (KC.O.own iy (by simp;omega));have xV:=iy.size;obtain⟨n6,ui⟩:∃n6,n6=wr.heap.size:=⟨_,rfl⟩;rw[←ui]at GH ⊢;have Tj:w.heap.size+3≤n6∧n6<w7.heap.size:=by omega
   clear d3 MG iy gN M6 HO6 KC wY ui Gq vK xV;go_loopw [40] (fun s40 wr=> ∃(j:Nat) (K:IH) (vk vt vh:Value),j≤x.aB.length∧s40= .int .i64 j∧aQ iE 9 (fun _=>none) wr (w.heap.size+3) v5 (bT (L.take (k+1)))∧(∀g,v5.ownBlock=some g→K g=none)∧(∀b c,J6 b=some c→K b=some c)∧lD wr n6 x (.slice eo x.aB.length ec)∧um I w (.slice (some ⟨b,off,none⟩) L.length sc) K wr (lS L k x j) (eD L k x j) vk vt vh) (fun i _=>x.aB.length-(intOf i).toNat)
   case atStart=>exact⟨0,J6,_,_,_,Nat.zero_le _,rfl,HO7.O,aex,fun _ _ h=>h,GH.O,M7.O⟩
   case round=>
    clear M7 HO7 GH;obtain⟨j,K,vk,vt,vh,hj,rfl,hO,yU,Gp,zy,hM⟩:=hrel;have M:=Qh hM;have HO:=Qh hO;have AB:=Qh yU;have CB:=Qh Gp;have SB:=Qh zy;clear hM hO yU Gp zy;by_cases uj:j<x.aB.length
    ·obtain⟨e,va,vx,b2,mh,cap2,ul,dC,⟨c0,c1,c2,c3,c4,c5,c6⟩,h2,h3⟩:=wD (GG.O.mono CB.O) M.O.at_.ok j uj;cases dC;obtain⟨aa,ca,rfl,_,_,_⟩:=id h2;obtain⟨ax,cx,rfl,_,_,_⟩:=id h3;have Hs:=Qh (ZR HA.O hn hm hlt pM.O uj ul);have Hq:=Qh (ZT L k uj ul);have Ht:=Qh (ZU L k uj ul);obtain⟨kt,kh,ke⟩:=ZV Hs.O.ZW;have MH:=Qh kt;have MI:=Qh kh;have Hke:=Qh ke;have MJ:=Qh h2;have GI:=Qh h3;have hwM:=M.O.lt;clear ul h2 h3 kt kh ke;obtain⟨n8,AQ⟩:∃n8,n8=wr.heap.size:=⟨_,rfl⟩;go_upto_if 46 with fail
     have EB:=Qh (dP (W:=wr) (e:=e) (va:= .slice aa e.ag.length ca) (vx:= .slice ax e.aC.length cx) (t:=63) AQ (Qb _ _));rw[←AQ];obtain⟨wA,AR⟩:∃wA,wr.alloc (.cells #[.int .i64 e.av,S e.aj,.slice aa e.ag.length ca,S e.target,.int .i64 e.size,S e.aD,.slice ax e.aC.length cx] 63)=wA:=⟨_,rfl⟩;rw[AR]at EB ⊢;have MA:=Qh (M.O.past (.cells #[.int .i64 e.av,S e.aj,.slice aa e.ag.length ca,S e.target,.int .i64 e.size,S e.aD,.slice ax e.aC.length cx] 63));have Ik:=Qh (HO.O.alloc (.cells #[.int .i64 e.av,S e.aj,.slice aa e.ag.length ca,S e.target,.int .i64 e.size,S e.aD,.slice ax e.aC.length cx] 63));have AU:=Qh (SB.O.past (.cells #[.int .i64 e.av,S e.aj,.slice aa e.ag.length ca,S e.target,.int .i64 e.size,S e.aD,.slice ax e.aC.length cx] 63));rw[AR]at MA Ik AU;have GJ:w.heap.size+3≤n8:=by omega
     clear AR M HO SB c0 c1 c2 c3 c4 c5 c6 AQ;have AV:=MA.O.row;have z4:wA.cell? ⟨w.heap.size+2,4,none⟩=some vk:=(cell_of_row _ _ 4 _ _ _ AV).trans rfl;have z5:wA.cell? ⟨w.heap.size+2,5,none⟩=some (.int .i64 (eD L k x j).bg):=(cell_of_row _ _ 5 _ _ _ AV).trans rfl;have z6:wA.cell? ⟨w.heap.size+2,6,none⟩=some (S (eD L k x j).str):=(cell_of_row _ _ 6 _ _ _ AV).trans rfl;go_cut [9,10] (fun s9 s10 wx=> ∃(K':IH) (oo:Value),aQ iE 9 (fun _=>none) wx (w.heap.size+3) v5 (bT (L.take (k+1)))∧(∀g,v5.ownBlock=some g→K' g=none)∧(∀b c,K b=some c→K' b=some c)∧lD wx n6 x (.slice (some ⟨b2,mh,none⟩) x.aB.length ec)∧bP wx n8 e (.slice aa e.ag.length ca) (.slice ax e.aC.length cx)∧um I w (.slice (some ⟨b,off,none⟩) L.length sc) K' wx (lS L k x j) (mi (bT L) (eD L k x j) e) oo vt vh)
     case first=>
      by_cases ql:e.av=1;case neg=>
       have f1:(e.av==1)=false:=by simpa using ql
       have Hn:=Qh (show mi (bT L) (eD L k x j) e=eD L k x j from if_neg ql);clear ql;go_wp2_with fail
       go_meet;exact⟨K,vk,Ik.O,AB.O,fun _ _ h=>h,AU.O,EB.O,by rw[Hn.O];exact MA.O⟩
      case pos=>
       have f1:(e.av==1)=true:=by simpa using ql
       obtain⟨ct,cn,EY⟩:∃ct cn,tF (bT L) e.aC=(ct,cn):=⟨_,_,rfl⟩;have bO:ct.length≤65536:=by have:=Xo (bT L) e.aC;rw[EY]at this;exact this
       obtain⟨q2,GK,n2,sZ⟩:∃q2 GK n2,jA (eD L k x j) ct=(q2,GK,n2):=⟨_,_,_,rfl⟩;have Hn:=Qh (show mi (bT L) (eD L k x j) e=q2 by rw[mi,if_pos ql,EY,sZ]);obtain⟨K9,Zm,jD,fB⟩:=Ik.O.L8 (fun _=>rfl) MA.O.at_.ok AB.O;have CE:=Qh (Xx6 K9 v5 (.slice ax e.aC.length cx) (bT (L.take (k+1))) e.aC fB (GI.O.mono Zm) (fun s hs=>by
        obtain⟨y,hy,rfl⟩:=List.mem_map.1 hs;obtain⟨i,hi,he⟩:=List.getElem_of_mem (List.mem_of_mem_take hy);have:=(HA.O.at_ hi he).aU;omega) wA jD)
       rw[Xrg,Xsy (bT L) (k+1) Hs.O.xs (by simp[bT];omega),EY]at CE;have MK:=Qh (fun w hw=>(by
        have yQ:=Hs.O.bf;have:=Xvt 4294901760 10000000 (by decide) (by decide) K (eD L k x j) vk MA.O.rk ⟨by have:=yQ.s0;omega,by have:=yQ.s1;omega,yQ.str,Hs.O.aJ,fun k hk=>(yQ.cx k hk).x⟩ (fun k hk=>(yQ.cx k hk).d) ct (by omega) w hw;rwa[sZ]at this:Calls Tryz.prog 50 #[fD (eD L k x j) vk,S ct] w (CF K w (q2,GK,n2))))
       have x6:=EB.O.c6;clear ql EY sZ Zm jD fB;go_wp2_with fail
       refine CE.O.mono ?_;rintro e10 mf ⟨rfl,iJ⟩;have l8:=Qh (MA.O.quiet iJ);have uo:=l8.O.row;have z4:mf.cell? ⟨w.heap.size+2,4,none⟩=some vk:=(cell_of_row _ _ 4 _ _ _ uo).trans rfl;have z5:mf.cell? ⟨w.heap.size+2,5,none⟩=some (.int .i64 (eD L k x j).bg):=(cell_of_row _ _ 5 _ _ _ uo).trans rfl;have z6:mf.cell? ⟨w.heap.size+2,6,none⟩=some (S (eD L k x j).str):=(cell_of_row _ _ 6 _ _ _ uo).trans rfl;have Bf:=Qh (Ik.O.below iJ);have AX:=Qh (AU.O.aR iJ);have AY:=Qh (EB.O.aR iJ);clear iJ CE MA Ik AU EB AV x6;go_wp2_with fail
       refine(MK.O mf l8.O.at_.ok).mono ?_;rintro e11 sM ⟨Tk,Tm,Ro,rfl,mO,wE,jS,vS,AZ⟩;obtain⟨ak,ck,rfl,_,_,_⟩:=id vS;obtain⟨ay,cy,rfl,_,_,_⟩:=id AZ;have vT:=Qh (l8.O.aR mO wE jS);have GL:=vT.O.row;have AQ:=block_lt_of_cell AY.O.c0;have ui:=block_lt_of_cell AX.O.c0;have Wn:=Qh (Bf.O.below mO);have GM:=Qh (AX.O.aR mO);have nC:=Qh (AY.O.aR mO);have Wo:∀g,v5.ownBlock=some g→Ro g=none:=fun g e=>(wE g (xk Bf.O e).2).trans (AB.O g e);have GN:=wE.keep l8.O.at_.ok (Qn _);clear mO wE jS l8 uo z4 z5 z6 MK
       go_wp2_with (refine fO rfl rfl 43 _ _ rfl (w.heap.size+2) 4 [.slice ak q2.aJ.length ck,.int .i64 q2.bg,S q2.str] (fD q2 (.slice ak q2.aJ.length ck)) (by simp[Act.eval]) (by simp[Act.eval]) (by rfl) _ 46 GL (by simp) (by kernel_rfl) (by simp[Value.oneCell']) #[.int .i64 0,.int .i64 0,.string ⟨#[]⟩,.slice none 0 0,.slice ak q2.aJ.length ck,.int .i64 q2.bg,S q2.str,vt,vh] (by rfl) ?_
                    intro Tn iK zz)
       go_meet;have Tp:w.heap.size+3≤n8:=GJ;rw[Hn.O]
       exact⟨Ro,_,Wn.O.kept iK (.inr (Wn.O.dm (by omega))),Wo,GN,GM.O.own iK (by simp;omega),⟨fC iK (by simp;omega) nC.O.c0,fC iK (by simp;omega) nC.O.c1,fC iK (by simp;omega) nC.O.c2,fC iK (by simp;omega) nC.O.c3,fC iK (by simp;omega) nC.O.c4,fC iK (by simp;omega) nC.O.c5,fC iK (by simp;omega) nC.O.c6⟩,
        vT.O.put iK zz vS vT.O.rt vT.O.rh⟩
     case rest=>
     obtain⟨K',oo,hO,yU,Ce,zy,ML,hM⟩:=hcut;have M1:=Qh hM;have HO1:=Qh hO;have Wp:=Qh yU;have MM:=Qh (fun b c hc=>Ce b c (CB.O b c hc));have GQ:=Qh zy;have yV:=Qh ML;have Ba:=Qh (MJ.O.mono Ce);have Bb:=Qh (GI.O.mono Ce);clear hM hO yU Ce zy ML MA Ik AU EB z4 z5 z6 AV AB CB MJ GI;obtain⟨S1,NW⟩:∃S1,(fK (lS L k x j) e x.aA).1=S1:=⟨_,rfl⟩;obtain⟨q1,rF⟩:∃q1,mi (bT L) (eD L k x j) e=q1:=⟨_,rfl⟩;rw[NW]at MH MI Ht;rw[rF]at Hq M1;have zA:=Qh (Xpi K' (HG.O.mono M1.O.at_.keep) vt (lS L k x j).aF M1.O.rt Hs.O.sin.GR Hs.O.sin.ok.aF.Ir (by have:=Hs.O.sin.ok.Bc;omega) e _ _ Ba.O Bb.O Hs.O.wf (by have:=Hs.O.aj;omega) (by have:=Hs.O.target;omega) _ M1.O.at_.ok);rw[MH.O]at zA;obtain⟨at7,ct7,rfl,_,_,_⟩:=id M1.O.rt;obtain⟨x0,x1,x2,x3,x4,x5,x6⟩:=yV.O;have z7:wc.cell? ⟨w.heap.size+2,7,none⟩=some _:=(cell_of_row _ _ 7 _ _ _ M1.O.row).trans rfl;clear NW rF;go_wp2_with fail
     refine zA.O.mono ?_;rintro e2 w2 ⟨Xp,K2,rfl,aL,mK,bn,rY⟩;obtain⟨at2,wF,rfl,_,_,_⟩:=id rY;have M2:=Qh (M1.O.aR aL mK bn);have HO2:=Qh (HO1.O.below aL);have ui:=block_lt_of_cell GQ.O.c0;have AQ:=block_lt_of_cell yV.O.c0;have GU:=Qh (GQ.O.aR aL);have vU:=Qh (yV.O.aR aL);have uV:=mK.keep M1.O.at_.ok (Qn _);have Wq:=Qh (show ∀g,v5.ownBlock=some g→K2 g=none from fun g e=>(mK g (xk HO1.O e).2).trans (Wp.O g e));have Tq:=Qh (fun b c hc=>uV b c (MM.O b c hc));have NY:=M2.O.row;have pV:=aL.size;clear x0 x1 x2 x3 x4 x5 x6 z7 zA aL mK bn M1 HO1 GQ yV Wp MM
     go_wp2_with (refine fO rfl rfl 40 _ _ rfl (w.heap.size+2) 7 [.slice at2 S1.aF.length wF] (.slice at2 S1.aF.length wF) (by simp[Act.eval]) (by simp[Act.eval]) (by rfl) _ 46 NY (by simp) (by kernel_rfl) (by simp[Value.oneCell']) #[.int .i64 0,.int .i64 0,.string ⟨#[]⟩,.slice none 0 0,oo,.int .i64 q1.bg,S q1.str,.slice at2 S1.aF.length wF,vh] (by rfl) ?_
                  intro w3 iX jK;have z8:w3.cell? ⟨w.heap.size+2,8,none⟩=some vh:=(cell_of_row _ _ 8 _ _ _ jK).trans rfl;have x0:=fC iX (by simp;omega) vU.O.c0;have x1:=fC iX (by simp;omega) vU.O.c1;have x2:=fC iX (by simp;omega) vU.O.c2;have x3:=fC iX (by simp;omega) vU.O.c3;have x4:=fC iX (by simp;omega) vU.O.c4;have x5:=fC iX (by simp;omega) vU.O.c5;have x6:=fC iX (by simp;omega) vU.O.c6;have y1:=(GU.O.own iX (by simp;omega)).c1)
     have M3:=Qh (M2.O.put (S1:=⟨S1.aF,(lS L k x j).holds⟩) iX jK M2.O.rk rY M2.O.rh);have HO3:=Qh (HO2.O.kept iX (.inr (HO2.O.dm (by omega))));have MN:=Qh (GU.O.own iX (by simp;omega));have yn:=iX.size;have iA:=Qh (Xow K2 (HG.O.mono M3.O.at_.keep) vh (lS L k x j).holds M3.O.rh Hs.O.sin.ok.holds (by have:=Hs.O.sin.ok.hlen;omega) e _ _ (Ba.O.mono uV) (Bb.O.mono uV) Hs.O.err x.aA w3 M3.O.at_.ok);rw[MI.O]at iA;clear iX jK M2 HO2 GU vU NY;refine iA.O.mono ?_;rintro e4 w4 ⟨Z4,K4,rfl,aS,pX,dz,Bd⟩;obtain⟨CG,CJ,rfl,_,_,_⟩:=id Bd;have M4:=Qh (M3.O.aR aS pX dz);have HO4:=Qh (HO3.O.below aS);have Tt:=Qh (MN.O.aR aS);have Ag:=pX.keep M3.O.at_.ok (Qn _);have aeB:=Qh (show ∀g,v5.ownBlock=some g→K4 g=none from fun g e=>(pX g (xk HO3.O e).2).trans (Wq.O g e));have Tu:=M4.O.row;have Cv:=aS.size;clear x0 x1 x2 x3 x4 x5 x6 z8 y1 iA aS pX dz M3 HO3 MN Wq
     go_wp2_with (refine fO rfl rfl 44 _ _ rfl (w.heap.size+2) 8 [.slice CG S1.holds.length CJ] (.slice CG S1.holds.length CJ) (by simp[Act.eval]) (by simp[Act.eval]) (by rfl) _ 46 Tu (by simp) (by kernel_rfl) (by simp[Value.oneCell']) #[.int .i64 0,.int .i64 0,.string ⟨#[]⟩,.slice none 0 0,oo,.int .i64 q1.bg,S q1.str,.slice at2 S1.aF.length wF,.slice CG S1.holds.length CJ] (by rfl) ?_
                  intro w5 hg5 oN)
     go_roundw
     case rel=>exact⟨j+1,K4,_,_,_,by omega,by go_num,HO4.O.kept hg5 (.inr (HO4.O.dm (by omega))),aeB.O,fun b c hc=>Ag b c (Tq.O b c hc),Tt.O.own hg5 (by simp;omega),
      by rw[Hq.O,Ht.O];exact M4.O.put hg5 oN M4.O.rk M4.O.rt Bd⟩
     case measure=>simp[intOf];omega
    ·have GV:j=x.aB.length:=by omega
     subst GV;go_wp2;go_roundw;case rel=>exact⟨k+1,K,_,_,_,by omega,by go_num,HO.O,AB.O,by rw[←Z5 hlt pM.O,←Z7 hlt pM.O];exact M.O⟩
     case measure=>simp[intOf];omega
  ·have mJ:k=L.length:=by omega
   subst mJ;have aK:=M.O.row;have z0:wr.cell? ⟨w.heap.size+2,0,none⟩=some _:=(cell_of_row _ _ 0 _ _ _ aK).trans rfl;have z1:wr.cell? ⟨w.heap.size+2,1,none⟩=some _:=(cell_of_row _ _ 1 _ _ _ aK).trans rfl;have z2:wr.cell? ⟨w.heap.size+2,2,none⟩=some _:=(cell_of_row _ _ 2 _ _ _ aK).trans rfl;have z3:wr.cell? ⟨w.heap.size+2,3,none⟩=some _:=(cell_of_row _ _ 3 _ _ _ aK).trans rfl;have z4:wr.cell? ⟨w.heap.size+2,4,none⟩=some _:=(cell_of_row _ _ 4 _ _ _ aK).trans rfl;have z5:wr.cell? ⟨w.heap.size+2,5,none⟩=some _:=(cell_of_row _ _ 5 _ _ _ aK).trans rfl;have z6:wr.cell? ⟨w.heap.size+2,6,none⟩=some _:=(cell_of_row _ _ 6 _ _ _ aK).trans rfl;have z7:wr.cell? ⟨w.heap.size+2,7,none⟩=some _:=(cell_of_row _ _ 7 _ _ _ aK).trans rfl;have z8:wr.cell? ⟨w.heap.size+2,8,none⟩=some _:=(cell_of_row _ _ 8 _ _ _ aK).trans rfl;have hl:=M.O.lt;rw[List.take_length,Ot]at M;rw[Ot]at z5 z6 aK;obtain⟨ak,ck,rfl,_,_,_⟩:=id M.O.rk;obtain⟨at',jT,rfl,_,_,_⟩:=id M.O.rt;obtain⟨ah,ch,rfl,_,_,_⟩:=id M.O.rh;have bR:=M.O.O;clear aK
   go_wp2_with (refine fO rfl rfl 46 _ _ rfl (w.heap.size+1) 0 (dA ⟨0,0,[],[],bB L,(aP aN L).aF,(aP aN L).holds⟩ (.slice none 0 0) (.slice ak (bB L).aJ.length ck) (.slice at' (aP aN L).aF.length jT) (.slice ah (aP aN L).holds.length ch)) (gP ⟨0,0,[],[],bB L,(aP aN L).aF,(aP aN L).holds⟩ (.slice none 0 0) (.slice ak (bB L).aJ.length ck) (.slice at' (aP aN L).aF.length jT) (.slice ah (aP aN L).holds.length ch)) (by simp[Act.eval]) (by simp[Act.eval]) (by rfl) _ 46 bR (by simp) (by kernel_rfl) (by simp[Value.oneCell']) (dA ⟨0,0,[],[],bB L,(aP aN L).aF,(aP aN L).holds⟩ (.slice none 0 0) (.slice ak (bB L).aJ.length ck) (.slice at' (aP aN L).aF.length jT) (.slice ah (aP aN L).holds.length ch)).toArray (by rfl) ?_
                intro w9 bK fB)
   refine bodyPost_ret (results_cell_row rfl _ _ (w.heap.size+1) _ (dA ⟨0,0,[],[],bB L,(aP aN L).aF,(aP aN L).holds⟩ (.slice none 0 0) (.slice ak (bB L).aJ.length ck) (.slice at' (aP aN L).aF.length jT) (.slice ah (aP aN L).holds.length ch)).toArray (0,0) _ rfl fB Tryz.underlying46 rfl oM.O) rfl ?_;exact⟨_,_,_,J,rfl,M.O.at_.eU.grown bK M.O.at_.size (fun k e=>by injection e with e;omega),M.O.ext,M.O.at_.ok.grown bK (fun g e=>by injection e with e;subst e;exact M.O.rZ),M.O.rk,M.O.rt,M.O.rh⟩
