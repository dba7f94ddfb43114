/-
  Walks and laws that the claim's theorem uses: texts CtR SnC SnN SnO, joined; comments out. Conditions: as each theorem says.
-/
import Derived.Test.YtmdfjnhfhidmhaaGreatDoorK33
set_option linter.all false
namespace Go.Proofs.YtmdfjnhfhidmhaaGreatDoor
open Go.RowKit
end Go.Proofs.YtmdfjnhfhidmhaaGreatDoor
namespace Go.Proofs.YtmdfjnhfhidmhaaGreatDoor
def Rds (st:List Bytes) (x:Xt) (d:Bytes):Prop:=
 (x.s=0∧x.o=0∧0≤x.n∧d=List.replicate x.n.toNat 0)∨
 (1≤x.s∧x.s≤st.length∧0≤x.o∧0≤x.n∧x.o+x.n≤(strAtP st x).length∧d=((strAtP st x).drop x.o.toNat).take x.n.toNat)
def RdsL (st:List Bytes):List Xt→Bytes→Prop
 | [],d=>d= []
 |x::l,d=> ∃a b,d=a++b∧Rds st x a∧RdsL st l b
theorem Rds.len {st:List Bytes} {x:Xt} {d:Bytes} (h:Rds st x d):0≤x.n∧(d.length:Int)=x.n:=by
 rcases h with ⟨_,_,h,rfl⟩|⟨_,_,h0,h1,h2,rfl⟩
 ·rw [List.length_replicate];omega
 ·rw [List.length_take,List.length_drop];omega
theorem Xll {st:List Bytes}:∀ {l:List Xt} {d out:Bytes},RdsL st l d→out.length+d.length≤65536→getG st l out=(out++d,0)
 | [],d,out,h,_=>by
   have h:d= []:=h
   subst h
   rw [List.append_nil];rfl
 |x::l,d,out,⟨a,b,e,h1,h2⟩,hl=>by
  subst e
  rw [List.length_append] at hl
  have hn:=h1.len
  have ih:=Xll (out:=out++a) h2 (by rw [List.length_append];omega)
  rw [List.append_assoc] at ih
  rw [getG]
  rcases h1 with ⟨z0,z1,z2,rfl⟩|⟨z0,z1,z2,z3,z4,rfl⟩
  ·rw [if_neg (by rw [Xew (by omega) (by omega) (by omega) (by omega) (by omega)];decide),if_neg (by omega),if_neg (by omega),if_pos z0]
   exact ih
  ·rw [if_neg (by rw [Xew (by omega) (by omega) (by omega) (by omega) (by omega)];decide),if_neg (by omega),if_neg (by omega),if_neg (by omega)]
   exact ih
theorem Xq8 {st:List Bytes} {l:List Xt} {d:Bytes} (h:RdsL st l d) (hl:d.length≤65536):getP st l=(d,0):=by
 have:=Xll (out:= []) h (by simpa using hl)
 simpa [getP] using this
def Longer (st st':List Bytes):Prop:=st.length≤st'.length∧ ∀i:Nat,i<st.length→ ∃t,st'.getD i []=st.getD i []++t
def segB (g:Sg):Bytes:=if g.d= [] then List.replicate g.n.toNat 0 else g.d
def chunksOf (cs:List Bytes):List Bytes:=cs.flatMap fun c=>(segsP c).flatMap fun g=>chunksP g.d
def collFrom:List Bytes→List Bytes→Bool
 |_,[]=>false
 |pre,c::l=>(pre.any fun p=>sumP p==sumP c&&p != c) || collFrom (pre++ [c]) l
def collP (cs:List Bytes):Bool:=collFrom [] (chunksOf cs)
def Inj (U:List Bytes):Prop:= ∀a∈U,∀b∈U,sumP a=sumP b→a=b
structure StR (A:List Bytes) (U:List Bytes) (q:Sto):Prop where
 ses:q.ses=(A.length:Nat)+1
 cks:∀k∈q.cks,∃d∈U,k.d=sumP d∧Rds (A++ [q.str]) k.x d
structure PtR (A U:List Bytes) (p:Sto × List Xt) (a:Bytes) (p':Sto × List Xt):Prop where
 st:StR A U p'.1
 rd:RdsL (A++ [p'.1.str]) p'.2 a
 grow:∃t,p'.1.str=p.1.str++t
structure EntR (st:List Bytes) (e:Ent) (c:Chg):Prop where
 kind:e.kind=c.kind
 path:e.path=c.path
 size:e.size=(c.content.length:Nat)
 rd:RdsL st e.exts c.content
 small:c.content.length≤1000
def EntsR (st:List Bytes):List Ent→List Chg→Prop
 | [],[]=>True
 |e::l,c::m=>EntR st e c∧EntsR st l m
 |_,_=>False
def stoD (q:Sto) (c:Chg):Sto:=if c.kind=1 then (putP q c.content).1 else q
theorem Xu6 {st:List Bytes}:∀ {l:List Ent} {m:List Chg} {q:Sto},EntsR st l m→l.foldl (stoE st) q=m.foldl stoD q
 | [],[],_,_=>rfl
 |e::l,c::m,q,⟨h1,h2⟩=>by
  have e1:stoE st q e=stoD q c:=by
   unfold stoE stoD
   rw [h1.kind,Xq8 h1.rd (by have:=h1.small;omega)]
  rw [List.foldl_cons,List.foldl_cons,e1]
  exact Xu6 h2
 | [],_::_,_,h=>h.elim
 |_::_,[],_,h=>h.elim
structure DrR (L:List Ses) (U:List Bytes) (d:Drf) (m:List Chg):Prop where
 ents:EntsR (strsP L++ [d.sto.str]) d.ents m
 sto:d.sto=m.foldl stoD ⟨(repQ L).cks,(L.length:Nat)+1,[]⟩
 st:StR (strsP L) U d.sto
structure WrR (U:List Bytes) (want:List (List Chg)) (L:List Ses):Prop where
 len:L.length=want.length
 ents:∀i (h1:i<L.length) (h2:i<want.length),EntsR (strsP L) L[i].ents want[i]
 cks:∀k∈(repQ L).cks,∃d∈U,k.d=sumP d∧Rds (strsP L) k.x d
theorem Xnr (L:List Ses) (s:Ses):strsP (L++ [s])=strsP L++ [s.stream]:=by simp [strsP]
end Go.Proofs.YtmdfjnhfhidmhaaGreatDoor
namespace Go.Proofs.YtmdfjnhfhidmhaaGreatDoor
open Go.RowKit
theorem Xp8 {s:Stt} {e:Ent} {d:Int} (h:(stpP s e d).2=0):applyT s.tree e=((stpP s e d).1.tree,0)∧appH s.holds e d=((stpP s e d).1.holds,0)∧entErr e=0:=by
 have he:=(Xnv h).2.2
 unfold stpP at h ⊢
 by_cases h1:(applyT s.tree e).2≠0
 ·rw [if_pos h1] at h;exact absurd h h1
 rw [if_neg h1] at h ⊢
 by_cases h2:askP s e d≠0
 ·rw [if_pos h2] at h;exact absurd h h2
 rw [if_neg h2] at h ⊢
 by_cases h3:(appH s.holds e d).2≠0
 ·rw [if_pos h3] at h;exact absurd h h3
 rw [if_neg h3]
 exact ⟨Prod.ext rfl (by simpa using h1),Prod.ext rfl (by simpa using h3),he⟩
def stoJ (L:List Ses) (k:Nat) (x:Ses) (j:Nat):Sto:=(x.ents.take j).foldl (stoE (strsP L)) (beginP (repK (strsP L) L k) x.num).1
def sttJ (L:List Ses) (k:Nat) (x:Ses) (j:Nat):Stt:=runS (aftS nilS (L.take k)) x.date (x.ents.take j)
theorem Xnu (L:List Ses) (k:Nat) {x:Ses} {j:Nat} (hj:j<x.ents.length) {e:Ent} (he:x.ents[j]=e):stoJ L k x (j+1)=stoE (strsP L) (stoJ L k x j) e:=by
 unfold stoJ
 rw [List.take_succ_eq_append_getElem hj,he,List.foldl_append]
 rfl
theorem Xp9 {L:List Ses} {k:Nat} (hk:k<L.length) {x:Ses} (hx:L[k]=x):stoJ L k x x.ents.length=repK (strsP L) L (k+1):=by
 rw [Xik _ hk hx,stoJ,List.take_length];rfl
theorem Xnp (L:List Ses) (k:Nat) {x:Ses} {j:Nat} (hj:j<x.ents.length) {e:Ent} (he:x.ents[j]=e):sttJ L k x (j+1)=(stpP (sttJ L k x j) e x.date).1:=Xqj hj he
theorem Xp6 {L:List Ses} {k:Nat} (hk:k<L.length) {x:Ses} (hx:L[k]=x):sttJ L k x x.ents.length=aftS nilS (L.take (k+1)):=by
 rw [Xr3 hk hx,sttJ,List.take_length]
structure ArS (n:Nat) (L:List Ses) (k:Nat) (x:Ses) (j:Nat) (e:Ent):Prop where
 sin:SIn n (sttJ L k x j)
 stp:(stpP (sttJ L k x j) e x.date).2=0
 err:entErr e=0
 wf:e.Wf
 path:e.path.length≤300
 target:e.target.length≤300
 exts:e.exts.length≤1000
 xs:∀y∈e.exts,0≤y.s∧y.s≤(k+1:Nat)
 sto:StoW (stoJ L k x j)
 cks:(stoJ L k x j).cks.length≤10000000
theorem Xrx {n m:Nat} {L:List Ses} (h:ArcOk n m L) (hn:n≤150) (hm:m≤254) {k:Nat} (hk:k<L.length) {x:Ses} (hx:L[k]=x) {j:Nat} (hj:j<x.ents.length) {e:Ent} (he:x.ents[j]=e):ArS n L k x j e:=by
 have hmem:x∈L:=by rw [←hx];exact List.getElem_mem hk
 have hem:e∈x.ents:=by rw [←he];exact List.getElem_mem hj
 have herr:=h.err hmem e hem
 have hs:=Xcw herr
 have hw:=h.at_ hk hx
 have hlen:=h.len
 have hst:=Xl6 (h.okAt hk hx) j hj
 rw [he] at hst
 have hr:=(h.rep (by omega) hm (strsP L) k (by omega)).begin (by omega)
 have hp:=Xdp hk hx
 have ht:=h.tot
 have hf:=RpB.fold (by omega) (by omega) (strsP L) (x.ents.take j) hr.2 (by rw [List.length_take];omega)
 rw [List.length_take] at hf
 have hq:stoJ L k x j=(x.ents.take j).foldl (stoE (strsP L)) ⟨(repK (strsP L) L k).cks,(k:Nat)+1,[]⟩:=by
  unfold stoJ
  rw [hw.num,hr.1]
 rw [←hq] at hf
 exact ⟨h.sin hk hx j (by omega),hst,herr,Xh9 herr,hs.1,hs.2,hw.exts e hem,fun y hy=>hw.xs e hem y hy,hf.stoW (by omega) (by omega) (by omega),Nat.le_trans hf.cks (by omega)⟩
theorem Xps {n m:Nat} {L:List Ses} (h:ArcOk n m L) (hn:n≤150) (hm:m≤254) {k:Nat} (hk:k<L.length) {x:Ses} (hx:L[k]=x):
 beginP (repK (strsP L) L k) ((k:Nat)+1)=(stoJ L k x 0,0)∧(repK (strsP L) L k).cks.length≤10000000:=by
 have hw:=h.at_ hk hx
 have hlen:=h.len
 have hr0:=h.rep (by omega) hm (strsP L) k (by omega)
 have hr:=hr0.begin (by omega)
 have hp:=Xdp hk hx
 have ht:=h.tot
 refine ⟨?_,Nat.le_trans hr0.cks (by omega)⟩
 unfold stoJ
 rw [hw.num,hr.1];rfl
structure RpM (I:IH) (w0:World) (vs:Value) (J:IH) (W:World) (S0:Stt) (q:Sto) (vk vt vh:Value):Prop where
 at_:MAt I w0 J W
 ext:Ext w0.heap.size I J
 no1:J (w0.heap.size+1)=none
 no2:J (w0.heap.size+2)=none
 box:W.cell? ⟨w0.heap.size,3,none⟩=some vs
 out:W.heap[w0.heap.size+1]? =some (.cells zeroD 43 (0,0))
 row:W.heap[w0.heap.size+2]? =some (.cells #[.int .i64 0,.int .i64 0,.string ⟨#[]⟩,.slice none 0 0,vk,.int .i64 q.ses,S q.str,vt,vh] 43 (0,0))
 rk:RdS tCk J vk q.cks
 rt:RdS tEnt J vt S0.tree
 rh:RdS tHo J vh S0.holds
section
variable {I:IH} {w0:World} {vs:Value} {J J':IH} {W W':World} {S0 S1:Stt} {q q1:Sto} {vk vt vh vk' vt' vh':Value}
theorem RpM.lt (h:RpM I w0 vs J W S0 q vk vt vh):w0.heap.size+2<W.heap.size:=(Array.getElem?_eq_some_iff.1 h.row).1
theorem RpM.thru (h:RpM I w0 vs J W S0 q vk vt vh) (hb:Below W.heap.size W W') (hx:Ext W.heap.size J J') (hok:Ok J' W'):RpM I w0 vs J' W' S0 q vk vt vh:=by
 have hk:=hx.keep h.at_.ok (Qn _)
 have hs:=h.at_.size
 have hlt:=h.lt
 exact ⟨h.at_.ext hb hx hok,h.ext.trans hx hs,(hx _ (by omega)).trans h.no1,(hx _ hlt).trans h.no2,Xaa hb h.box,(hb.block _ (by omega)).trans h.out,(hb.block _ hlt).trans h.row,h.rk.mono hk,h.rt.mono hk,h.rh.mono hk⟩
theorem RpM.quiet (h:RpM I w0 vs J W S0 q vk vt vh) (hb:Below W.heap.size W W'):RpM I w0 vs J W' S0 q vk vt vh:=h.thru hb (Ext.refl _ _) (h.at_.ok.below (Qn _) hb)
theorem RpM.past (h:RpM I w0 vs J W S0 q vk vt vh) (o:Obj):RpM I w0 vs J (W.alloc o) S0 q vk vt vh:=h.quiet ((Qb _ _).alloc (Qn _) o)
theorem RpM.own (h:RpM I w0 vs J W S0 q vk vt vh) {row:Option Nat} (hg:W.grownBy W' row) (hr:∀g,row=some g→J g=none∧w0.heap.size+3≤g):RpM I w0 vs J W' S0 q vk vt vh:=by
 have hlt:=h.lt
 have hne:∀b,b<w0.heap.size+3→row≠some b:=fun b hb e=>by have:=(hr b e).2;omega
 exact ⟨⟨h.at_.ok.grown hg fun g e=>(hr g e).1,h.at_.keep,h.at_.bel.grown hg h.at_.size fun g e=>by have:=(hr g e).2;omega⟩,h.ext,h.no1,h.no2,Xaf hg (hne w0.heap.size (by omega)) h.box,(hg.block _ (by omega) (fun e=>hne _ (by omega) e.symm)).trans h.out,(hg.block _ hlt (fun e=>hne _ (by omega) e.symm)).trans h.row,h.rk,h.rt,h.rh⟩
theorem RpM.put (h:RpM I w0 vs J W S0 q vk vt vh) (hg:W.grownBy W' (some (w0.heap.size+2)))
 (hr:W'.heap[w0.heap.size+2]? =some (.cells #[.int .i64 0,.int .i64 0,.string ⟨#[]⟩,.slice none 0 0,vk',.int .i64 q1.ses,S q1.str,vt',vh'] 43 (0,0))) (rk:RdS tCk J vk' q1.cks) (rt:RdS tEnt J vt' S1.tree) (rh:RdS tHo J vh' S1.holds):
 RpM I w0 vs J W' S1 q1 vk' vt' vh':=by
 have hlt:=h.lt
 exact ⟨⟨h.at_.ok.grown hg fun g e=>by injection e with e;subst e;exact h.no2,h.at_.keep,h.at_.bel.grown hg h.at_.size fun g e=>by injection e with e;omega⟩,h.ext,h.no1,h.no2,Xaf hg (by simp) h.box,(hg.block _ (by omega) (fun e=>by injection e with e;omega)).trans h.out,hr,rk,rt,rh⟩
end
theorem OwnS.freeze1 {α:Type} {T:Ty α} {E:TypeId} {I0 J:IH} {w:World} {B:Nat} {v:Value} {l:List α} (h:OwnS T E I0 w B v l) (h0:∀b,I0 b=none) (hw:Ok J w) (hI:∀g,v.ownBlock=some g→J g=none):
 ∃J',(∀b c,J b=some c→J' b=some c)∧Ok J' w∧RdS T J' v l:=by
 obtain ⟨xs,⟨h1,h1'⟩,h2⟩:=h
 rcases h1' with ⟨rfl,h0'⟩|⟨g,cap,cur,rfl,hb,hg,hnc,hcm,hcs,ht⟩
 ·have:l= []:=List.eq_nil_of_length_eq_zero h0'
  subst this
  exact ⟨J,fun _ _ h=>h,hw,RdS.nil T J⟩
 ·have hgn:=hI g (by simp [Value.ownBlock])
  have hkeep:∀b c,J b=some c→(J.add g cur) b=some c:=fun b c hc=>by
   unfold IH.add
   by_cases e:b=g
   ·subst e;rw [hgn] at hc;cases hc
   ·rw [if_neg e];exact hc
  refine ⟨J.add g cur,hkeep,hw.add hg,⟨_,cap,rfl,hnc,hcm,fun _=>⟨g,0,cur,rfl,by simp [IH.add],fun i hi=> ?_⟩⟩⟩
  obtain ⟨cs,k1,k2⟩:=h2.2 i hi
  refine ⟨cs,T.mono (fun b c hc=>by rw [h0 b] at hc;cases hc) k1,fun j u hu=> ?_⟩
  have hx:=k2 j u hu
  rw [←ht,List.getElem?_take] at hx
  split at hx
  ·rw [Nat.zero_add,←Array.getElem?_toList];exact hx
  ·cases hx
theorem Xbb {P:Program} {α:Type} {T:Ty α} {I:IH} {ts te:TypeId} {bytes:Nat} (hE:ElemOk P ts te T bytes) {w:World} {ops:Array Oper} {rest:List Oper} {o:Oper} {a:Act} {Q:Exit→Act→World→Prop} (hgd:o.guard=none) (s x:Operand)
 (ho:o.op= .call { callee:= .builtin .append,args:= #[s,x],argTypes:= #[ts,ts] }) {B:Nat} {v:Value} {l:List α} (hs:a.eval s=v) (hown:OwnS T te I w B v l) {vx:Value} {ys:List α} (hx:a.eval x=vx) (hy:SrcS T I w vx ys)
 (hbig:(l.length+ys.length)*bytes≤140737488355328) (hl:l.length+ys.length≤9223372036854775807) (hB:B≤w.heap.size)
 (h:∀v' w',OwnS T te I w' B v' (l++ys)→w.grownBy w' v.ownBlock→(∀g,v'.ownBlock=some g→v.ownBlock=some g∨w.heap.size≤g)→wpList P ops Q rest (a.put o.dst v') w'):wpList P ops Q (o::rest) a w:=
 wpList_plain hgd fun _ hK=>Xdf hE s x ho hs hown hx hy hbig hl hB fun v' w' h1 h2 h3=>hK _ _ (h v' w' h1 h2 h3)
theorem SesB.own {w w':World} {n:Nat} {s:Ses} {ve:Value} {row:Option Nat} (h:SesB w n s ve) (hg:w.grownBy w' row) (hne:row≠some n):SesB w' n s ve:=
 ⟨Xaf hg hne h.c0,Xaf hg hne h.c1,Xaf hg hne h.c2,Xaf hg hne h.c3,Xaf hg hne h.c4,Xaf hg hne h.c5⟩
theorem Xnq (L:List Ses) (k:Nat):strsP (L.take k)=(strsP L).take k:=by unfold strsP;rw [List.map_take]
theorem Xns {L:List Ses} {k:Nat} (hk:k<L.length) {x:Ses} (hx:L[k]=x):strsP (L.take (k+1))=strsP (L.take k)++ [x.stream]:=by
 rw [List.take_succ_eq_append_getElem hk,hx,Xnr]
def RetRp (I:IH) (w:World) (L:List Ses) (r:Ending) (w':World):Prop:=
 ∃vk vt vh J,r= .returned (drV ⟨0,0,[],[],repQ L,(aftS nilS L).tree,(aftS nilS L).holds⟩ (.slice none 0 0) vk vt vh)∧Below w.heap.size w w'∧Ext w.heap.size I J∧Ok J w'∧RdS tCk J vk (repQ L).cks∧RdS tEnt J vt (aftS nilS L).tree∧RdS tHo J vh (aftS nilS L).holds
set_option maxRecDepth 100000 in
set_option maxHeartbeats 8000000 in
theorem Xnx (I:IH) (hI:Glob I) (ai dt sp:Int) {n m:Nat} (L:List Ses) (h:ArcOk n m L) (hn:n≤150) (hm:m≤254) (vs:Value) (hvs:RdS tSes I vs L) (w:World) (hw:Ok I w):
 Calls Tryz.prog 60 #[arcV ai dt sp vs] w (RetRp I w L):=by
 have hlen:=h.len
 have HA:=Qh h
 have HG:=Qh hI
 have Hvs:=Qh hvs
 have Hi9:=Qh (show (Tryz.prog.info? 43).map (·.size)=some 9 by kernel_rfl)
 obtain ⟨so,sc,rfl,_,_,_⟩:=id hvs
 obtain ⟨W3,hW3⟩:∃W3,(((w.alloc (.cells #[.int .u32 ai,.int .i64 dt,.int .i64 sp,.slice so L.length sc] 63)).alloc (.cells zeroD 43)).alloc (.cells zeroD 43))=W3:=⟨_,rfl⟩
 obtain ⟨hsz3,h30,h31,h32⟩:=Xf6 w _ _ _ _ _ _ W3 hW3
 have A3:=Qh (show MAt I w I W3 by rw [←hW3];exact (((MAt.start hw).past _).past _).past _)
 have z3:W3.cell? ⟨w.heap.size,3,none⟩=some (.slice so L.length sc):=(cell_of_row _ _ 3 _ _ _ h30).trans rfl
 have M0:=Qh (show RpM I w (.slice so L.length sc) I W3 nilS nilQ (.slice none 0 0) (.slice none 0 0) (.slice none 0 0) from
  ⟨A3.out,Ext.refl _ _,hw.fresh (by omega),hw.fresh (by omega),z3,h31,h32,RdS.nil _ _,RdS.nil _ _,RdS.nil _ _⟩)
 clear h hI hvs h30 h31 h32 A3
 go_enter Tryz.func60,Tryz.ntmps60
 go_wp2_with fail
 clear hW3 z3
 go_loopw [4,18] (fun s4 s18 wr=> ∃(k:Nat) (J:IH) (vk vt vh:Value),k≤L.length∧s18= .int .i64 k∧OwnS tStr 9 (fun _=>none) wr (w.heap.size+3) s4 (strsP (L.take k))∧(∀g,s4.ownBlock=some g→J g=none)∧RpM I w (.slice so L.length sc) J wr (aftS nilS (L.take k)) (repK (strsP L) L k) vk vt vh) (fun _ i _=>L.length-(intOf i).toNat)
 case atStart=>exact ⟨0,I,_,_,_,Nat.zero_le _,rfl,OwnS.nil _ _ _ _ _,fun g e=>by simp [Value.ownBlock] at e,M0.out⟩
 case round=>
  clear M0
  obtain ⟨k,J,vk,vt,vh,hk,rfl,hO,hno,hM⟩:=hrel
  have M:=Qh hM
  have HO:=Qh hO
  have Hno:=Qh hno
  clear hM hO hno
  by_cases hlt:k<L.length
  ·obtain ⟨x,ve,b,off,cap',hlx,hvv,⟨c0,c1,c2,c3,c4,c5⟩,h1⟩:=Xsm (Hvs.out.mono M.out.at_.keep) M.out.at_.ok k hlt
   cases hvv
   have Hlx:=Qh hlx
   have hel:x.ents.length≤150:=Nat.le_trans (HA.out.ents (by rw [←hlx];exact List.getElem_mem hlt)) hn
   have Hb:=Qh (Xps HA.out hn hm hlt hlx)
   have Hve:=Qh h1
   obtain ⟨eo,ec,rfl,_,_,_⟩:=id h1
   have m1:IntKind.i64.wrap ((k:Int)+1)=(k:Int)+1:=IntWalk.i64_in _ (by omega)
   have hkl:(strsP (L.take k)).length=k:=by simp [strsP];omega
   have Hkl:=Qh hkl
   have hM0:=M.out.at_.size
   have hMl:=M.out.lt
   clear hlx h1 hkl
   go_wp2_with (at_builtin
                refine Xbb Xk1 rfl _ _ rfl (B:=w.heap.size+3) rfl ((HO.out.alloc _).alloc _) (vx:= .slice (some ⟨(wr.alloc (.cells #[.int .i64 x.num,.int .i64 x.date,S x.prev,.slice eo x.ents.length ec,S x.stream,S x.sl] 76)).heap.size,0,none⟩) 1 1) (by simp [Act.eval]) (SrcS.of_one (T:=tStr) (x:=x.stream) (cs:= [S x.stream]) rfl (fun j u hu=>by rw [World.cell?_alloc_new];simpa using hu)) (by rw [Hkl.out];simp;omega) (by rw [Hkl.out];simp;omega) (by simp;omega) ?_
                intro v5 w5 ho5 hg5 hl5
                have M5:=Qh (((M.out.past (.cells #[.int .i64 x.num,.int .i64 x.date,S x.prev,.slice eo x.ents.length ec,S x.stream,S x.sl] 76)).past (.cells #[S x.stream] 9)).own hg5 (fun g e=>⟨Hno.out g e,HO.out.own_ge e⟩))
                have hM5:=M5.out.row
                have z4:w5.cell? ⟨w.heap.size+2,4,none⟩=some vk:=(cell_of_row _ _ 4 _ _ _ hM5).trans rfl
                have z5:w5.cell? ⟨w.heap.size+2,5,none⟩=some (.int .i64 (repK (strsP L) L k).ses):=(cell_of_row _ _ 5 _ _ _ hM5).trans rfl
                have z6:w5.cell? ⟨w.heap.size+2,6,none⟩=some (S (repK (strsP L) L k).str):=(cell_of_row _ _ 6 _ _ _ hM5).trans rfl)
   have HO5:=Qh (show OwnS tStr 9 (fun _=>none) w5 (w.heap.size+3) v5 (strsP (L.take (k+1))) by rw [Xns hlt Hlx.out];exact ho5)
   have hno5:∀g,v5.ownBlock=some g→J g=none:=fun g e=>(hl5 g e).elim (Hno.out g) (fun q=>M.out.at_.ok.fresh (by simp at q;omega))
   have hs5:=hg5.size
   rw [World.size_alloc,World.size_alloc] at hs5
   have SB5:=Qh (SesB.own ((sesB (W:=wr) (s:=x) (ve:= .slice eo x.ents.length ec) (t:=76) rfl (Qb _ _)).past (.cells #[S x.stream] 9)) hg5 (HO.out.ne_ge (Qn _)))
   have Hbe:=Qh (Xly J (repK (strsP L) L k) vk M5.out.rk (by have:=Hb.out.2;omega) ((k:Int)+1) w5 M5.out.at_.ok)
   rw [Hb.out.1] at Hbe
   clear ho5 hg5 hl5 M HO Hno c0 c1 c2 c3 c4 c5
   refine Hbe.out.mono ?_
   rintro e6 w6 ⟨vk6,J6,rfl,hb6,hx6,hok6,hrk6⟩
   obtain ⟨ak6,ck6,rfl,_,_,_⟩:=id hrk6
   have M6:=Qh (M5.out.thru hb6 hx6 hok6)
   have HO6:=Qh (HO5.out.below hb6)
   have hno6:∀g,v5.ownBlock=some g→J6 g=none:=fun g e=>(hx6 g (Xda HO5.out e).2).trans (hno5 g e)
   have SB6:=Qh (SB5.out.thru hb6)
   have Hve6:=Qh (Hve.out.mono (fun b c hc=>hx6.keep M5.out.at_.ok (Qn _) b c (hc)))
   have hs6:=hb6.size
   have hM6:=M6.out.row
   clear M5 z4 z5 z6 hM5 Hbe hb6 hx6 hok6 HO5 hno5 SB5 Hve
   go_wp2_with (refine Xab rfl rfl 40 _ _ rfl (w.heap.size+2) 4 [.slice ak6 (stoJ L k x 0).cks.length ck6,.int .i64 (stoJ L k x 0).ses,S (stoJ L k x 0).str] (stoV (stoJ L k x 0) (.slice ak6 (stoJ L k x 0).cks.length ck6)) (by simp [Act.eval]) (by simp [Act.eval]) (by rfl) _ 43 hM6 (by simp) (by kernel_rfl) (by simp [Value.oneCell']) #[.int .i64 0,.int .i64 0,.string ⟨#[]⟩,.slice none 0 0,.slice ak6 (stoJ L k x 0).cks.length ck6,.int .i64 (stoJ L k x 0).ses,S (stoJ L k x 0).str,vt,vh] (by rfl) ?_
                intro w7 hg7 hr7
                have d3:=(SB6.out.own hg7 (by simp;omega)).c3)
   have M7:=Qh (M6.out.put (S1:=sttJ L k x 0) hg7 hr7 hrk6 M6.out.rt M6.out.rh)
   have HO7:=Qh (HO6.out.kept hg7 (.inr (HO6.out.ne_lt (by omega))))
   have SB7:=Qh (SB6.out.own hg7 (by simp;omega))
   have hs7:=hg7.size
   obtain ⟨n6,hn6⟩:∃n6,n6=wr.heap.size:=⟨_,rfl⟩
   rw [←hn6] at SB7 ⊢
   have hn6':w.heap.size+3≤n6∧n6<w7.heap.size:=by omega
   clear d3 hM6 hg7 hr7 M6 HO6 SB6 hrk6 hn6 hs5 hs6 hs7
   go_loopw [40] (fun s40 wr=> ∃(j:Nat) (K:IH) (vk vt vh:Value),j≤x.ents.length∧s40= .int .i64 j∧OwnS tStr 9 (fun _=>none) wr (w.heap.size+3) v5 (strsP (L.take (k+1)))∧(∀g,v5.ownBlock=some g→K g=none)∧(∀b c,J6 b=some c→K b=some c)∧SesB wr n6 x (.slice eo x.ents.length ec)∧RpM I w (.slice (some ⟨b,off,none⟩) L.length sc) K wr (sttJ L k x j) (stoJ L k x j) vk vt vh) (fun i _=>x.ents.length-(intOf i).toNat)
   case atStart=>exact ⟨0,J6,_,_,_,Nat.zero_le _,rfl,HO7.out,hno6,fun _ _ h=>h,SB7.out,M7.out⟩
   case round=>
    clear M7 HO7 SB7
    obtain ⟨j,K,vk,vt,vh,hj,rfl,hO,hno,hkp,hSB,hM⟩:=hrel
    have M:=Qh hM
    have HO:=Qh hO
    have Hno:=Qh hno
    have Hkp:=Qh hkp
    have SB:=Qh hSB
    clear hM hO hno hkp hSB
    by_cases hjt:j<x.ents.length
    ·obtain ⟨e,va,vx,b2,off2,cap2,hle,hvv,⟨c0,c1,c2,c3,c4,c5,c6⟩,h2,h3⟩:=Xd8 (Hve6.out.mono Hkp.out) M.out.at_.ok j hjt
     cases hvv
     obtain ⟨aa,ca,rfl,_,_,_⟩:=id h2
     obtain ⟨ax,cx,rfl,_,_,_⟩:=id h3
     have Hs:=Qh (Xrx HA.out hn hm hlt Hlx.out hjt hle)
     have Hq:=Qh (Xnu L k hjt hle)
     have Ht:=Qh (Xnp L k hjt hle)
     obtain ⟨kt,kh,ke⟩:=Xp8 Hs.out.stp
     have Hkt:=Qh kt
     have Hkh:=Qh kh
     have Hke:=Qh ke
     have Hra:=Qh h2
     have Hrx:=Qh h3
     have hwM:=M.out.lt
     clear hle h2 h3 kt kh ke
     obtain ⟨n8,hn8⟩:∃n8,n8=wr.heap.size:=⟨_,rfl⟩
     go_upto_if 46 with fail
     have EB:=Qh (entB (W:=wr) (e:=e) (va:= .slice aa e.attrs.length ca) (vx:= .slice ax e.exts.length cx) (t:=81) hn8 (Qb _ _))
     rw [←hn8]
     obtain ⟨wA,hwA⟩:∃wA,wr.alloc (.cells #[.int .i64 e.kind,S e.path,.slice aa e.attrs.length ca,S e.target,.int .i64 e.size,S e.digest,.slice ax e.exts.length cx] 81)=wA:=⟨_,rfl⟩
     rw [hwA] at EB ⊢
     have MA:=Qh (M.out.past (.cells #[.int .i64 e.kind,S e.path,.slice aa e.attrs.length ca,S e.target,.int .i64 e.size,S e.digest,.slice ax e.exts.length cx] 81))
     have HOA:=Qh (HO.out.alloc (.cells #[.int .i64 e.kind,S e.path,.slice aa e.attrs.length ca,S e.target,.int .i64 e.size,S e.digest,.slice ax e.exts.length cx] 81))
     have SBA:=Qh (SB.out.past (.cells #[.int .i64 e.kind,S e.path,.slice aa e.attrs.length ca,S e.target,.int .i64 e.size,S e.digest,.slice ax e.exts.length cx] 81))
     rw [hwA] at MA HOA SBA
     have hn8w:w.heap.size+3≤n8:=by omega
     clear hwA M HO SB c0 c1 c2 c3 c4 c5 c6 hn8
     have hMA:=MA.out.row
     have z4:wA.cell? ⟨w.heap.size+2,4,none⟩=some vk:=(cell_of_row _ _ 4 _ _ _ hMA).trans rfl
     have z5:wA.cell? ⟨w.heap.size+2,5,none⟩=some (.int .i64 (stoJ L k x j).ses):=(cell_of_row _ _ 5 _ _ _ hMA).trans rfl
     have z6:wA.cell? ⟨w.heap.size+2,6,none⟩=some (S (stoJ L k x j).str):=(cell_of_row _ _ 6 _ _ _ hMA).trans rfl
     go_cut [9,10] (fun s9 s10 wx=> ∃(K':IH) (vk':Value),OwnS tStr 9 (fun _=>none) wx (w.heap.size+3) v5 (strsP (L.take (k+1)))∧(∀g,v5.ownBlock=some g→K' g=none)∧(∀b c,K b=some c→K' b=some c)∧SesB wx n6 x (.slice (some ⟨b2,off2,none⟩) x.ents.length ec)∧EntB wx n8 e (.slice aa e.attrs.length ca) (.slice ax e.exts.length cx)∧RpM I w (.slice (some ⟨b,off,none⟩) L.length sc) K' wx (sttJ L k x j) (stoE (strsP L) (stoJ L k x j) e) vk' vt vh)
     case first=>
      by_cases hk1:e.kind=1
      case neg=>
       have f1:(e.kind==1)=false:=by simpa using hk1
       have Hn:=Qh (show stoE (strsP L) (stoJ L k x j) e=stoJ L k x j from if_neg hk1)
       clear hk1
       go_wp2_with fail
       go_meet
       exact ⟨K,vk,HOA.out,Hno.out,fun _ _ h=>h,SBA.out,EB.out,by rw [Hn.out];exact MA.out⟩
      case pos=>
       have f1:(e.kind==1)=true:=by simpa using hk1
       obtain ⟨ct,cn,hct⟩:∃ct cn,getP (strsP L) e.exts=(ct,cn):=⟨_,_,rfl⟩
       have hcl:ct.length≤65536:=by have:=Xlk (strsP L) e.exts;rw [hct] at this;exact this
       obtain ⟨q2,xs2,n2,hpq⟩:∃q2 xs2 n2,putP (stoJ L k x j) ct=(q2,xs2,n2):=⟨_,_,_,rfl⟩
       have Hn:=Qh (show stoE (strsP L) (stoJ L k x j) e=q2 by rw [stoE,if_pos hk1,hct,hpq])
       obtain ⟨K9,hk9,hok9,hr9⟩:=HOA.out.freeze1 (fun _=>rfl) MA.out.at_.ok Hno.out
       have Hge:=Qh (Xul K9 v5 (.slice ax e.exts.length cx) (strsP (L.take (k+1))) e.exts hr9 (Hrx.out.mono hk9) (fun s hs=>by
        obtain ⟨y,hy,rfl⟩:=List.mem_map.1 hs
        obtain ⟨i,hi,he⟩:=List.getElem_of_mem (List.mem_of_mem_take hy)
        have:=(HA.out.at_ hi he).stream
        omega) wA hok9)
       rw [Xnq,Xo2 (strsP L) (k+1) Hs.out.xs (by simp [strsP];omega),hct] at Hge
       have Hpu:=Qh (fun w hw=>(by
        have hqq:=Hs.out.sto
        have:=Xsd 4294901760 10000000 (by decide) (by decide) K (stoJ L k x j) vk MA.out.rk ⟨by have:=hqq.s0;omega,by have:=hqq.s1;omega,hqq.str,Hs.out.cks,fun k hk=>(hqq.cx k hk).x⟩ (fun k hk=>(hqq.cx k hk).d) ct (by omega) w hw
        rwa [hpq] at this:Calls Tryz.prog 103 #[stoV (stoJ L k x j) vk,S ct] w (PutR K w (q2,xs2,n2))))
       have x6:=EB.out.c6
       clear hk1 hct hpq hk9 hok9 hr9
       go_wp2_with fail
       refine Hge.out.mono ?_
       rintro e10 w10 ⟨rfl,hb10⟩
       have M10:=Qh (MA.out.quiet hb10)
       have hM10:=M10.out.row
       have z4:w10.cell? ⟨w.heap.size+2,4,none⟩=some vk:=(cell_of_row _ _ 4 _ _ _ hM10).trans rfl
       have z5:w10.cell? ⟨w.heap.size+2,5,none⟩=some (.int .i64 (stoJ L k x j).ses):=(cell_of_row _ _ 5 _ _ _ hM10).trans rfl
       have z6:w10.cell? ⟨w.heap.size+2,6,none⟩=some (S (stoJ L k x j).str):=(cell_of_row _ _ 6 _ _ _ hM10).trans rfl
       have HO10:=Qh (HOA.out.below hb10)
       have SB10:=Qh (SBA.out.thru hb10)
       have EB10:=Qh (EB.out.thru hb10)
       clear hb10 Hge MA HOA SBA EB hMA x6
       go_wp2_with fail
       refine (Hpu.out w10 M10.out.at_.ok).mono ?_
       rintro e11 w11 ⟨vk11,vx11,K11,rfl,hb11,hx11,hok11,hrk11,hrx11⟩
       obtain ⟨ak,ck,rfl,_,_,_⟩:=id hrk11
       obtain ⟨ay,cy,rfl,_,_,_⟩:=id hrx11
       have M11:=Qh (M10.out.thru hb11 hx11 hok11)
       have hM11:=M11.out.row
       have hn8:=block_lt_of_cell EB10.out.c0
       have hn6:=block_lt_of_cell SB10.out.c0
       have HO11:=Qh (HO10.out.below hb11)
       have SB11:=Qh (SB10.out.thru hb11)
       have EB11:=Qh (EB10.out.thru hb11)
       have hno11:∀g,v5.ownBlock=some g→K11 g=none:=fun g e=>(hx11 g (Xda HO10.out e).2).trans (Hno.out g e)
       have hk11:=hx11.keep M10.out.at_.ok (Qn _)
       clear hb11 hx11 hok11 M10 hM10 z4 z5 z6 Hpu
       go_wp2_with (refine Xab rfl rfl 40 _ _ rfl (w.heap.size+2) 4 [.slice ak q2.cks.length ck,.int .i64 q2.ses,S q2.str] (stoV q2 (.slice ak q2.cks.length ck)) (by simp [Act.eval]) (by simp [Act.eval]) (by rfl) _ 43 hM11 (by simp) (by kernel_rfl) (by simp [Value.oneCell']) #[.int .i64 0,.int .i64 0,.string ⟨#[]⟩,.slice none 0 0,.slice ak q2.cks.length ck,.int .i64 q2.ses,S q2.str,vt,vh] (by rfl) ?_
                    intro w12 hg12 hr12)
       go_meet
       have hn8':w.heap.size+3≤n8:=hn8w
       rw [Hn.out]
       exact ⟨K11,_,HO11.out.kept hg12 (.inr (HO11.out.ne_lt (by omega))),hno11,hk11,SB11.out.own hg12 (by simp;omega),⟨Xaf hg12 (by simp;omega) EB11.out.c0,Xaf hg12 (by simp;omega) EB11.out.c1,Xaf hg12 (by simp;omega) EB11.out.c2,Xaf hg12 (by simp;omega) EB11.out.c3,Xaf hg12 (by simp;omega) EB11.out.c4,Xaf hg12 (by simp;omega) EB11.out.c5,Xaf hg12 (by simp;omega) EB11.out.c6⟩,
        M11.out.put hg12 hr12 hrk11 M11.out.rt M11.out.rh⟩
     case rest=>
     obtain ⟨K',vk',hO,hno,hkk,hSB,hEB,hM⟩:=hcut
     have M1:=Qh hM
     have HO1:=Qh hO
     have Hno1:=Qh hno
     have Hk1:=Qh (fun b c hc=>hkk b c (Hkp.out b c hc))
     have SB1:=Qh hSB
     have EB1:=Qh hEB
     have Hra1:=Qh (Hra.out.mono hkk)
     have Hrx1:=Qh (Hrx.out.mono hkk)
     clear hM hO hno hkk hSB hEB MA HOA SBA EB z4 z5 z6 hMA Hno Hkp Hra Hrx
     obtain ⟨S1,hS1⟩:∃S1,(stpP (sttJ L k x j) e x.date).1=S1:=⟨_,rfl⟩
     obtain ⟨q1,hq1⟩:∃q1,stoE (strsP L) (stoJ L k x j) e=q1:=⟨_,rfl⟩
     rw [hS1] at Hkt Hkh Ht
     rw [hq1] at Hq M1
     have Hda:=Qh (Xlt K' (HG.out.mono M1.out.at_.keep) vt (sttJ L k x j).tree M1.out.rt Hs.out.sin.sml Hs.out.sin.ok.tree.srt (by have:=Hs.out.sin.ok.tlen;omega) e _ _ Hra1.out Hrx1.out Hs.out.wf (by have:=Hs.out.path;omega) (by have:=Hs.out.target;omega) _ M1.out.at_.ok)
     rw [Hkt.out] at Hda
     obtain ⟨at7,ct7,rfl,_,_,_⟩:=id M1.out.rt
     obtain ⟨x0,x1,x2,x3,x4,x5,x6⟩:=EB1.out
     have z7:wc.cell? ⟨w.heap.size+2,7,none⟩=some _:=(cell_of_row _ _ 7 _ _ _ M1.out.row).trans rfl
     clear hS1 hq1
     go_wp2_with fail
     refine Hda.out.mono ?_
     rintro e2 w2 ⟨vt2,K2,rfl,hb2,hx2,hok2,hrt2⟩
     obtain ⟨at2,ct2,rfl,_,_,_⟩:=id hrt2
     have M2:=Qh (M1.out.thru hb2 hx2 hok2)
     have HO2:=Qh (HO1.out.below hb2)
     have hn6:=block_lt_of_cell SB1.out.c0
     have hn8:=block_lt_of_cell EB1.out.c0
     have SB2:=Qh (SB1.out.thru hb2)
     have EB2:=Qh (EB1.out.thru hb2)
     have hk2:=hx2.keep M1.out.at_.ok (Qn _)
     have Hno2:=Qh (show ∀g,v5.ownBlock=some g→K2 g=none from fun g e=>(hx2 g (Xda HO1.out e).2).trans (Hno1.out g e))
     have Hk2:=Qh (fun b c hc=>hk2 b c (Hk1.out b c hc))
     have hM2:=M2.out.row
     have hs2:=hb2.size
     clear x0 x1 x2 x3 x4 x5 x6 z7 Hda hb2 hx2 hok2 M1 HO1 SB1 EB1 Hno1 Hk1
     go_wp2_with (refine Xab rfl rfl 37 _ _ rfl (w.heap.size+2) 7 [.slice at2 S1.tree.length ct2] (.slice at2 S1.tree.length ct2) (by simp [Act.eval]) (by simp [Act.eval]) (by rfl) _ 43 hM2 (by simp) (by kernel_rfl) (by simp [Value.oneCell']) #[.int .i64 0,.int .i64 0,.string ⟨#[]⟩,.slice none 0 0,vk',.int .i64 q1.ses,S q1.str,.slice at2 S1.tree.length ct2,vh] (by rfl) ?_
                  intro w3 hg3 hr3
                  have z8:w3.cell? ⟨w.heap.size+2,8,none⟩=some vh:=(cell_of_row _ _ 8 _ _ _ hr3).trans rfl
                  have x0:=Xaf hg3 (by simp;omega) EB2.out.c0
                  have x1:=Xaf hg3 (by simp;omega) EB2.out.c1
                  have x2:=Xaf hg3 (by simp;omega) EB2.out.c2
                  have x3:=Xaf hg3 (by simp;omega) EB2.out.c3
                  have x4:=Xaf hg3 (by simp;omega) EB2.out.c4
                  have x5:=Xaf hg3 (by simp;omega) EB2.out.c5
                  have x6:=Xaf hg3 (by simp;omega) EB2.out.c6
                  have y1:=(SB2.out.own hg3 (by simp;omega)).c1)
     have M3:=Qh (M2.out.put (S1:=⟨S1.tree,(sttJ L k x j).holds⟩) hg3 hr3 M2.out.rk hrt2 M2.out.rh)
     have HO3:=Qh (HO2.out.kept hg3 (.inr (HO2.out.ne_lt (by omega))))
     have SB3:=Qh (SB2.out.own hg3 (by simp;omega))
     have hs3:=hg3.size
     have Hap:=Qh (Xk5 K2 (HG.out.mono M3.out.at_.keep) vh (sttJ L k x j).holds M3.out.rh Hs.out.sin.ok.holds (by have:=Hs.out.sin.ok.hlen;omega) e _ _ (Hra1.out.mono hk2) (Hrx1.out.mono hk2) Hs.out.err x.date w3 M3.out.at_.ok)
     rw [Hkh.out] at Hap
     clear hg3 hr3 M2 HO2 SB2 EB2 hM2
     refine Hap.out.mono ?_
     rintro e4 w4 ⟨vh4,K4,rfl,hb4,hx4,hok4,hrh4⟩
     obtain ⟨ah4,ch4,rfl,_,_,_⟩:=id hrh4
     have M4:=Qh (M3.out.thru hb4 hx4 hok4)
     have HO4:=Qh (HO3.out.below hb4)
     have SB4:=Qh (SB3.out.thru hb4)
     have hk4:=hx4.keep M3.out.at_.ok (Qn _)
     have Hno4:=Qh (show ∀g,v5.ownBlock=some g→K4 g=none from fun g e=>(hx4 g (Xda HO3.out e).2).trans (Hno2.out g e))
     have hM4:=M4.out.row
     have hs4:=hb4.size
     clear x0 x1 x2 x3 x4 x5 x6 z8 y1 Hap hb4 hx4 hok4 M3 HO3 SB3 Hno2
     go_wp2_with (refine Xab rfl rfl 41 _ _ rfl (w.heap.size+2) 8 [.slice ah4 S1.holds.length ch4] (.slice ah4 S1.holds.length ch4) (by simp [Act.eval]) (by simp [Act.eval]) (by rfl) _ 43 hM4 (by simp) (by kernel_rfl) (by simp [Value.oneCell']) #[.int .i64 0,.int .i64 0,.string ⟨#[]⟩,.slice none 0 0,vk',.int .i64 q1.ses,S q1.str,.slice at2 S1.tree.length ct2,.slice ah4 S1.holds.length ch4] (by rfl) ?_
                  intro w5 hg5 hr5)
     go_roundw
     case rel=>exact ⟨j+1,K4,_,_,_,by omega,by go_num,HO4.out.kept hg5 (.inr (HO4.out.ne_lt (by omega))),Hno4.out,fun b c hc=>hk4 b c (Hk2.out b c hc),SB4.out.own hg5 (by simp;omega),
      by rw [Hq.out,Ht.out];exact M4.out.put hg5 hr5 M4.out.rk M4.out.rt hrh4⟩
     case measure=>simp [intOf];omega
    ·have hje:j=x.ents.length:=by omega
     subst hje
     go_wp2
     go_roundw
     case rel=>exact ⟨k+1,K,_,_,_,by omega,by go_num,HO.out,Hno.out,by rw [←Xp6 hlt Hlx.out,←Xp9 hlt Hlx.out];exact M.out⟩
     case measure=>simp [intOf];omega
  ·have hke:k=L.length:=by omega
   subst hke
   have hrow:=M.out.row
   have z0:wr.cell? ⟨w.heap.size+2,0,none⟩=some _:=(cell_of_row _ _ 0 _ _ _ hrow).trans rfl
   have z1:wr.cell? ⟨w.heap.size+2,1,none⟩=some _:=(cell_of_row _ _ 1 _ _ _ hrow).trans rfl
   have z2:wr.cell? ⟨w.heap.size+2,2,none⟩=some _:=(cell_of_row _ _ 2 _ _ _ hrow).trans rfl
   have z3:wr.cell? ⟨w.heap.size+2,3,none⟩=some _:=(cell_of_row _ _ 3 _ _ _ hrow).trans rfl
   have z4:wr.cell? ⟨w.heap.size+2,4,none⟩=some _:=(cell_of_row _ _ 4 _ _ _ hrow).trans rfl
   have z5:wr.cell? ⟨w.heap.size+2,5,none⟩=some _:=(cell_of_row _ _ 5 _ _ _ hrow).trans rfl
   have z6:wr.cell? ⟨w.heap.size+2,6,none⟩=some _:=(cell_of_row _ _ 6 _ _ _ hrow).trans rfl
   have z7:wr.cell? ⟨w.heap.size+2,7,none⟩=some _:=(cell_of_row _ _ 7 _ _ _ hrow).trans rfl
   have z8:wr.cell? ⟨w.heap.size+2,8,none⟩=some _:=(cell_of_row _ _ 8 _ _ _ hrow).trans rfl
   have hl:=M.out.lt
   rw [List.take_length,Xhj] at M
   rw [Xhj] at z5 z6 hrow
   obtain ⟨ak,ck,rfl,_,_,_⟩:=id M.out.rk
   obtain ⟨at',ct',rfl,_,_,_⟩:=id M.out.rt
   obtain ⟨ah,ch,rfl,_,_,_⟩:=id M.out.rh
   have hout:=M.out.out
   clear hrow
   go_wp2_with (refine Xab rfl rfl 43 _ _ rfl (w.heap.size+1) 0 (drCs ⟨0,0,[],[],repQ L,(aftS nilS L).tree,(aftS nilS L).holds⟩ (.slice none 0 0) (.slice ak (repQ L).cks.length ck) (.slice at' (aftS nilS L).tree.length ct') (.slice ah (aftS nilS L).holds.length ch)) (drV ⟨0,0,[],[],repQ L,(aftS nilS L).tree,(aftS nilS L).holds⟩ (.slice none 0 0) (.slice ak (repQ L).cks.length ck) (.slice at' (aftS nilS L).tree.length ct') (.slice ah (aftS nilS L).holds.length ch)) (by simp [Act.eval]) (by simp [Act.eval]) (by rfl) _ 43 hout (by simp) (by kernel_rfl) (by simp [Value.oneCell']) (drCs ⟨0,0,[],[],repQ L,(aftS nilS L).tree,(aftS nilS L).holds⟩ (.slice none 0 0) (.slice ak (repQ L).cks.length ck) (.slice at' (aftS nilS L).tree.length ct') (.slice ah (aftS nilS L).holds.length ch)).toArray (by rfl) ?_
                intro w9 hg9 hr9)
   refine bodyPost_ret (results_cell_row rfl _ _ (w.heap.size+1) _ (drCs ⟨0,0,[],[],repQ L,(aftS nilS L).tree,(aftS nilS L).holds⟩ (.slice none 0 0) (.slice ak (repQ L).cks.length ck) (.slice at' (aftS nilS L).tree.length ct') (.slice ah (aftS nilS L).holds.length ch)).toArray (0,0) _ rfl hr9 Tryz.underlying43 rfl Hi9.out) rfl ?_
   exact ⟨_,_,_,J,rfl,M.out.at_.bel.grown hg9 M.out.at_.size (fun k e=>by injection e with e;omega),M.out.ext,M.out.at_.ok.grown hg9 (fun g e=>by injection e with e;subst e;exact M.out.no1),M.out.rk,M.out.rt,M.out.rh⟩
end Go.Proofs.YtmdfjnhfhidmhaaGreatDoor
