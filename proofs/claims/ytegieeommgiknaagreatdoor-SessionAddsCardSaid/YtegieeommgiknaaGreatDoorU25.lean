/- Lemmas for the claim's theorem;conditions: as each says. -/
import Derived.Test.YtegieeommgiknaaGreatDoorU22
import Derived.Test.YtegieeommgiknaaGreatDoorU24
set_option maxHeartbeats 0
set_option maxRecDepth 100000
set_option linter.all false
namespace Go.Proofs.YtegieeommgiknaaGreatDoor
open Go.RowKit
variable{w:World}{c:ic}{va:Value}{n b:Nat}{R:Array Value}{m:Nat}{w':World}{I:IH}{v:Value}{k:Nat}
structure Aw (B:Nat) (W:World) (m1 m2:Nat) (t1 t2:TypeId) (Z1 R1 Z2 R2:Array Value) (s1 s2:Nat) (s:Array Bool) (w:World):Prop where
 eU:Below B W w
 keep:∀k,k<W.heap.size→k≠m1→k≠m2→w.heap[k]?=W.heap[k]?
 r1:w.heap[m1]?=some (.cells (if s.getD s1 false=true then R1 else Z1) t1 (0,0))
 r2:w.heap[m2]?=some (.cells (if s.getD s2 false=true then R2 else Z2) t2 (0,0))
section
variable {B:Nat} {W w w':World} {m1 m2:Nat} {t1 t2:TypeId} {Z1 R1 Z2 R2:Array Value} {s1 s2:Nat} {s:Array Bool} {i:Nat}
theorem Aw.start(n:Nat)(hB:B≤W.heap.size)(h1:W.heap[m1]?=some (.cells Z1 t1 (0,0)))(h2:W.heap[m2]?=some (.cells Z2 t2 (0,0))):Aw B W m1 m2 t1 t2 Z1 R1 Z2 R2 s1 s2 (Array.replicate n false) {W with drawn:=W.drawn+1}:=
 ⟨((Qb _ _).drew).mono hB,fun _ _ _ _=>rfl,by rw[wJ];exact h1,by rw[wJ];exact h2⟩
theorem Aw.pure(h:Aw B W m1 m2 t1 t2 Z1 R1 Z2 R2 s1 s2 s w)(h1:i≠s1)(h2:i≠s2):Aw B W m1 m2 t1 t2 Z1 R1 Z2 R2 s1 s2 (s.setIfInBounds i true) w:=
 ⟨h.eU,h.keep,by rw[getD_set_ne false h1];exact h.r1,by rw[getD_set_ne false h2];exact h.r2⟩
theorem Aw.call(h:Aw B W m1 m2 t1 t2 Z1 R1 Z2 R2 s1 s2 s w)(hb:Below w.heap.size w w')(h1:i≠s1)(h2:i≠s2)(hB:B≤W.heap.size):Aw B W m1 m2 t1 t2 Z1 R1 Z2 R2 s1 s2 (s.setIfInBounds i true) w':=
 ⟨h.eU.trans (hb.mono (Nat.le_trans hB h.eU.size)),fun k hk a b=>(hb.block k (Nat.lt_of_lt_of_le hk h.eU.size)).trans (h.keep k hk a b),
   by rw[getD_set_ne false h1];exact(hb.block _ (Qg h.r1)).trans h.r1,by rw[getD_set_ne false h2];exact(hb.block _ (Qg h.r2)).trans h.r2⟩
theorem Aw.jP(h:Aw B W m1 m2 t1 t2 Z1 R1 Z2 R2 s1 s2 s w)(aH:s.getD s1 true=false)(h12:s1≠s2)(hm:m1≠m2)(hB:B≤m1)(hR:R=R1):Aw B W m1 m2 t1 t2 Z1 R1 Z2 R2 s1 s2 (s.setIfInBounds s1 true) (w.setRow m1 R):=by
 have e:=y9 (oO aH);refine⟨h.eU.grown (row:=some m1) bA (by have:=(Qg h.r1);omega) (fun k hk=>by cases hk;exact hB),fun k hk a b=>(setRow_other w m1 k R a).trans (h.keep k hk a b),?_,?_⟩
 ·rw[e,hR];exact setRow_heap w m1 _ _ t1 (0,0) h.r1
 ·rw[getD_set_ne false h12,setRow_other w m1 m2 R (Ne.symm hm)];exact h.r2
theorem Aw.wH(h:Aw B W m1 m2 t1 t2 Z1 R1 Z2 R2 s1 s2 s w)(aH:s.getD s2 true=false)(h12:s2≠s1)(hm:m1≠m2)(hB:B≤m2)(hR:R=R2):Aw B W m1 m2 t1 t2 Z1 R1 Z2 R2 s1 s2 (s.setIfInBounds s2 true) (w.setRow m2 R):=by
 have e:=y9 (oO aH);refine⟨h.eU.grown (row:=some m2) bA (by have:=(Qg h.r2);omega) (fun k hk=>by cases hk;exact hB),fun k hk a b=>(setRow_other w m2 k R b).trans (h.keep k hk a b),?_,?_⟩
 ·rw[getD_set_ne false h12,setRow_other w m2 m1 R hm];exact h.r1
 ·rw[e,hR];exact setRow_heap w m2 _ _ t2 (0,0) h.r2
end
def aei(I:IH)(w:World)(p:bD×ib)(e:Ending)(w':World):Prop:=
 ∃va vx vk I',e= .returned (.tuple #[iF p.1 va vx,fD p.2 vk,.int .i64 (aX p.1)])∧Below w.heap.size w w'∧Ext w.heap.size I I'∧Ok I' w'∧aZ nk I' va p.1.ag∧aZ mU I' vx p.1.aC∧aZ si I' vk p.2.aJ
theorem Xdj{fn:Func}{p q u:Tmp}{ty tz:TypeId}(h:fn.results=#[.cell p ty,.cell q tz,.tmp u])(tmps:Array Value)(P:Program)(w:World):
 (results fn tmps).run P w=
   ((asAddr (tmps.getD p undef)).run P w).andThen fun a w₁=>((loadVar ty a).run P w₁).andThen fun v w₂=>((asAddr (tmps.getD q undef)).run P w₂).andThen fun b w₃=>((loadVar tz b).run P w₃).andThen fun z w₄=> .ok (.tuple #[v,z,tmps.getD u undef]) w₄:=by
 simp only[results,h];simp[Sem.run_bind,Result.andThen]
abbrev Sw(n:Nat)(av:Int)(aj:af)(ao:Option Addr)(le cap:Nat)(target:af)(x:Nat×(Option Addr×Nat)):List (Option Tmp×Value):=
 [(some 8,.pointer (some ⟨n+1,0,none⟩)),(some 9,.int .i64 av),(some 10,.pointer (some ⟨n+1,1,none⟩)),(some 11,S aj),(some 12,.pointer (some ⟨n+1,2,none⟩)),(some 13,.slice ao le cap),(some 14,.slice x.2.1 le x.2.2),(some 15,.pointer (some ⟨n+1,3,none⟩)),(some 16,S target),(some 17,.agg #[.int .i64 av,S aj,.slice x.2.1 le x.2.2,S target,.int .i64 0,.string ⟨#[]⟩,.slice none 0 0]),(some 7,.pointer (some ⟨x.1,0,none⟩)),(none,undef)]
theorem Sy{av:Int}{aj:af}{ao:Option Addr}{le cap:Nat}{target:af}{x:Nat×(Option Addr×Nat)}:bC (Sw n av aj ao le cap target x):=by
 unfold bC;simp
abbrev Zh(n m:Nat)(ct sm:af)(x:Nat):List (Option Tmp×Value):=
 [(some 21,.pointer (some ⟨n+1,4,none⟩)),(some 22,S ct),(some 23,.int .i64 (ct.length:Int)),(some 24,.pointer (some ⟨n+1,4,none⟩)),(some 25,S ct),(some 26,.slice (some ⟨x,0,none⟩) 1 1),(some 27,S sm),(some 28,.pointer (some ⟨m,4,none⟩)),(none,undef),(some 29,.pointer (some ⟨m,5,none⟩)),(none,undef)]
theorem P9{ct sm:af}{x:Nat}:bC (Zh n m ct sm x):=by
 unfold bC;simp
abbrev reL(m n:Nat)(e:bD)(va vx vk:Value)(q:ib):List (Option Tmp×Value):=
 [(some 43,iF e va vx),(some 44,fD q vk),(some 45,iF e va vx),(some 46,.int .i64 (aX e)),(none,undef),(none,undef),(some 6,.int .i64 (aX e))]
theorem ym{e:bD}{vx vk:Value}{q:ib}:bC (reL m n e va vx vk q):=by
 unfold bC;simp
theorem Xoi(w:World)(a b c d:Array Value)(ta tb tc td:TypeId)(W:World)(hW:(((w.alloc (.cells a ta)).alloc (.cells b tb)).alloc (.cells c tc)).alloc (.cells d td)=W):
 W.heap.size=w.heap.size+4∧W.heap[w.heap.size]?=some (.cells a ta (0,0))∧W.heap[w.heap.size+1]?=some (.cells b tb (0,0))∧W.heap[w.heap.size+2]?=some (.cells c tc (0,0))∧W.heap[w.heap.size+3]?=some (.cells d td (0,0)):=by
 subst hW;have h1:=heap_alloc_new w (.cells a ta);have h2:=heap_alloc_new (w.alloc (.cells a ta)) (.cells b tb);have h3:=heap_alloc_new ((w.alloc (.cells a ta)).alloc (.cells b tb)) (.cells c tc);have h4:=heap_alloc_new (((w.alloc (.cells a ta)).alloc (.cells b tb)).alloc (.cells c tc)) (.cells d td);have e1:(w.alloc (.cells a ta)).heap.size=w.heap.size+1:=by simp
 have e2:((w.alloc (.cells a ta)).alloc (.cells b tb)).heap.size=w.heap.size+2:=by simp
 have e3:(((w.alloc (.cells a ta)).alloc (.cells b tb)).alloc (.cells c tc)).heap.size=w.heap.size+3:=by simp
 rw[e1]at h2;rw[e2]at h3;rw[e3]at h4;refine⟨by simp,?_,?_,?_,h4⟩
 ·exact(Below.heap_alloc _ _ _ (by omega)).trans ((Below.heap_alloc _ _ _ (by omega)).trans ((Below.heap_alloc _ _ _ (by omega)).trans h1))
 ·exact(Below.heap_alloc _ _ _ (by omega)).trans ((Below.heap_alloc _ _ _ (by omega)).trans h2)
 ·exact(Below.heap_alloc _ _ _ (by omega)).trans h3
theorem Xrn(I:IH)(hI:fG I)(q:ib)(vk:Value)(Gy:aZ si I vk q.aJ)(hq:yO q)(hqn:q.aJ.length≤10000000)(c:ic)(va:Value)(gK:aZ nk I va c.ag)(hc:c.Wf)(yz:c.ag.length≤1000000)(w:World)(hw:Ok I w):
 Calls Tryz.prog 34 #[fD q vk,.agg #[.int .i64 c.av,S c.aj,va,S c.target,S c.aI]] w (aei I w (fQ q c)):=by
 obtain⟨ak,ck,rfl,_,_,_⟩:=id Gy;obtain⟨ao,cap,rfl,_,_,_⟩:=id gK;have qZ:=Qh (fun w hw=>Xp3 I _ c.ag gK w hw (by omega));have HG:=Qh hI;have Vw:=Qh Gy;have Hq:=Qh hq;have Hc:=Qh hc;have wQ:=Qh (show(Tryz.prog.info? 43).map (·.size)=some 3 by kernel_rfl);have Nv:=Qh (show(Tryz.prog.info? 63).map (·.size)=some 7 by kernel_rfl);have qp:=hc.aj;have zu:=hc.target;have bO:=hc.aI;obtain⟨W4,Zi⟩:∃W4,((((w.alloc (.cells #[.slice ak q.aJ.length ck,.int .i64 q.bg,S q.str] 43)).alloc (.cells #[.int .i64 c.av,S c.aj,.slice ao c.ag.length cap,S c.target,S c.aI] 53)).alloc (.cells #[.int .i64 0,.string ⟨#[]⟩,.slice none 0 0,.string ⟨#[]⟩,.int .i64 0,.string ⟨#[]⟩,.slice none 0 0] 63)).alloc (.cells #[.slice none 0 0,.int .i64 0,.string ⟨#[]⟩] 43))=W4:=⟨_,rfl⟩;have dz:Ok I W4:=by rw[←Zi];exact(((hw.alloc _).alloc _).alloc _).alloc _
 obtain⟨eQ,h40,Sz,h42,h43⟩:=Xoi w _ _ _ _ _ _ _ _ W4 Zi;have aS:Below w.heap.size w W4:=by rw[←Zi];exact((((Qb _ _).alloc (Qn _) _).alloc (by simp) _).alloc (by simp;omega) _).alloc (by simp;omega) _
 have c0:W4.cell? ⟨w.heap.size+1,0,none⟩=some (.int .i64 c.av):=(cell_of_row _ _ 0 _ _ _ Sz).trans rfl;have c1:W4.cell? ⟨w.heap.size+1,1,none⟩=some (S c.aj):=(cell_of_row _ _ 1 _ _ _ Sz).trans rfl;have c2:W4.cell? ⟨w.heap.size+1,2,none⟩=some (.slice ao c.ag.length cap):=(cell_of_row _ _ 2 _ _ _ Sz).trans rfl;have c3:W4.cell? ⟨w.heap.size+1,3,none⟩=some (S c.target):=(cell_of_row _ _ 3 _ _ _ Sz).trans rfl;have H40:=Qh h40;have H41:=Qh Sz;have H42:=Qh h42;have H43:=Qh h43;have Jj:∀b,w.heap.size≤b→I b=none:=fun b hb=>hw.fresh hb;have HsZ:=Qh eQ;clear Gy gK hq hc h40 Sz h42 h43 eQ hI;go_enter Tryz.func34,Tryz.ntmps34
 go_wp2_with fail
 clear Zi;refine qR (X:=Nat×(Option Addr×Nat)) (Sw w.heap.size c.av c.aj ao c.ag.length cap c.target) (jX W4 6 233 10 234 225 235 226 236 (fun _ _=>True) (fun x w=>aQ nk 60 I w W4.heap.size (.slice x.2.1 c.ag.length x.2.2) c.ag) (fun x w=>w.heap[x.1]?=some (.cells cu 63 (0,0))∧W4.heap.size≤x.1) (fun _ _=>True) (fun _ _=>True) (fun x w=>aQ nk 60 I w W4.heap.size (.slice x.2.1 c.ag.length x.2.2) c.ag∧(w.heap[x.1]?=some (.cells cu 63 (0,0))∧W4.heap.size≤x.1)) (fun x=>x.1) 63 11 213 214 (fun x=> #[.int .i64 c.av,S c.aj,.slice x.2.1 c.ag.length x.2.2,S c.target,.int .i64 0,.string ⟨#[]⟩,.slice none 0 0]) (fun x=> #[.int .i64 c.av,S c.aj,.slice x.2.1 c.ag.length x.2.2,S c.target,.int .i64 0,.string ⟨#[]⟩,.slice none 0 0]) (fun x=> #[.int .i64 c.av,S c.aj,.slice x.2.1 c.ag.length x.2.2,S c.target,.int .i64 0,.string ⟨#[]⟩,.slice none 0 0])) (by kernel_rfl) (by kernel_rfl) ?_ ?_ ?_
 ·exact⟨(0,default),jX.start _ _ trivial⟩
 ·rintro x s' a' w' i bS bO ha hC hi;obtain⟨aH,oi,dI,au⟩:=mem_ready.1 hi;have ev:=vV Sy ha;have hlt:=oO aH;rcases i with _|_|_|_|_|_|_|_|_|_|_|_|i
  rotate_left 12
  ·simp at dI
  all_goals
   have dH:=dI;simp at dI;subst dI;simp[Region.binds]at au;try have hl:=kz 6 11 bO (by decide+kernel) aH
   try have aT:=hC.off hl
   try have c0:=aV aT c0
   try have c1:=aV aT c1
   try have c2:=aV aT c2
   try have c3:=aV aT c3
   refine wpOp_step dH (fun K' hK=> ?_);rw[if_pos (by rfl)]
  rotate_left 6
  ·unfold Oper.wp;simp[go_sem,ev,dG,au,Oper.upon];refine(qZ.O w' (dz.below (Qn _) aT)).mono ?_;rintro r4 w4 ⟨v7,rfl,ho,aS⟩;obtain⟨a7,k7,rfl⟩:=wT ho;have ha:=ha.trans (lT (L:=Sw w.heap.size c.av c.aj ao c.ag.length cap c.target x) (M:=Sw w.heap.size c.av c.aj ao c.ag.length cap c.target (x.1,(a7,k7))) [6,9] rfl (fun j bq=>by
    rcases j with _|_|_|_|_|_|_|_|_|_|_|_|j<;>first|rfl|(exact absurd (by decide) bq)|simp) (List.forall_mem_cons.2 ⟨gG aH,List.forall_mem_cons.2 ⟨kz 6 9 bO (by kernel_rfl) aH,List.forall_mem_nil _⟩⟩))
   exact hK _ _ ⟨(x.1,(a7,k7)),gD Sy ha rfl aH,hC.step hl (aT.trans (aS.mono aT.size)) (by decide) (fun _=>trivial) (fun _ _=>ho.lower aT.size) (fun h _=>h.elim (fun e=>absurd e (by decide)) (fun⟨_,_,q⟩=>⟨(aS.block _ (Qg q.1)).trans q.1,q.2⟩)) (fun _ _=>trivial) (fun _ _=>trivial) hlt⟩
  rotate_left 3
  ·unfold Oper.wp;simp[go_sem,ev,dG,au,Oper.upon,c0,c1,c2,c3];have ha:=ha.trans (lT (L:=Sw w.heap.size c.av c.aj ao c.ag.length cap c.target x) (M:=Sw w.heap.size c.av c.aj ao c.ag.length cap c.target (w'.heap.size,x.2)) [10] rfl (fun j bq=>by
    rcases j with _|_|_|_|_|_|_|_|_|_|_|_|j<;>first|rfl|(exact absurd (by decide) bq)|simp) (List.forall_mem_cons.2 ⟨gG aH,List.forall_mem_nil _⟩))
   exact hK _ _ ⟨(w'.heap.size,x.2),gD Sy ha rfl aH,hC.step hl (aT.trans (((Qb _ _).alloc (Qn _) _).mono aT.size)) (by decide) (fun _=>trivial) (fun h _=>h.elim (fun e=>absurd e (by decide)) (fun⟨_,_,q⟩=>q.alloc _)) (fun _ _=>⟨heap_alloc_new _ _,aT.size⟩) (fun _ _=>trivial) (fun _ _=>trivial) hlt⟩
  ·have aK:w'.heap[x.1]?=some (.cells _ 63 (0,0)):=(hC.f2 (by first|simpa using au|simp[au]) (gX (by simp[bS])) hl).1;refine oK 63 _ _ rfl (x.1) 0 [.int .i64 c.av,S c.aj,.slice x.2.1 c.ag.length x.2.2,S c.target,.int .i64 0,.string ⟨#[]⟩,.slice none 0 0] (.agg #[.int .i64 c.av,S c.aj,.slice x.2.1 c.ag.length x.2.2,S c.target,.int .i64 0,.string ⟨#[]⟩,.slice none 0 0]) (by simp[Act.eval,ev,dG,au]) (by simp[Act.eval,ev,dG,au]) (by rfl) _ _ aK (by simp) (by kernel_rfl) (by simp[Value.oneCell']) ?_;exact hK _ _ ⟨x,dS (d:=none) (v:=undef) Sy ha rfl aH,hC.jP aH ⟨hC.f1 (by first|simpa using au|simp[au]) (gX (by simp[bS])) hl,hC.f2 (by first|simpa using au|simp[au]) (gX (by simp[bS])) hl⟩ (gX (by simp[bS])) (gX (by simp[bS])) (by decide) aK (by rfl)⟩
  all_goals
   unfold Oper.wp;first
   |(simp[go_sem,ev,dG,au,Oper.upon,c0,c1,c2,c3];exact hK _ _ ⟨x,gD Sy ha rfl aH,hC.pure (by decide)⟩)
   |(simp[go_sem,ev,dG,Oper.upon,c0,c1,c2,c3];exact hK _ _ ⟨x,gD Sy ha rfl aH,hC.pure (by decide)⟩)
 ·rintro x s' a' w8 eu ha hC;obtain⟨wb,eG,ed,dR,aK⟩:=hC.on (eu 11 (by decide));simp only[ite_self]at aK;rw[qz _ _ _ _ (fun i hi=>by rw[Nat.zero_add];exact eu i (by simpa using hi))]at ha;subst ha;simp only[dE,Act.put,List.setIfInBounds_toArray,List.set_cons_succ,List.set_cons_zero];obtain⟨m,mg,k7⟩:=x;dsimp only at ed dR aK ⊢;obtain⟨yN,yM⟩:=ed;have eQ:=HsZ.O;have bq:=BR yN yM.1 (by decide);have xL:=yN.kept dR (.inr bq);have hm:w.heap.size+4≤m:=by have:=yM.2;omega
  have lG:Ok I w8:=(dz.below (Qn _) eG).grown dR (fun g e=>by cases e;exact Jj _ (by omega));have mH:Below w.heap.size w w8:=(aS.trans (eG.mono aS.size)).grown dR (by have:=eG.size;omega) (fun k e=>by cases e;omega);obtain⟨J,x9,q8,Bh,NG⟩:=xL.freeze lG (fun b hb=>Jj _ (by omega));have hkJ:=x9.keep hw (by omega);have hz:∀b,b<w.heap.size+4→w8.heap[b]?=W4.heap[b]? :=fun b hb=>(dR.block _ (by have:=eG.size;omega) (fun e=>by cases e;omega)).trans (eG.block _ (by omega));have Qa:∀b,b<w.heap.size+4→w.heap.size≤b→J b=none:=fun b h1 h2=>(x9 b (by omega)).trans (Jj b h2);have Jc:J m=none:=by rw[NG m bq];exact Jj _ (by omega)
  have Qc:=x9.mono (show w.heap.size≤W4.heap.size by omega);have Zj:=Qh ((hz w.heap.size (by omega)).trans H40.O);have VT:=Qh ((hz (w.heap.size+1) (by omega)).trans H41.O);have Qd:=Qh ((hz (w.heap.size+2) (by omega)).trans H42.O);have Qe:=Qh ((hz (w.heap.size+3) (by omega)).trans H43.O);have Gi:=Qh aK;have hG2:fG J:=HG.O.mono hkJ;have VU:=Qh (Vw.O.mono hkJ);have k0:w8.cell? ⟨w.heap.size+1,0,none⟩=some (.int .i64 c.av):=(cell_of_row _ _ 0 _ _ _ VT.O).trans rfl;clear hz yN yM dR aK bq xL lG eG hC eu x9 NG hkJ c0 c1 c2 c3 H40 H41 H42 H43 qZ dz aS eQ;by_cases hk:c.av=1;case neg=>
   have e1:(c.av==1)=false:=by simpa using hk
   obtain⟨e,he⟩:∃e:bD,(⟨c.av,c.aj,c.ag,c.target,0,[],[]⟩:bD)=e:=⟨_,rfl⟩;obtain⟨q2,WL⟩:∃q2,q2=q:=⟨_,rfl⟩;have Hn:=Qh (show fQ q c=(e,q2) by rw[fQ,if_neg hk,he,WL]);subst WL;have Kz:aZ mU J (.slice none e.aC.length 0) e.aC:=by rw[←he];exact aZ.nil _ _
   have DY:aZ nk J (.slice mg e.ag.length k7) e.ag:=by rw[←he];exact Bh
   have lQ:e.Wf:=by have:=Y7 Hq.O Hc.O;rw[Hn.O]at this;exact this
   have vz:=Qh (fun w hw=>Yp J hG2 e _ _ DY Kz lQ (by rw[←he];exact qp) (by rw[←he];exact zu) w hw);have HJ:=Qh (And.intro Qc (And.intro DY (And.intro Kz VU.O)));have LY:=Qh q8;have Qj:=Qh (show w8.heap[m]?=some (.cells #[.int .i64 e.av,S e.aj,.slice mg e.ag.length k7,S e.target,.int .i64 e.size,S e.aD,.slice none e.aC.length 0] 63 (0,0)) by rw[←he];exact Gi.O);have Qk:=Zj;have Xj:=mH;have Ri:=Qa (w.heap.size+2) (by omega) (by omega);have F5:=Qa (w.heap.size+3) (by omega) (by omega);clear Kz;clear hk he DY lQ Gi VT Zj mH q8 Bh Qa;go_wp2_with fail
   clear k0 e1;have VV:w.heap.size≤w8.heap.size:=Xj.size;have Ap:m≠w.heap.size+2:=by omega
   have Ql:m≠w.heap.size+3:=by omega
   refine qR (X:=Nat) (fun _=>reL m w.heap.size e (.slice mg e.ag.length k7) (.slice none e.aC.length 0) (.slice ak q2.aJ.length ck) q2) (fun _=>Aw w.heap.size w8 (w.heap.size+2) (w.heap.size+3) 63 43 cu (lg e (.slice mg e.ag.length k7) (.slice none e.aC.length 0)) #[.slice none 0 0,.int .i64 0,.string ⟨#[]⟩] #[.slice ak q2.aJ.length ck,.int .i64 q2.bg,S q2.str] 4 5) (by kernel_rfl) (by kernel_rfl) ?_ ?_ ?_
   ·exact⟨0,Aw.start _ VV Qd.O Qe.O⟩
   ·rintro x s' a' w' i bS bO ha hC hi;obtain⟨aH,oi,dI,au⟩:=mem_ready.1 hi;have uR:=(hC.keep m (Qg Qj.O) Ap Ql).trans Qj.O;have Qm:=(hC.keep w.heap.size (Qg Qk.O) (by omega) (by omega)).trans Qk.O;have sG:Ok J w':=LY.O.of_block fun b c hb=>hC.keep b (LY.O.lt hb) (fun h=>by rw[h,Ri]at hb;cases hb) (fun h=>by rw[h,F5]at hb;cases hb);rcases i with _|_|_|_|_|_|_|i
    rotate_left 7
    ·simp at dI
    all_goals
     have dH:=dI;simp at dI;subst dI;simp[Region.binds]at au
    ·have e7:a'.tmps[7]?.getD undef= .pointer (some ⟨m,0,none⟩):=oL ha (by simp);have d0:w'.cell? ⟨m,0,none⟩=_:=(cell_of_row _ _ 0 _ _ _ uR).trans rfl;have d1:w'.cell? ⟨m,1,none⟩=_:=(cell_of_row _ _ 1 _ _ _ uR).trans rfl;have d2:w'.cell? ⟨m,2,none⟩=_:=(cell_of_row _ _ 2 _ _ _ uR).trans rfl;have d3:w'.cell? ⟨m,3,none⟩=_:=(cell_of_row _ _ 3 _ _ _ uR).trans rfl;have d4:w'.cell? ⟨m,4,none⟩=_:=(cell_of_row _ _ 4 _ _ _ uR).trans rfl;have d5:w'.cell? ⟨m,5,none⟩=_:=(cell_of_row _ _ 5 _ _ _ uR).trans rfl;have d6:w'.cell? ⟨m,6,none⟩=_:=(cell_of_row _ _ 6 _ _ _ uR).trans rfl;refine wpOp_step dH (fun K' hK=> ?_);rw[if_pos (by rfl)];unfold Oper.wp;simp[go_sem,e7,d0,d1,d2,d3,d4,d5,d6,Oper.upon];exact hK _ _ ⟨x,dS (d:=some 43) (v:=iF e (.slice mg e.ag.length k7) (.slice none e.aC.length 0)) ym ha rfl aH,hC.pure (by decide) (by decide)⟩
    ·have e2:a'.tmps[2]?.getD undef= .pointer (some ⟨w.heap.size,0,none⟩):=oL ha (by simp);have d0:w'.cell? ⟨w.heap.size,0,none⟩=_:=(cell_of_row _ _ 0 _ _ _ Qm).trans rfl;have d1:w'.cell? ⟨w.heap.size,1,none⟩=_:=(cell_of_row _ _ 1 _ _ _ Qm).trans rfl;have d2:w'.cell? ⟨w.heap.size,2,none⟩=_:=(cell_of_row _ _ 2 _ _ _ Qm).trans rfl;refine wpOp_step dH (fun K' hK=> ?_);rw[if_pos (by rfl)];unfold Oper.wp;simp[go_sem,e2,d0,d1,d2,Oper.upon];exact hK _ _ ⟨x,dS (d:=some 44) (v:=fD q2 (.slice ak q2.aJ.length ck)) ym ha rfl aH,hC.pure (by decide) (by decide)⟩
    ·have e7:a'.tmps[7]?.getD undef= .pointer (some ⟨m,0,none⟩):=oL ha (by simp);have d0:w'.cell? ⟨m,0,none⟩=_:=(cell_of_row _ _ 0 _ _ _ uR).trans rfl;have d1:w'.cell? ⟨m,1,none⟩=_:=(cell_of_row _ _ 1 _ _ _ uR).trans rfl;have d2:w'.cell? ⟨m,2,none⟩=_:=(cell_of_row _ _ 2 _ _ _ uR).trans rfl;have d3:w'.cell? ⟨m,3,none⟩=_:=(cell_of_row _ _ 3 _ _ _ uR).trans rfl;have d4:w'.cell? ⟨m,4,none⟩=_:=(cell_of_row _ _ 4 _ _ _ uR).trans rfl;have d5:w'.cell? ⟨m,5,none⟩=_:=(cell_of_row _ _ 5 _ _ _ uR).trans rfl;have d6:w'.cell? ⟨m,6,none⟩=_:=(cell_of_row _ _ 6 _ _ _ uR).trans rfl;refine wpOp_step dH (fun K' hK=> ?_);rw[if_pos (by rfl)];unfold Oper.wp;simp[go_sem,e7,d0,d1,d2,d3,d4,d5,d6,Oper.upon];exact hK _ _ ⟨x,dS (d:=some 45) (v:=iF e (.slice mg e.ag.length k7) (.slice none e.aC.length 0)) ym ha rfl aH,hC.pure (by decide) (by decide)⟩
    ·have e45:a'.tmps[45]?.getD undef=iF e (.slice mg e.ag.length k7) (.slice none e.aC.length 0):=gI (i:=2) ym ha rfl (by first|simpa using au|simp[au]) (by simp);refine wpOp_step dH (fun K' hK=> ?_);rw[if_pos (by rfl)];unfold Oper.wp;simp[go_sem,e45,Oper.upon];refine(vz.O w' sG).mono ?_;rintro r4 w4 ⟨rfl,aS⟩;exact hK _ _ ⟨x,dS (d:=some 46) (v:= .int .i64 (aX e)) ym ha rfl aH,hC.call aS (by decide) (by decide) VV⟩
    ·have e4:a'.tmps[4]?.getD undef= .pointer (some ⟨w.heap.size+2,0,none⟩):=oL ha (by simp);have e43:a'.tmps[43]?.getD undef=iF e (.slice mg e.ag.length k7) (.slice none e.aC.length 0):=gI (i:=0) ym ha rfl (by first|simpa using au|simp[au]) (by simp);have je:=hC.r1;rw[gG aH]at je;refine wpOp_step dH (fun K' hK=> ?_);rw[if_pos (by rfl)];refine oK 63 _ _ rfl (w.heap.size+2) 0 [.int .i64 e.av,S e.aj,.slice mg e.ag.length k7,S e.target,.int .i64 e.size,S e.aD,.slice none e.aC.length 0] (iF e (.slice mg e.ag.length k7) (.slice none e.aC.length 0)) (by simp[Act.eval,e4]) (by simp[Act.eval,e43]) (by rfl) cu _ je (by simp) (by kernel_rfl) (by simp[Value.oneCell']) ?_;exact hK _ _ ⟨x,dS (d:=none) (v:=undef) ym ha rfl aH,hC.jP aH (by decide) (by omega) (by omega) (by rfl)⟩
    ·have e5:a'.tmps[5]?.getD undef= .pointer (some ⟨w.heap.size+3,0,none⟩):=oL ha (by simp);have e44:a'.tmps[44]?.getD undef=fD q2 (.slice ak q2.aJ.length ck):=gI (i:=1) ym ha rfl (by first|simpa using au|simp[au]) (by simp);have iN:=hC.r2;rw[gG aH]at iN;refine wpOp_step dH (fun K' hK=> ?_);rw[if_pos (by rfl)];refine oK 43 _ _ rfl (w.heap.size+3) 0 [.slice ak q2.aJ.length ck,.int .i64 q2.bg,S q2.str] (fD q2 (.slice ak q2.aJ.length ck)) (by simp[Act.eval,e5]) (by simp[Act.eval,e44]) (by rfl) #[.slice none 0 0,.int .i64 0,.string ⟨#[]⟩] _ iN (by simp) (by kernel_rfl) (by simp[Value.oneCell']) ?_;exact hK _ _ ⟨x,dS (d:=none) (v:=undef) ym ha rfl aH,hC.wH aH (by decide) (by omega) (by omega) (by rfl)⟩
    ·have e46:a'.tmps[46]?.getD undef= .int .i64 (aX e):=gI (i:=3) ym ha rfl (by first|simpa using au|simp[au]) (by simp);refine wpOp_step dH (fun K' hK=> ?_);rw[if_pos (by rfl)];unfold Oper.wp;simp[go_sem,e46,Oper.upon];exact hK _ _ ⟨x,dS (d:=some 6) (v:= .int .i64 (aX e)) ym ha rfl aH,hC.pure (by decide) (by decide)⟩
   ·rintro x s' a' sM eu ha hC;have je:=hC.r1;have iN:=hC.r2;rw[eu 4 (by decide),if_pos rfl]at je;rw[eu 5 (by decide),if_pos rfl]at iN;have wU:=Qh je;have KS:=Qh iN;have jS:Ok J sM:=LY.O.of_block fun b c hb=>hC.keep b (LY.O.lt hb) (fun h=>by rw[h,Ri]at hb;cases hb) (fun h=>by rw[h,F5]at hb;cases hb);have mO:=Xj.trans hC.eU;rw[qz _ _ _ _ (fun i hi=>by rw[Nat.zero_add];exact eu i (by simpa using hi))]at ha;subst ha;simp only[dE,Act.put];clear hC eu je iN Qd Qe Qj Qk;go_wp2;refine bodyPost_ret (v:= .tuple #[iF e (.slice mg e.ag.length k7) (.slice none e.aC.length 0),fD q2 (.slice ak q2.aJ.length ck),.int .i64 (aX e)]) ?_ rfl ?_
    ·rw[Xdj rfl];simp[asAddr,run_loadVar_row sM (w.heap.size+2) 63 63 _ (0,0) _ wU.O Tryz.underlying63 rfl Nv.O,run_loadVar_row sM (w.heap.size+3) 43 43 _ (0,0) _ KS.O Tryz.underlying43 rfl wQ.O]
    ·rw[Hn.O];exact⟨_,_,_,J,rfl,mO,HJ.O.1,jS,HJ.O.2.1,HJ.O.2.2.1,HJ.O.2.2.2⟩
  case pos=>
   have e1:(c.av==1)=true:=by simpa using hk
   obtain⟨sm,vL⟩:∃sm,dW c.aI=sm:=⟨_,rfl⟩;have yt:=Qh (fun(b:Nat) (W:World) (hc:W.cell? ⟨b,0,none⟩=some (S c.aI)) (hb:b<W.heap.size)=>(by
    have:=Xpo b 0 1 [c.aI] c.aI (by simp) (by omega) W (fun j x hj=>by
     rcases j with _|j
     ·simp at hj;subst hj;exact hc
     ·simp at hj) (by simp) hb (by simp)
    rwa[vL]at this:Calls Tryz.prog 60 #[.slice (some ⟨b,0,none⟩) 1 1] W fun e w'=>e= .returned (S sm)∧Below W.heap.size W w'))
   have c4:w8.cell? ⟨w.heap.size+1,4,none⟩=some (S c.aI):=(cell_of_row _ _ 4 _ _ _ VT.O).trans rfl;obtain⟨q2,xs,pn,Cq⟩:∃q2 xs pn,jA q c.aI=(q2,xs,pn):=⟨_,_,_,rfl⟩;have WW:pn=0:=by have:=(Y4 Hq.O bO).2;rw[Cq]at this;exact this
   subst WW;have xI:=Qh (fun w hw=>(by
    have yQ:=Hq.O;have:=Xvt 4294901760 10000000 (by decide) (by decide) J q _ VU.O ⟨by have:=yQ.s0;omega,by have:=yQ.s1;omega,yQ.str,hqn,fun k hk=>(yQ.cx k hk).x⟩ (fun k hk=>(yQ.cx k hk).d) c.aI (by omega) w hw;rwa[Cq]at this:Calls Tryz.prog 50 #[fD q (.slice ak q.aJ.length ck),S c.aI] w (CF J w (q2,xs,0))))
   have BS:=Qh (show fQ q c=(⟨c.av,c.aj,c.ag,c.target,(c.aI.length:Nat),sm,xs⟩,q2) by rw[fQ,if_pos hk,Cq,vL]);have Zk:=Qh (show(⟨c.av,c.aj,c.ag,c.target,(c.aI.length:Nat),sm,xs⟩:bD).Wf by have:=Y7 Hq.O Hc.O;rw[BS.O]at this;exact this);have P7:m<w8.heap.size:=(Qg Gi.O);have dle:decide ((c.aI.length:Int)≤65536)=true:=Qt (by omega);clear Cq vL hk;go_wp2_with fail
   refine qR (X:=Nat) (Zh w.heap.size m c.aI sm) (jX w8 5 232 223 233 224 234 225 235 (fun _ _=>True) (fun x w=>w.cell? ⟨x,0,none⟩=some (S c.aI)) (fun _ _=>True) (fun _ _=>True) (fun _ _=>True) (fun _ _=>True) (fun x=>m) 63 8 10 212 (fun x=> #[.int .i64 c.av,S c.aj,.slice mg c.ag.length k7,S c.target,.int .i64 (c.aI.length:Int),.string ⟨#[]⟩,.slice none 0 0]) (fun x=> #[.int .i64 c.av,S c.aj,.slice mg c.ag.length k7,S c.target,.int .i64 (c.aI.length:Int),S sm,.slice none 0 0]) (fun x=> #[.int .i64 c.av,S c.aj,.slice mg c.ag.length k7,S c.target,.int .i64 (c.aI.length:Int),S sm,.slice none 0 0])) (by kernel_rfl) (by kernel_rfl) ?_ ?_ ?_
   ·exact⟨0,jX.start _ _ trivial⟩
   ·rintro x s' a' w' i bS bO ha hC hi;obtain⟨aH,oi,dI,au⟩:=mem_ready.1 hi;have ev:=vV P9 ha;have hlt:=oO aH;rcases i with _|_|_|_|_|_|_|_|_|_|_|i
    rotate_left 11
    ·simp at dI
    all_goals
     have dH:=dI;simp at dI;subst dI;simp[Region.binds]at au;try have hl:=kz 6 8 bO (by decide+kernel) aH
     try have aT:=hC.off hl
     try have c4:=aV aT c4
     refine wpOp_step dH (fun K' hK=> ?_);rw[if_pos (by rfl)]
    rotate_left 5
    ·unfold Oper.wp;simp[go_sem,ev,dG,au,Oper.upon,c4];have ha:=ha.trans (lT (L:=Zh w.heap.size m c.aI sm x) (M:=Zh w.heap.size m c.aI sm w'.heap.size) [5] rfl (fun j bq=>by
      rcases j with _|_|_|_|_|_|_|_|_|_|_|j<;>first|rfl|(exact absurd (by decide) bq)|simp) (List.forall_mem_cons.2 ⟨gG aH,List.forall_mem_nil _⟩))
     exact hK _ _ ⟨w'.heap.size,gD P9 ha rfl aH,hC.step hl (aT.trans (((Qb _ _).alloc (Qn _) _).mono aT.size)) (by decide) (fun _=>trivial) (fun _ _=>by simp) (fun _ _=>trivial) (fun _ _=>trivial) (fun _ _=>trivial) hlt⟩
    ·have AA:=hC.f1 (by first|simpa using au|simp[au]) (gX (by simp[bS])) hl;unfold Oper.wp;simp[go_sem,ev,dG,au,Oper.upon];refine(yt.O x w' AA (block_lt_of_cell AA)).mono ?_;rintro r4 w4 ⟨rfl,aS⟩;exact hK _ _ ⟨x,gD P9 ha rfl aH,hC.step hl (aT.trans (aS.mono aT.size)) (by decide) (fun _=>trivial) (fun h _=>h.elim (fun e=>absurd e (by decide)) (fun⟨_,_,q⟩=>aV aS q)) (fun _ _=>trivial) (fun _ _=>trivial) (fun _ _=>trivial) hlt⟩
    rotate_left 1
    ·have aK:w'.heap[m]?=some (.cells _ 63 (0,0)):=(aT.block _ (Qg Gi.O)).trans Gi.O;refine oK 3 _ _ rfl (m) 4 [.int .i64 (c.aI.length:Int)] (.int .i64 (c.aI.length:Int)) (by simp[Act.eval,ev,dG,au]) (by simp[Act.eval,ev,dG,au]) (by rfl) _ _ aK (by simp) (by kernel_rfl) (by simp[Value.oneCell']) ?_;exact hK _ _ ⟨x,dS (d:=none) (v:=undef) P9 ha rfl aH,hC.jP aH trivial (kz 6 10 bO (by kernel_rfl) aH) (gX (by simp[bS])) (by decide) aK (by rfl)⟩
    rotate_left 1
    ·have aK:=hC.zC (s1:=8) (by first|simpa using au|simp[au]) (gG aH) (gX (by simp[bS]));refine oK 9 _ _ rfl (m) 5 [S sm] (S sm) (by simp[Act.eval,ev,dG,au]) (by simp[Act.eval,ev,dG,au]) (by rfl) _ _ aK (by simp) (by kernel_rfl) (by simp[Value.oneCell']) ?_;exact hK _ _ ⟨x,dS (d:=none) (v:=undef) P9 ha rfl aH,hC.wH aH (by first|simpa using au|simp[au]) (gX (by simp[bS])) (by decide) (by rfl)⟩
    all_goals
     unfold Oper.wp;first
     |(simp[go_sem,ev,dG,au,Oper.upon,c4];exact hK _ _ ⟨x,gD P9 ha rfl aH,hC.pure (by decide)⟩)
     |(simp[go_sem,ev,dG,Oper.upon,c4];exact hK _ _ ⟨x,gD P9 ha rfl aH,hC.pure (by decide)⟩)
   ·rintro x s' a' mf eu ha hC;obtain⟨wb,eG,ed,dR,aK⟩:=hC.on (eu 8 (by decide));rw[if_pos (eu 10 (by decide))]at aK;simp only[ite_self]at aK;rw[qz _ _ _ _ (fun i hi=>by rw[Nat.zero_add];exact eu i (by simpa using hi))]at ha;subst ha;simp only[dE,Act.put,List.setIfInBounds_toArray,List.set_cons_succ,List.set_cons_zero];have arL:=(Qg aK);have GZ:=eG.size;have lL:Ok J mf:=(q8.below (Qn _) eG).grown dR (fun g e=>by cases e;exact Jc);have iJ:Below w.heap.size w mf:=(mH.trans (eG.mono mH.size)).grown dR (by have:=mH.size;omega) (fun k e=>by cases e;omega);have hz:∀b,b<w.heap.size+4→mf.heap[b]?=w8.heap[b]? :=fun b hb=>(dR.block _ (by omega) (fun e=>by cases e;omega)).trans (eG.block _ (by omega));have VW:=Qh ((hz w.heap.size (by omega)).trans Zj.O);have HC9:=Qh ((hz (w.heap.size+1) (by omega)).trans VT.O);have VX:=Qh ((hz (w.heap.size+2) (by omega)).trans Qd.O);have VY:=Qh ((hz (w.heap.size+3) (by omega)).trans Qe.O);have PT:=Qh aK;have k4:mf.cell? ⟨w.heap.size+1,4,none⟩=some (S c.aI):=(cell_of_row _ _ 4 _ _ _ HC9.O).trans rfl;have q0:mf.cell? ⟨w.heap.size,0,none⟩=some (.slice ak q.aJ.length ck):=(cell_of_row _ _ 0 _ _ _ VW.O).trans rfl;have q1:mf.cell? ⟨w.heap.size,1,none⟩=some (.int .i64 q.bg):=(cell_of_row _ _ 1 _ _ _ VW.O).trans rfl;have q2':mf.cell? ⟨w.heap.size,2,none⟩=some (S q.str):=(cell_of_row _ _ 2 _ _ _ VW.O).trans rfl;clear hz dR aK eG hC eu Qd Qe Gi VT Zj c4 yt k0;have NQ:m<mf.heap.size:=(Qg PT.O);go_wp2_with fail
    refine(xI.O _ lL).mono ?_;rintro e12 Tn ⟨vk3,vx3,J,rfl,FT,DR,NR,x8,Qo⟩;obtain⟨DT,DU,rfl,_,_,_⟩:=id x8;obtain⟨Ae,Af,rfl,_,_,_⟩:=id Qo;have VZ:=FT.size;have V3:=(FT.block _ (by omega)).trans VW.O;have V4:=(FT.block _ NQ).trans PT.O;clear q0 q1 q2' k4 e1 dle
    go_wp2_with (first
     |(refine fO rfl rfl 43 _ _ rfl w.heap.size 0 [.slice DT q2.aJ.length DU,.int .i64 q2.bg,S q2.str] (fD q2 (.slice DT q2.aJ.length DU)) (by simp[Act.eval]) (by simp[Act.eval]) (by rfl) _ 43 V3 (by simp) (by kernel_rfl) (by simp[Value.oneCell']) #[.slice DT q2.aJ.length DU,.int .i64 q2.bg,S q2.str] (by rfl) ?_
       intro w13 qG FU)
     |(refine fO rfl rfl 61 _ _ rfl m 6 [.slice Ae xs.length Af] (.slice Ae xs.length Af) (by simp[Act.eval]) (by simp[Act.eval]) (by rfl) _ 63 ((qG.block _ (by omega) (fun e=>by cases e;omega)).trans V4) (by simp) (by kernel_rfl) (by simp[Value.oneCell']) #[.int .i64 c.av,S c.aj,.slice mg c.ag.length k7,S c.target,.int .i64 (c.aI.length:Int),S sm,.slice Ae xs.length Af] (by rfl) ?_
       intro Qp qH FV))
    have V5:=qG.size;have V6:=qH.size;have Gp:=DR.keep lL (Qn _);have Ri:J (w.heap.size+2)=none:=(DR _ (by omega)).trans (Qa _ (by omega) (by omega));have F5:J (w.heap.size+3)=none:=(DR _ (by omega)).trans (Qa _ (by omega) (by omega));have Es:J w.heap.size=none:=(DR _ (by omega)).trans (Qa _ (by omega) (by omega));have V7:J m=none:=(DR _ NQ).trans Jc;have hz:∀b,b<w.heap.size+4→b≠w.heap.size→Qp.heap[b]?=mf.heap[b]? :=fun b hb hn=>((qH.block _ (by omega) (fun e=>by cases e;omega)).trans (qG.block _ (by omega) (fun e=>by cases e;omega))).trans (FT.block _ (by omega));have Qd:=Qh ((hz (w.heap.size+2) (by omega) (by omega)).trans VX.O);have Qe:=Qh ((hz (w.heap.size+3) (by omega) (by omega)).trans VY.O);have Qk:=Qh ((qH.block w.heap.size (by omega) (fun e=>by cases e;omega)).trans FU);have LY:=Qh ((NR.grown qG (fun g e=>by cases e;exact Es)).grown qH (fun g e=>by cases e;exact V7));have Xj:Below w.heap.size w Qp:=((iJ.trans (FT.mono iJ.size)).grown qG (by omega) (fun k e=>by cases e;omega)).grown qH (by omega) (fun k e=>by cases e;omega);obtain⟨e,he⟩:∃e:bD,(⟨c.av,c.aj,c.ag,c.target,(c.aI.length:Nat),sm,xs⟩:bD)=e:=⟨_,rfl⟩;have Hn:=Qh (show fQ q c=(e,q2) by rw[BS.O,he]);have DY:aZ nk J (.slice mg e.ag.length k7) e.ag:=by rw[←he];exact Bh.mono Gp
    have Kz:aZ mU J (.slice Ae e.aC.length Af) e.aC:=by rw[←he];exact Qo
    have lQ:e.Wf:=by rw[←he];exact Zk.O
    have vz:=Qh (fun w hw=>Yp J (hG2.mono Gp) e _ _ DY Kz lQ (by rw[←he];exact qp) (by rw[←he];exact zu) w hw);have HJ:=Qh (And.intro (Qc.trans (DR.mono (show w.heap.size≤_ by omega)) (Qn _)) (And.intro DY (And.intro Kz x8)));have Qj:=Qh (show Qp.heap[m]?=some (.cells #[.int .i64 e.av,S e.aj,.slice mg e.ag.length k7,S e.target,.int .i64 e.size,S e.aD,.slice Ae e.aC.length Af] 63 (0,0)) by rw[←he];exact FV);clear he DY lQ Kz Qo Zk BS FU FV qG qH hz Gp FT DR NR V3 V4 lL iJ VX VY VW HC9 PT xI Bh x8 Qc Qa hG2 q8 mH Es V7 Jc;have VV:w.heap.size≤Qp.heap.size:=Xj.size;have Ap:m≠w.heap.size+2:=by omega
    have Ql:m≠w.heap.size+3:=by omega
    refine qR (X:=Nat) (fun _=>reL m w.heap.size e (.slice mg e.ag.length k7) (.slice Ae e.aC.length Af) (.slice DT q2.aJ.length DU) q2) (fun _=>Aw w.heap.size Qp (w.heap.size+2) (w.heap.size+3) 63 43 cu (lg e (.slice mg e.ag.length k7) (.slice Ae e.aC.length Af)) #[.slice none 0 0,.int .i64 0,.string ⟨#[]⟩] #[.slice DT q2.aJ.length DU,.int .i64 q2.bg,S q2.str] 4 5) (by kernel_rfl) (by kernel_rfl) ?_ ?_ ?_
    ·exact⟨0,Aw.start _ VV Qd.O Qe.O⟩
    ·rintro x s' a' w' i bS bO ha hC hi;obtain⟨aH,oi,dI,au⟩:=mem_ready.1 hi;have uR:=(hC.keep m (Qg Qj.O) Ap Ql).trans Qj.O;have Qm:=(hC.keep w.heap.size (Qg Qk.O) (by omega) (by omega)).trans Qk.O;have sG:Ok J w':=LY.O.of_block fun b c hb=>hC.keep b (LY.O.lt hb) (fun h=>by rw[h,Ri]at hb;cases hb) (fun h=>by rw[h,F5]at hb;cases hb);rcases i with _|_|_|_|_|_|_|i
     rotate_left 7
     ·simp at dI
     all_goals
      have dH:=dI;simp at dI;subst dI;simp[Region.binds]at au
     ·have e7:a'.tmps[7]?.getD undef= .pointer (some ⟨m,0,none⟩):=oL ha (by simp);have d0:w'.cell? ⟨m,0,none⟩=_:=(cell_of_row _ _ 0 _ _ _ uR).trans rfl;have d1:w'.cell? ⟨m,1,none⟩=_:=(cell_of_row _ _ 1 _ _ _ uR).trans rfl;have d2:w'.cell? ⟨m,2,none⟩=_:=(cell_of_row _ _ 2 _ _ _ uR).trans rfl;have d3:w'.cell? ⟨m,3,none⟩=_:=(cell_of_row _ _ 3 _ _ _ uR).trans rfl;have d4:w'.cell? ⟨m,4,none⟩=_:=(cell_of_row _ _ 4 _ _ _ uR).trans rfl;have d5:w'.cell? ⟨m,5,none⟩=_:=(cell_of_row _ _ 5 _ _ _ uR).trans rfl;have d6:w'.cell? ⟨m,6,none⟩=_:=(cell_of_row _ _ 6 _ _ _ uR).trans rfl;refine wpOp_step dH (fun K' hK=> ?_);rw[if_pos (by rfl)];unfold Oper.wp;simp[go_sem,e7,d0,d1,d2,d3,d4,d5,d6,Oper.upon];exact hK _ _ ⟨x,dS (d:=some 43) (v:=iF e (.slice mg e.ag.length k7) (.slice Ae e.aC.length Af)) ym ha rfl aH,hC.pure (by decide) (by decide)⟩
     ·have e2:a'.tmps[2]?.getD undef= .pointer (some ⟨w.heap.size,0,none⟩):=oL ha (by simp);have d0:w'.cell? ⟨w.heap.size,0,none⟩=_:=(cell_of_row _ _ 0 _ _ _ Qm).trans rfl;have d1:w'.cell? ⟨w.heap.size,1,none⟩=_:=(cell_of_row _ _ 1 _ _ _ Qm).trans rfl;have d2:w'.cell? ⟨w.heap.size,2,none⟩=_:=(cell_of_row _ _ 2 _ _ _ Qm).trans rfl;refine wpOp_step dH (fun K' hK=> ?_);rw[if_pos (by rfl)];unfold Oper.wp;simp[go_sem,e2,d0,d1,d2,Oper.upon];exact hK _ _ ⟨x,dS (d:=some 44) (v:=fD q2 (.slice DT q2.aJ.length DU)) ym ha rfl aH,hC.pure (by decide) (by decide)⟩
     ·have e7:a'.tmps[7]?.getD undef= .pointer (some ⟨m,0,none⟩):=oL ha (by simp);have d0:w'.cell? ⟨m,0,none⟩=_:=(cell_of_row _ _ 0 _ _ _ uR).trans rfl;have d1:w'.cell? ⟨m,1,none⟩=_:=(cell_of_row _ _ 1 _ _ _ uR).trans rfl;have d2:w'.cell? ⟨m,2,none⟩=_:=(cell_of_row _ _ 2 _ _ _ uR).trans rfl;have d3:w'.cell? ⟨m,3,none⟩=_:=(cell_of_row _ _ 3 _ _ _ uR).trans rfl;have d4:w'.cell? ⟨m,4,none⟩=_:=(cell_of_row _ _ 4 _ _ _ uR).trans rfl;have d5:w'.cell? ⟨m,5,none⟩=_:=(cell_of_row _ _ 5 _ _ _ uR).trans rfl;have d6:w'.cell? ⟨m,6,none⟩=_:=(cell_of_row _ _ 6 _ _ _ uR).trans rfl;refine wpOp_step dH (fun K' hK=> ?_);rw[if_pos (by rfl)];unfold Oper.wp;simp[go_sem,e7,d0,d1,d2,d3,d4,d5,d6,Oper.upon];exact hK _ _ ⟨x,dS (d:=some 45) (v:=iF e (.slice mg e.ag.length k7) (.slice Ae e.aC.length Af)) ym ha rfl aH,hC.pure (by decide) (by decide)⟩
     ·have e45:a'.tmps[45]?.getD undef=iF e (.slice mg e.ag.length k7) (.slice Ae e.aC.length Af):=gI (i:=2) ym ha rfl (by first|simpa using au|simp[au]) (by simp);refine wpOp_step dH (fun K' hK=> ?_);rw[if_pos (by rfl)];unfold Oper.wp;simp[go_sem,e45,Oper.upon];refine(vz.O w' sG).mono ?_;rintro r4 w4 ⟨rfl,aS⟩;exact hK _ _ ⟨x,dS (d:=some 46) (v:= .int .i64 (aX e)) ym ha rfl aH,hC.call aS (by decide) (by decide) VV⟩
     ·have e4:a'.tmps[4]?.getD undef= .pointer (some ⟨w.heap.size+2,0,none⟩):=oL ha (by simp);have e43:a'.tmps[43]?.getD undef=iF e (.slice mg e.ag.length k7) (.slice Ae e.aC.length Af):=gI (i:=0) ym ha rfl (by first|simpa using au|simp[au]) (by simp);have je:=hC.r1;rw[gG aH]at je;refine wpOp_step dH (fun K' hK=> ?_);rw[if_pos (by rfl)];refine oK 63 _ _ rfl (w.heap.size+2) 0 [.int .i64 e.av,S e.aj,.slice mg e.ag.length k7,S e.target,.int .i64 e.size,S e.aD,.slice Ae e.aC.length Af] (iF e (.slice mg e.ag.length k7) (.slice Ae e.aC.length Af)) (by simp[Act.eval,e4]) (by simp[Act.eval,e43]) (by rfl) cu _ je (by simp) (by kernel_rfl) (by simp[Value.oneCell']) ?_;exact hK _ _ ⟨x,dS (d:=none) (v:=undef) ym ha rfl aH,hC.jP aH (by decide) (by omega) (by omega) (by rfl)⟩
     ·have e5:a'.tmps[5]?.getD undef= .pointer (some ⟨w.heap.size+3,0,none⟩):=oL ha (by simp);have e44:a'.tmps[44]?.getD undef=fD q2 (.slice DT q2.aJ.length DU):=gI (i:=1) ym ha rfl (by first|simpa using au|simp[au]) (by simp);have iN:=hC.r2;rw[gG aH]at iN;refine wpOp_step dH (fun K' hK=> ?_);rw[if_pos (by rfl)];refine oK 43 _ _ rfl (w.heap.size+3) 0 [.slice DT q2.aJ.length DU,.int .i64 q2.bg,S q2.str] (fD q2 (.slice DT q2.aJ.length DU)) (by simp[Act.eval,e5]) (by simp[Act.eval,e44]) (by rfl) #[.slice none 0 0,.int .i64 0,.string ⟨#[]⟩] _ iN (by simp) (by kernel_rfl) (by simp[Value.oneCell']) ?_;exact hK _ _ ⟨x,dS (d:=none) (v:=undef) ym ha rfl aH,hC.wH aH (by decide) (by omega) (by omega) (by rfl)⟩
     ·have e46:a'.tmps[46]?.getD undef= .int .i64 (aX e):=gI (i:=3) ym ha rfl (by first|simpa using au|simp[au]) (by simp);refine wpOp_step dH (fun K' hK=> ?_);rw[if_pos (by rfl)];unfold Oper.wp;simp[go_sem,e46,Oper.upon];exact hK _ _ ⟨x,dS (d:=some 6) (v:= .int .i64 (aX e)) ym ha rfl aH,hC.pure (by decide) (by decide)⟩
    ·rintro x s' a' sM eu ha hC;have je:=hC.r1;have iN:=hC.r2;rw[eu 4 (by decide),if_pos rfl]at je;rw[eu 5 (by decide),if_pos rfl]at iN;have wU:=Qh je;have KS:=Qh iN;have jS:Ok J sM:=LY.O.of_block fun b c hb=>hC.keep b (LY.O.lt hb) (fun h=>by rw[h,Ri]at hb;cases hb) (fun h=>by rw[h,F5]at hb;cases hb);have mO:=Xj.trans hC.eU;rw[qz _ _ _ _ (fun i hi=>by rw[Nat.zero_add];exact eu i (by simpa using hi))]at ha;subst ha;simp only[dE,Act.put];clear hC eu je iN Qd Qe Qj Qk;go_wp2;refine bodyPost_ret (v:= .tuple #[iF e (.slice mg e.ag.length k7) (.slice Ae e.aC.length Af),fD q2 (.slice DT q2.aJ.length DU),.int .i64 (aX e)]) ?_ rfl ?_
     ·rw[Xdj rfl];simp[asAddr,run_loadVar_row sM (w.heap.size+2) 63 63 _ (0,0) _ wU.O Tryz.underlying63 rfl Nv.O,run_loadVar_row sM (w.heap.size+3) 43 43 _ (0,0) _ KS.O Tryz.underlying43 rfl wQ.O]
     ·rw[Hn.O];exact⟨_,_,_,J,rfl,mO,HJ.O.1,jS,HJ.O.2.1,HJ.O.2.2.1,HJ.O.2.2.2⟩
abbrev Bp(c:ic)(va:Value):List Value:=[.int .i64 c.av,S c.aj,va,S c.target,S c.aI]
abbrev Bj(c:ic)(va:Value):Value:= .agg #[.int .i64 c.av,S c.aj,va,S c.target,S c.aI]
def xm:Ty ic where
 size:=5
 rd:=fun I cs c=> ∃va,cs=Bp c va∧aZ nk I va c.ag
 len:=fun⟨_,h,_⟩=>by rw[h];rfl
 one:=fun⟨va,h,h1⟩ u hu=>by
  rw[h]at hu;simp at hu;rcases hu with rfl|rfl|rfl|rfl|rfl<;>first|rfl|exact h1.one
 mono:=fun hI ⟨va,h,h1⟩=>⟨va,h,h1.mono hI⟩
structure Bq (w:World) (b o:Nat) (c:ic) (va:Value):Prop where
 c0:w.cell? ⟨b,o,none⟩=some (.int .i64 c.av)
 c1:w.cell? ⟨b,o+1,none⟩=some (S c.aj)
 c2:w.cell? ⟨b,o+2,none⟩=some va
 c3:w.cell? ⟨b,o+3,none⟩=some (S c.target)
 c4:w.cell? ⟨b,o+4,none⟩=some (S c.aI)
theorem Bq.aR{o:Nat}(h:Bq w b o c va)(hb:Below w.heap.size w w'):Bq w' b o c va:=
 ⟨aV hb h.c0,aV hb h.c1,aV hb h.c2,aV hb h.c3,aV hb h.c4⟩
theorem Rs{l:List ic}(h:aZ xm I v l)(hw:Ok I w)(i:Nat)(hi:i<l.length):∃x va b off cap,l[i]=x∧v= .slice (some ⟨b,off,none⟩) l.length cap∧
 Bq w b (off+i*5) x va∧aZ nk I va x.ag:=by
 obtain⟨b,off,cap,cs,hv,⟨va,jf,h1⟩,hc⟩:=h.at_ hw hi;subst jf;exact⟨_,va,b,off,cap,rfl,hv,⟨hc 0 _ rfl,hc 1 _ rfl,hc 2 _ rfl,hc 3 _ rfl,hc 4 _ rfl⟩,h1⟩
structure zG (w:World) (n:Nat) (c:ic) (va:Value):Prop where
 c0:w.cell? ⟨n,0,none⟩=some (.int .i64 c.av)
 c1:w.cell? ⟨n,1,none⟩=some (S c.aj)
 c2:w.cell? ⟨n,2,none⟩=some va
 c3:w.cell? ⟨n,3,none⟩=some (S c.target)
 c4:w.cell? ⟨n,4,none⟩=some (S c.aI)
theorem zG.aR(h:zG w b c va)(hb:Below w.heap.size w w'):zG w' b c va:=
 ⟨aV hb h.c0,aV hb h.c1,aV hb h.c2,aV hb h.c3,aV hb h.c4⟩
theorem chgB_row{t:TypeId}(h:w.heap[b]?=some (.cells #[.int .i64 c.av,S c.aj,va,S c.target,S c.aI] t (0,0))):zG w b c va:=
 ⟨(cell_of_row _ _ 0 _ _ _ h).trans rfl,(cell_of_row _ _ 1 _ _ _ h).trans rfl,(cell_of_row _ _ 2 _ _ _ h).trans rfl,(cell_of_row _ _ 3 _ _ _ h).trans rfl,(cell_of_row _ _ 4 _ _ _ h).trans rfl⟩
structure og where
 aA:Int
 fH:List ic
variable{l:List og}{x:og}
def wK:Ty og where
 size:=2
 rd:=fun I cs b=> ∃vc,cs=[.int .i64 b.aA,vc]∧aZ xm I vc b.fH
 len:=fun⟨_,h,_⟩=>by rw[h];rfl
 one:=fun⟨vc,h,h1⟩ u hu=>by
  rw[h]at hu;simp at hu;rcases hu with rfl|rfl<;>first|rfl|exact h1.one
 mono:=fun hI ⟨vc,h,h1⟩=>⟨vc,h,h1.mono hI⟩
theorem XI(h:aZ wK I v l)(hw:Ok I w)(i:Nat)(hi:i<l.length):∃x vc b off cap,l[i]=x∧v= .slice (some ⟨b,off,none⟩) l.length cap∧
 w.cell? ⟨b,off+i*2,none⟩=some (.int .i64 x.aA)∧w.cell? ⟨b,off+i*2+1,none⟩=some vc∧aZ xm I vc x.fH:=by
 obtain⟨b,off,cap,cs,hv,⟨vc,jf,h1⟩,hc⟩:=h.at_ hw hi;subst jf;exact⟨_,vc,b,off,cap,rfl,hv,hc 0 _ rfl,hc 1 _ rfl,h1⟩
def lK(x:At):Bool:=decide (80<x.k.length) || decide (80<x.v.length)
def iL(c:ic):Bool:=decide (250<c.aj.length) || decide (250<c.target.length) || decide (20<c.ag.length) || decide (600<c.aI.length) || c.ag.any lK
def jo(l:List og):Nat:=(l.map fun b=>b.fH.length).sum
def vv(l:List og):Bool:=(l.any fun b=>b.fH.any iL) || decide (10<jo l) || decide (4<l.length)
def fI(l:List og):Int:=if vv l then 1 else 0
structure ic.Sm (c:ic):Prop where
 k0: -9223372036854775808≤c.av
 k1:c.av≤9223372036854775807
 aj:c.aj.length≤250
 target:c.target.length≤250
 Da:c.ag.length≤20
 aI:c.aI.length≤600
 ag:∀x∈c.ag,x.k.length≤80∧x.v.length≤80
theorem ic.Sm.wf(h:c.Sm):c.Wf:=
 ⟨h.k0,h.k1,by have:=h.aj;omega,fun x hx=>by have:=h.ag x hx;exact⟨by omega,by omega⟩,by have:=h.target;omega,by have:=h.aI;omega⟩
structure ic.In (c:ic):Prop where
 k0: -9223372036854775808≤c.av
 k1:c.av≤9223372036854775807
structure og.In (b:og):Prop where
 d0: -9223372036854775808≤b.aA
 d1:b.aA≤9223372036854775807
 fH:∀c∈b.fH,c.In
theorem Xxh(hi:c.In)(h:iL c=false):c.Sm:=by
 unfold iL at h;simp only[Bool.or_eq_false_iff,decide_eq_false_iff_not]at h;obtain⟨⟨⟨⟨h1,h2⟩,h3⟩,h4⟩,h5⟩:=h;refine⟨hi.k0,hi.k1,by omega,by omega,by omega,by omega,fun x hx=> ?_⟩;have:=(List.any_eq_false.1 h5) x hx;unfold lK at this;simp at this;omega
theorem Xsu(hi:∀b∈l,b.In)(h:vv l=false):(∀b∈l,∀c∈b.fH,c.Sm)∧jo l≤10∧l.length≤4:=by
 unfold vv at h;simp only[Bool.or_eq_false_iff,decide_eq_false_iff_not]at h;obtain⟨⟨h1,h2⟩,h3⟩:=h;refine⟨fun b hb c hc=> ?_,by omega,by omega⟩;have h4:=(List.any_eq_false.1 h1) b hb;have h5:b.fH.any iL=false:=by simpa using h4
 have h6:=(List.any_eq_false.1 h5) c hc;exact Xxh ((hi b hb).fH c hc) (by simpa using h6)
theorem Xfb(a b:List og):jo (a++b)=jo a+jo b:=by unfold jo;rw[List.map_append,List.sum_append]
theorem OC(hk:k<l.length)(hx:l[k]=x):jo (l.take (k+1))=jo (l.take k)+x.fH.length:=by
 rw[List.take_succ_eq_append_getElem hk,hx,Xfb];simp[jo]
theorem TR(l:List og)(k:Nat):jo (l.take k)≤jo l:=by
 have h:=Xfb (l.take k) (l.drop k);rw[List.take_append_drop]at h;omega
def jU(L:List bV)(l:List og):List bV:=l.foldl (fun L b=>(kN L b.aA b.fH).1) L
theorem Xgf(L:List bV)(l:List og)(hk:k<l.length)(hx:l[k]=x):jU L (l.take (k+1))=(kN (jU L (l.take k)) x.aA x.fH).1:=by
 unfold jU;rw[List.take_succ_eq_append_getElem hk,hx,List.foldl_append];rfl
theorem XH(hc:∀b∈l,∀c∈b.fH,c.aI.length≤1000)(ht:jo l≤1000)(hl:l.length≤200):∀k,k≤l.length→eT (jo (l.take k)) k (jU [] (l.take k))
 |0,_=>by rw[List.take_zero];exact Xtq
 |k+1,hk=>by
  have ih:=XH hc ht hl k (by omega);obtain⟨x,hx⟩:∃x,l[k]=x:=⟨_,rfl⟩;have hm:x∈l:=by rw[←hx];exact List.getElem_mem _
  have h1:=OC (by omega:k<l.length) hx;have h2:=TR l (k+1);rw[Xgf [] l (by omega) hx,h1];exact Xra ih (by omega) (by omega) (hc x hm)
theorem Xt1(hc:∀b∈l,∀c∈b.fH,c.aI.length≤1000)(ht:jo l≤1000)(hl:l.length≤200):eT (jo l) l.length (jU [] l):=by
 have h:=XH hc ht hl l.length (Qn _);rwa[List.take_length]at h
