/- Lemmas for the claim's theorem;conditions: as each says. -/
import Derived.Test.YtdodihnehppnmaaGreatDoorG26
import Derived.Test.YtdodihnehppnmaaGreatDoorG18
import Derived.Test.YtdodihnehppnmaaGreatDoorG28
set_option maxHeartbeats 0
set_option maxRecDepth 100000
set_option linter.all false
namespace Go.Proofs.YtdodihnehppnmaaGreatDoor
open Go.RowKit
variable{L:List dm}{st:List ae}{e:ay}
theorem Xq2{k:Nat}(hk:k<L.length){x:dm}(hx:L[k]=x):aS (L.take (k+1))=aS (L.take k)++[x.aI]:=by
 unfold aS;rw[List.take_succ_eq_append_getElem hk,hx,List.map_append];rfl
theorem Xse(L:List dm):(aS L).length=L.length:=by simp[aS]
def z8(g:ae×Int)(e:ay):ae×Int:=if g.2≠0 then([],g.2)else if(g.1.length:Int)≠e.size∨bE g.1≠e.aj then([],5)else(g.1,0)
theorem Xu9(h:e.ag=1):gI st e=z8 (qF st e.ak) e:=by
 unfold gI z8;rw[if_neg (by omega)]
theorem Xxo(h:e.ag≠1):gI st e=([],10):=by
 unfold gI;rw[if_pos h]
abbrev Ug(ct:ae)(n m:Nat)(sz:Int)(dg ed:ae)(bb:Bool)(x:Nat):List (Option Tmp×Value):=
 [(some 38,S ct),(some 39,.int .i64 (n:Int)),(some 40,.pointer (some ⟨m,4,none⟩)),(some 41,.int .i64 sz),(some 42,.bool false),(some 43,.bool false),(some 44,S ct),(some 45,.slice (some ⟨x,0,none⟩) 1 1),(some 46,S dg),(some 47,.pointer (some ⟨m,5,none⟩)),(some 48,S ed),(some 49,.bool bb),(some 50,.bool bb),(some 37,.bool bb)]
theorem QN{ct:ae}{n m:Nat}{sz:Int}{dg ed:ae}{bb:Bool}{x:Nat}:dL (Ug ct n m sz dg ed bb x):=by
 unfold dL;simp
abbrev rsL(so:Option Addr)(l sc m:Nat)(ax:Option Addr)(xl cx n:Nat)(ct:ae)(er:Int)(x:Option Addr×Nat):List (Option Tmp×Value):=
 [(some 12,.slice so l sc),(some 13,.slice x.1 n x.2),(some 14,.pointer (some ⟨m,6,none⟩)),(some 15,.slice ax xl cx),(some 16,.tuple #[S ct,.int .i64 er]),(some 11,.tuple #[S ct,.int .i64 er]),(some 17,S ct),(some 18,.int .i64 er),(some 6,S ct),(some 7,.int .i64 er)]
abbrev cbL(ct:ae)(n m:Nat)(sz:Int)(dg ed:ae)(bb:Bool)(x:Nat):List (Option Tmp×Value):=
 [(some 22,S ct),(some 23,.int .i64 (n:Int)),(some 24,.pointer (some ⟨m,4,none⟩)),(some 25,.int .i64 sz),(some 26,.bool false),(some 27,.bool false),(some 28,S ct),(some 29,.slice (some ⟨x,0,none⟩) 1 1),(some 30,S dg),(some 31,.pointer (some ⟨m,5,none⟩)),(some 32,S ed),(some 33,.bool bb),(some 34,.bool bb)]
theorem Xvv(hg:∀x∈L,kR x):∀s∈aS L,s.length≤9223372036854775807:=by
 intro s hs;obtain⟨x,hx,rfl⟩:=List.mem_map.1 hs;have:=(hg x hx).aI;omega
theorem Xkb(I:IH)(v:Value)(L:List dm)(hv:bf oK I v L)(hg:∀x∈L,kR x)(hn:L.length≤1000)(e:ay)(va vx:Value)(dV:bf kT I va e.ai)(dX:bf mE I vx e.ak)(w:World)(hw:Ok I w):
 Calls Tryz.prog 14 #[v,eT e va vx] w fun r w'=>r= .returned (.tuple #[S (gI (aS L) e).1,.int .i64 (gI (aS L) e).2])∧Below w.heap.size w w':=by
 have Hv:=Qh hv;have uY:=Qh dX;obtain⟨so,sc,rfl,_,_,_⟩:=id hv;obtain⟨aa,ca,rfl,_,_,_⟩:=id dV;obtain⟨ax,cx,rfl,_,_,_⟩:=id dX;have wN:=Qh (Xvv hg);have om:Below w.heap.size w (w.alloc (.cells #[.int .i64 e.ag,S e.af,.slice aa e.ai.length ca,S e.target,.int .i64 e.size,S e.aj,.slice ax e.ak.length cx] 26)):=(Qb _ _).alloc (Qn _) _;have lG:Ok I (w.alloc (.cells #[.int .i64 e.ag,S e.af,.slice aa e.ai.length ca,S e.target,.int .i64 e.size,S e.aj,.slice ax e.ak.length cx] 26)):=hw.alloc _;have lH:=Qh (bS (W:=w) (e:=e) (va:= .slice aa e.ai.length ca) (vx:= .slice ax e.ak.length cx) (t:=26) rfl (Qb _ _));have kw:=Qh (fun b (h:w.heap.size≤b)=>hw.fresh h);have hO0:=Qh (aM.nil gq 9 I (w.alloc (.cells #[.int .i64 e.ag,S e.af,.slice aa e.ai.length ca,S e.target,.int .i64 e.size,S e.aj,.slice ax e.ak.length cx] 26)) (w.heap.size+1));clear hv hg dV dX;by_cases hk:e.ag=1
 ·rw[Xu9 hk];obtain⟨N,hN⟩:∃N,z8 (qF (aS L) e.ak) e=N:=⟨_,rfl⟩;rw[hN];have HN:=Qh hN;have k0:(e.ag !=1)=false:=by rw[hk];rfl
  clear hk hN;obtain⟨c0,c1,c2,c3,c4,c5,c6⟩:=lH.O;go_enter Tryz.func14,Tryz.ntmps14
  go_wp2_with fail
  go_loopw [6,8,16] (fun s6 _ s16 wr=> ∃k:Nat,k≤L.length∧s16= .int .i64 k∧aM gq 9 I wr (w.heap.size+1) s6 (aS (L.take k))∧Ok I wr∧Below w.heap.size w wr∧w.heap.size+1≤wr.heap.size∧aW wr w.heap.size e (.slice aa e.ai.length ca) (.slice ax e.ak.length cx)) (fun _ _ i _=>L.length-(intOf i).toNat)
  case atStart=>exact⟨0,Nat.zero_le _,rfl,hO0.O,lG,om,by simp,lH.O⟩
  case round=>
   clear lG om hO0 lH c0 c1 c2 c3 c4 c5 c6;obtain⟨k,hk,rfl,hO,gK,hb,eU,hE⟩:=hrel;have HO:=Qh hO;have HK:=Qh gK;have HE:=Qh hE;clear hO gK hE;by_cases hlt:k<L.length
   ·obtain⟨x,ve,b,off,cap',bN,di,⟨c0,c1,c2,c3,c4,c5⟩,h1⟩:=Jc Hv.O HK.O k hlt;cases di;obtain⟨oe,ce,rfl,_,_,_⟩:=id h1;have Uh:=Qh (show(aS (L.take k)).length=k by rw[Xse,List.length_take];omega);have bB:=Qh (Xq2 hlt bN);have xA:=hb.alloc hb.size (.cells #[.int .i64 x.num,.int .i64 x.aT,S x.bP,.slice oe x.aH.length ce,S x.aI,S x.sl] 35);have Ui:=Qh (HO.O.alloc (.cells #[.int .i64 x.num,.int .i64 x.aT,S x.bP,.slice oe x.aH.length ce,S x.aI,S x.sl] 35));have HEa:=Qh (HE.O.past (.cells #[.int .i64 x.num,.int .i64 x.aT,S x.bP,.slice oe x.aH.length ce,S x.aI,S x.sl] 35));have YI:=HK.O.alloc (.cells #[.int .i64 x.num,.int .i64 x.aT,S x.bP,.slice oe x.aH.length ce,S x.aI,S x.sl] 35);have QO:w.heap.size+1≤(wr.alloc (.cells #[.int .i64 x.num,.int .i64 x.aT,S x.bP,.slice oe x.aH.length ce,S x.aI,S x.sl] 35)).heap.size:=by simp;omega
    clear bN h1
    go_wp2_with (at_builtin
                 refine oq (w0:=wr.alloc (.cells #[.int .i64 x.num,.int .i64 x.aT,S x.bP,.slice oe x.aH.length ce,S x.aI,S x.sl] 35)) JW rfl _ _ rfl (w.heap.size+1) _ _ rfl Ui.O x.aI [S x.aI] _ (by first|rfl|simp[Act.eval]) rfl (by rw[Uh.O];omega) (by rw[Uh.O];omega) QO ?_;intro v5 w5 ho5 hg5)
    go_roundw;case rel=>exact⟨k+1,by omega,by go_num,by rw[bB.O];exact ho5,YI.own hg5 Ui.O (fun b hb=>kw.O b (by omega)),Below.own xA hg5 Ui.O (by omega) (by omega),Nat.le_trans QO hg5.size,HEa.O.own hg5 (Ui.O.dw (by omega))⟩
    case measure=>simp[intOf];omega
   ·have nu:k=L.length:=by omega
    subst nu;rw[List.take_length]at HO;obtain⟨J,hx,zM,YJ,_⟩:=HO.O.freeze HK.O (fun b hb=>kw.O b (by omega));obtain⟨ao,cp,rfl,_,_,_⟩:=id YJ;have fE:∀b c,I b=some c→J b=some c:=fun b c hc=>by
     rw[hx b (by
      rcases Nat.lt_or_ge b w.heap.size with q|q
      ·omega
      ·rw[kw.O b q]at hc;cases hc)]
     exact hc
    have YK:=Qh (fun w hw=>X0r J _ _ _ _ YJ (uY.O.mono fE) wN.O w hw);have HJ:=Qh zM;clear hx zM YJ fE;obtain⟨c0,c1,c2,c3,c4,c5,c6⟩:=HE.O;go_wp2_with fail
    refine(YK.O _ HJ.O).mono ?_;have iK:=Xt3 (aS L) e.ak;generalize qF (aS L) e.ak=g at iK HN ⊢;obtain⟨ct,er⟩:=g;dsimp only at iK ⊢;rintro r w1 ⟨rfl,au⟩;have HE1:=Qh (HE.O.aA au);have av:=hb.trans (au.mono hb.size);clear HO HE HJ hb c0 c1 c2 c3 c4 c5 c6;obtain⟨c0,c1,c2,c3,c4,c5,c6⟩:=HE1.O;by_cases he:er=0
    ·subst he;by_cases hl:(ct.length:Int)=e.size
     ·have j1:((ct.length:Int) !=e.size)=false:=by simpa using hl
      have wM:=Qh (fun b w hc rO=>Qj b ct (by omega) w hc rO);obtain⟨bb,hd⟩:∃bb,(!(bE ct==e.aj))=bb:=⟨_,rfl⟩;have Hbb:=Qh hd;have Hl:=Qh hl;clear hl;go_wp2_with fail
      refine BD (X:=Nat) (Ug ct ct.length w.heap.size e.size (bE ct) e.aj bb) (FD w1 7 226 227 228 (fun x w=>w.cell? ⟨x,0,none⟩=some (S ct)∧x<w.heap.size) (fun _ _=>True) (fun _ _=>True) (fun _ _=>True)) (by kernel_rfl) (by kernel_rfl) ?_ ?_ ?_
      ·exact⟨0,FD.start _ _⟩
      ·rintro x s' a' w' i eU iK ha hC hi;obtain⟨bO,oi,jb,aG⟩:=mem_ready.1 hi;have ev:=KS QN ha;rcases i with _|_|_|_|_|_|_|_|_|_|_|_|_|_|i
       rotate_left 14
       ·simp at jb
       all_goals
        have iD:=jb;simp at jb;subst jb;simp[Region.binds]at aG;have jY:=hC.off;have c4:=dQ jY c4;have c5:=dQ jY c5;refine wpOp_step iD (fun K' hK=> ?_);first|rw[if_pos (by rfl)]|rw[if_pos (by unfold Region.wanted;dsimp only;rw[zg (j:=5) (t:=43) (b:=false) (by rfl) (by simp[ev,jL,aG])];rfl)]
       rotate_left 7
       ·unfold Oper.wp;simp[go_sem,ev,jL,aG,Oper.upon,c4,c5,j1,hd];have ha:=ha.trans (Tw (L:=Ug ct ct.length w.heap.size e.size (bE ct) e.aj bb x) (M:=Ug ct ct.length w.heap.size e.size (bE ct) e.aj bb w'.heap.size) [7] rfl (fun j cK=>by
         rcases j with _|_|_|_|_|_|_|_|_|_|_|_|_|_|j<;>first|rfl|(exact absurd (by decide) cK)|simp) (List.forall_mem_cons.2 ⟨CO bO,List.forall_mem_nil _⟩))
        exact hK _ _ ⟨w'.heap.size,o6 QN ha rfl bO,hC.step (jY.trans (((Qb _ _).alloc (Qn _) _).mono jY.size)) (fun _=>⟨by rw[World.cell?_alloc_new];rfl,by simp⟩) (fun _=>trivial) (fun _=>trivial) (fun _=>trivial)⟩
       ·have sH:=hC.f1 (by first|simpa using aG|simp[aG]);unfold Oper.wp;simp[go_sem,ev,jL,aG,Oper.upon];refine(wM.O x w' sH.1 sH.2).mono ?_;rintro r4 w4 ⟨rfl,aL⟩;exact hK _ _ ⟨x,o6 QN ha rfl bO,hC.step (jY.trans (aL.mono jY.size)) (fun q=>q.elim (fun e=>absurd e (by decide)) (fun⟨_,q⟩=>⟨dQ aL q.1,Nat.lt_of_lt_of_le q.2 aL.size⟩)) (fun _=>trivial) (fun _=>trivial) (fun _=>trivial)⟩
       all_goals
        unfold Oper.wp;first
        |(simp[go_sem,ev,jL,aG,Oper.upon,c4,c5,j1,hd];exact hK _ _ ⟨x,o6 QN ha rfl bO,hC.pure (by decide)⟩)
        |(simp[go_sem,ev,jL,Oper.upon,c4,c5,j1,hd];exact hK _ _ ⟨x,o6 QN ha rfl bO,hC.pure (by decide)⟩)
      ·rintro x s' a' w2 jQ ha hC;rw[CL _ _ _ _ (fun i hi=>by rw[Nat.zero_add];exact jQ i (by simpa using hi))]at ha;subst ha;simp only[iw,Act.put,List.setIfInBounds_toArray,List.set_cons_succ,List.set_cons_zero];have JO:=Qh (av.trans (hC.off.mono av.size));clear hd av;cases bb with
       |true=>
        have cK:bE ct≠e.aj:=by simpa using Hbb.O
        have Hn:=Qh (show N=([],5) by rw[←HN.O];unfold z8;rw[if_neg (by simp),if_pos (.inr cK)]);clear cK;go_wp2;go_ret2;rw[Hn.O];exact⟨rfl,JO.O⟩
       |false=>
        have cK:bE ct=e.aj:=by simpa using Hbb.O
        have Hn:=Qh (show N=(ct,0) by rw[←HN.O];unfold z8;rw[if_neg (by simp),if_neg (by intro q;rcases q with q|q;exact q Hl.O;exact q cK)]);clear cK;go_wp2;go_ret2;rw[Hn.O];exact⟨rfl,JO.O⟩
     ·have j1:((ct.length:Int) !=e.size)=true:=by simpa using hl
      have Hn:=Qh (show N=([],5) by rw[←HN.O];unfold z8;rw[if_neg (by simp),if_pos (.inl hl)]);clear hl;have g4:=cell_regrown c4;go_wp2_with fail
      refine wp_region_quiet_below (by kernel_rfl) (by kernel_rfl) ?_;repeat(first|go_big_quiet_step (fail)|refine BigFrame.wpQuiet_skip (by rfl) ?_)
      refine wpQuiet_nil ?_;intro w2 bg;have aD:Below w1.heap.size w1 w2:=by
       obtain⟨pq,rfl⟩:=bg;exact below_regrown _ _ _
      clear bg;go_wp2;go_ret2;rw[Hn.O];exact⟨rfl,av.trans (aD.mono av.size)⟩
    ·have j1:(er !=0)=true:=by simpa using he
     have Hn:=Qh (show N=([],er) by rw[←HN.O];unfold z8;rw[if_pos he]);clear he;go_wp2;go_ret2;rw[Hn.O];exact⟨rfl,av⟩
 ·rw[Xxo hk];have k0:(e.ag !=1)=true:=by simpa using hk
  clear hk;obtain⟨c0,c1,c2,c3,c4,c5,c6⟩:=lH.O;go_enter Tryz.func14,Tryz.ntmps14
  go_wp2;go_ret2;exact⟨rfl,om⟩
