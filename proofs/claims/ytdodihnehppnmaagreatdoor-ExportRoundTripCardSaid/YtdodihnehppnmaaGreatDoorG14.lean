/- Lemmas for the claim's theorem;conditions: as each says. -/
import Derived.Test.YtdodihnehppnmaaGreatDoorG13
set_option maxHeartbeats 0
set_option maxRecDepth 100000
set_option linter.all false
namespace Go.Proofs.YtdodihnehppnmaaGreatDoor
open Go.RowKit
variable{n:Nat}{W:World}{j:Nat}{w:World}{I:IH}{k:Nat}{α:Type}{T:Ty α}{B:Nat}{v:Value}{l:List α}{P:Program}{c:Array Value}{s:ae}{ba a ne:Nat}{E:TypeId}{o:Oper}{K:Act→World→Prop}{Q:Exit→Act→World→Prop}{va:Value}{i g:Nat}
def DT:List ae:=[bH 1,bH 2,bH 3,bH 4,bH 5,bH 6]
theorem Xwv(x:ae):Lib.idxOfS (DT.map fun b=>⟨b.toArray⟩) ⟨x.toArray⟩=kindOf x-1:=by
 have key:∀b:ae,((⟨b.toArray⟩:ByteArray)=⟨x.toArray⟩)↔x=b:=fun b=>by
  constructor
  ·intro h;injection h with h;have:=congrArg Array.toList h;simpa using this.symm
  ·intro h;rw[h]
 unfold Lib.idxOfS DT kindOf;simp only[List.map_cons,List.map_nil,Lib.idxFromS,key];repeat' split
 all_goals simp
theorem Xum(w:World):Calls Tryz.prog 97 #[] w fun e w'=>e= .returned (.slice (some ⟨w.heap.size,0,none⟩) 6 6)∧w'=w.alloc (.cells (DT.map fun s=>S s).toArray 9):=by
 go_enter Tryz.func97,Tryz.ntmps97
 go_wp2;go_ret;exact⟨rfl,rfl⟩
theorem Xol{t:TypeId}(h:W.heap[k]?=some (.cells (DT.map fun s=>S s).toArray t (0,0))):
 ∀j,j<(DT.map fun b=>(⟨b.toArray⟩:ByteArray)).length→W.cell? ⟨k,0+j,none⟩=some (.string ((DT.map fun b=>(⟨b.toArray⟩:ByteArray)).getD j ByteArray.empty)):=by
 intro j hj;rw[Nat.zero_add,cell_of_row _ k j _ _ _ h];have hj:j<6:=hj;match j,hj with
 |0,_=>rfl
 |1,_=>rfl
 |2,_=>rfl
 |3,_=>rfl
 |4,_=>rfl
 |5,_=>rfl
structure yF (I:IH) (w:World) (s:ae) (ba n a:Nat) (W:World):Prop where
 mt:lT I w I W
 rb:vg W n s ba
 at_:uh W ba a
 res:W.heap[w.heap.size]?=some (.cells aC 26 (0,0))
 hb:w.heap.size<ba
section
variable {I:IH} {w W W':World} {s:ae} {ba n a b:Nat}
theorem yF.aA(h:yF I w s ba n a W)(hb:Below W.heap.size W W'):yF I w s ba n a W':=
 ⟨h.mt.quiet hb,h.rb.aA hb,mV h.at_ hb,mV h.res hb,h.hb⟩
theorem yF.past(h:yF I w s ba n a W)(o:Obj):yF I w s ba n a (W.alloc o):=h.aA ((Qb _ _).alloc (Qn _) o)
theorem yF.read(h:yF I w s ba n a W)(gK:Ok I w)(ha:uh W' ba b)(hg:W.grownBy W' (some ba)):yF I w s ba n b W':=
 ⟨⟨h.mt.ok.grown hg (fun g q=>by injection q with q;subst q;exact gK.fresh (Nat.le_of_lt h.hb)),h.mt.keep,h.mt.fA.grown hg h.mt.size (fun g q=>by injection q with q;have:=h.hb;omega)⟩,
  h.rb.own hg (fun g q=>by injection q with q;have:=h.rb.lt;omega),ha,jC h.res hg (fun q=>by injection q with q;have:=h.hb;omega),h.hb⟩
end
theorem Xpo{e:TypeId}{f:Nat×Nat}(h:W.heap[k]?=some (.cells c e f))(u:Value):(W.setCell ⟨k,j,none⟩ u).heap[k]?=some (.cells (c.setIfInBounds j u) e f):=by
 simp[World.setCell,Array.getElem?_modify,h]
theorem Ny{o:Obj}(h:W.heap[k]?=some o)(cK:k≠n)(u:Value):(W.setCell ⟨n,j,none⟩ u).heap[k]?=some o:=by
 rw[Below.heap_setCell _ _ _ _ cK];exact h
theorem yF.set(h:yF I w s ba n a W)(gK:Ok I w)(hn:n+3<ne)(u:Value):yF I w s ba n a (W.setCell ⟨ne,j,none⟩ u):=
 ⟨⟨h.mt.ok.setCell (gK.fresh (by have:=h.hb;have:=h.rb.lt;show w.heap.size≤ne;omega)) u,h.mt.keep,h.mt.fA.setCell (by have:=h.hb;have:=h.rb.lt;show w.heap.size≤ne;omega) u⟩,
  ⟨Ny h.rb.r0 (by omega) u,Ny h.rb.r1 (by omega) u,Ny h.rb.r2 (by omega) u,Ny h.rb.r3 (by omega) u,h.rb.lt⟩,
  Ny h.at_ (by have:=h.rb.lt;omega) u,Ny h.res (by have:=h.rb.lt;have:=h.hb;omega) u,h.hb⟩
theorem yF.grown{W':World}{row:Option Nat}(h:yF I w s ba n a W)(gK:Ok I w)(hg:W.grownBy W' row)(hr:∀g,row=some g→n+3<g):yF I w s ba n a W':=by
 have hlt:=h.rb.lt;have hbb:=h.hb
 exact⟨⟨h.mt.ok.grown hg (fun g q=>gK.fresh (by have:=hr g q;omega)),h.mt.keep,h.mt.fA.grown hg h.mt.size (fun g q=>by have:=hr g q;omega)⟩,
  h.rb.own hg (fun g q=> .inr (hr g q)),jC h.at_ hg (fun q=>by have:=hr _ q;omega),jC h.res hg (fun q=>by have:=hr _ q;omega),h.hb⟩
theorem aM.PQ(h:aM T E I w B v l)(hn:v.ownBlock≠some n)(u:Value):aM T E I (w.setCell ⟨n,j,none⟩ u) B v l:=
 h.kept (row:=some n) ⟨rfl,rfl,rfl,by simp[World.setCell],fun k _ hk=>Below.heap_setCell _ _ _ _ (fun q=>hk (by rw[q]))⟩ (.inr hn)
theorem Xpn{ts te:TypeId}{bytes:Nat}(hE:fq P ts te T bytes){w0:World}(bJ:aM T te I w0 B v l)(y:α)(cs:List Value)(tb ty:TypeId)(hy:T.rd I cs y)
 (iW:(l.length+1)*bytes≤140737488355328) (hl:l.length+1≤9223372036854775807) (hB:B≤w0.heap.size):
 ∃v' w',(Builtin.append_ #[ts,ts] ty #[v,.slice (some ⟨w0.heap.size,0,none⟩) 1 1]).run P (w0.alloc (.cells cs.toArray tb))= .ok v' w'∧aM T te I w' B v' (l++[y])∧w0.grownBy w' v.ownBlock:=by
 obtain⟨i,z,h1,h2,h3,h4,h5,h6,h7⟩:=hE;obtain⟨xs,k1,k2⟩:=bJ
 obtain⟨v',w',hr,r1,r2,_⟩:=run_append_own (P:=P) (w0.alloc (.cells cs.toArray tb)) B ts ty te i z T.size bytes h1 h2 h3 h4 h5 h6 h7 v l.length xs (k1.alloc _) ⟨w0.heap.size,0,none⟩ 1 1 cs (by rw[T.len hy,Nat.one_mul])
  (fun j u hu=>by rw[Addr.add_lit,Nat.zero_add,World.cell?_alloc_new];simpa using hu) (T.one hy) (by unfold maxLen;omega) iW (by simp;omega)
 exact⟨v',w',hr,⟨xs++cs,by rw[List.length_append];exact r1,k2.append (bR.one hy)⟩,r2.os,r2.tape,r2.output,by have:=r2.size;simp at this;omega,fun k hk cK=>(r2.block k (by simp;omega) cK).trans (Below.heap_alloc _ _ _ hk)⟩
theorem Xd7{ops:Array Oper}{a:Act}{E:Prop}
 (hg:o.guard=none) (d x:Operand) (dT sT:TypeId) (hop:o.op=Op.call {callee:=Callee.builtin Builtin.append,args:=#[d,x],argTypes:=#[dT,sT]})
 (v u:Value) (hd:a.eval d=v) (hx:a.eval x=u) {v':Value} {w':World} (hr:(Builtin.append_ #[dT,sT] o.type #[v,u]).run P w= .ok v' w') (hK:K (a.put o.dst v') w'):
 if Region.wanted o (yielded ops a.tmps)=true then Oper.wp P o a w K Q else E:=by
 have hw:Region.wanted o (yielded ops a.tmps)=true:=by simp[Region.wanted,hg]
 rw[if_pos hw];unfold Oper.wp;simp[execOp,hop,resolve,invoke,builtin,hd,hx,hr,Result.andThen];exact hK
theorem aM.shape(h:aM T E I w B v l):∃ao cap,v= .slice ao l.length cap:=by
 obtain⟨xs,⟨h1,h2⟩,h3⟩:=h;rcases h2 with⟨e1,e2⟩|⟨g,cap,cur,e1,_⟩
 ·exact⟨none,0,by rw[e1,e2]⟩
 ·exact⟨_,cap,e1⟩
theorem Xut:(Tryz.prog.info? 94).map (fun i=>(i.zero,i.size,i.bytes))=some (some (.agg #[.string ⟨#[]⟩,.string ⟨#[]⟩]),2,32):=by kernel_rfl
theorem Xuu:fq Tryz.prog 23 94 kT 32:=fq.of Tryz.underlying23 Xut rfl (by decide) rfl
theorem Xg1(x:ae):0≤kindOf x∧kindOf x≤6:=by
 unfold kindOf;repeat' split
 all_goals omega
theorem ent_row{e:ay}{vx:Value}(h:W.heap[k]?=some (.cells (aQ e va vx) 26 (0,0))):aW W k e va vx:=
 ⟨(cell_of_row _ _ 0 _ _ _ h).trans rfl,(cell_of_row _ _ 1 _ _ _ h).trans rfl,(cell_of_row _ _ 2 _ _ _ h).trans rfl,(cell_of_row _ _ 3 _ _ _ h).trans rfl,(cell_of_row _ _ 4 _ _ _ h).trans rfl,(cell_of_row _ _ 5 _ _ _ h).trans rfl,(cell_of_row _ _ 6 _ _ _ h).trans rfl⟩
theorem getD_set_ne{s:Array Bool}(h:i≠j):(s.setIfInBounds i true).getD j false=s.getD j false:=by
 simp[Array.getD_eq_getD_getElem?,Array.getElem?_setIfInBounds,h]
theorem Xiv:∀(l:List (Option Tmp×Value)) (k:Nat) (s:Array Bool) (a:Act),a.defers=[]→(cZ l k s a).defers=[]
 | [],_,_,_,h=>h
 |(d,v)::l,k,s,a,h=>by
  refine Xiv l (k+1) s _ ?_;split
  ·cases d<;>exact h
  ·exact h
abbrev DU(ne:Nat)(va:Value)(ky:ae)(n:Nat):List (Option Tmp×Value):=
 [(some 35,.pointer (some ⟨ne,2,none⟩)),(some 36,va),(some 37,S ky),(some 38,BF n),(some 39,undef),(some 40,undef),(some 41,undef),(some 42,undef),(some 43,undef),(none,undef)]
theorem Nz{ky:ae}:dL (DU ne va ky n):=by
 unfold dL;simp
def IZ(I:IH)(w:World)(r:Except Int ay)(e:Ending)(w':World):Prop:=
 match r with
 | .ok x=> ∃va J,e= .returned (eT x va (.slice none 0 0))∧bf kT J va x.ai∧Ext w.heap.size I J∧Ok J w'∧Below w.heap.size w w'
 | .error z=>e=vM z∧Below w.heap.size w w'
theorem Xzc(I:IH)(hI:dG I)(s:ae)(hs:s.length≤4294967280)(w:World)(hw:Ok I w):
 Calls Tryz.prog 161 #[S s] w (IZ I w (ek s)):=by
 have Hr:=Qh (show ek s=Rb (rdStr s 0) fun nm=>if kindOf nm.1=0 then .error 3 else
  Rb (rdStr s nm.2) fun p=>Rb (gW 400 s p.2) fun n=>Rb (jh s n.1.toNat n.2 []) fun l=>Rb (rdStr s l.2) fun t=>
  if t.2≠s.length then .error 3 else .ok (Dx nm.1 p.1 l.1 t.1)from rfl)
 generalize ek s=R at Hr ⊢;have M1:=Qh (show lT I w I ((w.alloc (.cells aC 26)).alloc (.cells #[.int .i64 0] 3))from((lT.start hw).past _).past _);have H0:=Qh (show((w.alloc (.cells aC 26)).alloc (.cells #[.int .i64 0] 3)).heap[w.heap.size]?=some (.cells aC 26 (0,0)) by
  rw[Below.heap_alloc _ _ _ (by simp),heap_alloc_new])
 have H1:=Qh (show uh ((w.alloc (.cells aC 26)).alloc (.cells #[.int .i64 0] 3)) (w.heap.size+1) 0 by
  have:=heap_alloc_new (w.alloc (.cells aC 26)) (.cells #[.int .i64 0] 3);rw[World.size_alloc]at this;exact this)
 have ku:=Qh (Xnd s (w.heap.size+1) ((w.alloc (.cells aC 26)).alloc (.cells #[.int .i64 0] 3)) (by simp));rw[show((w.alloc (.cells aC 26)).alloc (.cells #[.int .i64 0] 3)).heap.size=w.heap.size+2 by simp]at ku;go_enter Tryz.func161,Tryz.ntmps161
 go_wp2_with fail
 refine ku.O.mono ?_;rintro e W2 ⟨rfl,H9,aD,fe⟩
 have K2:=Qh (show yF I w s (w.heap.size+1) (w.heap.size+2) 0 W2 from
  ⟨M1.O.quiet (aD.mono (by simp)),H9,mV H1.O (aD.mono (by simp)),mV H0.O (aD.mono (by simp)),by omega⟩)
 clear M1 H0 H1 ku aD H9;go_wp2_with fail
 refine(Xum _).mono ?_;rintro e W3 ⟨rfl,rfl⟩;have K3:=Qh (K2.O.past (.cells (DT.map fun s=>S s).toArray 9));have H3:=Qh (heap_alloc_new W2 (.cells (DT.map fun s=>S s).toArray 9));clear K2;go_wp2_with fail
 cases h1:rdStr s 0 with
 |error z=>
  rw[h1]at Hr;refine(Kr I hI s hs _ _ 0 _ K3.O.mt.ok K3.O.rb K3.O.at_ (by omega) z (ze h1) h1).mono ?_;rintro e w4 ⟨rfl,aL⟩;exact⟨rfl,by rw[Hr.O];exact⟨rfl,(K3.O.aA aL).mt.fA⟩⟩
 |ok q=>
 obtain⟨nm,a1⟩:=q;rw[h1,aR]at Hr;have Aq:=(BB h1).2.1;refine(Kq I hI s hs _ _ 0 _ K3.O.mt.ok K3.O.rb K3.O.at_ (by omega) nm a1 h1).mono ?_;rintro e W4 ⟨rfl,Fx,Oq⟩;have K4:=Qh (K3.O.read hw Fx Oq);have H4:=jC H3.O Oq (fun q=>by injection q with q;omega);have JK:=(Qg H4);rw[fe]at H4;have JK:w.heap.size+6<W4.heap.size:=by omega
 have wO:=Qh (Tryz.slices_Index_string (w.heap.size+2+4) 0 6 6 (DT.map fun b=>⟨b.toArray⟩) ⟨nm.toArray⟩ W4 (by decide) (by decide) (Xol H4));rw[show(DT.map fun b=>(⟨b.toArray⟩:ByteArray)).take 6=DT.map fun b=>⟨b.toArray⟩from rfl,Xwv]at wO;clear h1 K3 H3 H4 Fx Oq;go_wp2_with fail
 refine wO.O.mono ?_;rintro e w4 ⟨rfl,rfl⟩;have hkr:=Xg1 nm;by_cases qV:kindOf nm=0
 ·try dsimp only at Hr
  rw[if_pos qV]at Hr;have d1:decide (kindOf nm-1<0)=true:=Qt (by omega);clear qV hkr wO;go_wp2;exact⟨rfl,by rw[Hr.O];exact⟨rfl,K4.O.mt.fA⟩⟩
 try dsimp only at Hr
 rw[if_neg qV]at Hr;have d1:decide (kindOf nm-1<0)=false:=Qf (by omega);have i1:IntKind.i64.wrap (kindOf nm-1+1)=kindOf nm:=by rw[IntWalk.i64_in _ (by omega)];omega
 clear wO qV;obtain⟨K,hK⟩:∃K,kindOf nm=K:=⟨_,rfl⟩;rw[hK]at d1 i1 hkr;have HKn:=Qh hK;rw[hK];clear hK;go_wp2_with fail
 cases h2:rdStr s a1 with
 |error z=>
  rw[h2]at Hr;refine(Kr I hI s hs _ _ a1 _ K4.O.mt.ok K4.O.rb K4.O.at_ (by omega) z (ze h2) h2).mono ?_;rintro e w5 ⟨rfl,aY⟩;exact⟨rfl,by rw[Hr.O];exact⟨rfl,(K4.O.aA aY).mt.fA⟩⟩
 |ok q=>
 obtain⟨pa,a2⟩:=q;rw[h2,aR]at Hr;try dsimp only at Hr
 have uG:=(BB h2).2.1;refine(Kq I hI s hs _ _ a1 _ K4.O.mt.ok K4.O.rb K4.O.at_ (by omega) pa a2 h2).mono ?_;rintro e W5 ⟨rfl,PR,hg5⟩;have K5:=Qh (K4.O.read hw PR hg5);have hl5:w.heap.size+6<W5.heap.size:=Nat.lt_of_lt_of_le JK hg5.size;have K6:=Qh (K5.O.past (.cells (aQ ⟨K,pa,[],[],0,[],[]⟩ (.slice none 0 0) (.slice none 0 0)) 26));have E6:=Qh (heap_alloc_new W5 (.cells (aQ ⟨K,pa,[],[],0,[],[]⟩ (.slice none 0 0) (.slice none 0 0)) 26));clear h2 K4 K5 PR hg5 JK i1 d1;go_wp2_with fail
 cases h3:gW 400 s a2 with
 |error z=>
  rw[h3]at Hr;refine(Xg6 I hI s hs _ _ a2 _ K6.O.mt.ok K6.O.rb K6.O.at_ (by omega) 400 z h3).mono ?_;rintro e w6 ⟨rfl,xD⟩;exact⟨rfl,by rw[Hr.O];exact⟨rfl,K6.O.mt.fA.grown xD K6.O.mt.size (fun g q=>by injection q with q;omega)⟩⟩
 |ok q=>
 obtain⟨N,a3⟩:=q;rw[h3,aR]at Hr;try dsimp only at Hr
 have hN:=Tg h3;refine(Xi0 I hI s hs _ _ a2 _ K6.O.mt.ok K6.O.rb K6.O.at_ (by omega) 400 N a3 h3).mono ?_;rintro e W7 ⟨rfl,TH,kI⟩;have K7:=Qh (K6.O.read hw TH kI);have E7:=Qh (jC E6.O kI (fun q=>by injection q with q;omega));have TI:W5.heap.size+1≤W7.heap.size:=by have:=kI.size;simpa using this
 have O7:=Qh (aM.nil kT 94 I W7 (W5.heap.size+1));obtain⟨m,rfl⟩:∃m:Nat,N=(m:Int):=⟨N.toNat,by omega⟩;rw[Int.toNat_natCast]at Hr;obtain⟨L,hL⟩:∃L,jh s m a3 []=L:=⟨_,rfl⟩;rw[hL]at Hr;have HL:=Qh hL;have hm:m≤400:=by omega
 have CE:=hN.2.1;clear h3 hN K6 E6 TH kI hL;generalize W5.heap.size=ne at*;go_wp2_with fail
 go_loopw [9,31] (fun s9 WK wr=> ∃(k a:Nat) (acc:List At) (va:Value),k≤m∧WK= .int .i64 k∧acc.length=k∧a≤s.length∧yF I w s (w.heap.size+1) (w.heap.size+2) a wr∧wr.heap[ne]?=some (.cells (aQ ⟨K,pa,[],[],0,[],[]⟩ va (.slice none 0 0)) 26 (0,0))∧aM kT 94 I wr (ne+1) va acc∧ne+1≤wr.heap.size∧jh s (m-k) a acc=L) (fun _ i _=>m-(intOf i).toNat)
 case atStart=>exact⟨0,a3,[],_,Nat.zero_le _,rfl,rfl,CE,K7.O,E7.O,O7.O,TI,HL.O⟩
 case round=>
  clear K7 E7 O7 HL TI CE;obtain⟨k,a,acc,va,hk,rfl,Cq,ha,hK,hE,hO,cK,Mt⟩:=hrel;have HK:=Qh hK;have HE:=Qh hE;have HO:=Qh hO;have ku:=Qh Mt;have vC:=Qh Cq;clear hK hE hO Mt Cq;by_cases hlt:k<m
  ·go_wp2_with fail
   rw[show m-k=m-(k+1)+1 by omega,jh]at ku;cases h4:rdStr s a with
   |error z=>
    rw[h4]at ku;refine(Kr I hI s hs _ _ a _ HK.O.mt.ok HK.O.rb HK.O.at_ (by omega) z (ze h4) h4).mono ?_;rintro e w5 ⟨rfl,aY⟩;exact⟨rfl,by rw[Hr.O,←ku.O];exact⟨rfl,(HK.O.aA aY).mt.fA⟩⟩
   |ok q=>
   obtain⟨ky,a4⟩:=q;rw[h4,aR]at ku;try dsimp only at ku
   have Fx:=(BB h4).2.1;refine(Kq I hI s hs _ _ a _ HK.O.mt.ok HK.O.rb HK.O.at_ (by omega) ky a4 h4).mono ?_;rintro e W8 ⟨rfl,PS,uo⟩;have K8:=Qh (HK.O.read hw PS uo);have E8:=Qh (jC HE.O uo (fun q=>by injection q with q;omega));have O8:=Qh (HO.O.kept uo (.inr (HO.O.dw (by omega))));have DV:=Nat.le_trans cK uo.size;clear h4 HK HE HO PS uo;have cA:=(ent_row E8.O).c2;go_wp2_with fail
   cases h5:rdStr s a4 with
   |error z=>
    rw[h5]at ku;have KI:=Qh (fun(W:World) (h1:Ok I W) (h2:vg W (w.heap.size+2) s (w.heap.size+1)) (h3:uh W (w.heap.size+1) a4)=>Kr I hI s hs _ _ a4 W h1 h2 h3 (by omega) z (ze h5) h5);refine BD (X:=Unit) (fun _=>DU ne va ky (w.heap.size+2)) (fun _ s w'=>s.getD 4 false=false∧Below W8.heap.size W8 w') (by kernel_rfl) (by kernel_rfl) ⟨(),by simp,(Qb _ _).drew⟩ ?_ ?_
    ·rintro⟨⟩ s9 a' w' i eU iK ha ⟨xE,jY⟩ hi;obtain⟨bO,oi,jb,aG⟩:=mem_ready.1 hi;have Xg:=dQ jY cA;rcases i with _|_|_|_|_|_|_|_|_|_|i
     rotate_left 10
     ·simp at jb
     all_goals
      have iD:=jb;simp at jb;subst jb;simp[Region.binds]at aG
     ·have e8:a'.tmps[8]?.getD undef=dJ ne:=qR ha (by simp[DU]);refine wpOp_step iD (fun K' hK=> ?_);rw[if_pos (by rfl)];unfold Oper.wp;simp[go_sem,e8,Oper.upon];exact hK _ _ ⟨(),jK (d:=some 35) (v:= .pointer (some ⟨ne,2,none⟩)) Nz ha rfl bO,by rw[getD_set_ne (by decide)];exact xE,jY⟩
     ·have e35:a'.tmps[35]?.getD undef= .pointer (some ⟨ne,2,none⟩):=nO (i:=0) Nz ha rfl (by simpa using aG) (by simp);refine wpOp_step iD (fun K' hK=> ?_);rw[if_pos (by rfl)];unfold Oper.wp;simp[go_sem,e35,Xg,Oper.upon];exact hK _ _ ⟨(),jK (d:=some 36) (v:=va) Nz ha rfl bO,by rw[getD_set_ne (by decide)];exact xE,jY⟩
     ·have e9:a'.tmps[9]?.getD undef=S ky:=qR ha (by simp[DU]);refine wpOp_step iD (fun K' hK=> ?_);rw[if_pos (by rfl)];unfold Oper.wp;simp[go_sem,e9,Oper.upon];exact hK _ _ ⟨(),jK (d:=some 37) (v:=S ky) Nz ha rfl bO,by rw[getD_set_ne (by decide)];exact xE,jY⟩
     ·have e5:a'.tmps[5]?.getD undef=BF (w.heap.size+2):=qR ha (by simp[DU]);refine wpOp_step iD (fun K' hK=> ?_);rw[if_pos (by rfl)];unfold Oper.wp;simp[go_sem,e5,Oper.upon];exact hK _ _ ⟨(),jK (d:=some 38) (v:=BF (w.heap.size+2)) Nz ha rfl bO,by rw[getD_set_ne (by decide)];exact xE,jY⟩
     ·have e38:a'.tmps[38]?.getD undef=BF (w.heap.size+2):=nO (i:=3) Nz ha rfl (by simpa using aG) (by simp);have Kw:=K8.O.aA jY;refine wpOp_step iD (fun K' hK=> ?_);rw[if_pos (by rfl)];unfold Oper.wp;simp[go_sem,e38,Oper.upon];refine(KI.O w' Kw.mt.ok Kw.rb Kw.at_).mono ?_;rintro r9 w9 ⟨rfl,iq⟩;have iX:IZ I w R (vM z) w9:=by rw[Hr.O,←ku.O];exact⟨rfl,(Kw.aA iq).mt.fA⟩
      exact⟨by rw[ha];exact Xiv _ _ _ _ rfl,iX⟩
     all_goals
      have h4':s9[4]?.getD false=false:=by simpa using xE
      have h5':s9[5]?.getD false=false:=by
       cases h5:s9[5]?.getD false with
       |false=>rfl
       |true=>
        have h6:=Pj iK [4] 5 4 (by kernel_rfl) (by rfl) (by simpa using h5);rw[xE]at h6;cases h6
      simp[h4',h5']at aG
    ·rintro⟨⟩ s9 a' w' jQ ha ⟨xE,jY⟩;have:=jQ 4 (by decide);rw[xE]at this;cases this
   |ok q=>
   obtain⟨vl,a5⟩:=q;rw[h5,aR]at ku;try dsimp only at ku
   have PR:=(BB h5).2.1;have KI:=Qh (fun(W:World) (h1:Ok I W) (h2:vg W (w.heap.size+2) s (w.heap.size+1)) (h3:uh W (w.heap.size+1) a4)=>Kq I hI s hs _ _ a4 W h1 h2 h3 (by omega) vl a5 h5);have Q1:Ok I W8.drew:=K8.O.mt.ok;have Q2:vg W8.drew (w.heap.size+2) s (w.heap.size+1):=⟨K8.O.rb.r0,K8.O.rb.r1,K8.O.rb.r2,K8.O.rb.r3,K8.O.rb.lt⟩;have Q3:uh W8.drew (w.heap.size+1) a4:=K8.O.at_
   go_region_law (first
                  |(refine Xd7 rfl _ _ 23 23 rfl _ _ (by simp[Act.eval,Act.put]) (by simp[Act.eval,Act.put]) DW ?_)
                  |(go_simp
                    go_at_call 234
                    refine(KI.O _ Q1 Q2 Q3).mono ?_;rintro e w9 ⟨rfl,Xh,uu⟩;have fw:W8.grownBy w9 (some (w.heap.size+1)):=⟨uu.os,uu.tape,uu.output,uu.size,uu.block⟩;have K9:=Qh (K8.O.read hw Xh fw);have E9:=Qh (jC E8.O fw (fun q=>by injection q with q;omega));have O9:=Qh (O8.O.kept fw (.inr (O8.O.dw (by omega))));have BK:=Nat.le_trans DV fw.size;obtain⟨v10,KJ,DW,wV,uw⟩:=Xpn Xuu O9.O ⟨ky,vl⟩ [S ky,S vl] 94 23 rfl (by rw[vC.O];omega) (by rw[vC.O];omega) BK;obtain⟨KL,KM,rfl⟩:=wV.shape;rw[List.length_append]at wV;have Xi:=(ent_row E9.O).c2;have cB9:=gD (.cells #[S ky,S vl] 94) Xi;have KN:=Qh (jC E9.O uw (O9.O.dw (by omega)));have Xj:=(ent_row KN.O).c2;have Xk:KJ.frozen? ⟨ne,2,none⟩=false:=by unfold World.frozen?;rw[KN.O];rfl))
   all_goals
    go_wp2;go_roundw;case rel=>exact⟨k+1,a5,acc++[⟨ky,vl⟩],.slice KL (acc.length+1) KM,by omega,by go_num,by rw[List.length_append,vC.O];rfl,PR,(K9.O.grown hw uw (fun g q=>by have:=O9.O.qY q;omega)).set hw (by omega) _,Xpo KN.O _,wV.PQ (n:=ne) (wV.dw (by omega)) _,by simpa[World.setCell]using Nat.le_trans BK uw.size,by rw[←ku.O]⟩
    case measure=>simp[intOf];omega
  ·have he:k=m:=by omega
   subst he;rw[Nat.sub_self,jh]at ku;have zK:=Qh (show R=Rb (rdStr s a) fun t=>if t.2≠s.length then .error 3 else .ok (Dx nm pa acc t.1) by rw[Hr.O,←ku.O];rfl);have oW:=vC.O;clear Hr ku vC hk hlt;go_wp2_with fail
   cases h6:rdStr s a with
   |error z=>
    rw[h6]at zK;refine(Kr I hI s hs _ _ a _ HK.O.mt.ok HK.O.rb HK.O.at_ (by omega) z (ze h6) h6).mono ?_;rintro e w8 ⟨rfl,qB⟩;exact⟨rfl,by rw[zK.O];exact⟨rfl,(HK.O.aA qB).mt.fA⟩⟩
   |ok q=>
   obtain⟨tg,a6⟩:=q;rw[h6,aR]at zK;try dsimp only at zK
   have ha6:=(BB h6).2.1;refine(Kq I hI s hs _ _ a _ HK.O.mt.ok HK.O.rb HK.O.at_ (by omega) tg a6 h6).mono ?_;rintro e W8 ⟨rfl,PS,uo⟩;have K8:=Qh (HK.O.read hw PS uo);have E8:=Qh (jC HE.O uo (fun q=>by injection q with q;omega));have O8:=Qh (HO.O.kept uo (.inr (HO.O.dw (by omega))));have DV:=Nat.le_trans cK uo.size;obtain⟨Gz,GA,rfl⟩:=O8.O.shape;have Fh:(Tryz.prog.info? 9).map (·.size)=some 1:=by kernel_rfl
   have BH:(Tryz.prog.info? 26).map (·.size)=some 7:=by kernel_rfl
   clear h6 HK HE HO PS uo;by_cases Cn:a6=s.length
   ·rw[if_neg (by simpa using Cn)]at zK;have k1:((a6:Int) !=(s.length:Int))=false:=by rw[Cn];simp
    clear Cn
    go_wp2_with (first
                 |(refine rz rfl rfl 9 _ _ rfl ne 3 [S tg] (S tg) (by simp[Act.eval]) (by simp[Act.eval]) (by rfl) _ 26 E8.O (by simp) Fh (by simp[Value.oneCell']) (aQ ⟨K,pa,[],tg,0,[],[]⟩ (.slice Gz acc.length GA) (.slice none 0 0)) (by rfl) ?_
                   intro W9 fw DX;have K9:=Qh (K8.O.grown hw fw (fun g q=>by injection q with q;omega));have O9:=Qh (O8.O.kept fw (.inr (O8.O.dw (by omega))));have R9:=Qh DX;have BK:=Nat.le_trans DV fw.size;have cAt:=cell0 K9.O.at_)
                 |(refine wpList_load_row rfl 26 _ rfl ne rfl 26 _ (0,0) _ R9.O Tryz.underlying26 rfl BH ?_)
                 |(refine rz rfl rfl 26 _ _ rfl w.heap.size 0 (aQ ⟨K,pa,[],tg,0,[],[]⟩ (.slice Gz acc.length GA) (.slice none 0 0)).toList (.agg (aQ ⟨K,pa,[],tg,0,[],[]⟩ (.slice Gz acc.length GA) (.slice none 0 0))) (by simp[Act.eval,Act.put]) (by simp[Act.eval,Act.put]) (by rfl) aC 26 K9.O.res (by simp) BH (by simp[Value.oneCell']) (aQ ⟨K,pa,[],tg,0,[],[]⟩ (.slice Gz acc.length GA) (.slice none 0 0)) (by rfl) ?_
                   intro W10 uw DW))
    have O10:=O9.O.kept uw (.inr (O9.O.dw (by omega)));have PT:Ok I W10:=K9.O.mt.ok.grown uw (fun g q=>by injection q with q;subst q;exact hw.fresh (Qn _));have zL:Below w.heap.size w W10:=K9.O.mt.fA.grown uw K9.O.mt.size (fun g q=>by injection q with q;omega);obtain⟨J,hx,zM,Mt,_⟩:=O10.freeze PT (fun b hb=>hw.fresh (by omega));refine bodyPost_ret (results_cell_row rfl _ _ w.heap.size _ (aQ ⟨K,pa,[],tg,0,[],[]⟩ (.slice Gz acc.length GA) (.slice none 0 0)) (0,0) _ rfl DW Tryz.underlying26 rfl BH) rfl ?_;rw[zK.O];exact⟨_,J,by unfold Dx;rw[HKn.O],Mt,hx.mono (by omega),zM,zL⟩
   ·rw[if_pos Cn]at zK;have k1:((a6:Int) !=(s.length:Int))=true:=by
     have:(a6:Int)≠(s.length:Int):=by omega
     simpa using this
    clear Cn
    go_wp2_with (refine rz rfl rfl 9 _ _ rfl ne 3 [S tg] (S tg) (by simp[Act.eval]) (by simp[Act.eval]) (by rfl) _ 26 E8.O (by simp) Fh (by simp[Value.oneCell']) (aQ ⟨K,pa,[],tg,0,[],[]⟩ (.slice Gz acc.length GA) (.slice none 0 0)) (by rfl) ?_
                 intro W9 fw DX;have K9:=Qh (K8.O.grown hw fw (fun g q=>by injection q with q;omega));have cAt:=cell0 K9.O.at_)
    exact⟨rfl,by rw[zK.O];exact⟨rfl,K9.O.mt.fA⟩⟩
theorem Xu6(x y z v:Value): #[x,y,z]++((Array.replicate 17 undef).setIfInBounds 3 v).setIfInBounds 0 v=
 #[x,y,z,v,undef,undef,v,undef,undef,undef,undef,undef,undef,undef,undef,undef,undef,undef,undef,undef]:=by
 apply Array.toList_inj.1;simp[List.replicate]
theorem Xu7(v:Value)(xT:TypeId)(w:World):(Instr.typeAssert (.iface 190 v) xT 190 true).run Tryz.prog w= .ok (.tuple #[v,.bool true]) w:=by
 have hu:=Tryz.underlying190;simp[Instr.typeAssert,run_underlying hu,go_sem]
theorem Xzu(b1 b2 b3:Nat)(w:World):
 CallsD Tryz.prog 159 #[dJ b1,dJ b2,dJ b3] .returning w fun e u' w'=>e= .returned (.tuple #[])∧u'= .returning∧w'=w:=by
 refine callsD_of_wpS Tryz.func159 rfl fun c₀ cs hu=> ?_;apply wpS_seq;apply wpS_region;simp[wpOpsS,go_sem,recoverD,hu,Tryz.ntmps159,Exit.thenS];rw[Xu6];refine wpS_of_wp ?_;go_wp2;refine⟨rfl,.returning,?_,.tuple #[],results_none rfl _ _ _,rfl,rfl,rfl⟩;cases c₀;simp_all
abbrev NA(n:Nat)(x:Int):List (Option Tmp×Value):=
 [(some 17,.agg aC),(some 18,dJ n),(some 19,.int .i64 x),(none,undef),(none,undef),(none,undef)]
theorem GC{x:Int}:dL (NA n x):=by
 unfold dL;simp
def Bk(b:Nat)(n:Nat)(t:TypeId)(c:Array Value)(i:Nat)(s:Array Bool)(W:World):Prop:=
 ∃d,d.size=n∧W.heap[b]?=some (.cells d t (0,0))∧(s.getD i false=true→d=c)
section
variable {b n i:Nat} {t:TypeId} {c:Array Value} {s:Array Bool} {W W':World}
theorem Bk.up(h:Bk b n t c i s W)(hj:j≠i):Bk b n t c i (s.setIfInBounds j true) W:=by
 obtain⟨d,h1,h2,h3⟩:=h;exact⟨d,h1,h2,fun q=>h3 (by rw[←getD_set_ne hj];exact q)⟩
theorem Bk.own(h:Bk b n t c i s W)(hg:W.grownBy W' (some g))(cK:b≠g):Bk b n t c i s W':=by
 obtain⟨d,h1,h2,h3⟩:=h;exact⟨d,h1,jC h2 hg (fun q=>cK (by injection q with q;exact q.symm)),h3⟩
theorem Bk.done(h:W.heap[b]?=some (.cells c t (0,0)))(hn:c.size=n):Bk b n t c i s W:=⟨c,hn,h,fun _=>rfl⟩
end
theorem NB{a:Act}(ty:TypeId)(x y:Operand)(hd:o.dst=none)(ho:o.op= .store ty x y)
  {tt:TypeId}  {s:Array Bool} (cs:List Value) (v:Value) (hx:a.eval x=dJ g) (hy:a.eval y=v) (hv:v.cells=cs.toArray) (iY:c=cs.toArray) (hn:cs.length=n)
 (hb:Bk g n tt c i s w) (hi:(P.info? ty).map (·.size)=some n) (h1:∀v∈cs,v.oneCell'=true)
 (h:∀w',w.grownBy w' (some g)→w'.heap[g]?=some (.cells c tt (0,0))→K a w'):Oper.wp P o a w K Q:=by
 obtain⟨d,e1,e2,_⟩:=hb;subst hn;refine Fs ty x y ho g 0 cs v hx hy hv d tt e2 (by omega) hi h1 ?_;rw[hd];refine h _ Bp ?_;rw[setRow_heap w g d _ tt (0,0) e2];congr 2;subst iY;apply Array.toList_inj.1;simp[over,e1]
theorem Xue:(Tryz.prog.info? 190).map (·.size)=some 1:=by kernel_rfl
theorem Xzv(b1 b2 b3:Nat)(v2 v3:Value)(y:ay)(va vx:Value)(x:Int)(older:List PanicEntry)(w:World)(h1:w.heap[b1]?=some (.cells (aQ y va vx) 26 (0,0)))(h2:w.heap[b2]?=some (.cells #[v2] 3 (0,0)))(h3:w.heap[b3]?=some (.cells #[v3] 30 (0,0)))
 (h12:b1≠b2) (h13:b1≠b3) (h23:b2≠b3):
 CallsD Tryz.prog 159 #[dJ b1,dJ b2,dJ b3] (.panicking ({v:=ug x,recovered:=false}::older)) w fun e u' w'=>
  e= .returned (.tuple #[])∧u'= .panicking ({v:=ug x,recovered:=true}::older)∧w'.heap[b1]?=some (.cells aC 26 (0,0))∧w'.heap[b2]?=some (.cells #[.int .i64 0] 3 (0,0))∧w'.heap[b3]?=some (.cells #[.int .i64 x] 30 (0,0))∧
   ∀B,B≤b1→B≤b2→B≤b3→B≤w.heap.size→Below B w w':=by
 refine callsD_of_wpS Tryz.func159 rfl fun c₀ cs hu=> ?_;apply wpS_seq;apply wpS_region;simp[wpOpsS,go_sem,recoverD,hu,Tryz.ntmps159,Exit.thenS];rw[Xu6];refine wpS_of_wp ?_;have Xl:=Xu7 (.agg #[.int .i64 x]) 20;have xM:=(Qg h1);have FP:=(Qg h2);have UU:=(Qg h3);have R1:=Qh (show(w.alloc (.cells #[.int .i64 x] 190)).drew.heap[b1]?=some (.cells (aQ y va vx) 26 (0,0))from(Below.heap_alloc w _ b1 xM).trans h1);have R2:=Qh (show(w.alloc (.cells #[.int .i64 x] 190)).drew.heap[b2]?=some (.cells #[v2] 3 (0,0))from(Below.heap_alloc w _ b2 FP).trans h2);have R3:=Qh (show(w.alloc (.cells #[.int .i64 x] 190)).drew.heap[b3]?=some (.cells #[v3] 30 (0,0))from(Below.heap_alloc w _ b3 UU).trans h3);have R0:=Qh (show(w.alloc (.cells #[.int .i64 x] 190)).drew.heap[w.heap.size]?=some (.cells #[.int .i64 x] 190 (0,0))from heap_alloc_new w _);have BH:(Tryz.prog.info? 26).map (·.size)=some 7:=by kernel_rfl
 have Fh:(Tryz.prog.info? 30).map (·.size)=some 1:=by kernel_rfl
 have Hif:=Xue;clear h1 h2 h3;go_wp2
 refine BD (X:=Unit) (fun _=>NA w.heap.size x) (fun _ s W=>Bk b1 7 26 aC 3 s W∧Bk b2 1 3 #[.int .i64 0] 4 s W∧Bk b3 1 30 #[.int .i64 x] 5 s W∧W.heap[w.heap.size]?=some (.cells #[.int .i64 x] 190 (0,0))∧
  ∀B,B≤b1→B≤b2→B≤b3→B≤w.heap.size→Below B w W) (by kernel_rfl) (by kernel_rfl) ?_ ?_ ?_
 ·exact⟨(),⟨_,by simp,R1.O,by simp⟩,⟨_,by simp,R2.O,by simp⟩,⟨_,by simp,R3.O,by simp⟩,R0.O,fun B _ _ _ h4=>((Qb _ _).alloc h4 _).drew⟩
 ·rintro⟨⟩ s a' W i eU iK ha ⟨k1,k2,k3,k0,kb⟩ hi;obtain⟨bO,oi,jb,aG⟩:=mem_ready.1 hi;rcases i with _|_|_|_|_|_|i
  rotate_left 6
  ·simp at jb
  all_goals
   have iD:=jb;simp at jb;subst jb;simp[Region.binds]at aG
  ·refine wpOp_step iD (fun K' hK=> ?_);rw[if_pos (by rfl)];unfold Oper.wp;simp[go_sem,Oper.upon];exact hK _ _ ⟨(),jK (d:=some 17) (v:= .agg aC) GC ha rfl bO,k1.up (by decide),k2.up (by decide),k3.up (by decide),k0,kb⟩
  ·have e4:a'.tmps[4]?.getD undef=dJ w.heap.size:=qR ha (by simp[NA]);refine wpOp_step iD (fun K' hK=> ?_);rw[if_pos (by rfl)];unfold Oper.wp;simp[go_sem,e4,Oper.upon];exact hK _ _ ⟨(),jK (d:=some 18) (v:=dJ w.heap.size) GC ha rfl bO,k1.up (by decide),k2.up (by decide),k3.up (by decide),k0,kb⟩
  ·have e18:a'.tmps[18]?.getD undef=dJ w.heap.size:=nO (i:=1) GC ha rfl (by simpa using aG) (by simp);have c0:=cell0 k0;refine wpOp_step iD (fun K' hK=> ?_);rw[if_pos (by rfl)];unfold Oper.wp;simp[go_sem,e18,c0,Oper.upon];exact hK _ _ ⟨(),jK (d:=some 19) (v:= .int .i64 x) GC ha rfl bO,k1.up (by decide),k2.up (by decide),k3.up (by decide),k0,kb⟩
  ·have e0:a'.tmps[0]?.getD undef=dJ b1:=qR ha (by simp[NA]);have e17:a'.tmps[17]?.getD undef= .agg aC:=nO (i:=0) GC ha rfl (by simpa using aG) (by simp);refine wpOp_step iD (fun K' hK=> ?_);rw[if_pos (by rfl)];refine NB 26 _ _ rfl rfl aC.toList (.agg aC) (by simpa[Act.eval]using e0) (by simpa[Act.eval]using e17) (by rfl) (by rfl) (by rfl) k1 BH (by simp[Value.oneCell']) ?_;intro W' hg hr;exact hK _ _ ⟨(),jK (d:=none) (v:=undef) GC ha rfl bO,.done hr (by rfl),(k2.own hg (Ne.symm h12)).up (by decide),(k3.own hg (Ne.symm h13)).up (by decide),jC k0 hg (fun q=>by injection q with q;omega),fun B h1 h2 h3 h4=>(kb B h1 h2 h3 h4).grown hg (Nat.le_trans h4 (kb B h1 h2 h3 h4).size) (fun g q=>by injection q with q;omega)⟩
  ·have e1:a'.tmps[1]?.getD undef=dJ b2:=qR ha (by simp[NA]);refine wpOp_step iD (fun K' hK=> ?_);rw[if_pos (by rfl)];refine NB 3 _ _ rfl rfl [.int .i64 0] (.int .i64 0) (by simpa[Act.eval]using e1) (by rfl) (by rfl) (by rfl) (by rfl) k2 Fu (by simp[Value.oneCell']) ?_;intro W' hg hr;exact hK _ _ ⟨(),jK (d:=none) (v:=undef) GC ha rfl bO,(k1.own hg h12).up (by decide),.done hr (by rfl),(k3.own hg (Ne.symm h23)).up (by decide),jC k0 hg (fun q=>by injection q with q;omega),fun B h1 h2 h3 h4=>(kb B h1 h2 h3 h4).grown hg (Nat.le_trans h4 (kb B h1 h2 h3 h4).size) (fun g q=>by injection q with q;omega)⟩
  ·have e2:a'.tmps[2]?.getD undef=dJ b3:=qR ha (by simp[NA]);have e19:a'.tmps[19]?.getD undef= .int .i64 x:=nO (i:=2) GC ha rfl (by simpa using aG.1) (by simp);refine wpOp_step iD (fun K' hK=> ?_);rw[if_pos (by rfl)];refine NB 30 _ _ rfl rfl [.int .i64 x] (.int .i64 x) (by simpa[Act.eval]using e2) (by simpa[Act.eval]using e19) (by rfl) (by rfl) (by rfl) k3 Fh (by simp[Value.oneCell']) ?_;intro W' hg hr;exact hK _ _ ⟨(),jK (d:=none) (v:=undef) GC ha rfl bO,(k1.own hg h13).up (by decide),(k2.own hg h23).up (by decide),.done hr (by rfl),jC k0 hg (fun q=>by injection q with q;omega),fun B h1 h2 h3 h4=>(kb B h1 h2 h3 h4).grown hg (Nat.le_trans h4 (kb B h1 h2 h3 h4).size) (fun g q=>by injection q with q;omega)⟩
 ·rintro⟨⟩ s a' W jQ ha ⟨⟨d1,_,r1,q1⟩,⟨d2,_,r2,q2⟩,⟨d3,_,r3,q3⟩,k0,kb⟩;have u1:=q1 (jQ 3 (by decide));have u2:=q2 (jQ 4 (by decide));have u3:=q3 (jQ 5 (by decide));subst u1 u2 u3;rw[CL _ _ _ _ (fun k hk=>by rw[Nat.zero_add];exact jQ k (by simpa using hk))]at ha;simp only[iw,Act.put]at ha;subst ha;go_wp2;refine⟨rfl,.panicking ({v:=ug x,recovered:=true}::older),?_,.tuple #[],results_none rfl _ _ _,rfl,rfl,r1,r2,r3,kb⟩;cases c₀;simp_all
