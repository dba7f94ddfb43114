/-
  Walks and laws that the claim's theorem uses: texts EdC EdD, joined; comments out. Conditions: as each theorem says.
-/
import Derived.Test.YtdodihnehppnmaaGreatDoorTO13
set_option linter.all false
namespace Go.Proofs.YtdodihnehppnmaaGreatDoor
open Go.RowKit
def nmL:List Bytes:= [nameP 1,nameP 2,nameP 3,nameP 4,nameP 5,nameP 6]
theorem Xuh (x:Bytes):Lib.idxOfS (nmL.map fun b=>⟨b.toArray⟩) ⟨x.toArray⟩=kindOf x-1:=by
 have key:∀b:Bytes,((⟨b.toArray⟩:ByteArray)=⟨x.toArray⟩)↔x=b:=fun b=>by
  constructor
  ·intro h;injection h with h;have:=congrArg Array.toList h;simpa using this.symm
  ·intro h;rw [h]
 unfold Lib.idxOfS nmL kindOf
 simp only [List.map_cons,List.map_nil,Lib.idxFromS,key]
 repeat' split
 all_goals simp
set_option maxRecDepth 100000 in
theorem Xsn (w:World):Calls Tryz.prog 97 #[] w fun e w'=>e= .returned (.slice (some ⟨w.heap.size,0,none⟩) 6 6)∧w'=w.alloc (.cells (nmL.map fun s=>S s).toArray 9):=by
 go_enter Tryz.func97,Tryz.ntmps97
 go_wp2
 go_ret
 exact ⟨rfl,rfl⟩
theorem Xnf {W:World} {k:Nat} {t:TypeId} (h:W.heap[k]? =some (.cells (nmL.map fun s=>S s).toArray t (0,0))):
 ∀j,j<(nmL.map fun b=>(⟨b.toArray⟩:ByteArray)).length→W.cell? ⟨k,0+j,none⟩=some (.string ((nmL.map fun b=>(⟨b.toArray⟩:ByteArray)).getD j ByteArray.empty)):=by
 intro j hj
 rw [Nat.zero_add,cell_of_row _ k j _ _ _ h]
 have hj:j<6:=hj
 match j,hj with
 |0,_=>rfl
 |1,_=>rfl
 |2,_=>rfl
 |3,_=>rfl
 |4,_=>rfl
 |5,_=>rfl
structure HdM (I:IH) (w:World) (s:Bytes) (ba n a:Nat) (W:World):Prop where
 mt:MAt I w I W
 rb:RdB W n s ba
 at_:AtC W ba a
 res:W.heap[w.heap.size]? =some (.cells zeroRow 26 (0,0))
 hb:w.heap.size<ba
section
variable {I:IH} {w W W':World} {s:Bytes} {ba n a b:Nat}
theorem HdM.thru (h:HdM I w s ba n a W) (hb:Below W.heap.size W W'):HdM I w s ba n a W':=
 ⟨h.mt.quiet hb,h.rb.thru hb,Xah h.at_ hb,Xah h.res hb,h.hb⟩
theorem HdM.past (h:HdM I w s ba n a W) (o:Obj):HdM I w s ba n a (W.alloc o):=h.thru ((Qb _ _).alloc (Qn _) o)
theorem HdM.read (h:HdM I w s ba n a W) (hok:Ok I w) (ha:AtC W' ba b) (hg:W.grownBy W' (some ba)):HdM I w s ba n b W':=
 ⟨⟨h.mt.ok.grown hg (fun g q=>by injection q with q;subst q;exact hok.fresh (Nat.le_of_lt h.hb)),h.mt.keep,h.mt.bel.grown hg h.mt.size (fun g q=>by injection q with q;have:=h.hb;omega)⟩,
  h.rb.own hg (fun g q=>by injection q with q;have:=h.rb.lt;omega),ha,Xaf h.res hg (fun q=>by injection q with q;have:=h.hb;omega),h.hb⟩
end
theorem Xoe {W:World} {k j:Nat} {c:Array Value} {e:TypeId} {f:Nat × Nat} (h:W.heap[k]? =some (.cells c e f)) (u:Value):(W.setCell ⟨k,j,none⟩ u).heap[k]? =some (.cells (c.setIfInBounds j u) e f):=by
 simp [World.setCell,Array.getElem?_modify,h]
theorem Xec {W:World} {k n j:Nat} {o:Obj} (h:W.heap[k]? =some o) (hne:k≠n) (u:Value):(W.setCell ⟨n,j,none⟩ u).heap[k]? =some o:=by
 rw [Below.heap_setCell _ _ _ _ hne];exact h
theorem HdM.set {I:IH} {w W:World} {s:Bytes} {ba n a ne j:Nat} (h:HdM I w s ba n a W) (hok:Ok I w) (hn:n+3<ne) (u:Value):HdM I w s ba n a (W.setCell ⟨ne,j,none⟩ u):=
 ⟨⟨h.mt.ok.setCell (hok.fresh (by have:=h.hb;have:=h.rb.lt;show w.heap.size≤ne;omega)) u,h.mt.keep,h.mt.bel.setCell (by have:=h.hb;have:=h.rb.lt;show w.heap.size≤ne;omega) u⟩,
  ⟨Xec h.rb.r0 (by omega) u,Xec h.rb.r1 (by omega) u,Xec h.rb.r2 (by omega) u,Xec h.rb.r3 (by omega) u,h.rb.lt⟩,
  Xec h.at_ (by have:=h.rb.lt;omega) u,Xec h.res (by have:=h.rb.lt;have:=h.hb;omega) u,h.hb⟩
theorem HdM.grown {I:IH} {w W W':World} {s:Bytes} {ba n a:Nat} {row:Option Nat} (h:HdM I w s ba n a W) (hok:Ok I w) (hg:W.grownBy W' row) (hr:∀g,row=some g→n+3<g):HdM I w s ba n a W':=by
 have hlt:=h.rb.lt
 have hbb:=h.hb
 exact ⟨⟨h.mt.ok.grown hg (fun g q=>hok.fresh (by have:=hr g q;omega)),h.mt.keep,h.mt.bel.grown hg h.mt.size (fun g q=>by have:=hr g q;omega)⟩,
  h.rb.own hg (fun g q=> .inr (hr g q)),Xaf h.at_ hg (fun q=>by have:=hr _ q;omega),Xaf h.res hg (fun q=>by have:=hr _ q;omega),h.hb⟩
theorem OwnS.setC {α:Type} {T:Ty α} {E:TypeId} {I:IH} {w:World} {B:Nat} {v:Value} {l:List α} (h:OwnS T E I w B v l) {n j:Nat} (hn:v.ownBlock≠some n) (u:Value):OwnS T E I (w.setCell ⟨n,j,none⟩ u) B v l:=
 h.kept (row:=some n) ⟨rfl,rfl,rfl,by simp [World.setCell],fun k _ hk=>Below.heap_setCell _ _ _ _ (fun q=>hk (by rw [q]))⟩ (.inr hn)
theorem Xod {α:Type} {T:Ty α} {I:IH} {P:Program} {ts te:TypeId} {bytes:Nat} (hE:ElemOk P ts te T bytes) {w0:World} {B:Nat} {v:Value} {l:List α} (hown:OwnS T te I w0 B v l) (y:α) (cs:List Value) (tb ty:TypeId) (hy:T.rd I cs y)
 (hbig:(l.length+1)*bytes≤140737488355328) (hl:l.length+1≤9223372036854775807) (hB:B≤w0.heap.size):
 ∃v' w',(Builtin.append_ #[ts,ts] ty #[v,.slice (some ⟨w0.heap.size,0,none⟩) 1 1]).run P (w0.alloc (.cells cs.toArray tb))= .ok v' w'∧OwnS T te I w' B v' (l++ [y])∧w0.grownBy w' v.ownBlock:=by
 obtain ⟨i,z,h1,h2,h3,h4,h5,h6,h7⟩:=hE
 obtain ⟨xs,k1,k2⟩:=hown
 obtain ⟨v',w',hr,r1,r2,_⟩:=run_append_own (P:=P) (w0.alloc (.cells cs.toArray tb)) B ts ty te i z T.size bytes h1 h2 h3 h4 h5 h6 h7 v l.length xs (k1.alloc _) ⟨w0.heap.size,0,none⟩ 1 1 cs (by rw [T.len hy,Nat.one_mul])
  (fun j u hu=>by rw [Addr.add_lit,Nat.zero_add,World.cell?_alloc_new];simpa using hu) (T.one hy) (by unfold maxLen;omega) hbig (by simp;omega)
 exact ⟨v',w',hr,⟨xs++cs,by rw [List.length_append];exact r1,k2.append (LiesL.one hy)⟩,r2.os,r2.tape,r2.output,by have:=r2.size;simp at this;omega,fun k hk hne=>(r2.block k (by simp;omega) hne).trans (Below.heap_alloc _ _ _ hk)⟩
theorem Xdu {P:Program} {ops:Array Oper} {o:Oper} {a:Act} {w:World} {K:Act→World→Prop} {Q:Exit→Act→World→Prop} {E:Prop}
 (hg:o.guard=none) (d x:Operand) (dT sT:TypeId) (hop:o.op=Op.call { callee:=Callee.builtin Builtin.append,args:= #[d,x],argTypes:= #[dT,sT] })
 (v u:Value) (hd:a.eval d=v) (hx:a.eval x=u) {v':Value} {w':World} (hr:(Builtin.append_ #[dT,sT] o.type #[v,u]).run P w= .ok v' w') (hK:K (a.put o.dst v') w'):
 if Region.wanted o (yielded ops a.tmps)=true then Oper.wp P o a w K Q else E:=by
 have hw:Region.wanted o (yielded ops a.tmps)=true:=by simp [Region.wanted,hg]
 rw [if_pos hw]
 unfold Oper.wp
 simp [execOp,hop,resolve,invoke,builtin,hd,hx,hr,Result.andThen]
 exact hK
theorem OwnS.shape {α:Type} {T:Ty α} {E:TypeId} {I:IH} {w:World} {B:Nat} {v:Value} {l:List α} (h:OwnS T E I w B v l):∃ao cap,v= .slice ao l.length cap:=by
 obtain ⟨xs,⟨h1,h2⟩,h3⟩:=h
 rcases h2 with ⟨e1,e2⟩|⟨g,cap,cur,e1,_⟩
 ·exact ⟨none,0,by rw [e1,e2]⟩
 ·exact ⟨_,cap,e1⟩
theorem Xsu:(Tryz.prog.info? 94).map (fun i=>(i.zero,i.size,i.bytes))=some (some (.agg #[.string ⟨#[]⟩,.string ⟨#[]⟩]),2,32):=by kernel_rfl
theorem Xsv:ElemOk Tryz.prog 23 94 tAt 32:=ElemOk.of Tryz.underlying23 Xsu rfl (by decide) rfl
theorem Xgh (x:Bytes):0≤kindOf x∧kindOf x≤6:=by
 unfold kindOf
 repeat' split
 all_goals omega
theorem ent_row {W:World} {k:Nat} {e:Ent} {va vx:Value} (h:W.heap[k]? =some (.cells (entRow e va vx) 26 (0,0))):EntB W k e va vx:=
 ⟨(cell_of_row _ _ 0 _ _ _ h).trans rfl,(cell_of_row _ _ 1 _ _ _ h).trans rfl,(cell_of_row _ _ 2 _ _ _ h).trans rfl,(cell_of_row _ _ 3 _ _ _ h).trans rfl,(cell_of_row _ _ 4 _ _ _ h).trans rfl,(cell_of_row _ _ 5 _ _ _ h).trans rfl,(cell_of_row _ _ 6 _ _ _ h).trans rfl⟩
theorem getD_set_ne {s:Array Bool} {i j:Nat} (h:i≠j):(s.setIfInBounds i true).getD j false=s.getD j false:=by
 simp [Array.getD_eq_getD_getElem?,Array.getElem?_setIfInBounds,h]
theorem Xh6:∀(l:List (Option Tmp × Value)) (k:Nat) (s:Array Bool) (a:Act),a.defers= []→(fillA l k s a).defers= []
 | [],_,_,_,h=>h
 |(d,v)::l,k,s,a,h=>by
  refine Xh6 l (k+1) s _ ?_
  split
  ·cases d<;>exact h
  ·exact h
abbrev dieL (ne:Nat) (va:Value) (ky:Bytes) (n:Nat):List (Option Tmp × Value):=
 [(some 35,.pointer (some ⟨ne,2,none⟩)),(some 36,va),(some 37,S ky),(some 38,txtF n),(some 39,undef),(some 40,undef),(some 41,undef),(some 42,undef),(some 43,undef),(none,undef)]
theorem Xch {ne:Nat} {va:Value} {ky:Bytes} {n:Nat}:ApartF (dieL ne va ky n):=by
 unfold ApartF
 simp
def HeadR (I:IH) (w:World) (r:Except Int Ent) (e:Ending) (w':World):Prop:=
 match r with
 | .ok x=> ∃va J,e= .returned (entV x va (.slice none 0 0))∧RdS tAt J va x.attrs∧Ext w.heap.size I J∧Ok J w'∧Below w.heap.size w w'
 | .error z=>e=failE z∧Below w.heap.size w w'
set_option maxRecDepth 100000 in
set_option maxHeartbeats 4000000 in
theorem Xwj (I:IH) (hI:Glob I) (s:Bytes) (hs:s.length≤4294967280) (w:World) (hw:Ok I w):
 Calls Tryz.prog 161 #[S s] w (HeadR I w (rdHead s)):=by
 have Hr:=Qh (show rdHead s=Rb (rdStr s 0) fun nm=>if kindOf nm.1=0 then .error 3 else
  Rb (rdStr s nm.2) fun p=>Rb (rdCnt 400 s p.2) fun n=>Rb (rdAts s n.1.toNat n.2 []) fun l=>Rb (rdStr s l.2) fun t=>
  if t.2≠s.length then .error 3 else .ok (hdOf nm.1 p.1 l.1 t.1) from rfl)
 generalize rdHead s=R at Hr ⊢
 have M1:=Qh (show MAt I w I ((w.alloc (.cells zeroRow 26)).alloc (.cells #[.int .i64 0] 3)) from ((MAt.start hw).past _).past _)
 have H0:=Qh (show ((w.alloc (.cells zeroRow 26)).alloc (.cells #[.int .i64 0] 3)).heap[w.heap.size]? =some (.cells zeroRow 26 (0,0)) by
  rw [Below.heap_alloc _ _ _ (by simp),heap_alloc_new])
 have H1:=Qh (show AtC ((w.alloc (.cells zeroRow 26)).alloc (.cells #[.int .i64 0] 3)) (w.heap.size+1) 0 by
  have:=heap_alloc_new (w.alloc (.cells zeroRow 26)) (.cells #[.int .i64 0] 3)
  rw [World.size_alloc] at this
  exact this)
 have Hrd:=Qh (Xly s (w.heap.size+1) ((w.alloc (.cells zeroRow 26)).alloc (.cells #[.int .i64 0] 3)) (by simp))
 rw [show ((w.alloc (.cells zeroRow 26)).alloc (.cells #[.int .i64 0] 3)).heap.size=w.heap.size+2 by simp] at Hrd
 go_enter Tryz.func161,Tryz.ntmps161
 go_wp2_with fail
 refine Hrd.out.mono ?_
 rintro e W2 ⟨rfl,hB2,hb2,hsz2⟩
 have K2:=Qh (show HdM I w s (w.heap.size+1) (w.heap.size+2) 0 W2 from
  ⟨M1.out.quiet (hb2.mono (by simp)),hB2,Xah H1.out (hb2.mono (by simp)),Xah H0.out (hb2.mono (by simp)),by omega⟩)
 clear M1 H0 H1 Hrd hb2 hB2
 go_wp2_with fail
 refine (Xsn _).mono ?_
 rintro e W3 ⟨rfl,rfl⟩
 have K3:=Qh (K2.out.past (.cells (nmL.map fun s=>S s).toArray 9))
 have H3:=Qh (heap_alloc_new W2 (.cells (nmL.map fun s=>S s).toArray 9))
 clear K2
 go_wp2_with fail
 cases h1:rdStr s 0 with
 |error z=>
  rw [h1] at Hr
  refine (Xbk I hI s hs _ _ 0 _ K3.out.mt.ok K3.out.rb K3.out.at_ (by omega) z (Xav h1) h1).mono ?_
  rintro e w4 ⟨rfl,hb4⟩
  exact ⟨rfl,by rw [Hr.out];exact ⟨rfl,(K3.out.thru hb4).mt.bel⟩⟩
 |ok q=>
 obtain ⟨nm,a1⟩:=q
 rw [h1,Rb_ok] at Hr
 have ha1:=(Xa3 h1).2.1
 refine (Xb0 I hI s hs _ _ 0 _ K3.out.mt.ok K3.out.rb K3.out.at_ (by omega) nm a1 h1).mono ?_
 rintro e W4 ⟨rfl,ha4,hg4⟩
 have K4:=Qh (K3.out.read hw ha4 hg4)
 have H4:=Xaf H3.out hg4 (fun q=>by injection q with q;omega)
 have hl4:=(Array.getElem?_eq_some_iff.1 H4).1
 rw [hsz2] at H4
 have hl4:w.heap.size+6<W4.heap.size:=by omega
 have Hix:=Qh (Tryz.slices_Index_string (w.heap.size+2+4) 0 6 6 (nmL.map fun b=>⟨b.toArray⟩) ⟨nm.toArray⟩ W4 (by decide) (by decide) (Xnf H4))
 rw [show (nmL.map fun b=>(⟨b.toArray⟩:ByteArray)).take 6=nmL.map fun b=>⟨b.toArray⟩ from rfl,Xuh] at Hix
 clear h1 K3 H3 H4 ha4 hg4
 go_wp2_with fail
 refine Hix.out.mono ?_
 rintro e w4 ⟨rfl,rfl⟩
 have hkr:=Xgh nm
 by_cases hk0:kindOf nm=0
 ·try dsimp only at Hr
  rw [if_pos hk0] at Hr
  have d1:decide (kindOf nm-1<0)=true:=Qt (by omega)
  clear hk0 hkr Hix
  go_wp2
  exact ⟨rfl,by rw [Hr.out];exact ⟨rfl,K4.out.mt.bel⟩⟩
 try dsimp only at Hr
 rw [if_neg hk0] at Hr
 have d1:decide (kindOf nm-1<0)=false:=Qf (by omega)
 have i1:IntKind.i64.wrap (kindOf nm-1+1)=kindOf nm:=by rw [IntWalk.i64_in _ (by omega)];omega
 clear Hix hk0
 obtain ⟨K,hK⟩:∃K,kindOf nm=K:=⟨_,rfl⟩
 rw [hK] at d1 i1 hkr
 have HKn:=Qh hK
 rw [hK]
 clear hK
 go_wp2_with fail
 cases h2:rdStr s a1 with
 |error z=>
  rw [h2] at Hr
  refine (Xbk I hI s hs _ _ a1 _ K4.out.mt.ok K4.out.rb K4.out.at_ (by omega) z (Xav h2) h2).mono ?_
  rintro e w5 ⟨rfl,hb5⟩
  exact ⟨rfl,by rw [Hr.out];exact ⟨rfl,(K4.out.thru hb5).mt.bel⟩⟩
 |ok q=>
 obtain ⟨pa,a2⟩:=q
 rw [h2,Rb_ok] at Hr
 try dsimp only at Hr
 have ha2:=(Xa3 h2).2.1
 refine (Xb0 I hI s hs _ _ a1 _ K4.out.mt.ok K4.out.rb K4.out.at_ (by omega) pa a2 h2).mono ?_
 rintro e W5 ⟨rfl,ha5,hg5⟩
 have K5:=Qh (K4.out.read hw ha5 hg5)
 have hl5:w.heap.size+6<W5.heap.size:=Nat.lt_of_lt_of_le hl4 hg5.size
 have K6:=Qh (K5.out.past (.cells (entRow ⟨K,pa,[],[],0,[],[]⟩ (.slice none 0 0) (.slice none 0 0)) 26))
 have E6:=Qh (heap_alloc_new W5 (.cells (entRow ⟨K,pa,[],[],0,[],[]⟩ (.slice none 0 0) (.slice none 0 0)) 26))
 clear h2 K4 K5 ha5 hg5 hl4 i1 d1
 go_wp2_with fail
 cases h3:rdCnt 400 s a2 with
 |error z=>
  rw [h3] at Hr
  refine (Xgm I hI s hs _ _ a2 _ K6.out.mt.ok K6.out.rb K6.out.at_ (by omega) 400 z h3).mono ?_
  rintro e w6 ⟨rfl,hg6⟩
  exact ⟨rfl,by rw [Hr.out];exact ⟨rfl,K6.out.mt.bel.grown hg6 K6.out.mt.size (fun g q=>by injection q with q;omega)⟩⟩
 |ok q=>
 obtain ⟨N,a3⟩:=q
 rw [h3,Rb_ok] at Hr
 try dsimp only at Hr
 have hN:=Xe9 h3
 refine (Xia I hI s hs _ _ a2 _ K6.out.mt.ok K6.out.rb K6.out.at_ (by omega) 400 N a3 h3).mono ?_
 rintro e W7 ⟨rfl,ha7,hg7⟩
 have K7:=Qh (K6.out.read hw ha7 hg7)
 have E7:=Qh (Xaf E6.out hg7 (fun q=>by injection q with q;omega))
 have hl7:W5.heap.size+1≤W7.heap.size:=by have:=hg7.size;simpa using this
 have O7:=Qh (OwnS.nil tAt 94 I W7 (W5.heap.size+1))
 obtain ⟨m,rfl⟩:∃m:Nat,N=(m:Int):=⟨N.toNat,by omega⟩
 rw [Int.toNat_natCast] at Hr
 obtain ⟨L,hL⟩:∃L,rdAts s m a3 []=L:=⟨_,rfl⟩
 rw [hL] at Hr
 have HL:=Qh hL
 have hm:m≤400:=by omega
 have ha3:=hN.2.1
 clear h3 hN K6 E6 ha7 hg7 hL
 generalize W5.heap.size=ne at*
 go_wp2_with fail
 go_loopw [9,31] (fun s9 s31 wr=> ∃(k a:Nat) (acc:List At) (va:Value),k≤m∧s31= .int .i64 k∧acc.length=k∧a≤s.length∧HdM I w s (w.heap.size+1) (w.heap.size+2) a wr∧wr.heap[ne]? =some (.cells (entRow ⟨K,pa,[],[],0,[],[]⟩ va (.slice none 0 0)) 26 (0,0))∧OwnS tAt 94 I wr (ne+1) va acc∧ne+1≤wr.heap.size∧rdAts s (m-k) a acc=L) (fun _ i _=>m-(intOf i).toNat)
 case atStart=>exact ⟨0,a3,[],_,Nat.zero_le _,rfl,rfl,ha3,K7.out,E7.out,O7.out,hl7,HL.out⟩
 case round=>
  clear K7 E7 O7 HL hl7 ha3
  obtain ⟨k,a,acc,va,hk,rfl,hacc,ha,hK,hE,hO,hne,hrd⟩:=hrel
  have HK:=Qh hK
  have HE:=Qh hE
  have HO:=Qh hO
  have Hrd:=Qh hrd
  have Hacc:=Qh hacc
  clear hK hE hO hrd hacc
  by_cases hlt:k<m
  ·go_wp2_with fail
   rw [show m-k=m-(k+1)+1 by omega,rdAts] at Hrd
   cases h4:rdStr s a with
   |error z=>
    rw [h4] at Hrd
    refine (Xbk I hI s hs _ _ a _ HK.out.mt.ok HK.out.rb HK.out.at_ (by omega) z (Xav h4) h4).mono ?_
    rintro e w5 ⟨rfl,hb5⟩
    exact ⟨rfl,by rw [Hr.out,←Hrd.out];exact ⟨rfl,(HK.out.thru hb5).mt.bel⟩⟩
   |ok q=>
   obtain ⟨ky,a4⟩:=q
   rw [h4,Rb_ok] at Hrd
   try dsimp only at Hrd
   have ha4:=(Xa3 h4).2.1
   refine (Xb0 I hI s hs _ _ a _ HK.out.mt.ok HK.out.rb HK.out.at_ (by omega) ky a4 h4).mono ?_
   rintro e W8 ⟨rfl,ha8,hg8⟩
   have K8:=Qh (HK.out.read hw ha8 hg8)
   have E8:=Qh (Xaf HE.out hg8 (fun q=>by injection q with q;omega))
   have O8:=Qh (HO.out.kept hg8 (.inr (HO.out.ne_lt (by omega))))
   have hne8:=Nat.le_trans hne hg8.size
   clear h4 HK HE HO ha8 hg8
   have cA:=(ent_row E8.out).c2
   go_wp2_with fail
   cases h5:rdStr s a4 with
   |error z=>
    rw [h5] at Hrd
    have Htx:=Qh (fun (W:World) (h1:Ok I W) (h2:RdB W (w.heap.size+2) s (w.heap.size+1)) (h3:AtC W (w.heap.size+1) a4)=>Xbk I hI s hs _ _ a4 W h1 h2 h3 (by omega) z (Xav h5) h5)
    refine Xaj (X:=Unit) (fun _=>dieL ne va ky (w.heap.size+2)) (fun _ s w'=>s.getD 4 false=false∧Below W8.heap.size W8 w') (by kernel_rfl) (by kernel_rfl) ⟨(),by simp,(Qb _ _).drew⟩ ?_ ?_
    ·rintro ⟨⟩ s9 a' w' i hsz hcl ha ⟨h4n,hbw⟩ hi
     obtain ⟨hun,oi,hoi,hall⟩:=mem_ready.1 hi
     have cAw:=Xaa hbw cA
     rcases i with _|_|_|_|_|_|_|_|_|_|i
     rotate_left 10
     ·simp at hoi
     all_goals
      have hoj:=hoi
      simp at hoi
      subst hoi
      simp [Region.binds] at hall
     ·have e8:a'.tmps[8]?.getD undef=ptrV ne:=Xbt ha (by simp [dieL])
      refine wpOp_step hoj (fun K' hK=> ?_)
      rw [if_pos (by rfl)]
      unfold Oper.wp
      simp [go_sem,e8,Oper.upon]
      exact hK _ _ ⟨(),Xak (d:=some 35) (v:= .pointer (some ⟨ne,2,none⟩)) Xch ha rfl hun,by rw [getD_set_ne (by decide)];exact h4n,hbw⟩
     ·have e35:a'.tmps[35]?.getD undef= .pointer (some ⟨ne,2,none⟩):=Xba (i:=0) Xch ha rfl (by simpa using hall) (by simp)
      refine wpOp_step hoj (fun K' hK=> ?_)
      rw [if_pos (by rfl)]
      unfold Oper.wp
      simp [go_sem,e35,cAw,Oper.upon]
      exact hK _ _ ⟨(),Xak (d:=some 36) (v:=va) Xch ha rfl hun,by rw [getD_set_ne (by decide)];exact h4n,hbw⟩
     ·have e9:a'.tmps[9]?.getD undef=S ky:=Xbt ha (by simp [dieL])
      refine wpOp_step hoj (fun K' hK=> ?_)
      rw [if_pos (by rfl)]
      unfold Oper.wp
      simp [go_sem,e9,Oper.upon]
      exact hK _ _ ⟨(),Xak (d:=some 37) (v:=S ky) Xch ha rfl hun,by rw [getD_set_ne (by decide)];exact h4n,hbw⟩
     ·have e5:a'.tmps[5]?.getD undef=txtF (w.heap.size+2):=Xbt ha (by simp [dieL])
      refine wpOp_step hoj (fun K' hK=> ?_)
      rw [if_pos (by rfl)]
      unfold Oper.wp
      simp [go_sem,e5,Oper.upon]
      exact hK _ _ ⟨(),Xak (d:=some 38) (v:=txtF (w.heap.size+2)) Xch ha rfl hun,by rw [getD_set_ne (by decide)];exact h4n,hbw⟩
     ·have e38:a'.tmps[38]?.getD undef=txtF (w.heap.size+2):=Xba (i:=3) Xch ha rfl (by simpa using hall) (by simp)
      have Kw:=K8.out.thru hbw
      refine wpOp_step hoj (fun K' hK=> ?_)
      rw [if_pos (by rfl)]
      unfold Oper.wp
      simp [go_sem,e38,Oper.upon]
      refine (Htx.out w' Kw.mt.ok Kw.rb Kw.at_).mono ?_
      rintro r9 w9 ⟨rfl,hb9⟩
      have hfin:HeadR I w R (failE z) w9:=by rw [Hr.out,←Hrd.out];exact ⟨rfl,(Kw.thru hb9).mt.bel⟩
      exact ⟨by rw [ha];exact Xh6 _ _ _ _ rfl,hfin⟩
     all_goals
      have h4':s9[4]?.getD false=false:=by simpa using h4n
      have h5':s9[5]?.getD false=false:=by
       cases h5:s9[5]?.getD false with
       |false=>rfl
       |true=>
        have h6:=Xfq hcl [4] 5 4 (by kernel_rfl) (by rfl) (by simpa using h5)
        rw [h4n] at h6
        cases h6
      simp [h4',h5'] at hall
    ·rintro ⟨⟩ s9 a' w' hup ha ⟨h4n,hbw⟩
     have:=hup 4 (by decide)
     rw [h4n] at this
     cases this
   |ok q=>
   obtain ⟨vl,a5⟩:=q
   rw [h5,Rb_ok] at Hrd
   try dsimp only at Hrd
   have ha5:=(Xa3 h5).2.1
   have Htx:=Qh (fun (W:World) (h1:Ok I W) (h2:RdB W (w.heap.size+2) s (w.heap.size+1)) (h3:AtC W (w.heap.size+1) a4)=>Xb0 I hI s hs _ _ a4 W h1 h2 h3 (by omega) vl a5 h5)
   have Q1:Ok I W8.drew:=K8.out.mt.ok
   have Q2:RdB W8.drew (w.heap.size+2) s (w.heap.size+1):=⟨K8.out.rb.r0,K8.out.rb.r1,K8.out.rb.r2,K8.out.rb.r3,K8.out.rb.lt⟩
   have Q3:AtC W8.drew (w.heap.size+1) a4:=K8.out.at_
   go_region_law (first
                  |(refine Xdu rfl _ _ 23 23 rfl _ _ (by simp [Act.eval,Act.put]) (by simp [Act.eval,Act.put]) hr10 ?_)
                  |(go_simp
                    go_at_call 234
                    refine (Htx.out _ Q1 Q2 Q3).mono ?_
                    rintro e w9 ⟨rfl,ha9,hg9'⟩
                    have hg9:W8.grownBy w9 (some (w.heap.size+1)):=⟨hg9'.os,hg9'.tape,hg9'.output,hg9'.size,hg9'.block⟩
                    have K9:=Qh (K8.out.read hw ha9 hg9)
                    have E9:=Qh (Xaf E8.out hg9 (fun q=>by injection q with q;omega))
                    have O9:=Qh (O8.out.kept hg9 (.inr (O8.out.ne_lt (by omega))))
                    have hne9:=Nat.le_trans hne8 hg9.size
                    obtain ⟨v10,w10,hr10,ho10,hg10⟩:=Xod Xsv O9.out ⟨ky,vl⟩ [S ky,S vl] 94 23 rfl (by rw [Hacc.out];omega) (by rw [Hacc.out];omega) hne9
                    obtain ⟨ao10,cp10,rfl⟩:=ho10.shape
                    rw [List.length_append] at ho10
                    have cA9:=(ent_row E9.out).c2
                    have cB9:=Xab (.cells #[S ky,S vl] 94) cA9
                    have E10:=Qh (Xaf E9.out hg10 (O9.out.ne_lt (by omega)))
                    have cA10:=(ent_row E10.out).c2
                    have zA10:w10.frozen? ⟨ne,2,none⟩=false:=by unfold World.frozen?;rw [E10.out];rfl))
   all_goals
    go_wp2
    go_roundw
    case rel=>exact ⟨k+1,a5,acc++ [⟨ky,vl⟩],.slice ao10 (acc.length+1) cp10,by omega,by go_num,by rw [List.length_append,Hacc.out];rfl,ha5,(K9.out.grown hw hg10 (fun g q=>by have:=O9.out.own_ge q;omega)).set hw (by omega) _,Xoe E10.out _,ho10.setC (n:=ne) (ho10.ne_lt (by omega)) _,by simpa [World.setCell] using Nat.le_trans hne9 hg10.size,by rw [←Hrd.out]⟩
    case measure=>simp [intOf];omega
  ·have he:k=m:=by omega
   subst he
   rw [Nat.sub_self,rdAts] at Hrd
   have HrA:=Qh (show R=Rb (rdStr s a) fun t=>if t.2≠s.length then .error 3 else .ok (hdOf nm pa acc t.1) by rw [Hr.out,←Hrd.out];rfl)
   have hal:=Hacc.out
   clear Hr Hrd Hacc hk hlt
   go_wp2_with fail
   cases h6:rdStr s a with
   |error z=>
    rw [h6] at HrA
    refine (Xbk I hI s hs _ _ a _ HK.out.mt.ok HK.out.rb HK.out.at_ (by omega) z (Xav h6) h6).mono ?_
    rintro e w8 ⟨rfl,hb8⟩
    exact ⟨rfl,by rw [HrA.out];exact ⟨rfl,(HK.out.thru hb8).mt.bel⟩⟩
   |ok q=>
   obtain ⟨tg,a6⟩:=q
   rw [h6,Rb_ok] at HrA
   try dsimp only at HrA
   have ha6:=(Xa3 h6).2.1
   refine (Xb0 I hI s hs _ _ a _ HK.out.mt.ok HK.out.rb HK.out.at_ (by omega) tg a6 h6).mono ?_
   rintro e W8 ⟨rfl,ha8,hg8⟩
   have K8:=Qh (HK.out.read hw ha8 hg8)
   have E8:=Qh (Xaf HE.out hg8 (fun q=>by injection q with q;omega))
   have O8:=Qh (HO.out.kept hg8 (.inr (HO.out.ne_lt (by omega))))
   have hne8:=Nat.le_trans hne hg8.size
   obtain ⟨aov,cpv,rfl⟩:=O8.out.shape
   have Hi1:(Tryz.prog.info? 9).map (·.size)=some 1:=by kernel_rfl
   have Hi7:(Tryz.prog.info? 26).map (·.size)=some 7:=by kernel_rfl
   clear h6 HK HE HO ha8 hg8
   by_cases heq:a6=s.length
   ·rw [if_neg (by simpa using heq)] at HrA
    have k1:((a6:Int) != (s.length:Int))=false:=by rw [heq];simp
    clear heq
    go_wp2_with (first
                 |(refine Xai rfl rfl 9 _ _ rfl ne 3 [S tg] (S tg) (by simp [Act.eval]) (by simp [Act.eval]) (by rfl) _ 26 E8.out (by simp) Hi1 (by simp [Value.oneCell']) (entRow ⟨K,pa,[],tg,0,[],[]⟩ (.slice aov acc.length cpv) (.slice none 0 0)) (by rfl) ?_
                   intro W9 hg9 hr9
                   have K9:=Qh (K8.out.grown hw hg9 (fun g q=>by injection q with q;omega))
                   have O9:=Qh (O8.out.kept hg9 (.inr (O8.out.ne_lt (by omega))))
                   have R9:=Qh hr9
                   have hne9:=Nat.le_trans hne8 hg9.size
                   have cAt:=cell0 K9.out.at_)
                 |(refine wpList_load_row rfl 26 _ rfl ne rfl 26 _ (0,0) _ R9.out Tryz.underlying26 rfl Hi7 ?_)
                 |(refine Xai rfl rfl 26 _ _ rfl w.heap.size 0 (entRow ⟨K,pa,[],tg,0,[],[]⟩ (.slice aov acc.length cpv) (.slice none 0 0)).toList (.agg (entRow ⟨K,pa,[],tg,0,[],[]⟩ (.slice aov acc.length cpv) (.slice none 0 0))) (by simp [Act.eval,Act.put]) (by simp [Act.eval,Act.put]) (by rfl) zeroRow 26 K9.out.res (by simp) Hi7 (by simp [Value.oneCell']) (entRow ⟨K,pa,[],tg,0,[],[]⟩ (.slice aov acc.length cpv) (.slice none 0 0)) (by rfl) ?_
                   intro W10 hg10 hr10))
    have O10:=O9.out.kept hg10 (.inr (O9.out.ne_lt (by omega)))
    have hok10:Ok I W10:=K9.out.mt.ok.grown hg10 (fun g q=>by injection q with q;subst q;exact hw.fresh (Qn _))
    have hb10:Below w.heap.size w W10:=K9.out.mt.bel.grown hg10 K9.out.mt.size (fun g q=>by injection q with q;omega)
    obtain ⟨J,hx,hokJ,hrd,_⟩:=O10.freeze hok10 (fun b hb=>hw.fresh (by omega))
    refine bodyPost_ret (results_cell_row rfl _ _ w.heap.size _ (entRow ⟨K,pa,[],tg,0,[],[]⟩ (.slice aov acc.length cpv) (.slice none 0 0)) (0,0) _ rfl hr10 Tryz.underlying26 rfl Hi7) rfl ?_
    rw [HrA.out]
    exact ⟨_,J,by unfold hdOf;rw [HKn.out],hrd,hx.mono (by omega),hokJ,hb10⟩
   ·rw [if_pos heq] at HrA
    have k1:((a6:Int) != (s.length:Int))=true:=by
     have:(a6:Int)≠(s.length:Int):=by omega
     simpa using this
    clear heq
    go_wp2_with (refine Xai rfl rfl 9 _ _ rfl ne 3 [S tg] (S tg) (by simp [Act.eval]) (by simp [Act.eval]) (by rfl) _ 26 E8.out (by simp) Hi1 (by simp [Value.oneCell']) (entRow ⟨K,pa,[],tg,0,[],[]⟩ (.slice aov acc.length cpv) (.slice none 0 0)) (by rfl) ?_
                 intro W9 hg9 hr9
                 have K9:=Qh (K8.out.grown hw hg9 (fun g q=>by injection q with q;omega))
                 have cAt:=cell0 K9.out.at_)
    exact ⟨rfl,by rw [HrA.out];exact ⟨rfl,K9.out.mt.bel⟩⟩
theorem Xs2 (x y z v:Value): #[x,y,z]++((Array.replicate 17 undef).setIfInBounds 3 v).setIfInBounds 0 v=
 #[x,y,z,v,undef,undef,v,undef,undef,undef,undef,undef,undef,undef,undef,undef,undef,undef,undef,undef]:=by
 apply Array.toList_inj.1
 simp [List.replicate]
theorem Xs3 (v:Value) (xT:TypeId) (w:World):(Instr.typeAssert (.iface 190 v) xT 190 true).run Tryz.prog w= .ok (.tuple #[v,.bool true]) w:=by
 have hu:=Tryz.underlying190
 simp [Instr.typeAssert,run_underlying hu,go_sem]
set_option maxRecDepth 100000 in
theorem Xww (b1 b2 b3:Nat) (w:World):
 CallsD Tryz.prog 159 #[ptrV b1,ptrV b2,ptrV b3] .returning w fun e u' w'=>e= .returned (.tuple #[])∧u'= .returning∧w'=w:=by
 refine callsD_of_wpS Tryz.func159 rfl fun c₀ cs hu=> ?_
 apply wpS_seq
 apply wpS_region
 simp [wpOpsS,go_sem,recoverD,hu,Tryz.ntmps159,Exit.thenS]
 rw [Xs2]
 refine wpS_of_wp ?_
 go_wp2
 refine ⟨rfl,.returning,?_,.tuple #[],results_none rfl _ _ _,rfl,rfl,rfl⟩
 cases c₀
 simp_all
abbrev bkL (n:Nat) (x:Int):List (Option Tmp × Value):=
 [(some 17,.agg zeroRow),(some 18,ptrV n),(some 19,.int .i64 x),(none,undef),(none,undef),(none,undef)]
theorem Xbs {n:Nat} {x:Int}:ApartF (bkL n x):=by
 unfold ApartF
 simp
def Bk (b:Nat) (n:Nat) (t:TypeId) (c:Array Value) (i:Nat) (s:Array Bool) (W:World):Prop:=
 ∃d,d.size=n∧W.heap[b]? =some (.cells d t (0,0))∧(s.getD i false=true→d=c)
section
variable {b n i:Nat} {t:TypeId} {c:Array Value} {s:Array Bool} {W W':World}
theorem Bk.up {j:Nat} (h:Bk b n t c i s W) (hj:j≠i):Bk b n t c i (s.setIfInBounds j true) W:=by
 obtain ⟨d,h1,h2,h3⟩:=h
 exact ⟨d,h1,h2,fun q=>h3 (by rw [←getD_set_ne hj];exact q)⟩
theorem Bk.own {g:Nat} (h:Bk b n t c i s W) (hg:W.grownBy W' (some g)) (hne:b≠g):Bk b n t c i s W':=by
 obtain ⟨d,h1,h2,h3⟩:=h
 exact ⟨d,h1,Xaf h2 hg (fun q=>hne (by injection q with q;exact q.symm)),h3⟩
theorem Bk.done (h:W.heap[b]? =some (.cells c t (0,0))) (hn:c.size=n):Bk b n t c i s W:=⟨c,hn,h,fun _=>rfl⟩
end
theorem Xiw {P:Program} {o:Oper} {a:Act} {w:World} {K:Act→World→Prop} {Q:Exit→Act→World→Prop} (ty:TypeId) (x y:Operand) (hd:o.dst=none) (ho:o.op= .store ty x y)
 {g n i:Nat} {tt:TypeId} {c:Array Value} {s:Array Bool} (cs:List Value) (v:Value) (hx:a.eval x=ptrV g) (hy:a.eval y=v) (hv:v.cells=cs.toArray) (hcs:c=cs.toArray) (hn:cs.length=n)
 (hb:Bk g n tt c i s w) (hi:(P.info? ty).map (·.size)=some n) (h1:∀v∈cs,v.oneCell'=true)
 (h:∀w',w.grownBy w' (some g)→w'.heap[g]? =some (.cells c tt (0,0))→K a w'):Oper.wp P o a w K Q:=by
 obtain ⟨d,e1,e2,_⟩:=hb
 subst hn
 refine Xa2 ty x y ho g 0 cs v hx hy hv d tt e2 (by omega) hi h1 ?_
 rw [hd]
 refine h _ Xat ?_
 rw [setRow_heap w g d _ tt (0,0) e2]
 congr 2
 subst hcs
 apply Array.toList_inj.1
 simp [over,e1]
theorem Xsf:(Tryz.prog.info? 190).map (·.size)=some 1:=by kernel_rfl
set_option maxRecDepth 100000 in
set_option maxHeartbeats 1000000 in
theorem Xwx (b1 b2 b3:Nat) (v2 v3:Value) (y:Ent) (va vx:Value) (x:Int) (older:List PanicEntry) (w:World) (h1:w.heap[b1]? =some (.cells (entRow y va vx) 26 (0,0))) (h2:w.heap[b2]? =some (.cells #[v2] 3 (0,0))) (h3:w.heap[b3]? =some (.cells #[v3] 30 (0,0)))
 (h12:b1≠b2) (h13:b1≠b3) (h23:b2≠b3):
 CallsD Tryz.prog 159 #[ptrV b1,ptrV b2,ptrV b3] (.panicking ({ v:=failV x,recovered:=false }::older)) w fun e u' w'=>
  e= .returned (.tuple #[])∧u'= .panicking ({ v:=failV x,recovered:=true }::older)∧w'.heap[b1]? =some (.cells zeroRow 26 (0,0))∧w'.heap[b2]? =some (.cells #[.int .i64 0] 3 (0,0))∧w'.heap[b3]? =some (.cells #[.int .i64 x] 30 (0,0))∧
   ∀B,B≤b1→B≤b2→B≤b3→B≤w.heap.size→Below B w w':=by
 refine callsD_of_wpS Tryz.func159 rfl fun c₀ cs hu=> ?_
 apply wpS_seq
 apply wpS_region
 simp [wpOpsS,go_sem,recoverD,hu,Tryz.ntmps159,Exit.thenS]
 rw [Xs2]
 refine wpS_of_wp ?_
 have hta:=Xs3 (.agg #[.int .i64 x]) 20
 have hl1:=(Array.getElem?_eq_some_iff.1 h1).1
 have hl2:=(Array.getElem?_eq_some_iff.1 h2).1
 have hl3:=(Array.getElem?_eq_some_iff.1 h3).1
 have R1:=Qh (show (w.alloc (.cells #[.int .i64 x] 190)).drew.heap[b1]? =some (.cells (entRow y va vx) 26 (0,0)) from (Below.heap_alloc w _ b1 hl1).trans h1)
 have R2:=Qh (show (w.alloc (.cells #[.int .i64 x] 190)).drew.heap[b2]? =some (.cells #[v2] 3 (0,0)) from (Below.heap_alloc w _ b2 hl2).trans h2)
 have R3:=Qh (show (w.alloc (.cells #[.int .i64 x] 190)).drew.heap[b3]? =some (.cells #[v3] 30 (0,0)) from (Below.heap_alloc w _ b3 hl3).trans h3)
 have R0:=Qh (show (w.alloc (.cells #[.int .i64 x] 190)).drew.heap[w.heap.size]? =some (.cells #[.int .i64 x] 190 (0,0)) from heap_alloc_new w _)
 have Hi7:(Tryz.prog.info? 26).map (·.size)=some 7:=by kernel_rfl
 have Hi1:(Tryz.prog.info? 30).map (·.size)=some 1:=by kernel_rfl
 have Hif:=Xsf
 clear h1 h2 h3
 go_wp2
 refine Xaj (X:=Unit) (fun _=>bkL w.heap.size x) (fun _ s W=>Bk b1 7 26 zeroRow 3 s W∧Bk b2 1 3 #[.int .i64 0] 4 s W∧Bk b3 1 30 #[.int .i64 x] 5 s W∧W.heap[w.heap.size]? =some (.cells #[.int .i64 x] 190 (0,0))∧
  ∀B,B≤b1→B≤b2→B≤b3→B≤w.heap.size→Below B w W) (by kernel_rfl) (by kernel_rfl) ?_ ?_ ?_
 ·exact ⟨(),⟨_,by simp,R1.out,by simp⟩,⟨_,by simp,R2.out,by simp⟩,⟨_,by simp,R3.out,by simp⟩,R0.out,fun B _ _ _ h4=>((Qb _ _).alloc h4 _).drew⟩
 ·rintro ⟨⟩ s a' W i hsz hcl ha ⟨k1,k2,k3,k0,kb⟩ hi
  obtain ⟨hun,oi,hoi,hall⟩:=mem_ready.1 hi
  rcases i with _|_|_|_|_|_|i
  rotate_left 6
  ·simp at hoi
  all_goals
   have hoj:=hoi
   simp at hoi
   subst hoi
   simp [Region.binds] at hall
  ·refine wpOp_step hoj (fun K' hK=> ?_)
   rw [if_pos (by rfl)]
   unfold Oper.wp
   simp [go_sem,Oper.upon]
   exact hK _ _ ⟨(),Xak (d:=some 17) (v:= .agg zeroRow) Xbs ha rfl hun,k1.up (by decide),k2.up (by decide),k3.up (by decide),k0,kb⟩
  ·have e4:a'.tmps[4]?.getD undef=ptrV w.heap.size:=Xbt ha (by simp [bkL])
   refine wpOp_step hoj (fun K' hK=> ?_)
   rw [if_pos (by rfl)]
   unfold Oper.wp
   simp [go_sem,e4,Oper.upon]
   exact hK _ _ ⟨(),Xak (d:=some 18) (v:=ptrV w.heap.size) Xbs ha rfl hun,k1.up (by decide),k2.up (by decide),k3.up (by decide),k0,kb⟩
  ·have e18:a'.tmps[18]?.getD undef=ptrV w.heap.size:=Xba (i:=1) Xbs ha rfl (by simpa using hall) (by simp)
   have c0:=cell0 k0
   refine wpOp_step hoj (fun K' hK=> ?_)
   rw [if_pos (by rfl)]
   unfold Oper.wp
   simp [go_sem,e18,c0,Oper.upon]
   exact hK _ _ ⟨(),Xak (d:=some 19) (v:= .int .i64 x) Xbs ha rfl hun,k1.up (by decide),k2.up (by decide),k3.up (by decide),k0,kb⟩
  ·have e0:a'.tmps[0]?.getD undef=ptrV b1:=Xbt ha (by simp [bkL])
   have e17:a'.tmps[17]?.getD undef= .agg zeroRow:=Xba (i:=0) Xbs ha rfl (by simpa using hall) (by simp)
   refine wpOp_step hoj (fun K' hK=> ?_)
   rw [if_pos (by rfl)]
   refine Xiw 26 _ _ rfl rfl zeroRow.toList (.agg zeroRow) (by simpa [Act.eval] using e0) (by simpa [Act.eval] using e17) (by rfl) (by rfl) (by rfl) k1 Hi7 (by simp [Value.oneCell']) ?_
   intro W' hg hr
   exact hK _ _ ⟨(),Xak (d:=none) (v:=undef) Xbs ha rfl hun,.done hr (by rfl),(k2.own hg (Ne.symm h12)).up (by decide),(k3.own hg (Ne.symm h13)).up (by decide),Xaf k0 hg (fun q=>by injection q with q;omega),fun B h1 h2 h3 h4=>(kb B h1 h2 h3 h4).grown hg (Nat.le_trans h4 (kb B h1 h2 h3 h4).size) (fun g q=>by injection q with q;omega)⟩
  ·have e1:a'.tmps[1]?.getD undef=ptrV b2:=Xbt ha (by simp [bkL])
   refine wpOp_step hoj (fun K' hK=> ?_)
   rw [if_pos (by rfl)]
   refine Xiw 3 _ _ rfl rfl [.int .i64 0] (.int .i64 0) (by simpa [Act.eval] using e1) (by rfl) (by rfl) (by rfl) (by rfl) k2 Xb3 (by simp [Value.oneCell']) ?_
   intro W' hg hr
   exact hK _ _ ⟨(),Xak (d:=none) (v:=undef) Xbs ha rfl hun,(k1.own hg h12).up (by decide),.done hr (by rfl),(k3.own hg (Ne.symm h23)).up (by decide),Xaf k0 hg (fun q=>by injection q with q;omega),fun B h1 h2 h3 h4=>(kb B h1 h2 h3 h4).grown hg (Nat.le_trans h4 (kb B h1 h2 h3 h4).size) (fun g q=>by injection q with q;omega)⟩
  ·have e2:a'.tmps[2]?.getD undef=ptrV b3:=Xbt ha (by simp [bkL])
   have e19:a'.tmps[19]?.getD undef= .int .i64 x:=Xba (i:=2) Xbs ha rfl (by simpa using hall.1) (by simp)
   refine wpOp_step hoj (fun K' hK=> ?_)
   rw [if_pos (by rfl)]
   refine Xiw 30 _ _ rfl rfl [.int .i64 x] (.int .i64 x) (by simpa [Act.eval] using e2) (by simpa [Act.eval] using e19) (by rfl) (by rfl) (by rfl) k3 Hi1 (by simp [Value.oneCell']) ?_
   intro W' hg hr
   exact hK _ _ ⟨(),Xak (d:=none) (v:=undef) Xbs ha rfl hun,(k1.own hg h13).up (by decide),(k2.own hg h23).up (by decide),.done hr (by rfl),Xaf k0 hg (fun q=>by injection q with q;omega),fun B h1 h2 h3 h4=>(kb B h1 h2 h3 h4).grown hg (Nat.le_trans h4 (kb B h1 h2 h3 h4).size) (fun g q=>by injection q with q;omega)⟩
 ·rintro ⟨⟩ s a' W hup ha ⟨⟨d1,_,r1,q1⟩,⟨d2,_,r2,q2⟩,⟨d3,_,r3,q3⟩,k0,kb⟩
  have u1:=q1 (hup 3 (by decide))
  have u2:=q2 (hup 4 (by decide))
  have u3:=q3 (hup 5 (by decide))
  subst u1 u2 u3
  rw [Xbe _ _ _ _ (fun k hk=>by rw [Nat.zero_add];exact hup k (by simpa using hk))] at ha
  simp only [fillAll,Act.put] at ha
  subst ha
  go_wp2
  refine ⟨rfl,.panicking ({ v:=failV x,recovered:=true }::older),?_,.tuple #[],results_none rfl _ _ _,rfl,rfl,r1,r2,r3,kb⟩
  cases c₀
  simp_all
end Go.Proofs.YtdodihnehppnmaaGreatDoor
