/-
  Walks and laws that the claim's theorem uses: texts EgH, joined; comments out. Conditions: as each theorem says.
-/
import Derived.Test.YtdodihnehppnmaaGreatDoorTO24
import Derived.Test.YtdodihnehppnmaaGreatDoorTO33
set_option linter.all false
namespace Go.Proofs.YtdodihnehppnmaaGreatDoor
open Go.RowKit
theorem Xuw:(Tryz.prog.info? 26).map (fun i=>(i.zero,i.size,i.bytes))=some (some (.agg zeroRow),7,112):=by kernel_rfl
theorem Xux:ElemOk Tryz.prog 33 26 tEnt 112:=ElemOk.of Tryz.underlying33 Xuw rfl (by decide) rfl
theorem Xu3:(Tryz.prog.info? 65).map (fun i=>(i.zero,i.size,i.bytes))=some (some (.agg #[.int .i64 0,.string ⟨#[]⟩,.slice none 0 0,.string ⟨#[]⟩,.string ⟨#[]⟩]),5,80):=by kernel_rfl
theorem Xu4:ElemOk Tryz.prog 39 65 tChg 80:=ElemOk.of Tryz.underlying39 Xu3 rfl (by decide) rfl
def impL (r:Except Int (List Chg)):List Chg × Int:=match r with| .ok o=>(o,0)| .error z=>([],z)
theorem Xnv {h c:Bytes} (hc:c.length≤100000000) (hb:(entOf h c).2=true):entErr (entOf h c).1=0:=((Xwh h c hc).2 hb).ex
theorem Xmj {t:List Ent} (h:∀x∈t,entErr x=0):AllE t∧SmlT t:=by
 refine ⟨fun x hx=>(Xbf (h x hx)).wf,fun x hx=> ?_⟩
 have hc:=Xbf (h x hx)
 have h1:=hc.path
 have h2:=hc.target
 omega
structure ImM (I:IH) (w:World) (bs ba be:Nat) (s:Bytes) (J:IH) (a:Nat) (z:Int) (t:List Ent) (o:List Chg) (vt vo:Value) (W:World):Prop where
 mt:MAt I w J W
 ex:Ext w.heap.size I J
 nx:NxB W bs ba be s a z
 fr:∀g,w.heap.size≤g→g<be+1→J g=none
 ds:bs≠ba∧bs≠be∧ba≠be
 lo:w.heap.size≤bs∧bs<be+1∧w.heap.size≤ba∧ba<be+1∧w.heap.size≤be
 sz:be<W.heap.size
 gt:Gat tEnt 26 (be+1) J W vt t
 go:Gat tChg 65 (be+1) J W vo o
 sp:Sep vt vo
section
variable {I J J':IH} {w W W':World} {bs ba be:Nat} {s:Bytes} {a b:Nat} {z y:Int} {t t':List Ent} {o o':List Chg} {vt vo vt' vo':Value}
theorem ImM.thru (h:ImM I w bs ba be s J a z t o vt vo W) (hb:Below W.heap.size W W'):ImM I w bs ba be s J a z t o vt vo W':=
 ⟨h.mt.quiet hb,h.ex,h.nx.thru hb,h.fr,h.ds,h.lo,Nat.lt_of_lt_of_le h.sz hb.size,h.gt.below hb,h.go.below hb,h.sp⟩
theorem ImM.past (h:ImM I w bs ba be s J a z t o vt vo W) (x:Obj):ImM I w bs ba be s J a z t o vt vo (W.alloc x):=h.thru ((Qb _ _).alloc (Qn _) x)
theorem ImM.ext (h:ImM I w bs ba be s J a z t o vt vo W) (hb:Below W.heap.size W W') (hx:Ext W.heap.size J J') (hok:Ok J' W'):ImM I w bs ba be s J' a z t o vt vo W':=
 ⟨h.mt.ext hb hx hok,h.ex.trans (hx.mono (by have:=h.sz;have:=h.lo;omega)) (Qn _),h.nx.thru hb,fun g h1 h2=>by rw [hx g (by have:=h.sz;omega)];exact h.fr g h1 h2,h.ds,h.lo,Nat.lt_of_lt_of_le h.sz hb.size,h.gt.ext hb h.mt.ok hx,h.go.ext hb h.mt.ok hx,h.sp⟩
theorem ImM.low {g:Nat} (h:ImM I w bs ba be s J a z t o vt vo W) (hg:W.grownBy W' (some g)) (h1:w.heap.size≤g) (h2:g<be+1):
 MAt I w J W'∧be<W'.heap.size∧Gat tEnt 26 (be+1) J W' vt t∧Gat tChg 65 (be+1) J W' vo o:=
 ⟨⟨h.mt.ok.grown hg (fun k q=>by injection q with q;subst q;exact h.fr _ h1 h2),h.mt.keep,h.mt.bel.grown hg h.mt.size (fun k q=>by injection q with q;omega)⟩,Nat.lt_of_lt_of_le h.sz hg.size,h.gt.low hg h2,h.go.low hg h2⟩
theorem ImM.read (h:ImM I w bs ba be s J a z t o vt vo W) (hn:NxB W' bs ba be s b y) (h2:Two W W' ba be):ImM I w bs ba be s J b y t o vt vo W':=by
 obtain ⟨wb,hg1,hg2⟩:=h2
 have l:=h.lo
 obtain ⟨m1,s1,t1,o1⟩:=h.low hg1 l.2.2.1 l.2.2.2.1
 refine ⟨⟨m1.ok.grown hg2 (fun k q=>by injection q with q;subst q;exact h.fr _ l.2.2.2.2 (by omega)),m1.keep,m1.bel.grown hg2 m1.size (fun k q=>by injection q with q;omega)⟩,h.ex,hn,h.fr,h.ds,l,Nat.lt_of_lt_of_le s1 hg2.size,t1.low hg2 (by omega),o1.low hg2 (by omega),h.sp⟩
theorem ImM.new {g:Nat} (h:ImM I w bs ba be s J a z t o vt vo W) (hg:W.grownBy W' (some g)) (hJ:J g=none) (hgt:be<g) (h1:vt.ownBlock≠some g) (h2:vo.ownBlock≠some g):ImM I w bs ba be s J a z t o vt vo W':=by
 have l:=h.lo
 exact ⟨⟨h.mt.ok.grown hg (fun k q=>by injection q with q;subst q;exact hJ),h.mt.keep,h.mt.bel.grown hg h.mt.size (fun k q=>by injection q with q;omega)⟩,h.ex,h.nx.own hg (fun k q=>by injection q with q;subst q;omega),h.fr,h.ds,l,Nat.lt_of_lt_of_le h.sz hg.size,
  h.gt.kept hg (fun k q=>by injection q with q;subst q;exact h1),h.go.kept hg (fun k q=>by injection q with q;subst q;exact h2),h.sp⟩
theorem ImM.tree (h:ImM I w bs ba be s J a z t o vt vo W) (ho:OwnS tEnt 26 J W' (be+1) vt' t') (hg:W.grownBy W' vt.ownBlock) (hl:∀g,vt'.ownBlock=some g→vt.ownBlock=some g∨W.heap.size≤g):ImM I w bs ba be s J a z t' o vt' vo W':=by
 have l:=h.lo
 have hlo:∀g,vt.ownBlock=some g→be+1≤g:=fun g hk=>(Xrk h.gt.own hk).1
 exact ⟨⟨h.mt.ok.grown hg h.gt.apart,h.mt.keep,h.mt.bel.grown hg h.mt.size (fun g hk=>by have:=hlo g hk;omega)⟩,h.ex,h.nx.own hg (fun g hk=>by have:=hlo g hk;omega),h.fr,h.ds,l,Nat.lt_of_lt_of_le h.sz hg.size,
  h.gt.added h.mt.ok ho hl,h.go.kept hg (fun g hk=>h.sp g hk),h.sp.new h.go.own hl⟩
theorem ImM.out (h:ImM I w bs ba be s J a z t o vt vo W) (ho:OwnS tChg 65 J W' (be+1) vo' o') (hg:W.grownBy W' vo.ownBlock) (hl:∀g,vo'.ownBlock=some g→vo.ownBlock=some g∨W.heap.size≤g):ImM I w bs ba be s J a z t o' vt vo' W':=by
 have l:=h.lo
 have hlo:∀g,vo.ownBlock=some g→be+1≤g:=fun g hk=>(Xrk h.go.own hk).1
 exact ⟨⟨h.mt.ok.grown hg h.go.apart,h.mt.keep,h.mt.bel.grown hg h.mt.size (fun g hk=>by have:=hlo g hk;omega)⟩,h.ex,h.nx.own hg (fun g hk=>by have:=hlo g hk;omega),h.fr,h.ds,l,Nat.lt_of_lt_of_le h.sz hg.size,
  h.gt.kept hg (fun g hk=>h.sp.symm g hk),h.go.added h.mt.ok ho hl,(h.sp.symm.new h.gt.own hl).symm⟩
end
theorem Xrg {I:IH} {w:World} {s:Bytes} {w1 w2 w3:World} {a:Nat} {z:Int} (hw:Ok I w) (hb1:Below (w.alloc (.cells #[S s] 9)).heap.size (w.alloc (.cells #[S s] 9)) w1)
 (hg2:((w1.alloc (.cells #[.int .i64 0] 3)).alloc (.cells #[.int .i64 0] 30)).grownBy w2 (some w1.heap.size)) (hr2:w2.heap[w1.heap.size]? =some (.cells #[.int .i64 (a:Int)] 3 (0,0)))
 (hg3:w2.grownBy w3 (some (w1.heap.size+1))) (hr3:w3.heap[w1.heap.size+1]? =some (.cells #[.int .i64 z] 30 (0,0))):
 ImM I w w.heap.size w1.heap.size (w1.heap.size+1) s I a z [] [] (.slice none 0 0) (.slice none 0 0) w3:=by
 have hsz:=hb1.size
 rw [World.size_alloc] at hsz
 have s2:=hg2.size
 have s3:=hg3.size
 simp only [World.size_alloc] at s2
 have hS:((w1.alloc (.cells #[.int .i64 0] 3)).alloc (.cells #[.int .i64 0] 30)).heap[w.heap.size]? =some (.cells #[S s] 9 (0,0)):=by
  rw [Below.heap_alloc _ _ _ (by simp;omega),Below.heap_alloc _ _ _ (by omega)]
  exact Xah (heap_alloc_new w _) hb1
 have hM1:=((MAt.start hw).past (.cells #[S s] 9)).quiet hb1
 have hM:MAt I w I ((w1.alloc (.cells #[.int .i64 0] 3)).alloc (.cells #[.int .i64 0] 30)):=(hM1.past _).past _
 have m2:=hM.ok.grown hg2 (fun k q=>by injection q with q;subst q;exact hw.fresh (by omega))
 refine ⟨⟨m2.grown hg3 (fun k q=>by injection q with q;subst q;exact hw.fresh (by omega)),fun _ _ h=>h,(hM.bel.grown hg2 hM.size (fun k q=>by injection q with q;omega)).grown hg3 (by omega) (fun k q=>by injection q with q;omega)⟩,Ext.refl _ _,
  ⟨Xaf (Xaf hS hg2 (fun q=>by injection q with q;omega)) hg3 (fun q=>by injection q with q;omega),Xaf hr2 hg3 (fun q=>by injection q with q;omega),hr3⟩,fun g h1 _=>hw.fresh h1,by omega,by omega,by omega,
  ⟨OwnS.nil _ _ _ _ _,fun g hg=>(by cases hg)⟩,⟨OwnS.nil _ _ _ _ _,fun g hg=>(by cases hg)⟩,fun g hg=>(by cases hg)⟩
set_option maxRecDepth 100000 in
set_option maxHeartbeats 4000000 in
theorem Xsg (I:IH) (hI:Glob I) (s:Bytes) (hs:s.length≤100000000) (w:World) (hw:Ok I w):
 Calls Tryz.prog 19 #[S s] w (RetL tChg I w (impL (impP entOf s)).1 (impL (impP entOf s)).2):=by
 have Hrn:=Qh (fun w hw=>Xc2 I hI s (by omega) 0 (by omega) w hw)
 obtain ⟨R,hR⟩:∃R,impP entOf s=R:=⟨_,rfl⟩
 rw [hR]
 unfold impP at hR
 have hi3:(Tryz.prog.info? 30).map (·.size)=some 1:=by kernel_rfl
 have hi7:(Tryz.prog.info? 26).map (·.size)=some 7:=by kernel_rfl
 have z0:(w.alloc (.cells #[S s] 9)).cell? ⟨w.heap.size,0,none⟩=some (S s):=by rw [World.cell?_alloc_new];rfl
 cases h1:rdNum s 0 with
 |error z=>
  have hz:=Xa9 h1
  rw [h1,Rb_err] at hR
  have HR:=Qh hR
  rw [h1,Xxj] at Hrn
  clear hR h1
  go_enter Tryz.func19,Tryz.ntmps19
  go_wp2_with fail
  refine (Hrn.out _ (hw.alloc _)).mono ?_
  rintro e w1 ⟨rfl,hb1⟩
  have hs1:=hb1.size
  rw [World.size_alloc] at hs1
  have A1:=Qh (show ((w1.alloc (.cells #[.int .i64 0] 3)).alloc (.cells #[.int .i64 0] 30)).heap[w1.heap.size]? =some (.cells #[.int .i64 0] 3 (0,0)) by rw [Below.heap_alloc _ _ _ (by simp),heap_alloc_new])
  have A2:=Qh (show ((w1.alloc (.cells #[.int .i64 0] 3)).alloc (.cells #[.int .i64 0] 30)).heap[w1.heap.size+1]? =some (.cells #[.int .i64 0] 30 (0,0)) by
   have:=heap_alloc_new (w1.alloc (.cells #[.int .i64 0] 3)) (.cells #[.int .i64 0] 30)
   rwa [World.size_alloc] at this)
  have Hb1:=Qh hb1
  clear hb1
  go_wp2_with (first
               |(refine Xai rfl rfl 3 _ _ rfl w1.heap.size 0 [.int .i64 (0:Int)] (.int .i64 (0:Int)) (by simp [Act.eval]) (by simp [Act.eval]) (by rfl) _ 3 A1.out (by simp) Xb3 (by simp [Value.oneCell']) #[.int .i64 (0:Int)] (by rfl) ?_
                 intro w2 hg2 hr2
                 have E2:=Qh (Xaf A2.out hg2 (fun q=>by injection q with q;omega)))
               |(refine Xai rfl rfl 30 _ _ rfl (w1.heap.size+1) 0 [.int .i64 z] (.int .i64 z) (by simp [Act.eval]) (by simp [Act.eval]) (by rfl) _ 30 E2.out (by simp) hi3 (by simp [Value.oneCell']) #[.int .i64 z] (by rfl) ?_
                 intro w3 hg3 hr3
                 have M3:=Qh (Xrg (a:=0) (z:=z) hw Hb1.out hg2 hr2 hg3 hr3)
                 have x2:=cell0 M3.out.nx.e0))
  have g2:=cell_regrown x2
  refine wp_region_quiet_below (by kernel_rfl) (by kernel_rfl) ?_
  repeat (go_big_quiet_step ((fail)))
  refine wpQuiet_nil ?_
  intro w4 hwq
  have hb4:Below (w3).heap.size (w3) w4:=by
   obtain ⟨pq,rfl⟩:=hwq
   exact below_regrown _ _ _
  clear hwq
  go_wp2
  go_ret2
  rw [←HR.out]
  exact ⟨_,I,rfl,M3.out.mt.bel.trans (hb4.mono M3.out.mt.size),Ext.refl _ _,M3.out.mt.ok.below (Qn _) hb4,RdS.nil _ _⟩
 |ok p=>
  obtain ⟨n,a⟩:=p
  have hne:=Xbp h1
  rw [h1,Rb_ok] at hR
  have HR:=Qh hR
  rw [h1,Xxk] at Hrn
  clear hR h1
  by_cases hn:n<0∨5000<n
  ·have HR2:=Qh (show Except.error 2=R by rw [←HR.out,impN,if_pos hn])
   have hcase:decide (n<0)=true∨(decide (n<0)=false∧decide (5000<n)=true):=by
    by_cases h0:n<0
    ·exact .inl (Qt h0)
    ·exact .inr ⟨Qf h0,Qt (by omega)⟩
   clear hn
   rcases hcase with d1|⟨d1,d2⟩
   all_goals
    go_enter Tryz.func19,Tryz.ntmps19
    go_wp2_with fail
    refine (Hrn.out _ (hw.alloc _)).mono ?_
    rintro e w1 ⟨rfl,hb1⟩
    have hs1:=hb1.size
    rw [World.size_alloc] at hs1
    have A1:=Qh (show ((w1.alloc (.cells #[.int .i64 0] 3)).alloc (.cells #[.int .i64 0] 30)).heap[w1.heap.size]? =some (.cells #[.int .i64 0] 3 (0,0)) by rw [Below.heap_alloc _ _ _ (by simp),heap_alloc_new])
    have A2:=Qh (show ((w1.alloc (.cells #[.int .i64 0] 3)).alloc (.cells #[.int .i64 0] 30)).heap[w1.heap.size+1]? =some (.cells #[.int .i64 0] 30 (0,0)) by
     have:=heap_alloc_new (w1.alloc (.cells #[.int .i64 0] 3)) (.cells #[.int .i64 0] 30)
     rwa [World.size_alloc] at this)
    have Hb1:=Qh hb1
    clear hb1
    go_wp2_with (first
                 |(refine Xai rfl rfl 3 _ _ rfl w1.heap.size 0 [.int .i64 (a:Int)] (.int .i64 (a:Int)) (by simp [Act.eval]) (by simp [Act.eval]) (by rfl) _ 3 A1.out (by simp) Xb3 (by simp [Value.oneCell']) #[.int .i64 (a:Int)] (by rfl) ?_
                   intro w2 hg2 hr2
                   have E2:=Qh (Xaf A2.out hg2 (fun q=>by injection q with q;omega)))
                 |(refine Xai rfl rfl 30 _ _ rfl (w1.heap.size+1) 0 [.int .i64 0] (.int .i64 0) (by simp [Act.eval]) (by simp [Act.eval]) (by rfl) _ 30 E2.out (by simp) hi3 (by simp [Value.oneCell']) #[.int .i64 0] (by rfl) ?_
                   intro w3 hg3 hr3
                   have M3:=Qh (Xrg (a:=a) (z:=0) hw Hb1.out hg2 hr2 hg3 hr3)
                   have x2:=cell0 M3.out.nx.e0))
    go_ret2
    rw [←HR2.out]
    exact ⟨_,I,rfl,M3.out.mt.bel,Ext.refl _ _,M3.out.mt.ok,RdS.nil _ _⟩
  ·have d1:decide (n<0)=false:=Qf (by omega)
   have d2:decide (5000<n)=false:=Qf (by omega)
   obtain ⟨m,rfl⟩:∃m:Nat,n=(m:Int):=⟨n.toNat,by omega⟩
   have hm:m≤5000:=by omega
   obtain ⟨G,hG⟩:∃G,impG entOf s m a [] []=G:=⟨_,rfl⟩
   have HG:=Qh hG
   have HR2:=Qh (show Rb G (impE s)=R by rw [←HR.out,impN,if_neg hn,Int.toNat_natCast,hG])
   clear hn hG HR
   go_enter Tryz.func19,Tryz.ntmps19
   go_wp2_with fail
   refine (Hrn.out _ (hw.alloc _)).mono ?_
   rintro e w1 ⟨rfl,hb1⟩
   have hs1:=hb1.size
   rw [World.size_alloc] at hs1
   have A1:=Qh (show ((w1.alloc (.cells #[.int .i64 0] 3)).alloc (.cells #[.int .i64 0] 30)).heap[w1.heap.size]? =some (.cells #[.int .i64 0] 3 (0,0)) by rw [Below.heap_alloc _ _ _ (by simp),heap_alloc_new])
   have A2:=Qh (show ((w1.alloc (.cells #[.int .i64 0] 3)).alloc (.cells #[.int .i64 0] 30)).heap[w1.heap.size+1]? =some (.cells #[.int .i64 0] 30 (0,0)) by
    have:=heap_alloc_new (w1.alloc (.cells #[.int .i64 0] 3)) (.cells #[.int .i64 0] 30)
    rwa [World.size_alloc] at this)
   have Hb1:=Qh hb1
   clear hb1
   go_wp2_with (first
                |(refine Xai rfl rfl 3 _ _ rfl w1.heap.size 0 [.int .i64 (a:Int)] (.int .i64 (a:Int)) (by simp [Act.eval]) (by simp [Act.eval]) (by rfl) _ 3 A1.out (by simp) Xb3 (by simp [Value.oneCell']) #[.int .i64 (a:Int)] (by rfl) ?_
                  intro w2 hg2 hr2
                  have E2:=Qh (Xaf A2.out hg2 (fun q=>by injection q with q;omega)))
                |(refine Xai rfl rfl 30 _ _ rfl (w1.heap.size+1) 0 [.int .i64 0] (.int .i64 0) (by simp [Act.eval]) (by simp [Act.eval]) (by rfl) _ 30 E2.out (by simp) hi3 (by simp [Value.oneCell']) #[.int .i64 0] (by rfl) ?_
                  intro w3 hg3 hr3
                  have M3:=Qh (Xrg (a:=a) (z:=0) hw Hb1.out hg2 hr2 hg3 hr3)
                  have x2:=cell0 M3.out.nx.e0))
   clear A1 A2 E2 hg2 hr2 hg3 hr3 Hb1 x2 Hrn z0
   go_loopw [8,9,10,11,12,13,34] (fun s8 s9 _ _ _ _ s34 wr=> ∃(k a:Nat) (t:List Ent) (o:List Chg) (J:IH),k≤m∧s34= .int .i64 k∧ImM I w w.heap.size w1.heap.size (w1.heap.size+1) s J a 0 t o s8 s9 wr∧a≤s.length∧(∀x∈t,entErr x=0)∧t.length=k∧o.length=k∧impG entOf s (m-k) a t o=G) (fun _ _ _ _ _ _ i _=>m-(intOf i).toNat)
   case atStart=>exact ⟨0,a,[],[],I,Nat.zero_le _,rfl,M3.out,hne.2.1,fun x hx=>(by cases hx),rfl,rfl,HG.out⟩
   case round=>
    clear M3 HG
    obtain ⟨k,a2,t,o,J,hk,rfl,hM,ha2,hval,htl,hol,hr⟩:=hrel
    have M:=Qh hM
    have Hr:=Qh hr
    have Hval:=Qh hval
    have Htl:=Qh htl
    have Hol:=Qh hol
    clear hM hr hval htl hol
    by_cases hlt:k<m
    ·rw [show m-k=m-(k+1)+1 by omega,impG] at Hr
     have c0:=cell0 M.out.nx.e0
     obtain ⟨ta,tc,rfl⟩:=M.out.gt.own.shape
     obtain ⟨oa,oc,rfl⟩:=M.out.go.own.shape
     go_wp2_with fail
     refine (Xnt J (hI.mono M.out.mt.keep) s (by omega) _ _ _ a2 0 _ M.out.mt.ok M.out.nx (by omega) M.out.ds).mono ?_
     cases h1:rdStr s a2 with
     |error z=>
      have hz:=Xav h1
      have hz':z≠0:=by simpa using hz
      rw [h1,Rb_err] at Hr
      rw [Xcj]
      rintro e W1 ⟨rfl,hn1,hw1⟩
      have M1:=Qh (M.out.read hn1 hw1)
      clear M c0 hn1 hw1 h1 hz'
      go_wp2_with fail
      refine (Xnt J (hI.mono M1.out.mt.keep) s (by omega) _ _ _ 0 z _ M1.out.mt.ok M1.out.nx (by omega) M1.out.ds).mono ?_
      rw [Xck _ _ _ (by simpa using hz)]
      rintro e W2 ⟨rfl,hn2,hw2⟩
      have M2:=Qh (M1.out.read hn2 hw2)
      clear M1 hn2 hw2
      have c2:=cell0 M2.out.nx.e0
      have g2:=cell_regrown c2
      go_wp2_with fail
      refine wp_region_quiet_below (by kernel_rfl) (by kernel_rfl) ?_
      repeat (go_big_quiet_step ((fail)))
      refine wpQuiet_nil ?_
      intro W3 hwq
      have hb3:Below (W2).heap.size (W2) W3:=by
       obtain ⟨pq,rfl⟩:=hwq
       exact below_regrown _ _ _
      clear hwq
      go_wp2
      go_ret2
      rw [←HR2.out,←Hr.out,Rb_err]
      exact ⟨_,I,rfl,M2.out.mt.bel.trans (hb3.mono M2.out.mt.size),Ext.refl _ _,(M2.out.mt.ok0).below (Qn _) hb3,RdS.nil _ _⟩
     |ok p=>
     obtain ⟨hh,a3⟩:=p
     rw [h1,Rb_ok] at Hr
     rw [Xof]
     have ha3:=(Xa3 h1).2
     rintro e W1 ⟨rfl,hn1,hw1⟩
     have M1:=Qh (M.out.read hn1 hw1)
     clear M c0 hn1 hw1 h1
     go_wp2_with fail
     refine (Xnt J (hI.mono M1.out.mt.keep) s (by omega) _ _ _ a3 0 _ M1.out.mt.ok M1.out.nx (by omega) M1.out.ds).mono ?_
     cases h2:rdStr s a3 with
     |error z=>
      have hz:=Xav h2
      rw [h2,Rb_err] at Hr
      rw [Xcj]
      rintro e W2 ⟨rfl,hn2,hw2⟩
      have M2:=Qh (M1.out.read hn2 hw2)
      clear M1 hn2 hw2 h2
      have c2:=cell0 M2.out.nx.e0
      have g2:=cell_regrown c2
      go_wp2_with fail
      refine wp_region_quiet_below (by kernel_rfl) (by kernel_rfl) ?_
      repeat (go_big_quiet_step ((fail)))
      refine wpQuiet_nil ?_
      intro W3 hwq
      have hb3:Below (W2).heap.size (W2) W3:=by
       obtain ⟨pq,rfl⟩:=hwq
       exact below_regrown _ _ _
      clear hwq
      go_wp2
      go_ret2
      rw [←HR2.out,←Hr.out,Rb_err]
      exact ⟨_,I,rfl,M2.out.mt.bel.trans (hb3.mono M2.out.mt.size),Ext.refl _ _,(M2.out.mt.ok0).below (Qn _) hb3,RdS.nil _ _⟩
     |ok p=>
     obtain ⟨ct,a4⟩:=p
     rw [h2,Rb_ok] at Hr
     rw [Xof]
     have ha4:=(Xa3 h2).2
     rintro e W2 ⟨rfl,hn2,hw2⟩
     have M2:=Qh (M1.out.read hn2 hw2)
     clear M1 hn2 hw2 h2
     have c2:=cell0 M2.out.nx.e0
     try dsimp only at Hr
     have Hev:=Qh (Xnv (h:=hh) (c:=ct) (by omega))
     have Hent:=Qh (Xqb J (hI.mono M2.out.mt.keep) hh ct (by omega) (by omega) W2 M2.out.mt.ok)
     generalize entOf hh ct=q at Hr Hev Hent
     obtain ⟨x,fl⟩:=q
     dsimp only at Hr Hev
     go_wp2_with fail
     refine Hent.out.mono ?_
     rintro e W3 ⟨va,vx,J3,rfl,hva,hvx,hx3,hok3,hb3⟩
     dsimp only at hva hvx
     obtain ⟨xa,xc,rfl,_,_,_⟩:=id hva
     obtain ⟨xx,xd,rfl,_,_,_⟩:=id hvx
     have M3:=Qh (M2.out.ext hb3 hx3 hok3)
     have M4:=Qh (M3.out.past (.cells zeroRow 26))
     have hJn:=hok3.fresh (Qn _)
     have hgt3:=M3.out.sz
     have H4:=Qh (heap_alloc_new W3 (.cells zeroRow 26))
     have hvt:=M3.out.gt.own.ne_ge (Qn _)
     have hvo:=M3.out.go.own.ne_ge (Qn _)
     have HA:=Qh hva
     have HX:=Qh hvx
     have HT:=Qh hvt
     have HO:=Qh hvo
     clear hva hvx hx3 hok3 hb3 M2 M3 c2 Hent hvt hvo
     cases fl with
     |false=>
      rw [if_pos rfl] at Hr
      go_wp2_with (refine Xai rfl rfl 26 _ _ rfl W3.heap.size 0 (entRow x (.slice xa x.attrs.length xc) (.slice xx x.exts.length xd)).toList (entV x (.slice xa x.attrs.length xc) (.slice xx x.exts.length xd)) (by simp [Act.eval,Act.put]) (by simp [Act.eval,Act.put]) (by rfl) zeroRow 26 H4.out (by simp) hi7 (by simp [Value.oneCell']) (entRow x (.slice xa x.attrs.length xc) (.slice xx x.exts.length xd)) (by rfl) ?_
                   intro W5 hg5 hr5
                   have M5:=Qh (M4.out.new hg5 hJn hgt3 HT.out HO.out))
      go_wp2
      go_ret2
      rw [←HR2.out,←Hr.out,Rb_err]
      exact ⟨_,I,rfl,M5.out.mt.bel,Ext.refl _ _,M5.out.mt.ok0,RdS.nil _ _⟩
     |true=>
      rw [if_neg (by simp)] at Hr
      have hex:=Hev.out rfl
      have Hex:=Qh hex
      clear hex Hev
      go_wp2_with (first
                   |(refine Xai rfl rfl 26 _ _ rfl W3.heap.size 0 (entRow x (.slice xa x.attrs.length xc) (.slice xx x.exts.length xd)).toList (entV x (.slice xa x.attrs.length xc) (.slice xx x.exts.length xd)) (by simp [Act.eval,Act.put]) (by simp [Act.eval,Act.put]) (by rfl) zeroRow 26 H4.out (by simp) hi7 (by simp [Value.oneCell']) (entRow x (.slice xa x.attrs.length xc) (.slice xx x.exts.length xd)) (by rfl) ?_
                     intro W5 hg5 hr5
                     have M5:=Qh (M4.out.new hg5 hJn hgt3 HT.out HO.out)
                     have R5:=Qh hr5)
                   |(refine wpList_load_row rfl 26 _ rfl W3.heap.size rfl 26 _ (0,0) _ R5.out Tryz.underlying26 rfl hi7 ?_)
                   |(at_builtin
                     refine Xdt (w0:=W5) Xux rfl _ _ rfl (w1.heap.size+1+1) _ _ rfl M5.out.gt.own x (entCs x (.slice xa x.attrs.length xc) (.slice xx x.exts.length xd)) _ (by first|rfl|simp [Act.eval]) ⟨_,_,rfl,HA.out,HX.out⟩ (by rw [Htl.out];omega) (by rw [Htl.out];omega) (by have:=M5.out.sz;omega) ?_
                     intro v6 W6 ho6 hg6 hl6
                     have M6:=Qh (M5.out.tree ho6 hg6 hl6)
                     have R6:=Qh (Xaf R5.out hg6 (fun q=>HT.out q))
                     obtain ⟨y0,y1,y2,y3,y4,y5,y6⟩:=ent_row R6.out)
                   |(at_builtin
                     refine Xdt (w0:=W6) Xu4 rfl _ _ rfl (w1.heap.size+1+1) _ _ rfl M6.out.go.own (chgOf x ct) [.int .i64 x.kind,S x.path,.slice xa x.attrs.length xc,S x.target,S ct] _ (by first|rfl|simp [Act.eval]) ⟨_,rfl,HA.out⟩ (by rw [Hol.out];omega) (by rw [Hol.out];omega) (by have:=M6.out.sz;omega) ?_
                     intro v7 W7 ho7 hg7 hl7
                     have M7:=Qh (M6.out.out ho7 hg7 hl7)))
      go_roundw
      case rel=>exact ⟨k+1,a4,t++ [x],o++ [chgOf x ct],J3,by omega,by go_num,M7.out,ha4.1,fun y hy=>(by
       rcases List.mem_append.1 hy with hy|hy
       ·exact Hval.out y hy
       ·rw [List.mem_singleton.1 hy];exact Hex.out),by rw [List.length_append,Htl.out];rfl,by rw [List.length_append,Hol.out];rfl,Hr.out⟩
      case measure=>simp [intOf];omega
    ·have hke:m-k=0:=by omega
     rw [hke,impG] at Hr
     have HR3:=Qh (show impE s (t,o,a2)=R by rw [←HR2.out,←Hr.out,Rb_ok])
     obtain ⟨ta,tc,rfl⟩:=M.out.gt.own.shape
     obtain ⟨oa,oc,rfl⟩:=M.out.go.own.shape
     clear Hr hke
     have c1:=cell0 M.out.nx.a0
     have c3:=cell0 M.out.nx.s0
     by_cases hend:a2=s.length
     ·have k1:((a2:Int) != (s.length:Int))=false:=by rw [hend];simp
      have HR4:=Qh (show (if chkT t≠0 then Except.error (chkT t) else Except.ok o)=R by rw [←HR3.out];unfold impE;dsimp only;rw [if_neg (c:=a2≠s.length) (by omega)])
      clear HR3 hend
      obtain ⟨J2,hk2,hx2,hok2,hr2,hj2⟩:=M.out.gt.own.freezeG M.out.mt.ok M.out.gt.apart
      obtain ⟨J3,hk3,hx3,hok3,hr3,_⟩:=(M.out.go.own.mono hk2).freezeG hok2 (fun g hg=>(hj2 g (fun q=>M.out.sp g q hg)).trans (M.out.go.apart g hg))
      have Hck:=Qh (fun w hw=>Xuz J2 _ t hr2 (hI.mono fun b c h=>hk2 b c (M.out.mt.keep b c h)) (Xmj Hval.out).1 (Xmj Hval.out).2 w hw)
      have HO3:=Qh hr3
      have HK:=Qh hok2
      have HK3:=Qh hok3
      have hlo:=M.out.lo
      have HX3:=Qh (show Ext w.heap.size I J3 from M.out.ex.trans ((hx2.trans hx3 (Qn _)).mono (by omega)) (Qn _))
      have HB:=Qh M.out.mt.bel
      clear hk2 hx2 hok2 hr2 hj2 hk3 hx3 hok3 hr3 hlo
      go_wp2_with fail
      refine (Hck.out _ HK.out).mono ?_
      rintro e W8 ⟨rfl,hb8⟩
      have HB8:=Qh (HB.out.trans (hb8.mono HB.out.size))
      have HK8:=Qh (HK3.out.below (Qn _) hb8)
      clear hb8 HB HK3 c1 c3
      obtain ⟨cz,hcz⟩:∃cz,chkT t=cz:=⟨_,rfl⟩
      rw [hcz] at HR4 ⊢
      clear hcz
      by_cases hz:cz=0
      ·subst hz
       rw [if_neg (by simp)] at HR4
       go_wp2
       go_ret2
       rw [←HR4.out]
       exact ⟨_,J3,rfl,HB8.out,HX3.out,HK8.out,HO3.out⟩
      ·have k2:(cz != 0)=true:=by simpa using hz
       rw [if_pos hz] at HR4
       clear hz
       go_wp2
       go_ret2
       rw [←HR4.out]
       exact ⟨_,J3,rfl,HB8.out,HX3.out,HK8.out,RdS.nil _ _⟩
     ·have k1:((a2:Int) != (s.length:Int))=true:=by
       have:(a2:Int)≠(s.length:Int):=by omega
       simpa using this
      have HR4:=Qh (show Except.error 3=R by rw [←HR3.out];unfold impE;dsimp only;rw [if_pos (c:=a2≠s.length) (by omega)])
      clear HR3 hend
      go_wp2
      go_ret2
      rw [←HR4.out]
      exact ⟨_,I,rfl,M.out.mt.bel,Ext.refl _ _,M.out.mt.ok0,RdS.nil _ _⟩
end Go.Proofs.YtdodihnehppnmaaGreatDoor
