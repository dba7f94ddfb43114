/- Lemmas for the claim's theorem;conditions: as each says. -/
import Derived.Test.YtkipnpjagcfcpaaGreatDoorE12
set_option maxHeartbeats 0
set_option maxRecDepth 100000
set_option linter.all false
namespace Go.Proofs.YtkipnpjagcfcpaaGreatDoor
open Go.RowKit
theorem Xv8:(Tryz.prog.info? 35).map (fun i=>(i.zero,i.size,i.bytes))=some (some (.agg aC),7,112):=by kernel_rfl
theorem Xv9:eZ Tryz.prog 60 35 bG 112:=eZ.of Tryz.underlying60 Xv8 rfl (by decide) rfl
theorem Xwg:(Tryz.prog.info? 49).map (fun i=>(i.zero,i.size,i.bytes))=some (some (.agg #[.int .i64 0,.string ⟨#[]⟩,.slice none 0 0,.string ⟨#[]⟩,.string ⟨#[]⟩]),5,80):=by kernel_rfl
theorem Xwh:eZ Tryz.prog 47 49 yX 80:=eZ.of Tryz.underlying47 Xwg rfl (by decide) rfl
def Sa(r:Except Int (List tF)):List tF×Int:=match r with| .ok o=>(o,0)| .error z=>([],z)
theorem Xou{h c:ae}(hc:c.length≤100000000)(hb:(gU h c).2=true):az (gU h c).1=0:=((Xx9 h c hc).2 hb).ex
theorem Xnk{t:List aG}(h:∀x∈t,az x=0):Pn t∧vE t:=by
 refine⟨fun x hx=>(Bn (h x hx)).wf,fun x hx=> ?_⟩;have hc:=Bn (h x hx);have h1:=hc.af;have h2:=hc.target;omega
structure sQ (I:IH) (w:World) (bs ba be:Nat) (s:ae) (J:IH) (a:Nat) (z:Int) (t:List aG) (o:List tF) (vt vo:Value) (W:World):Prop where
 mt:lY I w J W
 ex:Ext w.heap.size I J
 nx:Gg W bs ba be s a z
 fr:∀g,w.heap.size≤g→g<be+1→J g=none
 ds:bs≠ba∧bs≠be∧ba≠be
 lo:w.heap.size≤bs∧bs<be+1∧w.heap.size≤ba∧ba<be+1∧w.heap.size≤be
 sz:be<W.heap.size
 gt:vJ bG 35 (be+1) J W vt t
 go:vJ yX 49 (be+1) J W vo o
 sp:Sep vt vo
section
variable {I J J':IH} {w W W':World} {bs ba be:Nat} {s:ae} {a b:Nat} {z y:Int} {t t':List aG} {o o':List tF} {vt vo Al Rp:Value}
theorem sQ.aA(h:sQ I w bs ba be s J a z t o vt vo W)(hb:Below W.heap.size W W'):sQ I w bs ba be s J a z t o vt vo W':=
 ⟨h.mt.quiet hb,h.ex,h.nx.aA hb,h.fr,h.ds,h.lo,Nat.lt_of_lt_of_le h.sz hb.size,h.gt.below hb,h.go.below hb,h.sp⟩
theorem sQ.past(h:sQ I w bs ba be s J a z t o vt vo W)(x:Obj):sQ I w bs ba be s J a z t o vt vo (W.alloc x):=h.aA ((Qb _ _).alloc (Qn _) x)
theorem sQ.ext(h:sQ I w bs ba be s J a z t o vt vo W)(hb:Below W.heap.size W W')(hx:Ext W.heap.size J J')(gG:Ok J' W'):sQ I w bs ba be s J' a z t o vt vo W':=
 ⟨h.mt.ext hb hx gG,h.ex.trans (hx.mono (by have:=h.sz;have:=h.lo;omega)) (Qn _),h.nx.aA hb,fun g h1 h2=>by rw[hx g (by have:=h.sz;omega)];exact h.fr g h1 h2,h.ds,h.lo,Nat.lt_of_lt_of_le h.sz hb.size,h.gt.ext hb h.mt.ok hx,h.go.ext hb h.mt.ok hx,h.sp⟩
theorem sQ.low{g:Nat}(h:sQ I w bs ba be s J a z t o vt vo W)(hg:W.grownBy W' (some g))(h1:w.heap.size≤g)(h2:g<be+1):
 lY I w J W'∧be<W'.heap.size∧vJ bG 35 (be+1) J W' vt t∧vJ yX 49 (be+1) J W' vo o:=
 ⟨⟨h.mt.ok.grown hg (fun k q=>by injection q with q;subst q;exact h.fr _ h1 h2),h.mt.keep,h.mt.dE.grown hg h.mt.size (fun k q=>by injection q with q;omega)⟩,Nat.lt_of_lt_of_le h.sz hg.size,h.gt.low hg h2,h.go.low hg h2⟩
theorem sQ.read(h:sQ I w bs ba be s J a z t o vt vo W)(hn:Gg W' bs ba be s b y)(h2:Two W W' ba be):sQ I w bs ba be s J b y t o vt vo W':=by
 obtain⟨wb,hg1,hg2⟩:=h2;have l:=h.lo;obtain⟨m1,s1,t1,o1⟩:=h.low hg1 l.2.2.1 l.2.2.2.1;refine⟨⟨m1.ok.grown hg2 (fun k q=>by injection q with q;subst q;exact h.fr _ l.2.2.2.2 (by omega)),m1.keep,m1.dE.grown hg2 m1.size (fun k q=>by injection q with q;omega)⟩,h.ex,hn,h.fr,h.ds,l,Nat.lt_of_lt_of_le s1 hg2.size,t1.low hg2 (by omega),o1.low hg2 (by omega),h.sp⟩
theorem sQ.new{g:Nat}(h:sQ I w bs ba be s J a z t o vt vo W)(hg:W.grownBy W' (some g))(hJ:J g=none)(xN:be<g)(h1:vt.ownBlock≠some g)(h2:vo.ownBlock≠some g):sQ I w bs ba be s J a z t o vt vo W':=by
 have l:=h.lo
 exact⟨⟨h.mt.ok.grown hg (fun k q=>by injection q with q;subst q;exact hJ),h.mt.keep,h.mt.dE.grown hg h.mt.size (fun k q=>by injection q with q;omega)⟩,h.ex,h.nx.own hg (fun k q=>by injection q with q;subst q;omega),h.fr,h.ds,l,Nat.lt_of_lt_of_le h.sz hg.size,
  h.gt.kept hg (fun k q=>by injection q with q;subst q;exact h1),h.go.kept hg (fun k q=>by injection q with q;subst q;exact h2),h.sp⟩
theorem sQ.aI(h:sQ I w bs ba be s J a z t o vt vo W)(ho:aP bG 35 J W' (be+1) Al t')(hg:W.grownBy W' vt.ownBlock)(hl:∀g,Al.ownBlock=some g→vt.ownBlock=some g∨W.heap.size≤g):sQ I w bs ba be s J a z t' o Al vo W':=by
 have l:=h.lo;have Kb:∀g,vt.ownBlock=some g→be+1≤g:=fun g hk=>(EJ h.gt.own hk).1
 exact⟨⟨h.mt.ok.grown hg h.gt.apart,h.mt.keep,h.mt.dE.grown hg h.mt.size (fun g hk=>by have:=Kb g hk;omega)⟩,h.ex,h.nx.own hg (fun g hk=>by have:=Kb g hk;omega),h.fr,h.ds,l,Nat.lt_of_lt_of_le h.sz hg.size,
  h.gt.added h.mt.ok ho hl,h.go.kept hg (fun g hk=>h.sp g hk),h.sp.new h.go.own hl⟩
theorem sQ.O(h:sQ I w bs ba be s J a z t o vt vo W)(ho:aP yX 49 J W' (be+1) Rp o')(hg:W.grownBy W' vo.ownBlock)(hl:∀g,Rp.ownBlock=some g→vo.ownBlock=some g∨W.heap.size≤g):sQ I w bs ba be s J a z t o' vt Rp W':=by
 have l:=h.lo;have Kb:∀g,vo.ownBlock=some g→be+1≤g:=fun g hk=>(EJ h.go.own hk).1
 exact⟨⟨h.mt.ok.grown hg h.go.apart,h.mt.keep,h.mt.dE.grown hg h.mt.size (fun g hk=>by have:=Kb g hk;omega)⟩,h.ex,h.nx.own hg (fun g hk=>by have:=Kb g hk;omega),h.fr,h.ds,l,Nat.lt_of_lt_of_le h.sz hg.size,
  h.gt.kept hg (fun g hk=>h.sp.symm g hk),h.go.added h.mt.ok ho hl,(h.sp.symm.new h.gt.own hl).symm⟩
end
theorem ZO{I:IH}{w:World}{s:ae}{w1 w2 w3:World}{a:Nat}{z:Int}(hw:Ok I w)(au:Below (w.alloc (.cells #[S s] 9)).heap.size (w.alloc (.cells #[S s] 9)) w1)
 (hg2:((w1.alloc (.cells #[.int .i64 0] 3)).alloc (.cells #[.int .i64 0] 36)).grownBy w2 (some w1.heap.size)) (fT:w2.heap[w1.heap.size]?=some (.cells #[.int .i64 (a:Int)] 3 (0,0)))
 (wL:w2.grownBy w3 (some (w1.heap.size+1))) (gM:w3.heap[w1.heap.size+1]?=some (.cells #[.int .i64 z] 36 (0,0))):
 sQ I w w.heap.size w1.heap.size (w1.heap.size+1) s I a z [] [] (.slice none 0 0) (.slice none 0 0) w3:=by
 have eU:=au.size;rw[World.size_alloc]at eU;have s2:=hg2.size;have s3:=wL.size;simp only[World.size_alloc]at s2;have hS:((w1.alloc (.cells #[.int .i64 0] 3)).alloc (.cells #[.int .i64 0] 36)).heap[w.heap.size]?=some (.cells #[S s] 9 (0,0)):=by
  rw[Below.heap_alloc _ _ _ (by simp;omega),Below.heap_alloc _ _ _ (by omega)];exact jg (heap_alloc_new w _) au
 have hM1:=((lY.start hw).past (.cells #[S s] 9)).quiet au;have hM:lY I w I ((w1.alloc (.cells #[.int .i64 0] 3)).alloc (.cells #[.int .i64 0] 36)):=(hM1.past _).past _;have m2:=hM.ok.grown hg2 (fun k q=>by injection q with q;subst q;exact hw.fresh (by omega))
 refine⟨⟨m2.grown wL (fun k q=>by injection q with q;subst q;exact hw.fresh (by omega)),fun _ _ h=>h,(hM.dE.grown hg2 hM.size (fun k q=>by injection q with q;omega)).grown wL (by omega) (fun k q=>by injection q with q;omega)⟩,Ext.refl _ _,
  ⟨iL (iL hS hg2 (fun q=>by injection q with q;omega)) wL (fun q=>by injection q with q;omega),iL fT wL (fun q=>by injection q with q;omega),gM⟩,fun g h1 _=>hw.fresh h1,by omega,by omega,by omega,
  ⟨aP.nil _ _ _ _ _,fun g hg=>(by cases hg)⟩,⟨aP.nil _ _ _ _ _,fun g hg=>(by cases hg)⟩,fun g hg=>(by cases hg)⟩
theorem Xtn(I:IH)(hI:dQ I)(s:ae)(hs:s.length≤100000000)(w:World)(hw:Ok I w):
 Calls Tryz.prog 21 #[S s] w (yh yX I w (Sa (Ac gU s)).1 (Sa (Ac gU s)).2):=by
 have OB:=Qh (fun w hw=>WW I hI s (by omega) 0 (by omega) w hw);obtain⟨R,hR⟩:∃R,Ac gU s=R:=⟨_,rfl⟩;rw[hR];unfold Ac at hR;have zf:(Tryz.prog.info? 36).map (·.size)=some 1:=by kernel_rfl
 have lV:(Tryz.prog.info? 35).map (·.size)=some 7:=by kernel_rfl
 have z0:(w.alloc (.cells #[S s] 9)).cell? ⟨w.heap.size,0,none⟩=some (S s):=by rw[World.cell?_alloc_new];rfl
 cases h1:rdNum s 0 with
 |error z=>
  have hz:=Eh h1;rw[h1,dJ]at hR;have HR:=Qh hR;rw[h1,Xyz]at OB;clear hR h1;go_enter Tryz.func21,Tryz.ntmps21
  go_wp2_with fail
  refine(OB.O _ (hw.alloc _)).mono ?_;rintro e w1 ⟨rfl,au⟩;have pG:=au.size;rw[World.size_alloc]at pG;have A1:=Qh (show((w1.alloc (.cells #[.int .i64 0] 3)).alloc (.cells #[.int .i64 0] 36)).heap[w1.heap.size]?=some (.cells #[.int .i64 0] 3 (0,0)) by rw[Below.heap_alloc _ _ _ (by simp),heap_alloc_new]);have A2:=Qh (show((w1.alloc (.cells #[.int .i64 0] 3)).alloc (.cells #[.int .i64 0] 36)).heap[w1.heap.size+1]?=some (.cells #[.int .i64 0] 36 (0,0)) by
   have:=heap_alloc_new (w1.alloc (.cells #[.int .i64 0] 3)) (.cells #[.int .i64 0] 36);rwa[World.size_alloc]at this)
  have Dz:=Qh au;clear au
  go_wp2_with (first
               |(refine nO rfl rfl 3 _ _ rfl w1.heap.size 0 [.int .i64 (0:Int)] (.int .i64 (0:Int)) (by simp[Act.eval]) (by simp[Act.eval]) (by rfl) _ 3 A1.O (by simp) FW (by simp[Value.oneCell']) #[.int .i64 (0:Int)] (by rfl) ?_
                 intro w2 hg2 fT;have E2:=Qh (iL A2.O hg2 (fun q=>by injection q with q;omega)))
               |(refine nO rfl rfl 36 _ _ rfl (w1.heap.size+1) 0 [.int .i64 z] (.int .i64 z) (by simp[Act.eval]) (by simp[Act.eval]) (by rfl) _ 36 E2.O (by simp) zf (by simp[Value.oneCell']) #[.int .i64 z] (by rfl) ?_
                 intro w3 wL gM;have M3:=Qh (ZO (a:=0) (z:=z) hw Dz.O hg2 fT wL gM);have x2:=cell0 M3.O.nx.e0))
  have g2:=cell_regrown x2;refine wp_region_quiet_below (by kernel_rfl) (by kernel_rfl) ?_;repeat(go_big_quiet_step ((fail)))
  refine wpQuiet_nil ?_;intro w4 bg;have aM:Below (w3).heap.size (w3) w4:=by
   obtain⟨pq,rfl⟩:=bg;exact below_regrown _ _ _
  clear bg;go_wp2;go_ret2;rw[←HR.O];exact⟨_,I,rfl,M3.O.mt.dE.trans (aM.mono M3.O.mt.size),Ext.refl _ _,M3.O.mt.ok.below (Qn _) aM,bf.nil _ _⟩
 |ok p=>
  obtain⟨n,a⟩:=p;have bZ:=GQ h1;rw[h1,aR]at hR;have HR:=Qh hR;rw[h1,Xy0]at OB;clear hR h1;by_cases hn:n<0∨5000<n
  ·have Jb:=Qh (show Except.error 2=R by rw[←HR.O,Ik,if_pos hn]);have jU:decide (n<0)=true∨(decide (n<0)=false∧decide (5000<n)=true):=by
    by_cases h0:n<0
    ·exact .inl (Qt h0)
    ·exact .inr ⟨Qf h0,Qt (by omega)⟩
   clear hn;rcases jU with d1|⟨d1,d2⟩
   all_goals
    go_enter Tryz.func21,Tryz.ntmps21
    go_wp2_with fail
    refine(OB.O _ (hw.alloc _)).mono ?_;rintro e w1 ⟨rfl,au⟩;have pG:=au.size;rw[World.size_alloc]at pG;have A1:=Qh (show((w1.alloc (.cells #[.int .i64 0] 3)).alloc (.cells #[.int .i64 0] 36)).heap[w1.heap.size]?=some (.cells #[.int .i64 0] 3 (0,0)) by rw[Below.heap_alloc _ _ _ (by simp),heap_alloc_new]);have A2:=Qh (show((w1.alloc (.cells #[.int .i64 0] 3)).alloc (.cells #[.int .i64 0] 36)).heap[w1.heap.size+1]?=some (.cells #[.int .i64 0] 36 (0,0)) by
     have:=heap_alloc_new (w1.alloc (.cells #[.int .i64 0] 3)) (.cells #[.int .i64 0] 36);rwa[World.size_alloc]at this)
    have Dz:=Qh au;clear au
    go_wp2_with (first
                 |(refine nO rfl rfl 3 _ _ rfl w1.heap.size 0 [.int .i64 (a:Int)] (.int .i64 (a:Int)) (by simp[Act.eval]) (by simp[Act.eval]) (by rfl) _ 3 A1.O (by simp) FW (by simp[Value.oneCell']) #[.int .i64 (a:Int)] (by rfl) ?_
                   intro w2 hg2 fT;have E2:=Qh (iL A2.O hg2 (fun q=>by injection q with q;omega)))
                 |(refine nO rfl rfl 36 _ _ rfl (w1.heap.size+1) 0 [.int .i64 0] (.int .i64 0) (by simp[Act.eval]) (by simp[Act.eval]) (by rfl) _ 36 E2.O (by simp) zf (by simp[Value.oneCell']) #[.int .i64 0] (by rfl) ?_
                   intro w3 wL gM;have M3:=Qh (ZO (a:=a) (z:=0) hw Dz.O hg2 fT wL gM);have x2:=cell0 M3.O.nx.e0))
    go_ret2;rw[←Jb.O];exact⟨_,I,rfl,M3.O.mt.dE,Ext.refl _ _,M3.O.mt.ok,bf.nil _ _⟩
  ·have d1:decide (n<0)=false:=Qf (by omega);have d2:decide (5000<n)=false:=Qf (by omega);obtain⟨m,rfl⟩:∃m:Nat,n=(m:Int):=⟨n.toNat,by omega⟩;have hm:m≤5000:=by omega
   obtain⟨G,hG⟩:∃G,xy gU s m a [] []=G:=⟨_,rfl⟩;have HG:=Qh hG;have Jb:=Qh (show Rb G (Cs s)=R by rw[←HR.O,Ik,if_neg hn,Int.toNat_natCast,hG]);clear hn hG HR;go_enter Tryz.func21,Tryz.ntmps21
   go_wp2_with fail
   refine(OB.O _ (hw.alloc _)).mono ?_;rintro e w1 ⟨rfl,au⟩;have pG:=au.size;rw[World.size_alloc]at pG;have A1:=Qh (show((w1.alloc (.cells #[.int .i64 0] 3)).alloc (.cells #[.int .i64 0] 36)).heap[w1.heap.size]?=some (.cells #[.int .i64 0] 3 (0,0)) by rw[Below.heap_alloc _ _ _ (by simp),heap_alloc_new]);have A2:=Qh (show((w1.alloc (.cells #[.int .i64 0] 3)).alloc (.cells #[.int .i64 0] 36)).heap[w1.heap.size+1]?=some (.cells #[.int .i64 0] 36 (0,0)) by
    have:=heap_alloc_new (w1.alloc (.cells #[.int .i64 0] 3)) (.cells #[.int .i64 0] 36);rwa[World.size_alloc]at this)
   have Dz:=Qh au;clear au
   go_wp2_with (first
                |(refine nO rfl rfl 3 _ _ rfl w1.heap.size 0 [.int .i64 (a:Int)] (.int .i64 (a:Int)) (by simp[Act.eval]) (by simp[Act.eval]) (by rfl) _ 3 A1.O (by simp) FW (by simp[Value.oneCell']) #[.int .i64 (a:Int)] (by rfl) ?_
                  intro w2 hg2 fT;have E2:=Qh (iL A2.O hg2 (fun q=>by injection q with q;omega)))
                |(refine nO rfl rfl 36 _ _ rfl (w1.heap.size+1) 0 [.int .i64 0] (.int .i64 0) (by simp[Act.eval]) (by simp[Act.eval]) (by rfl) _ 36 E2.O (by simp) zf (by simp[Value.oneCell']) #[.int .i64 0] (by rfl) ?_
                  intro w3 wL gM;have M3:=Qh (ZO (a:=a) (z:=0) hw Dz.O hg2 fT wL gM);have x2:=cell0 M3.O.nx.e0))
   clear A1 A2 E2 hg2 fT wL gM Dz x2 OB z0;go_loopw [8,9,10,11,12,13,34] (fun s8 s9 _ _ _ _ s34 wr=> ∃(k a:Nat) (t:List aG) (o:List tF) (J:IH),k≤m∧s34= .int .i64 k∧sQ I w w.heap.size w1.heap.size (w1.heap.size+1) s J a 0 t o s8 s9 wr∧a≤s.length∧(∀x∈t,az x=0)∧t.length=k∧o.length=k∧xy gU s (m-k) a t o=G) (fun _ _ _ _ _ _ i _=>m-(intOf i).toNat)
   case atStart=>exact⟨0,a,[],[],I,Nat.zero_le _,rfl,M3.O,bZ.2.1,fun x hx=>(by cases hx),rfl,rfl,HG.O⟩
   case round=>
    clear M3 HG;obtain⟨k,a2,t,o,J,hk,rfl,hM,uP,oI,pF,Dr,hr⟩:=hrel;have M:=Qh hM;have Hr:=Qh hr;have Me:=Qh oI;have ZP:=Qh pF;have ZQ:=Qh Dr;clear hM hr oI pF Dr;by_cases hlt:k<m
    ·rw[show m-k=m-(k+1)+1 by omega,xy]at Hr;have c0:=cell0 M.O.nx.e0;obtain⟨ta,tc,rfl⟩:=M.O.gt.own.shape;obtain⟨oa,oc,rfl⟩:=M.O.go.own.shape;go_wp2_with fail
     refine(YQ J (hI.mono M.O.mt.keep) s (by omega) _ _ _ a2 0 _ M.O.mt.ok M.O.nx (by omega) M.O.ds).mono ?_;cases h1:rdStr s a2 with
     |error z=>
      have hz:=zy h1;have Mh:z≠0:=by simpa using hz
      rw[h1,dJ]at Hr;rw[Aa];rintro e W1 ⟨rfl,wJ,uN⟩;have M1:=Qh (M.O.read wJ uN);clear M c0 wJ uN h1 Mh;go_wp2_with fail
      refine(YQ J (hI.mono M1.O.mt.keep) s (by omega) _ _ _ 0 z _ M1.O.mt.ok M1.O.nx (by omega) M1.O.ds).mono ?_;rw[z8 _ _ _ (by simpa using hz)];rintro e W2 ⟨rfl,Kc,zg⟩;have M2:=Qh (M1.O.read Kc zg);clear M1 Kc zg;have c2:=cell0 M2.O.nx.e0;have g2:=cell_regrown c2;go_wp2_with fail
      refine wp_region_quiet_below (by kernel_rfl) (by kernel_rfl) ?_;repeat(go_big_quiet_step ((fail)))
      refine wpQuiet_nil ?_;intro W3 bg;have cO:Below (W2).heap.size (W2) W3:=by
       obtain⟨pq,rfl⟩:=bg;exact below_regrown _ _ _
      clear bg;go_wp2;go_ret2;rw[←Jb.O,←Hr.O,dJ];exact⟨_,I,rfl,M2.O.mt.dE.trans (cO.mono M2.O.mt.size),Ext.refl _ _,(M2.O.mt.ok0).below (Qn _) cO,bf.nil _ _⟩
     |ok p=>
     obtain⟨hh,a3⟩:=p;rw[h1,aR]at Hr;rw[Um];have Da:=(BZ h1).2;rintro e W1 ⟨rfl,wJ,uN⟩;have M1:=Qh (M.O.read wJ uN);clear M c0 wJ uN h1;go_wp2_with fail
     refine(YQ J (hI.mono M1.O.mt.keep) s (by omega) _ _ _ a3 0 _ M1.O.mt.ok M1.O.nx (by omega) M1.O.ds).mono ?_;cases h2:rdStr s a3 with
     |error z=>
      have hz:=zy h2;rw[h2,dJ]at Hr;rw[Aa];rintro e W2 ⟨rfl,Kc,zg⟩;have M2:=Qh (M1.O.read Kc zg);clear M1 Kc zg h2;have c2:=cell0 M2.O.nx.e0;have g2:=cell_regrown c2;go_wp2_with fail
      refine wp_region_quiet_below (by kernel_rfl) (by kernel_rfl) ?_;repeat(go_big_quiet_step ((fail)))
      refine wpQuiet_nil ?_;intro W3 bg;have cO:Below (W2).heap.size (W2) W3:=by
       obtain⟨pq,rfl⟩:=bg;exact below_regrown _ _ _
      clear bg;go_wp2;go_ret2;rw[←Jb.O,←Hr.O,dJ];exact⟨_,I,rfl,M2.O.mt.dE.trans (cO.mono M2.O.mt.size),Ext.refl _ _,(M2.O.mt.ok0).below (Qn _) cO,bf.nil _ _⟩
     |ok p=>
     obtain⟨ct,a4⟩:=p;rw[h2,aR]at Hr;rw[Um];have FZ:=(BZ h2).2;rintro e W2 ⟨rfl,Kc,zg⟩;have M2:=Qh (M1.O.read Kc zg);clear M1 Kc zg h2;have c2:=cell0 M2.O.nx.e0;try dsimp only at Hr
     have U5:=Qh (Xou (h:=hh) (c:=ct) (by omega));have Mf:=Qh (Xra J (hI.mono M2.O.mt.keep) hh ct (by omega) (by omega) W2 M2.O.mt.ok);generalize gU hh ct=q at Hr U5 Mf;obtain⟨x,fl⟩:=q;dsimp only at Hr U5;go_wp2_with fail
     refine Mf.O.mono ?_;rintro e W3 ⟨va,vx,J3,rfl,eP,eT,rO,bN,cO⟩;dsimp only at eP eT;obtain⟨xa,xc,rfl,_,_,_⟩:=id eP;obtain⟨xx,xd,rfl,_,_,_⟩:=id eT;have M3:=Qh (M2.O.ext cO rO bN);have M4:=Qh (M3.O.past (.cells aC 35));have Dn:=bN.fresh (Qn _);have Sb:=M3.O.sz;have H4:=Qh (heap_alloc_new W3 (.cells aC 35));have uI:=M3.O.gt.own.mP (Qn _);have hvo:=M3.O.go.own.mP (Qn _);have HA:=Qh eP;have HX:=Qh eT;have HT:=Qh uI;have HO:=Qh hvo;clear eP eT rO bN cO M2 M3 c2 Mf uI hvo;cases fl with
     |false=>
      rw[if_pos rfl]at Hr
      go_wp2_with (refine nO rfl rfl 35 _ _ rfl W3.heap.size 0 (aZ x (.slice xa x.ag.length xc) (.slice xx x.ak.length xd)).toList (fB x (.slice xa x.ag.length xc) (.slice xx x.ak.length xd)) (by simp[Act.eval,Act.put]) (by simp[Act.eval,Act.put]) (by rfl) aC 35 H4.O (by simp) lV (by simp[Value.oneCell']) (aZ x (.slice xa x.ag.length xc) (.slice xx x.ak.length xd)) (by rfl) ?_
                   intro W5 hg5 xA;have M5:=Qh (M4.O.new hg5 Dn Sb HT.O HO.O))
      go_wp2;go_ret2;rw[←Jb.O,←Hr.O,dJ];exact⟨_,I,rfl,M5.O.mt.dE,Ext.refl _ _,M5.O.mt.ok0,bf.nil _ _⟩
     |true=>
      rw[if_neg (by simp)]at Hr;have hex:=U5.O rfl;have AZ:=Qh hex;clear hex U5
      go_wp2_with (first
                   |(refine nO rfl rfl 35 _ _ rfl W3.heap.size 0 (aZ x (.slice xa x.ag.length xc) (.slice xx x.ak.length xd)).toList (fB x (.slice xa x.ag.length xc) (.slice xx x.ak.length xd)) (by simp[Act.eval,Act.put]) (by simp[Act.eval,Act.put]) (by rfl) aC 35 H4.O (by simp) lV (by simp[Value.oneCell']) (aZ x (.slice xa x.ag.length xc) (.slice xx x.ak.length xd)) (by rfl) ?_
                     intro W5 hg5 xA;have M5:=Qh (M4.O.new hg5 Dn Sb HT.O HO.O);have R5:=Qh xA)
                   |(refine wpList_load_row rfl 35 _ rfl W3.heap.size rfl 35 _ (0,0) _ R5.O Tryz.underlying35 rfl lV ?_)
                   |(at_builtin
                     refine Xd2 (w0:=W5) Xv9 rfl _ _ rfl (w1.heap.size+1+1) _ _ rfl M5.O.gt.own x (dB x (.slice xa x.ag.length xc) (.slice xx x.ak.length xd)) _ (by first|rfl|simp[Act.eval]) ⟨_,_,rfl,HA.O,HX.O⟩ (by rw[ZP.O];omega) (by rw[ZP.O];omega) (by have:=M5.O.sz;omega) ?_;intro v6 W6 ho6 tC hl6;have M6:=Qh (M5.O.aI ho6 tC hl6);have R6:=Qh (iL R5.O tC (fun q=>HT.O q));obtain⟨y0,y1,y2,y3,y4,y5,y6⟩:=ent_row R6.O)
                   |(at_builtin
                     refine Xd2 (w0:=W6) Xwh rfl _ _ rfl (w1.heap.size+1+1) _ _ rfl M6.O.go.own (vY x ct) [.int .i64 x.ai,S x.af,.slice xa x.ag.length xc,S x.target,S ct] _ (by first|rfl|simp[Act.eval]) ⟨_,rfl,HA.O⟩ (by rw[ZQ.O];omega) (by rw[ZQ.O];omega) (by have:=M6.O.sz;omega) ?_;intro v7 W7 ho7 j5 Ui;have M7:=Qh (M6.O.O ho7 j5 Ui)))
      go_roundw;case rel=>exact⟨k+1,a4,t++[x],o++[vY x ct],J3,by omega,by go_num,M7.O,FZ.1,fun y hy=>(by
       rcases List.mem_append.1 hy with hy|hy
       ·exact Me.O y hy
       ·rw[List.mem_singleton.1 hy];exact AZ.O),by rw[List.length_append,ZP.O];rfl,by rw[List.length_append,ZQ.O];rfl,Hr.O⟩
      case measure=>simp[intOf];omega
    ·have nK:m-k=0:=by omega
     rw[nK,xy]at Hr;have Vv:=Qh (show Cs s (t,o,a2)=R by rw[←Jb.O,←Hr.O,aR]);obtain⟨ta,tc,rfl⟩:=M.O.gt.own.shape;obtain⟨oa,oc,rfl⟩:=M.O.go.own.shape;clear Hr nK;have c1:=cell0 M.O.nx.a0;have c3:=cell0 M.O.nx.s0;by_cases jf:a2=s.length
     ·have k1:((a2:Int) !=(s.length:Int))=false:=by rw[jf];simp
      have Ni:=Qh (show(if kK t≠0 then Except.error (kK t)else Except.ok o)=R by rw[←Vv.O];unfold Cs;dsimp only;rw[if_neg (c:=a2≠s.length) (by omega)]);clear Vv jf;obtain⟨J2,wI,fM,aQ,fT,Du⟩:=M.O.gt.own.xC M.O.mt.ok M.O.gt.apart;obtain⟨J3,tL,rO,bN,gM,_⟩:=(M.O.go.own.mono wI).xC aQ (fun g hg=>(Du g (fun q=>M.O.sp g q hg)).trans (M.O.go.apart g hg));have kg:=Qh (fun w hw=>Xwb J2 _ t fT (hI.mono fun b c h=>wI b c (M.O.mt.keep b c h)) (Xnk Me.O).1 (Xnk Me.O).2 w hw);have HO3:=Qh gM;have HK:=Qh aQ;have HK3:=Qh bN;have Kb:=M.O.lo;have HX3:=Qh (show Ext w.heap.size I J3 from M.O.ex.trans ((fM.trans rO (Qn _)).mono (by omega)) (Qn _));have HB:=Qh M.O.mt.dE;clear wI fM aQ fT Du tL rO bN gM Kb;go_wp2_with fail
      refine(kg.O _ HK.O).mono ?_;rintro e W8 ⟨rfl,oN⟩;have HB8:=Qh (HB.O.trans (oN.mono HB.O.size));have HK8:=Qh (HK3.O.below (Qn _) oN);clear oN HB HK3 c1 c3;obtain⟨cz,SI⟩:∃cz,kK t=cz:=⟨_,rfl⟩;rw[SI]at Ni ⊢;clear SI;by_cases hz:cz=0
      ·subst hz;rw[if_neg (by simp)]at Ni;go_wp2;go_ret2;rw[←Ni.O];exact⟨_,J3,rfl,HB8.O,HX3.O,HK8.O,HO3.O⟩
      ·have k2:(cz !=0)=true:=by simpa using hz
       rw[if_pos hz]at Ni;clear hz;go_wp2;go_ret2;rw[←Ni.O];exact⟨_,J3,rfl,HB8.O,HX3.O,HK8.O,bf.nil _ _⟩
     ·have k1:((a2:Int) !=(s.length:Int))=true:=by
       have:(a2:Int)≠(s.length:Int):=by omega
       simpa using this
      have Ni:=Qh (show Except.error 3=R by rw[←Vv.O];unfold Cs;dsimp only;rw[if_pos (c:=a2≠s.length) (by omega)]);clear Vv jf;go_wp2;go_ret2;rw[←Ni.O];exact⟨_,I,rfl,M.O.mt.dE,Ext.refl _ _,M.O.mt.ok0,bf.nil _ _⟩
abbrev faL(E:Value)(g:Nat)(c:ae)(z k:Int)(bk:Bool)(x:Unit):List (Option Tmp×Value):=
 [(some 69,E),(some 70,.int .i64 z),(some 71,.bool false),(some 72,.bool false),(some 73,undef),(some 74,undef),(some 75,undef),(some 76,undef),(some 77,undef),(some 78,undef),(some 79,undef),(some 80,undef),(some 81,undef),(some 82,undef),(some 83,undef),(some 84,undef),(some 85,undef),(some 86,.bool false),(none,undef),(some 5,.bool false)]
abbrev fbL(E:Value)(g:Nat)(c:ae)(z k:Int)(bk:Bool)(x:Unit):List (Option Tmp×Value):=
 [(some 69,E),(some 70,.int .i64 z),(some 71,.bool true),(some 72,.bool true),(some 73,.pointer (some ⟨g,0,none⟩)),(some 74,.int .i64 k),(some 75,.bool true),(some 76,.bool true),(some 77,undef),(some 78,undef),(some 79,undef),(some 80,.bool true),(some 81,.bool true),(some 82,undef),(some 83,undef),(some 84,undef),(some 85,.bool true),(some 86,.bool true),(none,undef),(some 5,.bool true)]
abbrev fcL(E:Value)(g:Nat)(c:ae)(z k:Int)(bk:Bool)(x:Unit):List (Option Tmp×Value):=
 [(some 69,E),(some 70,.int .i64 z),(some 71,.bool true),(some 72,.bool true),(some 73,.pointer (some ⟨g,0,none⟩)),(some 74,.int .i64 k),(some 75,.bool false),(some 76,.bool false),(some 77,.pointer (some ⟨g,0,none⟩)),(some 78,.int .i64 k),(some 79,.bool true),(some 80,.bool true),(some 81,.bool true),(some 82,undef),(some 83,undef),(some 84,undef),(some 85,.bool true),(some 86,.bool true),(none,undef),(some 5,.bool true)]
abbrev fdL(E:Value)(g:Nat)(c:ae)(z k:Int)(bk:Bool)(x:Unit):List (Option Tmp×Value):=
 [(some 69,E),(some 70,.int .i64 z),(some 71,.bool true),(some 72,.bool true),(some 73,.pointer (some ⟨g,0,none⟩)),(some 74,.int .i64 k),(some 75,.bool false),(some 76,.bool false),(some 77,.pointer (some ⟨g,0,none⟩)),(some 78,.int .i64 k),(some 79,.bool false),(some 80,.bool false),(some 81,.bool false),(some 82,.pointer (some ⟨g,0,none⟩)),(some 83,.int .i64 k),(some 84,.bool bk),(some 85,.bool bk),(some 86,.bool bk),(none,undef),(some 5,.bool bk)]
def aoN(r:Rd aG):aG×Bool:=match r with| .ok p=>(p.1,p.1.ai==1 || p.1.ai==2 || p.1.ai==3)| .error _=>(zE,false)
def aoO(h c:ae):ae:=if nA h=true then nP 1 h c else oC h

structure ImR (I:IH) (w:World) (N:Nat) (J:IH) (t:List aG) (o:List tF) (vt vo:Value) (W:World):Prop where
 mt:lY I w J W
 ex:Ext w.heap.size I J
 lo:w.heap.size≤N
 sz:N≤W.heap.size
 gt:vJ bG 35 N J W vt t
 go:vJ yX 49 N J W vo o
 sp:Sep vt vo
section
variable {I J J':IH} {w W W':World} {N:Nat} {t t':List aG} {o o':List tF} {vt vo Al Rp:Value}
end
def Aw:aG:=⟨2,[97],[],[],0,[],[]⟩
def EZ:bR:=⟨1,0,[],[Aw],[],[]⟩
def U6:ae:=[49,32,49,53,58,51,58,100,105,114,44,49,58,97,44,48,32,48,58,44,44,48,58,44]
theorem ZR:Cw [EZ] 0=(U6,0):=by decide+kernel
theorem Xui:jB [EZ] 0=[Aw]:=by decide+kernel
theorem Xzc:Ac gU U6= .ok [⟨2,[97],[],[],[]⟩]:=by
 have h:=Xvs (st:=aK [EZ]) (t:=jB [EZ] 0) (Xrr _) (by rw[Xui];decide) (by have:=ZR;unfold Cw at this;rw[this]);have e:(Ir (aK [EZ]) (jB [EZ] 0)).1=U6:=by have:=ZR;unfold Cw at this;rw[this]
 rw[e,Xui]at h;rw[h];rfl
theorem Xzb:∀x∈[EZ],jA x:=fun x hx=>by
 rw[List.mem_singleton.1 hx];refine⟨by decide,by decide,by decide,by decide,?_,?_,?_,?_,by decide,by decide⟩
 all_goals
  intro e he;rw[List.mem_singleton.1 (show e∈[Aw]from he)]
 ·exact⟨by decide,by decide,by decide,fun x hx=>(by cases hx),by decide,by decide,by decide,by decide,fun x hx=>(by cases hx)⟩
 all_goals decide
theorem U7(I:IH)(hI:dQ I)(w:World)(hw:Ok I w):
 Calls Tryz.prog 7 #[] w fun e w'=>e= .returned (.bool true)∧Below w.heap.size w w':=by
 have A0:=(lY.start hw).past (.cells (dB Aw (.slice none 0 0) (.slice none 0 0)).toArray 35);obtain⟨K,hk,_,gG,Vo,hrE⟩:=one_row (T:=bG) (x:=Aw) (cs:=dB Aw (.slice none 0 0) (.slice none 0 0)) A0.ok (heap_alloc_new w _) (hw.fresh (Qn _)) ⟨_,_,rfl,bf.nil _ _,bf.nil _ _⟩;have A1:lY I w K _:=⟨gG,hk,A0.dE⟩;have A2:=A1.past (.cells (EC EZ (.slice (some ⟨w.heap.size,0,none⟩) 1 1)).toArray 62);obtain⟨J,hj,_,vH,_,ZT⟩:=one_row (T:=lL) (x:=EZ) (cs:=EC EZ (.slice (some ⟨w.heap.size,0,none⟩) 1 1)) A2.ok (heap_alloc_new _ _) (gG.fresh (Qn _)) ⟨_,rfl,hrE⟩;have A3:=Qh (show lY I w J _ from⟨vH,fun b c h=>hj b c (hk b c h),A2.dE⟩);rw[show(w.alloc (.cells (dB Aw (.slice none 0 0) (.slice none 0 0)).toArray 35)).heap.size=w.heap.size+1 by simp]at ZT;have yC:=Qh (fun w hw=>Xxq J (hI.mono fun b c h=>hj b c (hk b c h)) _ [EZ] ZT Xzb (by decide) 0 w hw);rw[ZR]at yC;have Him:=Qh (fun w hw=>Xtn J (hI.mono fun b c h=>hj b c (hk b c h)) U6 (by decide) w hw);rw[Xzc]at Him;clear A0 A1 A2 hk gG Vo hrE hj vH ZT;go_enter Tryz.func7,Tryz.ntmps7
 go_wp2_with fail
 refine(yC.O _ A3.O.ok).mono ?_;rintro e w1 ⟨rfl,au⟩;have A4:=Qh (A3.O.quiet au);clear au A3;go_wp2_with fail
 refine(Him.O _ A4.O.ok).mono ?_;rintro e w2 ⟨v2,J2,rfl,aF,fM,aQ,fT⟩;have fT:bf yX J2 v2 [⟨2,[97],[],[],[]⟩]:=fT;obtain⟨x,va,b,off,cap,bH,dn,⟨c0,c1,c2,c3,c4⟩,h1⟩:=Xzl fT aQ 0 (by decide);have hx:x=⟨2,[97],[],[],[]⟩:=bH.symm;subst hx;cases dn;have A5:=Qh (A4.O.dE.trans (aF.mono A4.O.dE.size));clear fT aF fM aQ bH h1 A4;go_wp2;go_ret;exact⟨rfl,A5.O⟩
