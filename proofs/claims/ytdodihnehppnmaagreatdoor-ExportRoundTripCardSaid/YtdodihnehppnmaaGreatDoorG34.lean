/- Lemmas for the claim's theorem;conditions: as each says. -/
import Derived.Test.YtdodihnehppnmaaGreatDoorG24
import Derived.Test.YtdodihnehppnmaaGreatDoorG33
set_option maxHeartbeats 0
set_option maxRecDepth 100000
set_option linter.all false
namespace Go.Proofs.YtdodihnehppnmaaGreatDoor
open Go.RowKit
theorem Xxc:(Tryz.prog.info? 26).map (fun i=>(i.zero,i.size,i.bytes))=some (some (.agg aC),7,112):=by kernel_rfl
theorem Xxd:fq Tryz.prog 33 26 bC 112:=fq.of Tryz.underlying33 Xxc rfl (by decide) rfl
theorem Xxp:(Tryz.prog.info? 65).map (fun i=>(i.zero,i.size,i.bytes))=some (some (.agg #[.int .i64 0,.string ⟨#[]⟩,.slice none 0 0,.string ⟨#[]⟩,.string ⟨#[]⟩]),5,80):=by kernel_rfl
theorem Xxq:fq Tryz.prog 39 65 xg 80:=fq.of Tryz.underlying39 Xxp rfl (by decide) rfl
def Q4(r:Except Int (List tC)):List tC×Int:=match r with| .ok o=>(o,0)| .error z=>([],z)
theorem Xo3{h c:ae}(hc:c.length≤100000000)(hb:(fZ h c).2=true):az (fZ h c).1=0:=((Xza h c hc).2 hb).ex
theorem Y0{t:List ay}(h:∀x∈t,az x=0):OT t∧pJ t:=by
 refine⟨fun x hx=>(CS (h x hx)).wf,fun x hx=> ?_⟩;have hc:=CS (h x hx);have h1:=hc.af;have h2:=hc.target;omega
structure sK (I:IH) (w:World) (bs ba be:Nat) (s:ae) (J:IH) (a:Nat) (z:Int) (t:List ay) (o:List tC) (vt vo:Value) (W:World):Prop where
 mt:lT I w J W
 ex:Ext w.heap.size I J
 nx:FI W bs ba be s a z
 fr:∀g,w.heap.size≤g→g<be+1→J g=none
 ds:bs≠ba∧bs≠be∧ba≠be
 lo:w.heap.size≤bs∧bs<be+1∧w.heap.size≤ba∧ba<be+1∧w.heap.size≤be
 sz:be<W.heap.size
 gt:vE bC 26 (be+1) J W vt t
 go:vE xg 65 (be+1) J W vo o
 sp:Sep vt vo
section
variable {I J J':IH} {w W W':World} {bs ba be:Nat} {s:ae} {a b:Nat} {z y:Int} {t t':List ay} {o o':List tC} {vt vo Aa QU:Value}
theorem sK.aA(h:sK I w bs ba be s J a z t o vt vo W)(hb:Below W.heap.size W W'):sK I w bs ba be s J a z t o vt vo W':=
 ⟨h.mt.quiet hb,h.ex,h.nx.aA hb,h.fr,h.ds,h.lo,Nat.lt_of_lt_of_le h.sz hb.size,h.gt.below hb,h.go.below hb,h.sp⟩
theorem sK.past(h:sK I w bs ba be s J a z t o vt vo W)(x:Obj):sK I w bs ba be s J a z t o vt vo (W.alloc x):=h.aA ((Qb _ _).alloc (Qn _) x)
theorem sK.ext(h:sK I w bs ba be s J a z t o vt vo W)(hb:Below W.heap.size W W')(hx:Ext W.heap.size J J')(gK:Ok J' W'):sK I w bs ba be s J' a z t o vt vo W':=
 ⟨h.mt.ext hb hx gK,h.ex.trans (hx.mono (by have:=h.sz;have:=h.lo;omega)) (Qn _),h.nx.aA hb,fun g h1 h2=>by rw[hx g (by have:=h.sz;omega)];exact h.fr g h1 h2,h.ds,h.lo,Nat.lt_of_lt_of_le h.sz hb.size,h.gt.ext hb h.mt.ok hx,h.go.ext hb h.mt.ok hx,h.sp⟩
theorem sK.low{g:Nat}(h:sK I w bs ba be s J a z t o vt vo W)(hg:W.grownBy W' (some g))(h1:w.heap.size≤g)(h2:g<be+1):
 lT I w J W'∧be<W'.heap.size∧vE bC 26 (be+1) J W' vt t∧vE xg 65 (be+1) J W' vo o:=
 ⟨⟨h.mt.ok.grown hg (fun k q=>by injection q with q;subst q;exact h.fr _ h1 h2),h.mt.keep,h.mt.fA.grown hg h.mt.size (fun k q=>by injection q with q;omega)⟩,Nat.lt_of_lt_of_le h.sz hg.size,h.gt.low hg h2,h.go.low hg h2⟩
theorem sK.read(h:sK I w bs ba be s J a z t o vt vo W)(hn:FI W' bs ba be s b y)(h2:Two W W' ba be):sK I w bs ba be s J b y t o vt vo W':=by
 obtain⟨wb,hg1,hg2⟩:=h2;have l:=h.lo;obtain⟨m1,s1,t1,o1⟩:=h.low hg1 l.2.2.1 l.2.2.2.1;refine⟨⟨m1.ok.grown hg2 (fun k q=>by injection q with q;subst q;exact h.fr _ l.2.2.2.2 (by omega)),m1.keep,m1.fA.grown hg2 m1.size (fun k q=>by injection q with q;omega)⟩,h.ex,hn,h.fr,h.ds,l,Nat.lt_of_lt_of_le s1 hg2.size,t1.low hg2 (by omega),o1.low hg2 (by omega),h.sp⟩
theorem sK.new{g:Nat}(h:sK I w bs ba be s J a z t o vt vo W)(hg:W.grownBy W' (some g))(hJ:J g=none)(xu:be<g)(h1:vt.ownBlock≠some g)(h2:vo.ownBlock≠some g):sK I w bs ba be s J a z t o vt vo W':=by
 have l:=h.lo
 exact⟨⟨h.mt.ok.grown hg (fun k q=>by injection q with q;subst q;exact hJ),h.mt.keep,h.mt.fA.grown hg h.mt.size (fun k q=>by injection q with q;omega)⟩,h.ex,h.nx.own hg (fun k q=>by injection q with q;subst q;omega),h.fr,h.ds,l,Nat.lt_of_lt_of_le h.sz hg.size,
  h.gt.kept hg (fun k q=>by injection q with q;subst q;exact h1),h.go.kept hg (fun k q=>by injection q with q;subst q;exact h2),h.sp⟩
theorem sK.aJ(h:sK I w bs ba be s J a z t o vt vo W)(ho:aM bC 26 J W' (be+1) Aa t')(hg:W.grownBy W' vt.ownBlock)(hl:∀g,Aa.ownBlock=some g→vt.ownBlock=some g∨W.heap.size≤g):sK I w bs ba be s J a z t' o Aa vo W':=by
 have l:=h.lo;have ME:∀g,vt.ownBlock=some g→be+1≤g:=fun g hk=>(YB h.gt.own hk).1
 exact⟨⟨h.mt.ok.grown hg h.gt.apart,h.mt.keep,h.mt.fA.grown hg h.mt.size (fun g hk=>by have:=ME g hk;omega)⟩,h.ex,h.nx.own hg (fun g hk=>by have:=ME g hk;omega),h.fr,h.ds,l,Nat.lt_of_lt_of_le h.sz hg.size,
  h.gt.added h.mt.ok ho hl,h.go.kept hg (fun g hk=>h.sp g hk),h.sp.new h.go.own hl⟩
theorem sK.O(h:sK I w bs ba be s J a z t o vt vo W)(ho:aM xg 65 J W' (be+1) QU o')(hg:W.grownBy W' vo.ownBlock)(hl:∀g,QU.ownBlock=some g→vo.ownBlock=some g∨W.heap.size≤g):sK I w bs ba be s J a z t o' vt QU W':=by
 have l:=h.lo;have ME:∀g,vo.ownBlock=some g→be+1≤g:=fun g hk=>(YB h.go.own hk).1
 exact⟨⟨h.mt.ok.grown hg h.go.apart,h.mt.keep,h.mt.fA.grown hg h.mt.size (fun g hk=>by have:=ME g hk;omega)⟩,h.ex,h.nx.own hg (fun g hk=>by have:=ME g hk;omega),h.fr,h.ds,l,Nat.lt_of_lt_of_le h.sz hg.size,
  h.gt.kept hg (fun g hk=>h.sp.symm g hk),h.go.added h.mt.ok ho hl,(h.sp.symm.new h.gt.own hl).symm⟩
end
theorem Y1{I:IH}{w:World}{s:ae}{w1 w2 w3:World}{a:Nat}{z:Int}(hw:Ok I w)(au:Below (w.alloc (.cells #[S s] 9)).heap.size (w.alloc (.cells #[S s] 9)) w1)
 (hg2:((w1.alloc (.cells #[.int .i64 0] 3)).alloc (.cells #[.int .i64 0] 30)).grownBy w2 (some w1.heap.size)) (fQ:w2.heap[w1.heap.size]?=some (.cells #[.int .i64 (a:Int)] 3 (0,0)))
 (uJ:w2.grownBy w3 (some (w1.heap.size+1))) (gB:w3.heap[w1.heap.size+1]?=some (.cells #[.int .i64 z] 30 (0,0))):
 sK I w w.heap.size w1.heap.size (w1.heap.size+1) s I a z [] [] (.slice none 0 0) (.slice none 0 0) w3:=by
 have eU:=au.size;rw[World.size_alloc]at eU;have s2:=hg2.size;have s3:=uJ.size;simp only[World.size_alloc]at s2;have hS:((w1.alloc (.cells #[.int .i64 0] 3)).alloc (.cells #[.int .i64 0] 30)).heap[w.heap.size]?=some (.cells #[S s] 9 (0,0)):=by
  rw[Below.heap_alloc _ _ _ (by simp;omega),Below.heap_alloc _ _ _ (by omega)];exact mV (heap_alloc_new w _) au
 have hM1:=((lT.start hw).past (.cells #[S s] 9)).quiet au;have hM:lT I w I ((w1.alloc (.cells #[.int .i64 0] 3)).alloc (.cells #[.int .i64 0] 30)):=(hM1.past _).past _;have m2:=hM.ok.grown hg2 (fun k q=>by injection q with q;subst q;exact hw.fresh (by omega))
 refine⟨⟨m2.grown uJ (fun k q=>by injection q with q;subst q;exact hw.fresh (by omega)),fun _ _ h=>h,(hM.fA.grown hg2 hM.size (fun k q=>by injection q with q;omega)).grown uJ (by omega) (fun k q=>by injection q with q;omega)⟩,Ext.refl _ _,
  ⟨jC (jC hS hg2 (fun q=>by injection q with q;omega)) uJ (fun q=>by injection q with q;omega),jC fQ uJ (fun q=>by injection q with q;omega),gB⟩,fun g h1 _=>hw.fresh h1,by omega,by omega,by omega,
  ⟨aM.nil _ _ _ _ _,fun g hg=>(by cases hg)⟩,⟨aM.nil _ _ _ _ _,fun g hg=>(by cases hg)⟩,fun g hg=>(by cases hg)⟩
theorem Xnb(I:IH)(hI:dG I)(s:ae)(hs:s.length≤100000000)(w:World)(hw:Ok I w):
 Calls Tryz.prog 19 #[S s] w (uT xg I w (Q4 (yH fZ s)).1 (Q4 (yH fZ s)).2):=by
 have NZ:=Qh (fun w hw=>Wy I hI s (by omega) 0 (by omega) w hw);obtain⟨R,hR⟩:∃R,yH fZ s=R:=⟨_,rfl⟩;rw[hR];unfold yH at hR;have EL:(Tryz.prog.info? 30).map (·.size)=some 1:=by kernel_rfl
 have lI:(Tryz.prog.info? 26).map (·.size)=some 7:=by kernel_rfl
 have z0:(w.alloc (.cells #[S s] 9)).cell? ⟨w.heap.size,0,none⟩=some (S s):=by rw[World.cell?_alloc_new];rfl
 cases h1:rdNum s 0 with
 |error z=>
  have hz:=DC h1;rw[h1,dK]at hR;have HR:=Qh hR;rw[h1,X0f]at NZ;clear hR h1;go_enter Tryz.func19,Tryz.ntmps19
  go_wp2_with fail
  refine(NZ.O _ (hw.alloc _)).mono ?_;rintro e w1 ⟨rfl,au⟩;have oD:=au.size;rw[World.size_alloc]at oD;have A1:=Qh (show((w1.alloc (.cells #[.int .i64 0] 3)).alloc (.cells #[.int .i64 0] 30)).heap[w1.heap.size]?=some (.cells #[.int .i64 0] 3 (0,0)) by rw[Below.heap_alloc _ _ _ (by simp),heap_alloc_new]);have A2:=Qh (show((w1.alloc (.cells #[.int .i64 0] 3)).alloc (.cells #[.int .i64 0] 30)).heap[w1.heap.size+1]?=some (.cells #[.int .i64 0] 30 (0,0)) by
   have:=heap_alloc_new (w1.alloc (.cells #[.int .i64 0] 3)) (.cells #[.int .i64 0] 30);rwa[World.size_alloc]at this)
  have Dc:=Qh au;clear au
  go_wp2_with (first
               |(refine rz rfl rfl 3 _ _ rfl w1.heap.size 0 [.int .i64 (0:Int)] (.int .i64 (0:Int)) (by simp[Act.eval]) (by simp[Act.eval]) (by rfl) _ 3 A1.O (by simp) Fu (by simp[Value.oneCell']) #[.int .i64 (0:Int)] (by rfl) ?_
                 intro w2 hg2 fQ;have E2:=Qh (jC A2.O hg2 (fun q=>by injection q with q;omega)))
               |(refine rz rfl rfl 30 _ _ rfl (w1.heap.size+1) 0 [.int .i64 z] (.int .i64 z) (by simp[Act.eval]) (by simp[Act.eval]) (by rfl) _ 30 E2.O (by simp) EL (by simp[Value.oneCell']) #[.int .i64 z] (by rfl) ?_
                 intro w3 uJ gB;have M3:=Qh (Y1 (a:=0) (z:=z) hw Dc.O hg2 fQ uJ gB);have x2:=cell0 M3.O.nx.e0))
  have g2:=cell_regrown x2;refine wp_region_quiet_below (by kernel_rfl) (by kernel_rfl) ?_;repeat(go_big_quiet_step ((fail)))
  refine wpQuiet_nil ?_;intro w4 bg;have aL:Below (w3).heap.size (w3) w4:=by
   obtain⟨pq,rfl⟩:=bg;exact below_regrown _ _ _
  clear bg;go_wp2;go_ret2;rw[←HR.O];exact⟨_,I,rfl,M3.O.mt.fA.trans (aL.mono M3.O.mt.size),Ext.refl _ _,M3.O.mt.ok.below (Qn _) aL,bf.nil _ _⟩
 |ok p=>
  obtain⟨n,a⟩:=p;have cK:=Gn h1;rw[h1,aR]at hR;have HR:=Qh hR;rw[h1,X0g]at NZ;clear hR h1;by_cases hn:n<0∨5000<n
  ·have Ih:=Qh (show Except.error 2=R by rw[←HR.O,GK,if_pos hn]);have jI:decide (n<0)=true∨(decide (n<0)=false∧decide (5000<n)=true):=by
    by_cases h0:n<0
    ·exact .inl (Qt h0)
    ·exact .inr ⟨Qf h0,Qt (by omega)⟩
   clear hn;rcases jI with d1|⟨d1,d2⟩
   all_goals
    go_enter Tryz.func19,Tryz.ntmps19
    go_wp2_with fail
    refine(NZ.O _ (hw.alloc _)).mono ?_;rintro e w1 ⟨rfl,au⟩;have oD:=au.size;rw[World.size_alloc]at oD;have A1:=Qh (show((w1.alloc (.cells #[.int .i64 0] 3)).alloc (.cells #[.int .i64 0] 30)).heap[w1.heap.size]?=some (.cells #[.int .i64 0] 3 (0,0)) by rw[Below.heap_alloc _ _ _ (by simp),heap_alloc_new]);have A2:=Qh (show((w1.alloc (.cells #[.int .i64 0] 3)).alloc (.cells #[.int .i64 0] 30)).heap[w1.heap.size+1]?=some (.cells #[.int .i64 0] 30 (0,0)) by
     have:=heap_alloc_new (w1.alloc (.cells #[.int .i64 0] 3)) (.cells #[.int .i64 0] 30);rwa[World.size_alloc]at this)
    have Dc:=Qh au;clear au
    go_wp2_with (first
                 |(refine rz rfl rfl 3 _ _ rfl w1.heap.size 0 [.int .i64 (a:Int)] (.int .i64 (a:Int)) (by simp[Act.eval]) (by simp[Act.eval]) (by rfl) _ 3 A1.O (by simp) Fu (by simp[Value.oneCell']) #[.int .i64 (a:Int)] (by rfl) ?_
                   intro w2 hg2 fQ;have E2:=Qh (jC A2.O hg2 (fun q=>by injection q with q;omega)))
                 |(refine rz rfl rfl 30 _ _ rfl (w1.heap.size+1) 0 [.int .i64 0] (.int .i64 0) (by simp[Act.eval]) (by simp[Act.eval]) (by rfl) _ 30 E2.O (by simp) EL (by simp[Value.oneCell']) #[.int .i64 0] (by rfl) ?_
                   intro w3 uJ gB;have M3:=Qh (Y1 (a:=a) (z:=0) hw Dc.O hg2 fQ uJ gB);have x2:=cell0 M3.O.nx.e0))
    go_ret2;rw[←Ih.O];exact⟨_,I,rfl,M3.O.mt.fA,Ext.refl _ _,M3.O.mt.ok,bf.nil _ _⟩
  ·have d1:decide (n<0)=false:=Qf (by omega);have d2:decide (5000<n)=false:=Qf (by omega);obtain⟨m,rfl⟩:∃m:Nat,n=(m:Int):=⟨n.toNat,by omega⟩;have hm:m≤5000:=by omega
   obtain⟨G,hG⟩:∃G,wY fZ s m a [] []=G:=⟨_,rfl⟩;have HG:=Qh hG;have Ih:=Qh (show Rb G (BR s)=R by rw[←HR.O,GK,if_neg hn,Int.toNat_natCast,hG]);clear hn hG HR;go_enter Tryz.func19,Tryz.ntmps19
   go_wp2_with fail
   refine(NZ.O _ (hw.alloc _)).mono ?_;rintro e w1 ⟨rfl,au⟩;have oD:=au.size;rw[World.size_alloc]at oD;have A1:=Qh (show((w1.alloc (.cells #[.int .i64 0] 3)).alloc (.cells #[.int .i64 0] 30)).heap[w1.heap.size]?=some (.cells #[.int .i64 0] 3 (0,0)) by rw[Below.heap_alloc _ _ _ (by simp),heap_alloc_new]);have A2:=Qh (show((w1.alloc (.cells #[.int .i64 0] 3)).alloc (.cells #[.int .i64 0] 30)).heap[w1.heap.size+1]?=some (.cells #[.int .i64 0] 30 (0,0)) by
    have:=heap_alloc_new (w1.alloc (.cells #[.int .i64 0] 3)) (.cells #[.int .i64 0] 30);rwa[World.size_alloc]at this)
   have Dc:=Qh au;clear au
   go_wp2_with (first
                |(refine rz rfl rfl 3 _ _ rfl w1.heap.size 0 [.int .i64 (a:Int)] (.int .i64 (a:Int)) (by simp[Act.eval]) (by simp[Act.eval]) (by rfl) _ 3 A1.O (by simp) Fu (by simp[Value.oneCell']) #[.int .i64 (a:Int)] (by rfl) ?_
                  intro w2 hg2 fQ;have E2:=Qh (jC A2.O hg2 (fun q=>by injection q with q;omega)))
                |(refine rz rfl rfl 30 _ _ rfl (w1.heap.size+1) 0 [.int .i64 0] (.int .i64 0) (by simp[Act.eval]) (by simp[Act.eval]) (by rfl) _ 30 E2.O (by simp) EL (by simp[Value.oneCell']) #[.int .i64 0] (by rfl) ?_
                  intro w3 uJ gB;have M3:=Qh (Y1 (a:=a) (z:=0) hw Dc.O hg2 fQ uJ gB);have x2:=cell0 M3.O.nx.e0))
   clear A1 A2 E2 hg2 fQ uJ gB Dc x2 NZ z0;go_loopw [8,9,10,11,12,13,34] (fun s8 s9 _ _ _ _ s34 wr=> ∃(k a:Nat) (t:List ay) (o:List tC) (J:IH),k≤m∧s34= .int .i64 k∧sK I w w.heap.size w1.heap.size (w1.heap.size+1) s J a 0 t o s8 s9 wr∧a≤s.length∧(∀x∈t,az x=0)∧t.length=k∧o.length=k∧wY fZ s (m-k) a t o=G) (fun _ _ _ _ _ _ i _=>m-(intOf i).toNat)
   case atStart=>exact⟨0,a,[],[],I,Nat.zero_le _,rfl,M3.O,cK.2.1,fun x hx=>(by cases hx),rfl,rfl,HG.O⟩
   case round=>
    clear M3 HG;obtain⟨k,a2,t,o,J,hk,rfl,hM,uG,pV,o9,EG,hr⟩:=hrel;have M:=Qh hM;have Hr:=Qh hr;have Lu:=Qh pV;have Y2:=Qh o9;have Y3:=Qh EG;clear hM hr pV o9 EG;by_cases hlt:k<m
    ·rw[show m-k=m-(k+1)+1 by omega,wY]at Hr;have c0:=cell0 M.O.nx.e0;obtain⟨ta,tc,rfl⟩:=M.O.gt.own.shape;obtain⟨oa,oc,rfl⟩:=M.O.go.own.shape;go_wp2_with fail
     refine(YC J (hI.mono M.O.mt.keep) s (by omega) _ _ _ a2 0 _ M.O.mt.ok M.O.nx (by omega) M.O.ds).mono ?_;cases h1:rdStr s a2 with
     |error z=>
      have hz:=ze h1;have LV:z≠0:=by simpa using hz
      rw[h1,dK]at Hr;rw[zP];rintro e W1 ⟨rfl,vZ,uF⟩;have M1:=Qh (M.O.read vZ uF);clear M c0 vZ uF h1 LV;go_wp2_with fail
      refine(YC J (hI.mono M1.O.mt.keep) s (by omega) _ _ _ 0 z _ M1.O.mt.ok M1.O.nx (by omega) M1.O.ds).mono ?_;rw[zO _ _ _ (by simpa using hz)];rintro e W2 ⟨rfl,JP,yY⟩;have M2:=Qh (M1.O.read JP yY);clear M1 JP yY;have c2:=cell0 M2.O.nx.e0;have g2:=cell_regrown c2;go_wp2_with fail
      refine wp_region_quiet_below (by kernel_rfl) (by kernel_rfl) ?_;repeat(go_big_quiet_step ((fail)))
      refine wpQuiet_nil ?_;intro W3 bg;have bU:Below (W2).heap.size (W2) W3:=by
       obtain⟨pq,rfl⟩:=bg;exact below_regrown _ _ _
      clear bg;go_wp2;go_ret2;rw[←Ih.O,←Hr.O,dK];exact⟨_,I,rfl,M2.O.mt.fA.trans (bU.mono M2.O.mt.size),Ext.refl _ _,(M2.O.mt.ok0).below (Qn _) bU,bf.nil _ _⟩
     |ok p=>
     obtain⟨hh,a3⟩:=p;rw[h1,aR]at Hr;rw[TN];have CE:=(BB h1).2;rintro e W1 ⟨rfl,vZ,uF⟩;have M1:=Qh (M.O.read vZ uF);clear M c0 vZ uF h1;go_wp2_with fail
     refine(YC J (hI.mono M1.O.mt.keep) s (by omega) _ _ _ a3 0 _ M1.O.mt.ok M1.O.nx (by omega) M1.O.ds).mono ?_;cases h2:rdStr s a3 with
     |error z=>
      have hz:=ze h2;rw[h2,dK]at Hr;rw[zP];rintro e W2 ⟨rfl,JP,yY⟩;have M2:=Qh (M1.O.read JP yY);clear M1 JP yY h2;have c2:=cell0 M2.O.nx.e0;have g2:=cell_regrown c2;go_wp2_with fail
      refine wp_region_quiet_below (by kernel_rfl) (by kernel_rfl) ?_;repeat(go_big_quiet_step ((fail)))
      refine wpQuiet_nil ?_;intro W3 bg;have bU:Below (W2).heap.size (W2) W3:=by
       obtain⟨pq,rfl⟩:=bg;exact below_regrown _ _ _
      clear bg;go_wp2;go_ret2;rw[←Ih.O,←Hr.O,dK];exact⟨_,I,rfl,M2.O.mt.fA.trans (bU.mono M2.O.mt.size),Ext.refl _ _,(M2.O.mt.ok0).below (Qn _) bU,bf.nil _ _⟩
     |ok p=>
     obtain⟨ct,a4⟩:=p;rw[h2,aR]at Hr;rw[TN];have Fx:=(BB h2).2;rintro e W2 ⟨rfl,JP,yY⟩;have M2:=Qh (M1.O.read JP yY);clear M1 JP yY h2;have c2:=cell0 M2.O.nx.e0;try dsimp only at Hr
     have Ur:=Qh (Xo3 (h:=hh) (c:=ct) (by omega));have Lv:=Qh (Xrr J (hI.mono M2.O.mt.keep) hh ct (by omega) (by omega) W2 M2.O.mt.ok);generalize fZ hh ct=q at Hr Ur Lv;obtain⟨x,fl⟩:=q;dsimp only at Hr Ur;go_wp2_with fail
     refine Lv.O.mono ?_;rintro e W3 ⟨va,vx,J3,rfl,dV,dX,qW,bQ,bU⟩;dsimp only at dV dX;obtain⟨xa,xc,rfl,_,_,_⟩:=id dV;obtain⟨xx,xd,rfl,_,_,_⟩:=id dX;have M3:=Qh (M2.O.ext bU qW bQ);have M4:=Qh (M3.O.past (.cells aC 26));have AZ:=bQ.fresh (Qn _);have Q5:=M3.O.sz;have H4:=Qh (heap_alloc_new W3 (.cells aC 26));have uB:=M3.O.gt.own.nA (Qn _);have hvo:=M3.O.go.own.nA (Qn _);have HA:=Qh dV;have HX:=Qh dX;have HT:=Qh uB;have HO:=Qh hvo;clear dV dX qW bQ bU M2 M3 c2 Lv uB hvo;cases fl with
     |false=>
      rw[if_pos rfl]at Hr
      go_wp2_with (refine rz rfl rfl 26 _ _ rfl W3.heap.size 0 (aQ x (.slice xa x.ai.length xc) (.slice xx x.ak.length xd)).toList (eT x (.slice xa x.ai.length xc) (.slice xx x.ak.length xd)) (by simp[Act.eval,Act.put]) (by simp[Act.eval,Act.put]) (by rfl) aC 26 H4.O (by simp) lI (by simp[Value.oneCell']) (aQ x (.slice xa x.ai.length xc) (.slice xx x.ak.length xd)) (by rfl) ?_
                   intro W5 hg5 uP;have M5:=Qh (M4.O.new hg5 AZ Q5 HT.O HO.O))
      go_wp2;go_ret2;rw[←Ih.O,←Hr.O,dK];exact⟨_,I,rfl,M5.O.mt.fA,Ext.refl _ _,M5.O.mt.ok0,bf.nil _ _⟩
     |true=>
      rw[if_neg (by simp)]at Hr;have hex:=Ur.O rfl;have Ii:=Qh hex;clear hex Ur
      go_wp2_with (first
                   |(refine rz rfl rfl 26 _ _ rfl W3.heap.size 0 (aQ x (.slice xa x.ai.length xc) (.slice xx x.ak.length xd)).toList (eT x (.slice xa x.ai.length xc) (.slice xx x.ak.length xd)) (by simp[Act.eval,Act.put]) (by simp[Act.eval,Act.put]) (by rfl) aC 26 H4.O (by simp) lI (by simp[Value.oneCell']) (aQ x (.slice xa x.ai.length xc) (.slice xx x.ak.length xd)) (by rfl) ?_
                     intro W5 hg5 uP;have M5:=Qh (M4.O.new hg5 AZ Q5 HT.O HO.O);have R5:=Qh uP)
                   |(refine wpList_load_row rfl 26 _ rfl W3.heap.size rfl 26 _ (0,0) _ R5.O Tryz.underlying26 rfl lI ?_)
                   |(at_builtin
                     refine Xd6 (w0:=W5) Xxd rfl _ _ rfl (w1.heap.size+1+1) _ _ rfl M5.O.gt.own x (dB x (.slice xa x.ai.length xc) (.slice xx x.ak.length xd)) _ (by first|rfl|simp[Act.eval]) ⟨_,_,rfl,HA.O,HX.O⟩ (by rw[Y2.O];omega) (by rw[Y2.O];omega) (by have:=M5.O.sz;omega) ?_;intro v6 W6 ho6 xD hl6;have M6:=Qh (M5.O.aJ ho6 xD hl6);have R6:=Qh (jC R5.O xD (fun q=>HT.O q));obtain⟨y0,y1,y2,y3,y4,y5,y6⟩:=ent_row R6.O)
                   |(at_builtin
                     refine Xd6 (w0:=W6) Xxq rfl _ _ rfl (w1.heap.size+1+1) _ _ rfl M6.O.go.own (nW x ct) [.int .i64 x.ag,S x.af,.slice xa x.ai.length xc,S x.target,S ct] _ (by first|rfl|simp[Act.eval]) ⟨_,rfl,HA.O⟩ (by rw[Y3.O];omega) (by rw[Y3.O];omega) (by have:=M6.O.sz;omega) ?_;intro v7 W7 ho7 kI TI;have M7:=Qh (M6.O.O ho7 kI TI)))
      go_roundw;case rel=>exact⟨k+1,a4,t++[x],o++[nW x ct],J3,by omega,by go_num,M7.O,Fx.1,fun y hy=>(by
       rcases List.mem_append.1 hy with hy|hy
       ·exact Lu.O y hy
       ·rw[List.mem_singleton.1 hy];exact Ii.O),by rw[List.length_append,Y2.O];rfl,by rw[List.length_append,Y3.O];rfl,Hr.O⟩
      case measure=>simp[intOf];omega
    ·have nu:m-k=0:=by omega
     rw[nu,wY]at Hr;have U3:=Qh (show BR s (t,o,a2)=R by rw[←Ih.O,←Hr.O,aR]);obtain⟨ta,tc,rfl⟩:=M.O.gt.own.shape;obtain⟨oa,oc,rfl⟩:=M.O.go.own.shape;clear Hr nu;have c1:=cell0 M.O.nx.a0;have c3:=cell0 M.O.nx.s0;by_cases lF:a2=s.length
     ·have k1:((a2:Int) !=(s.length:Int))=false:=by rw[lF];simp
      have MF:=Qh (show(if kv t≠0 then Except.error (kv t)else Except.ok o)=R by rw[←U3.O];unfold BR;dsimp only;rw[if_neg (c:=a2≠s.length) (by omega)]);clear U3 lF;obtain⟨J2,sP,eZ,aP,fQ,xk⟩:=M.O.gt.own.Ba M.O.mt.ok M.O.gt.apart;obtain⟨J3,tL,qW,bQ,gB,_⟩:=(M.O.go.own.mono sP).Ba aP (fun g hg=>(xk g (fun q=>M.O.sp g q hg)).trans (M.O.go.apart g hg));have j6:=Qh (fun w hw=>Xxg J2 _ t fQ (hI.mono fun b c h=>sP b c (M.O.mt.keep b c h)) (Y0 Lu.O).1 (Y0 Lu.O).2 w hw);have HO3:=Qh gB;have HK:=Qh aP;have HK3:=Qh bQ;have ME:=M.O.lo;have HX3:=Qh (show Ext w.heap.size I J3 from M.O.ex.trans ((eZ.trans qW (Qn _)).mono (by omega)) (Qn _));have HB:=Qh M.O.mt.fA;clear sP eZ aP fQ xk tL qW bQ gB ME;go_wp2_with fail
      refine(j6.O _ HK.O).mono ?_;rintro e W8 ⟨rfl,qB⟩;have HB8:=Qh (HB.O.trans (qB.mono HB.O.size));have HK8:=Qh (HK3.O.below (Qn _) qB);clear qB HB HK3 c1 c3;obtain⟨cz,RV⟩:∃cz,kv t=cz:=⟨_,rfl⟩;rw[RV]at MF ⊢;clear RV;by_cases hz:cz=0
      ·subst hz;rw[if_neg (by simp)]at MF;go_wp2;go_ret2;rw[←MF.O];exact⟨_,J3,rfl,HB8.O,HX3.O,HK8.O,HO3.O⟩
      ·have k2:(cz !=0)=true:=by simpa using hz
       rw[if_pos hz]at MF;clear hz;go_wp2;go_ret2;rw[←MF.O];exact⟨_,J3,rfl,HB8.O,HX3.O,HK8.O,bf.nil _ _⟩
     ·have k1:((a2:Int) !=(s.length:Int))=true:=by
       have:(a2:Int)≠(s.length:Int):=by omega
       simpa using this
      have MF:=Qh (show Except.error 3=R by rw[←U3.O];unfold BR;dsimp only;rw[if_pos (c:=a2≠s.length) (by omega)]);clear U3 lF;go_wp2;go_ret2;rw[←MF.O];exact⟨_,I,rfl,M.O.mt.fA,Ext.refl _ _,M.O.mt.ok0,bf.nil _ _⟩
