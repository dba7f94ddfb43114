/- Lemmas for the claim's theorem;conditions: as each says. -/
import Derived.Test.YtdodihnehppnmaaGreatDoorG32
import Derived.Test.YtdodihnehppnmaaGreatDoorG29
set_option maxHeartbeats 0
set_option maxRecDepth 100000
set_option linter.all false
namespace Go.Proofs.YtdodihnehppnmaaGreatDoor
open Go.RowKit Go.Shelf
variable{st:List ae}{k:Nat}{x:ay}{t:List ay}{W W':World}{T:TypeId}{m:Nat}{N:ae×Int}
attribute [local go_sem] Oper.semAt_some
theorem YV{c:Array Value}{e:TypeId}{f:Nat×Nat}{row:Option Nat}(h:W.heap[k]?=some (.cells c e f))(hg:W.grownBy W' row)(hr:∀r,row=some r→ ∃o:Obj,W.heap[r]?=some o∧o.isCells=false):W'.heap[k]?=some (.cells c e f):=
 (hg.block k (Qg h) (fun e'=>YU h hr e'.symm)).trans h
theorem ng.turn{n:Nat}{J:IH}{row:Option Nat}(h:ng T n J W)(hg:W.grownBy W' row)(hr:∀r,row=some r→ ∃o:Obj,W.heap[r]?=some o∧o.isCells=false):ng T n J W':=⟨YV h.row hg hr,h.free⟩
def G5(T:TypeId)(m:Nat)(I:IH)(w:World)(s:kC)(W:World):Prop:=∃vt vh J,oN T (m+1) J W s vt vh∧ng T m J W∧Ext m I J∧Below m w W
theorem Xx0{B:Nat}{I:IH}{w:World}{β:Type}(f:β→kC)(hm:m≤w.heap.size)(hB:m≤B):OwnFrom B (fun b W=>G5 T m I w (f b) W):=by
 intro b W W' row ⟨vt,vh,J,h1,h2,h3,h4⟩ hg hr;exact⟨vt,vh,J,h1.turn hg fun r e=>(hr r e).2,h2.turn hg fun r e=>(hr r e).2,h3,Below.turn h4 hm hB hg hr⟩
structure Ul (T1 T2:TypeId) (m:Nat) (y:YP) (b:Nat) (W:World):Prop where
 lt:m<b
 s:W.heap[b]?=some (.cells (Ac y.s y.ve) T1 (0,0))
 e:W.heap[b+1]?=some (.cells (aQ y.e y.va y.vx) T2 (0,0))
theorem Ul.turn{T1 T2:TypeId}{b:Nat}{y:YP}{row:Option Nat}(h:Ul T1 T2 m y b W)(hg:W.grownBy W' row)(hr:∀r,row=some r→ ∃o:Obj,W.heap[r]?=some o∧o.isCells=false):Ul T1 T2 m y b W':=
 ⟨h.lt,YV h.s hg hr,YV h.e hg hr⟩
theorem Xw0(I:IH)(hI:dG I)(v:Value)(L:List dm)(hv:bf oK I v L)(hg:∀x∈L,kR x)(hL:L.length≤1000)(w:World)(hw:Ok I w):
 Calls Tryz.prog 66 #[v] w (QS I w (tY kZ L)):=by
 obtain⟨ao,cap,rfl,_,_,_⟩:=id hv;have Hv:=Qh hv;have Hg:=Qh hg;have HI:=Qh hI;have H0:=Qh (oN.new (T:=103) (hw.alloc (.cells #[.slice none 0 0,.slice none 0 0] 103)) rfl);have HR0:=Qh (show ng 103 w.heap.size I (w.alloc (.cells #[.slice none 0 0,.slice none 0 0] 103))from⟨heap_alloc_new w _,hw.fresh (Qn _)⟩);rw[World.size_alloc]at H0;have uq:Below w.heap.size w (w.alloc (.cells #[.slice none 0 0,.slice none 0 0] 103)):=(Qb _ _).alloc (Qn _) _;have wU:=uq.alloc uq.size (.cells #[.slice none 0 0,.slice none 0 0] 103);clear hv hg hI;refine(callsIn_wide (n:=3)).1 ?_;refine callsIn_of_wp_marks Tryz.func66 rfl trivial ?_ rfl;simp only[Tryz.ntmps66,List.size_toArray,List.length_cons,List.length_nil,Nat.reduceAdd,Nat.reduceSub,Array.replicate_succ,Array.replicate_zero,List.push_toArray,List.append_toArray,List.nil_append,List.cons_append];gi_wp2_with (refine⟨trivial,?_⟩;gi_at_call 113;refine(callsIn_wide.2 (Xrn _ _ ⟨_,_,_,rfl⟩)).mono ?_;rintro e w' ⟨rfl,rfl⟩)
 have tH:(((w.alloc (.cells #[.slice none 0 0,.slice none 0 0] 103)).alloc (.cells #[.slice none 0 0,.slice none 0 0] 103)).alloc (.cells #[.slice ao L.length cap] 22)).cell? ⟨w.heap.size+1+1,0,none⟩=some (.slice ao L.length cap):=
  (cell_of_row _ (w.heap.size+1+1) 0 _ _ _ (by have h:=heap_alloc_new ((w.alloc (.cells #[.slice none 0 0,.slice none 0 0] 103)).alloc (.cells #[.slice none 0 0,.slice none 0 0] 103)) (.cells #[.slice ao L.length cap] 22);simpa using h)).trans rfl
 have aP:Ok I (((w.alloc (.cells #[.slice none 0 0,.slice none 0 0] 103)).alloc (.cells #[.slice none 0 0,.slice none 0 0] 103)).alloc (.cells #[.slice ao L.length cap] 22)):=((hw.alloc _).alloc _).alloc _;have H2:=Qh (H0.O.past (.cells #[.slice ao L.length cap] 22));have Ih:=Qh ((HR0.O.past (.cells #[.slice none 0 0,.slice none 0 0] 103)).past (.cells #[.slice ao L.length cap] 22));have aD:=wU.alloc wU.size (.cells #[.slice ao L.length cap] 22);have eU:(((w.alloc (.cells #[.slice none 0 0,.slice none 0 0] 103)).alloc (.cells #[.slice none 0 0,.slice none 0 0] 103)).alloc (.cells #[.slice ao L.length cap] 22)).heap.size=w.heap.size+3:=by simp
 clear H0 HR0 uq wU;obtain⟨W0,hW0⟩:∃W0,(((w.alloc (.cells #[.slice none 0 0,.slice none 0 0] 103)).alloc (.cells #[.slice none 0 0,.slice none 0 0] 103)).alloc (.cells #[.slice ao L.length cap] 22))=W0:=⟨_,rfl⟩;rw[hW0]at tH aP H2 Ih aD eU ⊢;clear hW0
 refine wpIn_rangeFunc_ownH rfl (by decide) (gf:=173) (lb:=#[.pointer (some ⟨w.heap.size+1+1,0,none⟩)]) rfl trivial (enters_of Tryz.func173 (by kernel_rfl) rfl)
  (Xwy _ (by decide) I _ L Hv.O Hg.O hL (w.heap.size+1+1) w.heap.size W0 aP (fun b c h=>hw.lt h) (by omega) tH) qI.trans (qI.put (by omega)) (Qb _ _) (fun _=>rfl)
  (fun pre W=>G5 103 w.heap.size I w ((keys pre).foldl A9 kZ) W)
  (fun _ _ _=>False)
  (Xx0 _ (Qn _) (by omega))
  (fun _ _ _ _ _ hs _ _=>hs)
  ⟨_,_,I,H2.O,Ih.O,Ext.refl _ _,aD⟩
  (fun x a' W=> ∃Bx,Ul 35 26 (w.heap.size+1) x.1 Bx W∧a'={tmps:=#[.slice ao L.length cap,undef,.pointer (some ⟨w.heap.size,0,none⟩),.pointer (some ⟨w.heap.size+1,0,none⟩),.pointer (some ⟨Bx,0,none⟩),.pointer (some ⟨Bx+1,0,none⟩),.slice ao L.length cap,.func (.func 173) #[] #[.pointer (some ⟨w.heap.size+1+1,0,none⟩)],uA x.1.s x.1.ve,eT x.1.e x.1.va x.1.vx,undef,undef,undef,undef,undef,undef,undef,undef,undef],defers:=[]})
  (fun x a' _ X Y row hs hg hr=>by obtain⟨Bx,h1,h2⟩:=hs;exact⟨Bx,h1.turn hg (fun r e=>(hr r e).2),h2⟩)
  ?assign ?body ?done ?stop
 case assign=>
  rintro l pre x W K ⟨vt,vh,J,h1,h2,h3,h4⟩ hK;obtain⟨⟨s,e,ve,va,vx⟩,hx⟩:=x;have g1:=hx.ve;have g2:=hx.va;have g3:=hx.vx;dsimp only at g1 g2 g3;obtain⟨oe,ce,rfl,_,_,_⟩:=id g1;obtain⟨oa,ca,rfl,_,_,_⟩:=id g2;obtain⟨ox,cx,rfl,_,_,_⟩:=id g3;clear g1 g2 g3;dsimp only[YS.enc,uA,eT];gi_wp2
  have cO:=h4.size;have hlt:=h1.lt;refine hK _ _ (KeepsFrom.of_below (((Qb _ W).alloc (Qn _) _).alloc (by simp) _)) ((qI.alloc cO _).trans (qI.alloc (by simp;omega) _)) ⟨_,_,J,(h1.past _).past _,(h2.past _).past _,h3,(h4.alloc cO _).alloc (by simp;omega) _⟩ ⟨W.heap.size,⟨hlt,(Below.heap_alloc _ _ _ (by simp)).trans (heap_alloc_new W _),?_⟩,rfl⟩;have h:=heap_alloc_new (W.alloc (.cells #[.int .i64 s.num,.int .i64 s.aT,S s.bP,.slice oe s.aH.length ce,S s.aI,S s.sl] 35)) (.cells #[.int .i64 e.ag,S e.af,.slice oa e.ai.length ca,S e.target,.int .i64 e.size,S e.aj,.slice ox e.ak.length cx] 26);simpa using h
 case body=>
  rintro l pre x a' W _ _ ⟨vt,vh,J,h1,h2,h3,h4⟩ ⟨Bx,Ms,rfl⟩ mK;obtain⟨⟨s,e,ve,va,vx⟩,hx⟩:=x;have g1:=hx.ve;have g2:=hx.va;have g3:=hx.vx;have gg:=hx.g;have gm:=hx.mem;have YW:=Xmw pre ⟨_,hx⟩;dsimp only at g1 g2 g3 gg gm YW Ms;obtain⟨oe,ce,rfl,_,_,_⟩:=id g1;obtain⟨oa,ca,rfl,_,_,_⟩:=id g2;obtain⟨ox,cx,rfl,_,_,_⟩:=id g3;obtain⟨t1,Jn,rfl,_,_,_⟩:=id h1.aJ;obtain⟨u1,Jo,rfl,_,_,_⟩:=id h1.holds;have MB:=Xxz pre;have fE:=h3.keep hw (Qn _);have o9:=MB.ok.Bz;have FK:=MB.ok.hlen;have Mq:=gg.af e gm;have U2:=gg.target e gm;have YX:=Qh (show(keys (pre++[⟨_,hx⟩])).foldl A9 kZ=(dY ((keys pre).foldl A9 kZ) e s.aT).1 by rw[YW,Xub]);have ik:=Qh (Xwz J (HI.O.mono fE) ((keys pre).foldl A9 kZ) _ _ h1.aJ h1.holds MB.FH MB.ok.aJ.vI (by omega) MB.ok.holds (by omega) e _ _ (g2.mono fE) (g3.mono fE) (gg.wf e gm) (by omega) (by omega) s.aT W h1.ok);generalize(keys pre).foldl A9 kZ=s0 at h1 MB o9 FK ik YX;obtain⟨s2,zl,oV⟩:∃s2 zl,dY s0 e s.aT=(s2,zl):=⟨_,_,rfl⟩;rw[oV]at ik YX;have H1:=Qh h1;have H2:=Qh h2;have H3:=Qh h3;have c0:=h1.c0;have c1:=h1.c1;obtain⟨b0,b1,b2,b3,b4,b5⟩:=sesB_row Ms.s;obtain⟨x0,x1,x2,x3,x4,x5,x6⟩:=entB_row Ms.e;clear g1 g2 g3 gg gm YW h1 h2 h3 MB fE oV o9 FK;gi_wp2_with fail
  refine⟨trivial,(CallsIn.inRound l (callsIn_wide.2 ik.O)).mono ?_⟩;rintro e3 W3 ⟨v3,v4,J3,rfl,bU,qW,bQ,EY,EZ⟩;obtain⟨a3,d3,rfl,_,_,_⟩:=id EY;obtain⟨a4,d4,rfl,_,_,_⟩:=id EZ;have S3:=H1.O.ext bU qW bQ;have R3:=H2.O.ext bU qW;have r0:=S3.c0;have r1:=S3.c1;have f0:=S3.f0;have f1:=S3.f1;have cO:=h4.size;have hf:=(KeepsFrom.of_below (B:=W0.heap.size) bU).trans ((KeepsFrom.yN W3 ⟨w.heap.size+1,0,none⟩ (.slice a3 s2.aJ.length d3)).trans (KeepsFrom.yN _ ⟨w.heap.size+1,1,none⟩ (.slice a4 s2.holds.length d4)));have hk:=(qI.of_below (n₀:=w.heap.size) (T:=35) bU cO).trans ((qI.setCell S3.row (by decide) (Nat.le_succ _) 0 (.slice a3 s2.aJ.length d3)).trans (qI.setCell (heap_setCell_same W3 (w.heap.size+1) 0 _ _ (.slice a3 s2.aJ.length d3) S3.row) (by decide) (Nat.le_succ _) 1 (.slice a4 s2.holds.length d4)));have hi:G5 103 w.heap.size I w s2 ((W3.setCell ⟨w.heap.size+1,0,none⟩ (.slice a3 s2.aJ.length d3)).setCell ⟨w.heap.size+1,1,none⟩ (.slice a4 s2.holds.length d4)):=
   ⟨_,_,J3,S3.set (s':=s2) EY EZ,R3.set2 (by omega),H3.O.trans qW cO,((h4.trans (bU.mono cO)).setCell (p:=⟨w.heap.size+1,0,none⟩) (Nat.le_succ _) _).setCell (p:=⟨w.heap.size+1,1,none⟩) (Nat.le_succ _) _⟩
  have Ep:=Qh (And.intro hf (And.intro hk hi));clear EY EZ bU qW bQ S3 R3 hf hk hi c0 c1 b0 b1 b2 b3 b4 b5 x0 x1 x2 x3 x4 x5 x6 Ms;gi_wp2
  refine⟨Ep.O.1,Ep.O.2.1,?_⟩;show G5 _ _ _ _ _ _;rw[YX.O];exact Ep.O.2.2
 case done=>
  rintro D ys W hD hS ⟨vt,vh,J,h1,h2,h3,h4⟩ hK;have fO:(keys ys).foldl A9 kZ=tY kZ L:=by rw[hS,Xnw]
  obtain⟨s0,p8⟩:∃s0,tY kZ L=s0:=⟨_,rfl⟩;rw[fO,p8]at h1;have Yh:=Qh p8;have qQ:=Qh (show(Tryz.prog.info? 103).map (·.size)=some 2 by kernel_rfl);clear fO p8;obtain⟨t1,Jn,rfl,_,_,_⟩:=id h1.aJ;obtain⟨u1,Jo,rfl,_,_,_⟩:=id h1.holds;have c0:=h1.c0;have c1:=h1.c1;have q0:W.cell? ⟨w.heap.size,0,none⟩=some (.slice none 0 0):=(cell_of_row W _ 0 _ _ _ h2.row).trans rfl;have q1:W.cell? ⟨w.heap.size,1,none⟩=some (.slice none 0 0):=(cell_of_row W _ 1 _ _ _ h2.row).trans rfl;have f0:=frozen_of_row W _ 0 _ _ h2.row;have f1:=frozen_of_row W _ 1 _ _ h2.row;have hlt:=h1.lt;have cK:w.heap.size≠D:=by omega
  have hK2:((W.setCell ⟨w.heap.size,0,none⟩ (.slice t1 s0.aJ.length Jn)).setCell ⟨w.heap.size,1,none⟩ (.slice u1 s0.holds.length Jo)).heap[D]?=some (.deferred (some [])):=
   (Below.heap_setCell _ ⟨w.heap.size,1,none⟩ _ D cK.symm).trans ((Below.heap_setCell _ ⟨w.heap.size,0,none⟩ _ D cK.symm).trans hK)
  have hW:=heap_setCell_same _ w.heap.size 1 _ _ (.slice u1 s0.holds.length Jo) (heap_setCell_same W w.heap.size 0 _ _ (.slice t1 s0.aJ.length Jn) h2.row);have gK:=(h1.ok.setCell (a:=⟨w.heap.size,0,none⟩) h2.free (.slice t1 s0.aJ.length Jn)).setCell (a:=⟨w.heap.size,1,none⟩) h2.free (.slice u1 s0.holds.length Jo);have hbb:=(h4.setCell (p:=⟨w.heap.size,0,none⟩) (Qn _) (.slice t1 s0.aJ.length Jn)).setCell (p:=⟨w.heap.size,1,none⟩) (Qn _) (.slice u1 s0.holds.length Jo);have fe:=h4.size;gi_wp2
  refine⟨by simp,.inl ⟨_,_,rfl,run_takeDeferred hK2,?_⟩⟩;refine⟨_,results_cell_row rfl _ _ w.heap.size _ #[.slice t1 s0.aJ.length Jn,.slice u1 s0.holds.length Jo] (0,0) _ rfl ((World.putObj_heap_other cK).trans hW) Tryz.underlying103 rfl qQ.O,?_⟩;rw[Yh.O];exact⟨_,_,J,rfl,Below.turn hbb (Qn _) (Qn _) (grownBy_putObj' _ D _) (fun r e=>by cases e;exact⟨by omega,_,hK2,rfl⟩),h3,gK.turn (grownBy_putObj' _ D _) (fun r e=>by cases e;exact⟨_,hK2,rfl⟩),h1.aJ,h1.holds⟩
 case stop=>
  rintro D c pre W _ _ h _;exact h.elim
theorem Um(I:IH)(hI:dG I)(v:Value)(l:List dm)(hv:bf oK I v l)(hg:∀x∈l,kR x)(hn:l.length≤1000)(n:Int)(w:World)(hw:Ok I w):
 Calls Tryz.prog 28 #[v,.int .i64 n] w (uT bC I w (o8 l n).1 (o8 l n).2):=by
 obtain⟨ao,cap,rfl,dD,_,_⟩:=id hv;have Ha:=Qh (fun(m:Nat) (hm:m≤l.length) w hw=>Xw0 I hI (.slice ao m cap) (l.take m) (hv.xS hm) (fun x hx=>hg x (List.mem_of_mem_take hx)) (by rw[List.length_take];omega) w hw);clear hv hg;by_cases h1:n<0
 ·have Hn:=Qh (show o8 l n=([],2) by rw[o8,if_pos (.inl h1)]);have d1:decide (n<0)=true:=Qt h1;clear h1;go_enter Tryz.func28,Tryz.ntmps28
  go_wp2;go_ret2;rw[Hn.O];exact⟨_,I,rfl,Qb _ _,Ext.refl _ _,hw,bf.nil _ _⟩
 have d1:decide (n<0)=false:=Qf h1;by_cases h2:(l.length:Int)<n
 ·have Hn:=Qh (show o8 l n=([],2) by rw[o8,if_pos (.inr h2)]);have d2:decide ((l.length:Int)<n)=true:=Qt h2;clear h1 h2;go_enter Tryz.func28,Tryz.ntmps28
  go_wp2;go_ret2;rw[Hn.O];exact⟨_,I,rfl,Qb _ _,Ext.refl _ _,hw,bf.nil _ _⟩
 have d2:decide ((l.length:Int)<n)=false:=Qf h2;obtain⟨m,rfl⟩:∃m:Nat,n=(m:Int):=⟨n.toNat,by omega⟩;have Hn:=Qh (show o8 l (m:Int)=((tY kZ (l.take m)).aJ,0) by rw[o8,if_neg (by omega)];rfl);have uM:m≤l.length:=by omega
 have hi0:(0:Int)≤(m:Int):=by omega
 have JF:(m:Int)≤(l.length:Int):=by omega
 have yV:(m:Int)≤(cap:Int):=by omega
 have YY:∀(a b:Value) (w:World),(Instr.field 103 (.agg #[a,b]) 0).run Tryz.prog w= .ok a w:=fun _ _ _=>by kernel_rfl
 clear h1 h2;go_enter Tryz.func28,Tryz.ntmps28
 go_wp2_with fail
 refine(Ha.O m uM w hw).mono ?_;rintro e1 w1 ⟨vt,vh,J,rfl,hb,hx,gK,ht,hh⟩;have Ht:=Qh ht;clear ht hh;go_wp2;go_ret2;rw[Hn.O];exact⟨_,J,rfl,hb,hx,gK,Ht.O⟩
open Go.RowKit
theorem lV.wf(h:lV x):x.Wf:=by
 have a1:=h.k1;have a2:=h.k6;have a3:=h.af;have a4:=h.target;have a5:=h.s0;have a6:=h.s1;have a7:=h.aj;refine⟨by omega,by omega,by omega,fun y hy=> ?_,by omega,by omega,by omega,by omega,fun y hy=> ?_⟩
 ·have:=h.Iy y hy;exact⟨by omega,by omega⟩
 ·have:=h.TF y hy;exact⟨⟨by omega,by omega⟩,⟨by omega,by omega⟩,⟨by omega,by omega⟩⟩
theorem YZ(L:List dm)(d:Int):o8 L (lJ d L:Nat)=(bZ L d,0):=by
 have:=Yt d L;rw[o8,if_neg (by omega)];rfl
theorem NW{L:List dm}(hg:∀x∈L,kR x)(d:Int):(bZ L d).length≤30*L.length:=by
 have h:=(Xvk (L.take (lJ d L)) Ym fun x hx=>hg x (List.mem_of_mem_take hx)).ok.Bz;rw[List.length_take]at h;have:=Yt d L;unfold bZ;omega
theorem Un(L:List dm)(d:Int):∀x∈bZ L d,az x=0:=(Ji (l:=L) (lJ d L)).mr
def vG(st:List ae)(t:List ay)(k:Nat):ae:=bq t.length++(t.take k).flatMap (piece st)
theorem Xpj(hk:k<t.length)(hx:t[k]=x):vG st t (k+1)=vG st t k++piece st x:=by
 rw[vG,vG,List.take_succ_eq_append_getElem hk,hx,List.flatMap_append,←List.append_assoc];simp
theorem Xvs(hk:k<t.length)(hx:t[k]=x)(h:xJ st (t.drop k) (vG st t k)=N):
 if(bF st x).2≠0 then N=([],(bF st x).2)else xJ st (t.drop (k+1)) (vG st t (k+1))=N:=by
 rw[List.drop_eq_getElem_cons hk,hx,xJ]at h;split
 ·rename_i q;rw[if_pos q]at h;exact h.symm
 ·rename_i q;rw[if_neg q]at h;rw[Xpj hk hx];exact h
theorem Xyc(hk:t.length≤k)(h:xJ st (t.drop k) (vG st t k)=N):N=(vG st t k,0):=by
 rw[List.drop_of_length_le hk,xJ]at h;exact h.symm
theorem Xmi(hx:lV x):(piece st x).length≤68300∧(aN (dR x)).length≤2720∧(aN (bF st x).1).length≤65560:=by
 have h1:=TG hx;have h2:=Uf st x;have h3:=mQ (dR x) (by omega);have h4:=mQ (bF st x).1 (by omega);unfold piece;rw[List.length_append];omega
theorem Xsc(ht:∀x∈t,lV x)(hl:t.length≤100000):∀k,(vG st t k).length≤17+68300*t.length:=by
 have key:∀(u:List ay),(∀x∈u,lV x)→(u.flatMap (piece st)).length≤68300*u.length:=by
  intro u;induction u with
  |nil=>intro _;simp
  |cons x u ih=>
   intro h;have h1:=(Xmi (st:=st) (h x (by simp))).1;have h2:=ih fun y hy=>h y (by simp[hy]);rw[List.flatMap_cons,List.length_append,List.length_cons];omega
 intro k;have h1:=key (t.take k) fun x hx=>ht x (List.mem_of_mem_take hx);have h2:=y9 t.length (by omega);have h3:(t.take k).length≤t.length:=by rw[List.length_take];omega
 unfold vG;rw[List.length_append];have:=Nat.mul_le_mul_left 68300 h3;omega
theorem X0u(n:Nat)(l s:ae)(w:World)(h:Lib.IsBuilder 77 5 n n (Lib.byteCells l) w)(hl:l.length+s.length≤140737488355328)(hn:n<w.heap.size):
 Calls Tryz.prog 40 #[.pointer (some ⟨n,0,none⟩),S s] w fun e w'=>e= .returned (.tuple #[.int .i64 (s.length:Int),.nilIface])∧Lib.IsBuilder 77 5 n n (Lib.byteCells (l++s)) w'∧Below n w w'∧n<w'.heap.size:=by
 refine(Tryz.Builder_WriteString n n _ _ _ h (by rw[ByteArray.size_mk',List.size_toArray];simp[Lib.byteCells];omega) (Nat.le_of_lt hn)).mono ?_;rintro e w2 ⟨rfl,tJ,hb⟩;refine⟨by rw[ByteArray.size_mk',List.size_toArray],.inr ?_,hb,tJ.lt⟩;have:=tJ;rw[Lib.strCells_toArray,Lib.byteCells,Lib.byteCells,←List.map_append]at this;exact this
theorem Xz2(W:World):Lib.IsBuilder 77 5 W.heap.size W.heap.size (Lib.byteCells []) (W.alloc (.cells #[.pointer none,.slice none 0 0] 77)):=Lib.fresh_isBuilder _ _ W
structure CY (I:IH) (w:World) (b:Nat) (J:IH) (l:ae) (W:World):Prop where
 mt:lT I w J W
 bd:Lib.IsBuilder 77 5 b b (Lib.byteCells l) W
 fr:∀g,b≤g→J g=none
 ge:w.heap.size≤b
 lt:b<W.heap.size
section
variable {I J:IH} {w W W':World} {b:Nat} {l l':ae}
theorem CY.aA(h:CY I w b J l W)(hb:Below W.heap.size W W'):CY I w b J l W':=⟨h.mt.quiet hb,IK h.bd hb,h.fr,h.ge,Nat.lt_of_lt_of_le h.lt hb.size⟩
theorem CY.past(h:CY I w b J l W)(o:Obj):CY I w b J l (W.alloc o):=h.aA ((Qb _ _).alloc (Qn _) o)
theorem CY.put(h:CY I w b J l W)(tJ:Lib.IsBuilder 77 5 b b (Lib.byteCells l') W')(hb:Below b W W')(hlt:b<W'.heap.size):CY I w b J l' W':=
 ⟨⟨h.mt.ok.of_block fun k c hc=>hb.block k (Nat.lt_of_not_le fun q=>by rw[h.fr k q]at hc;cases hc),h.mt.keep,h.mt.fA.trans (hb.mono h.ge)⟩,tJ,h.fr,h.ge,hlt⟩
end
theorem Uo(I:IH)(hI:dG I)(v:Value)(L:List dm)(hv:bf oK I v L)(hg:∀x∈L,kR x)(hn:L.length≤1000)(d:Int)(w:World)(hw:Ok I w):
 Calls Tryz.prog 17 #[v,.int .i64 d] w fun r w'=>r= .returned (.tuple #[S (jk L d).1,.int .i64 (jk L d).2])∧Below w.heap.size w w':=by
 have Has:=Qh (fun w hw=>Uj I v L hv d w hw);have yg:=Qh (fun w hw=>Um I hI v L hv hg hn (lJ d L:Nat) w hw);rw[YZ]at yg;have vY:=hv.dh;have EP:=NW hg d;have pY:=Qh (fun x hx=>CS (Un L d x hx));have Her:=Qh (Un L d);have Hv:=Qh hv;have Hg:=Qh hg;unfold jk;unfold BZ;obtain⟨N,hN⟩:∃N,xJ (aS L) (bZ L d) (bq (bZ L d).length)=N:=⟨_,rfl⟩;rw[hN];have HN:=Qh (show xJ (aS L) ((bZ L d).drop 0) (vG (aS L) (bZ L d) 0)=N by rw[List.drop_zero,vG,List.take_zero,List.flatMap_nil,List.append_nil];exact hN);have Hz:=Qh (show bq (bZ L d).length=vG (aS L) (bZ L d) 0 by rw[vG,List.take_zero,List.flatMap_nil,List.append_nil]);obtain⟨so,sc,rfl,_,_,_⟩:=id hv;clear hv hg hN;generalize bZ L d=t at*;have sU:=Qh (Xsc (st:=aS L) pY.O (by omega));have pR:=sU.O 0;go_enter Tryz.func17,Tryz.ntmps17
 go_wp2_with fail
 refine(Has.O _ hw).mono ?_;rintro e1 w1 ⟨rfl,au⟩;go_wp2_with fail
 refine(yg.O _ (hw.below (Qn _) au)).mono ?_;rintro e2 w2 ⟨vt,J,rfl,aD,eZ,aP,fQ⟩;try dsimp only at fQ
 have Hk:=Qh (show ∀b c,I b=some c→J b=some c from eZ.keep (hw.below (Qn _) au) (Qn _));have A2:=Qh (show lT I w J w2 from⟨aP,Hk.O,au.trans (aD.mono au.size)⟩);have Ht:=Qh fQ;obtain⟨ta,tc,rfl,_,_,_⟩:=id fQ
 have M3:=Qh (show CY I w w2.heap.size J [] (w2.alloc (.cells #[.pointer none,.slice none 0 0] 77))from
  ⟨A2.O.past _,Xz2 w2,fun g hg=>aP.fresh hg,A2.O.fA.size,by simp⟩)
 have CV:=Qh (fun w hw=>IM J (hI.mono Hk.O) t.length (by omega) w hw);rw[Hz.O]at CV;clear fQ au aD eZ aP A2 Has yg Hz;go_wp2_with fail
 refine(CV.O _ M3.O.mt.ok).mono ?_;rintro e4 w4 ⟨rfl,aL⟩;have M4:=Qh (M3.O.aA aL);clear M3 aL CV;go_wp2_with fail
 refine(X0u _ [] (vG (aS L) t 0) _ M4.O.bd (by first|omega|(simp;omega)) M4.O.lt).mono ?_;rintro e5 w5 ⟨rfl,yE,QW,QX⟩;have M5:=Qh (M4.O.put yE QW QX);rw[List.nil_append]at M5;clear M4 yE QW QX;go_wp2_with fail
 go_loopw [10,33] (fun _ s33 wr=> ∃k:Nat,k≤t.length∧s33= .int .i64 k∧CY I w w2.heap.size J (vG (aS L) t k) wr∧xJ (aS L) (t.drop k) (vG (aS L) t k)=N) (fun _ i _=>t.length-(intOf i).toNat)
 case atStart=>exact⟨0,Nat.zero_le _,rfl,M5.O,HN.O⟩
 case round=>
  clear M5 HN pR;obtain⟨k,hk,rfl,hM,hr⟩:=hrel;have M:=Qh hM;have Hr:=Qh hr;have zu:=sU.O k;clear hM hr;by_cases hlt:k<t.length
  ·obtain⟨x,va,vx,b,off,cap',bN,di,⟨c0,c1,c2,c3,c4,c5,c6⟩,dV,dX⟩:=oG Ht.O M.O.mt.ok k hlt;cases di;have Hx:=Qh (pY.O x (by rw[←bN];exact List.getElem_mem hlt));have He:=Qh (Her.O x (by rw[←bN];exact List.getElem_mem hlt));have bB:=Qh (Xvs hlt bN Hr.O);have GQ:=Qh (Xpj (st:=aS L) hlt bN);have hp3:=Xmi (st:=aS L) Hx.O;have fP:=Hx.O.af;have eZ:=Hx.O.target;have FK:=TG Hx.O;have iK:=Uf (aS L) x;have NY:=Qh (fun w hw=>Xkb J _ L (Hv.O.mono Hk.O) Hg.O hn x va vx dV dX w hw);have I5:=Qh (fun w hw=>Xzd J (hI.mono Hk.O) x va vx dV dX Hx.O.wf (by omega) (by omega) Hx.O He.O w hw);obtain⟨xa,xc,rfl,_,_,_⟩:=id dV;obtain⟨xx,xd,rfl,_,_,_⟩:=id dX;have M1:=Qh (M.O.past (.cells #[.int .i64 x.ag,S x.af,.slice xa x.ai.length xc,S x.target,.int .i64 x.size,S x.aj,.slice xx x.ak.length xd] 26));have EB:=Qh (bS (W:=wr) (e:=x) (va:= .slice xa x.ai.length xc) (vx:= .slice xx x.ak.length xd) (t:=26) rfl (Qb _ _));clear bN dV dX M;obtain⟨ct,er,hcc⟩:∃ct er,bF (aS L) x=(ct,er):=⟨_,_,rfl⟩;have wF:=Qh (show piece (aS L) x=eX [dR x,ct] by simp[piece,eX,hcc]);rw[hcc]at bB iK;dsimp only at bB iK;have Lt:=Qh hcc;clear hcc;go_upto_if 39 with fail
   clear c0 c1 c2 c3 c4 c5 c6;obtain⟨y0,y1,y2,y3,y4,y5,y6⟩:=EB.O;go_cut [11,12,13] (fun s11 _ _ wx=>s11=S ct∧er=0∧CY I w w2.heap.size J (vG (aS L) t k) wx∧aW wx wr.heap.size x (.slice xa x.ai.length xc) (.slice xx x.ak.length xd))
   case first=>
    by_cases pg:x.ag=1
    ·have k1:(x.ag==1)=true:=by simpa using pg
     rw[show gI (aS L) x=(ct,er) by rw[←Lt.O];unfold bF;rw[if_pos pg]]at NY;dsimp only at NY;clear pg Lt;go_wp2_with fail
     refine(NY.O _ M1.O.mt.ok).mono ?_;rintro e6 w6 ⟨rfl,fF⟩;have M6:=Qh (M1.O.aA fF);have Uq:=Qh (EB.O.aA fF);clear M1 EB fF y0 y1 y2 y3 y4 y5 y6;by_cases hz:er=0
     ·subst hz;go_wp2_with fail
      go_meet;case rel=>exact⟨by first|rfl|trivial,by first|rfl|trivial,M6.O,Uq.O⟩
     ·have k2:(er !=0)=true:=by simpa using hz
      have Hn:=Qh (show N=([],er) by have:=bB.O;rw[if_pos hz]at this;exact this);clear hz;go_wp2;go_ret2;rw[Hn.O];exact⟨rfl,M6.O.mt.fA⟩
    ·have k1:(x.ag==1)=false:=by simpa using pg
     have hcc:=Lt.O;unfold bF at hcc;rw[if_neg pg]at hcc;injection hcc with h1 h2
     subst h1 h2;clear pg Lt;go_wp2_with fail
     go_meet;case rel=>exact⟨by first|rfl|trivial,by first|rfl|trivial,M1.O,EB.O⟩
   case rest=>
    clear M1 EB y0 y1 y2 y3 y4 y5 y6 Lt;obtain⟨rfl,mM,hM,hE⟩:=hcut;have M6:=Qh hM;have Uq:=Qh hE;have gN:=Qh (show xJ (aS L) (t.drop (k+1)) (vG (aS L) t (k+1))=N by have:=bB.O;rw[if_neg (by omega)]at this;exact this);clear hM hE mM bB;have mK:(eX [dR x,ct]).length≤68300:=by rw[←wF.O];exact hp3.1
    rw[wF.O]at GQ;clear hp3;have Jp:=Qh (fun b w hv hw=>Ph J (hI.mono Hk.O) b 0 2 2 [dR x,ct] rfl (Qn _) (by unfold maxLen;omega) w hv (by omega) hw);obtain⟨y0,y1,y2,y3,y4,y5,y6⟩:=Uq.O;go_wp2_with fail
    refine(I5.O _ M6.O.mt.ok).mono ?_;rintro e7 w7 ⟨rfl,jJ⟩;have M7:=Qh (M6.O.aA jJ);have HS:=Qh (Nl w7 [dR x,ct] 9);clear M6 Uq jJ y0 y1 y2 y3 y4 y5 y6 I5 NY wF;generalize dR x=hd at*;go_wp2_with fail
    refine(Jp.O _ _ HS.O (M7.O.past _).mt.ok).mono ?_;rintro e8 w8 ⟨rfl,qB⟩;have M8:=Qh ((M7.O.past (.cells #[S hd,S ct] 9)).aA qB);clear M7 qB HS Jp;generalize eX [hd,ct]=pc at*;go_wp2_with fail
    refine(X0u _ (vG (aS L) t k) pc _ M8.O.bd (by first|omega|(simp;omega)) M8.O.lt).mono ?_;rintro e9 w9 ⟨rfl,QY,QZ,Q0⟩;have M9:=Qh (M8.O.put QY QZ Q0);rw[←GQ.O]at M9;clear M8 QY QZ Q0;go_wp2;go_roundw;case rel=>exact⟨k+1,by omega,by go_num,M9.O,gN.O⟩
    case measure=>simp[intOf];omega
  ·have Hn:=Qh (Xyc (by omega) Hr.O);go_wp2_with fail
   refine(Tryz.Builder_String_any _ _ _ _ M.O.bd (Nat.le_of_lt M.O.lt)).mono ?_;rintro e1 w9 ⟨rfl,iq⟩;go_wp2;go_ret2;rw[Hn.O];exact⟨rfl,M.O.mt.fA.trans (iq.mono M.O.ge)⟩
