/-
  Walks and laws that the claim's theorem uses: texts EdE, joined; comments out. Conditions: as each theorem says.
-/
import Derived.Test.YtdodihnehppnmaaGreatDoorTO14
import Derived.Defers
set_option linter.all false
namespace Go.Proofs.YtdodihnehppnmaaGreatDoor
open Go.RowKit
theorem Xk4:∀(s:Bytes) (n a:Nat) (acc l:List At) (b:Nat),rdAts s n a acc= .ok (l,b)→(∀x∈acc,x.k.length≤s.length∧x.v.length≤s.length)→l.length=acc.length+n∧ ∀x∈l,x.k.length≤s.length∧x.v.length≤s.length
 |s,0,a,acc,l,b,h,ha=>by
  rw [rdAts] at h
  injection h with h
  injection h with h1 h2
  subst h1
  exact ⟨rfl,ha⟩
 |s,n+1,a,acc,l,b,h,ha=>by
  rw [rdAts] at h
  cases h1:rdStr s a with
  |error e=>rw [h1] at h;cases h
  |ok p=>
   rw [h1,Rb_ok] at h
   cases h2:rdStr s p.2 with
   |error e=>rw [h2] at h;cases h
   |ok q=>
    rw [h2,Rb_ok] at h
    have:=Xk4 s n q.2 _ l b h (fun x hx=>by
     rcases List.mem_append.1 hx with hx|hx
     ·exact ha x hx
     ·rw [List.mem_singleton.1 hx]
      exact ⟨Nat.le_of_lt (Xa3 (x:=p.1) (n:=p.2) h1).2.2,Nat.le_of_lt (Xa3 (x:=q.1) (n:=q.2) h2).2.2⟩)
    refine ⟨?_,this.2⟩
    rw [this.1,List.length_append]
    simp
    omega
structure HdOk (s:Bytes) (e:Ent):Prop where
 kd:0≤e.kind∧e.kind≤6
 pa:e.path.length≤s.length
 tg:e.target.length≤s.length
 al:e.attrs.length≤400
 at_:∀x∈e.attrs,x.k.length≤s.length∧x.v.length≤s.length
 sz:e.size=0
 dg:e.digest= []
 xs:e.exts= []
theorem Xrd {s:Bytes} {e:Ent} (h:rdHead s= .ok e):HdOk s e:=by
 unfold rdHead at h
 cases h1:rdStr s 0 with
 |error z=>rw [h1] at h;cases h
 |ok p=>
  rw [h1,Rb_ok] at h
  split at h
  ·cases h
  ·cases h2:rdStr s p.2 with
   |error z=>rw [h2] at h;cases h
   |ok q=>
    rw [h2,Rb_ok] at h
    cases h3:rdCnt 400 s q.2 with
    |error z=>rw [h3] at h;cases h
    |ok n=>
     rw [h3,Rb_ok] at h
     cases h4:rdAts s n.1.toNat n.2 [] with
     |error z=>rw [h4] at h;cases h
     |ok l=>
      rw [h4,Rb_ok] at h
      cases h5:rdStr s l.2 with
      |error z=>rw [h5] at h;cases h
      |ok t=>
       rw [h5,Rb_ok] at h
       split at h
       ·cases h
       ·injection h with h
        subst h
        have hn:=Xe9 (x:=n.1) (n:=n.2) h3
        have hl:=Xk4 s _ _ _ l.1 l.2 h4 (by simp)
        refine ⟨Xgh _,Nat.le_of_lt (Xa3 (x:=q.1) (n:=q.2) h2).2.2,Nat.le_of_lt (Xa3 (x:=t.1) (n:=t.2) h5).2.2,?_,hl.2,rfl,rfl,rfl⟩
        show l.1.length≤400
        rw [hl.1]
        simp
        omega
abbrev dxL (n:Nat) (vx:Value) (a b:Int):List (Option Tmp × Value):=
 [(some 46,.pointer (some ⟨n+1,6,none⟩)),(some 47,vx),(some 48,.int .i64 a),(some 49,.int .i64 b),(some 50,numF (n+4)),(some 51,undef),(some 52,undef),(some 53,undef),(some 54,undef),(some 55,undef),(none,undef)]
theorem Xcs {n:Nat} {vx:Value} {a b:Int}:ApartF (dxL n vx a b):=by
 unfold ApartF
 simp
theorem Xss:(Tryz.prog.info? 134).map (fun i=>(i.zero,i.size,i.bytes))=some (some (.agg #[.int .i64 0,.int .i64 0,.int .i64 0]),3,24):=by kernel_rfl
theorem Xst:ElemOk Tryz.prog 24 134 tXt 24:=ElemOk.of Tryz.underlying24 Xss rfl (by decide) rfl
def DecR (I:IH) (w:World) (r:Rd Ent) (e:Ending) (w':World):Prop:=
 match r with
 | .ok (x,n)=> ∃va vx J,e= .returned (.tuple #[entV x va vx,.int .i64 (n:Int),.int .i64 0])∧RdS tAt J va x.attrs∧RdS tXt J vx x.exts∧Ext w.heap.size I J∧Ok J w'∧Below w.heap.size w w'
 | .error z=>e= .returned (.tuple #[.agg zeroRow,.int .i64 0,.int .i64 z])∧Below w.heap.size w w'
theorem Xtx {fn:Func} {p q r:Tmp} {ty tz tu:TypeId} (h:fn.results= #[.cell p ty,.cell q tz,.cell r tu]) (tmps:Array Value) (P:Program) (w:World):
 (results fn tmps).run P w=
   ((asAddr (tmps.getD p undef)).run P w).andThen fun a w₁=>((loadVar ty a).run P w₁).andThen fun v w₂=>
   ((asAddr (tmps.getD q undef)).run P w₂).andThen fun a w₁=>((loadVar tz a).run P w₁).andThen fun v2 w₂=>
   ((asAddr (tmps.getD r undef)).run P w₂).andThen fun a w₁=>((loadVar tu a).run P w₁).andThen fun v3 w₂=> .ok (.tuple #[v,v2,v3]) w₂:=by
 simp only [results,h]
 simp [Sem.run_bind,Result.andThen]
theorem Xji {tmps:Array Value} {W:World} {n:Nat} {C:Array Value} {a b:Value} (h4:tmps.getD 4 undef=ptrV (n+1)) (h5:tmps.getD 5 undef=ptrV (n+2)) (h6:tmps.getD 6 undef=ptrV (n+3))
 (r1:W.heap[n+1]? =some (.cells C 26 (0,0))) (hC:C.size=7) (r2:W.heap[n+2]? =some (.cells #[a] 3 (0,0))) (r3:W.heap[n+3]? =some (.cells #[b] 30 (0,0))):
 (results Tryz.f105 tmps).run Tryz.prog W= .ok (.tuple #[.agg C,a,b]) W:=by
 have Hi7:(Tryz.prog.info? 26).map (·.size)=some C.size:=by rw [hC];kernel_rfl
 have c2:=cell0 r2
 have c3:=cell0 r3
 rw [Xtx rfl,h4,h5,h6]
 have L1:(loadVar 26 ⟨n+1,0,none⟩).run Tryz.prog W= .ok (.agg C) W:=run_loadVar_row _ (n+1) 26 26 C (0,0) _ r1 Tryz.underlying26 rfl Hi7
 have L2:(loadVar 3 ⟨n+2,0,none⟩).run Tryz.prog W= .ok a W:=by simp [go_sem,c2]
 have L3:(loadVar 30 ⟨n+3,0,none⟩).run Tryz.prog W= .ok b W:=by simp [go_sem,c3]
 simp [asAddr,L1,L2,L3,Result.andThen]
def NoP (Q:Exit→Act→World→Prop):Exit→Act→World→Prop
 | .panic _,_,_=>False
 |e,a,w=>Q e a w
theorem Xxc {P:Program} {c:Code} {Q:Exit→Act→World→Prop} {a:Act} {w:World} (h:c.wp P (NoP Q) a w):c.wp P Q a w:=
 Code.wp_mono (fun e a w h=>by
  cases e with
  |panic _=>exact h.elim
  |_=>exact h) h
theorem NoP.normal {Q:Exit→Act→World→Prop} {a:Act} {w:World} (h:Q .normal a w):NoP Q .normal a w:=h
theorem Xo4:∀(l:List (Option Tmp × Value)) (k:Nat) (s:Array Bool) (a:Act),(fillA l k s a).defers=a.defers
 | [],_,_,_=>rfl
 |(d,v)::l,k,s,a=>by
  rw [fillA,Xo4 l]
  split
  ·cases d<;>rfl
  ·rfl
theorem Xoh:∀(s:Bytes) (n a:Nat) (acc l:List Xt) (b:Nat),rdXts s n a acc= .ok (l,b)→(∀x∈acc,x.Wf)→l.length=acc.length+n∧ ∀x∈l,x.Wf
 |s,0,a,acc,l,b,h,ha=>by
  rw [rdXts] at h
  injection h with h
  injection h with h1 h2
  subst h1
  exact ⟨rfl,ha⟩
 |s,n+1,a,acc,l,b,h,ha=>by
  rw [rdXts] at h
  cases h1:rdNum s a with
  |error e=>rw [h1] at h;cases h
  |ok p=>
   rw [h1,Rb_ok] at h
   cases h2:rdNum s p.2 with
   |error e=>rw [h2] at h;cases h
   |ok q=>
    rw [h2,Rb_ok] at h
    cases h3:rdNum s q.2 with
    |error e=>rw [h3] at h;cases h
    |ok r=>
     rw [h3,Rb_ok] at h
     have:=Xoh s n r.2 _ l b h (fun x hx=>by
      rcases List.mem_append.1 hx with hx|hx
      ·exact ha x hx
      ·rw [List.mem_singleton.1 hx]
       have e1:=(Xbp (x:=p.1) (n:=p.2) h1).2.2
       have e2:=(Xbp (x:=q.1) (n:=q.2) h2).2.2
       have e3:=(Xbp (x:=r.1) (n:=r.2) h3).2.2
       refine ⟨⟨?_,?_⟩,⟨?_,?_⟩,⟨?_,?_⟩⟩<;>simp only<;>omega)
     refine ⟨?_,this.2⟩
     rw [this.1,List.length_append]
     simp
     omega
theorem Xut {hh:Bytes} {x:Ent} (h:HdOk hh x) (hl:hh.length≤4294967280) {z:Int} (hz: -2147483648≤z∧z≤2147483647) {dg:Bytes} (hd:dg.length≤4294967280) {l:List Xt} (hx:∀y∈l,y.Wf):(entOn x z dg l).Wf:=by
 obtain ⟨k1,k2,k3,k4,k5,k6,k7,k8⟩:=h
 refine ⟨by show _≤x.kind;omega,by show x.kind≤_;omega,by show x.path.length≤_;omega,fun y hy=> ?_,by show x.target.length≤_;omega,by show _≤z;omega,by show z≤_;omega,by show dg.length≤_;omega,hx⟩
 have:=k5 y hy
 exact ⟨by omega,by omega⟩
theorem MAt.ok0 {I J:IH} {w W:World} (h:MAt I w J W):Ok I W:=fun b c hb=>h.ok b c (h.keep b c hb)
structure DcM (I:IH) (w:World) (s:Bytes) (J:IH) (a:Nat) (W:World):Prop where
 mt:MAt I w J W
 ex:Ext w.heap.size I J
 fr:∀g,w.heap.size≤g→g<w.heap.size+8→J g=none
 rb:RdB W (w.heap.size+4) s w.heap.size
 at_:AtC W w.heap.size a
 r2:W.heap[w.heap.size+2]? =some (.cells #[.int .i64 0] 3 (0,0))
 r3:W.heap[w.heap.size+3]? =some (.cells #[.int .i64 0] 30 (0,0))
 sz:w.heap.size+8≤W.heap.size
section
variable {I J J':IH} {w W W':World} {s:Bytes} {a b:Nat}
theorem DcM.thru (h:DcM I w s J a W) (hb:Below W.heap.size W W'):DcM I w s J a W':=
 ⟨h.mt.quiet hb,h.ex,h.fr,h.rb.thru hb,Xah h.at_ hb,Xah h.r2 hb,Xah h.r3 hb,Nat.le_trans h.sz hb.size⟩
theorem DcM.ext (h:DcM I w s J a W) (hb:Below W.heap.size W W') (hx:Ext W.heap.size J J') (hok:Ok J' W'):DcM I w s J' a W':=
 ⟨h.mt.ext hb hx hok,h.ex.trans (hx.mono (by have:=h.sz;omega)) (Qn _),fun g h1 h2=>by rw [hx g (by have:=h.sz;omega)];exact h.fr g h1 h2,h.rb.thru hb,Xah h.at_ hb,Xah h.r2 hb,Xah h.r3 hb,Nat.le_trans h.sz hb.size⟩
theorem DcM.grown (h:DcM I w s J a W) {row:Option Nat} (hg:W.grownBy W' row) (hr:∀g,row=some g→J g=none∧(g=w.heap.size+1∨w.heap.size+7<g)):DcM I w s J a W':=by
 exact ⟨⟨h.mt.ok.grown hg (fun g q=>(hr g q).1),h.mt.keep,h.mt.bel.grown hg h.mt.size (fun g q=>by have:=(hr g q).2;omega)⟩,h.ex,h.fr,
  h.rb.own hg (fun g q=>by have:=(hr g q).2;omega),Xaf h.at_ hg (fun q=>by have:=(hr _ q).2;omega),Xaf h.r2 hg (fun q=>by have:=(hr _ q).2;omega),Xaf h.r3 hg (fun q=>by have:=(hr _ q).2;omega),Nat.le_trans h.sz hg.size⟩
theorem DcM.own (h:DcM I w s J a W) (hg:W.grownBy W' (some (w.heap.size+1))):DcM I w s J a W':=h.grown hg (fun g q=>by injection q with q;subst q;exact ⟨h.fr _ (by omega) (by omega),.inl rfl⟩)
theorem DcM.read (h:DcM I w s J a W) (ha:AtC W' w.heap.size b) (hg:W.grownBy W' (some w.heap.size)):DcM I w s J b W':=
 ⟨⟨h.mt.ok.grown hg (fun g q=>by injection q with q;subst q;exact h.fr _ (Qn _) (by omega)),h.mt.keep,h.mt.bel.grown hg h.mt.size (fun g q=>by injection q with q;omega)⟩,h.ex,h.fr,
  h.rb.own hg (fun g q=>by injection q with q;omega),ha,Xaf h.r2 hg (fun q=>by injection q with q;omega),Xaf h.r3 hg (fun q=>by injection q with q;omega),Nat.le_trans h.sz hg.size⟩
end
abbrev dcDoor (n:Nat):List Deferred:= [{ target:=Target.fn (Fn.func 159) #[ptrV (n+1),ptrV (n+2),ptrV (n+3)],args:= #[] }]
set_option maxRecDepth 100000 in
theorem Xl6 {I:IH} {w W:World} {z:Int} {y:Ent} {va vx:Value} {tmps:Array Value} (h4:tmps.getD 4 undef=ptrV (w.heap.size+1)) (h5:tmps.getD 5 undef=ptrV (w.heap.size+2)) (h6:tmps.getD 6 undef=ptrV (w.heap.size+3))
 (hbl:Below w.heap.size w W) (r2:W.heap[w.heap.size+2]? =some (.cells #[.int .i64 0] 3 (0,0))) (r3:W.heap[w.heap.size+3]? =some (.cells #[.int .i64 0] 30 (0,0))) (hE:W.heap[w.heap.size+1]? =some (.cells (entRow y va vx) 26 (0,0))):
 Leaves Tryz.prog Tryz.f105 tmps (DecR I w (.error z)) (dcDoor w.heap.size) (.panicking [{ v:=failV z,recovered:=false }]) W:=by
 refine leaves_cons (by simp) rfl ((Xwx (w.heap.size+1) (w.heap.size+2) (w.heap.size+3) _ _ y va vx z [] W hE r2 r3 (by omega) (by omega) (by omega)).mono ?_)
 rintro e u' w' ⟨rfl,rfl,r1,r2,r3,hb⟩
 exact ⟨_,Xji h4 h5 h6 r1 rfl r2 r3,rfl,hbl.trans ((hb w.heap.size (by omega) (by omega) (by omega) hbl.size))⟩
theorem Xds {I J:IH} {w W:World} {s:Bytes} {a:Nat} {z:Int} {R:Rd Ent} (hR:R= .error z) {y:Ent} {va vx:Value} {tmps:Array Value} (h4:tmps.getD 4 undef=ptrV (w.heap.size+1)) (h5:tmps.getD 5 undef=ptrV (w.heap.size+2)) (h6:tmps.getD 6 undef=ptrV (w.heap.size+3))
 (hK:DcM I w s J a W) (hE:W.heap[w.heap.size+1]? =some (.cells (entRow y va vx) 26 (0,0))):
 Leaves Tryz.prog Tryz.f105 tmps (DecR I w R) (dcDoor w.heap.size) (.panicking [{ v:=failV z,recovered:=false }]) W:=
 hR▸Xl6 h4 h5 h6 hK.mt.bel hK.r2 hK.r3 hE
set_option maxRecDepth 100000 in
theorem Xvp {R:Ending→World→Prop} {n:Nat} {W:World} {C:Array Value} {a b:Value} {tmps:Array Value} (h4:tmps.getD 4 undef=ptrV (n+1)) (h5:tmps.getD 5 undef=ptrV (n+2)) (h6:tmps.getD 6 undef=ptrV (n+3))
 (r1:W.heap[n+1]? =some (.cells C 26 (0,0))) (hC:C.size=7) (r2:W.heap[n+2]? =some (.cells #[a] 3 (0,0))) (r3:W.heap[n+3]? =some (.cells #[b] 30 (0,0)))
 (hR:R (.returned (.tuple #[.agg C,a,b])) W):Leaves Tryz.prog Tryz.f105 tmps R (dcDoor n) .returning W:=by
 refine leaves_cons (by simp) rfl ((Xww (n+1) (n+2) (n+3) W).mono ?_)
 rintro e u' w' ⟨rfl,rfl,rfl⟩
 exact ⟨_,Xji h4 h5 h6 r1 hC r2 r3,hR⟩
set_option maxRecDepth 100000 in
set_option maxHeartbeats 4000000 in
theorem Xlz (I:IH) (hI:Glob I) (s:Bytes) (hs:s.length≤4294967280) (w:World) (hw:Ok I w):
 Calls Tryz.prog 105 #[S s,.int .i64 0] w (DecR I w (rdEnt s 0)):=by
 have Hr:=Qh (show rdEnt s 0=Rb (rdStr s 0) fun h=>Rb (rdHead h.1) fun e=>Rb (rdNum s h.2) fun z=>Rb (rdStr s z.2) fun d=>Rb (rdCnt 65536 s d.2) fun n=>Rb (rdXts s n.1.toNat n.2 []) fun l=>
  entEnd (entOn e z.1 d.1 l.1) l.2 from rfl)
 generalize rdEnt s 0=R at Hr ⊢
 have d0:decide ((s.length:Int)<0)=false:=Qf (by omega)
 have Hrd:=Qh (Xly s w.heap.size ((((w.alloc (.cells #[.int .i64 0] 3)).alloc (.cells zeroRow 26)).alloc (.cells #[.int .i64 0] 3)).alloc (.cells #[.int .i64 0] 30)) (by simp;omega))
 have A0:=Qh (Xox w #[.int .i64 0] zeroRow #[.int .i64 0] #[.int .i64 0] 3 26 3 30)
 have A1:=Qh (Xoy w #[.int .i64 0] zeroRow #[.int .i64 0] #[.int .i64 0] 3 26 3 30)
 have A2:=Qh (Xoz w #[.int .i64 0] zeroRow #[.int .i64 0] #[.int .i64 0] 3 26 3 30)
 have A3:=Qh (Xo0 w #[.int .i64 0] zeroRow #[.int .i64 0] #[.int .i64 0] 3 26 3 30)
 have M0:=Qh ((((MAt.start hw).past (.cells #[.int .i64 0] 3)).past (.cells zeroRow 26)).past (.cells #[.int .i64 0] 3) |>.past (.cells #[.int .i64 0] 30))
 go_enter_defers Tryz.func105,Tryz.ntmps105
 go_wp2_with fail
 refine Hrd.out.mono ?_
 rintro e W1 ⟨rfl,hB1,hb1,hsz1⟩
 rw [show ((((w.alloc (.cells #[.int .i64 0] 3)).alloc (.cells zeroRow 26)).alloc (.cells #[.int .i64 0] 3)).alloc (.cells #[.int .i64 0] 30)).heap.size=w.heap.size+4 by simp] at*
 have K1:=Qh (show DcM I w s I 0 W1 from ⟨M0.out.quiet (hb1.mono (by simp)),Ext.refl _ _,fun g h1 _=>hw.fresh h1,hB1,Xah A0.out (hb1.mono (by simp)),Xah A2.out (hb1.mono (by simp)),Xah A3.out (hb1.mono (by simp)),by omega⟩)
 have E1:=Qh (Xah A1.out (hb1.mono (by simp)))
 clear A0 A1 A2 A3 M0 Hrd hb1 hB1
 go_wp2_with fail
 have hi7:(Tryz.prog.info? 26).map (·.size)=some 7:=by kernel_rfl
 have hi1:(Tryz.prog.info? 9).map (·.size)=some 1:=by kernel_rfl
 cases h1:rdStr s 0 with
 |error z=>
  rw [h1,Rb_err] at Hr
  refine (Xbk I hI s hs _ _ 0 _ K1.out.mt.ok K1.out.rb K1.out.at_ (by omega) z (Xav h1) h1).mono ?_
  rintro e w4 ⟨rfl,hb4⟩
  exact Xds Hr.out (y:=⟨0,[],[],[],0,[],[]⟩) (va:= .slice none 0 0) (vx:= .slice none 0 0) rfl rfl rfl (K1.out.thru hb4) (Xah E1.out hb4)
 |ok q=>
 obtain ⟨hh,a1⟩:=q
 rw [h1,Rb_ok] at Hr
 try dsimp only at Hr
 have ha1:=(Xa3 h1).2
 refine (Xb0 I hI s hs _ _ 0 _ K1.out.mt.ok K1.out.rb K1.out.at_ (by omega) hh a1 h1).mono ?_
 rintro e W2 ⟨rfl,ha2,hg2⟩
 have K2:=Qh (K1.out.read ha2 hg2)
 have E2:=Qh (Xaf E1.out hg2 (fun q=>by injection q with q;omega))
 clear h1 K1 E1 ha2 hg2 hsz1
 go_wp2_with fail
 have Hhd:=Xwj I hI hh (by omega) W2 K2.out.mt.ok
 cases h2:rdHead hh with
 |error z=>
  rw [h2,Rb_err] at Hr
  rw [h2] at Hhd
  refine Hhd.mono ?_
  rintro e w4 ⟨rfl,hb4⟩
  exact Xds Hr.out (y:=⟨0,[],[],[],0,[],[]⟩) (va:= .slice none 0 0) (vx:= .slice none 0 0) rfl rfl rfl (K2.out.thru hb4) (Xah E2.out hb4)
 |ok x=>
 rw [h2,Rb_ok] at Hr
 rw [h2] at Hhd
 refine Hhd.mono ?_
 rintro e W3 ⟨va,J,rfl,hva,hxJ,hJ,hb3⟩
 have hox:=Qh (Xrd h2)
 obtain ⟨aoa,cpa,hvae,_⟩:=id hva
 subst hvae
 have K3:=Qh (K2.out.ext hb3 hxJ hJ)
 have E3:=Qh (Xah E2.out hb3)
 have HV:=Qh hva
 clear h2 K2 E2 hb3 hxJ hJ Hhd hva
 go_wp2_with (refine Xai rfl rfl 26 _ _ rfl (w.heap.size+1) 0 (entRow x (.slice aoa x.attrs.length cpa) (.slice none 0 0)).toList (.agg (entRow x (.slice aoa x.attrs.length cpa) (.slice none 0 0))) (by simp [Act.eval,Act.put]) (by simp [Act.eval,Act.put]) (by rfl) zeroRow 26 E3.out (by simp) hi7 (by simp [Value.oneCell']) (entRow x (.slice aoa x.attrs.length cpa) (.slice none 0 0)) (by rfl) ?_
              intro W4 hg4 hr4
              have K4:=Qh (K3.out.own hg4)
              have E4:=Qh hr4)
 cases h3:rdNum s a1 with
 |error z=>
  rw [h3,Rb_err] at Hr
  refine (Xdd I hI s hs _ _ a1 _ K4.out.mt.ok0 K4.out.rb K4.out.at_ (by omega) z (Xa9 h3) h3).mono ?_
  rintro e w4 ⟨rfl,hb4⟩
  exact Xds Hr.out rfl rfl rfl (K4.out.thru hb4) (Xah E4.out hb4)
 |ok q=>
 obtain ⟨zz,a2⟩:=q
 rw [h3,Rb_ok] at Hr
 try dsimp only at Hr
 have ha2:=(Xbp h3).2
 refine (Xdc I hI s hs _ _ a1 _ K4.out.mt.ok0 K4.out.rb K4.out.at_ (by omega) zz a2 h3).mono ?_
 rintro e W5 ⟨rfl,hat5,hg5⟩
 have K5:=Qh (K4.out.read hat5 hg5)
 have E5:=Qh (Xaf E4.out hg5 (fun q=>by injection q with q;omega))
 clear h3 K3 E3 K4 E4 hat5 hg5 hg4 hr4
 go_wp2_with (refine Xai rfl rfl 3 _ _ rfl (w.heap.size+1) 4 [.int .i64 zz] (.int .i64 zz) (by simp [Act.eval,Act.put]) (by simp [Act.eval,Act.put]) (by rfl) (entRow x (.slice aoa x.attrs.length cpa) (.slice none 0 0)) 26 E5.out (by simp) Xb3 (by simp [Value.oneCell']) (entRow { x with size:=zz } (.slice aoa x.attrs.length cpa) (.slice none 0 0)) (by rfl) ?_
              intro W6 hg6 hr6
              have K6:=Qh (K5.out.own hg6)
              have E6:=Qh hr6)
 cases h4:rdStr s a2 with
 |error z=>
  rw [h4,Rb_err] at Hr
  refine (Xbk I hI s hs _ _ a2 _ K6.out.mt.ok0 K6.out.rb K6.out.at_ (by omega) z (Xav h4) h4).mono ?_
  rintro e w4 ⟨rfl,hb4⟩
  exact Xds Hr.out rfl rfl rfl (K6.out.thru hb4) (Xah E6.out hb4)
 |ok q=>
 obtain ⟨dg,a3⟩:=q
 rw [h4,Rb_ok] at Hr
 try dsimp only at Hr
 have ha3:=(Xa3 h4).2
 refine (Xb0 I hI s hs _ _ a2 _ K6.out.mt.ok0 K6.out.rb K6.out.at_ (by omega) dg a3 h4).mono ?_
 rintro e W7 ⟨rfl,hat7,hg7⟩
 have K7:=Qh (K6.out.read hat7 hg7)
 have E7:=Qh (Xaf E6.out hg7 (fun q=>by injection q with q;omega))
 clear h4 K5 E5 K6 E6 hat7 hg7 hg6 hr6
 go_wp2_with (refine Xai rfl rfl 9 _ _ rfl (w.heap.size+1) 5 [S dg] (S dg) (by simp [Act.eval,Act.put]) (by simp [Act.eval,Act.put]) (by rfl) (entRow { x with size:=zz } (.slice aoa x.attrs.length cpa) (.slice none 0 0)) 26 E7.out (by simp) hi1 (by simp [Value.oneCell']) (entRow (entOn x zz dg []) (.slice aoa x.attrs.length cpa) (.slice none 0 0)) (by rfl) ?_
              intro W8 hg8 hr8
              have K8:=Qh (K7.out.own hg8)
              have E8:=Qh hr8)
 cases h5:rdCnt 65536 s a3 with
 |error z=>
  rw [h5,Rb_err] at Hr
  refine (Xgm I hI s hs _ _ a3 _ K8.out.mt.ok0 K8.out.rb K8.out.at_ (by omega) 65536 z h5).mono ?_
  rintro e w6 ⟨rfl,hg6⟩
  rw [Hr.out]
  exact Xl6 rfl rfl rfl (K8.out.mt.bel.grown hg6 K8.out.mt.size (fun g q=>by injection q with q;omega)) (Xaf K8.out.r2 hg6 (fun q=>by injection q with q;omega)) (Xaf K8.out.r3 hg6 (fun q=>by injection q with q;omega)) (Xaf E8.out hg6 (fun q=>by injection q with q;omega))
 |ok q=>
 obtain ⟨N,a4⟩:=q
 rw [h5,Rb_ok] at Hr
 try dsimp only at Hr
 have hN:=Xe9 h5
 refine (Xia I hI s hs _ _ a3 _ K8.out.mt.ok0 K8.out.rb K8.out.at_ (by omega) 65536 N a4 h5).mono ?_
 rintro e W9 ⟨rfl,hat9,hg9⟩
 have K9:=Qh (K8.out.read hat9 hg9)
 have E9:=Qh (Xaf E8.out hg9 (fun q=>by injection q with q;omega))
 have O9:=Qh (OwnS.nil tXt 134 J W9 W9.heap.size)
 have hJf:∀b,W9.heap.size≤b→J b=none:=fun b hb=>K9.out.mt.ok.fresh hb
 obtain ⟨m,rfl⟩:∃m:Nat,N=(m:Int):=⟨N.toNat,by omega⟩
 rw [Int.toNat_natCast] at Hr
 obtain ⟨L,hL⟩:∃L,rdXts s m a4 []=L:=⟨_,rfl⟩
 rw [hL] at Hr
 have HL:=Qh hL
 have hm:m≤65536:=by omega
 have ha4:=hN.2.1
 have hsz9:=K9.out.sz
 clear h5 hN K7 E7 K8 E8 hat9 hg9 hg8 hr8 hL
 generalize hN9:W9.heap.size=N9 at*
 go_wp2_with fail
 have HL0:=HL
 go_loopw [10,11,40] (fun s10 s11 s40 wr=> ∃(k a:Nat) (acc:List Xt) (vx:Value),k≤m∧s40= .int .i64 k∧acc.length=k∧a≤s.length∧DcM I w s J a wr∧wr.heap[w.heap.size+1]? =some (.cells (entRow (entOn x zz dg []) (.slice aoa x.attrs.length cpa) vx) 26 (0,0))∧OwnS tXt 134 J wr N9 vx acc∧N9≤wr.heap.size∧rdXts s (m-k) a acc=L) (fun _ _ i _=>m-(intOf i).toNat)
 case atStart=>exact ⟨0,a4,[],_,Nat.zero_le _,rfl,rfl,ha4,K9.out,E9.out,O9.out,Nat.le_of_eq hN9.symm,HL.out⟩
 case round=>
  clear K9 E9 O9 HL ha4 hN9
  obtain ⟨k,a,acc,vx,hk,rfl,hacc,ha,hK,hE,hO,hne,hrd⟩:=hrel
  have HK:=Qh hK
  have HE:=Qh hE
  have HO:=Qh hO
  have Hrd:=Qh hrd
  have Hacc:=Qh hacc
  clear hK hE hO hrd hacc
  by_cases hlt:k<m
  ·go_wp2_with fail
   rw [show m-k=m-(k+1)+1 by omega,rdXts] at Hrd
   cases h4:rdNum s a with
   |error z=>
    rw [h4,Rb_err] at Hrd
    refine (Xdd I hI s hs _ _ a _ HK.out.mt.ok0 HK.out.rb HK.out.at_ (by omega) z (Xa9 h4) h4).mono ?_
    rintro e w5 ⟨rfl,hb5⟩
    exact Xds (Hr.out.trans (by rw [←Hrd.out];rfl)) rfl rfl rfl (HK.out.thru hb5) (Xah HE.out hb5)
   |ok q=>
   obtain ⟨ss,a5⟩:=q
   rw [h4,Rb_ok] at Hrd
   try dsimp only at Hrd
   have ha5:=(Xbp h4).2
   refine (Xdc I hI s hs _ _ a _ HK.out.mt.ok0 HK.out.rb HK.out.at_ (by omega) ss a5 h4).mono ?_
   rintro e V1 ⟨rfl,hat1,hg1⟩
   have K1:=Qh (HK.out.read hat1 hg1)
   have E1:=Qh (Xaf HE.out hg1 (fun q=>by injection q with q;omega))
   have O1:=Qh (HO.out.kept hg1 (.inr (HO.out.ne_lt (by omega))))
   have hne1:=Nat.le_trans hne hg1.size
   clear h4 HK HE HO hat1 hg1
   go_wp2_with fail
   cases h5:rdNum s a5 with
   |error z=>
    rw [h5,Rb_err] at Hrd
    refine (Xdd I hI s hs _ _ a5 _ K1.out.mt.ok0 K1.out.rb K1.out.at_ (by omega) z (Xa9 h5) h5).mono ?_
    rintro e w5 ⟨rfl,hb5⟩
    exact Xds (Hr.out.trans (by rw [←Hrd.out];rfl)) rfl rfl rfl (K1.out.thru hb5) (Xah E1.out hb5)
   |ok q=>
   obtain ⟨oo,a6⟩:=q
   rw [h5,Rb_ok] at Hrd
   try dsimp only at Hrd
   have ha6:=(Xbp h5).2
   refine (Xdc I hI s hs _ _ a5 _ K1.out.mt.ok0 K1.out.rb K1.out.at_ (by omega) oo a6 h5).mono ?_
   rintro e W8 ⟨rfl,hat2,hg2⟩
   have K8:=Qh (K1.out.read hat2 hg2)
   have E8:=Qh (Xaf E1.out hg2 (fun q=>by injection q with q;omega))
   have O8:=Qh (O1.out.kept hg2 (.inr (O1.out.ne_lt (by omega))))
   have hne8:=Nat.le_trans hne1 hg2.size
   clear h5 K1 E1 O1 hat2 hg2
   have cA:=(ent_row E8.out).c6
   go_wp2_with fail
   cases h6:rdNum s a6 with
   |error z=>
    rw [h6,Rb_err] at Hrd
    have hRz:R= .error z:=Hr.out.trans (by rw [←Hrd.out];rfl)
    have Htx:=Qh (fun (W:World) (h1:Ok I W) (h2:RdB W (w.heap.size+4) s w.heap.size) (h3:AtC W w.heap.size a6)=>Xdd I hI s hs _ _ a6 W h1 h2 h3 (by omega) z (Xa9 h6) h6)
    refine Xaj (X:=Unit) (fun _=>dxL w.heap.size vx ss oo) (fun _ s w'=>s.getD 5 false=false∧Below W8.heap.size W8 w') (by kernel_rfl) (by kernel_rfl) ⟨(),by simp,(Qb _ _).drew⟩ ?_ ?_
    ·rintro ⟨⟩ s9 a' w' i hsz hcl ha ⟨h4n,hbw⟩ hi
     obtain ⟨hun,oi,hoi,hall⟩:=mem_ready.1 hi
     have cAw:=Xaa hbw cA
     rcases i with _|_|_|_|_|_|_|_|_|_|_|i
     rotate_left 11
     ·simp at hoi
     all_goals
      have hoj:=hoi
      simp at hoi
      subst hoi
      simp [Region.binds] at hall
     ·have e8:a'.tmps[4]?.getD undef=ptrV (w.heap.size+1):=Xbt ha (by simp [dxL])
      refine wpOp_step hoj (fun K' hK=> ?_)
      rw [if_pos (by rfl)]
      unfold Oper.wp
      simp [go_sem,e8,Oper.upon]
      exact hK _ _ ⟨(),Xak (d:=some 46) (v:= .pointer (some ⟨w.heap.size+1,6,none⟩)) Xcs ha rfl hun,by rw [getD_set_ne (by decide)];exact h4n,hbw⟩
     ·have e35:a'.tmps[46]?.getD undef= .pointer (some ⟨w.heap.size+1,6,none⟩):=Xba (i:=0) Xcs ha rfl (by simpa using hall) (by simp)
      refine wpOp_step hoj (fun K' hK=> ?_)
      rw [if_pos (by rfl)]
      unfold Oper.wp
      simp [go_sem,e35,cAw,Oper.upon]
      exact hK _ _ ⟨(),Xak (d:=some 47) (v:=vx) Xcs ha rfl hun,by rw [getD_set_ne (by decide)];exact h4n,hbw⟩
     ·have e9:a'.tmps[10]?.getD undef= .int .i64 ss:=Xbt ha (by simp [dxL])
      refine wpOp_step hoj (fun K' hK=> ?_)
      rw [if_pos (by rfl)]
      unfold Oper.wp
      simp [go_sem,e9,Oper.upon]
      exact hK _ _ ⟨(),Xak (d:=some 48) (v:= .int .i64 ss) Xcs ha rfl hun,by rw [getD_set_ne (by decide)];exact h4n,hbw⟩
     ·have e9:a'.tmps[11]?.getD undef= .int .i64 oo:=Xbt ha (by simp [dxL])
      refine wpOp_step hoj (fun K' hK=> ?_)
      rw [if_pos (by rfl)]
      unfold Oper.wp
      simp [go_sem,e9,Oper.upon]
      exact hK _ _ ⟨(),Xak (d:=some 49) (v:= .int .i64 oo) Xcs ha rfl hun,by rw [getD_set_ne (by decide)];exact h4n,hbw⟩
     ·have e5:a'.tmps[7]?.getD undef=numF (w.heap.size+4):=Xbt ha (by simp [dxL])
      refine wpOp_step hoj (fun K' hK=> ?_)
      rw [if_pos (by rfl)]
      unfold Oper.wp
      simp [go_sem,e5,Oper.upon]
      exact hK _ _ ⟨(),Xak (d:=some 50) (v:=numF (w.heap.size+4)) Xcs ha rfl hun,by rw [getD_set_ne (by decide)];exact h4n,hbw⟩
     ·have e38:a'.tmps[50]?.getD undef=numF (w.heap.size+4):=Xba (i:=4) Xcs ha rfl (by simpa using hall) (by simp)
      have Kw:=K8.out.thru hbw
      refine wpOp_step hoj (fun K' hK=> ?_)
      rw [if_pos (by rfl)]
      unfold Oper.wp
      simp [go_sem,e38,Oper.upon]
      refine (Htx.out w' Kw.mt.ok0 Kw.rb Kw.at_).mono ?_
      rintro r9 w9 ⟨rfl,hb9⟩
      have e4:a'.tmps[4]?.getD undef=ptrV (w.heap.size+1):=Xbt ha (by simp [dxL])
      have e5:a'.tmps[5]?.getD undef=ptrV (w.heap.size+2):=Xbt ha (by simp [dxL])
      have e6:a'.tmps[6]?.getD undef=ptrV (w.heap.size+3):=Xbt ha (by simp [dxL])
      have hd:a'.defers=dcDoor w.heap.size:=by rw [ha,Xo4]
      have key:Leaves Tryz.prog Tryz.f105 a'.tmps (DecR I w R) a'.defers (.panicking [{ v:=failV z,recovered:=false }]) w9:=by
       rw [hd]
       exact Xds hRz (by rw [Array.getD_eq_getD_getElem?];exact e4) (by rw [Array.getD_eq_getD_getElem?];exact e5) (by rw [Array.getD_eq_getD_getElem?];exact e6) (Kw.thru hb9) (Xah (Xah E8.out hbw) hb9)
      exact key
     all_goals
      have h4':s9[5]?.getD false=false:=by simpa using h4n
      have h5':s9[6]?.getD false=false:=by
       cases h5:s9[6]?.getD false with
       |false=>rfl
       |true=>
        have h6:=Xfq hcl [5] 6 5 (by kernel_rfl) (by rfl) (by simpa using h5)
        rw [h4n] at h6
        cases h6
      simp [h4',h5'] at hall
    ·rintro ⟨⟩ s9 a' w' hup ha ⟨h4n,hbw⟩
     have:=hup 5 (by decide)
     rw [h4n] at this
     cases this
   |ok q=>
   obtain ⟨nn,a7⟩:=q
   rw [h6,Rb_ok] at Hrd
   try dsimp only at Hrd
   have ha7:=(Xbp h6).2
   have Htx:=Qh (fun (W:World) (h1:Ok I W) (h2:RdB W (w.heap.size+4) s w.heap.size) (h3:AtC W w.heap.size a6)=>Xdc I hI s hs _ _ a6 W h1 h2 h3 (by omega) nn a7 h6)
   have Q1:Ok I W8.drew:=K8.out.mt.ok0
   have Q2:RdB W8.drew (w.heap.size+4) s w.heap.size:=⟨K8.out.rb.r0,K8.out.rb.r1,K8.out.rb.r2,K8.out.rb.r3,K8.out.rb.lt⟩
   have Q3:AtC W8.drew w.heap.size a6:=K8.out.at_
   refine Xxc ?_
   go_region_law (first
                  |(refine Xdu rfl _ _ 24 24 rfl _ _ (by simp [Act.eval,Act.put]) (by simp [Act.eval,Act.put]) hr10 ?_)
                  |(go_simp
                    go_at_call 233
                    refine (Htx.out _ Q1 Q2 Q3).mono ?_
                    rintro e w9 ⟨rfl,ha9,hg9'⟩
                    have hg9:W8.grownBy w9 (some w.heap.size):=⟨hg9'.os,hg9'.tape,hg9'.output,hg9'.size,hg9'.block⟩
                    have K9:=Qh (K8.out.read ha9 hg9)
                    have E9:=Qh (Xaf E8.out hg9 (fun q=>by injection q with q;omega))
                    have O9:=Qh (O8.out.kept hg9 (.inr (O8.out.ne_lt (by omega))))
                    have hne9:=Nat.le_trans hne8 hg9.size
                    obtain ⟨v10,w10,hr10,ho10,hg10⟩:=Xod Xst O9.out ⟨ss,oo,nn⟩ [.int .i64 ss,.int .i64 oo,.int .i64 nn] 134 24 rfl (by rw [Hacc.out];omega) (by rw [Hacc.out];omega) hne9
                    obtain ⟨ao10,cp10,rfl⟩:=ho10.shape
                    rw [List.length_append] at ho10
                    have cA9:=(ent_row E9.out).c6
                    have cB9:=Xab (.cells #[.int .i64 ss,.int .i64 oo,.int .i64 nn] 134) cA9
                    have E10:=Qh (Xaf E9.out hg10 (O9.out.ne_lt (by omega)))
                    have cA10:=(ent_row E10.out).c6
                    have zA10:w10.frozen? ⟨w.heap.size+1,6,none⟩=false:=by unfold World.frozen?;rw [E10.out];rfl))
   all_goals
    refine NoP.normal ?_
    go_wp2
    go_roundw
    case rel=>exact ⟨k+1,a7,acc++ [⟨ss,oo,nn⟩],.slice ao10 (acc.length+1) cp10,by omega,by go_num,by rw [List.length_append,Hacc.out];rfl,ha7.1,(K9.out.grown hg10 (fun g q=>by have:=O9.out.own_ge q;exact ⟨hJf g this,by omega⟩)).own ⟨rfl,rfl,rfl,by simp [World.setCell],fun k _ hk=>Below.heap_setCell _ _ _ _ (fun q=>hk (by rw [q]))⟩,Xoe E10.out _,ho10.setC (n:=w.heap.size+1) (ho10.ne_lt (by omega)) _,by simpa [World.setCell] using Nat.le_trans hne9 hg10.size,by rw [←Hrd.out]⟩
    case measure=>simp [intOf];omega
  ·have he:k=m:=by omega
   subst he
   rw [Nat.sub_self,rdXts] at Hrd
   have HrA:=Qh (show R=entEnd (entOn x zz dg acc) a by rw [Hr.out,←Hrd.out];rfl)
   clear Hr hk hlt
   obtain ⟨aov,cpv,rfl⟩:=HO.out.shape
   have HE2:=Qh (show wr.heap[w.heap.size+1]? =some (.cells (entRow (entOn x zz dg acc) (.slice aoa x.attrs.length cpa) (.slice aov acc.length cpv)) 26 (0,0)) from HE.out)
   go_wp2_with (refine wpList_load_row rfl 26 _ rfl (w.heap.size+1) rfl 26 _ (0,0) _ HE2.out Tryz.underlying26 rfl hi7 ?_)
   have hLe:rdXts s k a4 []= .ok (acc,a):=by rw [HL0.out,←Hrd.out]
   have hwx:=(Xoh s k a4 [] acc a hLe (by simp)).2
   have hwf:=Xut hox.out (by omega) ⟨ha2.2.1,ha2.2.2⟩ (dg:=dg) (by omega) hwx
   obtain ⟨J2,hx2,hok2,hvx2,_⟩:=HO.out.freeze HK.out.mt.ok hJf
   have kp:∀b c,J b=some c→J2 b=some c:=fun b c hc=>by
    rw [hx2 b (by
     rcases Nat.lt_or_ge b N9 with h|h
     ·exact h
     ·rw [hJf b h] at hc;cases hc)]
    exact hc
   have hva2:=RdS.mono kp HV.out
   have M2:MAt I w J2 wr:=⟨hok2,fun b c h=>kp b c (HK.out.mt.keep b c h),HK.out.mt.bel⟩
   have HX2:=Qh (HK.out.ex.trans (hx2.mono (show w.heap.size≤N9 by omega)) (Qn _))
   have FR2:=Qh (fun g (h1:w.heap.size≤g) (h2:g<w.heap.size+8)=>(hx2 g (by omega)).trans (HK.out.fr g h1 h2))
   refine (Xg2 J2 (hI.mono M2.keep) (entOn x zz dg acc) _ _ hva2 hvx2 hwf (by show x.path.length≤_;have:=hox.out.pa;omega) (by show x.target.length≤_;have:=hox.out.tg;omega) wr hok2).mono ?_
   rintro e V1 ⟨rfl,hb1⟩
   have K2:=Qh (show DcM I w s J2 a V1 from ⟨M2.quiet hb1,HX2.out,FR2.out,HK.out.rb.thru hb1,Xah HK.out.at_ hb1,Xah HK.out.r2 hb1,Xah HK.out.r3 hb1,Nat.le_trans HK.out.sz hb1.size⟩)
   have E2:=Qh (Xah HE2.out hb1)
   have VA:=Qh hva2
   have VX:=Qh hvx2
   unfold entEnd at HrA
   clear hLe hwx hwf hx2 hok2 hvx2 hva2 M2 FR2 HK HE HE2 HO Hacc hb1 HL0 Hrd kp
   by_cases hz:entErr (entOn x zz dg acc)=0
   ·rw [hz,if_neg (by simp)] at HrA
    rw [hz]
    clear hz
    go_wp2_with fail
    have hi3:(Tryz.prog.info? 30).map (·.size)=some 1:=by kernel_rfl
    obtain ⟨C,hC⟩:∃C,C=entRow (entOn x zz dg acc) (.slice aoa x.attrs.length cpa) (.slice aov acc.length cpv):=⟨_,rfl⟩
    have E2C:=E2.out
    rw [←hC] at E2C
    have hC7:C.size=7:=by rw [hC];rfl
    have hC1:∀v∈C.toList,v.oneCell'=true:=by rw [hC];simp [Value.oneCell']
    have hCT:=(by simpa using hC7:C.toList.length=7)
    refine Xaj (X:=Unit) (fun _=> [(some 63,.agg C),(some 64,.int .i64 (a:Int)),(none,undef),(none,undef),(none,undef)])
     (fun _ s W=>W.heap[w.heap.size+1]? =some (.cells C 26 (0,0))∧Bk (w.heap.size+2) 1 3 #[.int .i64 (a:Int)] 3 s W∧Bk (w.heap.size+3) 1 30 #[.int .i64 0] 4 s W∧AtC W w.heap.size a∧Ok J2 W∧Below w.heap.size w W) (by kernel_rfl) (by kernel_rfl)
     ⟨(),E2C,⟨_,by simp,K2.out.r2,by simp⟩,⟨_,by simp,K2.out.r3,by simp⟩,K2.out.at_,K2.out.mt.ok,K2.out.mt.bel.drew⟩ ?_ ?_
    ·have hap:ApartF [(some 63,.agg C),(some 64,.int .i64 (a:Int)),(none,undef),(none,undef),(none,undef)]:=by unfold ApartF;simp
     rintro ⟨⟩ s9 a' W i hsz hcl ha ⟨k1,k2,k3,k0,ko,kb⟩ hi
     obtain ⟨hun,oi,hoi,hall⟩:=mem_ready.1 hi
     rcases i with _|_|_|_|_|i
     rotate_left 5
     ·simp at hoi
     all_goals
      have hoj:=hoi
      simp at hoi
      subst hoi
      simp [Region.binds] at hall
     ·have e4:a'.tmps[4]?.getD undef=ptrV (w.heap.size+1):=Xbt ha (by simp)
      refine wpOp_step hoj (fun K' hK=> ?_)
      rw [if_pos (by rfl)]
      refine wp_load_row 26 _ rfl (w.heap.size+1) (by simpa [Act.eval] using e4) 26 C (0,0) _ k1 Tryz.underlying26 rfl (by rw [hC7];exact hi7) ?_
      exact hK _ _ ⟨(),Xak (d:=some 63) (v:= .agg C) hap ha rfl hun,k1,k2.up (by decide),k3.up (by decide),k0,ko,kb⟩
     ·have e3:a'.tmps[3]?.getD undef=ptrV w.heap.size:=Xbt ha (by simp)
      have c0:=cell0 k0
      refine wpOp_step hoj (fun K' hK=> ?_)
      rw [if_pos (by rfl)]
      unfold Oper.wp
      simp [go_sem,e3,c0,Oper.upon]
      exact hK _ _ ⟨(),Xak (d:=some 64) (v:= .int .i64 (a:Int)) hap ha rfl hun,k1,k2.up (by decide),k3.up (by decide),k0,ko,kb⟩
     ·have e4:a'.tmps[4]?.getD undef=ptrV (w.heap.size+1):=Xbt ha (by simp)
      have e63:a'.tmps[63]?.getD undef= .agg C:=Xba (i:=0) hap ha rfl (by simpa using hall) (by simp)
      refine wpOp_step hoj (fun K' hK=> ?_)
      rw [if_pos (by rfl)]
      refine Xiw (n:=7) (i:=2) (s:=s9) 26 _ _ rfl rfl C.toList (.agg C) (by simpa [Act.eval] using e4) (by simpa [Act.eval] using e63) (by simp [Value.cells]) (by simp) hCT ⟨C,hC7,k1,fun _=>rfl⟩ hi7 hC1 ?_
      intro W' hg hr
      exact hK _ _ ⟨(),Xak (d:=none) (v:=undef) hap ha rfl hun,hr,(k2.own hg (by omega)).up (by decide),(k3.own hg (by omega)).up (by decide),Xaf k0 hg (fun q=>by injection q with q;omega),ko.grown hg (fun g q=>by injection q with q;subst q;exact K2.out.fr _ (by omega) (by omega)),kb.grown hg kb.size (fun g q=>by injection q with q;omega)⟩
     ·have e5:a'.tmps[5]?.getD undef=ptrV (w.heap.size+2):=Xbt ha (by simp)
      have e64:a'.tmps[64]?.getD undef= .int .i64 (a:Int):=Xba (i:=1) hap ha rfl (by simpa using hall.1) (by simp)
      refine wpOp_step hoj (fun K' hK=> ?_)
      rw [if_pos (by rfl)]
      refine Xiw 3 _ _ rfl rfl [.int .i64 (a:Int)] (.int .i64 (a:Int)) (by simpa [Act.eval] using e5) (by simpa [Act.eval] using e64) (by rfl) (by rfl) (by rfl) k2 Xb3 (by simp [Value.oneCell']) ?_
      intro W' hg hr
      exact hK _ _ ⟨(),Xak (d:=none) (v:=undef) hap ha rfl hun,Xaf k1 hg (fun q=>by injection q with q;omega),.done hr (by rfl),(k3.own hg (by omega)).up (by decide),Xaf k0 hg (fun q=>by injection q with q;omega),ko.grown hg (fun g q=>by injection q with q;subst q;exact K2.out.fr _ (by omega) (by omega)),kb.grown hg kb.size (fun g q=>by injection q with q;omega)⟩
     ·have e6:a'.tmps[6]?.getD undef=ptrV (w.heap.size+3):=Xbt ha (by simp)
      refine wpOp_step hoj (fun K' hK=> ?_)
      rw [if_pos (by rfl)]
      refine Xiw 30 _ _ rfl rfl [.int .i64 0] (.int .i64 0) (by simpa [Act.eval] using e6) (by rfl) (by rfl) (by rfl) (by rfl) k3 hi3 (by simp [Value.oneCell']) ?_
      intro W' hg hr
      exact hK _ _ ⟨(),Xak (d:=none) (v:=undef) hap ha rfl hun,Xaf k1 hg (fun q=>by injection q with q;omega),(k2.own hg (by omega)).up (by decide),.done hr (by rfl),Xaf k0 hg (fun q=>by injection q with q;omega),ko.grown hg (fun g q=>by injection q with q;subst q;exact K2.out.fr _ (by omega) (by omega)),kb.grown hg kb.size (fun g q=>by injection q with q;omega)⟩
    ·rintro ⟨⟩ s9 a' W hup ha ⟨k1,⟨d2,_,r2,q2⟩,⟨d3,_,r3,q3⟩,k0,ko,kb⟩
     have u2:=q2 (hup 3 (by decide))
     have u3:=q3 (hup 4 (by decide))
     subst u2 u3
     rw [Xbe _ _ _ _ (fun k hk=>by rw [Nat.zero_add];exact hup k (by simpa using hk))] at ha
     simp only [fillAll,Act.put] at ha
     subst ha
     go_wp2
     refine Xvp (n:=w.heap.size) rfl rfl rfl k1 hC7 r2 r3 ?_
     rw [HrA.out,hC]
     exact ⟨_,_,J2,rfl,VA.out,VX.out,HX2.out,ko,kb⟩
   ·rw [if_pos hz] at HrA
    obtain ⟨cz,hcz⟩:∃cz,entErr (entOn x zz dg acc)=cz:=⟨_,rfl⟩
    rw [hcz] at HrA hz ⊢
    have hzb:(cz != 0)=true:=by simpa using hz
    clear hz hcz
    have R2':=Qh K2.out.r2
    have R3':=Qh K2.out.r3
    have hi3:(Tryz.prog.info? 30).map (·.size)=some 1:=by kernel_rfl
    go_wp2_with (first
                 |(refine Xai rfl rfl 26 _ _ rfl (w.heap.size+1) 0 zeroRow.toList (.agg zeroRow) (by simp [Act.eval,Act.put]) (by simp [Act.eval,Act.put]) (by rfl) _ 26 E2.out (by simp) hi7 (by simp [Value.oneCell']) zeroRow (by rfl) ?_
                   intro X1 gx1 rx1
                   have P1:=Qh rx1
                   have Q2:=Qh (Xaf R2'.out gx1 (fun q=>by injection q with q;omega))
                   have Q3:=Qh (Xaf R3'.out gx1 (fun q=>by injection q with q;omega))
                   have B1:=Qh (K2.out.mt.bel.grown gx1 K2.out.mt.size (fun g q=>by injection q with q;omega)))
                 |(refine Xai rfl rfl 3 _ _ rfl (w.heap.size+2) 0 [.int .i64 0] (.int .i64 0) (by simp [Act.eval,Act.put]) (by simp [Act.eval,Act.put]) (by rfl) _ 3 Q2.out (by simp) Xb3 (by simp [Value.oneCell']) #[.int .i64 0] (by rfl) ?_
                   intro X2 gx2 rx2
                   have P1:=Qh (Xaf P1.out gx2 (fun q=>by injection q with q;omega))
                   have P2:=Qh rx2
                   have Q3:=Qh (Xaf Q3.out gx2 (fun q=>by injection q with q;omega))
                   have B2:=Qh (B1.out.grown gx2 B1.out.size (fun g q=>by injection q with q;omega)))
                 |(refine Xai rfl rfl 30 _ _ rfl (w.heap.size+3) 0 [.int .i64 cz] (.int .i64 cz) (by simp [Act.eval,Act.put]) (by simp [Act.eval,Act.put]) (by rfl) _ 30 Q3.out (by simp) hi3 (by simp [Value.oneCell']) #[.int .i64 cz] (by rfl) ?_
                   intro X3 gx3 rx3
                   have P1:=Qh (Xaf P1.out gx3 (fun q=>by injection q with q;omega))
                   have P2:=Qh (Xaf P2.out gx3 (fun q=>by injection q with q;omega))
                   have P3:=Qh rx3
                   have B3:=Qh (B2.out.grown gx3 B2.out.size (fun g q=>by injection q with q;omega))))
    refine Xvp (n:=w.heap.size) rfl rfl rfl P1.out rfl P2.out P3.out ?_
    rw [HrA.out]
    exact ⟨rfl,B3.out⟩
end Go.Proofs.YtdodihnehppnmaaGreatDoor
