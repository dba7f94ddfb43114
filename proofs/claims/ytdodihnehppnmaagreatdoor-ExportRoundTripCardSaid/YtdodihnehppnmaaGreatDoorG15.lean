/- Lemmas for the claim's theorem;conditions: as each says. -/
import Derived.Test.YtdodihnehppnmaaGreatDoorG14
import Derived.Defers
set_option maxHeartbeats 0
set_option maxRecDepth 100000
set_option linter.all false
namespace Go.Proofs.YtdodihnehppnmaaGreatDoor
open Go.RowKit
variable{W w:World}{tmps:Array Value}{n:Nat}{vx:Value}{z:Int}{I:IH}{s:ae}{C:Array Value}{a b:Value}{Q:Exit→Act→World→Prop}{J:IH}{y:ay}{va:Value}
theorem Xmg:∀(s:ae) (n a:Nat) (acc l:List At) (b:Nat),jh s n a acc= .ok (l,b)→(∀x∈acc,x.k.length≤s.length∧x.v.length≤s.length)→l.length=acc.length+n∧ ∀x∈l,x.k.length≤s.length∧x.v.length≤s.length
 |s,0,a,acc,l,b,h,ha=>by
  rw[jh]at h;injection h with h
  injection h with h1 h2
  subst h1;exact⟨rfl,ha⟩
 |s,n+1,a,acc,l,b,h,ha=>by
  rw[jh]at h;cases h1:rdStr s a with
  |error e=>rw[h1]at h;cases h
  |ok p=>
   rw[h1,aR]at h;cases h2:rdStr s p.2 with
   |error e=>rw[h2]at h;cases h
   |ok q=>
    rw[h2,aR]at h;have:=Xmg s n q.2 _ l b h (fun x hx=>by
     rcases List.mem_append.1 hx with hx|hx
     ·exact ha x hx
     ·rw[List.mem_singleton.1 hx];exact⟨Nat.le_of_lt (BB (x:=p.1) (n:=p.2) h1).2.2,Nat.le_of_lt (BB (x:=q.1) (n:=q.2) h2).2.2⟩)
    refine⟨?_,this.2⟩;rw[this.1,List.length_append];simp;omega
structure PU (s:ae) (e:ay):Prop where
 kd:0≤e.ag∧e.ag≤6
 pa:e.af.length≤s.length
 tg:e.target.length≤s.length
 al:e.ai.length≤400
 at_:∀x∈e.ai,x.k.length≤s.length∧x.v.length≤s.length
 sz:e.size=0
 dg:e.aj=[]
 xs:e.ak=[]
theorem Xsy{e:ay}(h:ek s= .ok e):PU s e:=by
 unfold ek at h;cases h1:rdStr s 0 with
 |error z=>rw[h1]at h;cases h
 |ok p=>
  rw[h1,aR]at h;split at h
  ·cases h
  ·cases h2:rdStr s p.2 with
   |error z=>rw[h2]at h;cases h
   |ok q=>
    rw[h2,aR]at h;cases h3:gW 400 s q.2 with
    |error z=>rw[h3]at h;cases h
    |ok n=>
     rw[h3,aR]at h;cases h4:jh s n.1.toNat n.2 []with
     |error z=>rw[h4]at h;cases h
     |ok l=>
      rw[h4,aR]at h;cases h5:rdStr s l.2 with
      |error z=>rw[h5]at h;cases h
      |ok t=>
       rw[h5,aR]at h;split at h
       ·cases h
       ·injection h with h
        subst h;have hn:=Tg (x:=n.1) (n:=n.2) h3;have hl:=Xmg s _ _ _ l.1 l.2 h4 (by simp);refine⟨Xg1 _,Nat.le_of_lt (BB (x:=q.1) (n:=q.2) h2).2.2,Nat.le_of_lt (BB (x:=t.1) (n:=t.2) h5).2.2,?_,hl.2,rfl,rfl,rfl⟩;show l.1.length≤400;rw[hl.1];simp;omega
abbrev GD(n:Nat)(vx:Value)(a b:Int):List (Option Tmp×Value):=
 [(some 46,.pointer (some ⟨n+1,6,none⟩)),(some 47,vx),(some 48,.int .i64 a),(some 49,.int .i64 b),(some 50,zI (n+4)),(some 51,undef),(some 52,undef),(some 53,undef),(some 54,undef),(some 55,undef),(none,undef)]
theorem KO{a b:Int}:dL (GD n vx a b):=by
 unfold dL;simp
theorem Xur:(Tryz.prog.info? 134).map (fun i=>(i.zero,i.size,i.bytes))=some (some (.agg #[.int .i64 0,.int .i64 0,.int .i64 0]),3,24):=by kernel_rfl
theorem Xus:fq Tryz.prog 24 134 mE 24:=fq.of Tryz.underlying24 Xur rfl (by decide) rfl
def GG(I:IH)(w:World)(r:Rd ay)(e:Ending)(w':World):Prop:=
 match r with
 | .ok (x,n)=> ∃va vx J,e= .returned (.tuple #[eT x va vx,.int .i64 (n:Int),.int .i64 0])∧bf kT J va x.ai∧bf mE J vx x.ak∧Ext w.heap.size I J∧Ok J w'∧Below w.heap.size w w'
 | .error z=>e= .returned (.tuple #[.agg aC,.int .i64 0,.int .i64 z])∧Below w.heap.size w w'
theorem Xv6{fn:Func}{p q r:Tmp}{ty tz tu:TypeId}(h:fn.results=#[.cell p ty,.cell q tz,.cell r tu])(tmps:Array Value)(P:Program)(w:World):
 (results fn tmps).run P w=
   ((asAddr (tmps.getD p undef)).run P w).andThen fun a w₁=>((loadVar ty a).run P w₁).andThen fun v w₂=>
   ((asAddr (tmps.getD q undef)).run P w₂).andThen fun a w₁=>((loadVar tz a).run P w₁).andThen fun v2 w₂=>
   ((asAddr (tmps.getD r undef)).run P w₂).andThen fun a w₁=>((loadVar tu a).run P w₁).andThen fun v3 w₂=> .ok (.tuple #[v,v2,v3]) w₂:=by
 simp only[results,h];simp[Sem.run_bind,Result.andThen]
theorem Xkh(h4:tmps.getD 4 undef=dJ (n+1))(h5:tmps.getD 5 undef=dJ (n+2))(h6:tmps.getD 6 undef=dJ (n+3))
 (r1:W.heap[n+1]?=some (.cells C 26 (0,0))) (hC:C.size=7) (r2:W.heap[n+2]?=some (.cells #[a] 3 (0,0))) (r3:W.heap[n+3]?=some (.cells #[b] 30 (0,0))):
 (results Tryz.f105 tmps).run Tryz.prog W= .ok (.tuple #[.agg C,a,b]) W:=by
 have BH:(Tryz.prog.info? 26).map (·.size)=some C.size:=by rw[hC];kernel_rfl
 have c2:=cell0 r2;have c3:=cell0 r3;rw[Xv6 rfl,h4,h5,h6];have L1:(loadVar 26 ⟨n+1,0,none⟩).run Tryz.prog W= .ok (.agg C) W:=run_loadVar_row _ (n+1) 26 26 C (0,0) _ r1 Tryz.underlying26 rfl BH;have L2:(loadVar 3 ⟨n+2,0,none⟩).run Tryz.prog W= .ok a W:=by simp[go_sem,c2]
 have L3:(loadVar 30 ⟨n+3,0,none⟩).run Tryz.prog W= .ok b W:=by simp[go_sem,c3]
 simp[asAddr,L1,L2,L3,Result.andThen]
def TK(Q:Exit→Act→World→Prop):Exit→Act→World→Prop
 | .panic _,_,_=>False
 |e,a,w=>Q e a w
theorem Xz8{P:Program}{c:Code}{a:Act}(h:c.wp P (TK Q) a w):c.wp P Q a w:=
 Code.wp_mono (fun e a w h=>by
  cases e with
  |panic _=>exact h.elim
  |_=>exact h) h
theorem TK.normal{a:Act}(h:Q .normal a w):TK Q .normal a w:=h
theorem Xqh:∀(l:List (Option Tmp×Value)) (k:Nat) (s:Array Bool) (a:Act),(cZ l k s a).defers=a.defers
 | [],_,_,_=>rfl
 |(d,v)::l,k,s,a=>by
  rw[cZ,Xqh l];split
  ·cases d<;>rfl
  ·rfl
theorem Xpr:∀(s:ae) (n a:Nat) (acc l:List Xt) (b:Nat),ji s n a acc= .ok (l,b)→(∀x∈acc,x.Wf)→l.length=acc.length+n∧ ∀x∈l,x.Wf
 |s,0,a,acc,l,b,h,ha=>by
  rw[ji]at h;injection h with h
  injection h with h1 h2
  subst h1;exact⟨rfl,ha⟩
 |s,n+1,a,acc,l,b,h,ha=>by
  rw[ji]at h;cases h1:rdNum s a with
  |error e=>rw[h1]at h;cases h
  |ok p=>
   rw[h1,aR]at h;cases h2:rdNum s p.2 with
   |error e=>rw[h2]at h;cases h
   |ok q=>
    rw[h2,aR]at h;cases h3:rdNum s q.2 with
    |error e=>rw[h3]at h;cases h
    |ok r=>
     rw[h3,aR]at h;have:=Xpr s n r.2 _ l b h (fun x hx=>by
      rcases List.mem_append.1 hx with hx|hx
      ·exact ha x hx
      ·rw[List.mem_singleton.1 hx];have e1:=(Gn (x:=p.1) (n:=p.2) h1).2.2;have e2:=(Gn (x:=q.1) (n:=q.2) h2).2.2;have e3:=(Gn (x:=r.1) (n:=r.2) h3).2.2;refine⟨⟨?_,?_⟩,⟨?_,?_⟩,⟨?_,?_⟩⟩<;>simp only<;>omega)
     refine⟨?_,this.2⟩;rw[this.1,List.length_append];simp;omega
theorem Xw9{hh:ae}{x:ay}(h:PU hh x)(hl:hh.length≤4294967280)(hz: -2147483648≤z∧z≤2147483647){dg:ae}(hd:dg.length≤4294967280){l:List Xt}(hx:∀y∈l,y.Wf):(bW x z dg l).Wf:=by
 obtain⟨k1,k2,k3,k4,k5,k6,k7,k8⟩:=h;refine⟨by show _≤x.ag;omega,by show x.ag≤_;omega,by show x.af.length≤_;omega,fun y hy=> ?_,by show x.target.length≤_;omega,by show _≤z;omega,by show z≤_;omega,by show dg.length≤_;omega,hx⟩;have:=k5 y hy;exact⟨by omega,by omega⟩
theorem lT.ok0(h:lT I w J W):Ok I W:=fun b c hb=>h.ok b c (h.keep b c hb)
structure wW (I:IH) (w:World) (s:ae) (J:IH) (a:Nat) (W:World):Prop where
 mt:lT I w J W
 ex:Ext w.heap.size I J
 fr:∀g,w.heap.size≤g→g<w.heap.size+8→J g=none
 rb:vg W (w.heap.size+4) s w.heap.size
 at_:uh W w.heap.size a
 r2:W.heap[w.heap.size+2]?=some (.cells #[.int .i64 0] 3 (0,0))
 r3:W.heap[w.heap.size+3]?=some (.cells #[.int .i64 0] 30 (0,0))
 sz:w.heap.size+8≤W.heap.size
section
variable {I J J':IH} {w W W':World} {s:ae} {a b:Nat}
theorem wW.aA(h:wW I w s J a W)(hb:Below W.heap.size W W'):wW I w s J a W':=
 ⟨h.mt.quiet hb,h.ex,h.fr,h.rb.aA hb,mV h.at_ hb,mV h.r2 hb,mV h.r3 hb,Nat.le_trans h.sz hb.size⟩
theorem wW.ext(h:wW I w s J a W)(hb:Below W.heap.size W W')(hx:Ext W.heap.size J J')(gK:Ok J' W'):wW I w s J' a W':=
 ⟨h.mt.ext hb hx gK,h.ex.trans (hx.mono (by have:=h.sz;omega)) (Qn _),fun g h1 h2=>by rw[hx g (by have:=h.sz;omega)];exact h.fr g h1 h2,h.rb.aA hb,mV h.at_ hb,mV h.r2 hb,mV h.r3 hb,Nat.le_trans h.sz hb.size⟩
theorem wW.grown(h:wW I w s J a W){row:Option Nat}(hg:W.grownBy W' row)(hr:∀g,row=some g→J g=none∧(g=w.heap.size+1∨w.heap.size+7<g)):wW I w s J a W':=by
 exact⟨⟨h.mt.ok.grown hg (fun g q=>(hr g q).1),h.mt.keep,h.mt.fA.grown hg h.mt.size (fun g q=>by have:=(hr g q).2;omega)⟩,h.ex,h.fr,
  h.rb.own hg (fun g q=>by have:=(hr g q).2;omega),jC h.at_ hg (fun q=>by have:=(hr _ q).2;omega),jC h.r2 hg (fun q=>by have:=(hr _ q).2;omega),jC h.r3 hg (fun q=>by have:=(hr _ q).2;omega),Nat.le_trans h.sz hg.size⟩
theorem wW.own(h:wW I w s J a W)(hg:W.grownBy W' (some (w.heap.size+1))):wW I w s J a W':=h.grown hg (fun g q=>by injection q with q;subst q;exact⟨h.fr _ (by omega) (by omega),.inl rfl⟩)
theorem wW.read(h:wW I w s J a W)(ha:uh W' w.heap.size b)(hg:W.grownBy W' (some w.heap.size)):wW I w s J b W':=
 ⟨⟨h.mt.ok.grown hg (fun g q=>by injection q with q;subst q;exact h.fr _ (Qn _) (by omega)),h.mt.keep,h.mt.fA.grown hg h.mt.size (fun g q=>by injection q with q;omega)⟩,h.ex,h.fr,
  h.rb.own hg (fun g q=>by injection q with q;omega),ha,jC h.r2 hg (fun q=>by injection q with q;omega),jC h.r3 hg (fun q=>by injection q with q;omega),Nat.le_trans h.sz hg.size⟩
end
abbrev wX(n:Nat):List Deferred:=[{target:=Target.fn (Fn.func 159) #[dJ (n+1),dJ (n+2),dJ (n+3)],args:=#[]}]
theorem Xnm(h4:tmps.getD 4 undef=dJ (w.heap.size+1))(h5:tmps.getD 5 undef=dJ (w.heap.size+2))(h6:tmps.getD 6 undef=dJ (w.heap.size+3))
 (rO:Below w.heap.size w W) (r2:W.heap[w.heap.size+2]?=some (.cells #[.int .i64 0] 3 (0,0))) (r3:W.heap[w.heap.size+3]?=some (.cells #[.int .i64 0] 30 (0,0))) (hE:W.heap[w.heap.size+1]?=some (.cells (aQ y va vx) 26 (0,0))):
 Leaves Tryz.prog Tryz.f105 tmps (GG I w (.error z)) (wX w.heap.size) (.panicking [{v:=ug z,recovered:=false}]) W:=by
 refine leaves_cons (by simp) rfl ((Xzv (w.heap.size+1) (w.heap.size+2) (w.heap.size+3) _ _ y va vx z [] W hE r2 r3 (by omega) (by omega) (by omega)).mono ?_);rintro e u' w' ⟨rfl,rfl,r1,r2,r3,hb⟩;exact⟨_,Xkh h4 h5 h6 r1 rfl r2 r3,rfl,rO.trans ((hb w.heap.size (by omega) (by omega) (by omega) rO.size))⟩
theorem KP{a:Nat}{R:Rd ay}(hR:R= .error z)(h4:tmps.getD 4 undef=dJ (w.heap.size+1))(h5:tmps.getD 5 undef=dJ (w.heap.size+2))(h6:tmps.getD 6 undef=dJ (w.heap.size+3))
 (hK:wW I w s J a W) (hE:W.heap[w.heap.size+1]?=some (.cells (aQ y va vx) 26 (0,0))):
 Leaves Tryz.prog Tryz.f105 tmps (GG I w R) (wX w.heap.size) (.panicking [{v:=ug z,recovered:=false}]) W:=
 hR▸Xnm h4 h5 h6 hK.mt.fA hK.r2 hK.r3 hE
theorem Xx9{R:Ending→World→Prop}(h4:tmps.getD 4 undef=dJ (n+1))(h5:tmps.getD 5 undef=dJ (n+2))(h6:tmps.getD 6 undef=dJ (n+3))
 (r1:W.heap[n+1]?=some (.cells C 26 (0,0))) (hC:C.size=7) (r2:W.heap[n+2]?=some (.cells #[a] 3 (0,0))) (r3:W.heap[n+3]?=some (.cells #[b] 30 (0,0)))
 (hR:R (.returned (.tuple #[.agg C,a,b])) W):Leaves Tryz.prog Tryz.f105 tmps R (wX n) .returning W:=by
 refine leaves_cons (by simp) rfl ((Xzu (n+1) (n+2) (n+3) W).mono ?_);rintro e u' w' ⟨rfl,rfl,rfl⟩;exact⟨_,Xkh h4 h5 h6 r1 hC r2 r3,hR⟩
theorem Xne(I:IH)(hI:dG I)(s:ae)(hs:s.length≤4294967280)(w:World)(hw:Ok I w):
 Calls Tryz.prog 105 #[S s,.int .i64 0] w (GG I w (jB s 0)):=by
 have Hr:=Qh (show jB s 0=Rb (rdStr s 0) fun h=>Rb (ek h.1) fun e=>Rb (rdNum s h.2) fun z=>Rb (rdStr s z.2) fun d=>Rb (gW 65536 s d.2) fun n=>Rb (ji s n.1.toNat n.2 []) fun l=>
  jV (bW e z.1 d.1 l.1) l.2 from rfl)
 generalize jB s 0=R at Hr ⊢;have d0:decide ((s.length:Int)<0)=false:=Qf (by omega);have ku:=Qh (Xnd s w.heap.size ((((w.alloc (.cells #[.int .i64 0] 3)).alloc (.cells aC 26)).alloc (.cells #[.int .i64 0] 3)).alloc (.cells #[.int .i64 0] 30)) (by simp;omega));have A0:=Qh (Xp8 w #[.int .i64 0] aC #[.int .i64 0] #[.int .i64 0] 3 26 3 30);have A1:=Qh (Xp9 w #[.int .i64 0] aC #[.int .i64 0] #[.int .i64 0] 3 26 3 30);have A2:=Qh (Xqa w #[.int .i64 0] aC #[.int .i64 0] #[.int .i64 0] 3 26 3 30);have A3:=Qh (Xqb w #[.int .i64 0] aC #[.int .i64 0] #[.int .i64 0] 3 26 3 30);have M0:=Qh ((((lT.start hw).past (.cells #[.int .i64 0] 3)).past (.cells aC 26)).past (.cells #[.int .i64 0] 3) |>.past (.cells #[.int .i64 0] 30));go_enter_defers Tryz.func105,Tryz.ntmps105
 go_wp2_with fail
 refine ku.O.mono ?_;rintro e W1 ⟨rfl,RG,au,cO⟩;rw[show((((w.alloc (.cells #[.int .i64 0] 3)).alloc (.cells aC 26)).alloc (.cells #[.int .i64 0] 3)).alloc (.cells #[.int .i64 0] 30)).heap.size=w.heap.size+4 by simp]at*;have K1:=Qh (show wW I w s I 0 W1 from⟨M0.O.quiet (au.mono (by simp)),Ext.refl _ _,fun g h1 _=>hw.fresh h1,RG,mV A0.O (au.mono (by simp)),mV A2.O (au.mono (by simp)),mV A3.O (au.mono (by simp)),by omega⟩);have E1:=Qh (mV A1.O (au.mono (by simp)));clear A0 A1 A2 A3 M0 ku au RG;go_wp2_with fail
 have lI:(Tryz.prog.info? 26).map (·.size)=some 7:=by kernel_rfl
 have JF:(Tryz.prog.info? 9).map (·.size)=some 1:=by kernel_rfl
 cases h1:rdStr s 0 with
 |error z=>
  rw[h1,dK]at Hr;refine(Kr I hI s hs _ _ 0 _ K1.O.mt.ok K1.O.rb K1.O.at_ (by omega) z (ze h1) h1).mono ?_;rintro e w4 ⟨rfl,aL⟩;exact KP Hr.O (y:=⟨0,[],[],[],0,[],[]⟩) (va:= .slice none 0 0) (vx:= .slice none 0 0) rfl rfl rfl (K1.O.aA aL) (mV E1.O aL)
 |ok q=>
 obtain⟨hh,a1⟩:=q;rw[h1,aR]at Hr;try dsimp only at Hr
 have Aq:=(BB h1).2;refine(Kq I hI s hs _ _ 0 _ K1.O.mt.ok K1.O.rb K1.O.at_ (by omega) hh a1 h1).mono ?_;rintro e W2 ⟨rfl,uG,hg2⟩;have K2:=Qh (K1.O.read uG hg2);have E2:=Qh (jC E1.O hg2 (fun q=>by injection q with q;omega));clear h1 K1 E1 uG hg2 cO;go_wp2_with fail
 have I5:=Xzc I hI hh (by omega) W2 K2.O.mt.ok;cases h2:ek hh with
 |error z=>
  rw[h2,dK]at Hr;rw[h2]at I5;refine I5.mono ?_;rintro e w4 ⟨rfl,aL⟩;exact KP Hr.O (y:=⟨0,[],[],[],0,[],[]⟩) (va:= .slice none 0 0) (vx:= .slice none 0 0) rfl rfl rfl (K2.O.aA aL) (mV E2.O aL)
 |ok x=>
 rw[h2,aR]at Hr;rw[h2]at I5;refine I5.mono ?_;rintro e W3 ⟨va,J,rfl,dV,hxJ,hJ,bU⟩;have hox:=Qh (Xsy h2);obtain⟨Fz,FB,Xm,_⟩:=id dV;subst Xm;have K3:=Qh (K2.O.ext bU hxJ hJ);have E3:=Qh (mV E2.O bU);have HV:=Qh dV;clear h2 K2 E2 bU hxJ hJ I5 dV
 go_wp2_with (refine rz rfl rfl 26 _ _ rfl (w.heap.size+1) 0 (aQ x (.slice Fz x.ai.length FB) (.slice none 0 0)).toList (.agg (aQ x (.slice Fz x.ai.length FB) (.slice none 0 0))) (by simp[Act.eval,Act.put]) (by simp[Act.eval,Act.put]) (by rfl) aC 26 E3.O (by simp) lI (by simp[Value.oneCell']) (aQ x (.slice Fz x.ai.length FB) (.slice none 0 0)) (by rfl) ?_
              intro W4 Oq zm;have K4:=Qh (K3.O.own Oq);have E4:=Qh zm)
 cases h3:rdNum s a1 with
 |error z=>
  rw[h3,dK]at Hr;refine(Pn I hI s hs _ _ a1 _ K4.O.mt.ok0 K4.O.rb K4.O.at_ (by omega) z (DC h3) h3).mono ?_;rintro e w4 ⟨rfl,aL⟩;exact KP Hr.O rfl rfl rfl (K4.O.aA aL) (mV E4.O aL)
 |ok q=>
 obtain⟨zz,a2⟩:=q;rw[h3,aR]at Hr;try dsimp only at Hr
 have uG:=(Gn h3).2;refine(Nq I hI s hs _ _ a1 _ K4.O.mt.ok0 K4.O.rb K4.O.at_ (by omega) zz a2 h3).mono ?_;rintro e W5 ⟨rfl,PV,hg5⟩;have K5:=Qh (K4.O.read PV hg5);have E5:=Qh (jC E4.O hg5 (fun q=>by injection q with q;omega));clear h3 K3 E3 K4 E4 PV hg5 Oq zm
 go_wp2_with (refine rz rfl rfl 3 _ _ rfl (w.heap.size+1) 4 [.int .i64 zz] (.int .i64 zz) (by simp[Act.eval,Act.put]) (by simp[Act.eval,Act.put]) (by rfl) (aQ x (.slice Fz x.ai.length FB) (.slice none 0 0)) 26 E5.O (by simp) Fu (by simp[Value.oneCell']) (aQ {x with size:=zz} (.slice Fz x.ai.length FB) (.slice none 0 0)) (by rfl) ?_
              intro W6 xD Ky;have K6:=Qh (K5.O.own xD);have E6:=Qh Ky)
 cases h4:rdStr s a2 with
 |error z=>
  rw[h4,dK]at Hr;refine(Kr I hI s hs _ _ a2 _ K6.O.mt.ok0 K6.O.rb K6.O.at_ (by omega) z (ze h4) h4).mono ?_;rintro e w4 ⟨rfl,aL⟩;exact KP Hr.O rfl rfl rfl (K6.O.aA aL) (mV E6.O aL)
 |ok q=>
 obtain⟨dg,a3⟩:=q;rw[h4,aR]at Hr;try dsimp only at Hr
 have CE:=(BB h4).2;refine(Kq I hI s hs _ _ a2 _ K6.O.mt.ok0 K6.O.rb K6.O.at_ (by omega) dg a3 h4).mono ?_;rintro e W7 ⟨rfl,PW,kI⟩;have K7:=Qh (K6.O.read PW kI);have E7:=Qh (jC E6.O kI (fun q=>by injection q with q;omega));clear h4 K5 E5 K6 E6 PW kI xD Ky
 go_wp2_with (refine rz rfl rfl 9 _ _ rfl (w.heap.size+1) 5 [S dg] (S dg) (by simp[Act.eval,Act.put]) (by simp[Act.eval,Act.put]) (by rfl) (aQ {x with size:=zz} (.slice Fz x.ai.length FB) (.slice none 0 0)) 26 E7.O (by simp) JF (by simp[Value.oneCell']) (aQ (bW x zz dg []) (.slice Fz x.ai.length FB) (.slice none 0 0)) (by rfl) ?_
              intro W8 uo I6;have K8:=Qh (K7.O.own uo);have E8:=Qh I6)
 cases h5:gW 65536 s a3 with
 |error z=>
  rw[h5,dK]at Hr;refine(Xg6 I hI s hs _ _ a3 _ K8.O.mt.ok0 K8.O.rb K8.O.at_ (by omega) 65536 z h5).mono ?_;rintro e w6 ⟨rfl,xD⟩;rw[Hr.O];exact Xnm rfl rfl rfl (K8.O.mt.fA.grown xD K8.O.mt.size (fun g q=>by injection q with q;omega)) (jC K8.O.r2 xD (fun q=>by injection q with q;omega)) (jC K8.O.r3 xD (fun q=>by injection q with q;omega)) (jC E8.O xD (fun q=>by injection q with q;omega))
 |ok q=>
 obtain⟨N,a4⟩:=q;rw[h5,aR]at Hr;try dsimp only at Hr
 have hN:=Tg h5;refine(Xi0 I hI s hs _ _ a3 _ K8.O.mt.ok0 K8.O.rb K8.O.at_ (by omega) 65536 N a4 h5).mono ?_;rintro e W9 ⟨rfl,PX,fw⟩;have K9:=Qh (K8.O.read PX fw);have E9:=Qh (jC E8.O fw (fun q=>by injection q with q;omega));have O9:=Qh (aM.nil mE 134 J W9 W9.heap.size);have Xn:∀b,W9.heap.size≤b→J b=none:=fun b hb=>K9.O.mt.ok.fresh hb;obtain⟨m,rfl⟩:∃m:Nat,N=(m:Int):=⟨N.toNat,by omega⟩;rw[Int.toNat_natCast]at Hr;obtain⟨L,hL⟩:∃L,ji s m a4 []=L:=⟨_,rfl⟩;rw[hL]at Hr;have HL:=Qh hL;have hm:m≤65536:=by omega
 have Fx:=hN.2.1;have akW:=K9.O.sz;clear h5 hN K7 E7 K8 E8 PX fw uo I6 hL;generalize hN9:W9.heap.size=N9 at*;go_wp2_with fail
 have HL0:=HL;go_loopw [10,11,40] (fun s10 s11 s40 wr=> ∃(k a:Nat) (acc:List Xt) (vx:Value),k≤m∧s40= .int .i64 k∧acc.length=k∧a≤s.length∧wW I w s J a wr∧wr.heap[w.heap.size+1]?=some (.cells (aQ (bW x zz dg []) (.slice Fz x.ai.length FB) vx) 26 (0,0))∧aM mE 134 J wr N9 vx acc∧N9≤wr.heap.size∧ji s (m-k) a acc=L) (fun _ _ i _=>m-(intOf i).toNat)
 case atStart=>exact⟨0,a4,[],_,Nat.zero_le _,rfl,rfl,Fx,K9.O,E9.O,O9.O,Nat.le_of_eq hN9.symm,HL.O⟩
 case round=>
  clear K9 E9 O9 HL Fx hN9;obtain⟨k,a,acc,vx,hk,rfl,Cq,ha,hK,hE,hO,cK,Mt⟩:=hrel;have HK:=Qh hK;have HE:=Qh hE;have HO:=Qh hO;have ku:=Qh Mt;have vC:=Qh Cq;clear hK hE hO Mt Cq;by_cases hlt:k<m
  ·go_wp2_with fail
   rw[show m-k=m-(k+1)+1 by omega,ji]at ku;cases h4:rdNum s a with
   |error z=>
    rw[h4,dK]at ku;refine(Pn I hI s hs _ _ a _ HK.O.mt.ok0 HK.O.rb HK.O.at_ (by omega) z (DC h4) h4).mono ?_;rintro e w5 ⟨rfl,aY⟩;exact KP (Hr.O.trans (by rw[←ku.O];rfl)) rfl rfl rfl (HK.O.aA aY) (mV HE.O aY)
   |ok q=>
   obtain⟨ss,a5⟩:=q;rw[h4,aR]at ku;try dsimp only at ku
   have PR:=(Gn h4).2;refine(Nq I hI s hs _ _ a _ HK.O.mt.ok0 HK.O.rb HK.O.at_ (by omega) ss a5 h4).mono ?_;rintro e V1 ⟨rfl,PY,hg1⟩;have K1:=Qh (HK.O.read PY hg1);have E1:=Qh (jC HE.O hg1 (fun q=>by injection q with q;omega));have O1:=Qh (HO.O.kept hg1 (.inr (HO.O.dw (by omega))));have hne1:=Nat.le_trans cK hg1.size;clear h4 HK HE HO PY hg1;go_wp2_with fail
   cases h5:rdNum s a5 with
   |error z=>
    rw[h5,dK]at ku;refine(Pn I hI s hs _ _ a5 _ K1.O.mt.ok0 K1.O.rb K1.O.at_ (by omega) z (DC h5) h5).mono ?_;rintro e w5 ⟨rfl,aY⟩;exact KP (Hr.O.trans (by rw[←ku.O];rfl)) rfl rfl rfl (K1.O.aA aY) (mV E1.O aY)
   |ok q=>
   obtain⟨oo,a6⟩:=q;rw[h5,aR]at ku;try dsimp only at ku
   have ha6:=(Gn h5).2;refine(Nq I hI s hs _ _ a5 _ K1.O.mt.ok0 K1.O.rb K1.O.at_ (by omega) oo a6 h5).mono ?_;rintro e W8 ⟨rfl,PZ,hg2⟩;have K8:=Qh (K1.O.read PZ hg2);have E8:=Qh (jC E1.O hg2 (fun q=>by injection q with q;omega));have O8:=Qh (O1.O.kept hg2 (.inr (O1.O.dw (by omega))));have DV:=Nat.le_trans hne1 hg2.size;clear h5 K1 E1 O1 PZ hg2;have cA:=(ent_row E8.O).c6;go_wp2_with fail
   cases h6:rdNum s a6 with
   |error z=>
    rw[h6,dK]at ku;have hRz:R= .error z:=Hr.O.trans (by rw[←ku.O];rfl);have KI:=Qh (fun(W:World) (h1:Ok I W) (h2:vg W (w.heap.size+4) s w.heap.size) (h3:uh W w.heap.size a6)=>Pn I hI s hs _ _ a6 W h1 h2 h3 (by omega) z (DC h6) h6);refine BD (X:=Unit) (fun _=>GD w.heap.size vx ss oo) (fun _ s w'=>s.getD 5 false=false∧Below W8.heap.size W8 w') (by kernel_rfl) (by kernel_rfl) ⟨(),by simp,(Qb _ _).drew⟩ ?_ ?_
    ·rintro⟨⟩ s9 a' w' i eU iK ha ⟨xE,jY⟩ hi;obtain⟨bO,oi,jb,aG⟩:=mem_ready.1 hi;have Xg:=dQ jY cA;rcases i with _|_|_|_|_|_|_|_|_|_|_|i
     rotate_left 11
     ·simp at jb
     all_goals
      have iD:=jb;simp at jb;subst jb;simp[Region.binds]at aG
     ·have e8:a'.tmps[4]?.getD undef=dJ (w.heap.size+1):=qR ha (by simp[GD]);refine wpOp_step iD (fun K' hK=> ?_);rw[if_pos (by rfl)];unfold Oper.wp;simp[go_sem,e8,Oper.upon];exact hK _ _ ⟨(),jK (d:=some 46) (v:= .pointer (some ⟨w.heap.size+1,6,none⟩)) KO ha rfl bO,by rw[getD_set_ne (by decide)];exact xE,jY⟩
     ·have e35:a'.tmps[46]?.getD undef= .pointer (some ⟨w.heap.size+1,6,none⟩):=nO (i:=0) KO ha rfl (by simpa using aG) (by simp);refine wpOp_step iD (fun K' hK=> ?_);rw[if_pos (by rfl)];unfold Oper.wp;simp[go_sem,e35,Xg,Oper.upon];exact hK _ _ ⟨(),jK (d:=some 47) (v:=vx) KO ha rfl bO,by rw[getD_set_ne (by decide)];exact xE,jY⟩
     ·have e9:a'.tmps[10]?.getD undef= .int .i64 ss:=qR ha (by simp[GD]);refine wpOp_step iD (fun K' hK=> ?_);rw[if_pos (by rfl)];unfold Oper.wp;simp[go_sem,e9,Oper.upon];exact hK _ _ ⟨(),jK (d:=some 48) (v:= .int .i64 ss) KO ha rfl bO,by rw[getD_set_ne (by decide)];exact xE,jY⟩
     ·have e9:a'.tmps[11]?.getD undef= .int .i64 oo:=qR ha (by simp[GD]);refine wpOp_step iD (fun K' hK=> ?_);rw[if_pos (by rfl)];unfold Oper.wp;simp[go_sem,e9,Oper.upon];exact hK _ _ ⟨(),jK (d:=some 49) (v:= .int .i64 oo) KO ha rfl bO,by rw[getD_set_ne (by decide)];exact xE,jY⟩
     ·have e5:a'.tmps[7]?.getD undef=zI (w.heap.size+4):=qR ha (by simp[GD]);refine wpOp_step iD (fun K' hK=> ?_);rw[if_pos (by rfl)];unfold Oper.wp;simp[go_sem,e5,Oper.upon];exact hK _ _ ⟨(),jK (d:=some 50) (v:=zI (w.heap.size+4)) KO ha rfl bO,by rw[getD_set_ne (by decide)];exact xE,jY⟩
     ·have e38:a'.tmps[50]?.getD undef=zI (w.heap.size+4):=nO (i:=4) KO ha rfl (by simpa using aG) (by simp);have Kw:=K8.O.aA jY;refine wpOp_step iD (fun K' hK=> ?_);rw[if_pos (by rfl)];unfold Oper.wp;simp[go_sem,e38,Oper.upon];refine(KI.O w' Kw.mt.ok0 Kw.rb Kw.at_).mono ?_;rintro r9 w9 ⟨rfl,iq⟩;have e4:a'.tmps[4]?.getD undef=dJ (w.heap.size+1):=qR ha (by simp[GD]);have e5:a'.tmps[5]?.getD undef=dJ (w.heap.size+2):=qR ha (by simp[GD]);have e6:a'.tmps[6]?.getD undef=dJ (w.heap.size+3):=qR ha (by simp[GD]);have hd:a'.defers=wX w.heap.size:=by rw[ha,Xqh]
      have key:Leaves Tryz.prog Tryz.f105 a'.tmps (GG I w R) a'.defers (.panicking [{v:=ug z,recovered:=false}]) w9:=by
       rw[hd];exact KP hRz (by rw[Array.getD_eq_getD_getElem?];exact e4) (by rw[Array.getD_eq_getD_getElem?];exact e5) (by rw[Array.getD_eq_getD_getElem?];exact e6) (Kw.aA iq) (mV (mV E8.O jY) iq)
      exact key
     all_goals
      have h4':s9[5]?.getD false=false:=by simpa using xE
      have h5':s9[6]?.getD false=false:=by
       cases h5:s9[6]?.getD false with
       |false=>rfl
       |true=>
        have h6:=Pj iK [5] 6 5 (by kernel_rfl) (by rfl) (by simpa using h5);rw[xE]at h6;cases h6
      simp[h4',h5']at aG
    ·rintro⟨⟩ s9 a' w' jQ ha ⟨xE,jY⟩;have:=jQ 5 (by decide);rw[xE]at this;cases this
   |ok q=>
   obtain⟨nn,a7⟩:=q;rw[h6,aR]at ku;try dsimp only at ku
   have TH:=(Gn h6).2;have KI:=Qh (fun(W:World) (h1:Ok I W) (h2:vg W (w.heap.size+4) s w.heap.size) (h3:uh W w.heap.size a6)=>Nq I hI s hs _ _ a6 W h1 h2 h3 (by omega) nn a7 h6);have Q1:Ok I W8.drew:=K8.O.mt.ok0;have Q2:vg W8.drew (w.heap.size+4) s w.heap.size:=⟨K8.O.rb.r0,K8.O.rb.r1,K8.O.rb.r2,K8.O.rb.r3,K8.O.rb.lt⟩;have Q3:uh W8.drew w.heap.size a6:=K8.O.at_;refine Xz8 ?_
   go_region_law (first
                  |(refine Xd7 rfl _ _ 24 24 rfl _ _ (by simp[Act.eval,Act.put]) (by simp[Act.eval,Act.put]) DW ?_)
                  |(go_simp
                    go_at_call 233
                    refine(KI.O _ Q1 Q2 Q3).mono ?_;rintro e w9 ⟨rfl,Xh,uu⟩;have fw:W8.grownBy w9 (some w.heap.size):=⟨uu.os,uu.tape,uu.output,uu.size,uu.block⟩;have K9:=Qh (K8.O.read Xh fw);have E9:=Qh (jC E8.O fw (fun q=>by injection q with q;omega));have O9:=Qh (O8.O.kept fw (.inr (O8.O.dw (by omega))));have BK:=Nat.le_trans DV fw.size;obtain⟨v10,KJ,DW,wV,uw⟩:=Xpn Xus O9.O ⟨ss,oo,nn⟩ [.int .i64 ss,.int .i64 oo,.int .i64 nn] 134 24 rfl (by rw[vC.O];omega) (by rw[vC.O];omega) BK;obtain⟨KL,KM,rfl⟩:=wV.shape;rw[List.length_append]at wV;have Xi:=(ent_row E9.O).c6;have cB9:=gD (.cells #[.int .i64 ss,.int .i64 oo,.int .i64 nn] 134) Xi;have KN:=Qh (jC E9.O uw (O9.O.dw (by omega)));have Xj:=(ent_row KN.O).c6;have Xk:KJ.frozen? ⟨w.heap.size+1,6,none⟩=false:=by unfold World.frozen?;rw[KN.O];rfl))
   all_goals
    refine TK.normal ?_;go_wp2;go_roundw;case rel=>exact⟨k+1,a7,acc++[⟨ss,oo,nn⟩],.slice KL (acc.length+1) KM,by omega,by go_num,by rw[List.length_append,vC.O];rfl,TH.1,(K9.O.grown uw (fun g q=>by have:=O9.O.qY q;exact⟨Xn g this,by omega⟩)).own ⟨rfl,rfl,rfl,by simp[World.setCell],fun k _ hk=>Below.heap_setCell _ _ _ _ (fun q=>hk (by rw[q]))⟩,Xpo KN.O _,wV.PQ (n:=w.heap.size+1) (wV.dw (by omega)) _,by simpa[World.setCell]using Nat.le_trans BK uw.size,by rw[←ku.O]⟩
    case measure=>simp[intOf];omega
  ·have he:k=m:=by omega
   subst he;rw[Nat.sub_self,ji]at ku;have zK:=Qh (show R=jV (bW x zz dg acc) a by rw[Hr.O,←ku.O];rfl);clear Hr hk hlt;obtain⟨Gz,GA,rfl⟩:=HO.O.shape;have HE2:=Qh (show wr.heap[w.heap.size+1]?=some (.cells (aQ (bW x zz dg acc) (.slice Fz x.ai.length FB) (.slice Gz acc.length GA)) 26 (0,0))from HE.O);go_wp2_with (refine wpList_load_row rfl 26 _ rfl (w.heap.size+1) rfl 26 _ (0,0) _ HE2.O Tryz.underlying26 rfl lI ?_)
   have hLe:ji s k a4 []= .ok (acc,a):=by rw[HL0.O,←ku.O]
   have Ot:=(Xpr s k a4 [] acc a hLe (by simp)).2;have iZ:=Xw9 hox.O (by omega) ⟨uG.2.1,uG.2.2⟩ (dg:=dg) (by omega) Ot;obtain⟨J2,eZ,aP,zN,_⟩:=HO.O.freeze HK.O.mt.ok Xn;have kp:∀b c,J b=some c→J2 b=some c:=fun b c hc=>by
    rw[eZ b (by
     rcases Nat.lt_or_ge b N9 with h|h
     ·exact h
     ·rw[Xn b h]at hc;cases hc)]
    exact hc
   have KQ:=bf.mono kp HV.O;have M2:lT I w J2 wr:=⟨aP,fun b c h=>kp b c (HK.O.mt.keep b c h),HK.O.mt.fA⟩;have TL:=Qh (HK.O.ex.trans (eZ.mono (show w.heap.size≤N9 by omega)) (Qn _));have FR2:=Qh (fun g (h1:w.heap.size≤g) (h2:g<w.heap.size+8)=>(eZ g (by omega)).trans (HK.O.fr g h1 h2));refine(TA J2 (hI.mono M2.keep) (bW x zz dg acc) _ _ KQ zN iZ (by show x.af.length≤_;have:=hox.O.pa;omega) (by show x.target.length≤_;have:=hox.O.tg;omega) wr aP).mono ?_;rintro e V1 ⟨rfl,au⟩;have K2:=Qh (show wW I w s J2 a V1 from⟨M2.quiet au,TL.O,FR2.O,HK.O.rb.aA au,mV HK.O.at_ au,mV HK.O.r2 au,mV HK.O.r3 au,Nat.le_trans HK.O.sz au.size⟩);have E2:=Qh (mV HE2.O au);have VA:=Qh KQ;have VX:=Qh zN;unfold jV at zK;clear hLe Ot iZ eZ aP zN KQ M2 FR2 HK HE HE2 HO vC au HL0 ku kp;by_cases hz:az (bW x zz dg acc)=0
   ·rw[hz,if_neg (by simp)]at zK;rw[hz];clear hz;go_wp2_with fail
    have EL:(Tryz.prog.info? 30).map (·.size)=some 1:=by kernel_rfl
    obtain⟨C,hC⟩:∃C,C=aQ (bW x zz dg acc) (.slice Fz x.ai.length FB) (.slice Gz acc.length GA):=⟨_,rfl⟩;have E2C:=E2.O;rw[←hC]at E2C;have TM:C.size=7:=by rw[hC];rfl
    have hC1:∀v∈C.toList,v.oneCell'=true:=by rw[hC];simp[Value.oneCell']
    have hCT:=(by simpa using TM:C.toList.length=7)
    refine BD (X:=Unit) (fun _=> [(some 63,.agg C),(some 64,.int .i64 (a:Int)),(none,undef),(none,undef),(none,undef)])
     (fun _ s W=>W.heap[w.heap.size+1]?=some (.cells C 26 (0,0))∧Bk (w.heap.size+2) 1 3 #[.int .i64 (a:Int)] 3 s W∧Bk (w.heap.size+3) 1 30 #[.int .i64 0] 4 s W∧uh W w.heap.size a∧Ok J2 W∧Below w.heap.size w W) (by kernel_rfl) (by kernel_rfl)
     ⟨(),E2C,⟨_,by simp,K2.O.r2,by simp⟩,⟨_,by simp,K2.O.r3,by simp⟩,K2.O.at_,K2.O.mt.ok,K2.O.mt.fA.drew⟩ ?_ ?_
    ·have zt:dL [(some 63,.agg C),(some 64,.int .i64 (a:Int)),(none,undef),(none,undef),(none,undef)]:=by unfold dL;simp
     rintro⟨⟩ s9 a' W i eU iK ha ⟨k1,k2,k3,k0,ko,kb⟩ hi;obtain⟨bO,oi,jb,aG⟩:=mem_ready.1 hi;rcases i with _|_|_|_|_|i
     rotate_left 5
     ·simp at jb
     all_goals
      have iD:=jb;simp at jb;subst jb;simp[Region.binds]at aG
     ·have e4:a'.tmps[4]?.getD undef=dJ (w.heap.size+1):=qR ha (by simp);refine wpOp_step iD (fun K' hK=> ?_);rw[if_pos (by rfl)];refine wp_load_row 26 _ rfl (w.heap.size+1) (by simpa[Act.eval]using e4) 26 C (0,0) _ k1 Tryz.underlying26 rfl (by rw[TM];exact lI) ?_;exact hK _ _ ⟨(),jK (d:=some 63) (v:= .agg C) zt ha rfl bO,k1,k2.up (by decide),k3.up (by decide),k0,ko,kb⟩
     ·have e3:a'.tmps[3]?.getD undef=dJ w.heap.size:=qR ha (by simp);have c0:=cell0 k0;refine wpOp_step iD (fun K' hK=> ?_);rw[if_pos (by rfl)];unfold Oper.wp;simp[go_sem,e3,c0,Oper.upon];exact hK _ _ ⟨(),jK (d:=some 64) (v:= .int .i64 (a:Int)) zt ha rfl bO,k1,k2.up (by decide),k3.up (by decide),k0,ko,kb⟩
     ·have e4:a'.tmps[4]?.getD undef=dJ (w.heap.size+1):=qR ha (by simp);have e63:a'.tmps[63]?.getD undef= .agg C:=nO (i:=0) zt ha rfl (by simpa using aG) (by simp);refine wpOp_step iD (fun K' hK=> ?_);rw[if_pos (by rfl)];refine NB (n:=7) (i:=2) (s:=s9) 26 _ _ rfl rfl C.toList (.agg C) (by simpa[Act.eval]using e4) (by simpa[Act.eval]using e63) (by simp[Value.cells]) (by simp) hCT ⟨C,TM,k1,fun _=>rfl⟩ lI hC1 ?_;intro W' hg hr;exact hK _ _ ⟨(),jK (d:=none) (v:=undef) zt ha rfl bO,hr,(k2.own hg (by omega)).up (by decide),(k3.own hg (by omega)).up (by decide),jC k0 hg (fun q=>by injection q with q;omega),ko.grown hg (fun g q=>by injection q with q;subst q;exact K2.O.fr _ (by omega) (by omega)),kb.grown hg kb.size (fun g q=>by injection q with q;omega)⟩
     ·have e5:a'.tmps[5]?.getD undef=dJ (w.heap.size+2):=qR ha (by simp);have e64:a'.tmps[64]?.getD undef= .int .i64 (a:Int):=nO (i:=1) zt ha rfl (by simpa using aG.1) (by simp);refine wpOp_step iD (fun K' hK=> ?_);rw[if_pos (by rfl)];refine NB 3 _ _ rfl rfl [.int .i64 (a:Int)] (.int .i64 (a:Int)) (by simpa[Act.eval]using e5) (by simpa[Act.eval]using e64) (by rfl) (by rfl) (by rfl) k2 Fu (by simp[Value.oneCell']) ?_;intro W' hg hr;exact hK _ _ ⟨(),jK (d:=none) (v:=undef) zt ha rfl bO,jC k1 hg (fun q=>by injection q with q;omega),.done hr (by rfl),(k3.own hg (by omega)).up (by decide),jC k0 hg (fun q=>by injection q with q;omega),ko.grown hg (fun g q=>by injection q with q;subst q;exact K2.O.fr _ (by omega) (by omega)),kb.grown hg kb.size (fun g q=>by injection q with q;omega)⟩
     ·have e6:a'.tmps[6]?.getD undef=dJ (w.heap.size+3):=qR ha (by simp);refine wpOp_step iD (fun K' hK=> ?_);rw[if_pos (by rfl)];refine NB 30 _ _ rfl rfl [.int .i64 0] (.int .i64 0) (by simpa[Act.eval]using e6) (by rfl) (by rfl) (by rfl) (by rfl) k3 EL (by simp[Value.oneCell']) ?_;intro W' hg hr;exact hK _ _ ⟨(),jK (d:=none) (v:=undef) zt ha rfl bO,jC k1 hg (fun q=>by injection q with q;omega),(k2.own hg (by omega)).up (by decide),.done hr (by rfl),jC k0 hg (fun q=>by injection q with q;omega),ko.grown hg (fun g q=>by injection q with q;subst q;exact K2.O.fr _ (by omega) (by omega)),kb.grown hg kb.size (fun g q=>by injection q with q;omega)⟩
    ·rintro⟨⟩ s9 a' W jQ ha ⟨k1,⟨d2,_,r2,q2⟩,⟨d3,_,r3,q3⟩,k0,ko,kb⟩;have u2:=q2 (jQ 3 (by decide));have u3:=q3 (jQ 4 (by decide));subst u2 u3;rw[CL _ _ _ _ (fun k hk=>by rw[Nat.zero_add];exact jQ k (by simpa using hk))]at ha;simp only[iw,Act.put]at ha;subst ha;go_wp2;refine Xx9 (n:=w.heap.size) rfl rfl rfl k1 TM r2 r3 ?_;rw[zK.O,hC];exact⟨_,_,J2,rfl,VA.O,VX.O,TL.O,ko,kb⟩
   ·rw[if_pos hz]at zK;obtain⟨cz,RV⟩:∃cz,az (bW x zz dg acc)=cz:=⟨_,rfl⟩;rw[RV]at zK hz ⊢;have hzb:(cz !=0)=true:=by simpa using hz
    clear hz RV;have R2':=Qh K2.O.r2;have R3':=Qh K2.O.r3;have EL:(Tryz.prog.info? 30).map (·.size)=some 1:=by kernel_rfl
    go_wp2_with (first
                 |(refine rz rfl rfl 26 _ _ rfl (w.heap.size+1) 0 aC.toList (.agg aC) (by simp[Act.eval,Act.put]) (by simp[Act.eval,Act.put]) (by rfl) _ 26 E2.O (by simp) lI (by simp[Value.oneCell']) aC (by rfl) ?_
                   intro X1 Xo rx1;have P1:=Qh rx1;have Q2:=Qh (jC R2'.O Xo (fun q=>by injection q with q;omega));have Q3:=Qh (jC R3'.O Xo (fun q=>by injection q with q;omega));have B1:=Qh (K2.O.mt.fA.grown Xo K2.O.mt.size (fun g q=>by injection q with q;omega)))
                 |(refine rz rfl rfl 3 _ _ rfl (w.heap.size+2) 0 [.int .i64 0] (.int .i64 0) (by simp[Act.eval,Act.put]) (by simp[Act.eval,Act.put]) (by rfl) _ 3 Q2.O (by simp) Fu (by simp[Value.oneCell']) #[.int .i64 0] (by rfl) ?_
                   intro X2 Xp rx2;have P1:=Qh (jC P1.O Xp (fun q=>by injection q with q;omega));have P2:=Qh rx2;have Q3:=Qh (jC Q3.O Xp (fun q=>by injection q with q;omega));have B2:=Qh (B1.O.grown Xp B1.O.size (fun g q=>by injection q with q;omega)))
                 |(refine rz rfl rfl 30 _ _ rfl (w.heap.size+3) 0 [.int .i64 cz] (.int .i64 cz) (by simp[Act.eval,Act.put]) (by simp[Act.eval,Act.put]) (by rfl) _ 30 Q3.O (by simp) EL (by simp[Value.oneCell']) #[.int .i64 cz] (by rfl) ?_
                   intro X3 Xq rx3;have P1:=Qh (jC P1.O Xq (fun q=>by injection q with q;omega));have P2:=Qh (jC P2.O Xq (fun q=>by injection q with q;omega));have P3:=Qh rx3;have B3:=Qh (B2.O.grown Xq B2.O.size (fun g q=>by injection q with q;omega))))
    refine Xx9 (n:=w.heap.size) rfl rfl rfl P1.O rfl P2.O P3.O ?_;rw[zK.O];exact⟨rfl,B3.O⟩
