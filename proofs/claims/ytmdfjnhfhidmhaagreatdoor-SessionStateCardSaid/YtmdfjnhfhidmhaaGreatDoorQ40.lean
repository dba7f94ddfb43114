/- Lemmas for the claim's theorem;conditions: as each says. -/
import Derived.Test.YtmdfjnhfhidmhaaGreatDoorQ39
set_option maxHeartbeats 0
set_option maxRecDepth 100000
set_option linter.all false
namespace Go.Proofs.YtmdfjnhfhidmhaaGreatDoor
open Go.RowKit Go.Lib
structure aaL (n k:Nat) (s:af):Prop where
 val:digits s=(n:Nat)
 len:1≤s.length∧s.length≤k
 all:s.all (fun c=>decide (48≤c)&&decide (c≤57))=true
 head:1≤n→s.head?≠some 48
 one:n<10→s.length=1
open Go.RowKit
abbrev OY(so:Option Addr)(ll sc b off n lc k:Nat)(az:Int)(oc:Option Addr)(cl cc:Nat)(L2:List bu)(cnt rn:Int)(x:Option Addr×Nat):List (Option Tmp×Value):=
 [(some 13,ed 7 2 1 (.slice so ll sc)),(some 14,.slice (some ⟨b,off,none⟩) n lc),(some 15,.int .i64 (k:Int)),(some 16,.pointer (some ⟨b,off+k*2,none⟩)),(some 17,.pointer (some ⟨b,off+k*2,none⟩)),(some 18,.int .i64 az),(some 19,.slice (some ⟨b,off,none⟩) n lc),(some 20,.int .i64 (k:Int)),(some 21,.pointer (some ⟨b,off+k*2,none⟩)),(some 22,.pointer (some ⟨b,off+k*2+1,none⟩)),(some 23,.slice oc cl cc),(some 24,.tuple #[ed 7 2 1 (.slice x.1 L2.length x.2),.int .i64 cnt,.int .i64 rn]),(some 12,.tuple #[ed 7 2 1 (.slice x.1 L2.length x.2),.int .i64 cnt,.int .i64 rn]),(some 25,ed 7 2 1 (.slice x.1 L2.length x.2)),(some 26,.int .i64 cnt),(some 27,.int .i64 rn),(none,undef)]
theorem L6{so:Option Addr}{ll sc b off n lc k:Nat}{az:Int}{oc:Option Addr}{cl cc:Nat}{L2:List bu}{cnt rn:Int}{x:Option Addr×Nat}:bE (OY so ll sc b off n lc k az oc cl cc L2 cnt rn x):=by
 unfold bE;simp
structure Ui (I:IH) (w0:World) (L:List bu) (J:IH) (W:World) (vs:Value):Prop where
 at_:lq I w0 J W
 ext:Ext w0.heap.size I J
 OE:J w0.heap.size=none
 q:W.heap[w0.heap.size]?=some (.cells eT 63 (0,0))
 box:yL J W (w0.heap.size+1) 7 2 1 vs L
theorem Xj9 (I:IH) (hI:cB I) (v:Value) (l:List mF) (hv:aY zU I v l) (hc:∀b∈l,∀c∈b.fJ,c.Sm) (ht:iQ l≤100) (hl:l.length≤100) (w:World) (hw:Ok I w):
 Calls Tryz.prog 30 #[v] w (Uh I w 7 2 1 (gY [] l)):=by
 have sP:∀b∈l,∀c∈b.fJ,c.aF.length≤1000:=fun b hb c h=>by have:=(hc b hb c h).aF;omega
 have HA:=Qh (Tf sP (by omega) (by omega))
 have HG:=Qh hI
 have Hv:=Qh hv
 have Hc:=Qh hc
 have CF:=Qh (show (Tryz.prog.info? 63).map (·.size)=some 4 by kernel_rfl)
 have hlen:=hv.bK
 obtain ⟨ao,cap,rfl,_,_,_⟩:=id hv
 obtain ⟨W2,mH⟩:∃W2,((w.alloc (.cells eT 63)).alloc (.cells eT 63))=W2:=⟨_,rfl⟩
 obtain ⟨cu,r0,r1,_⟩:=TT w eT eT 63 63 W2 mH
 have A2:lq I w I W2:=by rw [←mH];exact ((lq.start hw).past _).past _
 clear hv hc sP hI
 go_enter Tryz.func30,Tryz.ntmps30
 go_upto_region 2 with (refine jy rfl rfl 63 _ _ rfl (w.heap.size+1) 0 [.int .u32 7,.int .i64 2,.int .i64 1,.slice none 0 0] (ed 7 2 1 (.slice none 0 0)) (by simp [Act.eval]) (by simp [Act.eval]) (by rfl) eT 63 r1 (by simp) (by kernel_rfl) (by simp [Value.oneCell']) #[.int .u32 7,.int .i64 2,.int .i64 1,.slice none 0 0] (by rfl) ?_
                        intro w3 kS qK)
 have M0:=Qh (show Ui I w (gY [] (l.take 0)) I w3 (.slice none 0 0) from
  ⟨A2.own kS (hw.fresh (by omega)) (by omega),Ext.refl _ _,hw.fresh (Qn _),(kS.block _ (by omega) (fun e=>by injection e with e;omega)).trans r0,⟨hw.fresh (by omega),aY.nil _ _,qK⟩⟩)
 clear mH r0 r1 A2 kS qK cu
 go_wp2_with fail
 go_loopw [4,9] (fun _ s9 wr=> ∃(k:Nat) (J:IH) (vs:Value),k≤l.length∧s9= .int .i64 k∧Ui I w (gY [] (l.take k)) J wr vs) (fun _ i _=>l.length-(intOf i).toNat)
 case atStart=>exact ⟨0,I,_,Nat.zero_le _,rfl,M0.q⟩
 case round=>
  clear M0
  obtain ⟨k,J,vs,hk,rfl,hM⟩:=hrel
  have M:=Qh hM
  clear hM
  by_cases hlt:k<l.length
  ·obtain ⟨x0,vc,b,off,cap',dz,dC,c0,c1,h1⟩:=Z0 (Hv.q.mono M.q.at_.keep) M.q.at_.ok k hlt
   cases dC
   have xw:=hlt
   have Ai:=Hc.q x0 (by rw [←dz];exact List.getElem_mem hlt)
   have tC:=Qh (Z5 [] l hlt dz)
   have hto:=OD hlt dz
   have sS:=Te l (k+1)
   have L8:=(fun W (hW:Ok J W)=>Xkr J (HG.q.mono M.q.at_.keep) 7 2 1 (gY [] (l.take k)) (HA.q k hk) x0.fJ (by omega) (by omega) vs M.q.box.rd x0.az vc h1 (fun c h=>⟨(Ai c h).wf,by have:=(Ai c h).FN;omega,by have:=(Ai c h).aF;omega⟩) W hW)
   obtain ⟨L2,cnt,rn,MV⟩:∃L2 cnt rn,lI (gY [] (l.take k)) x0.az x0.fJ=(L2,cnt,rn):=⟨_,_,_,rfl⟩
   rw [MV] at L8 tC
   dsimp only [D9] at L8 tC
   replace L8:=Qh L8
   replace tC:=Qh tC.q
   obtain ⟨so,sc,rfl,_,_,_⟩:=id M.q.box.rd
   obtain ⟨oc,cc,rfl,_,_,_⟩:=id h1
   have bU:=h1.bK
   obtain ⟨z0,z1,z2,z3⟩:=xm M.q.box.row
   have BX:=Qh M.q.box
   clear MV Ai dz h1
   go_wp2_with fail
   refine tK (X:=Option Addr × Nat) (OY so ((gY [] (l.take k)).length) sc b off l.length cap k x0.az oc x0.fJ.length cc L2 cnt rn) (jZ wr 11 238 229 239 230 240 231 241 (fun _ _=>True) (fun x w=> ∃J',Ext wr.heap.size J J'∧Ok J' w∧aY iO J' (.slice x.1 L2.length x.2) L2) (fun _ _=>True) (fun _ _=>True) (fun _ _=>True) (fun x w=> ∃J',Ext wr.heap.size J J'∧Ok J' w∧aY iO J' (.slice x.1 L2.length x.2) L2) (fun x=>(w.heap.size+1)) 63 16 218 219 (fun x=> #[.int .u32 7,.int .i64 2,.int .i64 1,.slice x.1 L2.length x.2]) (fun x=> #[.int .u32 7,.int .i64 2,.int .i64 1,.slice x.1 L2.length x.2]) (fun x=> #[.int .u32 7,.int .i64 2,.int .i64 1,.slice x.1 L2.length x.2])) (by kernel_rfl) (by kernel_rfl) ?_ ?_ ?_
   ·exact ⟨default,jZ.start _ _ trivial⟩
   ·rintro x s' a' w' i cu bU ha hC hi
    obtain ⟨aJ,oi,dN,aA⟩:=mem_ready.1 hi
    have ev:=A8 L6 ha
    have hlt:=tJ aJ
    rcases i with _|_|_|_|_|_|_|_|_|_|_|_|_|_|_|_|_|i
    rotate_left 17
    ·simp at dN
    all_goals
     have bY:=dN
     simp at dN
     subst dN
     simp [Region.binds] at aA
     try have hl:=qH 6 16 bU (by decide +kernel) aJ
     try have bQ:=hC.off hl
     try have z0:=bI bQ z0
     try have z1:=bI bQ z1
     try have z2:=bI bQ z2
     try have z3:=bI bQ z3
     try have c0:=bI bQ c0
     try have c1:=bI bQ c1
     refine wpOp_step bY (fun K' hK=> ?_)
     rw [if_pos (by rfl)]
    rotate_left 11
    ·unfold Oper.wp
     simp [go_sem,ev,eZ,aA,Oper.upon]
     refine (L8.q w' (M.q.at_.ok.below (Qn _) bQ)).mono ?_
     rintro r4 w4 ⟨v7,J7,rfl,bA,sZ,gT,oO⟩
     obtain ⟨a7,k7,rfl,_,_,_⟩:=id oO
     have ha:=ha.trans (qF (L:=OY so ((gY [] (l.take k)).length) sc b off l.length cap k x0.az oc x0.fJ.length cc L2 cnt rn x) (M:=OY so ((gY [] (l.take k)).length) sc b off l.length cap k x0.az oc x0.fJ.length cc L2 cnt rn (a7,k7)) [11,12,13] rfl (fun j aZ=>by
      rcases j with _|_|_|_|_|_|_|_|_|_|_|_|_|_|_|_|_|j<;>first|rfl|(exact absurd (by decide) aZ)|simp) (List.forall_mem_cons.2 ⟨jl aJ,List.forall_mem_cons.2 ⟨qH 6 12 bU (by kernel_rfl) aJ,List.forall_mem_cons.2 ⟨qH 6 13 bU (by kernel_rfl) aJ,List.forall_mem_nil _⟩⟩⟩))
     exact hK _ _ ⟨(a7,k7),jQ L6 ha rfl aJ,hC.step hl (bQ.trans (bA.mono bQ.size)) (by decide) (fun _=>trivial) (fun _ _=>⟨J7,fun b hb=>sZ b (Nat.lt_of_lt_of_le hb bQ.size),gT,oO⟩) (fun _ _=>trivial) (fun _ _=>trivial) (fun _ _=>trivial) hlt⟩
    rotate_left 4
    ·have aU:w'.heap[(w.heap.size+1)]? =some (.cells _ 63 (0,0)):=(bQ.block _ BX.q.lt).trans BX.q.row
     refine qU 63 _ _ rfl ((w.heap.size+1)) 0 [.int .u32 7,.int .i64 2,.int .i64 1,.slice x.1 L2.length x.2] (ed 7 2 1 (.slice x.1 L2.length x.2)) (by simp [Act.eval,ev,eZ,aA]) (by simp [Act.eval,ev,eZ,aA]) (by rfl) _ _ aU (by simp) (by kernel_rfl) (by simp [Value.oneCell']) ?_
     exact hK _ _ ⟨x,dF (d:=none) (v:=undef) L6 ha rfl aJ,hC.lH aJ (hC.f1 (by first|simpa using aA|simp [aA]) (kz (by simp [cu])) hl) (kz (by simp [cu])) (kz (by simp [cu])) (by decide) aU (by rfl)⟩
    all_goals
     unfold Oper.wp
     first
     |(simp [go_sem,ev,eZ,aA,Oper.upon,z0,z1,z2,z3,c0,c1,xw];exact hK _ _ ⟨x,jQ L6 ha rfl aJ,hC.pure (by decide)⟩)
     |(simp [go_sem,ev,eZ,Oper.upon,z0,z1,z2,z3,c0,c1,xw];exact hK _ _ ⟨x,jQ L6 ha rfl aJ,hC.pure (by decide)⟩)
   ·rintro x s' a' w6 eX ha hC
    obtain ⟨wb,gQ,gU,fF,aU⟩:=hC.on (eX 16 (by decide))
    simp only [ite_self] at aU
    rw [su _ _ _ _ (fun i hi=>by rw [Nat.zero_add];exact eX i (by simpa using hi))] at ha
    subst ha
    simp only [df,Act.put,List.setIfInBounds_toArray,List.set_cons_succ,List.set_cons_zero]
    obtain ⟨a9,k9⟩:=x
    dsimp only at gU fF aU ⊢
    obtain ⟨J9,CG,q8,iy⟩:=gU
    have cu:=M.q.at_.size
    have OX:J9 (w.heap.size+1)=none:=(CG _ BX.q.lt).trans BX.q.no
    have hlb:=BX.q.lt
    have M6:=Qh (show Ui I w (gY [] (l.take (k+1))) J9 w6 (.slice a9 L2.length k9) from
     ⟨(M.q.at_.ext gQ CG q8).own fF OX (by omega),M.q.ext.trans CG cu,(CG _ (by omega)).trans M.q.OE,(fF.block _ (by have:=gQ.size;omega) (fun e=>by injection e with e;omega)).trans ((gQ.block _ (by omega)).trans M.q.q),⟨OX,by rw [tC.q];exact iy,aU⟩⟩)
    clear M BX gQ fF aU CG q8 iy z0 z1 z2 z3 c0 c1
    go_wp2
    go_roundw
    case rel=>exact ⟨k+1,J9,_,by omega,by go_num,M6.q⟩
    case measure=>simp [intOf];omega
  ·have oP:k=l.length:=by omega
   subst oP
   rw [List.take_length] at M
   obtain ⟨so,sc,rfl,_,_,_⟩:=id M.q.box.rd
   obtain ⟨z0,z1,z2,z3⟩:=xm M.q.box.row
   have dW:=M.q.q
   have hlb:=M.q.box.lt
   go_wp2_with (refine jy rfl rfl 63 _ _ rfl w.heap.size 0 [.int .u32 7,.int .i64 2,.int .i64 1,.slice so (gY [] l).length sc] (ed 7 2 1 (.slice so (gY [] l).length sc)) (by simp [Act.eval]) (by simp [Act.eval]) (by rfl) eT 63 dW (by simp) (by kernel_rfl) (by simp [Value.oneCell']) #[.int .u32 7,.int .i64 2,.int .i64 1,.slice so (gY [] l).length sc] (by rfl) ?_
                intro w9 dY iy)
   exact bodyPost_ret (results_cell_row rfl _ _ w.heap.size _ _ (0,0) _ rfl iy Tryz.underlying63 rfl CF.q) rfl
    ⟨_,J,rfl,M.q.at_.eD.grown dY M.q.at_.size (fun k e=>by injection e with e;omega),M.q.ext,M.q.at_.ok.grown dY (fun g e=>by injection e with e;subst e;exact M.q.OE),M.q.box.rd⟩
theorem Xh9{w:World}{b:Nat}{s:bu}{ve:Value}{t:TypeId}(h:w.heap[b]?=some (.cells (kX s ve).toArray t (0,0))):
 w.cell? ⟨b,0,none⟩=some (.int .i64 s.num)∧w.cell? ⟨b,1,none⟩=some (.int .i64 s.az)∧w.cell? ⟨b,2,none⟩=some (S s.bq)∧w.cell? ⟨b,3,none⟩=some ve∧w.cell? ⟨b,4,none⟩=some (S s.aV)∧w.cell? ⟨b,5,none⟩=some (S s.sl):=
 ⟨(cell_of_row _ _ 0 _ _ _ h).trans rfl,(cell_of_row _ _ 1 _ _ _ h).trans rfl,(cell_of_row _ _ 2 _ _ _ h).trans rfl,(cell_of_row _ _ 3 _ _ _ h).trans rfl,(cell_of_row _ _ 4 _ _ _ h).trans rfl,(cell_of_row _ _ 5 _ _ _ h).trans rfl⟩
open Go.RowKit Lib
abbrev nuL(n:Nat)(p:af)(c:UInt8)(x:Nat):List (Option Tmp×Value):=
 [(some 10,.int .i64 (n:Int)),(some 11,.int .i64 ((n:Int) / 10)),(some 12,S p),(some 13,.int .i64 (n:Int)),(some 14,.int .i64 ((n:Int)%10)),(some 15,.int .i64 (48+(n:Int)%10)),(some 16,.int .u8 (48+(n:Int)%10)),(some 17,.slice (some ⟨x,0,none⟩) 1 1),(some 18,S [c]),(some 19,S (p++[c])),(some 2,S (p++[c]))]
