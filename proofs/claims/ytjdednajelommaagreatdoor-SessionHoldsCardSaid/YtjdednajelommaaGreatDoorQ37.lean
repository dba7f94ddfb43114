/-
  Walks and laws that the claim's theorem uses: texts SnH SoH, joined; comments out. Conditions: as each theorem says.
-/
import Derived.Test.YtjdednajelommaaGreatDoorQ36
set_option linter.unusedSimpArgs false
set_option linter.unusedVariables false
namespace Go.Proofs.YtjdednajelommaaGreatDoor
open Go.RowKit Go.Lib
structure DecOk (n k:Nat) (s:Bytes):Prop where
 val:digits s=(n:Nat)
 len:1≤s.length∧s.length≤k
 all:s.all (fun c=>decide (48≤c)&&decide (c≤57))=true
 head:1≤n→s.head? ≠some 48
 one:n<10→s.length=1
end Go.Proofs.YtjdednajelommaaGreatDoor
namespace Go.Proofs.YtjdednajelommaaGreatDoor
open Go.RowKit
abbrev vtL (so:Option Addr) (ll sc b off n lc k:Nat) (date:Int) (oc:Option Addr) (cl cc:Nat) (L2:List Ses) (cnt rn:Int) (x:Option Addr × Nat):List (Option Tmp × Value):=
 [(some 13,arcV 7 2 1 (.slice so ll sc)),(some 14,.slice (some ⟨b,off,none⟩) n lc),(some 15,.int .i64 (k:Int)),(some 16,.pointer (some ⟨b,off+k*2,none⟩)),(some 17,.pointer (some ⟨b,off+k*2,none⟩)),(some 18,.int .i64 date),(some 19,.slice (some ⟨b,off,none⟩) n lc),(some 20,.int .i64 (k:Int)),(some 21,.pointer (some ⟨b,off+k*2,none⟩)),(some 22,.pointer (some ⟨b,off+k*2+1,none⟩)),(some 23,.slice oc cl cc),(some 24,.tuple #[arcV 7 2 1 (.slice x.1 L2.length x.2),.int .i64 cnt,.int .i64 rn]),(some 12,.tuple #[arcV 7 2 1 (.slice x.1 L2.length x.2),.int .i64 cnt,.int .i64 rn]),(some 25,arcV 7 2 1 (.slice x.1 L2.length x.2)),(some 26,.int .i64 cnt),(some 27,.int .i64 rn),(none,undef)]
theorem Xdp {so:Option Addr} {ll sc b off n lc k:Nat} {date:Int} {oc:Option Addr} {cl cc:Nat} {L2:List Ses} {cnt rn:Int} {x:Option Addr × Nat}:ApartF (vtL so ll sc b off n lc k date oc cl cc L2 cnt rn x):=by
 unfold ApartF
 simp
structure WtM (I:IH) (w0:World) (L:List Ses) (J:IH) (W:World) (vs:Value):Prop where
 at_:MAt I w0 J W
 ext:Ext w0.heap.size I J
 no0:J w0.heap.size=none
 out:W.heap[w0.heap.size]? =some (.cells zeroA 30 (0,0))
 box:ArB J W (w0.heap.size+1) 7 2 1 vs L
set_option maxRecDepth 100000 in
set_option maxHeartbeats 8000000 in
theorem Xhf (I:IH) (hI:Glob I) (v:Value) (l:List Bat) (hv:RdS tBat I v l) (hc:∀b∈l,∀c∈b.chgs,c.Sm) (ht:totC l≤100) (hl:l.length≤100) (w:World) (hw:Ok I w):
 Calls Tryz.prog 17 #[v] w (RetA I w 7 2 1 (wrtsP [] l)):=by
 have hc1:∀b∈l,∀c∈b.chgs,c.content.length≤1000:=fun b hb c h=>by have:=(hc b hb c h).content;omega
 have HA:=Qh (Xgd hc1 (by omega) (by omega))
 have HG:=Qh hI
 have Hv:=Qh hv
 have Hc:=Qh hc
 have Hi4:=Qh (show (Tryz.prog.info? 30).map (·.size)=some 4 by kernel_rfl)
 have hlen:=hv.len_le
 obtain ⟨ao,cap,rfl,_,_,_⟩:=id hv
 obtain ⟨W2,hW2⟩:∃W2,((w.alloc (.cells zeroA 30)).alloc (.cells zeroA 30))=W2:=⟨_,rfl⟩
 obtain ⟨hsz,r0,r1,_⟩:=Xcp w zeroA zeroA 30 30 W2 hW2
 have A2:MAt I w I W2:=by rw [←hW2];exact ((MAt.start hw).past _).past _
 clear hv hc hc1 hI
 go_enter Tryz.func17,Tryz.ntmps17
 go_upto_region 2 with (refine Xab rfl rfl 30 _ _ rfl (w.heap.size+1) 0 [.int .u32 7,.int .i64 2,.int .i64 1,.slice none 0 0] (arcV 7 2 1 (.slice none 0 0)) (by simp [Act.eval]) (by simp [Act.eval]) (by rfl) zeroA 30 r1 (by simp) (by kernel_rfl) (by simp [Value.oneCell']) #[.int .u32 7,.int .i64 2,.int .i64 1,.slice none 0 0] (by rfl) ?_
                        intro w3 hg3 hr3)
 have M0:=Qh (show WtM I w (wrtsP [] (l.take 0)) I w3 (.slice none 0 0) from
  ⟨A2.own hg3 (hw.fresh (by omega)) (by omega),Ext.refl _ _,hw.fresh (Qn _),(hg3.block _ (by omega) (fun e=>by injection e with e;omega)).trans r0,⟨hw.fresh (by omega),RdS.nil _ _,hr3⟩⟩)
 clear hW2 r0 r1 A2 hg3 hr3 hsz
 go_wp2_with fail
 go_loopw [4,9] (fun _ s9 wr=> ∃(k:Nat) (J:IH) (vs:Value),k≤l.length∧s9= .int .i64 k∧WtM I w (wrtsP [] (l.take k)) J wr vs) (fun _ i _=>l.length-(intOf i).toNat)
 case atStart=>exact ⟨0,I,_,Nat.zero_le _,rfl,M0.out⟩
 case round=>
  clear M0
  obtain ⟨k,J,vs,hk,rfl,hM⟩:=hrel
  have M:=Qh hM
  clear hM
  by_cases hlt:k<l.length
  ·obtain ⟨x0,vc,b,off,cap',hlx,hvv,c0,c1,h1⟩:=Xuc (Hv.out.mono M.out.at_.keep) M.out.at_.ok k hlt
   cases hvv
   have hkl:=hlt
   have hcx:=Hc.out x0 (by rw [←hlx];exact List.getElem_mem hlt)
   have Htk:=Qh (Xid [] l hlt hlx)
   have hto:=Xdq hlt hlx
   have hle:=Xi2 l (k+1)
   have Hwr:=(fun W (hW:Ok J W)=>Xge J (HG.out.mono M.out.at_.keep) 7 2 1 (wrtsP [] (l.take k)) (HA.out k hk) x0.chgs (by omega) (by omega) vs M.out.box.rd x0.date vc h1 (fun c h=>⟨(hcx c h).wf,by have:=(hcx c h).nattrs;omega,by have:=(hcx c h).content;omega⟩) W hW)
   obtain ⟨L2,cnt,rn,hL2⟩:∃L2 cnt rn,wrtP (wrtsP [] (l.take k)) x0.date x0.chgs=(L2,cnt,rn):=⟨_,_,_,rfl⟩
   rw [hL2] at Hwr Htk
   dsimp only [RetWr] at Hwr Htk
   replace Hwr:=Qh Hwr
   replace Htk:=Qh Htk.out
   obtain ⟨so,sc,rfl,_,_,_⟩:=id M.out.box.rd
   obtain ⟨oc,cc,rfl,_,_,_⟩:=id h1
   have hcl:=h1.len_le
   obtain ⟨z0,z1,z2,z3⟩:=Xag M.out.box.row
   have BX:=Qh M.out.box
   clear hL2 hcx hlx h1
   go_wp2_with fail
   refine Xah (X:=Option Addr × Nat) (vtL so ((wrtsP [] (l.take k)).length) sc b off l.length cap k x0.date oc x0.chgs.length cc L2 cnt rn) (RgE wr 11 238 229 239 230 240 231 241 (fun _ _=>True) (fun x w=> ∃J',Ext wr.heap.size J J'∧Ok J' w∧RdS tSes J' (.slice x.1 L2.length x.2) L2) (fun _ _=>True) (fun _ _=>True) (fun _ _=>True) (fun x w=> ∃J',Ext wr.heap.size J J'∧Ok J' w∧RdS tSes J' (.slice x.1 L2.length x.2) L2) (fun x=>(w.heap.size+1)) 30 16 218 219 (fun x=> #[.int .u32 7,.int .i64 2,.int .i64 1,.slice x.1 L2.length x.2]) (fun x=> #[.int .u32 7,.int .i64 2,.int .i64 1,.slice x.1 L2.length x.2]) (fun x=> #[.int .u32 7,.int .i64 2,.int .i64 1,.slice x.1 L2.length x.2])) (by kernel_rfl) (by kernel_rfl) ?_ ?_ ?_
   ·exact ⟨default,RgE.start _ _ trivial⟩
   ·rintro x s' a' w' i hsz hcl ha hC hi
    obtain ⟨hun,oi,hoi,hall⟩:=mem_ready.1 hi
    have ev:=Xcv Xdp ha
    have hlt:=Xcy hun
    rcases i with _|_|_|_|_|_|_|_|_|_|_|_|_|_|_|_|_|i
    rotate_left 17
    ·simp at hoi
    all_goals
     have hoj:=hoi
     simp at hoi
     subst hoi
     simp [Region.binds] at hall
     try have hl:=Xas 6 16 hcl (by decide +kernel) hun
     try have hbw:=hC.off hl
     try have z0:=Xaa hbw z0
     try have z1:=Xaa hbw z1
     try have z2:=Xaa hbw z2
     try have z3:=Xaa hbw z3
     try have c0:=Xaa hbw c0
     try have c1:=Xaa hbw c1
     refine wpOp_step hoj (fun K' hK=> ?_)
     rw [if_pos (by rfl)]
    rotate_left 11
    ·unfold Oper.wp
     simp [go_sem,ev,evF,hall,Oper.upon]
     refine (Hwr.out w' (M.out.at_.ok.below (Qn _) hbw)).mono ?_
     rintro r4 w4 ⟨v7,J7,rfl,hb4,hx7,hok7,hr7⟩
     obtain ⟨a7,k7,rfl,_,_,_⟩:=id hr7
     have ha:=ha.trans (Xav (L:=vtL so ((wrtsP [] (l.take k)).length) sc b off l.length cap k x0.date oc x0.chgs.length cc L2 cnt rn x) (M:=vtL so ((wrtsP [] (l.take k)).length) sc b off l.length cap k x0.date oc x0.chgs.length cc L2 cnt rn (a7,k7)) [11,12,13] rfl (fun j hne=>by
      rcases j with _|_|_|_|_|_|_|_|_|_|_|_|_|_|_|_|_|j<;>first|rfl|(exact absurd (by decide) hne)|simp) (List.forall_mem_cons.2 ⟨Xao hun,List.forall_mem_cons.2 ⟨Xas 6 12 hcl (by kernel_rfl) hun,List.forall_mem_cons.2 ⟨Xas 6 13 hcl (by kernel_rfl) hun,List.forall_mem_nil _⟩⟩⟩))
     exact hK _ _ ⟨(a7,k7),Xan Xdp ha rfl hun,hC.step hl (hbw.trans (hb4.mono hbw.size)) (by decide) (fun _=>trivial) (fun _ _=>⟨J7,fun b hb=>hx7 b (Nat.lt_of_lt_of_le hb hbw.size),hok7,hr7⟩) (fun _ _=>trivial) (fun _ _=>trivial) (fun _ _=>trivial) hlt⟩
    rotate_left 4
    ·have hrow:w'.heap[(w.heap.size+1)]? =some (.cells _ 30 (0,0)):=(hbw.block _ BX.out.lt).trans BX.out.row
     refine Xaj 30 _ _ rfl ((w.heap.size+1)) 0 [.int .u32 7,.int .i64 2,.int .i64 1,.slice x.1 L2.length x.2] (arcV 7 2 1 (.slice x.1 L2.length x.2)) (by simp [Act.eval,ev,evF,hall]) (by simp [Act.eval,ev,evF,hall]) (by rfl) _ _ hrow (by simp) (by kernel_rfl) (by simp [Value.oneCell']) ?_
     exact hK _ _ ⟨x,Xad (d:=none) (v:=undef) Xdp ha rfl hun,hC.put1 hun (hC.f1 (by first|simpa using hall|simp [hall]) (Xak (by simp [hsz])) hl) (Xak (by simp [hsz])) (Xak (by simp [hsz])) (by decide) hrow (by rfl)⟩
    all_goals
     unfold Oper.wp
     first
     |(simp [go_sem,ev,evF,hall,Oper.upon,z0,z1,z2,z3,c0,c1,hkl];exact hK _ _ ⟨x,Xan Xdp ha rfl hun,hC.pure (by decide)⟩)
     |(simp [go_sem,ev,evF,Oper.upon,z0,z1,z2,z3,c0,c1,hkl];exact hK _ _ ⟨x,Xan Xdp ha rfl hun,hC.pure (by decide)⟩)
   ·rintro x s' a' w6 hup ha hC
    obtain ⟨wb,hbW,hFin,hgr,hrow⟩:=hC.on (hup 16 (by decide))
    simp only [ite_self] at hrow
    rw [Xa1 _ _ _ _ (fun i hi=>by rw [Nat.zero_add];exact hup i (by simpa using hi))] at ha
    subst ha
    simp only [fillAll,Act.put,List.setIfInBounds_toArray,List.set_cons_succ,List.set_cons_zero]
    obtain ⟨a9,k9⟩:=x
    dsimp only at hFin hgr hrow ⊢
    obtain ⟨J9,hx9,hok9,hr9⟩:=hFin
    have hsz:=M.out.at_.size
    have hn9:J9 (w.heap.size+1)=none:=(hx9 _ BX.out.lt).trans BX.out.no
    have hlb:=BX.out.lt
    have M6:=Qh (show WtM I w (wrtsP [] (l.take (k+1))) J9 w6 (.slice a9 L2.length k9) from
     ⟨(M.out.at_.ext hbW hx9 hok9).own hgr hn9 (by omega),M.out.ext.trans hx9 hsz,(hx9 _ (by omega)).trans M.out.no0,(hgr.block _ (by have:=hbW.size;omega) (fun e=>by injection e with e;omega)).trans ((hbW.block _ (by omega)).trans M.out.out),⟨hn9,by rw [Htk.out];exact hr9,hrow⟩⟩)
    clear M BX hbW hgr hrow hx9 hok9 hr9 z0 z1 z2 z3 c0 c1
    go_wp2
    go_roundw
    case rel=>exact ⟨k+1,J9,_,by omega,by go_num,M6.out⟩
    case measure=>simp [intOf];omega
  ·have hke:k=l.length:=by omega
   subst hke
   rw [List.take_length] at M
   obtain ⟨so,sc,rfl,_,_,_⟩:=id M.out.box.rd
   obtain ⟨z0,z1,z2,z3⟩:=Xag M.out.box.row
   have hout:=M.out.out
   have hlb:=M.out.box.lt
   go_wp2_with (refine Xab rfl rfl 30 _ _ rfl w.heap.size 0 [.int .u32 7,.int .i64 2,.int .i64 1,.slice so (wrtsP [] l).length sc] (arcV 7 2 1 (.slice so (wrtsP [] l).length sc)) (by simp [Act.eval]) (by simp [Act.eval]) (by rfl) zeroA 30 hout (by simp) (by kernel_rfl) (by simp [Value.oneCell']) #[.int .u32 7,.int .i64 2,.int .i64 1,.slice so (wrtsP [] l).length sc] (by rfl) ?_
                intro w9 hg9 hr9)
   exact bodyPost_ret (results_cell_row rfl _ _ w.heap.size _ _ (0,0) _ rfl hr9 Tryz.underlying30 rfl Hi4.out) rfl
    ⟨_,J,rfl,M.out.at_.bel.grown hg9 M.out.at_.size (fun k e=>by injection e with e;omega),M.out.ext,M.out.at_.ok.grown hg9 (fun g e=>by injection e with e;subst e;exact M.out.no0),M.out.box.rd⟩
end Go.Proofs.YtjdednajelommaaGreatDoor
