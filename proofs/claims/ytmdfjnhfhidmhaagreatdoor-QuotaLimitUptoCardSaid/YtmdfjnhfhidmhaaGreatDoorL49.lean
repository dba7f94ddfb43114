/-
  Walks and laws that the claim's theorem uses: texts Ext QuR QuJ Qu1, joined; comments out. Conditions: as each theorem says.
-/
import Derived.Test.YtmdfjnhfhidmhaaGreatDoorK41
set_option linter.all false
namespace Go.Proofs.YtmdfjnhfhidmhaaGreatDoor
open Go.RowKit
theorem charge_when {l:List Acc} (hs:SrtA l) {r:Rqs} {a:Acc} (ha:a∈l) (ho:a.owner=r.owner):chargeP l r=if overA a r.c then ([],16) else (l.map (payO r),0):=by
 rcases Xem l r with ⟨_,h⟩|⟨A,b,B,e0,hA,hb,e⟩
 ·exact absurd ho (h a ha)
 ·have hab:a=b:=by
   rw [e0] at ha
   rcases List.mem_append.1 ha with ha|ha
   ·exact absurd ho (hA a ha)
   ·rcases List.mem_cons.1 ha with rfl|ha
    ·rfl
    ·have hne:=Xud (e0▸hs)
     rw [List.pairwise_append,List.pairwise_cons] at hne
     exact absurd (by rw [hb,ho]) (hne.2.1.1 a ha)
  subst hab
  by_cases hov:overA a r.c
  ·rw [e,if_pos hov,if_pos hov]
  ·rw [if_neg hov] at e ⊢
   rw [e]
   exact Prod.ext (Xf3 hs e).1 rfl
section
variable {X:Type} {W w w':World} {j1 j2 j3 j4:Nat} {G1 G2 G3 G4:X→World→Prop} {x:X} {s:Array Bool} {i:Nat}
theorem RgF.start (n:Nat) (x:X):RgF W j1 j2 j3 j4 G1 G2 G3 G4 x (Array.replicate n false) { W with drawn:=W.drawn+1 }:=
 ⟨(Qb _ _).drew,fun h=>(by rw [Xa5] at h;cases h),fun h=>(by rw [Xa5] at h;cases h),fun h=>(by rw [Xa5] at h;cases h),fun h=>(by rw [Xa5] at h;cases h)⟩
theorem RgF.pure (h:RgF W j1 j2 j3 j4 G1 G2 G3 G4 x s w) (hd:i≠j1∧i≠j2∧i≠j3∧i≠j4):RgF W j1 j2 j3 j4 G1 G2 G3 G4 x (s.setIfInBounds i true) w:=by
 obtain ⟨h1,h2,h3,h4⟩:=hd
 refine ⟨h.off,?_,?_,?_,?_⟩
 ·rw [getD_set_ne false h1];exact h.f1
 ·rw [getD_set_ne false h2];exact h.f2
 ·rw [getD_set_ne false h3];exact h.f3
 ·rw [getD_set_ne false h4];exact h.f4
theorem RgF.step (h:RgF W j1 j2 j3 j4 G1 G2 G3 G4 x s w) (hb:Below W.heap.size W w') {x':X}
 (k1:i=j1∨(s.getD j1 false=true∧G1 x w)→G1 x' w') (k2:i=j2∨(s.getD j2 false=true∧G2 x w)→G2 x' w') (k3:i=j3∨(s.getD j3 false=true∧G3 x w)→G3 x' w') (k4:i=j4∨(s.getD j4 false=true∧G4 x w)→G4 x' w'):
 RgF W j1 j2 j3 j4 G1 G2 G3 G4 x' (s.setIfInBounds i true) w':=
 ⟨hb,fun a=>k1 ((Xk3 a).imp id fun q=>⟨q,h.f1 q⟩),fun a=>k2 ((Xk3 a).imp id fun q=>⟨q,h.f2 q⟩),fun a=>k3 ((Xk3 a).imp id fun q=>⟨q,h.f3 q⟩),fun a=>k4 ((Xk3 a).imp id fun q=>⟨q,h.f4 q⟩)⟩
end
end Go.Proofs.YtmdfjnhfhidmhaaGreatDoor
namespace Go.Proofs.YtmdfjnhfhidmhaaGreatDoor
def annB:Bytes:= [97,110,110]
def bobB:Bytes:= [98,111,98]
def big:Int:=1099511627776
def twoA (w:Nat) (l:List Acc):Prop:= ∃u1 f1 u2 f2,l= [⟨annB,big,big,u1,f1⟩,⟨bobB,big,big,u2,f2⟩]∧(0≤u1∧u1≤w)∧(0≤f1∧f1≤w)∧(0≤u2∧u2≤w)∧(0≤f2∧f2≤w)
theorem ask_is {l:List Acc} (h:AccsOk l) {a:Acc} (ha:a∈l) {p:Bytes} {c:Bytes}:(chargeP l ⟨a.owner,⟨1,p,[],[],c⟩⟩).2=if a.b-a.ub<(c.length:Nat)∨a.f-a.uf<1 then 16 else 0:=by
 rw [charge_when h.srt ha rfl]
 have e1:costB ⟨1,p,[],[],c⟩=(c.length:Nat):=by unfold costB;rw [if_pos rfl]
 have e2:costF ⟨1,p,[],[],c⟩=1:=by unfold costF;rw [if_pos (.inl rfl)]
 have hi:overA a ⟨1,p,[],[],c⟩↔(a.b-a.ub<(c.length:Nat)∨a.f-a.uf<1):=by
  unfold overA
  rw [e1,e2]
 by_cases hov:overA a ⟨1,p,[],[],c⟩
 ·rw [if_pos hov,if_pos (hi.1 hov)]
 ·rw [if_neg hov,if_neg (fun h=>hov (hi.2 h))]
end Go.Proofs.YtmdfjnhfhidmhaaGreatDoor
namespace Go.Proofs.YtmdfjnhfhidmhaaGreatDoor
open Go.RowKit
theorem zeros_conv (n:Nat) (hn:n≤65536):∃ZZ:Array Value,(∀W,(Instr.makeSlice 93 (.int .i64 (n:Int)) (.int .i64 (n:Int))).run Tryz.prog W= .ok (.slice (some ⟨W.heap.size,0,none⟩) n n) (W.alloc (.cells ZZ 5)))∧
 ∀(W:World) (g:Nat),W.heap[g]? =some (.cells ZZ 5 (0,0))→(convert 93 9 (.slice (some ⟨g,0,none⟩) n n)).run Tryz.prog W= .ok (S (List.replicate n 0)) W:=by
 obtain ⟨i,h1,h2,h3,h4⟩:=info_parts Xhc
 refine ⟨madeCells (Value.int .u8 0).cells (n*i.size),fun W=> ?_,fun W g hg=> ?_⟩
 ·have:=run_make (P:=Tryz.prog) W 93 5 i _ Tryz.underlying93 h1 h2 .i64 .i64 (n:Int) (n:Int) (by omega) (by omega) (by rw [h4];omega) (by omega)
  simpa using this
 ·rw [h3,Nat.mul_one] at hg
  rw [run_convert_bytes_string _ _ _ 5 _ _ _ Tryz.underlying93 Tryz.underlying5 Tryz.underlying9,run_bytesToString (ns:=List.replicate n 0)]
  ·rw [Xqu]
   simp
  ·have h:=run_loadCells_list (P:=Tryz.prog) W ⟨g,0,none⟩ ((List.replicate n (0:Int)).map (Value.int .u8)) (fun j u hu=>by
    rw [Addr.add_lit,Nat.zero_add,cell_of_row _ _ j _ _ _ hg,←Array.getElem?_toList]
    rw [show (Value.int .u8 0).cells= #[Value.int .u8 0] from rfl,toList_madeCells_one]
    simpa using hu)
   rw [List.length_map,List.length_replicate] at h
   exact h
abbrev akL (vl:Value) (o:Bytes) (n:Nat) (er:Int) (x:Nat × Value):List (Option Tmp × Value):=
 [(some 8,vl),(some 9,S o),(some 10,.int .i64 (n:Int)),(some 11,.slice (some ⟨x.1,0,none⟩) n n),(some 12,S (List.replicate n 0)),(some 13,chgV ⟨1,[97],[],[],List.replicate n 0⟩ (.slice none 0 0)),(some 14,rqV ⟨o,⟨1,[97],[],[],List.replicate n 0⟩⟩ (.slice none 0 0)),(some 15,.tuple #[x.2,.int .i64 er]),(some 7,.tuple #[x.2,.int .i64 er]),(some 16,x.2),(some 17,.int .i64 er),(some 5,x.2),(some 6,.int .i64 er)]
theorem akL_apart {vl:Value} {o:Bytes} {n:Nat} {er:Int} {x:Nat × Value}:ApartF (akL vl o n er x):=by
 unfold ApartF
 simp
set_option maxRecDepth 100000 in
set_option maxHeartbeats 4000000 in
theorem l54_ask (I:IH) (v:Value) (l:List Acc) (hv:RdS tAcc I v l) (hl:AccsIn l) (hln:l.length≤1000) (o:Bytes) (n:Nat) (hn:n≤65536) (b3 b4:Nat) (w:World) (hw:Ok I w) (c3:w.cell? ⟨b3,0,none⟩=some v) (c4:w.cell? ⟨b4,0,none⟩=some (S o)):
 Calls Tryz.prog 45 #[.int .i64 n,.pointer (some ⟨b3,0,none⟩),.pointer (some ⟨b4,0,none⟩)] w fun e w'=>e= .returned (.int .i64 (chargeP l ⟨o,⟨1,[97],[],[],List.replicate n 0⟩⟩).2)∧Below w.heap.size w w':=by
 obtain ⟨ZZ,hmk,hcv⟩:=zeros_conv n hn
 have hch:=(fun w hw=>Xoa I v l hv hl hln ⟨o,⟨1,[97],[],[],List.replicate n 0⟩⟩ (.slice none 0 0) (RdS.nil _ _) (by simp;omega) w hw)
 obtain ⟨xl,er,hxe⟩:∃xl er,chargeP l ⟨o,⟨1,[97],[],[],List.replicate n 0⟩⟩=(xl,er):=⟨_,_,rfl⟩
 rw [hxe] at hch ⊢
 dsimp only at hch ⊢
 have Hch:=Qh hch
 have Hok:=Qh hw
 obtain ⟨ao,cap,rfl,_,_,_⟩:=id hv
 clear hch hxe hv hl hln hw
 go_enter Tryz.func45,Tryz.ntmps45
 go_wp2_with fail
 refine Xak (X:=Nat × Value) (akL (.slice ao l.length cap) o n er) (RgF w 3 7 226 227 (fun x w=>w.heap[x.1]? =some (.cells ZZ 5 (0,0))) (fun _ _=>True) (fun _ _=>True) (fun _ _=>True)) (by kernel_rfl) (by kernel_rfl) ?_ ?_ ?_
 ·exact ⟨(w.heap.size,undef),RgF.start _ _⟩
 ·rintro x s' a' w' i hsz hcl ha hC hi
  obtain ⟨hun,oi,hoi,hall⟩:=mem_ready.1 hi
  have ev:=Xg4 akL_apart ha
  rcases i with _|_|_|_|_|_|_|_|_|_|_|_|_|i
  rotate_left 13
  ·simp at hoi
  all_goals
   have hoj:=hoi
   simp at hoi
   subst hoi
   simp [Region.binds] at hall
   have hbw:=hC.off
   have c3:=Xaa hbw c3
   have c4:=Xaa hbw c4
   refine wpOp_step hoj (fun K' hK=> ?_)
   first|rw [if_pos (by rfl)]
  rotate_left 3
  ·unfold Oper.wp
   simp [go_sem,ev,evF,hall,Oper.upon,c3,c4,hmk]
   have ha:=ha.trans (Xa3 (L:=akL (.slice ao l.length cap) o n er x) (M:=akL (.slice ao l.length cap) o n er (w'.heap.size,x.2)) [3] rfl (fun j hne=>by
    rcases j with _|_|_|_|_|_|_|_|_|_|_|_|_|j<;>first|rfl|(exact absurd (by decide) hne)|simp) (List.forall_mem_cons.2 ⟨Xam hun,List.forall_mem_nil _⟩))
   exact hK _ _ ⟨(w'.heap.size,x.2),Xax akL_apart ha rfl hun,hC.step (hbw.trans (((Qb _ _).alloc (Qn _) _).mono hbw.size)) (fun _=>heap_alloc_new _ _) (fun _=>trivial) (fun _=>trivial) (fun _=>trivial)⟩
  ·have hcv2:=hcv w' x.1 (hC.f1 (by first|simpa using hall|simp [hall]))
   unfold Oper.wp
   simp [go_sem,ev,evF,hall,Oper.upon,hcv2]
   exact hK _ _ ⟨x,Xax akL_apart ha rfl hun,hC.pure (by decide)⟩
  rotate_left 2
  ·unfold Oper.wp
   simp [go_sem,ev,evF,hall,Oper.upon]
   refine (Hch.out w' (Hok.out.below (Qn _) hbw)).mono ?_
   rintro r4 w4 ⟨v5,J5,rfl,hb4,hx5,hok5,hr5⟩
   have ha:=ha.trans (Xa3 (L:=akL (.slice ao l.length cap) o n er x) (M:=akL (.slice ao l.length cap) o n er (x.1,v5)) [7,8,9,11] rfl (fun j hne=>by
    rcases j with _|_|_|_|_|_|_|_|_|_|_|_|_|j<;>first|rfl|(exact absurd (by decide) hne)|simp) (List.forall_mem_cons.2 ⟨Xam hun,List.forall_mem_cons.2 ⟨Xas 6 8 hcl (by kernel_rfl) hun,List.forall_mem_cons.2 ⟨Xas 6 9 hcl (by kernel_rfl) hun,List.forall_mem_cons.2 ⟨Xas 6 11 hcl (by kernel_rfl) hun,List.forall_mem_nil _⟩⟩⟩⟩))
   exact hK _ _ ⟨(x.1,v5),Xax akL_apart ha rfl hun,hC.step (hbw.trans (hb4.mono hbw.size)) (fun q=>q.elim (fun e=>absurd e (by decide)) (fun q=>(hb4.block _ (Array.getElem?_eq_some_iff.1 q.2).1).trans q.2)) (fun _=>trivial) (fun _=>trivial) (fun _=>trivial)⟩
  all_goals
   unfold Oper.wp
   first
   |(simp [go_sem,ev,evF,hall,Oper.upon,c3,c4];exact hK _ _ ⟨x,Xax akL_apart ha rfl hun,hC.pure (by decide)⟩)
   |(simp [go_sem,ev,evF,Oper.upon,c3,c4];exact hK _ _ ⟨x,Xax akL_apart ha rfl hun,hC.pure (by decide)⟩)
 ·rintro x s' a' w6 hup ha hC
  rw [Xa6 _ _ _ _ (fun i hi=>by rw [Nat.zero_add];exact hup i (by simpa using hi))] at ha
  subst ha
  simp only [fillAll,Act.put,List.setIfInBounds_toArray,List.set_cons_succ,List.set_cons_zero]
  go_wp2
  go_ret
  exact ⟨rfl,hC.off⟩
theorem l54_askZ (I:IH) (v:Value) (l:List Acc) (hv:RdS tAcc I v l) (hf:AccsFit l) (o:Bytes) {a:Acc} (ha:a∈l) (ho:a.owner=o) (z:Int) (h0:0≤z) (h1:z≤65536) (b3 b4:Nat) (w:World) (hw:Ok I w) (c3:w.cell? ⟨b3,0,none⟩=some v) (c4:w.cell? ⟨b4,0,none⟩=some (S o)):
 Calls Tryz.prog 45 #[.int .i64 z,.pointer (some ⟨b3,0,none⟩),.pointer (some ⟨b4,0,none⟩)] w fun e w'=>e= .returned (.int .i64 (if a.b-a.ub<z∨a.f-a.uf<1 then 16 else 0))∧Below w.heap.size w w':=by
 obtain ⟨n,rfl⟩:∃n:Nat,z=(n:Int):=⟨z.toNat,by omega⟩
 have h:=l54_ask I v l hv hf.acc hf.len o n (by omega) b3 b4 w hw c3 c4
 have e:=ask_is hf.ok ha (p:= [97]) (c:=List.replicate n 0)
 rw [ho,List.length_replicate] at e
 rw [e] at h
 exact h
set_option maxRecDepth 100000 in
set_option maxHeartbeats 4000000 in
theorem law_QuotaLimit (I:IH) (hI:Glob I) (v:Value) (l:List Acc) (hv:RdS tAcc I v l) (hl:∀a∈l,a.In) (hlo:∀a∈l,a.owner.length≤4294967280) (o:Bytes) (m:Int) (hm0:0≤m) (hm1:m≤255) (w:World) (hw:Ok I w):
 Calls Tryz.prog 13 #[v,S o,.int .u8 m] w fun e w'=>e= .returned (.bool true)∧Below w.heap.size w w':=by
 have Haw:=Qh (fun J (hk:∀b c,I b=some c→J b=some c) w hw=>Xiz J (hI.mono hk) w hw)
 have A0:=Qh (((MAt.start hw).past (.cells #[v] 22)).past (.cells #[S o] 9))
 have C3:=Qh (show ((w.alloc (.cells #[v] 22)).alloc (.cells #[S o] 9)).cell? ⟨w.heap.size,0,none⟩=some v by simp)
 have C4:=Qh (show ((w.alloc (.cells #[v] 22)).alloc (.cells #[S o] 9)).cell? ⟨w.heap.size+1,0,none⟩=some (S o) by simp)
 have HB0:=Qh (Qb ((w.alloc (.cells #[v] 22)).alloc (.cells #[S o] 9)).heap.size ((w.alloc (.cells #[v] 22)).alloc (.cells #[S o] 9)))
 have Hgr:=Qh (Xiy I v l hv (.slice none 0 0) [] (RdS.nil _ _) (by decide) _ A0.out.ok)
 have Hck:=Qh (fun w hw=>Xhl I hI v l hv hlo w hw)
 have Hv:=Qh hv
 have Hl:=Qh hl
 obtain ⟨ao,cap,rfl,_,_,_⟩:=id hv
 clear hI hv hl hlo
 go_enter Tryz.func13,Tryz.ntmps13
 have c3:=C3.out
 have c4:=C4.out
 go_wp2_with fail
 refine Hgr.out.mono ?_
 rintro e3 w3 ⟨rfl,hb3⟩
 have A3:=Qh (A0.out.quiet hb3)
 have HB3:=Qh (HB0.out.trans (hb3.mono HB0.out.size))
 clear hb3 A0 HB0 Hgr c3 c4
 have c3:=Xaa HB3.out C3.out
 have c4:=Xaa HB3.out C4.out
 by_cases g:12<l.length∨1500<weightP []
 ·rw [Qt g]
  clear g
  go_wp2_with fail
  refine (Haw.out _ A3.out.keep _ A3.out.ok).mono ?_
  rintro e9 w9 ⟨rfl,hb9⟩
  have A9:=Qh (A3.out.quiet hb9)
  go_wp2
  go_ret
  exact ⟨rfl,A9.out.bel⟩
 rw [Qf g]
 by_cases g2:32<o.length
 ·have i1:decide ((32:Int)<(o.length:Int))=true:=Qt (by omega)
  clear g
  go_wp2_with fail
  refine (Haw.out _ A3.out.keep _ A3.out.ok).mono ?_
  rintro e9 w9 ⟨rfl,hb9⟩
  have A9:=Qh (A3.out.quiet hb9)
  go_wp2
  go_ret
  exact ⟨rfl,A9.out.bel⟩
 have i1:decide ((32:Int)<(o.length:Int))=false:=Qf (by omega)
 go_wp2_with fail
 refine (Hck.out _ A3.out.ok).mono ?_
 rintro e4 w4 ⟨rfl,hb4⟩
 have A4:=Qh (A3.out.quiet hb4)
 have HB4:=Qh (HB3.out.trans (hb4.mono HB3.out.size))
 clear hb4 A3 HB3 Hck c3 c4
 have c3:=Xaa HB4.out C3.out
 by_cases h0:accsErr l=0
 case neg=>
  have i2:(accsErr l != 0)=true:=by simpa using h0
  clear h0 g
  go_wp2_with fail
  refine (Haw.out _ A4.out.keep _ A4.out.ok).mono ?_
  rintro e9 w9 ⟨rfl,hb9⟩
  have A9:=Qh (A4.out.quiet hb9)
  go_wp2
  go_ret
  exact ⟨rfl,A9.out.bel⟩
 have i2:(accsErr l != 0)=false:=by simp [h0]
 have Hf:=Qh (show AccsFit l from ⟨AccsOk.of h0,fun a ha=>(Hl.out a ha).b1,fun a ha=>(Hl.out a ha).f1,by omega⟩)
 have hln:l.length≤12:=by omega
 clear h0 g
 go_wp2_with fail
 clear c3 i1 i2
 go_loopw [8,9,10,26] (fun _ _ _ s26 wr=> ∃k:Nat,k≤l.length∧s26= .int .i64 k∧Below w4.heap.size w4 wr) (fun _ _ _ i _=>l.length-(intOf i).toNat)
 case atStart=>exact ⟨0,Nat.zero_le _,rfl,Qb _ _⟩
 case round=>
  obtain ⟨k,hk,rfl,hb⟩:=hrel
  have A5:=A4.out.quiet hb
  have HB5:=HB4.out.trans (hb.mono HB4.out.size)
  by_cases hlt:k<l.length
  ·obtain ⟨x,b1,off,cap1,hlx,hvv,⟨c0,c1,c2,c3,c4⟩⟩:=Xni Hv.out A5.ok k hlt
   cases hvv
   have hxm:x∈l:=by rw [←hlx];exact List.getElem_mem hlt
   have ho:=Hf.out.ok.ok x hxm
   have u0:=ho.ub0
   have u1:=ho.ub1
   have f0:=ho.uf0
   have f1:=ho.uf1
   have hxb:=Hf.out.b x hxm
   have hxf:=Hf.out.f x hxm
   have HX:=Qh hxm
   have hba:=hb.alloc hb.size (.cells #[S x.owner,.int .i64 x.b,.int .i64 x.f,.int .i64 x.ub,.int .i64 x.uf] 54)
   have A6:=Qh (A5.past (.cells #[S x.owner,.int .i64 x.b,.int .i64 x.f,.int .i64 x.ub,.int .i64 x.uf] 54))
   have hHB6:=HB5.alloc HB5.size (.cells #[S x.owner,.int .i64 x.b,.int .i64 x.f,.int .i64 x.ub,.int .i64 x.uf] 54)
   have d4:=Xaa hHB6 C4.out
   have m1:IntKind.i64.wrap (x.b-x.ub)=x.b-x.ub:=IntWalk.i64_in _ (by omega)
   have HB6:=Qh hHB6
   have Hba:=Qh hba
   clear hlx hxm ho hba hHB6 A5 HB5 hb
   cases hoo:x.owner==o
   case false=>
    have j1:(x.owner != o)=true:=by rw [bne,hoo];rfl
    go_wp2_with fail
    go_roundw
    case rel=>exact ⟨k+1,by omega,by go_num,Hba.out⟩
    case measure=>simp [intOf];omega
   case true=>
    have ho3:x.owner=o:=by simpa using hoo
    clear hoo
    subst ho3
    have j1:(x.owner != x.owner)=false:=by simp
    by_cases h2:2000<x.b-x.ub
    ·have j2:decide ((2000:Int)<x.b-x.ub)=true:=Qt h2
     go_wp2_with fail
     go_roundw
     case rel=>exact ⟨k+1,by omega,by go_num,Hba.out⟩
     case measure=>simp [intOf];omega
    have j2:decide ((2000:Int)<x.b-x.ub)=false:=Qf h2
    by_cases hu:x.uf=x.f
    ·have j3:(x.uf==x.f)=true:=by simpa using hu
     have q1:x.f-x.uf<1:=by omega
     clear hu
     have hq7:=l54_askZ I _ l Hv.out Hf.out x.owner HX.out rfl (0) (by omega) (by omega) w.heap.size (w.heap.size+1) _ A6.out.ok (Xaa HB6.out C3.out) (Xaa HB6.out C4.out)
     rw [if_pos (.inr q1)] at hq7
     have Hq7:=Qh hq7
     clear hq7
     go_wp2_with fail
     refine Hq7.out.mono ?_
     rintro e7 w7 ⟨rfl,hb7⟩
     have A7:=Qh (A6.out.quiet hb7)
     have HB7:=Qh (HB6.out.trans (hb7.mono HB6.out.size))
     clear hb7 A6 HB6 Hq7
     have hq8:=l54_askZ I _ l Hv.out Hf.out x.owner HX.out rfl (x.b-x.ub) (by omega) (by omega) w.heap.size (w.heap.size+1) _ A7.out.ok (Xaa HB7.out C3.out) (Xaa HB7.out C4.out)
     rw [if_pos (.inr q1)] at hq8
     have Hq8:=Qh hq8
     clear hq8
     go_wp2_with fail
     refine Hq8.out.mono ?_
     rintro e8 w8 ⟨rfl,hb8⟩
     have A8:=Qh (A7.out.quiet hb8)
     have HB8:=Qh (HB7.out.trans (hb8.mono HB7.out.size))
     clear hb8 A7 HB7 Hq8
     go_wp2_with fail
     refine (Haw.out _ A8.out.keep _ A8.out.ok).mono ?_
     rintro e9 w9 ⟨rfl,hb9⟩
     have A9:=Qh (A8.out.quiet hb9)
     go_wp2
     go_ret
     exact ⟨rfl,A9.out.bel⟩
    ·have j3:(x.uf==x.f)=false:=by simpa using hu
     have q1:¬x.f-x.uf<1:=by omega
     have m2:IntKind.i64.wrap (x.b-x.ub+1)=x.b-x.ub+1:=IntWalk.i64_in _ (by omega)
     have m3:IntKind.i64.wrap (x.b-x.ub+1+m)=x.b-x.ub+1+m:=IntWalk.i64_in _ (by omega)
     have m4:IntKind.i64.wrap m=m:=IntWalk.i64_in _ (by omega)
     clear hu
     have hq7:=l54_askZ I _ l Hv.out Hf.out x.owner HX.out rfl (0) (by omega) (by omega) w.heap.size (w.heap.size+1) _ A6.out.ok (Xaa HB6.out C3.out) (Xaa HB6.out C4.out)
     rw [if_neg (by omega)] at hq7
     have Hq7:=Qh hq7
     clear hq7
     go_wp2_with fail
     refine Hq7.out.mono ?_
     rintro e7 w7 ⟨rfl,hb7⟩
     have A7:=Qh (A6.out.quiet hb7)
     have HB7:=Qh (HB6.out.trans (hb7.mono HB6.out.size))
     clear hb7 A6 HB6 Hq7
     have hq8:=l54_askZ I _ l Hv.out Hf.out x.owner HX.out rfl (x.b-x.ub) (by omega) (by omega) w.heap.size (w.heap.size+1) _ A7.out.ok (Xaa HB7.out C3.out) (Xaa HB7.out C4.out)
     rw [if_neg (by omega)] at hq8
     have Hq8:=Qh hq8
     clear hq8
     go_wp2_with fail
     refine Hq8.out.mono ?_
     rintro e8 w8 ⟨rfl,hb8⟩
     have A8:=Qh (A7.out.quiet hb8)
     have HB8:=Qh (HB7.out.trans (hb8.mono HB7.out.size))
     clear hb8 A7 HB7 Hq8
     have hq9:=l54_askZ I _ l Hv.out Hf.out x.owner HX.out rfl (x.b-x.ub+1) (by omega) (by omega) w.heap.size (w.heap.size+1) _ A8.out.ok (Xaa HB8.out C3.out) (Xaa HB8.out C4.out)
     rw [if_pos (.inl (by omega))] at hq9
     have Hq9:=Qh hq9
     clear hq9
     go_wp2_with fail
     refine Hq9.out.mono ?_
     rintro e9 w9 ⟨rfl,hb9⟩
     have A9:=Qh (A8.out.quiet hb9)
     have HB9:=Qh (HB8.out.trans (hb9.mono HB8.out.size))
     clear hb9 A8 HB8 Hq9
     have hq10:=l54_askZ I _ l Hv.out Hf.out x.owner HX.out rfl (x.b-x.ub+1+m) (by omega) (by omega) w.heap.size (w.heap.size+1) _ A9.out.ok (Xaa HB9.out C3.out) (Xaa HB9.out C4.out)
     rw [if_pos (.inl (by omega))] at hq10
     have Hq10:=Qh hq10
     clear hq10
     go_wp2_with fail
     refine Hq10.out.mono ?_
     rintro e10 w10 ⟨rfl,hb10⟩
     have A10:=Qh (A9.out.quiet hb10)
     have HB10:=Qh (HB9.out.trans (hb10.mono HB9.out.size))
     clear hb10 A9 HB9 Hq10
     go_wp2_with fail
     refine (Haw.out _ A10.out.keep _ A10.out.ok).mono ?_
     rintro e11 w11 ⟨rfl,hb11⟩
     have A11:=Qh (A10.out.quiet hb11)
     go_wp2
     go_ret
     exact ⟨rfl,A11.out.bel⟩
  ·have hke:k=l.length:=by omega
   have A7:=Qh A5
   clear A5 HB5 hb
   go_wp2_with fail
   refine (Haw.out _ A7.out.keep _ A7.out.ok).mono ?_
   rintro e9 w9 ⟨rfl,hb9⟩
   have A9:=Qh (A7.out.quiet hb9)
   go_wp2
   go_ret
   exact ⟨rfl,A9.out.bel⟩
end Go.Proofs.YtmdfjnhfhidmhaaGreatDoor
