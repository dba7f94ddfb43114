/-
  Walks and laws that the claim's theorem uses: texts EdJ, joined; comments out. Conditions: as each theorem says.
-/
import Derived.Test.YtdodihnehppnmaaGreatDoorCI17
import Derived.Test.YtdodihnehppnmaaGreatDoorCI18
set_option linter.all false
namespace Go.Proofs.YtdodihnehppnmaaGreatDoor
open Go.RowKit
def rfE5 (e:Ent) (z:Int) (d:Bytes) (l:List Xt × Nat × Int):Ent × Nat × Int:=(entOn e z d l.1,l.2.1,l.2.2)
def rfE4 (s:Bytes) (e:Ent) (z:Int) (d:Bytes) (n:Int × Nat × Int):Ent × Nat × Int:=rfE5 e z d (rfX s n.1.toNat n.2.1 n.2.2 [])
def rfE3 (s:Bytes) (e:Ent) (z:Int) (d:Bytes × Nat × Int):Ent × Nat × Int:=rfE4 s e z d.1 (rfC 65536 s d.2.1 d.2.2)
def rfE2 (s:Bytes) (e:Ent) (z:Int × Nat × Int):Ent × Nat × Int:=rfE3 s e z.1 (rfT [] (rdStr s z.2.1) z.2.1 z.2.2)
def rfE1 (s:Bytes) (a:Nat) (e:Ent × Int):Ent × Nat × Int:=rfE2 s e.1 (rfT 0 (rdNum s a) a e.2)
def rfX1c (x y:Int) (r:Int × Nat × Int):Xt × Nat × Int:=(⟨x,y,r.1⟩,r.2.1,r.2.2)
def rfX1b (s:Bytes) (x:Int) (q:Int × Nat × Int):Xt × Nat × Int:=rfX1c x q.1 (rfT 0 (rdNum s q.2.1) q.2.1 q.2.2)
def rfX1a (s:Bytes) (p:Int × Nat × Int):Xt × Nat × Int:=rfX1b s p.1 (rfT 0 (rdNum s p.2.1) p.2.1 p.2.2)
theorem Xul (s:Bytes) (a:Nat) (e:Int):rfX1 s a e=rfX1a s (rfT 0 (rdNum s a) a e):=rfl
theorem Xum (s:Bytes) (a:Nat) (e:Int):(rfT [] (rdStr s a) a e).1.length≤s.length:=by
 by_cases he:e=0
 ·subst he
  cases h1:rdStr s a with
  |ok p=>rw [Xbm];exact Nat.le_of_lt (Xav (x:=p.1) (n:=p.2) h1).2.2
  |error c=>rw [Xbs];exact Nat.zero_le _
 ·rw [Xbt _ _ _ he];exact Nat.zero_le _
theorem Xpy (s:Bytes):((rfE s).2.2=0→rdE0 s= .ok ((rfE s).1,(rfE s).2.1))∧((rfE s).2.2≠0→rdEnt s 0= .error (rfE s).2.2):=by
 obtain ⟨k1,k2⟩:=Xt4 s
 cases h:rdE0 s with
 |ok p=>
  rw [k1 p.1 p.2 h]
  exact ⟨fun _=>rfl,fun q=>absurd rfl q⟩
 |error z=>
  obtain ⟨e1,hz⟩:=k2 z h
  have hz':z≠0:=by simpa using hz
  refine ⟨fun q=>absurd (e1.symm.trans q) hz',fun _=> ?_⟩
  rw [Xjb,h,Rb_err,e1]
structure HrJ (I:IH) (w:World) (m:Nat) (s:Bytes) (J:IH) (a:Nat) (z:Int) (W:World):Prop where
 mt:MAt I w J W
 ex:Ext w.heap.size I J
 fr:∀g,w.heap.size≤g→g≤m→J g=none
 res:W.heap[w.heap.size]? =some (.cells zeroRow 26 (0,0))
 rb:RfB W (w.heap.size+1) s a z
 ge:w.heap.size+2≤m
 sz:m<W.heap.size
section
variable {I J J':IH} {w W W':World} {s:Bytes} {m a b:Nat} {z y:Int}
theorem HrJ.thru (h:HrJ I w m s J a z W) (hb:Below W.heap.size W W'):HrJ I w m s J a z W':=
 ⟨h.mt.quiet hb,h.ex,h.fr,Xaj h.res hb,Xaj h.rb hb,h.ge,Nat.lt_of_lt_of_le h.sz hb.size⟩
theorem HrJ.ext (h:HrJ I w m s J a z W) (hb:Below W.heap.size W W') (hx:Ext W.heap.size J J') (hok:Ok J' W'):HrJ I w m s J' a z W':=
 ⟨h.mt.ext hb hx hok,h.ex.trans (hx.mono (by have:=h.sz;have:=h.ge;omega)) (Qn _),fun g h1 h2=>by rw [hx g (by have:=h.sz;omega)];exact h.fr g h1 h2,Xaj h.res hb,Xaj h.rb hb,h.ge,Nat.lt_of_lt_of_le h.sz hb.size⟩
theorem HrJ.past (h:HrJ I w m s J a z W) (o:Obj):HrJ I w m s J a z (W.alloc o):=h.thru ((Qb _ _).alloc (Qn _) o)
theorem HrJ.grown (h:HrJ I w m s J a z W) {row:Option Nat} (hg:W.grownBy W' row) (hr:∀g,row=some g→J g=none∧w.heap.size+1<g):HrJ I w m s J a z W':=
 ⟨⟨h.mt.ok.grown hg (fun g q=>(hr g q).1),h.mt.keep,h.mt.bel.grown hg h.mt.size (fun g q=>by have:=(hr g q).2;omega)⟩,h.ex,h.fr,
  Xac h.res hg (fun q=>by have:=(hr _ q).2;omega),Xac h.rb hg (fun q=>by have:=(hr _ q).2;omega),h.ge,Nat.lt_of_lt_of_le h.sz hg.size⟩
theorem HrJ.own (h:HrJ I w m s J a z W) (hg:W.grownBy W' (some m)):HrJ I w m s J a z W':=h.grown hg (fun g q=>by injection q with q;subst q;have:=h.ge;exact ⟨h.fr _ (by omega) (Qn _),by omega⟩)
theorem HrJ.new (h:HrJ I w m s J a z W) {g:Nat} (hg:W.grownBy W' (some g)) (hJ:J g=none) (hgt:m<g):HrJ I w m s J a z W':=h.grown hg (fun k q=>by injection q with q;subst q;have:=h.ge;exact ⟨hJ,by omega⟩)
theorem HrJ.read (h:HrJ I w m s J a z W) (ha:RfB W' (w.heap.size+1) s b y) (hg:W.grownBy W' (some (w.heap.size+1))):HrJ I w m s J b y W':=
 ⟨⟨h.mt.ok.grown hg (fun g q=>by injection q with q;subst q;have:=h.ge;exact h.fr _ (by omega) (by omega)),h.mt.keep,h.mt.bel.grown hg h.mt.size (fun g q=>by injection q with q;omega)⟩,h.ex,h.fr,
  Xac h.res hg (fun q=>by injection q with q;omega),ha,h.ge,Nat.lt_of_lt_of_le h.sz hg.size⟩
theorem HrJ.cells (h:HrJ I w m s J a z W):W.cell? ⟨w.heap.size+1,0,none⟩=some (S s)∧W.cell? ⟨w.heap.size+1,1,none⟩=some (.int .i64 (a:Int))∧W.cell? ⟨w.heap.size+1,2,none⟩=some (.int .i64 z):=Xan h.rb
end
theorem Xdh {fn:Func} {p u q:Tmp} {ty:TypeId} (h:fn.results= #[.cell p ty,.tmp u,.tmp q]) (tmps:Array Value) (P:Program) (W:World) {g:Nat} {C:Array Value} {t:TypeId} {d:TypeDesc} (hp:tmps.getD p undef=ptrV g)
 (hg:W.heap[g]? =some (.cells C t (0,0))) (hd:(match d with| .struct _| .array _ _=>true|_=>false)=true) (hu:P.underlying ty=some d) (hi:(P.info? ty).map (·.size)=some C.size):
 (results fn tmps).run P W= .ok (.tuple #[.agg C,tmps.getD u undef,tmps.getD q undef]) W:=by
 have L1:(loadVar ty ⟨g,0,none⟩).run P W= .ok (.agg C) W:=run_loadVar_row W g t ty C (0,0) d hg hu (by cases d<;>first|rfl|cases hd) hi
 have hp':tmps[p]?.getD undef=ptrV g:=by simpa using hp
 simp [results,h,hp',asAddr,L1,Sem.run_bind,Result.andThen]
abbrev dzL (n:Nat) (z:Int) (x:Unit):List (Option Tmp × Value):=
 [(some 86,.agg zeroRow),(some 87,.pointer (some ⟨n+1,0,none⟩)),(some 88,.pointer (some ⟨n+1,0,none⟩)),(some 89,.pointer (some ⟨n+1,2,none⟩)),(some 90,.int .i64 z),(none,undef),(some 5,.int .i64 0),(some 6,.int .i64 z)]
theorem Xbf {n:Nat} {z:Int} {x:Unit}:ApartF (dzL n z x):=by
 unfold ApartF
 simp
abbrev dkL (n m a:Nat) (e:Ent) (va vx:Value) (x:Unit):List (Option Tmp × Value):=
 [(some 91,entV e va vx),(some 92,.pointer (some ⟨n+1,0,none⟩)),(some 93,.pointer (some ⟨n+1,0,none⟩)),(some 94,.pointer (some ⟨n+1,1,none⟩)),(some 95,.int .i64 (a:Int)),(none,undef),(some 5,.int .i64 (a:Int)),(some 6,.int .i64 0)]
theorem Xfl {n m a:Nat} {e:Ent} {va vx:Value} {x:Unit}:ApartF (dkL n m a e va vx x):=by
 unfold ApartF
 simp
set_option maxRecDepth 100000 in
set_option maxHeartbeats 4000000 in
theorem Xj4 (I:IH) (s:Bytes) (hs:s.length≤4294967280) (w:World) (hw:Ok I w):
 Calls Tryz.prog 108 #[S s,.int .i64 0] w (DecR I w (rdEnt s 0)):=by
 have Hcs:=Qh (Xpy s)
 have Hr:=Qh (show rfE s=rfE1 s (rfT [] (rdStr s 0) 0 0).2.1 (rfE0 (rfT [] (rdStr s 0) 0 0)) from rfl)
 generalize rfE s=R at Hr Hcs
 obtain ⟨D,hD⟩:∃D,rdEnt s 0=D:=⟨_,rfl⟩
 have HD:=Qh hD
 rw [hD] at Hcs ⊢
 clear hD
 have M0:=Qh (((MAt.start hw).past (.cells zeroRow 26)).past (.cells #[S s,.int .i64 0,.int .i64 0] 199))
 have A0:=Qh (show ((w.alloc (.cells zeroRow 26)).alloc (.cells #[S s,.int .i64 0,.int .i64 0] 199)).heap[w.heap.size]? =some (.cells zeroRow 26 (0,0)) by
  rw [Below.heap_alloc _ _ _ (by simp),heap_alloc_new])
 have A1:=Qh (show RfB ((w.alloc (.cells zeroRow 26)).alloc (.cells #[S s,.int .i64 0,.int .i64 0] 199)) (w.heap.size+1) s 0 0 by
  have:=heap_alloc_new (w.alloc (.cells zeroRow 26)) (.cells #[S s,.int .i64 0,.int .i64 0] 199)
  rw [World.size_alloc] at this
  exact this)
 have hi7:(Tryz.prog.info? 26).map (·.size)=some 7:=by kernel_rfl
 have hi1:(Tryz.prog.info? 9).map (·.size)=some 1:=by kernel_rfl
 have hi3:(Tryz.prog.info? 30).map (·.size)=some 1:=by kernel_rfl
 have hi1s:(Tryz.prog.info? 24).map (·.size)=some 1:=by kernel_rfl
 have hi3x:(Tryz.prog.info? 134).map (·.size)=some 3:=by kernel_rfl
 go_enter Tryz.func108,Tryz.ntmps108
 go_wp2_with fail
 refine (Xd1 s hs _ 0 0 _ A1.out (by omega)).mono ?_
 have ha1:=Xd2 s 0 0 (Nat.zero_le _)
 have hhl:=Xum s 0 0
 generalize rfT [] (rdStr s 0) 0 0=p at Hr ha1 hhl ⊢
 obtain ⟨h,a1,z1⟩:=p
 dsimp only at Hr ha1 hhl ⊢
 rintro e W1 ⟨rfl,hb1,hg1⟩
 have hsz1:=hg1.size
 rw [World.size_alloc,World.size_alloc] at hsz1
 have K1:=Qh (show HrJ I w W1.heap.size s I a1 z1 (W1.alloc (.cells zeroRow 26)) from
  ⟨⟨(M0.out.ok.grown hg1 (fun g q=>by injection q with q;subst q;exact hw.fresh (by omega))).alloc _,fun _ _ h=>h,(M0.out.bel.grown hg1 M0.out.size (fun g q=>by injection q with q;omega)).alloc (by omega) _⟩,Ext.refl _ _,fun g h1 _=>hw.fresh h1,
    (Below.heap_alloc _ _ _ (by omega)).trans (Xac A0.out hg1 (fun q=>by injection q with q;omega)),(Below.heap_alloc _ _ _ (by omega)).trans hb1,by omega,by simp⟩)
 have E1:=Qh (heap_alloc_new W1 (.cells zeroRow 26))
 clear A0 A1 M0 hb1 hg1
 obtain ⟨c0,c1,c2⟩:=K1.out.cells
 go_upto_if 25 with fail
 go_cut [10] (fun s10 wx=> ∃xe va J z,rfE0 (h,a1,z1)=(xe,z)∧HrJ I w W1.heap.size s J a1 z wx∧wx.heap[W1.heap.size]? =some (.cells (entRow xe va (.slice none 0 0)) 26 (0,0))∧RdS tAt J va xe.attrs)
 case first=>
  by_cases hz:z1=0
  ·subst hz
   have k1:((0:Int)==0)=true:=rfl
   have Hdc:=Qh (fun w hw=>Xge I h (by omega) w hw)
   obtain ⟨xe,zz,hq⟩:∃xe zz,rfHd h=(xe,zz):=⟨_,_,rfl⟩
   rw [hq] at Hdc
   have Hq:=Qh (show rfE0 (h,a1,(0:Int))=(xe,zz) from hq)
   clear hq
   go_wp2_with fail
   refine (Hdc.out _ K1.out.mt.ok).mono ?_
   rintro e W2 ⟨va,J,rfl,hva,hxJ,hJ,hb2⟩
   dsimp only at hva ⊢
   obtain ⟨aoa,cpa,rfl,_,_,_⟩:=id hva
   have K2:=Qh (K1.out.ext hb2 hxJ hJ)
   have E2:=Qh (Xaj E1.out hb2)
   have H2:=Qh (heap_alloc_new W2 (.cells zeroRow 26))
   have K3:=Qh (K2.out.past (.cells zeroRow 26))
   have E3:=Qh ((Below.heap_alloc W2 (.cells zeroRow 26) _ K2.out.sz).trans E2.out)
   have hJ2:J W2.heap.size=none:=hJ.fresh (Qn _)
   have hlt2:=K2.out.sz
   have Hva:=Qh hva
   clear K1 E1 K2 E2 hva hxJ hJ hb2 c0 c1 c2
   go_wp2_with (first
                |(refine Xab rfl rfl 26 _ _ rfl W2.heap.size 0 (entRow xe (.slice aoa xe.attrs.length cpa) (.slice none 0 0)).toList (.agg (entRow xe (.slice aoa xe.attrs.length cpa) (.slice none 0 0))) (by simp [Act.eval,Act.put]) (by simp [Act.eval,Act.put]) (by rfl) zeroRow 26 H2.out (by simp) hi7 (by simp [Value.oneCell']) (entRow xe (.slice aoa xe.attrs.length cpa) (.slice none 0 0)) (by rfl) ?_
                  intro W4 hg4 hr4
                  have H4:=Qh hr4
                  have K4:=Qh (K3.out.new hg4 hJ2 hlt2)
                  have E4:=Qh (Xac E3.out hg4 (fun q=>by injection q with q;omega))
                  clear H2)
                |(refine wpList_load_row rfl 26 _ rfl W2.heap.size rfl 26 _ (0,0) _ H4.out Tryz.underlying26 rfl hi7 ?_)
                |(refine Xab rfl rfl 26 _ _ rfl W1.heap.size 0 (entRow xe (.slice aoa xe.attrs.length cpa) (.slice none 0 0)).toList (.agg (entRow xe (.slice aoa xe.attrs.length cpa) (.slice none 0 0))) (by simp [Act.eval,Act.put]) (by simp [Act.eval,Act.put]) (by rfl) zeroRow 26 E4.out (by simp) hi7 (by simp [Value.oneCell']) (entRow xe (.slice aoa xe.attrs.length cpa) (.slice none 0 0)) (by rfl) ?_
                  intro W5 hg5 hr5
                  have E5:=Qh hr5
                  have K5:=Qh (K4.out.own hg5)
                  obtain ⟨c0,c1,c2⟩:=K5.out.cells)
                |(refine Xab rfl rfl 30 _ _ rfl (w.heap.size+1) 2 [.int .i64 zz] (.int .i64 zz) (by simp [Act.eval]) (by simp [Act.eval]) (by rfl) _ 199 K5.out.rb (by simp) hi3 (by simp [Value.oneCell']) #[S s,.int .i64 (a1:Int),.int .i64 zz] (by rfl) ?_
                  intro W6 hg6 hr6))
   go_meet
   case rel=>exact ⟨xe,_,J,zz,Hq.out,K5.out.read hr6 hg6,Xac E5.out hg6 (fun q=>by injection q with q;omega),Hva.out⟩
  ·have k1:(z1==0)=false:=by simpa using hz
   have Hq:=Qh (show rfE0 (h,a1,z1)=(⟨0,[],[],[],0,[],[]⟩,z1) by unfold rfE0;rw [if_neg hz])
   clear hz
   go_wp2_with fail
   go_meet
   case rel=>exact ⟨_,.slice none 0 0,I,z1,Hq.out,K1.out,E1.out,RdS.nil _ _⟩
 case rest=>
  clear K1 E1 c0 c1 c2
  obtain ⟨xe,va,J,z2,hx,hK,hE,hva⟩:=hcut
  obtain ⟨aoa,cpa,rfl,_,_,_⟩:=id hva
  have K2:=Qh hK
  have E2:=Qh hE
  have Hva:=Qh hva
  rw [hx,rfE1] at Hr
  dsimp only at Hr
  clear hK hE hva hx
  have hm1:=K2.out.ge
  go_wp2_with fail
  have ha2:=Xe5 s a1 z2 ha1
  refine (Xj2 s hs _ a1 z2 _ K2.out.rb (by omega)).mono ?_
  generalize rfT 0 (rdNum s a1) a1 z2=p at Hr ha2 ⊢
  obtain ⟨sz,a2,z3⟩:=p
  rw [rfE2] at Hr
  dsimp only at Hr ha2 ⊢
  rintro e W3 ⟨rfl,hb3,hg3⟩
  have K3:=Qh (K2.out.read hb3 hg3)
  have E3:=Qh (Xac E2.out hg3 (fun q=>by injection q with q;omega))
  clear K2 E2 hb3 hg3
  go_wp2_with
   (refine Xab rfl rfl 3 _ _ rfl W1.heap.size 4 [.int .i64 sz] (.int .i64 sz) (by simp [Act.eval]) (by simp [Act.eval]) (by rfl) _ 26 E3.out (by simp) (by first|exact hi1|exact Xa2) (by simp [Value.oneCell']) (entRow { xe with size:=sz } (.slice aoa xe.attrs.length cpa) (.slice none 0 0)) (by rfl) ?_
    intro W4 hg4 hr4
    have K4:=Qh (K3.out.own hg4)
    have E4:=Qh hr4)
  have ha3:=Xd2 s a2 z3 ha2
  refine (Xd1 s hs _ a2 z3 _ K4.out.rb (by omega)).mono ?_
  generalize rfT [] (rdStr s a2) a2 z3=p at Hr ha3 ⊢
  obtain ⟨dg,a3,z4⟩:=p
  rw [rfE3] at Hr
  dsimp only at Hr ha3 ⊢
  rintro e W5 ⟨rfl,hb5,hg5⟩
  have K5:=Qh (K4.out.read hb5 hg5)
  have E5:=Qh (Xac E4.out hg5 (fun q=>by injection q with q;omega))
  clear K3 E3 K4 E4 hb5 hg5 hg4 hr4
  go_wp2_with
   (refine Xab rfl rfl 9 _ _ rfl W1.heap.size 5 [S dg] (S dg) (by simp [Act.eval]) (by simp [Act.eval]) (by rfl) _ 26 E5.out (by simp) (by first|exact hi1|exact Xa2) (by simp [Value.oneCell']) (entRow (entOn xe sz dg []) (.slice aoa xe.attrs.length cpa) (.slice none 0 0)) (by rfl) ?_
    intro W6 hg6 hr6
    have K6:=Qh (K5.out.own hg6)
    have E6:=Qh hr6)
  have ha4:=Xp0 65536 s a3 z4 ha3
  have hn0:=Xpz 65536 (by decide) s a3 z4
  refine (Xni s hs _ a3 z4 65536 _ K6.out.rb (by omega)).mono ?_
  generalize rfC 65536 s a3 z4=p at Hr ha4 hn0 ⊢
  obtain ⟨N,a4,z5⟩:=p
  rw [rfE4] at Hr
  dsimp only at Hr ha4 hn0 ⊢
  obtain ⟨m,rfl⟩:∃m:Nat,N=(m:Int):=⟨N.toNat,by omega⟩
  rw [Int.toNat_natCast] at Hr
  rintro e W7 ⟨rfl,hb7,hg7⟩
  have K7:=Qh (K6.out.read hb7 hg7)
  have E7:=Qh (Xac E6.out hg7 (fun q=>by injection q with q;omega))
  have O7:=Qh (OwnS.nil tXt 134 J W7 W7.heap.size)
  have hJf:∀b,W7.heap.size≤b→J b=none:=fun b hb=>K7.out.mt.ok.fresh hb
  obtain ⟨L,hL⟩:∃L,rfX s m a4 z5 []=L:=⟨_,rfl⟩
  rw [hL] at Hr
  have HL:=Qh hL
  have hm:m≤65536:=by omega
  have hsz7:=K7.out.sz
  clear K5 E5 K6 E6 hb7 hg7 hg6 hr6 hL hn0
  generalize hN7:W7.heap.size=N7 at*
  go_wp2_with fail
  go_loopw [13,14] (fun s13 _ wr=> ∃(k a:Nat) (z:Int) (acc:List Xt) (vx:Value),k≤m∧s13= .int .i64 k∧acc.length=k∧a≤s.length∧HrJ I w W1.heap.size s J a z wr∧wr.heap[W1.heap.size]? =some (.cells (entRow (entOn xe sz dg []) (.slice aoa xe.attrs.length cpa) vx) 26 (0,0))∧OwnS tXt 134 J wr N7 vx acc∧N7≤wr.heap.size∧rfX s (m-k) a z acc=L) (fun i _ _=>m-(intOf i).toNat)
  case atStart=>exact ⟨0,a4,z5,[],_,Nat.zero_le _,rfl,rfl,ha4,K7.out,E7.out,O7.out,Nat.le_of_eq hN7.symm,HL.out⟩
  case round=>
   clear K7 E7 O7 HL hN7 ha4 ha3 ha2
   obtain ⟨k,A8,z8,acc,vx,hk,rfl,hacc,a8le,hK,hE,hO,hne,hrd⟩:=hrel
   have K0:=Qh hK
   have E0:=Qh hE
   have O0:=Qh hO
   have Hrd:=Qh hrd
   have Hacc:=Qh hacc
   clear hK hE hO hrd hacc
   obtain ⟨c0,c1,c2⟩:=K0.out.cells
   by_cases hlt:k<m
   ·by_cases hz:z8=0
    ·subst hz
     rw [show m-k=m-(k+1)+1 by omega,rfX,if_neg (by simp)] at Hrd
     obtain ⟨Y,hY⟩:∃Y,rfX1 s A8 0=Y:=⟨_,rfl⟩
     rw [hY] at Hrd
     have Hst:=Qh ((Xul s A8 0).symm.trans hY)
     have H8:=Qh (heap_alloc_new wr (.cells #[.int .i64 0,.int .i64 0,.int .i64 0] 134))
     have K8:=Qh (K0.out.past (.cells #[.int .i64 0,.int .i64 0,.int .i64 0] 134))
     have E8:=Qh ((Below.heap_alloc wr (.cells #[.int .i64 0,.int .i64 0,.int .i64 0] 134) _ K0.out.sz).trans E0.out)
     have O8:=Qh (O0.out.alloc (.cells #[.int .i64 0,.int .i64 0,.int .i64 0] 134))
     have HB0:=Qh (O0.out.ne_ge (Qn _))
     have n8:wr.heap.size+1≤(wr.alloc (.cells #[.int .i64 0,.int .i64 0,.int .i64 0] 134)).heap.size:=by simp
     have hwm:=K0.out.sz
     clear K0 E0 O0 hY
     go_wp2_with fail
     rw [rfX1a] at Hst
     have a9le:=Xe5 s A8 0 a8le
     refine (Xj2 s hs _ A8 0 _ K8.out.rb (by omega)).mono ?_
     generalize rfT 0 (rdNum s A8) A8 0=p9 at Hst a9le ⊢
     obtain ⟨x9,A9,z9⟩:=p9
     first|rw [rfX1b] at Hst|rw [rfX1c] at Hst|skip
     dsimp only at a9le Hst ⊢
     rintro e V9 ⟨rfl,hb9,hg9⟩
     have k9:=Qh (K8.out.read hb9 hg9)
     have e9:=Qh (Xac E8.out hg9 (fun q=>by injection q with q;omega))
     have o9:=Qh (O8.out.kept hg9 (.inr (O8.out.ne_lt (by omega))))
     have h9:=Qh (Xac H8.out hg9 (fun q=>by injection q with q;omega))
     have n9:=Nat.le_trans n8 hg9.size
     clear K8 E8 O8 H8 hb9 hg9
     go_wp2_with (refine Xab rfl rfl 3 _ _ rfl wr.heap.size 0 [.int .i64 x9] (.int .i64 x9) (by simp [Act.eval]) (by simp [Act.eval]) (by rfl) _ 134 h9.out (by simp) Xa2 (by simp [Value.oneCell']) (#[.int .i64 x9,.int .i64 0,.int .i64 0]) (by rfl) ?_
                  intro X9 gx9 rx9
                  have H9:=Qh rx9
                  have K9:=Qh (k9.out.new gx9 (hJf _ hne) (by omega))
                  have E9:=Qh (Xac e9.out gx9 (fun q=>by injection q with q;omega))
                  have O9:=Qh (o9.out.kept gx9 (.inr (fun q=>HB0.out q)))
                  have n9:=Nat.le_trans n9 gx9.size)
     clear k9 e9 o9 h9 gx9 rx9
     have a10le:=Xe5 s A9 z9 a9le
     refine (Xj2 s hs _ A9 z9 _ K9.out.rb (by omega)).mono ?_
     generalize rfT 0 (rdNum s A9) A9 z9=p10 at Hst a10le ⊢
     obtain ⟨x10,A10,z10⟩:=p10
     first|rw [rfX1b] at Hst|rw [rfX1c] at Hst|skip
     dsimp only at a10le Hst ⊢
     rintro e V10 ⟨rfl,hb10,hg10⟩
     have k10:=Qh (K9.out.read hb10 hg10)
     have e10:=Qh (Xac E9.out hg10 (fun q=>by injection q with q;omega))
     have o10:=Qh (O9.out.kept hg10 (.inr (O9.out.ne_lt (by omega))))
     have h10:=Qh (Xac H9.out hg10 (fun q=>by injection q with q;omega))
     have n10:=Nat.le_trans n9 hg10.size
     clear K9 E9 O9 H9 hb10 hg10
     go_wp2_with (refine Xab rfl rfl 3 _ _ rfl wr.heap.size 1 [.int .i64 x10] (.int .i64 x10) (by simp [Act.eval]) (by simp [Act.eval]) (by rfl) _ 134 h10.out (by simp) Xa2 (by simp [Value.oneCell']) (#[.int .i64 x9,.int .i64 x10,.int .i64 0]) (by rfl) ?_
                  intro X10 gx10 rx10
                  have H10:=Qh rx10
                  have K10:=Qh (k10.out.new gx10 (hJf _ hne) (by omega))
                  have E10:=Qh (Xac e10.out gx10 (fun q=>by injection q with q;omega))
                  have O10:=Qh (o10.out.kept gx10 (.inr (fun q=>HB0.out q)))
                  have n10:=Nat.le_trans n10 gx10.size)
     clear k10 e10 o10 h10 gx10 rx10
     have a11le:=Xe5 s A10 z10 a10le
     refine (Xj2 s hs _ A10 z10 _ K10.out.rb (by omega)).mono ?_
     generalize rfT 0 (rdNum s A10) A10 z10=p11 at Hst a11le ⊢
     obtain ⟨x11,A11,z11⟩:=p11
     first|rw [rfX1b] at Hst|rw [rfX1c] at Hst|skip
     dsimp only at a11le Hst ⊢
     rintro e V11 ⟨rfl,hb11,hg11⟩
     have k11:=Qh (K10.out.read hb11 hg11)
     have e11:=Qh (Xac E10.out hg11 (fun q=>by injection q with q;omega))
     have o11:=Qh (O10.out.kept hg11 (.inr (O10.out.ne_lt (by omega))))
     have h11:=Qh (Xac H10.out hg11 (fun q=>by injection q with q;omega))
     have n11:=Nat.le_trans n10 hg11.size
     clear K10 E10 O10 H10 hb11 hg11
     go_wp2_with (first
                  |(refine Xab rfl rfl 3 _ _ rfl wr.heap.size 2 [.int .i64 x11] (.int .i64 x11) (by simp [Act.eval]) (by simp [Act.eval]) (by rfl) _ 134 h11.out (by simp) Xa2 (by simp [Value.oneCell']) #[.int .i64 x9,.int .i64 x10,.int .i64 x11] (by rfl) ?_
                    intro X11 gx11 rx11
                    have H11:=Qh rx11
                    have K11:=Qh (k11.out.new gx11 (hJf _ hne) (by omega))
                    have E11:=Qh (Xac e11.out gx11 (fun q=>by injection q with q;omega))
                    have O11:=Qh (o11.out.kept gx11 (.inr (fun q=>HB0.out q)))
                    have n11:=Nat.le_trans n11 gx11.size
                    have cE:=(ent_row E11.out).c6)
                  |(refine wpList_load_row rfl 134 _ rfl wr.heap.size rfl 134 _ (0,0) _ H11.out Tryz.underlying134 rfl hi3x ?_)
                  |(at_builtin
                    refine Xaw (w0:=X11) Xlg rfl _ _ rfl N7 _ _ rfl O11.out (⟨x9,x10,x11⟩:Xt) [.int .i64 x9,.int .i64 x10,.int .i64 x11] _ (by first|rfl|simp [Act.eval]) rfl (by rw [Hacc.out];omega) (by rw [Hacc.out];omega) (by omega) ?_
                    intro v12 X12 o12 g12
                    obtain ⟨ao12,cp12,rfl⟩:=o12.shape
                    have O12:=Qh o12
                    have E12:=Qh (Xac E11.out g12 (O11.out.ne_lt (by omega)))
                    have K12:=Qh (K11.out.grown g12 (fun g q=>by have:=O11.out.own_ge q;exact ⟨hJf g this,by omega⟩)))
                  |(refine Xab rfl rfl 24 _ _ rfl W1.heap.size 6 [.slice ao12 (acc++ [(⟨x9,x10,x11⟩:Xt)]).length cp12] (.slice ao12 (acc++ [(⟨x9,x10,x11⟩:Xt)]).length cp12) (by simp [Act.eval]) (by simp [Act.eval]) (by rfl) _ 26 E12.out (by simp) hi1s (by simp [Value.oneCell']) (entRow (entOn xe sz dg []) (.slice aoa xe.attrs.length cpa) (.slice ao12 (acc++ [(⟨x9,x10,x11⟩:Xt)]).length cp12)) (by rfl) ?_
                    intro X13 g13 r13))
     go_roundw
     case rel=>exact ⟨k+1,A11,z11,acc++ [⟨x9,x10,x11⟩],.slice ao12 (acc++ [(⟨x9,x10,x11⟩:Xt)]).length cp12,by omega,by go_num,by rw [List.length_append,Hacc.out];rfl,a11le,K12.out.own g13,r13,O12.out.kept g13 (.inr (O12.out.ne_lt (by omega))),by have:=g12.size;have:=g13.size;omega,by rw [←Hrd.out,←Hst.out]⟩
     case measure=>simp [intOf];omega
    ·have hL:L=(acc,A8,z8):=by rw [←Hrd.out,Xe4 _ _ _ hz]
     have hzb:(z8==0)=false:=by simpa using hz
     subst hL
     rw [rfE5] at Hr
     dsimp only at Hr
     clear Hrd
     have HDz:=Qh (show D= .error z8 by have:=Hcs.out.2;rw [Hr.out] at this;exact this hz)
     have k2:(z8 != 0)=true:=by simpa using hz
     obtain ⟨c0,c1,c2⟩:=K0.out.cells
     go_wp2_with fail
     have c2:=(Xan K0.out.rb).2.2
     have Qrow:=Qh K0.out.res
     refine Xad (X:=Unit) (dzL w.heap.size (z8)) (RgE wr 219 229 220 230 221 231 222 232 (fun _ _=>True) (fun _ _=>True) (fun _ _=>True) (fun _ _=>True) (fun _ _=>True) (fun _ _=>True) (fun x=>w.heap.size) 26 5 209 210 (fun x=>zeroRow) (fun x=>zeroRow) (fun x=>zeroRow)) (by kernel_rfl) (by kernel_rfl) ?_ ?_ ?_
     ·exact ⟨(),RgE.start _ _ trivial⟩
     ·rintro x s' a' w' i hsz hcl ha hC hi
      obtain ⟨hun,oi,hoi,hall⟩:=mem_ready.1 hi
      have ev:=Xb6 Xbf ha
      have hlt:=Xde hun
      rcases i with _|_|_|_|_|_|_|_|i
      rotate_left 8
      ·simp at hoi
      all_goals
       have hoj:=hoi
       simp at hoi
       subst hoi
       simp [Region.binds] at hall
       try have hl:=Xa5 6 5 hcl (by decide +kernel) hun
       try have hbw:=hC.off hl
       have c2:=hC.cell c2 (by show w.heap.size≠w.heap.size+1;omega)
       refine wpOp_step hoj (fun K' hK=> ?_)
       rw [if_pos (by rfl)]
      rotate_left 5
      ·have hrow:w'.heap[w.heap.size]? =some (.cells _ 26 (0,0)):=(hbw.block _ (Array.getElem?_eq_some_iff.1 Qrow.out).1).trans Qrow.out
       refine Xam 26 _ _ rfl (w.heap.size) 0 zeroRow.toList (.agg zeroRow) (by simp [Act.eval,ev,evF,hall]) (by simp [Act.eval,ev,evF,hall]) (by rfl) _ _ hrow (by simp) (by kernel_rfl) (by simp [Value.oneCell']) ?_
       exact hK _ _ ⟨x,Xae (d:=none) (v:=undef) Xbf ha rfl hun,hC.put1 hun trivial (Xaq (by simp [hsz])) (Xaq (by simp [hsz])) (by decide) hrow (by rfl)⟩
      all_goals
       unfold Oper.wp
       first
       |(simp [go_sem,ev,evF,hall,Oper.upon,c2];exact hK _ _ ⟨x,Xag Xbf ha rfl hun,hC.pure (by decide)⟩)
       |(simp [go_sem,ev,evF,Oper.upon,c2];exact hK _ _ ⟨x,Xag Xbf ha rfl hun,hC.pure (by decide)⟩)
     ·rintro x s' a' wE hup ha hC
      obtain ⟨wb,hbW,hFin,hgr,hrow⟩:=hC.on (hup 5 (by decide))
      simp only [ite_self] at hrow
      rw [Xao _ _ _ _ (fun i hi=>by rw [Nat.zero_add];exact hup i (by simpa using hi))] at ha
      subst ha
      simp only [fillAll,Act.put,List.setIfInBounds_toArray,List.set_cons_succ,List.set_cons_zero]
      have hbE:=(K0.out.mt.bel.trans (hbW.mono K0.out.mt.size)).grown hgr (Nat.le_trans K0.out.mt.size hbW.size) (fun g q=>by injection q with q;omega)
      clear hC hup
      go_wp2
      refine bodyPost_ret (Xdh rfl _ _ _ rfl hrow rfl Tryz.underlying26 hi7) rfl ?_
      rw [HDz.out]
      exact ⟨rfl,hbE⟩
   ·have hL:L=(acc,A8,z8):=by rw [←Hrd.out,show m-k=0 by omega,rfX]
    subst hL
    rw [rfE5] at Hr
    dsimp only at Hr
    clear Hrd
    by_cases hz:z8=0
    ·subst hz
     have HE0:=Qh (show rdE0 s= .ok (entOn xe sz dg acc,A8) by have:=Hcs.out.1;rw [Hr.out] at this;exact this rfl)
     obtain ⟨hwf,hbn,hxl,_,_⟩:=Xuq hs HE0.out
     have HD1:=Qh (show D=entEnd (entOn xe sz dg acc) A8 by rw [←HD.out,Xjb,HE0.out];rfl)
     obtain ⟨aov,cpv,rfl⟩:=O0.out.shape
     obtain ⟨J2,hx2,hok2,hvx2,_⟩:=O0.out.freeze K0.out.mt.ok hJf
     have kp:∀b c,J b=some c→J2 b=some c:=fun b c hc=>by
      rw [hx2 b (by
       rcases Nat.lt_or_ge b N7 with h|h
       ·exact h
       ·rw [hJf b h] at hc;cases hc)]
      exact hc
     have hva2:=RdS.mono kp Hva.out
     have hbnd:=K0.out.mt.bel.size
     have K9:=Qh (show HrJ I w W1.heap.size s J2 A8 0 wr from ⟨⟨hok2,fun b c h=>kp b c (K0.out.mt.keep b c h),K0.out.mt.bel⟩,K0.out.ex.trans (hx2.mono (by have:=K0.out.ge;omega)) (Qn _),
      fun g h1 h2=>(hx2 g (by omega)).trans (K0.out.fr g h1 h2),K0.out.res,K0.out.rb,K0.out.ge,K0.out.sz⟩)
     have Hck:=Qh (fun w hw=>Xg5 J2 (entOn xe sz dg acc) _ _ hva2 hvx2 hwf w hw)
     rw [Xir (by omega)] at Hck
     have VA:=Qh hva2
     have VX:=Qh hvx2
     have E9:=Qh (show wr.heap[W1.heap.size]? =some (.cells (entRow (entOn xe sz dg acc) (.slice aoa xe.attrs.length cpa) (.slice aov acc.length cpv)) 26 (0,0)) from E0.out)
     clear K0 E0 O0 hx2 hok2 hvx2 hva2 kp hwf Hacc hJf HE0
     obtain ⟨c0,c1,c2⟩:=K9.out.cells
     have k1:((0:Int)==0)=true:=rfl
     go_wp2_with (refine wpList_load_row rfl 26 _ rfl W1.heap.size rfl 26 _ (0,0) _ E9.out Tryz.underlying26 rfl hi7 ?_)
     refine (Hck.out _ K9.out.mt.ok).mono ?_
     obtain ⟨cz,hcz⟩:∃cz,entErr (entOn xe sz dg acc)=cz:=⟨_,rfl⟩
     rw [hcz]
     have Hcz:=Qh hcz
     clear hcz
     rintro e V9 ⟨rfl,hb9⟩
     have KA:=Qh (K9.out.thru hb9)
     have EA:=Qh (Xaj E9.out hb9)
     clear K9 E9 hb9 Hck c0 c1 c2
     go_upto_region 21 with (refine Xab rfl rfl 30 _ _ rfl (w.heap.size+1) 2 [.int .i64 cz] (.int .i64 cz) (by simp [Act.eval]) (by simp [Act.eval]) (by rfl) _ 199 KA.out.rb (by simp) hi3 (by simp [Value.oneCell']) #[S s,.int .i64 (A8:Int),.int .i64 cz] (by rfl) ?_
                             intro X9 gx9 rx9)
     have KB:=Qh (KA.out.read rx9 gx9)
     have EBx:=Qh (Xac EA.out gx9 (fun q=>by injection q with q;omega))
     clear KA EA gx9 rx9
     obtain ⟨c0,c1,c2⟩:=KB.out.cells
     by_cases hc0:cz=0
     ·subst hc0
      have HDz:=Qh (show D= .ok (entOn xe sz dg acc,A8) by rw [HD1.out,entEnd,if_neg (by rw [Hcz.out];simp)])
      have k2:((0:Int) != 0)=false:=rfl
      obtain ⟨y0,y1,y2,y3,y4,y5,y6⟩:=ent_row EBx.out
      go_wp2_with fail
      have c1:=(Xan KB.out.rb).2.1
      have Qrow:=Qh KB.out.res
      refine Xad (X:=Unit) (dkL w.heap.size W1.heap.size (A8) (entOn xe sz dg acc) (.slice aoa xe.attrs.length cpa) (.slice aov acc.length cpv)) (RgE X9 219 229 220 230 221 231 222 232 (fun _ _=>True) (fun _ _=>True) (fun _ _=>True) (fun _ _=>True) (fun _ _=>True) (fun _ _=>True) (fun x=>w.heap.size) 26 5 209 210 (fun x=>entRow (entOn xe sz dg acc) (.slice aoa xe.attrs.length cpa) (.slice aov acc.length cpv)) (fun x=>entRow (entOn xe sz dg acc) (.slice aoa xe.attrs.length cpa) (.slice aov acc.length cpv)) (fun x=>entRow (entOn xe sz dg acc) (.slice aoa xe.attrs.length cpa) (.slice aov acc.length cpv))) (by kernel_rfl) (by kernel_rfl) ?_ ?_ ?_
      ·exact ⟨(),RgE.start _ _ trivial⟩
      ·rintro x s' a' w' i hsz hcl ha hC hi
       obtain ⟨hun,oi,hoi,hall⟩:=mem_ready.1 hi
       have ev:=Xb6 Xfl ha
       have hlt:=Xde hun
       rcases i with _|_|_|_|_|_|_|_|i
       rotate_left 8
       ·simp at hoi
       all_goals
        have hoj:=hoi
        simp at hoi
        subst hoi
        simp [Region.binds] at hall
        try have hl:=Xa5 6 5 hcl (by decide +kernel) hun
        try have hbw:=hC.off hl
        try have y0:=Xaa hbw y0
        try have y1:=Xaa hbw y1
        try have y2:=Xaa hbw y2
        try have y3:=Xaa hbw y3
        try have y4:=Xaa hbw y4
        try have y5:=Xaa hbw y5
        try have y6:=Xaa hbw y6
        have c1:=hC.cell c1 (by show w.heap.size≠w.heap.size+1;omega)
        refine wpOp_step hoj (fun K' hK=> ?_)
        rw [if_pos (by rfl)]
       rotate_left 5
       ·have hrow:w'.heap[w.heap.size]? =some (.cells _ 26 (0,0)):=(hbw.block _ (Array.getElem?_eq_some_iff.1 Qrow.out).1).trans Qrow.out
        refine Xam 26 _ _ rfl (w.heap.size) 0 (entRow (entOn xe sz dg acc) (.slice aoa xe.attrs.length cpa) (.slice aov acc.length cpv)).toList (entV (entOn xe sz dg acc) (.slice aoa xe.attrs.length cpa) (.slice aov acc.length cpv)) (by simp [Act.eval,ev,evF,hall]) (by simp [Act.eval,ev,evF,hall]) (by rfl) _ _ hrow (by simp) (by kernel_rfl) (by simp [Value.oneCell']) ?_
        exact hK _ _ ⟨x,Xae (d:=none) (v:=undef) Xfl ha rfl hun,hC.put1 hun trivial (Xaq (by simp [hsz])) (Xaq (by simp [hsz])) (by decide) hrow (by rfl)⟩
       all_goals
        unfold Oper.wp
        first
        |(simp [go_sem,ev,evF,hall,Oper.upon,y0,y1,y2,y3,y4,y5,y6,c1];exact hK _ _ ⟨x,Xag Xfl ha rfl hun,hC.pure (by decide)⟩)
        |(simp [go_sem,ev,evF,Oper.upon,y0,y1,y2,y3,y4,y5,y6,c1];exact hK _ _ ⟨x,Xag Xfl ha rfl hun,hC.pure (by decide)⟩)
      ·rintro x s' a' wE hup ha hC
       obtain ⟨wb,hbW,hFin,hgr,hrow⟩:=hC.on (hup 5 (by decide))
       simp only [ite_self] at hrow
       rw [Xao _ _ _ _ (fun i hi=>by rw [Nat.zero_add];exact hup i (by simpa using hi))] at ha
       subst ha
       simp only [fillAll,Act.put,List.setIfInBounds_toArray,List.set_cons_succ,List.set_cons_zero]
       have hbE:=(KB.out.mt.bel.trans (hbW.mono KB.out.mt.size)).grown hgr (Nat.le_trans KB.out.mt.size hbW.size) (fun g q=>by injection q with q;omega)
       have hok:=(KB.out.mt.ok.below (Qn _) hbW).grown hgr (fun g q=>by injection q with q;subst q;have:=KB.out.ge;exact KB.out.fr _ (Qn _) (by omega))
       clear hC hup
       go_wp2
       refine bodyPost_ret (Xdh rfl _ _ _ rfl hrow rfl Tryz.underlying26 hi7) rfl ?_
       rw [HDz.out]
       exact ⟨_,_,J2,rfl,VA.out,VX.out,KB.out.ex,hok,hbE⟩
     ·have HDz:=Qh (show D= .error cz by rw [HD1.out,entEnd,if_pos (by rw [Hcz.out];exact hc0),Hcz.out])
      have k2:(cz != 0)=true:=by simpa using hc0
      clear hc0
      go_wp2_with fail
      have c2:=(Xan KB.out.rb).2.2
      have Qrow:=Qh KB.out.res
      refine Xad (X:=Unit) (dzL w.heap.size (cz)) (RgE X9 219 229 220 230 221 231 222 232 (fun _ _=>True) (fun _ _=>True) (fun _ _=>True) (fun _ _=>True) (fun _ _=>True) (fun _ _=>True) (fun x=>w.heap.size) 26 5 209 210 (fun x=>zeroRow) (fun x=>zeroRow) (fun x=>zeroRow)) (by kernel_rfl) (by kernel_rfl) ?_ ?_ ?_
      ·exact ⟨(),RgE.start _ _ trivial⟩
      ·rintro x s' a' w' i hsz hcl ha hC hi
       obtain ⟨hun,oi,hoi,hall⟩:=mem_ready.1 hi
       have ev:=Xb6 Xbf ha
       have hlt:=Xde hun
       rcases i with _|_|_|_|_|_|_|_|i
       rotate_left 8
       ·simp at hoi
       all_goals
        have hoj:=hoi
        simp at hoi
        subst hoi
        simp [Region.binds] at hall
        try have hl:=Xa5 6 5 hcl (by decide +kernel) hun
        try have hbw:=hC.off hl
        have c2:=hC.cell c2 (by show w.heap.size≠w.heap.size+1;omega)
        refine wpOp_step hoj (fun K' hK=> ?_)
        rw [if_pos (by rfl)]
       rotate_left 5
       ·have hrow:w'.heap[w.heap.size]? =some (.cells _ 26 (0,0)):=(hbw.block _ (Array.getElem?_eq_some_iff.1 Qrow.out).1).trans Qrow.out
        refine Xam 26 _ _ rfl (w.heap.size) 0 zeroRow.toList (.agg zeroRow) (by simp [Act.eval,ev,evF,hall]) (by simp [Act.eval,ev,evF,hall]) (by rfl) _ _ hrow (by simp) (by kernel_rfl) (by simp [Value.oneCell']) ?_
        exact hK _ _ ⟨x,Xae (d:=none) (v:=undef) Xbf ha rfl hun,hC.put1 hun trivial (Xaq (by simp [hsz])) (Xaq (by simp [hsz])) (by decide) hrow (by rfl)⟩
       all_goals
        unfold Oper.wp
        first
        |(simp [go_sem,ev,evF,hall,Oper.upon,c2];exact hK _ _ ⟨x,Xag Xbf ha rfl hun,hC.pure (by decide)⟩)
        |(simp [go_sem,ev,evF,Oper.upon,c2];exact hK _ _ ⟨x,Xag Xbf ha rfl hun,hC.pure (by decide)⟩)
      ·rintro x s' a' wE hup ha hC
       obtain ⟨wb,hbW,hFin,hgr,hrow⟩:=hC.on (hup 5 (by decide))
       simp only [ite_self] at hrow
       rw [Xao _ _ _ _ (fun i hi=>by rw [Nat.zero_add];exact hup i (by simpa using hi))] at ha
       subst ha
       simp only [fillAll,Act.put,List.setIfInBounds_toArray,List.set_cons_succ,List.set_cons_zero]
       have hbE:=(KB.out.mt.bel.trans (hbW.mono KB.out.mt.size)).grown hgr (Nat.le_trans KB.out.mt.size hbW.size) (fun g q=>by injection q with q;omega)
       clear hC hup
       go_wp2
       refine bodyPost_ret (Xdh rfl _ _ _ rfl hrow rfl Tryz.underlying26 hi7) rfl ?_
       rw [HDz.out]
       exact ⟨rfl,hbE⟩
    ·have hzb:(z8==0)=false:=by simpa using hz
     have HDz:=Qh (show D= .error z8 by have:=Hcs.out.2;rw [Hr.out] at this;exact this hz)
     have k2:(z8 != 0)=true:=by simpa using hz
     obtain ⟨c0,c1,c2⟩:=K0.out.cells
     go_wp2_with fail
     have c2:=(Xan K0.out.rb).2.2
     have Qrow:=Qh K0.out.res
     refine Xad (X:=Unit) (dzL w.heap.size (z8)) (RgE wr 219 229 220 230 221 231 222 232 (fun _ _=>True) (fun _ _=>True) (fun _ _=>True) (fun _ _=>True) (fun _ _=>True) (fun _ _=>True) (fun x=>w.heap.size) 26 5 209 210 (fun x=>zeroRow) (fun x=>zeroRow) (fun x=>zeroRow)) (by kernel_rfl) (by kernel_rfl) ?_ ?_ ?_
     ·exact ⟨(),RgE.start _ _ trivial⟩
     ·rintro x s' a' w' i hsz hcl ha hC hi
      obtain ⟨hun,oi,hoi,hall⟩:=mem_ready.1 hi
      have ev:=Xb6 Xbf ha
      have hlt:=Xde hun
      rcases i with _|_|_|_|_|_|_|_|i
      rotate_left 8
      ·simp at hoi
      all_goals
       have hoj:=hoi
       simp at hoi
       subst hoi
       simp [Region.binds] at hall
       try have hl:=Xa5 6 5 hcl (by decide +kernel) hun
       try have hbw:=hC.off hl
       have c2:=hC.cell c2 (by show w.heap.size≠w.heap.size+1;omega)
       refine wpOp_step hoj (fun K' hK=> ?_)
       rw [if_pos (by rfl)]
      rotate_left 5
      ·have hrow:w'.heap[w.heap.size]? =some (.cells _ 26 (0,0)):=(hbw.block _ (Array.getElem?_eq_some_iff.1 Qrow.out).1).trans Qrow.out
       refine Xam 26 _ _ rfl (w.heap.size) 0 zeroRow.toList (.agg zeroRow) (by simp [Act.eval,ev,evF,hall]) (by simp [Act.eval,ev,evF,hall]) (by rfl) _ _ hrow (by simp) (by kernel_rfl) (by simp [Value.oneCell']) ?_
       exact hK _ _ ⟨x,Xae (d:=none) (v:=undef) Xbf ha rfl hun,hC.put1 hun trivial (Xaq (by simp [hsz])) (Xaq (by simp [hsz])) (by decide) hrow (by rfl)⟩
      all_goals
       unfold Oper.wp
       first
       |(simp [go_sem,ev,evF,hall,Oper.upon,c2];exact hK _ _ ⟨x,Xag Xbf ha rfl hun,hC.pure (by decide)⟩)
       |(simp [go_sem,ev,evF,Oper.upon,c2];exact hK _ _ ⟨x,Xag Xbf ha rfl hun,hC.pure (by decide)⟩)
     ·rintro x s' a' wE hup ha hC
      obtain ⟨wb,hbW,hFin,hgr,hrow⟩:=hC.on (hup 5 (by decide))
      simp only [ite_self] at hrow
      rw [Xao _ _ _ _ (fun i hi=>by rw [Nat.zero_add];exact hup i (by simpa using hi))] at ha
      subst ha
      simp only [fillAll,Act.put,List.setIfInBounds_toArray,List.set_cons_succ,List.set_cons_zero]
      have hbE:=(K0.out.mt.bel.trans (hbW.mono K0.out.mt.size)).grown hgr (Nat.le_trans K0.out.mt.size hbW.size) (fun g q=>by injection q with q;omega)
      clear hC hup
      go_wp2
      refine bodyPost_ret (Xdh rfl _ _ _ rfl hrow rfl Tryz.underlying26 hi7) rfl ?_
      rw [HDz.out]
      exact ⟨rfl,hbE⟩
end Go.Proofs.YtdodihnehppnmaaGreatDoor
