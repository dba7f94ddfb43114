/-
  Walks and laws that the claim's theorem uses: texts EdH, joined; comments out. Conditions: as each theorem says.
-/
import Derived.Test.YtdodihnehppnmaaGreatDoorCI16
set_option linter.all false
namespace Go.Proofs.YtdodihnehppnmaaGreatDoor
open Go.RowKit
def rfH5 (s nm q:Bytes) (l:List At) (t:Bytes × Nat × Int):Ent × Int:=(⟨kindOf nm,q,l,t.1,0,[],[]⟩,if t.2.2=0∧t.2.1≠s.length then 3 else t.2.2)
def rfH4 (s nm q:Bytes) (l:List At × Nat × Int):Ent × Int:=rfH5 s nm q l.1 (rfT [] (rdStr s l.2.1) l.2.1 l.2.2)
def rfH3 (s nm q:Bytes) (n:Int × Nat × Int):Ent × Int:=rfH4 s nm q (rfA s n.1.toNat n.2.1 n.2.2 [])
def rfH2 (s nm:Bytes) (q:Bytes × Nat × Int):Ent × Int:=rfH3 s nm q.1 (rfC 400 s q.2.1 q.2.2)
def rfH1 (s:Bytes) (p:Bytes × Nat × Int):Ent × Int:=rfH2 s p.1 (rfT [] (rdStr s p.2.1) p.2.1 (if p.2.2=0∧kindOf p.1=0 then 3 else p.2.2))
theorem Xpz (m:Int) (hm:0≤m) (s:Bytes) (a:Nat) (e:Int):0≤(rfC m s a e).1∧(rfC m s a e).1≤m:=by
 unfold rfC
 generalize rfT 0 (rdNum s a) a e=p
 simp only
 split
 ·exact ⟨Int.le_refl _,hm⟩
 ·split
  ·exact ⟨Int.le_refl _,hm⟩
  ·omega
abbrev xhL (n:Nat) (C:Array Value) (z:Int):List (Option Tmp × Value):=
 [(some 87,.agg C),(some 88,ptrV (n+1)),(some 89,ptrV (n+1)),(some 90,.pointer (some ⟨n+1,2,none⟩)),(some 91,.int .i64 z),(none,undef),(some 3,.int .i64 z)]
theorem Xc1 {n:Nat} {C:Array Value} {z:Int}:ApartF (xhL n C z):=by
 unfold ApartF
 simp
theorem Xau {fn:Func} {p u:Tmp} {ty t:TypeId} (h:fn.results= #[.cell p ty,.tmp u]) (tmps:Array Value) (P:Program) (W:World) {g:Nat} {C:Array Value} {d:TypeDesc} (hp:tmps.getD p undef=ptrV g)
 (hg:W.heap[g]? =some (.cells C t (0,0))) (hd:(match d with| .struct _| .array _ _=>true|_=>false)=true) (hu:P.underlying ty=some d) (hi:(P.info? ty).map (·.size)=some C.size):
 (results fn tmps).run P W= .ok (.tuple #[.agg C,tmps.getD u undef]) W:=by
 have L1:(loadVar ty ⟨g,0,none⟩).run P W= .ok (.agg C) W:=run_loadVar_row W g t ty C (0,0) d hg hu (by cases d<;>first|rfl|cases hd) hi
 have hp':tmps[p]?.getD undef=ptrV g:=by simpa using hp
 simp [results,h,hp',asAddr,L1,Sem.run_bind,Result.andThen]
structure HrM (I:IH) (w:World) (s:Bytes) (a:Nat) (z:Int) (W:World):Prop where
 mt:MAt I w I W
 res:W.heap[w.heap.size]? =some (.cells zeroRow 26 (0,0))
 rb:RfB W (w.heap.size+1) s a z
 sz:w.heap.size+3≤W.heap.size
section
variable {I:IH} {w W W':World} {s:Bytes} {a b:Nat} {z y:Int}
theorem HrM.grown (h:HrM I w s a z W) (hok:Ok I w) {row:Option Nat} (hg:W.grownBy W' row) (hr:∀g,row=some g→w.heap.size+1<g):HrM I w s a z W':=
 ⟨⟨h.mt.ok.grown hg (fun g q=>hok.fresh (by have:=hr g q;omega)),h.mt.keep,h.mt.bel.grown hg h.mt.size (fun g q=>by have:=hr g q;omega)⟩,
  Xac h.res hg (fun q=>by have:=hr _ q;omega),Xac h.rb hg (fun q=>by have:=hr _ q;omega),Nat.le_trans h.sz hg.size⟩
theorem HrM.read (h:HrM I w s a z W) (hok:Ok I w) (ha:RfB W' (w.heap.size+1) s b y) (hg:W.grownBy W' (some (w.heap.size+1))):HrM I w s b y W':=
 ⟨⟨h.mt.ok.grown hg (fun g q=>by injection q with q;subst q;exact hok.fresh (by omega)),h.mt.keep,h.mt.bel.grown hg h.mt.size (fun g q=>by injection q with q;omega)⟩,
  Xac h.res hg (fun q=>by injection q with q;omega),ha,Nat.le_trans h.sz hg.size⟩
theorem HrM.own (h:HrM I w s a z W) (hok:Ok I w) (hg:W.grownBy W' (some (w.heap.size+2))):HrM I w s a z W':=h.grown hok hg (fun g q=>by injection q with q;omega)
end
set_option maxRecDepth 100000 in
set_option maxHeartbeats 4000000 in
theorem Xge (I:IH) (s:Bytes) (hs:s.length≤4294967280) (w:World) (hw:Ok I w):
 Calls Tryz.prog 163 #[S s] w fun e w'=> ∃va J,e= .returned (.tuple #[entV (rfHd s).1 va (.slice none 0 0),.int .i64 (rfHd s).2])∧RdS tAt J va (rfHd s).1.attrs∧Ext w.heap.size I J∧Ok J w'∧Below w.heap.size w w':=by
 have Hr:=Qh (show rfHd s=rfH1 s (rfT [] (rdStr s 0) 0 0) from rfl)
 generalize rfHd s=R at Hr ⊢
 have M0:=Qh ((((MAt.start hw).past (.cells zeroRow 26)).past (.cells #[S s,.int .i64 0,.int .i64 0] 199)).past (.cells zeroRow 26))
 have A0:=Qh (show (((w.alloc (.cells zeroRow 26)).alloc (.cells #[S s,.int .i64 0,.int .i64 0] 199)).alloc (.cells zeroRow 26)).heap[w.heap.size]? =some (.cells zeroRow 26 (0,0)) by
  rw [Below.heap_alloc _ _ _ (by simp;omega),Below.heap_alloc _ _ _ (by simp),heap_alloc_new])
 have A1:=Qh (show RfB (((w.alloc (.cells zeroRow 26)).alloc (.cells #[S s,.int .i64 0,.int .i64 0] 199)).alloc (.cells zeroRow 26)) (w.heap.size+1) s 0 0 by
  have:=heap_alloc_new (w.alloc (.cells zeroRow 26)) (.cells #[S s,.int .i64 0,.int .i64 0] 199)
  rw [World.size_alloc] at this
  unfold RfB
  rw [Below.heap_alloc _ _ _ (by simp)]
  exact this)
 have A2:=Qh (show (((w.alloc (.cells zeroRow 26)).alloc (.cells #[S s,.int .i64 0,.int .i64 0] 199)).alloc (.cells zeroRow 26)).heap[w.heap.size+2]? =some (.cells zeroRow 26 (0,0)) by
  have:=heap_alloc_new ((w.alloc (.cells zeroRow 26)).alloc (.cells #[S s,.int .i64 0,.int .i64 0] 199)) (.cells zeroRow 26)
  rw [World.size_alloc,World.size_alloc] at this
  exact this)
 have K0:=Qh (show HrM I w s 0 0 _ from ⟨M0.out,A0.out,A1.out,by simp⟩)
 have hi7:(Tryz.prog.info? 26).map (·.size)=some 7:=by kernel_rfl
 have hi1:(Tryz.prog.info? 9).map (·.size)=some 1:=by kernel_rfl
 have hi3:(Tryz.prog.info? 30).map (·.size)=some 1:=by kernel_rfl
 clear M0 A0 A1
 go_enter Tryz.func163,Tryz.ntmps163
 go_wp2_with fail
 refine (Xd1 s hs _ 0 0 _ K0.out.rb (by omega)).mono ?_
 have ha1:=Xd2 s 0 0 (Nat.zero_le _)
 generalize rfT [] (rdStr s 0) 0 0=p at Hr ha1 ⊢
 obtain ⟨nm,a1,z1⟩:=p
 dsimp only at Hr ha1 ⊢
 rintro e W1 ⟨rfl,hb1,hg1⟩
 have K1:=Qh (K0.out.read hw hb1 hg1)
 have E1:=Qh (Xac A2.out hg1 (fun q=>by injection q with q;omega))
 clear K0 A2 hb1 hg1
 go_wp2_with fail
 go_loopw [7] (fun s7 wr=> ∃k:Nat,k≤6∧s7= .int .i64 ((k:Int)+1)∧HrM I w s a1 z1 wr∧wr.heap[w.heap.size+2]? =some (.cells (entRow ⟨kUp nm k,[],[],[],0,[],[]⟩ (.slice none 0 0) (.slice none 0 0)) 26 (0,0))) (fun i _=>7-(intOf i).toNat)
 case atStart=>exact ⟨0,by omega,rfl,K1.out,E1.out⟩
 case round=>
  clear K1 E1
  obtain ⟨k,hk,rfl,hK,hE⟩:=hrel
  have HK:=Qh hK
  have HE:=Qh hE
  clear hK hE
  by_cases hlt:k<6
  ·have d1:decide ((k:Int)+1≤6)=true:=Qt (by omega)
   go_wp2_with fail
   refine (Xie _ _).mono ?_
   rintro e w1 ⟨rfl,rfl⟩
   by_cases hn:nameP ((k:Int)+1)=nm
   ·have hkk:kUp nm (k+1)=(k:Int)+1:=by rw [kUp,if_pos hn]
    have hb:(nameP ((k:Int)+1)==nm)=true:=by simpa using hn
    have Hkk:=Qh hkk
    clear hn hkk
    go_wp2_with (refine Xab rfl rfl 3 _ _ rfl (w.heap.size+2) 0 [.int .i64 ((k:Int)+1)] (.int .i64 ((k:Int)+1)) (by simp [Act.eval]) (by simp [Act.eval]) (by rfl) _ 26 HE.out (by simp) Xa2 (by simp [Value.oneCell']) (entRow ⟨(k:Int)+1,[],[],[],0,[],[]⟩ (.slice none 0 0) (.slice none 0 0)) (by rfl) ?_
                 intro w2 hg2 hr2)
    go_roundw
    case rel=>exact ⟨k+1,by omega,by go_num,HK.out.own hw hg2,by rw [Hkk.out];exact hr2⟩
    case measure=>simp [intOf];omega
   ·have hkk:kUp nm (k+1)=kUp nm k:=by rw [kUp,if_neg hn]
    have hb:(nameP ((k:Int)+1)==nm)=false:=by simpa using hn
    have Hkk:=Qh hkk
    clear hn hkk
    go_wp2
    go_roundw
    case rel=>exact ⟨k+1,by omega,by go_num,HK.out,by rw [Hkk.out];exact HE.out⟩
    case measure=>simp [intOf];omega
  ·have he:k=6:=by omega
   subst he
   rw [Xuz] at HE
   have d1:decide (((6:Nat):Int)+1≤6)=false:=by decide
   clear hk hlt
   obtain ⟨c0,c1,c2⟩:=Xan HK.out.rb
   have cA:=(ent_row HE.out).c0
   go_upto_region 9 with fail
   obtain ⟨B,hB⟩:∃B:Bool,decide (z1=0∧kindOf nm=0)=B:=⟨_,rfl⟩
   go_cut [35] (fun s35 wx=>s35= .bool B∧wx=wr)
   case first=>
    by_cases q1:z1=0
    ·subst q1
     by_cases q2:kindOf nm=0
     ·have hB2:B=true:=by rw [←hB];exact Qt ⟨rfl,q2⟩
      have k1:(kindOf nm==0)=true:=by simpa using q2
      subst hB2
      clear q2 hB
      go_wp2_with fail
      go_meet
      case rel=>exact ⟨rfl,rfl⟩
     ·have hB2:B=false:=by rw [←hB];exact Qf (fun h=>q2 h.2)
      have k1:(kindOf nm==0)=false:=by simpa using q2
      subst hB2
      clear q2 hB
      go_wp2_with fail
      go_meet
      case rel=>exact ⟨rfl,rfl⟩
    ·have hB2:B=false:=by rw [←hB];exact Qf (fun h=>q1 h.1)
     have k1:(z1==0)=false:=by simpa using q1
     subst hB2
     clear q1 hB
     go_wp2_with fail
     go_meet
     case rel=>exact ⟨rfl,rfl⟩
   case rest=>
    obtain ⟨rfl,rfl⟩:=hcut
    have HB:=Qh hB
    obtain ⟨z2,hz2⟩:∃z2,(if z1=0∧kindOf nm=0 then 3 else z1)=z2:=⟨_,rfl⟩
    have Hz2:=Qh hz2
    clear hB hz2
    go_upto_if 35 with fail
    go_cut [6] (fun s6 wx=>s6=S nm∧HrM I w s a1 z2 wx∧wx.heap[w.heap.size+2]? =some (.cells (entRow ⟨kindOf nm,[],[],[],0,[],[]⟩ (.slice none 0 0) (.slice none 0 0)) 26 (0,0)))
    case first=>
     cases B with
     |true=>
      have hh:=of_decide_eq_true HB.out
      rw [if_pos hh] at Hz2
      obtain ⟨hz0,_⟩:=hh
      have hz3:=Hz2.out
      subst hz3
      go_wp2_with (refine Xab rfl rfl 30 _ _ rfl (w.heap.size+1) 2 [.int .i64 3] (.int .i64 3) (by simp [Act.eval]) (by simp [Act.eval]) (by rfl) _ 199 HK.out.rb (by simp) hi3 (by simp [Value.oneCell']) #[S s,.int .i64 (a1:Int),.int .i64 3] (by rfl) ?_
                   intro w2 hg2 hr2)
      go_meet
      case rel=>exact ⟨rfl,HK.out.read hw hr2 hg2,Xac HE.out hg2 (fun q=>by injection q with q;omega)⟩
     |false=>
      have hh:=of_decide_eq_false HB.out
      rw [if_neg hh] at Hz2
      have hz3:=Hz2.out
      subst hz3
      go_wp2_with fail
      go_meet
      case rel=>exact ⟨rfl,HK.out,HE.out⟩
    case rest=>
     clear HK HE c0 c1 c2 cA HB d1
     obtain ⟨rfl,hK,hE⟩:=hcut
     have HK:=Qh hK
     have HE:=Qh hE
     clear hK hE
     go_wp2_with fail
     have ha2:=Xd2 s a1 z2 ha1
     refine (Xd1 s hs _ a1 z2 _ HK.out.rb (by omega)).mono ?_
     rw [rfH1,Hz2.out] at Hr
     dsimp only at Hr
     generalize rfT [] (rdStr s a1) a1 z2=p at Hr ha2 ⊢
     obtain ⟨pa,a2,z3⟩:=p
     dsimp only at ha2 ⊢
     rintro e W2 ⟨rfl,hb2,hg2⟩
     have K2:=Qh (HK.out.read hw hb2 hg2)
     have E2:=Qh (Xac HE.out hg2 (fun q=>by injection q with q;omega))
     clear HK HE hb2 hg2 Hz2
     go_wp2_with (refine Xab rfl rfl 9 _ _ rfl (w.heap.size+2) 1 [S pa] (S pa) (by simp [Act.eval]) (by simp [Act.eval]) (by rfl) _ 26 E2.out (by simp) hi1 (by simp [Value.oneCell']) (entRow ⟨kindOf nm,pa,[],[],0,[],[]⟩ (.slice none 0 0) (.slice none 0 0)) (by rfl) ?_
                  intro W3 hg3 hr3
                  have K3:=Qh (K2.out.own hw hg3)
                  have E3:=Qh hr3)
     have ha3:=Xp0 400 s a2 z3 ha2
     refine (Xni s hs _ a2 z3 400 _ K3.out.rb (by omega)).mono ?_
     rw [rfH2] at Hr
     dsimp only at Hr
     have hn0:0≤(rfC 400 s a2 z3).1∧(rfC 400 s a2 z3).1≤400:=Xpz 400 (by decide) s a2 z3
     generalize rfC 400 s a2 z3=p at Hr ha3 hn0 ⊢
     obtain ⟨N,a3,z4⟩:=p
     dsimp only at ha3 hn0 ⊢
     obtain ⟨m,rfl⟩:∃m:Nat,N=(m:Int):=⟨N.toNat,by omega⟩
     rintro e W4 ⟨rfl,hb4,hg4⟩
     have K4:=Qh (K3.out.read hw hb4 hg4)
     have E4:=Qh (Xac E3.out hg4 (fun q=>by injection q with q;omega))
     have O4:=Qh (OwnS.nil tAt 94 I W4 W4.heap.size)
     rw [rfH3] at Hr
     dsimp only at Hr
     rw [Int.toNat_natCast] at Hr
     clear K2 E2 K3 E3 hg3 hr3 hb4 hg4
     go_wp2_with fail
     obtain ⟨L,hL⟩:∃L,rfA s m a3 z4 []=L:=⟨_,rfl⟩
     rw [hL] at Hr
     have HL:=Qh hL
     have hm:m≤400:=by omega
     have hsz4:=K4.out.sz
     clear hL hn0
     generalize hN4:W4.heap.size=N4 at*
     go_loopw [9,10] (fun s9 s10 wr=> ∃(k a:Nat) (z:Int) (acc:List At) (va:Value),k≤m∧s9= .int .i64 k∧acc.length=k∧a≤s.length∧HrM I w s a z wr∧wr.heap[w.heap.size+2]? =some (.cells (entRow ⟨kindOf nm,pa,[],[],0,[],[]⟩ va (.slice none 0 0)) 26 (0,0))∧OwnS tAt 94 I wr N4 va acc∧N4≤wr.heap.size∧rfA s (m-k) a z acc=L) (fun i _ _=>m-(intOf i).toNat)
     case atStart=>exact ⟨0,a3,z4,[],_,Nat.zero_le _,rfl,rfl,ha3,K4.out,E4.out,O4.out,Nat.le_of_eq hN4.symm,HL.out⟩
     case round=>
      clear K4 E4 O4 HL hN4 ha3 ha2 ha1
      obtain ⟨k,a,z,acc,va,hk,rfl,hacc,ha,hK,hE,hO,hne,hrd⟩:=hrel
      have HK:=Qh hK
      have HE:=Qh hE
      have HO:=Qh hO
      have Hrd:=Qh hrd
      have Hacc:=Qh hacc
      clear hK hE hO hrd hacc
      obtain ⟨c0,c1,c2⟩:=Xan HK.out.rb
      by_cases hlt:k<m
      ·by_cases hz:z=0
       ·subst hz
        go_wp2_with fail
        rw [show m-k=m-(k+1)+1 by omega,rfA,if_neg (by simp)] at Hrd
        have ha5:=Xd2 s a 0 ha
        refine (Xd1 s hs _ a 0 _ HK.out.rb (by omega)).mono ?_
        generalize rfT [] (rdStr s a) a 0=p at Hrd ha5 ⊢
        obtain ⟨ky,a5,z5⟩:=p
        dsimp only at ha5 ⊢
        rintro e W8 ⟨rfl,hb8,hg8⟩
        have K8:=Qh (HK.out.read hw hb8 hg8)
        have E8:=Qh (Xac HE.out hg8 (fun q=>by injection q with q;omega))
        have O8:=Qh (HO.out.kept hg8 (.inr (HO.out.ne_lt (by omega))))
        have hne8:=Nat.le_trans hne hg8.size
        clear HK HE HO hb8 hg8 c0 c1 c2
        have cA:=(ent_row E8.out).c2
        go_wp2_with fail
        have ha6:=Xd2 s a5 z5 ha5
        have Htx:=Qh (fun (W:World) (h:RfB W (w.heap.size+1) s a5 z5)=>Xd1 s hs (w.heap.size+1) a5 z5 W h (by omega))
        generalize rfT [] (rdStr s a5) a5 z5=q at Hrd ha6 Htx
        obtain ⟨vl,a6,z6⟩:=q
        dsimp only at Hrd ha6 Htx
        have Q2:RfB W8.drew (w.heap.size+1) s a5 z5:=K8.out.rb
        go_region_law (first
                       |(refine Xb9 rfl _ _ 23 23 rfl _ _ (by simp [Act.eval,Act.put]) (by simp [Act.eval,Act.put]) hr10 ?_)
                       |(go_simp
                         go_at_call 162
                         refine (Htx.out _ Q2).mono ?_
                         rintro e w9 ⟨rfl,hb9,hg9'⟩
                         have hg9:W8.grownBy w9 (some (w.heap.size+1)):=⟨hg9'.os,hg9'.tape,hg9'.output,hg9'.size,hg9'.block⟩
                         have K9:=Qh (K8.out.read hw hb9 hg9)
                         have E9:=Qh (Xac E8.out hg9 (fun q=>by injection q with q;omega))
                         have O9:=Qh (O8.out.kept hg9 (.inr (O8.out.ne_lt (by omega))))
                         have hne9:=Nat.le_trans hne8 hg9.size
                         obtain ⟨v10,w10,hr10,ho10,hg10⟩:=Xi6 Xlh O9.out ⟨ky,vl⟩ [S ky,S vl] 94 23 rfl (by rw [Hacc.out];omega) (by rw [Hacc.out];omega) hne9
                         obtain ⟨ao10,cp10,rfl⟩:=ho10.shape
                         rw [List.length_append] at ho10
                         have cA9:=(ent_row E9.out).c2
                         have cB9:=Xah (.cells #[S ky,S vl] 94) cA9
                         have E10:=Qh (Xac E9.out hg10 (O9.out.ne_lt (by omega)))
                         have cA10:=(ent_row E10.out).c2
                         have zA10:w10.frozen? ⟨w.heap.size+2,2,none⟩=false:=by unfold World.frozen?;rw [E10.out];rfl))
        all_goals
         go_wp2
         go_roundw
         case rel=>exact ⟨k+1,a6,z6,acc++ [⟨ky,vl⟩],.slice ao10 (acc.length+1) cp10,by omega,by go_num,by rw [List.length_append,Hacc.out];rfl,ha6,(K9.out.grown hw hg10 (fun g q=>by have:=O9.out.own_ge q;omega)).own hw ⟨rfl,rfl,rfl,by simp [World.setCell],fun k _ hk=>Below.heap_setCell _ _ _ _ (fun q=>hk (by rw [q]))⟩,Xi8 E10.out _,ho10.setC (n:=w.heap.size+2) (ho10.ne_lt (by omega)) _,by simpa [World.setCell] using Nat.le_trans hne9 hg10.size,Hrd.out⟩
         case measure=>simp [intOf];omega
       ·have hL:L=(acc,a,z):=by rw [←Hrd.out,Xg4 _ _ _ hz]
        have hzb:(z==0)=false:=by simpa using hz
        clear hz
        subst hL
        clear Hrd hm
        rw [rfH4] at Hr
        dsimp only at Hr
        obtain ⟨aov,cpv,rfl⟩:=HO.out.shape
        go_wp2_with fail
        have ha7:=Xd2 s a z ha
        refine (Xd1 s hs _ a z _ HK.out.rb (by omega)).mono ?_
        generalize rfT [] (rdStr s a) a z=p at Hr ha7 ⊢
        obtain ⟨tg,a7,z7⟩:=p
        dsimp only at ha7 ⊢
        rintro e W8 ⟨rfl,hb8,hg8⟩
        have K8:=Qh (HK.out.read hw hb8 hg8)
        have E8:=Qh (Xac HE.out hg8 (fun q=>by injection q with q;omega))
        have O8:=Qh (HO.out.kept hg8 (.inr (HO.out.ne_lt (by omega))))
        have hne8:=Nat.le_trans hne hg8.size
        rw [rfH5] at Hr
        dsimp only at Hr
        clear HK HE HO hb8 hg8 c0 c1 c2
        by_cases q1:z7=0
        ·subst q1
         by_cases q2:a7=s.length
         ·rw [if_neg (by intro h;exact h.2 q2)] at Hr
          have k1:((a7:Int) != (s.length:Int))=false:=by rw [q2];simp
          clear q2
          go_wp2_with (refine Xab rfl rfl 9 _ _ rfl (w.heap.size+2) 3 [S tg] (S tg) (by simp [Act.eval]) (by simp [Act.eval]) (by rfl) _ 26 E8.out (by simp) hi1 (by simp [Value.oneCell']) (entRow ⟨kindOf nm,pa,[],tg,0,[],[]⟩ (.slice aov acc.length cpv) (.slice none 0 0)) (by rfl) ?_
                       intro W9 hg9 hr9
                       have K9:=Qh (K8.out.own hw hg9)
                       have E9:=Qh hr9
                       have O9:=Qh (O8.out.kept hg9 (.inr (O8.out.ne_lt (by omega))))
                       obtain ⟨c0,c1,c2⟩:=Xan K9.out.rb)
          obtain ⟨C,hC⟩:∃C,C=entRow ⟨kindOf nm,pa,[],tg,0,[],[]⟩ (.slice aov acc.length cpv) (.slice none 0 0):=⟨_,rfl⟩
          have EC:=E9.out
          rw [←hC] at EC
          have hC7:C.size=7:=by rw [hC];rfl
          have hC1:∀v∈C.toList,v.oneCell'=true:=by rw [hC];simp [Value.oneCell']
          have hCT:C.toList.length=7:=by simpa using hC7
          have hap:ApartF (xhL w.heap.size C 0):=Xc1
          refine Xad (X:=Unit) (fun _=>xhL w.heap.size C 0) (fun _ u V=>Bk w.heap.size 7 26 C 5 u V∧V.heap[w.heap.size+2]? =some (.cells C 26 (0,0))∧RfB V (w.heap.size+1) s a7 0∧Ok I V∧OwnS tAt 94 I V N4 (.slice aov acc.length cpv) acc∧Below w.heap.size w V) (by kernel_rfl) (by kernel_rfl)
           ⟨(),⟨_,by simp,K9.out.res,by simp⟩,EC,K9.out.rb,K9.out.mt.ok,O9.out.drew,K9.out.mt.bel.drew⟩ ?_ ?_
          ·rintro ⟨⟩ u9 a' V i hsz hcl hfa ⟨k1,k2,k3,ko,kw,kb⟩ hi
           obtain ⟨hun,oi,hoi,hall⟩:=mem_ready.1 hi
           have c2':=(Xan k3).2.2
           rcases i with _|_|_|_|_|_|_|i
           rotate_left 7
           ·simp at hoi
           all_goals
            have hoj:=hoi
            simp at hoi
            subst hoi
            simp [Region.binds] at hall
           ·have e5:a'.tmps[5]?.getD undef=ptrV (w.heap.size+2):=Xa7 hfa (by simp [xhL])
            refine wpOp_step hoj (fun K' hK=> ?_)
            rw [if_pos (by rfl)]
            refine wp_load_row 26 _ rfl (w.heap.size+2) (by simpa [Act.eval] using e5) 26 C (0,0) _ k2 Tryz.underlying26 rfl (by rw [hC7];exact hi7) ?_
            exact hK _ _ ⟨(),Xae (d:=some 87) (v:= .agg C) hap hfa rfl hun,k1.up (by decide),k2,k3,ko,kw,kb⟩
           ·have e4:a'.tmps[4]?.getD undef=ptrV (w.heap.size+1):=Xa7 hfa (by simp [xhL])
            refine wpOp_step hoj (fun K' hK=> ?_)
            rw [if_pos (by rfl)]
            unfold Oper.wp
            simp [go_sem,e4,Oper.upon]
            exact hK _ _ ⟨(),Xae (d:=some 88) (v:=ptrV (w.heap.size+1)) hap hfa rfl hun,k1.up (by decide),k2,k3,ko,kw,kb⟩
           ·have e88:a'.tmps[88]?.getD undef=ptrV (w.heap.size+1):=Xat (i:=1) hap hfa rfl (by first|simpa using hall|simpa using hall.1|simpa using hall.2|simpa using hall.2.1|simpa using hall.2.2) (by simp)
            refine wpOp_step hoj (fun K' hK=> ?_)
            rw [if_pos (by rfl)]
            unfold Oper.wp
            simp [go_sem,e88,Oper.upon]
            exact hK _ _ ⟨(),Xae (d:=some 89) (v:=ptrV (w.heap.size+1)) hap hfa rfl hun,k1.up (by decide),k2,k3,ko,kw,kb⟩
           ·have e89:a'.tmps[89]?.getD undef=ptrV (w.heap.size+1):=Xat (i:=2) hap hfa rfl (by first|simpa using hall|simpa using hall.1|simpa using hall.2|simpa using hall.2.1|simpa using hall.2.2) (by simp)
            refine wpOp_step hoj (fun K' hK=> ?_)
            rw [if_pos (by rfl)]
            unfold Oper.wp
            simp [go_sem,e89,Oper.upon]
            exact hK _ _ ⟨(),Xae (d:=some 90) (v:= .pointer (some ⟨w.heap.size+1,2,none⟩)) hap hfa rfl hun,k1.up (by decide),k2,k3,ko,kw,kb⟩
           ·have e90:a'.tmps[90]?.getD undef= .pointer (some ⟨w.heap.size+1,2,none⟩):=Xat (i:=3) hap hfa rfl (by first|simpa using hall|simpa using hall.1|simpa using hall.2|simpa using hall.2.1|simpa using hall.2.2) (by simp)
            refine wpOp_step hoj (fun K' hK=> ?_)
            rw [if_pos (by rfl)]
            unfold Oper.wp
            simp [go_sem,e90,c2',Oper.upon]
            exact hK _ _ ⟨(),Xae (d:=some 91) (v:= .int .i64 0) hap hfa rfl hun,k1.up (by decide),k2,k3,ko,kw,kb⟩
           ·have e2:a'.tmps[2]?.getD undef=ptrV w.heap.size:=Xa7 hfa (by simp [xhL])
            have e87:a'.tmps[87]?.getD undef= .agg C:=Xat (i:=0) hap hfa rfl (by first|simpa using hall|simpa using hall.1|simpa using hall.2|simpa using hall.2.1|simpa using hall.2.2) (by simp)
            refine wpOp_step hoj (fun K' hK=> ?_)
            rw [if_pos (by rfl)]
            refine Xdw 26 _ _ rfl rfl C.toList (.agg C) (by simpa [Act.eval] using e2) (by simpa [Act.eval] using e87) (by simp [Value.cells]) (by simp) hCT k1 hi7 hC1 ?_
            intro V' hg hr
            exact hK _ _ ⟨(),Xae (d:=none) (v:=undef) hap hfa rfl hun,.done hr hC7,Xac k2 hg (fun q=>by injection q with q;omega),Xac k3 hg (fun q=>by injection q with q;omega),ko.grown hg (fun g q=>by injection q with q;subst q;exact hw.fresh (Qn _)),kw.kept hg (.inr (kw.ne_lt (by omega))),kb.grown hg kb.size (fun g q=>by injection q with q;omega)⟩
           ·have e91:a'.tmps[91]?.getD undef= .int .i64 0:=Xat (i:=4) hap hfa rfl (by first|simpa using hall|simpa using hall.1|simpa using hall.2|simpa using hall.2.1|simpa using hall.2.2) (by simp)
            refine wpOp_step hoj (fun K' hK=> ?_)
            rw [if_pos (by rfl)]
            unfold Oper.wp
            simp [go_sem,e91,Oper.upon]
            exact hK _ _ ⟨(),Xae (d:=some 3) (v:= .int .i64 0) hap hfa rfl hun,k1.up (by decide),k2,k3,ko,kw,kb⟩
          ·rintro ⟨⟩ u9 a' V hup hfa ⟨⟨d1,_,r1,q1⟩,k2,k3,ko,kw,kb⟩
           have u1:=q1 (hup 5 (by decide))
           subst u1
           rw [Xao _ _ _ _ (fun k hk=>by rw [Nat.zero_add];exact hup k (by simpa using hk))] at hfa
           simp only [fillAll,Act.put] at hfa
           subst hfa
           obtain ⟨J,hx,hokJ,hrd,_⟩:=kw.freeze ko (fun b hb=>hw.fresh (by omega))
           go_wp2
           refine bodyPost_ret (Xau rfl _ _ _ rfl r1 rfl Tryz.underlying26 (by rw [hC7];exact hi7)) rfl ?_
           rw [Hr.out,hC]
           exact ⟨_,rfl,J,hrd,hx.mono (by omega),hokJ,kb⟩
         ·rw [if_pos ⟨rfl,q2⟩] at Hr
          have k1:((a7:Int) != (s.length:Int))=true:=by
           have:(a7:Int)≠(s.length:Int):=by omega
           simpa using this
          clear q2
          go_wp2_with (first
                       |(refine Xab rfl rfl 9 _ _ rfl (w.heap.size+2) 3 [S tg] (S tg) (by simp [Act.eval]) (by simp [Act.eval]) (by rfl) _ 26 E8.out (by simp) hi1 (by simp [Value.oneCell']) (entRow ⟨kindOf nm,pa,[],tg,0,[],[]⟩ (.slice aov acc.length cpv) (.slice none 0 0)) (by rfl) ?_
                         intro W9 hg9 hr9
                         have K9:=Qh (K8.out.own hw hg9)
                         have E9:=Qh hr9
                         have O9:=Qh (O8.out.kept hg9 (.inr (O8.out.ne_lt (by omega))))
                         obtain ⟨c0,c1,c2⟩:=Xan K9.out.rb)
                       |(refine Xab rfl rfl 30 _ _ rfl (w.heap.size+1) 2 [.int .i64 3] (.int .i64 3) (by simp [Act.eval]) (by simp [Act.eval]) (by rfl) _ 199 K9.out.rb (by simp) hi3 (by simp [Value.oneCell']) #[S s,.int .i64 (a7:Int),.int .i64 3] (by rfl) ?_
                         intro W10 hg10 hr10
                         have K10:=Qh (K9.out.read hw hr10 hg10)
                         have E10:=Qh (Xac E9.out hg10 (fun q=>by injection q with q;omega))
                         have O10:=Qh (O9.out.kept hg10 (.inr (O9.out.ne_lt (by omega))))
                         obtain ⟨c0,c1,c2⟩:=Xan K10.out.rb))
          obtain ⟨C,hC⟩:∃C,C=entRow ⟨kindOf nm,pa,[],tg,0,[],[]⟩ (.slice aov acc.length cpv) (.slice none 0 0):=⟨_,rfl⟩
          have EC:=E10.out
          rw [←hC] at EC
          have hC7:C.size=7:=by rw [hC];rfl
          have hC1:∀v∈C.toList,v.oneCell'=true:=by rw [hC];simp [Value.oneCell']
          have hCT:C.toList.length=7:=by simpa using hC7
          have hap:ApartF (xhL w.heap.size C 3):=Xc1
          refine Xad (X:=Unit) (fun _=>xhL w.heap.size C 3) (fun _ u V=>Bk w.heap.size 7 26 C 5 u V∧V.heap[w.heap.size+2]? =some (.cells C 26 (0,0))∧RfB V (w.heap.size+1) s a7 3∧Ok I V∧OwnS tAt 94 I V N4 (.slice aov acc.length cpv) acc∧Below w.heap.size w V) (by kernel_rfl) (by kernel_rfl)
           ⟨(),⟨_,by simp,K10.out.res,by simp⟩,EC,K10.out.rb,K10.out.mt.ok,O10.out.drew,K10.out.mt.bel.drew⟩ ?_ ?_
          ·rintro ⟨⟩ u9 a' V i hsz hcl hfa ⟨k1,k2,k3,ko,kw,kb⟩ hi
           obtain ⟨hun,oi,hoi,hall⟩:=mem_ready.1 hi
           have c2':=(Xan k3).2.2
           rcases i with _|_|_|_|_|_|_|i
           rotate_left 7
           ·simp at hoi
           all_goals
            have hoj:=hoi
            simp at hoi
            subst hoi
            simp [Region.binds] at hall
           ·have e5:a'.tmps[5]?.getD undef=ptrV (w.heap.size+2):=Xa7 hfa (by simp [xhL])
            refine wpOp_step hoj (fun K' hK=> ?_)
            rw [if_pos (by rfl)]
            refine wp_load_row 26 _ rfl (w.heap.size+2) (by simpa [Act.eval] using e5) 26 C (0,0) _ k2 Tryz.underlying26 rfl (by rw [hC7];exact hi7) ?_
            exact hK _ _ ⟨(),Xae (d:=some 87) (v:= .agg C) hap hfa rfl hun,k1.up (by decide),k2,k3,ko,kw,kb⟩
           ·have e4:a'.tmps[4]?.getD undef=ptrV (w.heap.size+1):=Xa7 hfa (by simp [xhL])
            refine wpOp_step hoj (fun K' hK=> ?_)
            rw [if_pos (by rfl)]
            unfold Oper.wp
            simp [go_sem,e4,Oper.upon]
            exact hK _ _ ⟨(),Xae (d:=some 88) (v:=ptrV (w.heap.size+1)) hap hfa rfl hun,k1.up (by decide),k2,k3,ko,kw,kb⟩
           ·have e88:a'.tmps[88]?.getD undef=ptrV (w.heap.size+1):=Xat (i:=1) hap hfa rfl (by first|simpa using hall|simpa using hall.1|simpa using hall.2|simpa using hall.2.1|simpa using hall.2.2) (by simp)
            refine wpOp_step hoj (fun K' hK=> ?_)
            rw [if_pos (by rfl)]
            unfold Oper.wp
            simp [go_sem,e88,Oper.upon]
            exact hK _ _ ⟨(),Xae (d:=some 89) (v:=ptrV (w.heap.size+1)) hap hfa rfl hun,k1.up (by decide),k2,k3,ko,kw,kb⟩
           ·have e89:a'.tmps[89]?.getD undef=ptrV (w.heap.size+1):=Xat (i:=2) hap hfa rfl (by first|simpa using hall|simpa using hall.1|simpa using hall.2|simpa using hall.2.1|simpa using hall.2.2) (by simp)
            refine wpOp_step hoj (fun K' hK=> ?_)
            rw [if_pos (by rfl)]
            unfold Oper.wp
            simp [go_sem,e89,Oper.upon]
            exact hK _ _ ⟨(),Xae (d:=some 90) (v:= .pointer (some ⟨w.heap.size+1,2,none⟩)) hap hfa rfl hun,k1.up (by decide),k2,k3,ko,kw,kb⟩
           ·have e90:a'.tmps[90]?.getD undef= .pointer (some ⟨w.heap.size+1,2,none⟩):=Xat (i:=3) hap hfa rfl (by first|simpa using hall|simpa using hall.1|simpa using hall.2|simpa using hall.2.1|simpa using hall.2.2) (by simp)
            refine wpOp_step hoj (fun K' hK=> ?_)
            rw [if_pos (by rfl)]
            unfold Oper.wp
            simp [go_sem,e90,c2',Oper.upon]
            exact hK _ _ ⟨(),Xae (d:=some 91) (v:= .int .i64 3) hap hfa rfl hun,k1.up (by decide),k2,k3,ko,kw,kb⟩
           ·have e2:a'.tmps[2]?.getD undef=ptrV w.heap.size:=Xa7 hfa (by simp [xhL])
            have e87:a'.tmps[87]?.getD undef= .agg C:=Xat (i:=0) hap hfa rfl (by first|simpa using hall|simpa using hall.1|simpa using hall.2|simpa using hall.2.1|simpa using hall.2.2) (by simp)
            refine wpOp_step hoj (fun K' hK=> ?_)
            rw [if_pos (by rfl)]
            refine Xdw 26 _ _ rfl rfl C.toList (.agg C) (by simpa [Act.eval] using e2) (by simpa [Act.eval] using e87) (by simp [Value.cells]) (by simp) hCT k1 hi7 hC1 ?_
            intro V' hg hr
            exact hK _ _ ⟨(),Xae (d:=none) (v:=undef) hap hfa rfl hun,.done hr hC7,Xac k2 hg (fun q=>by injection q with q;omega),Xac k3 hg (fun q=>by injection q with q;omega),ko.grown hg (fun g q=>by injection q with q;subst q;exact hw.fresh (Qn _)),kw.kept hg (.inr (kw.ne_lt (by omega))),kb.grown hg kb.size (fun g q=>by injection q with q;omega)⟩
           ·have e91:a'.tmps[91]?.getD undef= .int .i64 3:=Xat (i:=4) hap hfa rfl (by first|simpa using hall|simpa using hall.1|simpa using hall.2|simpa using hall.2.1|simpa using hall.2.2) (by simp)
            refine wpOp_step hoj (fun K' hK=> ?_)
            rw [if_pos (by rfl)]
            unfold Oper.wp
            simp [go_sem,e91,Oper.upon]
            exact hK _ _ ⟨(),Xae (d:=some 3) (v:= .int .i64 3) hap hfa rfl hun,k1.up (by decide),k2,k3,ko,kw,kb⟩
          ·rintro ⟨⟩ u9 a' V hup hfa ⟨⟨d1,_,r1,q1⟩,k2,k3,ko,kw,kb⟩
           have u1:=q1 (hup 5 (by decide))
           subst u1
           rw [Xao _ _ _ _ (fun k hk=>by rw [Nat.zero_add];exact hup k (by simpa using hk))] at hfa
           simp only [fillAll,Act.put] at hfa
           subst hfa
           obtain ⟨J,hx,hokJ,hrd,_⟩:=kw.freeze ko (fun b hb=>hw.fresh (by omega))
           go_wp2
           refine bodyPost_ret (Xau rfl _ _ _ rfl r1 rfl Tryz.underlying26 (by rw [hC7];exact hi7)) rfl ?_
           rw [Hr.out,hC]
           exact ⟨_,rfl,J,hrd,hx.mono (by omega),hokJ,kb⟩
        ·rw [if_neg (by intro h;exact q1 h.1)] at Hr
         have k1:(z7==0)=false:=by simpa using q1
         clear q1
         go_wp2_with (refine Xab rfl rfl 9 _ _ rfl (w.heap.size+2) 3 [S tg] (S tg) (by simp [Act.eval]) (by simp [Act.eval]) (by rfl) _ 26 E8.out (by simp) hi1 (by simp [Value.oneCell']) (entRow ⟨kindOf nm,pa,[],tg,0,[],[]⟩ (.slice aov acc.length cpv) (.slice none 0 0)) (by rfl) ?_
                      intro W9 hg9 hr9
                      have K9:=Qh (K8.out.own hw hg9)
                      have E9:=Qh hr9
                      have O9:=Qh (O8.out.kept hg9 (.inr (O8.out.ne_lt (by omega))))
                      obtain ⟨c0,c1,c2⟩:=Xan K9.out.rb)
         obtain ⟨C,hC⟩:∃C,C=entRow ⟨kindOf nm,pa,[],tg,0,[],[]⟩ (.slice aov acc.length cpv) (.slice none 0 0):=⟨_,rfl⟩
         have EC:=E9.out
         rw [←hC] at EC
         have hC7:C.size=7:=by rw [hC];rfl
         have hC1:∀v∈C.toList,v.oneCell'=true:=by rw [hC];simp [Value.oneCell']
         have hCT:C.toList.length=7:=by simpa using hC7
         have hap:ApartF (xhL w.heap.size C z7):=Xc1
         refine Xad (X:=Unit) (fun _=>xhL w.heap.size C z7) (fun _ u V=>Bk w.heap.size 7 26 C 5 u V∧V.heap[w.heap.size+2]? =some (.cells C 26 (0,0))∧RfB V (w.heap.size+1) s a7 z7∧Ok I V∧OwnS tAt 94 I V N4 (.slice aov acc.length cpv) acc∧Below w.heap.size w V) (by kernel_rfl) (by kernel_rfl)
          ⟨(),⟨_,by simp,K9.out.res,by simp⟩,EC,K9.out.rb,K9.out.mt.ok,O9.out.drew,K9.out.mt.bel.drew⟩ ?_ ?_
         ·rintro ⟨⟩ u9 a' V i hsz hcl hfa ⟨k1,k2,k3,ko,kw,kb⟩ hi
          obtain ⟨hun,oi,hoi,hall⟩:=mem_ready.1 hi
          have c2':=(Xan k3).2.2
          rcases i with _|_|_|_|_|_|_|i
          rotate_left 7
          ·simp at hoi
          all_goals
           have hoj:=hoi
           simp at hoi
           subst hoi
           simp [Region.binds] at hall
          ·have e5:a'.tmps[5]?.getD undef=ptrV (w.heap.size+2):=Xa7 hfa (by simp [xhL])
           refine wpOp_step hoj (fun K' hK=> ?_)
           rw [if_pos (by rfl)]
           refine wp_load_row 26 _ rfl (w.heap.size+2) (by simpa [Act.eval] using e5) 26 C (0,0) _ k2 Tryz.underlying26 rfl (by rw [hC7];exact hi7) ?_
           exact hK _ _ ⟨(),Xae (d:=some 87) (v:= .agg C) hap hfa rfl hun,k1.up (by decide),k2,k3,ko,kw,kb⟩
          ·have e4:a'.tmps[4]?.getD undef=ptrV (w.heap.size+1):=Xa7 hfa (by simp [xhL])
           refine wpOp_step hoj (fun K' hK=> ?_)
           rw [if_pos (by rfl)]
           unfold Oper.wp
           simp [go_sem,e4,Oper.upon]
           exact hK _ _ ⟨(),Xae (d:=some 88) (v:=ptrV (w.heap.size+1)) hap hfa rfl hun,k1.up (by decide),k2,k3,ko,kw,kb⟩
          ·have e88:a'.tmps[88]?.getD undef=ptrV (w.heap.size+1):=Xat (i:=1) hap hfa rfl (by first|simpa using hall|simpa using hall.1|simpa using hall.2|simpa using hall.2.1|simpa using hall.2.2) (by simp)
           refine wpOp_step hoj (fun K' hK=> ?_)
           rw [if_pos (by rfl)]
           unfold Oper.wp
           simp [go_sem,e88,Oper.upon]
           exact hK _ _ ⟨(),Xae (d:=some 89) (v:=ptrV (w.heap.size+1)) hap hfa rfl hun,k1.up (by decide),k2,k3,ko,kw,kb⟩
          ·have e89:a'.tmps[89]?.getD undef=ptrV (w.heap.size+1):=Xat (i:=2) hap hfa rfl (by first|simpa using hall|simpa using hall.1|simpa using hall.2|simpa using hall.2.1|simpa using hall.2.2) (by simp)
           refine wpOp_step hoj (fun K' hK=> ?_)
           rw [if_pos (by rfl)]
           unfold Oper.wp
           simp [go_sem,e89,Oper.upon]
           exact hK _ _ ⟨(),Xae (d:=some 90) (v:= .pointer (some ⟨w.heap.size+1,2,none⟩)) hap hfa rfl hun,k1.up (by decide),k2,k3,ko,kw,kb⟩
          ·have e90:a'.tmps[90]?.getD undef= .pointer (some ⟨w.heap.size+1,2,none⟩):=Xat (i:=3) hap hfa rfl (by first|simpa using hall|simpa using hall.1|simpa using hall.2|simpa using hall.2.1|simpa using hall.2.2) (by simp)
           refine wpOp_step hoj (fun K' hK=> ?_)
           rw [if_pos (by rfl)]
           unfold Oper.wp
           simp [go_sem,e90,c2',Oper.upon]
           exact hK _ _ ⟨(),Xae (d:=some 91) (v:= .int .i64 z7) hap hfa rfl hun,k1.up (by decide),k2,k3,ko,kw,kb⟩
          ·have e2:a'.tmps[2]?.getD undef=ptrV w.heap.size:=Xa7 hfa (by simp [xhL])
           have e87:a'.tmps[87]?.getD undef= .agg C:=Xat (i:=0) hap hfa rfl (by first|simpa using hall|simpa using hall.1|simpa using hall.2|simpa using hall.2.1|simpa using hall.2.2) (by simp)
           refine wpOp_step hoj (fun K' hK=> ?_)
           rw [if_pos (by rfl)]
           refine Xdw 26 _ _ rfl rfl C.toList (.agg C) (by simpa [Act.eval] using e2) (by simpa [Act.eval] using e87) (by simp [Value.cells]) (by simp) hCT k1 hi7 hC1 ?_
           intro V' hg hr
           exact hK _ _ ⟨(),Xae (d:=none) (v:=undef) hap hfa rfl hun,.done hr hC7,Xac k2 hg (fun q=>by injection q with q;omega),Xac k3 hg (fun q=>by injection q with q;omega),ko.grown hg (fun g q=>by injection q with q;subst q;exact hw.fresh (Qn _)),kw.kept hg (.inr (kw.ne_lt (by omega))),kb.grown hg kb.size (fun g q=>by injection q with q;omega)⟩
          ·have e91:a'.tmps[91]?.getD undef= .int .i64 z7:=Xat (i:=4) hap hfa rfl (by first|simpa using hall|simpa using hall.1|simpa using hall.2|simpa using hall.2.1|simpa using hall.2.2) (by simp)
           refine wpOp_step hoj (fun K' hK=> ?_)
           rw [if_pos (by rfl)]
           unfold Oper.wp
           simp [go_sem,e91,Oper.upon]
           exact hK _ _ ⟨(),Xae (d:=some 3) (v:= .int .i64 z7) hap hfa rfl hun,k1.up (by decide),k2,k3,ko,kw,kb⟩
         ·rintro ⟨⟩ u9 a' V hup hfa ⟨⟨d1,_,r1,q1⟩,k2,k3,ko,kw,kb⟩
          have u1:=q1 (hup 5 (by decide))
          subst u1
          rw [Xao _ _ _ _ (fun k hk=>by rw [Nat.zero_add];exact hup k (by simpa using hk))] at hfa
          simp only [fillAll,Act.put] at hfa
          subst hfa
          obtain ⟨J,hx,hokJ,hrd,_⟩:=kw.freeze ko (fun b hb=>hw.fresh (by omega))
          go_wp2
          refine bodyPost_ret (Xau rfl _ _ _ rfl r1 rfl Tryz.underlying26 (by rw [hC7];exact hi7)) rfl ?_
          rw [Hr.out,hC]
          exact ⟨_,rfl,J,hrd,hx.mono (by omega),hokJ,kb⟩
      ·have hL:L=(acc,a,z):=by rw [←Hrd.out,show m-k=0 by omega,rfA]
       subst hL
       clear Hrd hm
       rw [rfH4] at Hr
       dsimp only at Hr
       obtain ⟨aov,cpv,rfl⟩:=HO.out.shape
       go_wp2_with fail
       have ha7:=Xd2 s a z ha
       refine (Xd1 s hs _ a z _ HK.out.rb (by omega)).mono ?_
       generalize rfT [] (rdStr s a) a z=p at Hr ha7 ⊢
       obtain ⟨tg,a7,z7⟩:=p
       dsimp only at ha7 ⊢
       rintro e W8 ⟨rfl,hb8,hg8⟩
       have K8:=Qh (HK.out.read hw hb8 hg8)
       have E8:=Qh (Xac HE.out hg8 (fun q=>by injection q with q;omega))
       have O8:=Qh (HO.out.kept hg8 (.inr (HO.out.ne_lt (by omega))))
       have hne8:=Nat.le_trans hne hg8.size
       rw [rfH5] at Hr
       dsimp only at Hr
       clear HK HE HO hb8 hg8 c0 c1 c2
       by_cases q1:z7=0
       ·subst q1
        by_cases q2:a7=s.length
        ·rw [if_neg (by intro h;exact h.2 q2)] at Hr
         have k1:((a7:Int) != (s.length:Int))=false:=by rw [q2];simp
         clear q2
         go_wp2_with (refine Xab rfl rfl 9 _ _ rfl (w.heap.size+2) 3 [S tg] (S tg) (by simp [Act.eval]) (by simp [Act.eval]) (by rfl) _ 26 E8.out (by simp) hi1 (by simp [Value.oneCell']) (entRow ⟨kindOf nm,pa,[],tg,0,[],[]⟩ (.slice aov acc.length cpv) (.slice none 0 0)) (by rfl) ?_
                      intro W9 hg9 hr9
                      have K9:=Qh (K8.out.own hw hg9)
                      have E9:=Qh hr9
                      have O9:=Qh (O8.out.kept hg9 (.inr (O8.out.ne_lt (by omega))))
                      obtain ⟨c0,c1,c2⟩:=Xan K9.out.rb)
         obtain ⟨C,hC⟩:∃C,C=entRow ⟨kindOf nm,pa,[],tg,0,[],[]⟩ (.slice aov acc.length cpv) (.slice none 0 0):=⟨_,rfl⟩
         have EC:=E9.out
         rw [←hC] at EC
         have hC7:C.size=7:=by rw [hC];rfl
         have hC1:∀v∈C.toList,v.oneCell'=true:=by rw [hC];simp [Value.oneCell']
         have hCT:C.toList.length=7:=by simpa using hC7
         have hap:ApartF (xhL w.heap.size C 0):=Xc1
         refine Xad (X:=Unit) (fun _=>xhL w.heap.size C 0) (fun _ u V=>Bk w.heap.size 7 26 C 5 u V∧V.heap[w.heap.size+2]? =some (.cells C 26 (0,0))∧RfB V (w.heap.size+1) s a7 0∧Ok I V∧OwnS tAt 94 I V N4 (.slice aov acc.length cpv) acc∧Below w.heap.size w V) (by kernel_rfl) (by kernel_rfl)
          ⟨(),⟨_,by simp,K9.out.res,by simp⟩,EC,K9.out.rb,K9.out.mt.ok,O9.out.drew,K9.out.mt.bel.drew⟩ ?_ ?_
         ·rintro ⟨⟩ u9 a' V i hsz hcl hfa ⟨k1,k2,k3,ko,kw,kb⟩ hi
          obtain ⟨hun,oi,hoi,hall⟩:=mem_ready.1 hi
          have c2':=(Xan k3).2.2
          rcases i with _|_|_|_|_|_|_|i
          rotate_left 7
          ·simp at hoi
          all_goals
           have hoj:=hoi
           simp at hoi
           subst hoi
           simp [Region.binds] at hall
          ·have e5:a'.tmps[5]?.getD undef=ptrV (w.heap.size+2):=Xa7 hfa (by simp [xhL])
           refine wpOp_step hoj (fun K' hK=> ?_)
           rw [if_pos (by rfl)]
           refine wp_load_row 26 _ rfl (w.heap.size+2) (by simpa [Act.eval] using e5) 26 C (0,0) _ k2 Tryz.underlying26 rfl (by rw [hC7];exact hi7) ?_
           exact hK _ _ ⟨(),Xae (d:=some 87) (v:= .agg C) hap hfa rfl hun,k1.up (by decide),k2,k3,ko,kw,kb⟩
          ·have e4:a'.tmps[4]?.getD undef=ptrV (w.heap.size+1):=Xa7 hfa (by simp [xhL])
           refine wpOp_step hoj (fun K' hK=> ?_)
           rw [if_pos (by rfl)]
           unfold Oper.wp
           simp [go_sem,e4,Oper.upon]
           exact hK _ _ ⟨(),Xae (d:=some 88) (v:=ptrV (w.heap.size+1)) hap hfa rfl hun,k1.up (by decide),k2,k3,ko,kw,kb⟩
          ·have e88:a'.tmps[88]?.getD undef=ptrV (w.heap.size+1):=Xat (i:=1) hap hfa rfl (by first|simpa using hall|simpa using hall.1|simpa using hall.2|simpa using hall.2.1|simpa using hall.2.2) (by simp)
           refine wpOp_step hoj (fun K' hK=> ?_)
           rw [if_pos (by rfl)]
           unfold Oper.wp
           simp [go_sem,e88,Oper.upon]
           exact hK _ _ ⟨(),Xae (d:=some 89) (v:=ptrV (w.heap.size+1)) hap hfa rfl hun,k1.up (by decide),k2,k3,ko,kw,kb⟩
          ·have e89:a'.tmps[89]?.getD undef=ptrV (w.heap.size+1):=Xat (i:=2) hap hfa rfl (by first|simpa using hall|simpa using hall.1|simpa using hall.2|simpa using hall.2.1|simpa using hall.2.2) (by simp)
           refine wpOp_step hoj (fun K' hK=> ?_)
           rw [if_pos (by rfl)]
           unfold Oper.wp
           simp [go_sem,e89,Oper.upon]
           exact hK _ _ ⟨(),Xae (d:=some 90) (v:= .pointer (some ⟨w.heap.size+1,2,none⟩)) hap hfa rfl hun,k1.up (by decide),k2,k3,ko,kw,kb⟩
          ·have e90:a'.tmps[90]?.getD undef= .pointer (some ⟨w.heap.size+1,2,none⟩):=Xat (i:=3) hap hfa rfl (by first|simpa using hall|simpa using hall.1|simpa using hall.2|simpa using hall.2.1|simpa using hall.2.2) (by simp)
           refine wpOp_step hoj (fun K' hK=> ?_)
           rw [if_pos (by rfl)]
           unfold Oper.wp
           simp [go_sem,e90,c2',Oper.upon]
           exact hK _ _ ⟨(),Xae (d:=some 91) (v:= .int .i64 0) hap hfa rfl hun,k1.up (by decide),k2,k3,ko,kw,kb⟩
          ·have e2:a'.tmps[2]?.getD undef=ptrV w.heap.size:=Xa7 hfa (by simp [xhL])
           have e87:a'.tmps[87]?.getD undef= .agg C:=Xat (i:=0) hap hfa rfl (by first|simpa using hall|simpa using hall.1|simpa using hall.2|simpa using hall.2.1|simpa using hall.2.2) (by simp)
           refine wpOp_step hoj (fun K' hK=> ?_)
           rw [if_pos (by rfl)]
           refine Xdw 26 _ _ rfl rfl C.toList (.agg C) (by simpa [Act.eval] using e2) (by simpa [Act.eval] using e87) (by simp [Value.cells]) (by simp) hCT k1 hi7 hC1 ?_
           intro V' hg hr
           exact hK _ _ ⟨(),Xae (d:=none) (v:=undef) hap hfa rfl hun,.done hr hC7,Xac k2 hg (fun q=>by injection q with q;omega),Xac k3 hg (fun q=>by injection q with q;omega),ko.grown hg (fun g q=>by injection q with q;subst q;exact hw.fresh (Qn _)),kw.kept hg (.inr (kw.ne_lt (by omega))),kb.grown hg kb.size (fun g q=>by injection q with q;omega)⟩
          ·have e91:a'.tmps[91]?.getD undef= .int .i64 0:=Xat (i:=4) hap hfa rfl (by first|simpa using hall|simpa using hall.1|simpa using hall.2|simpa using hall.2.1|simpa using hall.2.2) (by simp)
           refine wpOp_step hoj (fun K' hK=> ?_)
           rw [if_pos (by rfl)]
           unfold Oper.wp
           simp [go_sem,e91,Oper.upon]
           exact hK _ _ ⟨(),Xae (d:=some 3) (v:= .int .i64 0) hap hfa rfl hun,k1.up (by decide),k2,k3,ko,kw,kb⟩
         ·rintro ⟨⟩ u9 a' V hup hfa ⟨⟨d1,_,r1,q1⟩,k2,k3,ko,kw,kb⟩
          have u1:=q1 (hup 5 (by decide))
          subst u1
          rw [Xao _ _ _ _ (fun k hk=>by rw [Nat.zero_add];exact hup k (by simpa using hk))] at hfa
          simp only [fillAll,Act.put] at hfa
          subst hfa
          obtain ⟨J,hx,hokJ,hrd,_⟩:=kw.freeze ko (fun b hb=>hw.fresh (by omega))
          go_wp2
          refine bodyPost_ret (Xau rfl _ _ _ rfl r1 rfl Tryz.underlying26 (by rw [hC7];exact hi7)) rfl ?_
          rw [Hr.out,hC]
          exact ⟨_,rfl,J,hrd,hx.mono (by omega),hokJ,kb⟩
        ·rw [if_pos ⟨rfl,q2⟩] at Hr
         have k1:((a7:Int) != (s.length:Int))=true:=by
          have:(a7:Int)≠(s.length:Int):=by omega
          simpa using this
         clear q2
         go_wp2_with (first
                      |(refine Xab rfl rfl 9 _ _ rfl (w.heap.size+2) 3 [S tg] (S tg) (by simp [Act.eval]) (by simp [Act.eval]) (by rfl) _ 26 E8.out (by simp) hi1 (by simp [Value.oneCell']) (entRow ⟨kindOf nm,pa,[],tg,0,[],[]⟩ (.slice aov acc.length cpv) (.slice none 0 0)) (by rfl) ?_
                        intro W9 hg9 hr9
                        have K9:=Qh (K8.out.own hw hg9)
                        have E9:=Qh hr9
                        have O9:=Qh (O8.out.kept hg9 (.inr (O8.out.ne_lt (by omega))))
                        obtain ⟨c0,c1,c2⟩:=Xan K9.out.rb)
                      |(refine Xab rfl rfl 30 _ _ rfl (w.heap.size+1) 2 [.int .i64 3] (.int .i64 3) (by simp [Act.eval]) (by simp [Act.eval]) (by rfl) _ 199 K9.out.rb (by simp) hi3 (by simp [Value.oneCell']) #[S s,.int .i64 (a7:Int),.int .i64 3] (by rfl) ?_
                        intro W10 hg10 hr10
                        have K10:=Qh (K9.out.read hw hr10 hg10)
                        have E10:=Qh (Xac E9.out hg10 (fun q=>by injection q with q;omega))
                        have O10:=Qh (O9.out.kept hg10 (.inr (O9.out.ne_lt (by omega))))
                        obtain ⟨c0,c1,c2⟩:=Xan K10.out.rb))
         obtain ⟨C,hC⟩:∃C,C=entRow ⟨kindOf nm,pa,[],tg,0,[],[]⟩ (.slice aov acc.length cpv) (.slice none 0 0):=⟨_,rfl⟩
         have EC:=E10.out
         rw [←hC] at EC
         have hC7:C.size=7:=by rw [hC];rfl
         have hC1:∀v∈C.toList,v.oneCell'=true:=by rw [hC];simp [Value.oneCell']
         have hCT:C.toList.length=7:=by simpa using hC7
         have hap:ApartF (xhL w.heap.size C 3):=Xc1
         refine Xad (X:=Unit) (fun _=>xhL w.heap.size C 3) (fun _ u V=>Bk w.heap.size 7 26 C 5 u V∧V.heap[w.heap.size+2]? =some (.cells C 26 (0,0))∧RfB V (w.heap.size+1) s a7 3∧Ok I V∧OwnS tAt 94 I V N4 (.slice aov acc.length cpv) acc∧Below w.heap.size w V) (by kernel_rfl) (by kernel_rfl)
          ⟨(),⟨_,by simp,K10.out.res,by simp⟩,EC,K10.out.rb,K10.out.mt.ok,O10.out.drew,K10.out.mt.bel.drew⟩ ?_ ?_
         ·rintro ⟨⟩ u9 a' V i hsz hcl hfa ⟨k1,k2,k3,ko,kw,kb⟩ hi
          obtain ⟨hun,oi,hoi,hall⟩:=mem_ready.1 hi
          have c2':=(Xan k3).2.2
          rcases i with _|_|_|_|_|_|_|i
          rotate_left 7
          ·simp at hoi
          all_goals
           have hoj:=hoi
           simp at hoi
           subst hoi
           simp [Region.binds] at hall
          ·have e5:a'.tmps[5]?.getD undef=ptrV (w.heap.size+2):=Xa7 hfa (by simp [xhL])
           refine wpOp_step hoj (fun K' hK=> ?_)
           rw [if_pos (by rfl)]
           refine wp_load_row 26 _ rfl (w.heap.size+2) (by simpa [Act.eval] using e5) 26 C (0,0) _ k2 Tryz.underlying26 rfl (by rw [hC7];exact hi7) ?_
           exact hK _ _ ⟨(),Xae (d:=some 87) (v:= .agg C) hap hfa rfl hun,k1.up (by decide),k2,k3,ko,kw,kb⟩
          ·have e4:a'.tmps[4]?.getD undef=ptrV (w.heap.size+1):=Xa7 hfa (by simp [xhL])
           refine wpOp_step hoj (fun K' hK=> ?_)
           rw [if_pos (by rfl)]
           unfold Oper.wp
           simp [go_sem,e4,Oper.upon]
           exact hK _ _ ⟨(),Xae (d:=some 88) (v:=ptrV (w.heap.size+1)) hap hfa rfl hun,k1.up (by decide),k2,k3,ko,kw,kb⟩
          ·have e88:a'.tmps[88]?.getD undef=ptrV (w.heap.size+1):=Xat (i:=1) hap hfa rfl (by first|simpa using hall|simpa using hall.1|simpa using hall.2|simpa using hall.2.1|simpa using hall.2.2) (by simp)
           refine wpOp_step hoj (fun K' hK=> ?_)
           rw [if_pos (by rfl)]
           unfold Oper.wp
           simp [go_sem,e88,Oper.upon]
           exact hK _ _ ⟨(),Xae (d:=some 89) (v:=ptrV (w.heap.size+1)) hap hfa rfl hun,k1.up (by decide),k2,k3,ko,kw,kb⟩
          ·have e89:a'.tmps[89]?.getD undef=ptrV (w.heap.size+1):=Xat (i:=2) hap hfa rfl (by first|simpa using hall|simpa using hall.1|simpa using hall.2|simpa using hall.2.1|simpa using hall.2.2) (by simp)
           refine wpOp_step hoj (fun K' hK=> ?_)
           rw [if_pos (by rfl)]
           unfold Oper.wp
           simp [go_sem,e89,Oper.upon]
           exact hK _ _ ⟨(),Xae (d:=some 90) (v:= .pointer (some ⟨w.heap.size+1,2,none⟩)) hap hfa rfl hun,k1.up (by decide),k2,k3,ko,kw,kb⟩
          ·have e90:a'.tmps[90]?.getD undef= .pointer (some ⟨w.heap.size+1,2,none⟩):=Xat (i:=3) hap hfa rfl (by first|simpa using hall|simpa using hall.1|simpa using hall.2|simpa using hall.2.1|simpa using hall.2.2) (by simp)
           refine wpOp_step hoj (fun K' hK=> ?_)
           rw [if_pos (by rfl)]
           unfold Oper.wp
           simp [go_sem,e90,c2',Oper.upon]
           exact hK _ _ ⟨(),Xae (d:=some 91) (v:= .int .i64 3) hap hfa rfl hun,k1.up (by decide),k2,k3,ko,kw,kb⟩
          ·have e2:a'.tmps[2]?.getD undef=ptrV w.heap.size:=Xa7 hfa (by simp [xhL])
           have e87:a'.tmps[87]?.getD undef= .agg C:=Xat (i:=0) hap hfa rfl (by first|simpa using hall|simpa using hall.1|simpa using hall.2|simpa using hall.2.1|simpa using hall.2.2) (by simp)
           refine wpOp_step hoj (fun K' hK=> ?_)
           rw [if_pos (by rfl)]
           refine Xdw 26 _ _ rfl rfl C.toList (.agg C) (by simpa [Act.eval] using e2) (by simpa [Act.eval] using e87) (by simp [Value.cells]) (by simp) hCT k1 hi7 hC1 ?_
           intro V' hg hr
           exact hK _ _ ⟨(),Xae (d:=none) (v:=undef) hap hfa rfl hun,.done hr hC7,Xac k2 hg (fun q=>by injection q with q;omega),Xac k3 hg (fun q=>by injection q with q;omega),ko.grown hg (fun g q=>by injection q with q;subst q;exact hw.fresh (Qn _)),kw.kept hg (.inr (kw.ne_lt (by omega))),kb.grown hg kb.size (fun g q=>by injection q with q;omega)⟩
          ·have e91:a'.tmps[91]?.getD undef= .int .i64 3:=Xat (i:=4) hap hfa rfl (by first|simpa using hall|simpa using hall.1|simpa using hall.2|simpa using hall.2.1|simpa using hall.2.2) (by simp)
           refine wpOp_step hoj (fun K' hK=> ?_)
           rw [if_pos (by rfl)]
           unfold Oper.wp
           simp [go_sem,e91,Oper.upon]
           exact hK _ _ ⟨(),Xae (d:=some 3) (v:= .int .i64 3) hap hfa rfl hun,k1.up (by decide),k2,k3,ko,kw,kb⟩
         ·rintro ⟨⟩ u9 a' V hup hfa ⟨⟨d1,_,r1,q1⟩,k2,k3,ko,kw,kb⟩
          have u1:=q1 (hup 5 (by decide))
          subst u1
          rw [Xao _ _ _ _ (fun k hk=>by rw [Nat.zero_add];exact hup k (by simpa using hk))] at hfa
          simp only [fillAll,Act.put] at hfa
          subst hfa
          obtain ⟨J,hx,hokJ,hrd,_⟩:=kw.freeze ko (fun b hb=>hw.fresh (by omega))
          go_wp2
          refine bodyPost_ret (Xau rfl _ _ _ rfl r1 rfl Tryz.underlying26 (by rw [hC7];exact hi7)) rfl ?_
          rw [Hr.out,hC]
          exact ⟨_,rfl,J,hrd,hx.mono (by omega),hokJ,kb⟩
       ·rw [if_neg (by intro h;exact q1 h.1)] at Hr
        have k1:(z7==0)=false:=by simpa using q1
        clear q1
        go_wp2_with (refine Xab rfl rfl 9 _ _ rfl (w.heap.size+2) 3 [S tg] (S tg) (by simp [Act.eval]) (by simp [Act.eval]) (by rfl) _ 26 E8.out (by simp) hi1 (by simp [Value.oneCell']) (entRow ⟨kindOf nm,pa,[],tg,0,[],[]⟩ (.slice aov acc.length cpv) (.slice none 0 0)) (by rfl) ?_
                     intro W9 hg9 hr9
                     have K9:=Qh (K8.out.own hw hg9)
                     have E9:=Qh hr9
                     have O9:=Qh (O8.out.kept hg9 (.inr (O8.out.ne_lt (by omega))))
                     obtain ⟨c0,c1,c2⟩:=Xan K9.out.rb)
        obtain ⟨C,hC⟩:∃C,C=entRow ⟨kindOf nm,pa,[],tg,0,[],[]⟩ (.slice aov acc.length cpv) (.slice none 0 0):=⟨_,rfl⟩
        have EC:=E9.out
        rw [←hC] at EC
        have hC7:C.size=7:=by rw [hC];rfl
        have hC1:∀v∈C.toList,v.oneCell'=true:=by rw [hC];simp [Value.oneCell']
        have hCT:C.toList.length=7:=by simpa using hC7
        have hap:ApartF (xhL w.heap.size C z7):=Xc1
        refine Xad (X:=Unit) (fun _=>xhL w.heap.size C z7) (fun _ u V=>Bk w.heap.size 7 26 C 5 u V∧V.heap[w.heap.size+2]? =some (.cells C 26 (0,0))∧RfB V (w.heap.size+1) s a7 z7∧Ok I V∧OwnS tAt 94 I V N4 (.slice aov acc.length cpv) acc∧Below w.heap.size w V) (by kernel_rfl) (by kernel_rfl)
         ⟨(),⟨_,by simp,K9.out.res,by simp⟩,EC,K9.out.rb,K9.out.mt.ok,O9.out.drew,K9.out.mt.bel.drew⟩ ?_ ?_
        ·rintro ⟨⟩ u9 a' V i hsz hcl hfa ⟨k1,k2,k3,ko,kw,kb⟩ hi
         obtain ⟨hun,oi,hoi,hall⟩:=mem_ready.1 hi
         have c2':=(Xan k3).2.2
         rcases i with _|_|_|_|_|_|_|i
         rotate_left 7
         ·simp at hoi
         all_goals
          have hoj:=hoi
          simp at hoi
          subst hoi
          simp [Region.binds] at hall
         ·have e5:a'.tmps[5]?.getD undef=ptrV (w.heap.size+2):=Xa7 hfa (by simp [xhL])
          refine wpOp_step hoj (fun K' hK=> ?_)
          rw [if_pos (by rfl)]
          refine wp_load_row 26 _ rfl (w.heap.size+2) (by simpa [Act.eval] using e5) 26 C (0,0) _ k2 Tryz.underlying26 rfl (by rw [hC7];exact hi7) ?_
          exact hK _ _ ⟨(),Xae (d:=some 87) (v:= .agg C) hap hfa rfl hun,k1.up (by decide),k2,k3,ko,kw,kb⟩
         ·have e4:a'.tmps[4]?.getD undef=ptrV (w.heap.size+1):=Xa7 hfa (by simp [xhL])
          refine wpOp_step hoj (fun K' hK=> ?_)
          rw [if_pos (by rfl)]
          unfold Oper.wp
          simp [go_sem,e4,Oper.upon]
          exact hK _ _ ⟨(),Xae (d:=some 88) (v:=ptrV (w.heap.size+1)) hap hfa rfl hun,k1.up (by decide),k2,k3,ko,kw,kb⟩
         ·have e88:a'.tmps[88]?.getD undef=ptrV (w.heap.size+1):=Xat (i:=1) hap hfa rfl (by first|simpa using hall|simpa using hall.1|simpa using hall.2|simpa using hall.2.1|simpa using hall.2.2) (by simp)
          refine wpOp_step hoj (fun K' hK=> ?_)
          rw [if_pos (by rfl)]
          unfold Oper.wp
          simp [go_sem,e88,Oper.upon]
          exact hK _ _ ⟨(),Xae (d:=some 89) (v:=ptrV (w.heap.size+1)) hap hfa rfl hun,k1.up (by decide),k2,k3,ko,kw,kb⟩
         ·have e89:a'.tmps[89]?.getD undef=ptrV (w.heap.size+1):=Xat (i:=2) hap hfa rfl (by first|simpa using hall|simpa using hall.1|simpa using hall.2|simpa using hall.2.1|simpa using hall.2.2) (by simp)
          refine wpOp_step hoj (fun K' hK=> ?_)
          rw [if_pos (by rfl)]
          unfold Oper.wp
          simp [go_sem,e89,Oper.upon]
          exact hK _ _ ⟨(),Xae (d:=some 90) (v:= .pointer (some ⟨w.heap.size+1,2,none⟩)) hap hfa rfl hun,k1.up (by decide),k2,k3,ko,kw,kb⟩
         ·have e90:a'.tmps[90]?.getD undef= .pointer (some ⟨w.heap.size+1,2,none⟩):=Xat (i:=3) hap hfa rfl (by first|simpa using hall|simpa using hall.1|simpa using hall.2|simpa using hall.2.1|simpa using hall.2.2) (by simp)
          refine wpOp_step hoj (fun K' hK=> ?_)
          rw [if_pos (by rfl)]
          unfold Oper.wp
          simp [go_sem,e90,c2',Oper.upon]
          exact hK _ _ ⟨(),Xae (d:=some 91) (v:= .int .i64 z7) hap hfa rfl hun,k1.up (by decide),k2,k3,ko,kw,kb⟩
         ·have e2:a'.tmps[2]?.getD undef=ptrV w.heap.size:=Xa7 hfa (by simp [xhL])
          have e87:a'.tmps[87]?.getD undef= .agg C:=Xat (i:=0) hap hfa rfl (by first|simpa using hall|simpa using hall.1|simpa using hall.2|simpa using hall.2.1|simpa using hall.2.2) (by simp)
          refine wpOp_step hoj (fun K' hK=> ?_)
          rw [if_pos (by rfl)]
          refine Xdw 26 _ _ rfl rfl C.toList (.agg C) (by simpa [Act.eval] using e2) (by simpa [Act.eval] using e87) (by simp [Value.cells]) (by simp) hCT k1 hi7 hC1 ?_
          intro V' hg hr
          exact hK _ _ ⟨(),Xae (d:=none) (v:=undef) hap hfa rfl hun,.done hr hC7,Xac k2 hg (fun q=>by injection q with q;omega),Xac k3 hg (fun q=>by injection q with q;omega),ko.grown hg (fun g q=>by injection q with q;subst q;exact hw.fresh (Qn _)),kw.kept hg (.inr (kw.ne_lt (by omega))),kb.grown hg kb.size (fun g q=>by injection q with q;omega)⟩
         ·have e91:a'.tmps[91]?.getD undef= .int .i64 z7:=Xat (i:=4) hap hfa rfl (by first|simpa using hall|simpa using hall.1|simpa using hall.2|simpa using hall.2.1|simpa using hall.2.2) (by simp)
          refine wpOp_step hoj (fun K' hK=> ?_)
          rw [if_pos (by rfl)]
          unfold Oper.wp
          simp [go_sem,e91,Oper.upon]
          exact hK _ _ ⟨(),Xae (d:=some 3) (v:= .int .i64 z7) hap hfa rfl hun,k1.up (by decide),k2,k3,ko,kw,kb⟩
        ·rintro ⟨⟩ u9 a' V hup hfa ⟨⟨d1,_,r1,q1⟩,k2,k3,ko,kw,kb⟩
         have u1:=q1 (hup 5 (by decide))
         subst u1
         rw [Xao _ _ _ _ (fun k hk=>by rw [Nat.zero_add];exact hup k (by simpa using hk))] at hfa
         simp only [fillAll,Act.put] at hfa
         subst hfa
         obtain ⟨J,hx,hokJ,hrd,_⟩:=kw.freeze ko (fun b hb=>hw.fresh (by omega))
         go_wp2
         refine bodyPost_ret (Xau rfl _ _ _ rfl r1 rfl Tryz.underlying26 (by rw [hC7];exact hi7)) rfl ?_
         rw [Hr.out,hC]
         exact ⟨_,rfl,J,hrd,hx.mono (by omega),hokJ,kb⟩
end Go.Proofs.YtdodihnehppnmaaGreatDoor
