/-
  Walks and laws that the claim's theorem uses: texts EgG, joined; comments out. Conditions: as each theorem says.
-/
import Derived.Test.YtdodihnehppnmaaGreatDoorTO22
import Derived.Test.YtdodihnehppnmaaGreatDoorTO23
set_option linter.all false
namespace Go.Proofs.YtdodihnehppnmaaGreatDoor
open Go.RowKit
structure Gat {α:Type} (T:Ty α) (E:TypeId) (B:Nat) (J:IH) (W:World) (v:Value) (l:List α):Prop where
 own:OwnS T E J W B v l
 apart:∀g,v.ownBlock=some g→J g=none
section
variable {α:Type} {T:Ty α} {E:TypeId} {B:Nat} {J J':IH} {W W':World} {v v':Value} {l l':List α}
theorem Xrk {g:Nat} (h:OwnS T E J W B v l) (hg:v.ownBlock=some g):B≤g∧g<W.heap.size:=by
 obtain ⟨xs,h1,_⟩:=h
 exact h1.lt g hg
theorem Gat.below (h:Gat T E B J W v l) (hb:Below W.heap.size W W'):Gat T E B J W' v l:=⟨h.own.below hb,h.apart⟩
theorem Gat.ext (h:Gat T E B J W v l) (hb:Below W.heap.size W W') (hw:Ok J W) (hx:Ext W.heap.size J J'):Gat T E B J' W' v l:=
 ⟨(h.own.below hb).mono (hx.keep hw (Qn _)),fun g hg=>(hx g (Xrk h.own hg).2).trans (h.apart g hg)⟩
theorem Gat.kept {row:Option Nat} (h:Gat T E B J W v l) (hg:W.grownBy W' row) (hne:∀g,row=some g→v.ownBlock≠some g):Gat T E B J W' v l:=
 ⟨h.own.kept hg (by
   cases hv:v.ownBlock with
   |none=>exact .inl rfl
   |some k=>exact .inr (fun e=>hne k e.symm hv)),h.apart⟩
theorem Gat.low {g:Nat} (h:Gat T E B J W v l) (hg:W.grownBy W' (some g)) (hlt:g<B):Gat T E B J W' v l:=h.kept hg fun k q=>by injection q with q;subst q;exact h.own.ne_lt hlt
theorem Gat.added (h:Gat T E B J W v l) (hok:Ok J W) (ho:OwnS T E J W' B v' l') (hl:∀g,v'.ownBlock=some g→v.ownBlock=some g∨W.heap.size≤g):Gat T E B J W' v' l':=by
 refine ⟨ho,fun g hk=> ?_⟩
 rcases hl g hk with h1|h1
 ·exact h.apart g h1
 ·exact hok.fresh h1
end
def Sep (v u:Value):Prop:= ∀g,v.ownBlock=some g→u.ownBlock≠some g
theorem Sep.new {β:Type} {U:Ty β} {F:TypeId} {C:Nat} {J:IH} {W:World} {v v' u:Value} {m:List β} (h:Sep v u) (hu:OwnS U F J W C u m) (hl:∀g,v'.ownBlock=some g→v.ownBlock=some g∨W.heap.size≤g):Sep v' u:=by
 intro g hg
 rcases hl g hg with h1|h1
 ·exact h g h1
 ·exact hu.ne_ge h1
theorem Sep.symm {v u:Value} (h:Sep v u):Sep u v:=fun g hg e=>h g e hg
theorem OwnS.freezeG {α:Type} {T:Ty α} {E:TypeId} {I:IH} {w:World} {B:Nat} {v:Value} {l:List α} (h:OwnS T E I w B v l) (hw:Ok I w) (hI:∀g,v.ownBlock=some g→I g=none):∃I',(∀b c,I b=some c→I' b=some c)∧Ext B I I'∧Ok I' w∧RdS T I' v l∧ ∀b,v.ownBlock≠some b→I' b=I b:=by
 obtain ⟨xs,⟨h1,h1'⟩,h2⟩:=h
 rcases h1' with ⟨rfl,h0⟩|⟨g,cap,cur,rfl,hb,hg,hnc,hcm,hcs,ht⟩
 ·refine ⟨I,fun _ _ h=>h,Ext.refl _ _,hw,?_,fun _ _=>rfl⟩
  have:l= []:=List.eq_nil_of_length_eq_zero h0
  subst this
  exact RdS.nil T I
 ·have hkeep:∀b c,I b=some c→(I.add g cur) b=some c:=fun b c hc=>by
   unfold IH.add
   by_cases e:b=g
   ·subst e;rw [hI _ rfl] at hc;cases hc
   ·rw [if_neg e];exact hc
  refine ⟨I.add g cur,hkeep,Ext.add hb I cur,hw.add hg,⟨_,cap,rfl,hnc,hcm,fun _=>⟨g,0,cur,rfl,by simp [IH.add],fun i hi=> ?_⟩⟩,fun b hbn=> ?_⟩
  ·obtain ⟨cs,k1,k2⟩:=h2.2 i hi
   refine ⟨cs,T.mono hkeep k1,fun j u hu=> ?_⟩
   have hx:=k2 j u hu
   rw [←ht,List.getElem?_take] at hx
   split at hx
   ·rw [Nat.zero_add,←Array.getElem?_toList];exact hx
   ·cases hx
  ·have:b≠g:=fun e=>hbn (by simp [Value.ownBlock,e])
   simp [IH.add,this]
structure NxB (W:World) (bs ba be:Nat) (s:Bytes) (a:Nat) (z:Int):Prop where
 s0:W.heap[bs]? =some (.cells #[S s] 9 (0,0))
 a0:W.heap[ba]? =some (.cells #[.int .i64 (a:Int)] 3 (0,0))
 e0:W.heap[be]? =some (.cells #[.int .i64 z] 30 (0,0))
theorem NxB.thru {W W':World} {bs ba be:Nat} {s:Bytes} {a:Nat} {z:Int} (h:NxB W bs ba be s a z) (hb:Below W.heap.size W W'):NxB W' bs ba be s a z:=⟨Xah h.s0 hb,Xah h.a0 hb,Xah h.e0 hb⟩
theorem NxB.own {W W':World} {bs ba be:Nat} {s:Bytes} {a:Nat} {z:Int} {row:Option Nat} (h:NxB W bs ba be s a z) (hg:W.grownBy W' row) (hne:∀g,row=some g→g≠bs∧g≠ba∧g≠be):NxB W' bs ba be s a z:=
 ⟨Xaf h.s0 hg (fun q=>(hne _ q).1 rfl),Xaf h.a0 hg (fun q=>(hne _ q).2.1 rfl),Xaf h.e0 hg (fun q=>(hne _ q).2.2 rfl)⟩
def Two (W W':World) (a b:Nat):Prop:= ∃wb,W.grownBy wb (some a)∧wb.grownBy W' (some b)
set_option maxRecDepth 100000 in
set_option maxHeartbeats 1000000 in
theorem Xnt (I:IH) (hI:Glob I) (s:Bytes) (hs:s.length≤4294967280) (bs ba be a:Nat) (z:Int) (w:World) (hw:Ok I w) (hB:NxB w bs ba be s a z) (ha:a≤4294967280) (hd:bs≠ba∧bs≠be∧ba≠be):
 Calls Tryz.prog 51 #[.pointer (some ⟨be,0,none⟩),.pointer (some ⟨bs,0,none⟩),.pointer (some ⟨ba,0,none⟩)] w fun e w'=>e= .returned (S (rfT [] (rdStr s a) a z).1)∧NxB w' bs ba be s (rfT [] (rdStr s a) a z).2.1 (rfT [] (rdStr s a) a z).2.2∧Two w w' ba be:=by
 have Hr:=Qh (fun w hw=>Xc1 I hI s hs a (by omega) w hw)
 have HB:=Qh hB
 have c0:=cell0 hB.s0
 have c1:=cell0 hB.a0
 have c2:=cell0 hB.e0
 have hi3:(Tryz.prog.info? 30).map (·.size)=some 1:=by kernel_rfl
 obtain ⟨hd1,hd2,hd3⟩:=hd
 by_cases hz:z=0
 ·subst hz
  have k1:((0:Int) != 0)=false:=rfl
  obtain ⟨x,b,y,hxy⟩:∃x b y,rfT [] (rdStr s a) a 0=(x,b,y):=⟨_,_,_,rfl⟩
  have hsv:sV (rdStr s a)= .tuple #[S x,.int .i64 (b:Int),.int .i64 y]:=by
   cases h1:rdStr s a with
   |ok p=>
    obtain ⟨x',n'⟩:=p
    rw [h1,Xof] at hxy
    injection hxy with e1 e2
    injection e2 with e2 e3
    subst e1 e2 e3
    exact Xts _ _
   |error c=>
    rw [h1,Xcj] at hxy
    injection hxy with e1 e2
    injection e2 with e2 e3
    subst e1 e2 e3
    exact Xtr _
  rw [hxy]
  rw [hsv] at Hr
  clear hsv hxy hB
  go_enter Tryz.func51,Tryz.ntmps51
  go_wp2_with fail
  refine (Hr.out _ hw).mono ?_
  rintro e w1 ⟨rfl,hb1⟩
  have HB1:=Qh (HB.out.thru hb1)
  clear c0 c1 c2
  go_wp2_with (first
               |(refine Xai rfl rfl 3 _ _ rfl ba 0 [.int .i64 (b:Int)] (.int .i64 (b:Int)) (by simp [Act.eval]) (by simp [Act.eval]) (by rfl) _ 3 HB1.out.a0 (by simp) Xb3 (by simp [Value.oneCell']) #[.int .i64 (b:Int)] (by rfl) ?_
                 intro w2 hg2 hr2
                 have E2:=Qh (Xaf HB1.out.e0 hg2 (fun q=>by injection q with q;exact hd3 q))
                 have S2:=Qh (Xaf HB1.out.s0 hg2 (fun q=>by injection q with q;exact hd1 q.symm)))
               |(refine Xai rfl rfl 30 _ _ rfl be 0 [.int .i64 y] (.int .i64 y) (by simp [Act.eval]) (by simp [Act.eval]) (by rfl) _ 30 E2.out (by simp) hi3 (by simp [Value.oneCell']) #[.int .i64 y] (by rfl) ?_
                 intro w3 hg3 hr3))
  go_wp2
  go_ret
  exact ⟨rfl,⟨Xaf S2.out hg3 (fun q=>by injection q with q;exact hd2 q.symm),Xaf hr2 hg3 (fun q=>by injection q with q;exact hd3 q.symm),hr3⟩,_,Xb6 hb1 hg2,hg3⟩
 ·rw [Xck _ _ _ hz]
  have k1:(z != 0)=true:=by simpa using hz
  clear hz
  go_enter Tryz.func51,Tryz.ntmps51
  go_wp2
  go_ret
  exact ⟨rfl,hB,_,World.grownBy.refl _ _,World.grownBy.refl _ _⟩
end Go.Proofs.YtdodihnehppnmaaGreatDoor
