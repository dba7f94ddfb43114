/- Lemmas for the claim's theorem;conditions: as each says. -/
import Derived.Test.YtdodihnehppnmaaGreatDoorG22
import Derived.Test.YtdodihnehppnmaaGreatDoorG23
set_option maxHeartbeats 0
set_option maxRecDepth 100000
set_option linter.all false
namespace Go.Proofs.YtdodihnehppnmaaGreatDoor
open Go.RowKit
variable{W:World}{v:Value}{g:Nat}{u:Value}{W':World}{ba be:Nat}{s:ae}{a:Nat}{z:Int}
structure vE {α:Type} (T:Ty α) (E:TypeId) (B:Nat) (J:IH) (W:World) (v:Value) (l:List α):Prop where
 own:aM T E J W B v l
 apart:∀g,v.ownBlock=some g→J g=none
section
variable {α:Type} {T:Ty α} {E:TypeId} {B:Nat} {J J':IH} {W W':World} {v v':Value} {l l':List α}
theorem YB(h:aM T E J W B v l)(hg:v.ownBlock=some g):B≤g∧g<W.heap.size:=by
 obtain⟨xs,h1,_⟩:=h;exact h1.lt g hg
theorem vE.below(h:vE T E B J W v l)(hb:Below W.heap.size W W'):vE T E B J W' v l:=⟨h.own.below hb,h.apart⟩
theorem vE.ext(h:vE T E B J W v l)(hb:Below W.heap.size W W')(hw:Ok J W)(hx:Ext W.heap.size J J'):vE T E B J' W' v l:=
 ⟨(h.own.below hb).mono (hx.keep hw (Qn _)),fun g hg=>(hx g (YB h.own hg).2).trans (h.apart g hg)⟩
theorem vE.kept{row:Option Nat}(h:vE T E B J W v l)(hg:W.grownBy W' row)(cK:∀g,row=some g→v.ownBlock≠some g):vE T E B J W' v l:=
 ⟨h.own.kept hg (by
   cases hv:v.ownBlock with
   |none=>exact .inl rfl
   |some k=>exact .inr (fun e=>cK k e.symm hv)),h.apart⟩
theorem vE.low(h:vE T E B J W v l)(hg:W.grownBy W' (some g))(hlt:g<B):vE T E B J W' v l:=h.kept hg fun k q=>by injection q with q;subst q;exact h.own.dw hlt
theorem vE.added(h:vE T E B J W v l)(gK:Ok J W)(ho:aM T E J W' B v' l')(hl:∀g,v'.ownBlock=some g→v.ownBlock=some g∨W.heap.size≤g):vE T E B J W' v' l':=by
 refine⟨ho,fun g hk=> ?_⟩;rcases hl g hk with h1|h1
 ·exact h.apart g h1
 ·exact gK.fresh h1
end
def Sep(v u:Value):Prop:=∀g,v.ownBlock=some g→u.ownBlock≠some g
theorem Sep.new{β:Type}{U:Ty β}{F:TypeId}{C:Nat}{J:IH}{v':Value}{m:List β}(h:Sep v u)(hu:aM U F J W C u m)(hl:∀g,v'.ownBlock=some g→v.ownBlock=some g∨W.heap.size≤g):Sep v' u:=by
 intro g hg;rcases hl g hg with h1|h1
 ·exact h g h1
 ·exact hu.nA h1
theorem Sep.symm(h:Sep v u):Sep u v:=fun g hg e=>h g e hg
theorem aM.Ba{α:Type}{T:Ty α}{E:TypeId}{I:IH}{w:World}{B:Nat}{l:List α}(h:aM T E I w B v l)(hw:Ok I w)(hI:∀g,v.ownBlock=some g→I g=none):∃I',(∀b c,I b=some c→I' b=some c)∧Ext B I I'∧Ok I' w∧bf T I' v l∧ ∀b,v.ownBlock≠some b→I' b=I b:=by
 obtain⟨xs,⟨h1,EE⟩,h2⟩:=h;rcases EE with⟨rfl,h0⟩|⟨g,cap,cur,rfl,hb,hg,Ob,il,iY,ht⟩
 ·refine⟨I,fun _ _ h=>h,Ext.refl _ _,hw,?_,fun _ _=>rfl⟩;have:l=[]:=List.eq_nil_of_length_eq_zero h0;subst this;exact bf.nil T I
 ·have uE:∀b c,I b=some c→(I.add g cur) b=some c:=fun b c hc=>by
   unfold IH.add;by_cases e:b=g
   ·subst e;rw[hI _ rfl]at hc;cases hc
   ·rw[if_neg e];exact hc
  refine⟨I.add g cur,uE,Ext.add hb I cur,hw.add hg,⟨_,cap,rfl,Ob,il,fun _=>⟨g,0,cur,rfl,by simp[IH.add],fun i hi=> ?_⟩⟩,fun b UH=> ?_⟩
  ·obtain⟨cs,k1,k2⟩:=h2.2 i hi;refine⟨cs,T.mono uE k1,fun j u hu=> ?_⟩;have hx:=k2 j u hu;rw[←ht,List.getElem?_take]at hx;split at hx
   ·rw[Nat.zero_add,←Array.getElem?_toList];exact hx
   ·cases hx
  ·have:b≠g:=fun e=>UH (by simp[Value.ownBlock,e]);simp[IH.add,this]
structure FI (W:World) (bs ba be:Nat) (s:ae) (a:Nat) (z:Int):Prop where
 s0:W.heap[bs]?=some (.cells #[S s] 9 (0,0))
 a0:W.heap[ba]?=some (.cells #[.int .i64 (a:Int)] 3 (0,0))
 e0:W.heap[be]?=some (.cells #[.int .i64 z] 30 (0,0))
theorem FI.aA{bs:Nat}(h:FI W bs ba be s a z)(hb:Below W.heap.size W W'):FI W' bs ba be s a z:=⟨mV h.s0 hb,mV h.a0 hb,mV h.e0 hb⟩
theorem FI.own{bs:Nat}{row:Option Nat}(h:FI W bs ba be s a z)(hg:W.grownBy W' row)(cK:∀g,row=some g→g≠bs∧g≠ba∧g≠be):FI W' bs ba be s a z:=
 ⟨jC h.s0 hg (fun q=>(cK _ q).1 rfl),jC h.a0 hg (fun q=>(cK _ q).2.1 rfl),jC h.e0 hg (fun q=>(cK _ q).2.2 rfl)⟩
def Two(W W':World)(a b:Nat):Prop:=∃wb,W.grownBy wb (some a)∧wb.grownBy W' (some b)
theorem YC(I:IH)(hI:dG I)(s:ae)(hs:s.length≤4294967280)(bs ba be a:Nat)(z:Int)(w:World)(hw:Ok I w)(hB:FI w bs ba be s a z)(ha:a≤4294967280)(hd:bs≠ba∧bs≠be∧ba≠be):
 Calls Tryz.prog 51 #[.pointer (some ⟨be,0,none⟩),.pointer (some ⟨bs,0,none⟩),.pointer (some ⟨ba,0,none⟩)] w fun e w'=>e= .returned (S (mI [] (rdStr s a) a z).1)∧FI w' bs ba be s (mI [] (rdStr s a) a z).2.1 (mI [] (rdStr s a) a z).2.2∧Two w w' ba be:=by
 have Hr:=Qh (fun w hw=>Wz I hI s hs a (by omega) w hw);have HB:=Qh hB;have c0:=cell0 hB.s0;have c1:=cell0 hB.a0;have c2:=cell0 hB.e0;have EL:(Tryz.prog.info? 30).map (·.size)=some 1:=by kernel_rfl
 obtain⟨lM,oP,EI⟩:=hd;by_cases hz:z=0
 ·subst hz;have k1:((0:Int) !=0)=false:=rfl;obtain⟨x,b,y,tF⟩:∃x b y,mI [] (rdStr s a) a 0=(x,b,y):=⟨_,_,_,rfl⟩;have Oh:sV (rdStr s a)= .tuple #[S x,.int .i64 (b:Int),.int .i64 y]:=by
   cases h1:rdStr s a with
   |ok p=>
    obtain⟨x',n'⟩:=p;rw[h1,TN]at tF;injection tF with e1 e2
    injection e2 with e2 e3
    subst e1 e2 e3;exact Tq _ _
   |error c=>
    rw[h1,zP]at tF;injection tF with e1 e2
    injection e2 with e2 e3
    subst e1 e2 e3;exact Tt _
  rw[tF];rw[Oh]at Hr;clear Oh tF hB;go_enter Tryz.func51,Tryz.ntmps51
  go_wp2_with fail
  refine(Hr.O _ hw).mono ?_;rintro e w1 ⟨rfl,au⟩;have gT:=Qh (HB.O.aA au);clear c0 c1 c2
  go_wp2_with (first
               |(refine rz rfl rfl 3 _ _ rfl ba 0 [.int .i64 (b:Int)] (.int .i64 (b:Int)) (by simp[Act.eval]) (by simp[Act.eval]) (by rfl) _ 3 gT.O.a0 (by simp) Fu (by simp[Value.oneCell']) #[.int .i64 (b:Int)] (by rfl) ?_
                 intro w2 hg2 fQ;have E2:=Qh (jC gT.O.e0 hg2 (fun q=>by injection q with q;exact EI q));have S2:=Qh (jC gT.O.s0 hg2 (fun q=>by injection q with q;exact lM q.symm)))
               |(refine rz rfl rfl 30 _ _ rfl be 0 [.int .i64 y] (.int .i64 y) (by simp[Act.eval]) (by simp[Act.eval]) (by rfl) _ 30 E2.O (by simp) EL (by simp[Value.oneCell']) #[.int .i64 y] (by rfl) ?_
                 intro w3 uJ gB))
  go_wp2;go_ret;exact⟨rfl,⟨jC S2.O uJ (fun q=>by injection q with q;exact oP q.symm),jC fQ uJ (fun q=>by injection q with q;exact EI q.symm),gB⟩,_,WC au hg2,uJ⟩
 ·rw[zO _ _ _ hz];have k1:(z !=0)=true:=by simpa using hz
  clear hz;go_enter Tryz.func51,Tryz.ntmps51
  go_wp2;go_ret;exact⟨rfl,hB,_,World.grownBy.refl _ _,World.grownBy.refl _ _⟩
