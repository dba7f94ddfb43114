/- Lemmas for the claim's theorem;conditions: as each says. -/
import Derived.Test.YtegieeommgiknaaGreatDoorU04
import Derived.Lib.AtoiAll
import Derived.Lib.ItoaNum
import Derived.Shelf.Strings.SlTrimAscii
import Derived.Test.YtegieeommgiknaaGreatDoorProg
set_option maxHeartbeats 0
set_option maxRecDepth 100000
set_option linter.all false
namespace Go.Proofs.YtegieeommgiknaaGreatDoor
variable{t:List bD}{p:af}{e:bD}{α:Type}{i:Nat}{d n:Int}{I:IH}{v:Value}{w:World}{T U:List α}{c:Bool}
abbrev oU(x y:bD):Bool:=kZ (els x.aj) (els y.aj)
theorem Nl{x y:bD}(h:oU x y=true):x.aj≠y.aj:=fun e=>Uk h (by rw[e])
theorem Xic(x y:bD):oU x y=true∨x.aj=y.aj∨oU y x=true:=by
 rcases Xl5 (els x.aj) (els y.aj)with h|h|h
 ·exact .inl h
 ·exact .inr (.inl (Xw4 h))
 ·exact .inr (.inr h)
def eP(e:bD):Bool→List bD→List bD→List bD
 |d,out,[]=>if d then out else out++[e]
 |d,out,y::l=>eP e (d || !(oU y e)) ((if !d&& !(oU y e)then out++[e]else out)++(if y.aj==e.aj then []else [y])) l
def gH(t:List bD)(e:bD):List bD:=eP e false [] t
def dh(t:List bD)(e:bD):List bD×Int:=
 if aX e≠0 then([],aX e)
 else if 3<e.av then
  if gu t e.aj=none∧e.aj≠[]then([],9)
  else if e.av=4 then(t.filter fun x=> !(under x.aj e.aj),0)else(t,0)
 else if dX t (qA e.aj)≠0 then([],dX t (qA e.aj))
 else match gu t e.aj with
  |some y=>if(y.av==2) !=(e.av==2)then([],8)else(gH t e,0)
  |none=>if 5000≤t.length then([],6)else(gH t e,0)
theorem Xh6(e:bD)(l:List bD):∀out,eP e true out l=out++l.filter fun y=> !(y.aj==e.aj):=by
 induction l with
 |nil=>intro out;simp[eP]
 |cons y l ih=>
  intro out;rw[eP];simp only[Bool.true_or,Bool.not_true,Bool.false_and,Bool.false_eq_true,if_false];rw[ih,List.filter_cons];cases h:(y.aj==e.aj)<;>simp
theorem Xjk(h:kP t)(e:bD):∃A B,gH t e=A++e::B∧(∀a∈A,a∈t∧oU a e=true)∧(∀b∈B,b∈t∧oU e b=true)∧(∀z∈t,z.aj≠e.aj→z∈A∨z∈B)∧kP A∧kP B:=by
 have key:∀(l:List bD),kP l→ ∀out,∃A B,eP e false out l=out++(A++e::B)∧(∀a∈A,a∈l∧oU a e=true)∧(∀b∈B,b∈l∧oU e b=true)∧(∀z∈l,z.aj≠e.aj→z∈A∨z∈B)∧kP A∧kP B:=by
  intro l;induction l with
  |nil=>intro _ out;exact⟨[],[],by simp[eP],by simp,by simp,by simp,List.Pairwise.nil,List.Pairwise.nil⟩
  |cons y l ih=>
   intro hs out;obtain⟨h1,h2⟩:=List.pairwise_cons.1 hs;rw[eP];cases hb:oU y e
   ·simp only[Bool.not_false,Bool.or_true,Bool.and_self,if_true];rw[Xh6];have jW:∀z∈l,oU e z=true:=by
     intro z hz;rcases Xic e y with k|k|k
     ·exact OX k (h1 z hz)
     ·show kZ (els e.aj) _=true;rw[k];exact h1 z hz
     ·rw[hb]at k;exact absurd k (by simp)
    have hf:(l.filter fun z=> !(z.aj==e.aj))=l:=List.filter_eq_self.2 fun z hz=>by
     have:=(Nl (jW z hz)).symm;simpa using this
    rw[hf];by_cases k:y.aj=e.aj
    ·rw[if_pos (by simpa using k)];refine⟨[],l,by simp,by simp,fun b hb=>⟨List.mem_cons_of_mem _ hb,jW b hb⟩,fun z hz bq=> ?_,List.Pairwise.nil,h2⟩;rcases List.mem_cons.1 hz with rfl|hz
     ·exact absurd k bq
     ·exact .inr hz
    ·have Km:oU e y=true:=by
      rcases Xic e y with h|h|h
      ·exact h
      ·exact absurd h.symm k
      ·rw[h]at hb;exact absurd hb (by simp)
     rw[if_neg (by simpa using k)];refine⟨[],y::l,by simp,by simp,fun b hb=>⟨hb,?_⟩,fun z hz _=> .inr hz,List.Pairwise.nil,hs⟩;rcases List.mem_cons.1 hb with rfl|hb
     ·exact Km
     ·exact jW b hb
   ·have bq:(y.aj==e.aj)=false:=by simpa using Nl hb
    simp only[Bool.not_true,Bool.or_false,Bool.and_false,Bool.false_eq_true,if_false,bq];obtain⟨A,B,q,a1,a2,a3,a4,a5⟩:=ih h2 (out++[y]);refine⟨y::A,B,by rw[q];simp,fun a ha=> ?_,fun b hb=>⟨List.mem_cons_of_mem _ (a2 b hb).1,(a2 b hb).2⟩,fun z hz hzn=> ?_,List.pairwise_cons.2 ⟨fun a ha=>h1 a (a1 a ha).1,a4⟩,a5⟩
    ·rcases List.mem_cons.1 ha with rfl|ha
     ·exact⟨List.mem_cons_self ..,hb⟩
     ·exact⟨List.mem_cons_of_mem _ (a1 a ha).1,(a1 a ha).2⟩
    ·rcases List.mem_cons.1 hz with rfl|hz
     ·exact .inl (List.mem_cons_self ..)
     ·rcases a3 z hz hzn with h|h
      ·exact .inl (List.mem_cons_of_mem _ h)
      ·exact .inr h
 obtain⟨A,B,q,r⟩:=key t h [];exact⟨A,B,q,r⟩
theorem Ux(h:kP t)(e:bD):kP (gH t e):=by
 obtain⟨A,B,q,a1,a2,_,a4,a5⟩:=Xjk h e;rw[q];refine List.pairwise_append.2 ⟨a4,List.pairwise_cons.2 ⟨fun b hb=>(a2 b hb).2,a5⟩,fun a ha b hb=> ?_⟩;rcases List.mem_cons.1 hb with rfl|hb
 ·exact(a1 a ha).2
 ·exact OX (a1 a ha).2 (a2 b hb).2
theorem KW(h:kP t)(e z:bD):z∈gH t e↔z=e∨(z∈t∧z.aj≠e.aj):=by
 obtain⟨A,B,q,a1,a2,a3,_,_⟩:=Xjk h e;rw[q,List.mem_append,List.mem_cons];constructor
 ·rintro(hz|hz|hz)
  ·exact .inr ⟨(a1 z hz).1,Nl (a1 z hz).2⟩
  ·exact .inl hz
  ·exact .inr ⟨(a2 z hz).1,(Nl (a2 z hz).2).symm⟩
 ·rintro(hz|⟨hz,hn⟩)
  ·exact .inr (.inl hz)
  ·rcases a3 z hz hn with h|h
   ·exact .inl h
   ·exact .inr (.inr h)
theorem Xuv(h:kP t)(e:bD):gu (gH t e) e.aj=some e:=XY (Ux h e) ((KW h e e).2 (.inl rfl))
theorem Xob(h:kP t)(e:bD)(hp:p≠e.aj):gu (gH t e) p=gu t p:=by
 cases hg:gu t p with
 |some x=>
  obtain⟨hx,rfl⟩:=Xmg hg;exact XY (Ux h e) ((KW h e x).2 (.inr ⟨hx,hp⟩))
 |none=>
  refine Xsv fun z hz k=> ?_;rcases(KW h e z).1 hz with rfl|⟨hz,_⟩
  ·exact hp k.symm
  ·have:=XY h hz;rw[k,hg]at this;exact absurd this (by simp)
theorem Xur{l:List af}(h:l≠[])(hc:∀p∈l,p≠[]):fT l≠[]:=by
 cases l with
 |nil=>exact absurd rfl h
 |cons p l=>
  cases l with
  |nil=>exact hc p (by simp)
  |cons q l=>rw[Nf p (by simp)];simp
theorem Xw3(h:aW p=0):els (qA p)=(els p).dropLast:=by
 obtain⟨_,_,hc⟩:=Iu h;have hd:∀q∈(els p).dropLast,comp q=true:=fun q hq=>hc q (List.dropLast_subset _ hq);unfold qA;by_cases hn:(els p).dropLast=[]
 ·rw[hn];rfl
 ·exact Xtc (fun q hq=>Xmz (hd q hq)) (Xur hn fun q hq=>Xw9 (hd q hq))
theorem Xt2{d:af}(h:aW p=0)(hu:under (qA p) d=true):under p d=true:=by
 simp only[under,Bool.and_eq_true,decide_eq_true_eq]at hu ⊢;obtain⟨⟨_,h2⟩,h3⟩:=hu;refine⟨⟨h,h2⟩,?_⟩;rw[List.isPrefixOf_iff_prefix]at h3 ⊢;rw[Xw3 h]at h3;exact h3.trans (List.dropLast_prefix _)
theorem JV(h:aX e=0):1≤e.av∧e.av≤6∧aW e.aj=0∧(e.aj=[]→5≤e.av):=by
 unfold aX at h;by_cases h1:e.av<1∨6<e.av
 ·rw[if_pos h1]at h;omega
 rw[if_neg h1]at h;by_cases h2:aW e.aj=0;case neg=>rw[if_pos h2]at h;exact absurd h h2
 rw[if_neg (by omega)]at h;by_cases h3:e.aj=[]∧e.av<5
 ·rw[if_pos h3]at h;omega
 exact⟨by omega,by omega,h2,fun hp=>Int.not_lt.1 fun hk=>h3 ⟨hp,hk⟩⟩
theorem Xms:dX t p=0↔p=[]∨ ∃x,gu t p=some x∧x.av=2:=by
 unfold dX;by_cases h:p=[]
 ·rw[if_pos h];exact⟨fun _=> .inl h,fun _=>rfl⟩
 ·rw[if_neg h];cases hg:gu t p with
  |none=>
   constructor
   ·intro k;simp at k
   ·rintro(k|⟨x,k,_⟩)
    ·exact absurd k h
    ·simp at k
  |some x=>
   show(if x.av≠2 then(10:Int)else 0)=0↔_;by_cases hk:x.av=2
   ·rw[if_neg (by omega)];exact⟨fun _=> .inr ⟨x,rfl,hk⟩,fun _=>rfl⟩
   ·rw[if_pos hk];constructor
    ·intro k;omega
    ·rintro(k|⟨y,k,k'⟩)
     ·exact absurd k h
     ·cases k;exact absurd k' hk
theorem Xsa(h:Ng t)(he:aX e=0)(hk:e.av=1∨e.av=2∨e.av=3)(hu:dX t (qA e.aj)=0)(hs:∀y,gu t e.aj=some y→(y.av=2↔e.av=2)):Ng (gH t e):=by
 obtain⟨_,_,hp,FY⟩:=JV he;have bq:e.aj≠[]:=fun k=>by have:=FY k;omega
 refine⟨fun z hz=> ?_,fun z hz=> ?_,Ux h.Ir e,fun z hz=> ?_⟩
 ·rcases(KW h.Ir e z).1 hz with rfl|⟨hz,_⟩
  ·exact he
  ·exact h.OY z hz
 ·rcases(KW h.Ir e z).1 hz with rfl|⟨hz,_⟩
  ·exact hk
  ·exact h.av z hz
 ·have WM:dX t (qA z.aj)=0:=by
   rcases(KW h.Ir e z).1 hz with rfl|⟨hz,_⟩
   ·exact hu
   ·exact h.up z hz
  rw[Xms]at WM ⊢;rcases WM with k|⟨x,k,k'⟩
  ·exact .inl k
  ·by_cases q:qA z.aj=e.aj
   ·refine .inr ⟨e,by rw[q];exact Xuv h.Ir e,?_⟩;rw[q]at k;exact(hs x k).1 k'
   ·exact .inr ⟨x,by rw[Xob h.Ir e q];exact k,k'⟩
theorem Xw5(h:Ng t)(d:af):Ng (t.filter fun x=> !(under x.aj d)):=by
 have hm:∀z,z∈(t.filter fun x=> !(under x.aj d))↔z∈t∧under z.aj d=false:=fun z=>by simp[List.mem_filter]
 have hs:kP (t.filter fun x=> !(under x.aj d)):=List.Pairwise.filter _ h.Ir;refine⟨fun z hz=>h.OY z ((hm z).1 hz).1,fun z hz=>h.av z ((hm z).1 hz).1,hs,fun z hz=> ?_⟩;obtain⟨qL,wX⟩:=(hm z).1 hz;have hp:=(JV (h.OY z qL)).2.2.1;have WM:=h.up z qL;rw[Xms]at WM ⊢;rcases WM with k|⟨x,k,k'⟩
 ·exact .inl k
 ·obtain⟨hx,Ea⟩:=Xmg k;refine .inr ⟨x,?_,k'⟩;rw[←Ea];refine XY hs ((hm x).2 ⟨hx,?_⟩);cases q:under x.aj d with
  |false=>rfl
  |true=>
   rw[Ea]at q;rw[Xt2 hp q]at wX;exact absurd wX (by simp)
theorem Xtr{t':List bD}(h:Ng t)(ha:dh t e=(t',0)):Ng t':=by
 unfold dh at ha;by_cases h0:aX e=0;case neg=>rw[if_pos h0]at ha;exact absurd (Prod.mk.inj ha).2 h0
 rw[if_neg (by omega)]at ha;have hk:=JV h0;by_cases h1:3<e.av
 ·rw[if_pos h1]at ha;by_cases h2:gu t e.aj=none∧e.aj≠[]
  ·rw[if_pos h2]at ha;simp at ha
  ·rw[if_neg h2]at ha;by_cases h3:e.av=4
   ·rw[if_pos h3]at ha;rw[←(Prod.mk.inj ha).1];exact Xw5 h _
   ·rw[if_neg h3]at ha;rw[←(Prod.mk.inj ha).1];exact h
 ·rw[if_neg h1]at ha;by_cases h2:dX t (qA e.aj)=0;case neg=>rw[if_pos h2]at ha;exact absurd (Prod.mk.inj ha).2 h2
  rw[if_neg (by omega)]at ha;cases hg:gu t e.aj with
  |none=>
   rw[hg]at ha;change (if 5000≤t.length then(([]:List bD),(6:Int))else(gH t e,0))=_ at ha;by_cases h3:5000≤t.length
   ·rw[if_pos h3]at ha;simp at ha
   ·rw[if_neg h3]at ha;rw[←(Prod.mk.inj ha).1];exact Xsa h h0 (by omega) h2 fun y hy=>by rw[hg]at hy;cases hy
  |some y=>
   rw[hg]at ha;change (if((y.av==2) !=(e.av==2))=true then(([]:List bD),(8:Int))else(gH t e,0))=_ at ha;by_cases h3:((y.av==2) !=(e.av==2))=true
   ·rw[if_pos h3]at ha;simp at ha
   ·rw[if_neg h3]at ha;rw[←(Prod.mk.inj ha).1];refine Xsa h h0 (by omega) h2 fun z hz=> ?_;rw[hg]at hz;cases hz;have h4:(y.av==2)=(e.av==2):=by simpa using h3
    constructor
    ·intro k;rw[k]at h4;simpa using h4.symm
    ·intro k;rw[k]at h4;simpa using h4
def Nn(t:List bD)(e:bD):List bD:=if 3<e.av then(if e.av=4 then t.filter fun x=> !(under x.aj e.aj)else t)else gH t e
structure Uy (t:List bD) (e:bD):Prop where
 OY:aX e=0
 there:3<e.av→ ¬(gu t e.aj=none∧e.aj≠[])
 up:e.av≤3→dX t (qA e.aj)=0
 like:e.av≤3→ ∀y,gu t e.aj=some y→(y.av==2)=(e.av==2)
 room:e.av≤3→gu t e.aj=none→t.length<5000
theorem tK{a:List bD}:dh t e=(a,0)↔Uy t e∧a=Nn t e:=by
 unfold dh Nn;by_cases h0:aX e=0;case neg=>
  rw[if_pos h0];exact⟨fun h=>absurd (Prod.mk.inj h).2 h0,fun h=>absurd h.1.OY h0⟩
 rw[if_neg (by omega)];by_cases h1:3<e.av
 ·rw[if_pos h1,if_pos h1];by_cases h2:gu t e.aj=none∧e.aj≠[]
  ·rw[if_pos h2];exact⟨fun h=>absurd (Prod.mk.inj h).2 (by decide),fun h=>absurd h2 (h.1.there h1)⟩
  ·rw[if_neg h2];have hp:Uy t e:=⟨h0,fun _=>h2,fun k=>by omega,fun k=>by omega,fun k=>by omega⟩;by_cases h3:e.av=4
   ·rw[if_pos h3,if_pos h3];exact⟨fun h=>⟨hp,(Prod.mk.inj h).1.symm⟩,fun h=>by rw[h.2]⟩
   ·rw[if_neg h3,if_neg h3];exact⟨fun h=>⟨hp,(Prod.mk.inj h).1.symm⟩,fun h=>by rw[h.2]⟩
 ·rw[if_neg h1,if_neg h1];by_cases h2:dX t (qA e.aj)=0;case neg=>
   rw[if_pos h2];exact⟨fun h=>absurd (Prod.mk.inj h).2 h2,fun h=>absurd (h.1.up (by omega)) h2⟩
  rw[if_neg (by omega)];cases hg:gu t e.aj with
  |none=>
   show(if 5000≤t.length then(([]:List bD),(6:Int))else(gH t e,0))=(a,0)↔_;by_cases h3:5000≤t.length
   ·rw[if_pos h3];exact⟨fun h=>absurd (Prod.mk.inj h).2 (by decide),fun h=>absurd (h.1.room (by omega) hg) (by omega)⟩
   ·rw[if_neg h3];exact⟨fun h=>⟨⟨h0,fun k=>absurd k h1,fun _=>h2,fun _ y hy=>(by rw[hg]at hy;cases hy),fun _ _=>(by omega)⟩,(Prod.mk.inj h).1.symm⟩,fun h=>by rw[h.2]⟩
  |some y=>
   show(if((y.av==2) !=(e.av==2))=true then(([]:List bD),(8:Int))else(gH t e,0))=(a,0)↔_;by_cases h3:((y.av==2) !=(e.av==2))=true
   ·rw[if_pos h3];refine⟨fun h=>absurd (Prod.mk.inj h).2 (by decide),fun h=> ?_⟩;have:=h.1.like (by omega) y hg;rw[this]at h3;simp at h3
   ·rw[if_neg h3];exact⟨fun h=>⟨⟨h0,fun k=>absurd k h1,fun _=>h2,fun _ z hz=>(by rw[hg]at hz;cases hz;simpa using h3),fun _ hn=>(by rw[hg]at hn;cases hn)⟩,(Prod.mk.inj h).1.symm⟩,fun h=>by rw[h.2]⟩
def Np(e z:bD):Prop:=(e.av≤3→z.aj≠e.aj)∧(e.av=4→under z.aj e.aj=false)
theorem Xwx(h:kP t)(e z:bD):z∈Nn t e↔(e.av≤3∧z=e)∨(z∈t∧Np e z):=by
 unfold Nn Np;by_cases h1:3<e.av
 ·rw[if_pos h1];by_cases h2:e.av=4
  ·rw[if_pos h2,List.mem_filter];constructor
   ·rintro⟨a,b⟩;exact .inr ⟨a,fun k=>by omega,fun _=>by simpa using b⟩
   ·rintro(⟨k,_⟩|⟨a,_,b⟩)
    ·omega
    ·exact⟨a,by simpa using b h2⟩
  ·rw[if_neg h2];constructor
   ·intro a;exact .inr ⟨a,fun k=>by omega,fun k=>absurd k h2⟩
   ·rintro(⟨k,_⟩|⟨a,_⟩)
    ·omega
    ·exact a
 ·rw[if_neg h1,KW h];constructor
  ·rintro(k|⟨a,b⟩)
   ·exact .inl ⟨by omega,k⟩
   ·exact .inr ⟨a,fun _=>b,fun k=>by omega⟩
  ·rintro(⟨_,k⟩|⟨a,b,_⟩)
   ·exact .inl k
   ·exact .inr ⟨a,b (by omega)⟩
theorem Xuh(t:List bD)(e:bD):(gH t e).length≤t.length+1:=by
 have:∀(l out:List bD) (d:Bool),(eP e d out l).length≤out.length+l.length+1:=by
  intro l;induction l with
  |nil=>intro out d;cases d<;>simp[eP]
  |cons y l ih=>
   intro out d;rw[eP];cases hc:(!d&& !(oU y e))
   ·refine Nat.le_trans (ih _ _) ?_;cases h:(y.aj==e.aj)<;>simp<;>omega
   ·have hd:(d || !(oU y e))=true:=by
     simp only[Bool.and_eq_true]at hc;rw[hc.2];simp
    rw[hd,Xh6];have:=List.length_filter_le (fun y:bD=> !(y.aj==e.aj)) l;cases h:(y.aj==e.aj)<;>simp<;>omega
 simpa[gH]using this t [] false
theorem Xwy(t:List bD)(e:bD):(Nn t e).length≤t.length+1:=by
 unfold Nn;by_cases h1:3<e.av
 ·rw[if_pos h1];by_cases h2:e.av=4
  ·rw[if_pos h2];exact Nat.le_trans (List.length_filter_le _ _) (Nat.le_succ _)
  ·rw[if_neg h2];exact Nat.le_succ _
 ·rw[if_neg h1];exact Xuh t e
def bs(p:Nat→Bool)(lo hi:Nat):Nat:=
 if h:lo<hi then(if p ((lo+hi) / 2)then bs p lo ((lo+hi) / 2)else bs p ((lo+hi) / 2+1) hi)else lo
termination_by hi-lo
decreasing_by all_goals omega
theorem Yh(p:Nat→Bool)(lo hi:Nat)(h:lo≤hi):lo≤bs p lo hi∧bs p lo hi≤hi:=by
 induction lo,hi using bs.induct p with
 |case1 lo hi hlt hp ih=>rw[bs,dif_pos hlt,if_pos hp];have:=ih (by omega);omega
 |case2 lo hi hlt hp ih=>rw[bs,dif_pos hlt,if_neg hp];have:=ih (by omega);omega
 |case3 lo hi hlt=>rw[bs,dif_neg hlt];omega
theorem Xxg(p:Nat→Bool)(lo hi:Nat)(h:lo≤hi):(lo<bs p lo hi→p (bs p lo hi-1)=false)∧(bs p lo hi<hi→p (bs p lo hi)=true):=by
 induction lo,hi using bs.induct p with
 |case1 lo hi hlt hp ih=>
  rw[bs,dif_pos hlt,if_pos hp];have h1:=ih (by omega);refine⟨h1.1,fun h2=> ?_⟩;by_cases h3:bs p lo ((lo+hi) / 2)<(lo+hi) / 2
  ·exact h1.2 h3
  ·have:=Yh p lo ((lo+hi) / 2) (by omega);rw[show bs p lo ((lo+hi) / 2)=(lo+hi) / 2 by omega];exact hp
 |case2 lo hi hlt hp ih=>
  rw[bs,dif_pos hlt,if_neg hp];have h1:=ih (by omega);refine⟨fun h2=> ?_,h1.2⟩;by_cases h3:(lo+hi) / 2+1<bs p ((lo+hi) / 2+1) hi
  ·exact h1.1 h3
  ·have:=Yh p ((lo+hi) / 2+1) hi (by omega);rw[show bs p ((lo+hi) / 2+1) hi-1=(lo+hi) / 2 by omega];simpa using hp
 |case3 lo hi hlt=>rw[bs,dif_neg hlt];exact⟨fun h=>by omega,fun h=>by omega⟩
theorem Xug(h:kP t)(e:bD)(hi:i<t.length)(hp:t[i].aj=e.aj):gH t e=t.set i e:=by
 have ul:∀(a:bD),oU a e=oU a t[i]:=fun a=>by unfold oU;rw[hp]
 have ae0:∀(a:bD),oU e a=oU t[i] a:=fun a=>by unfold oU;rw[hp]
 have Oa:=List.pairwise_iff_getElem.1 h;have QR:kP (t.set i e):=by
  refine List.pairwise_iff_getElem.2 fun a b ha hb hab=> ?_;rw[List.length_set]at ha hb;have h0:=Oa a b ha hb hab;rw[List.getElem_set,List.getElem_set];by_cases h1:i=a
  ·subst h1;rw[if_pos rfl,if_neg (by omega)];show oU e t[b]=true;rw[ae0];exact h0
  ·rw[if_neg h1];by_cases h2:i=b
   ·subst h2;rw[if_pos rfl];show oU t[a] e=true;rw[ul];exact h0
   ·rw[if_neg h2];exact h0
 refine kP.ext (Ux h e) QR fun z=> ?_;rw[KW h];constructor
 ·rintro(rfl|⟨hz,bq⟩)
  ·exact List.mem_set hi _
  ·obtain⟨j,hj,rfl⟩:=List.getElem_of_mem hz;have SY:i≠j:=fun e2=>bq (by subst e2;exact hp);have:(t.set i e)[j]'(by rw[List.length_set];exact hj)=t[j]:=List.getElem_set_ne SY _;rw[←this];exact List.getElem_mem _
 ·intro hz;obtain⟨j,hj,rfl⟩:=List.getElem_of_mem hz;rw[List.length_set]at hj;rw[List.getElem_set];by_cases SY:i=j
  ·rw[if_pos SY];exact .inl rfl
  ·rw[if_neg SY];refine .inr ⟨List.getElem_mem _,fun he=> ?_⟩;have bq:t[j].aj≠t[i].aj:=by
    rcases Nat.lt_or_gt_of_ne SY with h1|h1
    ·exact(Nl (Oa i j hi hj h1)).symm
    ·exact Nl (Oa j i hj hi h1)
   exact bq (he.trans hp.symm)
theorem Xui(h:kP t)(e:bD)(hi:i≤t.length)(hl:∀k (hk:k<t.length),k<i→oU t[k] e=true)(hg:∀k (hk:k<t.length),i≤k→oU e t[k]=true):gH t e=t.take i++e::t.drop i:=by
 have Oa:=List.pairwise_iff_getElem.1 h;have QR:kP (t.take i++e::t.drop i):=by
  refine List.pairwise_append.2 ⟨List.Pairwise.sublist (List.take_sublist _ _) h,List.pairwise_cons.2 ⟨fun b hb=> ?_,List.Pairwise.sublist (List.drop_sublist _ _) h⟩,fun a ha b hb=> ?_⟩
  ·obtain⟨j,hj,rfl⟩:=List.getElem_of_mem hb;rw[List.getElem_drop];exact hg _ (by simp at hj;omega) (by omega)
  ·obtain⟨j,hj,rfl⟩:=List.getElem_of_mem ha;have Mh:j<i∧j<t.length:=by simp at hj;omega
   rw[List.getElem_take];rcases List.mem_cons.1 hb with rfl|hb
   ·exact hl j Mh.2 Mh.1
   ·obtain⟨q,hq,rfl⟩:=List.getElem_of_mem hb;rw[List.getElem_drop];exact Oa j (i+q) Mh.2 (by simp at hq;omega) (by omega)
 refine kP.ext (Ux h e) QR fun z=> ?_;rw[KW h,List.mem_append,List.mem_cons];constructor
 ·rintro(rfl|⟨hz,bq⟩)
  ·exact .inr (.inl rfl)
  ·rw[←List.take_append_drop i t,List.mem_append]at hz;rcases hz with hz|hz
   ·exact .inl hz
   ·exact .inr (.inr hz)
 ·rintro(hz|rfl|hz)
  ·obtain⟨j,hj,rfl⟩:=List.getElem_of_mem hz;have Mh:j<i∧j<t.length:=by simp at hj;omega
   rw[List.getElem_take];exact .inr ⟨List.getElem_mem _,Nl (hl j Mh.2 Mh.1)⟩
  ·exact .inl rfl
  ·obtain⟨j,hj,rfl⟩:=List.getElem_of_mem hz;rw[List.getElem_drop];exact .inr ⟨List.getElem_mem _,(Nl (hg (i+j) (by simp at hj;omega) (by omega))).symm⟩
def iP(t:List bD)(p:af)(i:Nat):Bool:=match t[i]? with|some x=> !(kZ (els x.aj) (els p))|none=>true
theorem Xww(h:kP t)(e:bD)(hn:∀x∈t,x.aj≠e.aj):gH t e=t.take (bs (iP t e.aj) 0 t.length)++e::t.drop (bs (iP t e.aj) 0 t.length):=by
 have ul:=Yh (iP t e.aj) 0 t.length (Nat.zero_le _);have hsp:=Xxg (iP t e.aj) 0 t.length (Nat.zero_le _);generalize bs (iP t e.aj) 0 t.length=i at ul hsp;have Oa:=List.pairwise_iff_getElem.1 h;refine Xui h e ul.2 (fun k hk hki=> ?_) (fun k hk hik=> ?_)
 ·have h1:=hsp.1 (by omega);rw[iP,List.getElem?_eq_getElem (by omega)]at h1;have h2:oU (t[i-1]'(by omega)) e=true:=by simpa using h1
  by_cases uV:k=i-1
  ·subst uV;exact h2
  ·exact OX (Oa k (i-1) hk (by omega) (by omega)) h2
 ·have h1:=hsp.2 (by omega);rw[iP,List.getElem?_eq_getElem (by omega)]at h1;have h2:oU (t[i]'(by omega)) e=false:=by simpa using h1
  have h3:oU e (t[i]'(by omega))=true:=by
   rcases Xic e (t[i]'(by omega))with h3|h3|h3
   ·exact h3
   ·exact absurd h3.symm (hn _ (List.getElem_mem _))
   ·rw[h2]at h3;exact absurd h3 (by simp)
  by_cases uV:k=i
  ·subst uV;exact h3
  ·exact OX h3 (Oa i k (by omega) hk (by omega))
structure Ho where
 p:af
 u:Int
 deriving DecidableEq
variable{l m:List Ho}
def bY(l:List Ho)(d:Int):List Ho:=l.filter fun h=>decide (d≤h.u)
def ig(l:List Ho)(p:af)(d:Int):Bool:=(bY l d).any fun h=>under p h.p
def lh(l:List Ho)(p:af)(d:Int):Bool:=(bY l d).any fun h=>under h.p p
def kE(l:List Ho)(k:Int)(p:af)(d:Int):Int:=
 if k=1∨k=2∨k=3 then(if ig l p d then 15 else 0)else if k=4 then(if ig l p d || lh l p d then 15 else 0)else 0
def jh(l:List Ho)(p:af):List Ho:=l.filter fun h=> !(h.p==p)
def kF(h:Ho):List Ho→List Ho
 | []=> [h]
 |x::l=>if kZ (els h.p) (els x.p)then h::x::l else x::kF h l
def iT(p:af):List Ho→Int→Int
 | [],u=>u
 |h::l,u=>iT p l (if h.p=p then max u h.u else u)
def zO(l:List Ho)(p:af):Bool:=l.any fun h=>h.p==p
def appH(l:List Ho)(e:bD)(d:Int):List Ho×Int:=
 if e.av=5 then(kF ⟨e.aj,iT e.aj (bY l d) (digits e.target)⟩ (jh (bY l d) e.aj),0)
 else if e.av=6 then(if zO (bY l d) e.aj then(jh (bY l d) e.aj,0)else([],9))
 else(bY l d,0)
structure yf (l:List Ho):Prop where
 ne:l.Pairwise fun a b=>a.p≠b.p
 u0:∀h∈l,0≤h.u
 u1:∀h∈l,h.u≤1000000000
 aj:∀h∈l,aW h.p=0
theorem Xsq:yf []:=⟨List.Pairwise.nil,fun _ h=>(by cases h),fun _ h=>(by cases h),fun _ h=>(by cases h)⟩
theorem yf.sub(h:yf l)(hs:m.Sublist l):yf m:=⟨h.ne.sublist hs,fun x hx=>h.u0 x (hs.subset hx),fun x hx=>h.u1 x (hs.subset hx),fun x hx=>h.aj x (hs.subset hx)⟩
theorem yf.act(h:yf l)(d:Int):yf (bY l d):=h.sub List.filter_sublist
theorem yf.rest(h:yf l)(p:af):yf (jh l p):=h.sub List.filter_sublist
theorem Uz(h:Ho):∀{l:List Ho} {x:Ho},x∈kF h l↔x=h∨x∈l
 | [],x=>by simp[kF]
 |y::l,x=>by
  rw[kF];split
  ·rw[List.mem_cons]
  ·rw[List.mem_cons,Uz h,List.mem_cons];constructor
   ·rintro(k|k|k)
    ·exact .inr (.inl k)
    ·exact .inl k
    ·exact .inr (.inr k)
   ·rintro(k|k|k)
    ·exact .inr (.inl k)
    ·exact .inl k
    ·exact .inr (.inr k)
theorem Xpd(h:Ho):∀l:List Ho,(kF h l).length=l.length+1
 | []=>rfl
 |y::l=>by
  rw[kF];split
  ·rfl
  ·rw[List.length_cons,Xpd h l,List.length_cons]
theorem Xsp{h:Ho}:∀{l:List Ho},l.Pairwise (fun a b=>a.p≠b.p)→(∀x∈l,x.p≠h.p)→(kF h l).Pairwise fun a b=>a.p≠b.p
 | [],_,_=>List.pairwise_singleton _ _
 |y::l,hl,hn=>by
  rw[kF];obtain⟨h1,h2⟩:=List.pairwise_cons.1 hl;split
  ·exact List.pairwise_cons.2 ⟨fun x hx k=>hn x hx k.symm,hl⟩
  ·refine List.pairwise_cons.2 ⟨fun x hx=> ?_,Xsp h2 fun x hx=>hn x (List.mem_cons_of_mem _ hx)⟩;rcases(Uz h).1 hx with rfl|hx
   ·exact hn y (List.mem_cons_self ..)
   ·exact h1 x hx
theorem Xuc:∀x∈jh l p,x.p≠p:=fun x hx k=>by
 have:=(List.mem_filter.1 hx).2;rw[k]at this;simp at this
theorem Xho(p:af):∀(l:List Ho) (u:Int),(∀h∈l,0≤h.u∧h.u≤1000000000)→0≤u→u≤1000000000→0≤iT p l u∧iT p l u≤1000000000
 | [],u,_,h0,h1=>⟨h0,h1⟩
 |h::l,u,hl,h0,h1=>by
  have hh:=hl h (List.mem_cons_self ..);have hr:=fun x hx=>hl x (List.mem_cons_of_mem _ hx);rw[iT];split
  ·exact Xho p l _ hr (by omega) (by omega)
  ·exact Xho p l _ hr h0 h1
theorem Yi{s:af}(h:il s=true):0≤digits s∧digits s≤1000000000:=by
 unfold il at h;simp only[Bool.and_eq_true,decide_eq_true_eq]at h;refine⟨?_,h.2⟩;have h0:=h.1.2;unfold digits;have key:∀(l:af) (a:Int),0≤a→(l.all fun c=>decide (48≤c)&&decide (c≤57))=true→0≤l.foldl (fun(n:Int) c=>10*n+((c.toNat:Int)-48)) a:=by
  intro l;induction l with
  |nil=>intro a ha _;exact ha
  |cons c l ih=>
   intro a ha hl;rw[List.all_cons,Bool.and_eq_true]at hl;rw[List.foldl_cons];have h48:(48:UInt8)≤c:=by
    have:=hl.1;simp only[Bool.and_eq_true,decide_eq_true_eq]at this;exact this.1
   have asQ:48≤c.toNat:=h48;exact ih _ (by omega) hl.2
 exact key s 0 (by omega) h0
theorem Xik(he:aX e=0)(hk:e.av=5):il e.target=true:=by
 unfold aX at he;rw[if_neg (by omega)]at he;by_cases h1:aW e.aj≠0
 ·rw[if_pos h1]at he;exact absurd he h1
 rw[if_neg h1]at he;split at he
 ·omega
 by_cases h2:oP e.ag≠0
 ·rw[if_pos h2]at he;exact absurd he h2
 rw[if_neg h2]at he;split at he
 ·omega
 rename_i h3;have ht:dx e=true:=by
  cases hh:dx e with
  |true=>rfl
  |false=>exact absurd (.inr hh) h3
 unfold dx at ht;rw[if_neg (by omega),if_pos hk]at ht;exact ht
theorem Xxn(h:yf l)(he:aX e=0)(ha:appH l e d=(m,n)):yf m:=by
 unfold appH at ha;by_cases h5:e.av=5
 ·rw[if_pos h5]at ha;obtain⟨rfl,rfl⟩:=Prod.mk.inj ha;have hr:=(h.act d).rest e.aj;have hd:=Yi (Xik he h5);have hu:=Xho e.aj (bY l d) (digits e.target) (fun x hx=>⟨(h.act d).u0 x hx,(h.act d).u1 x hx⟩) hd.1 hd.2;refine⟨Xsp hr.ne fun x hx=>Xuc x hx,fun x hx=> ?_,fun x hx=> ?_,fun x hx=> ?_⟩
  ·rcases(Uz _).1 hx with rfl|hx
   ·exact hu.1
   ·exact hr.u0 x hx
  ·rcases(Uz _).1 hx with rfl|hx
   ·exact hu.2
   ·exact hr.u1 x hx
  ·rcases(Uz _).1 hx with rfl|hx
   ·exact(JV he).2.2.1
   ·exact hr.aj x hx
 ·rw[if_neg h5]at ha;split at ha
  ·split at ha
   ·obtain⟨rfl,rfl⟩:=Prod.mk.inj ha;exact(h.act d).rest e.aj
   ·obtain⟨rfl,rfl⟩:=Prod.mk.inj ha;exact Xsq
  ·obtain⟨rfl,rfl⟩:=Prod.mk.inj ha;exact h.act d
theorem Xvi(ha:appH l e d=(m,n)):m.length≤l.length+1:=by
 have h1:(bY l d).length≤l.length:=List.length_filter_le _ _;have h2:∀p,(jh (bY l d) p).length≤(bY l d).length:=fun p=>List.length_filter_le _ _;have h3:=h2 e.aj;unfold appH at ha;split at ha
 ·obtain⟨rfl,rfl⟩:=Prod.mk.inj ha;rw[Xpd];omega
 ·split at ha
  ·split at ha
   ·obtain⟨rfl,rfl⟩:=Prod.mk.inj ha;omega
   ·obtain⟨rfl,rfl⟩:=Prod.mk.inj ha;simp
  ·obtain⟨rfl,rfl⟩:=Prod.mk.inj ha;omega
def oG(p:af):List Ho→Int→Int
 | [],u=>u
 |h::l,u=>oG p l (if h.p=p then h.u else u)
theorem Xhm:∀{l:List Ho} {u:Int},(∀x∈l,x.p≠p)→oG p l u=u
 | [],_,_=>rfl
 |h::l,u,hn=>by
  rw[oG,if_neg (hn h (List.mem_cons_self ..))];exact Xhm fun x hx=>hn x (List.mem_cons_of_mem _ hx)
theorem Xhn:∀{l:List Ho} {u:Int},(∀x∈l,x.p≠p)→iT p l u=u
 | [],_,_=>rfl
 |h::l,u,hn=>by
  rw[iT,if_neg (hn h (List.mem_cons_self ..))];exact Xhn fun x hx=>hn x (List.mem_cons_of_mem _ hx)
theorem Xlb:∀{l:List Ho} {u:Int},yf l→0≤u→(if u<oG p l (-1)then oG p l (-1)else u)=iT p l u
 | [],u,_,h0=>by rw[oG,iT,if_neg (by omega)]
 |h::l,u,hk,h0=>by
  obtain⟨h1,h2⟩:=List.pairwise_cons.1 hk.ne;by_cases hp:h.p=p
  ·have hn:∀x∈l,x.p≠p:=fun x hx k=>h1 x hx (by rw[hp,k]);rw[oG,iT,if_pos hp,if_pos hp,Xhm hn,Xhn hn];split<;>omega
  ·rw[oG,iT,if_neg hp,if_neg hp];exact Xlb (hk.sub (List.sublist_cons_self _ _)) h0
theorem Xrd:∀{l:List Ho},yf l→(decide (oG p l (-1)<0))=!(zO l p)
 | [],_=>by rw[oG];rfl
 |h::l,hk=>by
  obtain⟨h1,h2⟩:=List.pairwise_cons.1 hk.ne;by_cases hp:h.p=p
  ·have hn:∀x∈l,x.p≠p:=fun x hx k=>h1 x hx (by rw[hp,k]);have h0:=hk.u0 h (List.mem_cons_self ..);rw[oG,if_pos hp,Xhm hn,Qf (by omega)];simp[zO,hp]
  ·rw[oG,if_neg hp,Xrd (hk.sub (List.sublist_cons_self _ _))];simp[zO,hp]
theorem Bz:((jh l p).length=l.length)↔zO l p=false:=by
 unfold jh zO;rw[List.length_filter_eq_length_iff,List.any_eq_false];constructor
 ·intro h x hx;have:=h x hx;simpa using this
 ·intro h x hx;have:=h x hx;simpa using this
open Go.RowKit
def ku:Ty Ho:=Ty.flat 2 (fun x=> [S x.p,.int .i64 x.u]) (fun _=>rfl) (fun _ u h=>by simp at h;rcases h with rfl|rfl<;>rfl)
theorem yu(h:aZ ku I v l)(hw:Ok I w)(i:Nat)(hi:i<l.length):∃x b off cap,l[i]=x∧v= .slice (some ⟨b,off,none⟩) l.length cap∧
 w.cell? ⟨b,off+i*2,none⟩=some (S x.p)∧w.cell? ⟨b,off+i*2+1,none⟩=some (.int .i64 x.u):=by
 obtain⟨b,off,cap,cs,hv,jf,hc⟩:=h.at_ hw hi;have lv:cs=[S l[i].p,.int .i64 l[i].u]:=jf;subst lv;exact⟨_,b,off,cap,rfl,hv,hc 0 _ rfl,hc 1 _ rfl⟩
theorem Yj:(Tryz.prog.info? 106).map (fun i=>(i.zero,i.size,i.bytes))=some (some (.agg #[.string ⟨#[]⟩,.int .i64 0]),2,24):=by kernel_rfl
theorem EE:eZ Tryz.prog 44 106 ku 24:=eZ.of Tryz.underlying44 Yj rfl (by decide) rfl
abbrev O7(x:Ho):Value:= .agg #[S x.p,.int .i64 x.u]
def vZ(g:Nat)(cb:Array Value)(l:List Ho)(p:Ho→Bool)(C:World→Prop):Prop:=
 ∀x∈l,∀W:World,C W→Calls Tryz.prog g (#[O7 x]++cb) W fun e w'=>e= .returned (.bool (p x))∧Below W.heap.size W w'
theorem Xgq(f:Ho→Bool){a:List Ho}{k:Nat}(hk:k<a.length){x:Ho}(hx:a[k]=x):(a.take (k+1)).filter f=(a.take k).filter f++(if f x=true then [x]else []):=by
 rw[List.take_succ_eq_append_getElem hk,hx,List.filter_append];cases h:f x<;>simp[h]
theorem Xkj{p:α}(h:T=U++(if c=true then [p]else []))(hc:c=true):T=U++[p]:=by rw[h,if_pos hc]
theorem Xn7{p:α}(h:T=U++(if c=true then [p]else []))(hc:c=false):T=U:=by rw[h,hc,if_neg (by simp),List.append_nil]
theorem aQ.wh{T:Ty α}{E:TypeId}{B:Nat}{l l':List α}(h:aQ T E I w B v l)(e:l=l'):aQ T E I w B v l':=e▸h
theorem UA(I:IH)(v:Value)(l:List Ho)(hv:aZ ku I v l)(hn:l.length≤100000)(g:Nat)(cb:Array Value)(p:Ho→Bool)(w:World)(hw:Ok I w)(eg:∀args w,(callFunc g args).run Tryz.prog w= .ok (.enter g args) w)(hp:vZ g cb l p (Below w.heap.size w)):
 Calls Tryz.prog 53 #[v,.func (.func g) #[] cb] w fun e w'=> ∃v',e= .returned v'∧aQ ku 106 I w' w.heap.size v' (l.filter p)∧Below w.heap.size w w':=by
 obtain⟨ao,cap,rfl,fu,iv,_⟩:=id hv;have Hv:=Qh hv;clear hv;have Hp:=Qh hp;clear hp;go_enter Tryz.func53,Tryz.ntmps53
 go_wp2_with fail
 go_loopw [5,10] (fun s5 s10 wr=> ∃k:Nat,k≤l.length∧s10= .int .i64 k∧aQ ku 106 I wr w.heap.size s5 ((l.take k).filter p)∧Below w.heap.size w wr) (fun _ i _=>l.length-(intOf i).toNat)
 case atStart=>exact⟨0,Nat.zero_le _,rfl,aQ.nil _ _ _ _ _,Qb _ _⟩
 case round=>
  obtain⟨k,hk,rfl,bU,hb⟩:=hrel;have di:=Qh bU;clear bU;have eX:Ok I wr:=hw.below (Qn _) hb;have pI:((l.take k).filter p).length≤k:=Nat.le_trans (List.length_filter_le _ _) (by simp;omega);by_cases hlt:k<l.length
  ·obtain⟨x,b,off,cap',cB,dC,c0,c1⟩:=yu Hv.O eX k hlt;cases dC;have bI:=Qh (Xgq p hlt cB);have oQ:=Qh (Hp.O x (by rw[←cB];exact List.getElem_mem hlt) (wr.alloc (.cells #[S x.p,.int .i64 x.u] 106)) (hb.alloc hb.size _));clear cB;go_wp2_with fail
   refine oQ.O.mono ?_;rintro e w1 ⟨rfl,aG⟩;have x0:=aV aG (show(wr.alloc (.cells #[S x.p,.int .i64 x.u] 106)).cell? ⟨wr.heap.size,0,none⟩=some (S x.p) by simp);have x1:=aV aG (show(wr.alloc (.cells #[S x.p,.int .i64 x.u] 106)).cell? ⟨wr.heap.size,1,none⟩=some (.int .i64 x.u) by simp);have aM:=(hb.alloc hb.size (.cells #[S x.p,.int .i64 x.u] 106)).trans (aG.mono (by have:=hb.size;simp;omega));have oV:=Qh ((di.O.alloc (.cells #[S x.p,.int .i64 x.u] 106)).below aG);have uX:=aM.size;clear aG oQ c0 c1 di;cases hpx:p x
   ·have Hn:=Qh (Xn7 bI.O hpx);clear hpx;go_wp2;go_roundw;case rel=>exact⟨k+1,by omega,by go_num,oV.O.wh Hn.O.symm,aM⟩
    case measure=>simp[intOf];omega
   ·have Hn:=Qh (Xkj bI.O hpx);clear hpx;go_wp2_with (at_builtin;refine qX (w0:=w1) EE rfl _ _ rfl _ _ _ rfl oV.O x [S x.p,.int .i64 x.u] _ rfl rfl (by omega) (by omega) uX ?_)
    intro v9 w9 bX bK;have iO:=Below.own aM bK oV.O (Qn _) uX;go_wp2;go_roundw;case rel=>exact⟨k+1,by omega,by go_num,bX.wh Hn.O.symm,iO⟩
    case measure=>simp[intOf];omega
  ·have au:l.take k=l:=List.take_of_length_le (by omega);rw[au]at di;clear au pI;go_wp2;go_ret;exact⟨_,rfl,di.O,hb⟩
theorem Xe9(I:IH)(v:Value)(l:List Ho)(hv:aZ ku I v l)(g:Nat)(cb:Array Value)(p:Ho→Bool)(w:World)(hw:Ok I w)(eg:∀args w,(callFunc g args).run Tryz.prog w= .ok (.enter g args) w)(hp:vZ g cb l p (Below w.heap.size w)):
 Calls Tryz.prog 77 #[v,.func (.func g) #[] cb] w fun e w'=>e= .returned (.int .i64 (su l p))∧Below w.heap.size w w':=by
 have hlen:=hv.bL;obtain⟨ao,cap,rfl,fu,iv,_⟩:=id hv;have Hv:=Qh hv;clear hv;have Hp:=Qh hp;clear hp;go_enter Tryz.func77,Tryz.ntmps77
 go_wp2_with fail
 go_loopw [8] (fun s8 wr=> ∃k:Nat,k≤l.length∧s8= .int .i64 k∧(l.take k).any p=false∧Below w.heap.size w wr) (fun i _=>l.length-(intOf i).toNat)
 case atStart=>exact⟨0,Nat.zero_le _,rfl,rfl,Qb _ _⟩
 case round=>
  obtain⟨k,hk,rfl,hr,hb⟩:=hrel;have Hr:=Qh hr;clear hr;by_cases hlt:k<l.length
  ·have eX:Ok I wr:=hw.below (Qn _) hb;obtain⟨x,b,off,cap',cB,dC,c0,c1⟩:=yu Hv.O eX k hlt;cases dC;have pM:=Qh cB;have oQ:=Qh (Hp.O x (by rw[←cB];exact List.getElem_mem hlt) wr hb);clear cB;go_wp2_with fail
   refine oQ.O.mono ?_;rintro e w1 ⟨rfl,aG⟩;have aM:=hb.trans (aG.mono hb.size);clear aG oQ c0 c1;cases hpx:p x
   ·have Hn:=Qh (show(l.take (k+1)).any p=false by rw[List.take_succ_eq_append_getElem hlt,List.any_append,Hr.O,pM.O];simp[hpx]);clear hpx;go_wp2;go_roundw;case rel=>exact⟨k+1,by omega,by go_num,Hn.O,aM⟩
    case measure=>simp[intOf];omega
   ·have Hn:=Qh (Xii (p:=p) hlt (by rw[pM.O];exact hpx) Hr.O);clear hpx;go_wp2;go_ret;exact⟨dZ Hn.O.symm,aM⟩
  ·have Hn:=Qh (show su l p= -1 from Xij (by have:=Hr.O;rwa[List.take_of_length_le (by omega)]at this));go_wp2;go_ret;exact⟨dZ Hn.O.symm,hb⟩
theorem Xdo(I:IH)(v:Value)(l:List Ho)(hv:aZ ku I v l)(g:Nat)(cb:Array Value)(p:Ho→Bool)(w:World)(hw:Ok I w)(eg:∀args w,(callFunc g args).run Tryz.prog w= .ok (.enter g args) w)(hp:vZ g cb l p (Below w.heap.size w)):
 Calls Tryz.prog 129 #[v,.func (.func g) #[] cb] w fun e w'=>e= .returned (.bool (l.any p))∧Below w.heap.size w w':=by
 have Hi:=Qh (Xe9 I v l hv g cb p w hw eg hp);obtain⟨ao,cap,rfl,fu,iv,_⟩:=id hv;clear hv hp eg;rcases RJ l p with⟨i,hi,e1,e2,_⟩|⟨e1,e2⟩
 ·have Ha:=Qh (show l.any p=true from List.any_eq_true.2 ⟨l[i],List.getElem_mem hi,e2⟩);have hd:decide ((0:Int)≤(i:Int))=true:=Qt (by omega);rw[e1]at Hi;clear e1 e2;go_enter Tryz.func129,Tryz.ntmps129
  go_wp2_with fail
  refine Hi.O.mono ?_;rintro e w1 ⟨rfl,aG⟩;go_wp2;go_ret;exact⟨jr Ha.O.symm,aG⟩
 ·have Ha:=Qh e2;rw[e1]at Hi;clear e1 e2;go_enter Tryz.func129,Tryz.ntmps129
  go_wp2_with fail
  refine Hi.O.mono ?_;rintro e w1 ⟨rfl,aG⟩;go_wp2;go_ret;exact⟨jr Ha.O.symm,aG⟩
theorem Xp9(d:Int)(b:Nat)(l:List Ho)(w:World)(hc:w.cell? ⟨b,0,none⟩=some (.int .i64 d)):vZ 54 #[.pointer (some ⟨b,0,none⟩)] l (fun h=>decide (d≤h.u)) (Below w.heap.size w):=by
 intro x _ W hW;have QS:=kM (.cells #[S x.p,.int .i64 x.u] 106) (aV hW hc);clear hc;show Calls Tryz.prog _ #[O7 x,.pointer (some ⟨b,0,none⟩)] W _;go_enter Tryz.func54,Tryz.ntmps54
 go_wp2;go_ret;exact⟨rfl,(Qb _ _).alloc (Qn _) _⟩
theorem TC(I:IH)(v:Value)(l:List Ho)(hv:aZ ku I v l)(hn:l.length≤100000)(d:Int)(w:World)(hw:Ok I w):
 Calls Tryz.prog 26 #[v,.int .i64 d] w fun e w'=> ∃v',e= .returned v'∧aQ ku 106 I w' w.heap.size v' (bY l d)∧Below w.heap.size w w':=by
 have Hp:=Qh (Xp9 d w.heap.size l (w.alloc (.cells #[.int .i64 d] 3)) (by simp));have Hs:=Qh (UA I v l hv hn _ _ _ _ (hw.alloc (.cells #[.int .i64 d] 3)) (fun _ _=>by kernel_rfl) Hp.O);obtain⟨ao,cap,rfl,fu,iv,_⟩:=id hv;clear hv Hp;go_enter Tryz.func26,Tryz.ntmps26
 go_wp2_with fail
 refine Hs.O.mono ?_;rintro e w1 ⟨v1,rfl,bU,hb⟩;go_wp2;go_ret;exact⟨_,rfl,bU.lower (by simp),((Qb _ _).alloc (Qn _) _).trans (hb.mono (by simp))⟩
theorem Xub(I:IH)(hI:fG I)(p:af)(hp:p.length≤4294967280)(b:Nat)(l:List Ho)(hl:∀h∈l,h.p.length≤4294967280)(w:World)(hw:Ok I w)(hc:w.cell? ⟨b,0,none⟩=some (S p)):vZ 170 #[.pointer (some ⟨b,0,none⟩)] l (fun h=>under p h.p) (Below w.heap.size w):=by
 intro x hx W hW;have Hu:=Qh (Xkg I hI p x.p hp (hl x hx) (W.alloc (.cells #[S x.p,.int .i64 x.u] 106)) ((hw.below (Qn _) hW).alloc _));have QS:=kM (.cells #[S x.p,.int .i64 x.u] 106) (aV hW hc);clear hc;show Calls Tryz.prog _ #[O7 x,.pointer (some ⟨b,0,none⟩)] W _;go_enter Tryz.func170,Tryz.ntmps170
 go_wp2_with fail
 refine Hu.O.mono ?_;rintro e w1 ⟨rfl,aG⟩;go_wp2;go_ret;exact⟨rfl,((Qb _ _).alloc (Qn _) _).trans (aG.mono (by simp))⟩
theorem yf.short(h:yf l):∀x∈l,x.p.length≤4294967280:=fun x hx=>by have:=(Iu (h.aj x hx)).1;omega
theorem Xwo(I:IH)(hI:fG I)(v:Value)(l:List Ho)(hv:aZ ku I v l)(hk:yf l)(hn:l.length≤100000)(p:af)(hp:p.length≤4294967280)(d:Int)(w:World)(hw:Ok I w):
 Calls Tryz.prog 127 #[v,S p,.int .i64 d] w fun e w'=>e= .returned (.bool (ig l p d))∧Below w.heap.size w w':=by
 have Ha:=Qh (TC I v l hv hn d (w.alloc (.cells #[S p] 9)) (hw.alloc _));have Hk:=Qh (hk.act d);have lM:=Qh (fun b (hb:(w.alloc (.cells #[S p] 9)).heap.size≤b)=>(hw.alloc (.cells #[S p] 9)).fresh (b:=b) hb);have HI:=Qh hI;obtain⟨ao,cap,rfl,fu,iv,_⟩:=id hv;clear hv hk hI;go_enter Tryz.func127,Tryz.ntmps127
 go_wp2_with fail
 refine Ha.O.mono ?_;rintro e w1 ⟨v1,rfl,bU,hb⟩;have aO:Ok I w1:=(hw.alloc _).below (Qn _) hb;obtain⟨I1,kL,lI,nV,_⟩:=bU.freeze aO lM.O;have rJ:w1.cell? ⟨w.heap.size,0,none⟩=some (S p):=aV hb (by simp);have Hp:=Qh (Xub I1 (HI.O.mono (kL.keep (hw.alloc (.cells #[S p] 9)) (Qn _))) p hp w.heap.size (bY l d) Hk.O.short w1 lI rJ);have Hc:=Qh (Xdo I1 _ _ nV _ _ _ w1 lI (fun _ _=>by kernel_rfl) Hp.O);have vO:=((Qb w.heap.size w).alloc (Qn _) (.cells #[S p] 9)).trans (hb.mono (by simp));obtain⟨a1,c1,rfl,_,_,_⟩:=id nV;clear hb bU nV lI kL rJ Ha Hp;go_wp2_with fail
 refine Hc.O.mono ?_;rintro e w2 ⟨rfl,aL⟩;go_wp2;go_ret;exact⟨rfl,vO.trans (aL.mono vO.size)⟩
def mW(acc:Nat)(l:af):Nat:=l.foldl (fun n c=>10*n+(c.toNat-48)) acc
theorem Xmv(acc:Nat)(l:af)(c:UInt8):mW acc (l++[c])=10*mW acc l+(c.toNat-48):=by simp[mW,List.foldl_append]
theorem O8{c:UInt8}(h:lF c=true):48≤c.toNat∧c.toNat≤57:=by
 rw[Ya,Bool.and_eq_true,decide_eq_true_iff,decide_eq_true_iff]at h;exact h
theorem Xiw:∀(l:af),l.all lF=true→ ∀(a:Nat),l.foldl (fun(n:Int) c=>10*n+((c.toNat:Int)-48)) (a:Int)=(mW a l:Nat)
 | [],_,_=>rfl
 |c::l,h,a=>by
  rw[List.all_cons,Bool.and_eq_true]at h;have hc:=O8 h.1;have:=Xiw l h.2 (10*a+(c.toNat-48));rw[List.foldl_cons,show(10*(a:Int)+((c.toNat:Int)-48))=((10*a+(c.toNat-48):Nat):Int) by omega,this];rfl
theorem Xgr{l:af}(h:l.all lF=true):digits l=(mW 0 l:Nat):=Xiw l h 0
theorem Xo8:∀(l:af) (acc:Nat),l.all lF=true→(acc+1)*10^l.length≤100000000000→Lib.parseUint10 acc l= .ok (mW acc l)
 | [],_,_,_=>rfl
 |c::l,acc,h,hb=>by
  rw[List.all_cons,Bool.and_eq_true]at h;have hc:=O8 h.1;rw[List.length_cons,Nat.pow_succ]at hb;have WN:1≤10^l.length:=Nat.pos_of_ne_zero (by simp);have asR:(acc+1)*10≤100000000000:=by
   have:(acc+1)*10*1≤(acc+1)*10*10^l.length:=Nat.mul_le_mul_left _ WN;rw[Nat.mul_comm (10^l.length) 10,←Nat.mul_assoc]at hb;omega
  have hn:(acc*10+(c.toNat-48)+1)*10^l.length≤100000000000:=by
   refine Nat.le_trans (Nat.mul_le_mul_right _ (show acc*10+(c.toNat-48)+1≤(acc+1)*10 by omega)) ?_;rw[Nat.mul_assoc,Nat.mul_comm 10 (10^l.length)];exact hb
  rw[Lib.parseUint10,if_pos hc,if_neg (by omega),if_neg (by omega),Xo8 l _ h.2 hn];show Lib.NumEnd.ok (mW _ l)=Lib.NumEnd.ok (mW (10*acc+(c.toNat-48)) l);rw[Nat.mul_comm acc 10]
theorem Xpj{c:UInt8}{l:af}(h:(c::l).all lF=true)(hc:c≠48):10^l.length≤mW 0 (c::l):=by
 have key:∀(n:Nat) (l:af),l.length=n→ ∀a,a*10^n≤mW a l:=by
  intro n;induction n with
  |zero=>intro l h a;rw[List.eq_nil_of_length_eq_zero h];simp[mW]
  |succ n ih=>
   intro l h a;cases l with
   |nil=>simp at h
   |cons c l=>
    have:=ih l (by simpa using h) (10*a+(c.toNat-48));refine Nat.le_trans ?_ this;rw[Nat.pow_succ,Nat.mul_comm (10^n) 10,←Nat.mul_assoc];exact Nat.mul_le_mul_right _ (by omega)
 rw[List.all_cons,Bool.and_eq_true]at h;have hb:=O8 h.1;have bq:c.toNat≠48:=fun e=>hc (by
  have:c=UInt8.ofNat c.toNat:=by simp
  rw[this,e];rfl)
 have:=key l.length l rfl (10*0+(c.toNat-48));refine Nat.le_trans ?_ this;have h1:1≤10*0+(c.toNat-48):=by omega
 simpa using Nat.mul_le_mul_right (10^l.length) h1
def NoZ(s:af):Prop:=s.length=1∨s.head?≠some 48
theorem Xu3:∀(n:Nat) (s:af),s.length=n→s≠[]→s.all lF=true→NoZ s→Lib.decDigits (mW 0 s)=s:=by
 intro n;induction n with
 |zero=>intro s h h0;exact absurd (List.eq_nil_of_length_eq_zero h) h0
 |succ n ih=>
  intro s h h0 ha hz;have e:s=s.dropLast++[s.getLast h0]:=(List.dropLast_concat_getLast h0).symm;have hl:s.dropLast.length=n:=by rw[List.length_dropLast,h];omega
  have Eb:=ha;rw[e,List.all_append,Bool.and_eq_true]at Eb;have hc:lF (s.getLast h0)=true:=by simpa using Eb.2
  have hb:=O8 hc;have hoc:UInt8.ofNat (48+((s.getLast h0).toNat-48))=s.getLast h0:=by
   rw[show 48+((s.getLast h0).toNat-48)=(s.getLast h0).toNat by omega];simp
  by_cases hn:n=0
  ·have ht:s.dropLast=[]:=List.eq_nil_of_length_eq_zero (by omega);rw[e,ht,List.nil_append];have:mW 0 [s.getLast h0]=(s.getLast h0).toNat-48:=by simp[mW]
   rw[this,Lib.decDigits,dif_pos (by omega),hoc]
  ·have QH:s.dropLast≠[]:=by intro e2;rw[e2]at hl;simp at hl;omega
   have hh:s.head?≠some 48:=by
    rcases hz with hz|hz
    ·omega
    ·exact hz
   have WO:s.dropLast.head?=s.head? :=by
    cases hd:s.dropLast with
    |nil=>exact absurd hd QH
    |cons a t=>rw[e,hd];rfl
   have i1:=ih s.dropLast hl QH Eb.1 (.inr (by rw[WO];exact hh));have Mj:1≤mW 0 s.dropLast:=by
    cases hd:s.dropLast with
    |nil=>exact absurd hd QH
    |cons a t=>
     have O9:(a::t).all lF=true:=by rw[←hd];exact Eb.1
     have:10^t.length≤mW 0 (a::t):=Xpj O9 (fun e3=>hh (by rw[←WO,hd,e3];rfl));have WN:1≤10^t.length:=Nat.pos_of_ne_zero (by simp);omega
   have hs:mW 0 s=10*mW 0 s.dropLast+((s.getLast h0).toNat-48):=by
    conv=>lhs;rw[e]
    exact Xmv _ _ _
   rw[hs,Lib.decDigits,dif_neg (by omega),show(10*mW 0 s.dropLast+((s.getLast h0).toNat-48)) / 10=mW 0 s.dropLast by omega,show(10*mW 0 s.dropLast+((s.getLast h0).toNat-48))%10=(s.getLast h0).toNat-48 by omega,i1,hoc];exact e.symm
theorem Xtf{n:Nat}(h:n<10):lF (UInt8.ofNat (48+n))=true:=by
 rw[Ya];simp;omega
theorem Xmw:∀(u:Nat),(Lib.decDigits u).all lF=true∧Lib.decDigits u≠[]∧mW 0 (Lib.decDigits u)=u∧(10≤u→(Lib.decDigits u).head?≠some 48)∧(1≤u→(Lib.decDigits u).head?≠some 48):=by
 intro u;induction u using Nat.strongRecOn with
 |_ u ih=>
  by_cases h:u<10
  ·have e:Lib.decDigits u=[UInt8.ofNat (48+u)]:=by rw[Lib.decDigits,dif_pos h]
   have hd:=Xtf h;have ht:(UInt8.ofNat (48+u)).toNat=48+u:=by simp;omega
   rw[e];refine⟨by rw[List.all_cons,hd];rfl,by simp,by simp only[mW,List.foldl_cons,List.foldl_nil,ht];omega,fun h2=>by omega,fun h2 he=> ?_⟩;simp only[List.head?_cons,Option.some.injEq]at he;have:=congrArg UInt8.toNat he;rw[ht]at this;have h48:(48:UInt8).toNat=48:=rfl;omega
  ·have e:Lib.decDigits u=Lib.decDigits (u / 10)++[UInt8.ofNat (48+u%10)]:=by rw[Lib.decDigits,dif_neg h]
   obtain⟨i1,i2,i3,i4,i5⟩:=ih (u / 10) (by omega);have hd:=Xtf (n:=u%10) (by omega);have ht:(UInt8.ofNat (48+u%10)).toNat=48+u%10:=by simp;omega
   have WO:(Lib.decDigits u).head?≠some 48:=by
    rw[e];cases hc:Lib.decDigits (u / 10)with
    |nil=>exact absurd hc i2
    |cons a t=>
     have:=i5 (by omega);rw[hc]at this;exact this
   refine⟨?_,?_,?_,fun _=>WO,fun _=>WO⟩
   ·rw[e,List.all_append,i1,List.all_cons,hd];rfl
   ·rw[e];simp
   ·rw[e,Xmv,i3,ht];omega
theorem Xpk(s:af):il s=true↔ ∃n:Int,Lib.atoiAll s= .ok n∧0≤n∧n≤1000000000∧Lib.itoa n=s:=by
 have hd:(fun c:UInt8=>decide (48≤c)&&decide (c≤57))=lF:=rfl;constructor
 ·intro h;unfold il at h;rw[hd]at h;simp only[Bool.and_eq_true,decide_eq_true_eq]at h;obtain⟨⟨⟨⟨h1,h2⟩,h3⟩,h4⟩,h5⟩:=h;have h0:s≠[]:=by intro e;rw[e]at h1;simp at h1
  have hz:NoZ s:=by
   by_cases hl:s.length=1
   ·exact .inl hl
   ·right;intro e;rw[e,Qt (show 1<s.length by omega)]at h3;simp at h3
  rw[Xgr h4]at h5;refine⟨(mW 0 s:Nat),?_,by omega,h5,?_⟩
  ·cases hs:s with
   |nil=>exact absurd hs h0
   |cons c r=>
    have ha:(c::r).all lF=true:=by rw[←hs];exact h4
    have hc:lF c=true:=by rw[List.all_cons,Bool.and_eq_true]at ha;exact ha.1
    have hb:=O8 hc;have hlen:(c::r).length≤10:=by rw[←hs];exact h2
    have hp:=Xo8 (c::r) 0 ha (by
     have:10^(c::r).length≤10^10:=Nat.pow_le_pow_right (by decide) hlen;omega)
    rw[Lib.atoiAll];rw[if_neg (by omega),Lib.parseMag,if_neg (by simp),hp];rw[hs]at h5;simp only;rw[if_neg (by omega),if_neg (by omega),if_neg (by omega)]
  ·rw[Lib.itoa,if_neg (by omega),Int.toNat_natCast];exact Xu3 _ s rfl h0 h4 hz
 ·rintro⟨n,_,h0,h1,h2⟩;obtain⟨u,rfl⟩:=Int.eq_ofNat_of_zero_le h0;rw[Lib.itoa,if_neg (by omega),Int.toNat_natCast]at h2;obtain⟨f1,f2,f3,f4,f5⟩:=Xmw u;rw[h2]at f1 f2 f3 f4 f5;have Mk:digits s=u:=by rw[Xgr f1,f3]
  unfold il;rw[hd,f1,Mk,Qt h1];have yT:1≤s.length:=List.length_pos_iff.2 f2;have hz:(decide (1<s.length)&&s.head?==some 48)=false:=by
   cases hb:(decide (1<s.length)&&s.head?==some 48)with
   |false=>rfl
   |true=>
    rw[Bool.and_eq_true,decide_eq_true_iff,beq_iff_eq]at hb;by_cases hu:1≤u
    ·exact absurd hb.2 (f5 hu)
    ·have:u=0:=by omega
     subst this;have:s=[48]:=by rw[←h2,Lib.decDigits,dif_pos (by decide)];rfl
     rw[this]at hb;simp at hb
  have abS:s.length≤10:=by
   cases hs:s with
   |nil=>simp
   |cons c r=>
    by_cases hu:1≤u
    ·have hc:c≠48:=fun e=>f5 hu (by rw[hs,e];rfl);have:=Xpj (c:=c) (l:=r) (by rw[←hs];exact f1) hc;rw[←hs,f3]at this;have hlt:¬10≤r.length:=by
      intro WN;have:10^10≤10^r.length:=Nat.pow_le_pow_right (by decide) WN;omega
     simp only[List.length_cons];omega
    ·have:u=0:=by omega
     subst this;have:s=[48]:=by rw[←h2,Lib.decDigits,dif_pos (by decide)];rfl
     rw[hs]at this;rw[this];simp
  rw[hz,Qt yT,Qt abS];rfl
theorem Xxl{W w1:World}{n:Nat}{x:At}{T:TypeId}(hn:n=W.heap.size)(hb:Below (W.alloc (.cells #[S x.k,S x.v] T)).heap.size (W.alloc (.cells #[S x.k,S x.v] T)) w1):
 w1.cell? ⟨n,0,none⟩=some (S x.k)∧w1.cell? ⟨n,1,none⟩=some (S x.v):=by
 subst hn;refine⟨?_,?_⟩<;>(rw[hb.cell (by simp)];simp)
end Go.Proofs.YtegieeommgiknaaGreatDoor
namespace Go.Proofs
open Go.Shelf
def Tryz.BA:Go.Shelf.Ren:=⟨fun|160=>130|232=>172|231=>171|227=>173|234=>175|233=>174|236=>177|235=>176|228=>208|271=>211|151=>210|197=>209|120=>228|152=>227|260=>226|137=>240|119=>241|224=>242|225=>243|217=>251|266=>255|n=>n,fun|9=>9|4=>4|3=>3|5=>5|117=>208|116=>207|0=>0|124=>211|21=>21|105=>233|46=>168|119=>261|139=>264|138=>263|n=>n,fun|3=>3|4=>4|n=>n⟩
theorem Tryz.KX:Go.Proofs.Lays.n160 Tryz.prog Tryz.BA:={
 mixed:=by kernel_rfl
 f119:=Tryz.func241.trans (congrArg some (by kernel_rfl))
 f120:=Tryz.func228.trans (congrArg some (by kernel_rfl))
 f137:=Tryz.func240.trans (congrArg some (by kernel_rfl))
 f151:=Tryz.func210.trans (congrArg some (by kernel_rfl))
 f152:=Tryz.func227.trans (congrArg some (by kernel_rfl))
 f160:=Tryz.func130.trans (congrArg some (by kernel_rfl))
 f197:=Tryz.func209.trans (congrArg some (by kernel_rfl))
 f217:=Tryz.func251.trans (congrArg some (by kernel_rfl))
 f224:=Tryz.func242.trans (congrArg some (by kernel_rfl))
 f225:=Tryz.func243.trans (congrArg some (by kernel_rfl))
 f227:=Tryz.func173.trans (congrArg some (by kernel_rfl))
 f228:=Tryz.func208.trans (congrArg some (by kernel_rfl))
 f231:=Tryz.func171.trans (congrArg some (by kernel_rfl))
 f232:=Tryz.func172.trans (congrArg some (by kernel_rfl))
 f233:=Tryz.func174.trans (congrArg some (by kernel_rfl))
 f234:=Tryz.func175.trans (congrArg some (by kernel_rfl))
 f235:=Tryz.func176.trans (congrArg some (by kernel_rfl))
 f236:=Tryz.func177.trans (congrArg some (by kernel_rfl))
 f260:=Tryz.func226.trans (congrArg some (by kernel_rfl))
 f266:=Tryz.func255.trans (congrArg some (by kernel_rfl))
 f271:=Tryz.func211.trans (congrArg some (by kernel_rfl))
 t0:=Tryz.underlying0
 a0:=Tryz.isAgg0
 z0:=Tryz.sizeOf0
 v0:=Tryz.zeroValue0
 t3:=Tryz.underlying3
 a3:=Tryz.isAgg3
 z3:=Tryz.sizeOf3
 v3:=Tryz.zeroValue3
 t4:=Tryz.underlying4
 a4:=Tryz.isAgg4
 z4:=Tryz.sizeOf4
 v4:=Tryz.zeroValue4
 t5:=Tryz.underlying5
 a5:=Tryz.isAgg5
 z5:=Tryz.sizeOf5
 v5:=Tryz.zeroValue5
 t9:=Tryz.underlying9
 a9:=Tryz.isAgg9
 z9:=Tryz.sizeOf9
 v9:=Tryz.zeroValue9
 t21:=Tryz.underlying21
 a21:=Tryz.isAgg21
 z21:=Tryz.sizeOf21
 v21:=Tryz.zeroValue21
 t46:=Tryz.underlying168
 a46:=Tryz.isAgg168
 z46:=Tryz.sizeOf168
 v46:=Tryz.zeroValue168
 t105:=Tryz.underlying233
 a105:=Tryz.isAgg233
 z105:=Tryz.sizeOf233
 v105:=Tryz.zeroValue233
 t116:=Tryz.underlying207
 a116:=Tryz.isAgg207
 z116:=Tryz.sizeOf207
 t117:=Tryz.underlying208
 a117:=Tryz.isAgg208
 z117:=Tryz.sizeOf208
 v117:=Tryz.zeroValue208
 t119:=Tryz.underlying261
 a119:=Tryz.isAgg261
 z119:=Tryz.sizeOf261
 t124:=Tryz.underlying211
 a124:=Tryz.isAgg211
 z124:=Tryz.sizeOf211
 v124:=Tryz.zeroValue211
 t138:=Tryz.underlying263
 a138:=Tryz.isAgg263
 z138:=Tryz.sizeOf263
 v138:=Tryz.zeroValue263
 t139:=Tryz.underlying264
 a139:=Tryz.isAgg264
 z139:=Tryz.sizeOf264
 v139:=Tryz.zeroValue264
 g3:=by kernel_rfl
 g4:=by kernel_rfl}
open Go.RowKit in
theorem Tryz.uD(s cutset:ByteArray)(w:World)(hs:s.size≤9223372036854775807)(jf:cutset.size<4294967281)(QT:∀(j:Nat) b,cutset.data.toList[j]?=some b→b.toNat<128):
 Calls Tryz.prog 130 #[.string s,.string cutset] w fun e w'=>e= .returned (.string ⟨(Lib.trimS s.data.toList cutset.data.toList).toArray⟩)∧RowKit.Below w.heap.size w w':=Any.strings_Trim_laid Tryz.KX (by kernel_rfl) s cutset w hs jf QT
end Go.Proofs
