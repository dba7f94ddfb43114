/- Lemmas for the claim's theorem;conditions: as each says. -/
import Derived.Test.YtmdfjnhfhidmhaaGreatDoorQ11
set_option maxHeartbeats 0
set_option maxRecDepth 100000
set_option linter.all false
namespace Go.Proofs.YtmdfjnhfhidmhaaGreatDoor
open Go.RowKit
variable{t:List aQ}{e:aQ}{p:af}{i:Nat}
theorem Xmq(h:aL e≠0):bG t e=([],aL e):=by rw[bG,if_pos h]
theorem Xj(h:aL e=0)(hk:3<e.aj)(hg:¬(dP t e.ag=none∧e.ag≠[])):bG t e=(t.filter fun x=> !(qO e x),0):=by
 rw[bG,if_neg (by omega),if_pos hk,if_neg hg];by_cases h4:e.aj=4
 ·rw[if_pos h4];congr 2;funext x;rw[qO,Qt h4,Bool.true_and]
 ·rw[if_neg h4];congr 1;symm;exact List.filter_eq_self.2 fun x _=>by rw[qO,Qf h4];rfl
theorem Xkk(h:aL e=0)(hk:3<e.aj)(hg:dP t e.ag=none∧e.ag≠[]):bG t e=([],9):=by
 rw[bG,if_neg (by omega),if_pos hk,if_pos hg]
theorem Xmp(h:aL e=0)(hk:¬3<e.aj)(hd:bn t (iT e.ag)≠0):bG t e=([],bn t (iT e.ag)):=by
 rw[bG,if_neg (by omega),if_neg hk,if_pos hd]
theorem Xki{y:aQ}(h:aL e=0)(hk:¬3<e.aj)(hd:bn t (iT e.ag)=0)(hy:dP t e.ag=some y):bG t e=if(y.aj==2) !=(e.aj==2)then([],8)else(iX t e,0):=by
 rw[bG,if_neg (by omega),if_neg hk,if_neg (by omega),hy]
theorem Xkj(h:aL e=0)(hk:¬3<e.aj)(hd:bn t (iT e.ag)=0)(hy:dP t e.ag=none):bG t e=if 5000≤t.length then([],6)else(iX t e,0):=by
 rw[bG,if_neg (by omega),if_neg hk,if_neg (by omega),hy]
theorem Xk(hi:i<t.length)(hp:ng p t[i]=true)(hn:(t.take i).any (ng p)=false):dP t p=some t[i]:=by
 have:=WW hi hp hn;unfold l7 at this;cases h:dP t p with
 |none=>rw[h]at this;simp at this
 |some x=>rw[h]at this;simp at this;rw[this]
theorem Xl(hn:t.any (ng p)=false):dP t p=none:=by
 have:=WX hn;unfold l7 at this;cases h:dP t p with
 |none=>rfl
 |some x=>rw[h]at this;simp at this
theorem eY.own{w w':World}{n:Nat}{va vx:Value}{row:Option Nat}(h:eY w n e va vx)(hg:w.grownBy w' row)(aZ:row≠some n):eY w' n e va vx:=
 ⟨iV hg aZ h.c0,iV hg aZ h.c1,iV hg aZ h.c2,iV hg aZ h.c3,iV hg aZ h.c4,iV hg aZ h.c5,iV hg aZ h.c6⟩
theorem bB.set{I:IH}{xs cs:List Value}{l:List aQ}(h:bB bJ I xs l)(hi:i<l.length){x:aQ}(hx:bJ.rd I cs x):bB bJ I (xs.take (i*7)++cs++xs.drop (i*7+7)) (l.set i x):=by
 have h1:=((h.take i).append (bB.one hx)).append (h.drop (i+1));have hs:bJ.size=7:=rfl;rw[hs,show(i+1)*7=i*7+7 by omega]at h1;have e:l.set i x=l.take i++[x]++l.drop (i+1):=by
  rw[List.set_eq_take_append_cons_drop,if_pos hi];simp
 rw[e];exact h1
theorem Xm(cur:Array Value)(o m:Nat)(cs:List Value)(h:o+cs.length≤m)(hm:m≤cur.size):(over cur o cs).toList.take m=(cur.toList.take m).take o++cs++(cur.toList.take m).drop (o+cs.length):=by
 simp only[over];rw[List.take_append,List.take_of_length_le (by simp;omega)];congr 1
 ·rw[List.take_take,Nat.min_eq_left (by omega)]
 ·rw[List.drop_take];congr 1;simp;omega
theorem QH(I:IH)(hI:cB I)(v:Value)(t:List aQ)(hv:aY bJ I v t)(hs:xK t)(Xn:gz t)(hn:t.length≤100000)(e:aQ)(va vx:Value)(gW:aY lv I va e.au)(j6:aY kQ I vx e.aD)(lu:e.Wf)(nO:e.ag.length≤4294967280)(sO:e.av.length≤4294967280)(w:World)(hw:Ok I w):
 Calls Tryz.prog 38 #[v,fG e va vx] w (Ep bJ I w (bG t e).1 (bG t e).2):=by
 have hlen:=hv.bK;have oH:=Qh (fun w hw=>JP I hI e va vx gW j6 lu nO sO w hw);obtain⟨ao,cap,rfl,dM,gV,_⟩:=id hv;have Hv:=Qh hv;obtain⟨aa,ca,rfl,_,_,_⟩:=id gW;obtain⟨ax,cx,rfl,_,_,_⟩:=id j6;have xL:=Qh (show bJ.rd I (fT e (.slice aa e.au.length ca) (.slice ax e.aD.length cx)) e from⟨_,_,rfl,gW,j6⟩);have Hs:=Qh hs;have Xo:=Qh Xn;clear hv gW j6 hs Xn;by_cases h0:aL e=0;case neg=>
  have Ha:=Qh (Xmq (t:=t) h0);obtain⟨q,hq⟩:∃q,aL e=q:=⟨_,rfl⟩;have Gi:(q !=0)=true:=by rw[←hq];simpa using h0
  rw[hq]at oH Ha;clear hq h0;go_enter Tryz.func38,Tryz.ntmps38
  go_wp2_with fail
  refine(oH.q _ (hw.alloc _)).mono ?_;rintro e1 w1 ⟨rfl,aG⟩;have jT:=Qh (eO rfl aG);have aS:Ok I w1:=(hw.alloc _).below (Qn _) aG;have bW:w.heap.size<w1.heap.size:=by have:=aG.size;simp at this;omega
  have aO:Below w.heap.size w w1:=((Qb _ _).alloc (Qn _) _).trans (aG.mono (by simp));clear aG;go_wp2;go_ret2;rw[Ha.q];exact⟨_,I,rfl,aO,Ext.refl _ _,aS,aY.nil _ _⟩
 have oP:=De h0;have H0:=Qh h0;rw[h0]at oH;have qN:=Qh (Qy e.aj);have tF:=Qh (fun w hw=>WV I _ t Hv.q e.ag w hw);have Ap:=GQ t (ng e.ag);generalize lC t (ng e.ag)=ix at tF Ap;clear h0;by_cases qx:3<e.aj
 ·have ql:inT e.aj=false:=by
   cases h:inT e.aj with
   |false=>rfl
   |true=>have:=jr.1 h;omega
  rw[ql]at qN;have AL:=Qh qx;clear ql;have xy:(∃i:Nat,ix=i∧i<t.length∧dP t e.ag≠none)∨(ix= -1∧dP t e.ag=none):=by
   rcases Ap with⟨i,hi,e1,e2,e3⟩|⟨e1,e2⟩
   ·exact .inl ⟨i,e1,hi,by rw[Xk hi e2 e3];simp⟩
   ·exact .inr ⟨e1,Xl e2⟩
  clear Ap;have U0:(∃i:Nat,ix=i∧i<t.length∧dP t e.ag≠none)∨(ix= -1∧e.ag=[])∨(ix= -1∧dP t e.ag=none∧e.ag≠[]):=by
   rcases xy with h|⟨h1,h2⟩
   ·exact .inl h
   ·by_cases hp:e.ag=[]
    ·exact .inr (.inl ⟨h1,hp⟩)
    ·exact .inr (.inr ⟨h1,h2,hp⟩)
  clear xy;rcases U0 with⟨i,rfl,hi,hg⟩|⟨rfl,hp⟩|⟨rfl,hg,hp⟩
  ·have Ha:=Qh (Xj (t:=t) H0.q AL.q fun h=>hg h.1);clear hg;go_enter Tryz.func38,Tryz.ntmps38
   go_wp2_with fail
   refine(oH.q _ (hw.alloc _)).mono ?_;rintro e1 w1 ⟨rfl,aG⟩;have jT:=Qh (eO rfl aG);have aS:Ok I w1:=(hw.alloc _).below (Qn _) aG;have bW:w.heap.size<w1.heap.size:=by have:=aG.size;simp at this;omega
   have aO:Below w.heap.size w w1:=((Qb _ _).alloc (Qn _) _).trans (aG.mono (by simp));clear aG;obtain⟨c0,c1,c2,c3,c4,c5,c6⟩:=jT.q;go_wp2_with fail
   refine(tF.q _ aS).mono ?_;rintro e2 w2 ⟨rfl,aP⟩;have nL:=Qh (jT.q.aX aP);have bC:Ok I w2:=aS.below (Qn _) aP;have fw:w.heap.size<w2.heap.size:=by have:=aP.size;omega
   have bS:=aO.trans (aP.mono aO.size);clear aP aO bW aS c0 c1 c2 c3 c4 c5 c6 jT;obtain⟨c0,c1,c2,c3,c4,c5,c6⟩:=nL.q;go_wp2_with fail
   refine(qN.q _).mono ?_;rintro e3 w3 ⟨rfl,rfl⟩;have mh:=Qh (AJ I _ t Hv.q w2 bC (by omega));have jg:∀b,w2.heap.size≤b→I b=none:=fun b hb=>bC.fresh hb;have ma:=Qh jg;clear jg;go_wp2_with fail
   refine mh.q.mono ?_;rintro e4 w4 ⟨v4,rfl,uy,bA⟩;have cK:Ok I w4:=bC.below (Qn _) bA;have eu:=bS.trans (bA.mono bS.size);have rD:=Qh (nL.q.aX bA);have kV:=Qh uy;have zq:=Qh bA.size;have EM:=Qh (Xa I w2.heap.size v4 t w4 kV.q (by omega) 80 #[.pointer (some ⟨w.heap.size,0,none⟩)] (qO e) cK ma.q zq.q (fun _ _=>by kernel_rfl) (Xf I hI e nO w.heap.size _ _ t Hs.q _ fun W hW=>⟨cK.grown hW (fun g hg=>ma.q g (kV.q.l5 hg)),rD.q.own hW (kV.q.iK fw)⟩));clear uy bA c0 c1 c2 c3 c4 c5 c6;go_wp2_with fail
   refine EM.q.mono ?_;rintro e5 w5 ⟨v5,rfl,jS,qy⟩;have kT:=Qh jS;have JU:=Qh qy;clear jS qy;go_wp2;go_ret2;rw[Ha.q];have dm:=Below.own eu JU.q kV.q (Nat.le_of_lt fw) zq.q;have dR:Ok I w5:=Ok.own cK JU.q kV.q ma.q;obtain⟨I',jA,kL,oo,_⟩:=kT.q.freeze dR ma.q;exact⟨_,I',rfl,dm,jA.mono (Nat.le_of_lt fw),kL,oo⟩
  ·have Ha:=Qh (Xj (t:=t) H0.q AL.q fun h=>h.2 hp);obtain⟨p1,p2,p3,p4⟩:=Bp hp;clear hp;go_enter Tryz.func38,Tryz.ntmps38
   go_wp2_with fail
   refine(oH.q _ (hw.alloc _)).mono ?_;rintro e1 w1 ⟨rfl,aG⟩;have jT:=Qh (eO rfl aG);have aS:Ok I w1:=(hw.alloc _).below (Qn _) aG;have bW:w.heap.size<w1.heap.size:=by have:=aG.size;simp at this;omega
   have aO:Below w.heap.size w w1:=((Qb _ _).alloc (Qn _) _).trans (aG.mono (by simp));clear aG;obtain⟨c0,c1,c2,c3,c4,c5,c6⟩:=jT.q;go_wp2_with fail
   refine(tF.q _ aS).mono ?_;rintro e2 w2 ⟨rfl,aP⟩;have nL:=Qh (jT.q.aX aP);have bC:Ok I w2:=aS.below (Qn _) aP;have fw:w.heap.size<w2.heap.size:=by have:=aP.size;omega
   have bS:=aO.trans (aP.mono aO.size);clear aP aO bW aS c0 c1 c2 c3 c4 c5 c6 jT;obtain⟨c0,c1,c2,c3,c4,c5,c6⟩:=nL.q;go_wp2_with fail
   refine(qN.q _).mono ?_;rintro e3 w3 ⟨rfl,rfl⟩;have mh:=Qh (AJ I _ t Hv.q w2 bC (by omega));have jg:∀b,w2.heap.size≤b→I b=none:=fun b hb=>bC.fresh hb;have ma:=Qh jg;clear jg;go_wp2_with fail
   refine mh.q.mono ?_;rintro e4 w4 ⟨v4,rfl,uy,bA⟩;have cK:Ok I w4:=bC.below (Qn _) bA;have eu:=bS.trans (bA.mono bS.size);have rD:=Qh (nL.q.aX bA);have kV:=Qh uy;have zq:=Qh bA.size;have EM:=Qh (Xa I w2.heap.size v4 t w4 kV.q (by omega) 80 #[.pointer (some ⟨w.heap.size,0,none⟩)] (qO e) cK ma.q zq.q (fun _ _=>by kernel_rfl) (Xf I hI e nO w.heap.size _ _ t Hs.q _ fun W hW=>⟨cK.grown hW (fun g hg=>ma.q g (kV.q.l5 hg)),rD.q.own hW (kV.q.iK fw)⟩));clear uy bA c0 c1 c2 c3 c4 c5 c6;go_wp2_with fail
   refine EM.q.mono ?_;rintro e5 w5 ⟨v5,rfl,jS,qy⟩;have kT:=Qh jS;have JU:=Qh qy;clear jS qy;go_wp2;go_ret2;rw[Ha.q];have dm:=Below.own eu JU.q kV.q (Nat.le_of_lt fw) zq.q;have dR:Ok I w5:=Ok.own cK JU.q kV.q ma.q;obtain⟨I',jA,kL,oo,_⟩:=kT.q.freeze dR ma.q;exact⟨_,I',rfl,dm,jA.mono (Nat.le_of_lt fw),kL,oo⟩
  ·have Ha:=Qh (Xkk (t:=t) H0.q AL.q ⟨hg,hp⟩);obtain⟨p1,p2,p3,p4⟩:=Bo hp;clear hp hg;go_enter Tryz.func38,Tryz.ntmps38
   go_wp2_with fail
   refine(oH.q _ (hw.alloc _)).mono ?_;rintro e1 w1 ⟨rfl,aG⟩;have jT:=Qh (eO rfl aG);have aS:Ok I w1:=(hw.alloc _).below (Qn _) aG;have bW:w.heap.size<w1.heap.size:=by have:=aG.size;simp at this;omega
   have aO:Below w.heap.size w w1:=((Qb _ _).alloc (Qn _) _).trans (aG.mono (by simp));clear aG;obtain⟨c0,c1,c2,c3,c4,c5,c6⟩:=jT.q;go_wp2_with fail
   refine(tF.q _ aS).mono ?_;rintro e2 w2 ⟨rfl,aP⟩;have nL:=Qh (jT.q.aX aP);have bC:Ok I w2:=aS.below (Qn _) aP;have fw:w.heap.size<w2.heap.size:=by have:=aP.size;omega
   have bS:=aO.trans (aP.mono aO.size);clear aP aO bW aS c0 c1 c2 c3 c4 c5 c6 jT;obtain⟨c0,c1,c2,c3,c4,c5,c6⟩:=nL.q;go_wp2_with fail
   refine(qN.q _).mono ?_;rintro e3 w3 ⟨rfl,rfl⟩;go_wp2;go_ret2;rw[Ha.q];exact⟨_,I,rfl,bS,Ext.refl _ _,bC,aY.nil _ _⟩
 ·have ql:inT e.aj=true:=jr.2 (by omega);rw[ql]at qN;have AL:=Qh qx;have JV:e.ag≠[]:=fun hp=>by have:=oP.2.2.2 hp;omega
  have pI:=Qh (fun w hw=>VV I hI e.ag nO w hw);rw[VQ oP.2.2.1 JV]at pI;have oI:=Qh (fun w hw=>W9 I _ t Hv.q (iT e.ag) w hw);clear ql JV;by_cases tX:bn t (iT e.ag)=0;case neg=>
   have Ha:=Qh (Xmp (t:=t) H0.q AL.q tX);obtain⟨q,hq⟩:∃q,bn t (iT e.ag)=q:=⟨_,rfl⟩;have Gi:(q !=0)=true:=by rw[←hq];simpa using tX
   rw[hq]at oI Ha;clear hq tX Ap;go_enter Tryz.func38,Tryz.ntmps38
   go_wp2_with fail
   refine(oH.q _ (hw.alloc _)).mono ?_;rintro e1 w1 ⟨rfl,aG⟩;have jT:=Qh (eO rfl aG);have aS:Ok I w1:=(hw.alloc _).below (Qn _) aG;have bW:w.heap.size<w1.heap.size:=by have:=aG.size;simp at this;omega
   have aO:Below w.heap.size w w1:=((Qb _ _).alloc (Qn _) _).trans (aG.mono (by simp));clear aG;obtain⟨c0,c1,c2,c3,c4,c5,c6⟩:=jT.q;go_wp2_with fail
   refine(tF.q _ aS).mono ?_;rintro e2 w2 ⟨rfl,aP⟩;have nL:=Qh (jT.q.aX aP);have bC:Ok I w2:=aS.below (Qn _) aP;have fw:w.heap.size<w2.heap.size:=by have:=aP.size;omega
   have bS:=aO.trans (aP.mono aO.size);clear aP aO bW aS c0 c1 c2 c3 c4 c5 c6 jT;obtain⟨c0,c1,c2,c3,c4,c5,c6⟩:=nL.q;go_wp2_with fail
   refine(qN.q _).mono ?_;rintro e3 w3 ⟨rfl,rfl⟩;go_wp2_with fail
   refine(pI.q _ bC).mono ?_;rintro e4 w4 ⟨rfl,bA⟩;have cK:Ok I w4:=bC.below (Qn _) bA;have eu:=bS.trans (bA.mono bS.size);have rD:=Qh (nL.q.aX bA);have kU:w.heap.size<w4.heap.size:=by have h2:=bA.size;omega
   clear bA c0 c1 c2 c3 c4 c5 c6;go_wp2_with fail
   refine(oI.q _ cK).mono ?_;rintro e5 w5 ⟨rfl,dm⟩;have dR:Ok I w5:=cK.below (Qn _) dm;have dG:=eu.trans (dm.mono eu.size);have qD:=Qh (rD.q.aX dm);have jR:w.heap.size<w5.heap.size:=by have h2:=dm.size;omega
   clear dm eu;go_wp2;go_ret2;rw[Ha.q];exact⟨_,I,rfl,dG,Ext.refl _ _,dR,aY.nil _ _⟩
  have Xp:=Qh tX;rw[tX]at oI;clear tX;rcases Ap with⟨i,hi,Ap,e2,e3⟩|⟨Ap,e2⟩
  ·subst Ap;have QI:=Xk hi e2 e3;have hpy:t[i].ag=e.ag:=by simpa[ng]using e2
   obtain⟨y,hy⟩:∃y,t[i]=y:=⟨_,rfl⟩;rw[hy]at QI;have Hy:=Qh hy;have uz:=Qh (Xpu Xo.q e hi hpy);obtain⟨b1,aG⟩:∃b,((y.aj:Int)==2)=b:=⟨_,rfl⟩;obtain⟨b2,aP⟩:∃b,((e.aj:Int)==2)=b:=⟨_,rfl⟩;have Ha:=Qh (Xki H0.q AL.q Xp.q QI);rw[aG,aP]at Ha;clear e2 e3 hy QI hpy;cases b1<;>cases b2
   ·have zt:=Qh (show bG t e=(iX t e,0) by rw[Ha.q];rfl);have xJ:(Tryz.prog.info? 81).map (·.size)=some 7:=by kernel_rfl
    have Du:=Qh xJ;clear xJ;go_enter Tryz.func38,Tryz.ntmps38
    go_wp2_with fail
    refine(oH.q _ (hw.alloc _)).mono ?_;rintro e1 w1 ⟨rfl,aG⟩;have jT:=Qh (eO rfl aG);have aS:Ok I w1:=(hw.alloc _).below (Qn _) aG;have bW:w.heap.size<w1.heap.size:=by have:=aG.size;simp at this;omega
    have aO:Below w.heap.size w w1:=((Qb _ _).alloc (Qn _) _).trans (aG.mono (by simp));clear aG;obtain⟨c0,c1,c2,c3,c4,c5,c6⟩:=jT.q;go_wp2_with fail
    refine(tF.q _ aS).mono ?_;rintro e2 w2 ⟨rfl,aP⟩;have nL:=Qh (jT.q.aX aP);have bC:Ok I w2:=aS.below (Qn _) aP;have fw:w.heap.size<w2.heap.size:=by have:=aP.size;omega
    have bS:=aO.trans (aP.mono aO.size);clear aP aO bW aS c0 c1 c2 c3 c4 c5 c6 jT;obtain⟨c0,c1,c2,c3,c4,c5,c6⟩:=nL.q;go_wp2_with fail
    refine(qN.q _).mono ?_;rintro e3 w3 ⟨rfl,rfl⟩;go_wp2_with fail
    refine(pI.q _ bC).mono ?_;rintro e4 w4 ⟨rfl,bA⟩;have cK:Ok I w4:=bC.below (Qn _) bA;have eu:=bS.trans (bA.mono bS.size);have rD:=Qh (nL.q.aX bA);have kU:w.heap.size<w4.heap.size:=by have h2:=bA.size;omega
    clear bA c0 c1 c2 c3 c4 c5 c6;go_wp2_with fail
    refine(oI.q _ cK).mono ?_;rintro e5 w5 ⟨rfl,dm⟩;have dR:Ok I w5:=cK.below (Qn _) dm;have dG:=eu.trans (dm.mono eu.size);have qD:=Qh (rD.q.aX dm);have jR:w.heap.size<w5.heap.size:=by have h2:=dm.size;omega
    clear dm eu;have mh:=Qh (AJ I _ t Hv.q w5 dR (by omega));have jg:∀b,w5.heap.size≤b→I b=none:=fun b hb=>dR.fresh hb;have ma:=Qh jg;clear jg;go_wp2_with fail
    refine mh.q.mono ?_;rintro e6 w6 ⟨v6,rfl,iF,fC⟩;have gD:Ok I w6:=dR.below (Qn _) fC;have iq:=dG.trans (fC.mono dG.size);have uX:=Qh (qD.q.aX fC);have ni:=Qh iF;have xM:=Qh fC.size;clear iF fC dG;obtain⟨y',QJ,G6,b,off,cap',jJ,dC,⟨y0,_,_,_,_,_,_⟩,_,_⟩:=uT Hv.q gD i hi;cases dC;have EN:y'=y:=by rw[←jJ,Hy.q]
    subst EN;have g0:=cell_regrown uX.q.c0;have g1:=cell_regrown y0;clear jJ;go_wp2_with fail
    refine wp_region_quiet_below (by kernel_rfl) (by kernel_rfl) ?_;repeat(go_big_quiet_step ((fail)))
    refine wpQuiet_nil ?_;intro w7 dD;have ji:Below (w6).heap.size (w6) w7:=by
     obtain⟨pq,rfl⟩:=dD;exact below_regrown _ _ _
    clear dD;have gT:Ok I w7:=gD.below (Qn _) ji;have lF:=iq.trans (ji.mono iq.size);have rE:=ni.q.below ji;obtain⟨c0,c1,c2,c3,c4,c5,c6⟩:=uX.q.aX ji;clear ji g0 g1 y0 iq gD;obtain⟨xs,⟨mI,aU⟩,hL⟩:=rE;rcases aU with⟨Pd,vv⟩|⟨g,rY,cur,rfl,ym,nS,EO,zu,fK,qo⟩
    ·omega
    have iw:cur.size=rY*7:=fK;have jC:cur.toList.take (t.length*7)=xs:=qo;have pu:xs.length=t.length*7:=mI;have j5:i*7+7≤cur.size:=by omega
    have zw:=Qh nS;have HL:=Qh hL;have tC:=Qh jC;have za:=Qh (show(over cur (i*7) (fT e (.slice aa e.au.length ca) (.slice ax e.aD.length cx))).size=rY*7 by rw[yx _ _ _ j5,iw]);have QK:=Qh (show(over cur (i*7) (fT e (.slice aa e.au.length ca) (.slice ax e.aD.length cx))).toList.take (t.length*7)=xs.take (i*7)++fT e (.slice aa e.au.length ca) (.slice ax e.aD.length cx)++xs.drop (i*7+7) by
     rw[Xm _ _ _ _ (show i*7+7≤t.length*7 by omega) (by omega),jC];rfl)
    have uV:maxLen=9223372036854775807:=rfl;rw[uV]at zu;clear nS hL qo jC fK iw mI pu uV;go_wp2_with (refine Qz rfl 81 _ _ rfl g (i*7) (fT e (.slice aa e.au.length ca) (.slice ax e.aD.length cx)) (by simp[Act.eval]) rfl cur 81 zw.q j5 Du.q (bJ.one xL.q) ?_)
    go_ret2;have Aq:=HL.q.set hi xL.q;have hg:w7.grownBy (w7.setRow g (over cur (i*7) (fT e (.slice aa e.au.length ca) (.slice ax e.aD.length cx)))) (some g):=vE;have iC:=gT.grown hg (fun g' Gt=>by cases Gt;exact ma.q _ ym);have kr:aN bJ 81 I (w7.setRow g (over cur (i*7) (fT e (.slice aa e.au.length ca) (.slice ax e.aD.length cx)))) w5.heap.size (.slice (some ⟨g,0,none⟩) t.length rY) (t.set i e):=by
     refine⟨_,⟨Aq.1,.inr ⟨g,rY,_,by rw[List.length_set],ym,setRow_heap _ _ _ _ _ _ zw.q,by rw[List.length_set];exact EO,by unfold maxLen;exact zu,za.q,by rw[List.length_set];exact QK.q⟩⟩,Aq⟩
    obtain⟨I',jA,kL,oo,_⟩:=kr.freeze iC ma.q;rw[zt.q,uz.q];exact⟨_,I',rfl,lF.grown hg lF.size (fun k hk=>by cases hk;omega),jA.mono (Nat.le_of_lt jR),kL,oo⟩
   ·have zt:=Qh (show bG t e=([],8) by rw[Ha.q];rfl);go_enter Tryz.func38,Tryz.ntmps38
    go_wp2_with fail
    refine(oH.q _ (hw.alloc _)).mono ?_;rintro e1 w1 ⟨rfl,aG⟩;have jT:=Qh (eO rfl aG);have aS:Ok I w1:=(hw.alloc _).below (Qn _) aG;have bW:w.heap.size<w1.heap.size:=by have:=aG.size;simp at this;omega
    have aO:Below w.heap.size w w1:=((Qb _ _).alloc (Qn _) _).trans (aG.mono (by simp));clear aG;obtain⟨c0,c1,c2,c3,c4,c5,c6⟩:=jT.q;go_wp2_with fail
    refine(tF.q _ aS).mono ?_;rintro e2 w2 ⟨rfl,aP⟩;have nL:=Qh (jT.q.aX aP);have bC:Ok I w2:=aS.below (Qn _) aP;have fw:w.heap.size<w2.heap.size:=by have:=aP.size;omega
    have bS:=aO.trans (aP.mono aO.size);clear aP aO bW aS c0 c1 c2 c3 c4 c5 c6 jT;obtain⟨c0,c1,c2,c3,c4,c5,c6⟩:=nL.q;go_wp2_with fail
    refine(qN.q _).mono ?_;rintro e3 w3 ⟨rfl,rfl⟩;go_wp2_with fail
    refine(pI.q _ bC).mono ?_;rintro e4 w4 ⟨rfl,bA⟩;have cK:Ok I w4:=bC.below (Qn _) bA;have eu:=bS.trans (bA.mono bS.size);have rD:=Qh (nL.q.aX bA);have kU:w.heap.size<w4.heap.size:=by have h2:=bA.size;omega
    clear bA c0 c1 c2 c3 c4 c5 c6;go_wp2_with fail
    refine(oI.q _ cK).mono ?_;rintro e5 w5 ⟨rfl,dm⟩;have dR:Ok I w5:=cK.below (Qn _) dm;have dG:=eu.trans (dm.mono eu.size);have qD:=Qh (rD.q.aX dm);have jR:w.heap.size<w5.heap.size:=by have h2:=dm.size;omega
    clear dm eu;have mh:=Qh (AJ I _ t Hv.q w5 dR (by omega));have jg:∀b,w5.heap.size≤b→I b=none:=fun b hb=>dR.fresh hb;have ma:=Qh jg;clear jg;go_wp2_with fail
    refine mh.q.mono ?_;rintro e6 w6 ⟨v6,rfl,iF,fC⟩;have gD:Ok I w6:=dR.below (Qn _) fC;have iq:=dG.trans (fC.mono dG.size);have uX:=Qh (qD.q.aX fC);have ni:=Qh iF;have xM:=Qh fC.size;clear iF fC dG;obtain⟨y',QJ,G6,b,off,cap',jJ,dC,⟨y0,_,_,_,_,_,_⟩,_,_⟩:=uT Hv.q gD i hi;cases dC;have EN:y'=y:=by rw[←jJ,Hy.q]
    subst EN;have g0:=cell_regrown uX.q.c0;have g1:=cell_regrown y0;clear jJ;go_wp2_with fail
    refine wp_region_quiet_below (by kernel_rfl) (by kernel_rfl) ?_;repeat(go_big_quiet_step ((fail)))
    refine wpQuiet_nil ?_;intro w7 dD;have ji:Below (w6).heap.size (w6) w7:=by
     obtain⟨pq,rfl⟩:=dD;exact below_regrown _ _ _
    clear dD;go_wp2;go_ret2;rw[zt.q];exact⟨_,I,rfl,iq.trans (ji.mono iq.size),Ext.refl _ _,gD.below (Qn _) ji,aY.nil _ _⟩
   ·have zt:=Qh (show bG t e=([],8) by rw[Ha.q];rfl);go_enter Tryz.func38,Tryz.ntmps38
    go_wp2_with fail
    refine(oH.q _ (hw.alloc _)).mono ?_;rintro e1 w1 ⟨rfl,aG⟩;have jT:=Qh (eO rfl aG);have aS:Ok I w1:=(hw.alloc _).below (Qn _) aG;have bW:w.heap.size<w1.heap.size:=by have:=aG.size;simp at this;omega
    have aO:Below w.heap.size w w1:=((Qb _ _).alloc (Qn _) _).trans (aG.mono (by simp));clear aG;obtain⟨c0,c1,c2,c3,c4,c5,c6⟩:=jT.q;go_wp2_with fail
    refine(tF.q _ aS).mono ?_;rintro e2 w2 ⟨rfl,aP⟩;have nL:=Qh (jT.q.aX aP);have bC:Ok I w2:=aS.below (Qn _) aP;have fw:w.heap.size<w2.heap.size:=by have:=aP.size;omega
    have bS:=aO.trans (aP.mono aO.size);clear aP aO bW aS c0 c1 c2 c3 c4 c5 c6 jT;obtain⟨c0,c1,c2,c3,c4,c5,c6⟩:=nL.q;go_wp2_with fail
    refine(qN.q _).mono ?_;rintro e3 w3 ⟨rfl,rfl⟩;go_wp2_with fail
    refine(pI.q _ bC).mono ?_;rintro e4 w4 ⟨rfl,bA⟩;have cK:Ok I w4:=bC.below (Qn _) bA;have eu:=bS.trans (bA.mono bS.size);have rD:=Qh (nL.q.aX bA);have kU:w.heap.size<w4.heap.size:=by have h2:=bA.size;omega
    clear bA c0 c1 c2 c3 c4 c5 c6;go_wp2_with fail
    refine(oI.q _ cK).mono ?_;rintro e5 w5 ⟨rfl,dm⟩;have dR:Ok I w5:=cK.below (Qn _) dm;have dG:=eu.trans (dm.mono eu.size);have qD:=Qh (rD.q.aX dm);have jR:w.heap.size<w5.heap.size:=by have h2:=dm.size;omega
    clear dm eu;have mh:=Qh (AJ I _ t Hv.q w5 dR (by omega));have jg:∀b,w5.heap.size≤b→I b=none:=fun b hb=>dR.fresh hb;have ma:=Qh jg;clear jg;go_wp2_with fail
    refine mh.q.mono ?_;rintro e6 w6 ⟨v6,rfl,iF,fC⟩;have gD:Ok I w6:=dR.below (Qn _) fC;have iq:=dG.trans (fC.mono dG.size);have uX:=Qh (qD.q.aX fC);have ni:=Qh iF;have xM:=Qh fC.size;clear iF fC dG;obtain⟨y',QJ,G6,b,off,cap',jJ,dC,⟨y0,_,_,_,_,_,_⟩,_,_⟩:=uT Hv.q gD i hi;cases dC;have EN:y'=y:=by rw[←jJ,Hy.q]
    subst EN;have g0:=cell_regrown uX.q.c0;have g1:=cell_regrown y0;clear jJ;go_wp2_with fail
    refine wp_region_quiet_below (by kernel_rfl) (by kernel_rfl) ?_;repeat(go_big_quiet_step ((fail)))
    refine wpQuiet_nil ?_;intro w7 dD;have ji:Below (w6).heap.size (w6) w7:=by
     obtain⟨pq,rfl⟩:=dD;exact below_regrown _ _ _
    clear dD;go_wp2;go_ret2;rw[zt.q];exact⟨_,I,rfl,iq.trans (ji.mono iq.size),Ext.refl _ _,gD.below (Qn _) ji,aY.nil _ _⟩
   ·have zt:=Qh (show bG t e=(iX t e,0) by rw[Ha.q];rfl);have xJ:(Tryz.prog.info? 81).map (·.size)=some 7:=by kernel_rfl
    have Du:=Qh xJ;clear xJ;go_enter Tryz.func38,Tryz.ntmps38
    go_wp2_with fail
    refine(oH.q _ (hw.alloc _)).mono ?_;rintro e1 w1 ⟨rfl,aG⟩;have jT:=Qh (eO rfl aG);have aS:Ok I w1:=(hw.alloc _).below (Qn _) aG;have bW:w.heap.size<w1.heap.size:=by have:=aG.size;simp at this;omega
    have aO:Below w.heap.size w w1:=((Qb _ _).alloc (Qn _) _).trans (aG.mono (by simp));clear aG;obtain⟨c0,c1,c2,c3,c4,c5,c6⟩:=jT.q;go_wp2_with fail
    refine(tF.q _ aS).mono ?_;rintro e2 w2 ⟨rfl,aP⟩;have nL:=Qh (jT.q.aX aP);have bC:Ok I w2:=aS.below (Qn _) aP;have fw:w.heap.size<w2.heap.size:=by have:=aP.size;omega
    have bS:=aO.trans (aP.mono aO.size);clear aP aO bW aS c0 c1 c2 c3 c4 c5 c6 jT;obtain⟨c0,c1,c2,c3,c4,c5,c6⟩:=nL.q;go_wp2_with fail
    refine(qN.q _).mono ?_;rintro e3 w3 ⟨rfl,rfl⟩;go_wp2_with fail
    refine(pI.q _ bC).mono ?_;rintro e4 w4 ⟨rfl,bA⟩;have cK:Ok I w4:=bC.below (Qn _) bA;have eu:=bS.trans (bA.mono bS.size);have rD:=Qh (nL.q.aX bA);have kU:w.heap.size<w4.heap.size:=by have h2:=bA.size;omega
    clear bA c0 c1 c2 c3 c4 c5 c6;go_wp2_with fail
    refine(oI.q _ cK).mono ?_;rintro e5 w5 ⟨rfl,dm⟩;have dR:Ok I w5:=cK.below (Qn _) dm;have dG:=eu.trans (dm.mono eu.size);have qD:=Qh (rD.q.aX dm);have jR:w.heap.size<w5.heap.size:=by have h2:=dm.size;omega
    clear dm eu;have mh:=Qh (AJ I _ t Hv.q w5 dR (by omega));have jg:∀b,w5.heap.size≤b→I b=none:=fun b hb=>dR.fresh hb;have ma:=Qh jg;clear jg;go_wp2_with fail
    refine mh.q.mono ?_;rintro e6 w6 ⟨v6,rfl,iF,fC⟩;have gD:Ok I w6:=dR.below (Qn _) fC;have iq:=dG.trans (fC.mono dG.size);have uX:=Qh (qD.q.aX fC);have ni:=Qh iF;have xM:=Qh fC.size;clear iF fC dG;obtain⟨y',QJ,G6,b,off,cap',jJ,dC,⟨y0,_,_,_,_,_,_⟩,_,_⟩:=uT Hv.q gD i hi;cases dC;have EN:y'=y:=by rw[←jJ,Hy.q]
    subst EN;have g0:=cell_regrown uX.q.c0;have g1:=cell_regrown y0;clear jJ;go_wp2_with fail
    refine wp_region_quiet_below (by kernel_rfl) (by kernel_rfl) ?_;repeat(go_big_quiet_step ((fail)))
    refine wpQuiet_nil ?_;intro w7 dD;have ji:Below (w6).heap.size (w6) w7:=by
     obtain⟨pq,rfl⟩:=dD;exact below_regrown _ _ _
    clear dD;have gT:Ok I w7:=gD.below (Qn _) ji;have lF:=iq.trans (ji.mono iq.size);have rE:=ni.q.below ji;obtain⟨c0,c1,c2,c3,c4,c5,c6⟩:=uX.q.aX ji;clear ji g0 g1 y0 iq gD;obtain⟨xs,⟨mI,aU⟩,hL⟩:=rE;rcases aU with⟨Pd,vv⟩|⟨g,rY,cur,rfl,ym,nS,EO,zu,fK,qo⟩
    ·omega
    have iw:cur.size=rY*7:=fK;have jC:cur.toList.take (t.length*7)=xs:=qo;have pu:xs.length=t.length*7:=mI;have j5:i*7+7≤cur.size:=by omega
    have zw:=Qh nS;have HL:=Qh hL;have tC:=Qh jC;have za:=Qh (show(over cur (i*7) (fT e (.slice aa e.au.length ca) (.slice ax e.aD.length cx))).size=rY*7 by rw[yx _ _ _ j5,iw]);have QK:=Qh (show(over cur (i*7) (fT e (.slice aa e.au.length ca) (.slice ax e.aD.length cx))).toList.take (t.length*7)=xs.take (i*7)++fT e (.slice aa e.au.length ca) (.slice ax e.aD.length cx)++xs.drop (i*7+7) by
     rw[Xm _ _ _ _ (show i*7+7≤t.length*7 by omega) (by omega),jC];rfl)
    have uV:maxLen=9223372036854775807:=rfl;rw[uV]at zu;clear nS hL qo jC fK iw mI pu uV;go_wp2_with (refine Qz rfl 81 _ _ rfl g (i*7) (fT e (.slice aa e.au.length ca) (.slice ax e.aD.length cx)) (by simp[Act.eval]) rfl cur 81 zw.q j5 Du.q (bJ.one xL.q) ?_)
    go_ret2;have Aq:=HL.q.set hi xL.q;have hg:w7.grownBy (w7.setRow g (over cur (i*7) (fT e (.slice aa e.au.length ca) (.slice ax e.aD.length cx)))) (some g):=vE;have iC:=gT.grown hg (fun g' Gt=>by cases Gt;exact ma.q _ ym);have kr:aN bJ 81 I (w7.setRow g (over cur (i*7) (fT e (.slice aa e.au.length ca) (.slice ax e.aD.length cx)))) w5.heap.size (.slice (some ⟨g,0,none⟩) t.length rY) (t.set i e):=by
     refine⟨_,⟨Aq.1,.inr ⟨g,rY,_,by rw[List.length_set],ym,setRow_heap _ _ _ _ _ _ zw.q,by rw[List.length_set];exact EO,by unfold maxLen;exact zu,za.q,by rw[List.length_set];exact QK.q⟩⟩,Aq⟩
    obtain⟨I',jA,kL,oo,_⟩:=kr.freeze iC ma.q;rw[zt.q,uz.q];exact⟨_,I',rfl,lF.grown hg lF.size (fun k hk=>by cases hk;omega),jA.mono (Nat.le_of_lt jR),kL,oo⟩
  ·subst Ap;have Pe:=Xl e2;have Xq:∀x∈t,x.ag≠e.ag:=fun x hx hp=>by
    rw[List.any_eq_true.2 ⟨x,hx,by simpa[ng]using hp⟩]at e2;exact absurd e2 (by simp)
   have Ha:=Qh (Xkj H0.q AL.q Xp.q Pe);have uz:=Qh (Xr2 Xo.q e Xq);have JW:=(Np (ek t e.ag) 0 t.length (Nat.zero_le _)).2;clear e2 Pe Xq;by_cases h5:5000≤t.length
   ·have hd5:decide (5000≤t.length)=true:=Qt h5;have zt:=Qh (show bG t e=([],6) by rw[Ha.q,if_pos h5]);go_enter Tryz.func38,Tryz.ntmps38
    go_wp2_with fail
    refine(oH.q _ (hw.alloc _)).mono ?_;rintro e1 w1 ⟨rfl,aG⟩;have jT:=Qh (eO rfl aG);have aS:Ok I w1:=(hw.alloc _).below (Qn _) aG;have bW:w.heap.size<w1.heap.size:=by have:=aG.size;simp at this;omega
    have aO:Below w.heap.size w w1:=((Qb _ _).alloc (Qn _) _).trans (aG.mono (by simp));clear aG;obtain⟨c0,c1,c2,c3,c4,c5,c6⟩:=jT.q;go_wp2_with fail
    refine(tF.q _ aS).mono ?_;rintro e2 w2 ⟨rfl,aP⟩;have nL:=Qh (jT.q.aX aP);have bC:Ok I w2:=aS.below (Qn _) aP;have fw:w.heap.size<w2.heap.size:=by have:=aP.size;omega
    have bS:=aO.trans (aP.mono aO.size);clear aP aO bW aS c0 c1 c2 c3 c4 c5 c6 jT;obtain⟨c0,c1,c2,c3,c4,c5,c6⟩:=nL.q;go_wp2_with fail
    refine(qN.q _).mono ?_;rintro e3 w3 ⟨rfl,rfl⟩;go_wp2_with fail
    refine(pI.q _ bC).mono ?_;rintro e4 w4 ⟨rfl,bA⟩;have cK:Ok I w4:=bC.below (Qn _) bA;have eu:=bS.trans (bA.mono bS.size);have rD:=Qh (nL.q.aX bA);have kU:w.heap.size<w4.heap.size:=by have h2:=bA.size;omega
    clear bA c0 c1 c2 c3 c4 c5 c6;go_wp2_with fail
    refine(oI.q _ cK).mono ?_;rintro e5 w5 ⟨rfl,dm⟩;have dR:Ok I w5:=cK.below (Qn _) dm;have dG:=eu.trans (dm.mono eu.size);have qD:=Qh (rD.q.aX dm);have jR:w.heap.size<w5.heap.size:=by have h2:=dm.size;omega
    clear dm eu;have mh:=Qh (AJ I _ t Hv.q w5 dR (by omega));have jg:∀b,w5.heap.size≤b→I b=none:=fun b hb=>dR.fresh hb;have ma:=Qh jg;clear jg;go_wp2_with fail
    refine mh.q.mono ?_;rintro e6 w6 ⟨v6,rfl,iF,fC⟩;have gD:Ok I w6:=dR.below (Qn _) fC;have iq:=dG.trans (fC.mono dG.size);have uX:=Qh (qD.q.aX fC);have ni:=Qh iF;have xM:=Qh fC.size;clear iF fC dG;go_wp2;go_ret2;rw[zt.q];exact⟨_,I,rfl,iq,Ext.refl _ _,gD,aY.nil _ _⟩
   have hd5:decide (5000≤t.length)=false:=Qf h5;have zt:=Qh (show bG t e=(iX t e,0) by rw[Ha.q,if_neg h5]);go_enter Tryz.func38,Tryz.ntmps38
   go_wp2_with fail
   refine(oH.q _ (hw.alloc _)).mono ?_;rintro e1 w1 ⟨rfl,aG⟩;have jT:=Qh (eO rfl aG);have aS:Ok I w1:=(hw.alloc _).below (Qn _) aG;have bW:w.heap.size<w1.heap.size:=by have:=aG.size;simp at this;omega
   have aO:Below w.heap.size w w1:=((Qb _ _).alloc (Qn _) _).trans (aG.mono (by simp));clear aG;obtain⟨c0,c1,c2,c3,c4,c5,c6⟩:=jT.q;go_wp2_with fail
   refine(tF.q _ aS).mono ?_;rintro e2 w2 ⟨rfl,aP⟩;have nL:=Qh (jT.q.aX aP);have bC:Ok I w2:=aS.below (Qn _) aP;have fw:w.heap.size<w2.heap.size:=by have:=aP.size;omega
   have bS:=aO.trans (aP.mono aO.size);clear aP aO bW aS c0 c1 c2 c3 c4 c5 c6 jT;obtain⟨c0,c1,c2,c3,c4,c5,c6⟩:=nL.q;go_wp2_with fail
   refine(qN.q _).mono ?_;rintro e3 w3 ⟨rfl,rfl⟩;go_wp2_with fail
   refine(pI.q _ bC).mono ?_;rintro e4 w4 ⟨rfl,bA⟩;have cK:Ok I w4:=bC.below (Qn _) bA;have eu:=bS.trans (bA.mono bS.size);have rD:=Qh (nL.q.aX bA);have kU:w.heap.size<w4.heap.size:=by have h2:=bA.size;omega
   clear bA c0 c1 c2 c3 c4 c5 c6;go_wp2_with fail
   refine(oI.q _ cK).mono ?_;rintro e5 w5 ⟨rfl,dm⟩;have dR:Ok I w5:=cK.below (Qn _) dm;have dG:=eu.trans (dm.mono eu.size);have qD:=Qh (rD.q.aX dm);have jR:w.heap.size<w5.heap.size:=by have h2:=dm.size;omega
   clear dm eu;have mh:=Qh (AJ I _ t Hv.q w5 dR (by omega));have jg:∀b,w5.heap.size≤b→I b=none:=fun b hb=>dR.fresh hb;have ma:=Qh jg;clear jg;go_wp2_with fail
   refine mh.q.mono ?_;rintro e6 w6 ⟨v6,rfl,iF,fC⟩;have gD:Ok I w6:=dR.below (Qn _) fC;have iq:=dG.trans (fC.mono dG.size);have uX:=Qh (qD.q.aX fC);have ni:=Qh iF;have xM:=Qh fC.size;clear iF fC dG;obtain⟨I',hx',Mw,EP,_⟩:=ni.q.freeze gD ma.q;have Xr:=Qh (Xc1 I' (hI.mono (hx'.keep dR (Qn _))) v6 t EP (by omega) Hs.q e.ag nO w6 Mw);generalize bs (ek t e.ag) 0 t.length=i at Xr uz JW;obtain⟨a6,c6',rfl,_,_,_⟩:=id EP;obtain⟨c0,c1,c2,c3,c4,c5,c6⟩:=uX.q;clear hx' Mw EP;go_wp2_with fail
   refine Xr.q.mono ?_;rintro e7 w7 ⟨fb,rfl,ji⟩;clear c0 c1 c2 c3 c4 c5 c6;have gT:Ok I w7:=gD.below (Qn _) ji;have lF:=iq.trans (ji.mono iq.size);have JX:=Qh (Nat.le_trans xM.q ji.size);obtain⟨c0,c1,c2,c3,c4,c5,c6⟩:=uX.q.aX ji;have zx:=Qh (ni.q.below ji);have aZ:=zx.q.wE (Qn w7.heap.size);have zh:=Qh (Xmh I w5.heap.size _ t e w7.heap.size i 81 (fT e (.slice aa e.au.length ca) (.slice ax e.aD.length cx)) _ (zx.q.alloc (.cells #[.int .i64 e.aj,S e.ag,.slice aa e.au.length ca,S e.av,.int .i64 e.size,S e.aI,.slice ax e.aD.length cx] 81)) xL.q (heap_alloc_new w7 (.cells #[.int .i64 e.aj,S e.ag,.slice aa e.au.length ca,S e.av,.int .i64 e.size,S e.aI,.slice ax e.aD.length cx] 81)) aZ JW (by omega) (by have:=JX.q;simp;omega));clear ji aZ;go_wp2_with fail
   refine zh.q.mono ?_;rintro e8 w8 ⟨v8,rfl,kr,uW⟩;have uu:=Qh kr;have Dn:=Qh uW;clear kr uW;go_wp2;go_ret2;rw[zt.q,uz.q];have QL:Ok I (w7.alloc (.cells #[.int .i64 e.aj,S e.ag,.slice aa e.au.length ca,S e.av,.int .i64 e.size,S e.aI,.slice ax e.aD.length cx] 81)):=gT.alloc _;have rE:=zx.q.alloc (.cells #[.int .i64 e.aj,S e.ag,.slice aa e.au.length ca,S e.av,.int .i64 e.size,S e.aI,.slice ax e.aD.length cx] 81);have oQ:=Below.own (lF.alloc lF.size _) Dn.q rE (Nat.le_of_lt jR) (by have:=JX.q;simp;omega);have iC:Ok I w8:=Ok.own QL Dn.q rE ma.q;obtain⟨M9,jA,kL,oo,_⟩:=uu.q.freeze iC ma.q;exact⟨_,M9,rfl,oQ,jA.mono (Nat.le_of_lt jR),kL,oo⟩
