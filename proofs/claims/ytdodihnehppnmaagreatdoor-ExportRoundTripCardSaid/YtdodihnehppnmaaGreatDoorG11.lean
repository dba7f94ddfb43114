/- Lemmas for the claim's theorem;conditions: as each says. -/
import Derived.Test.YtdodihnehppnmaaGreatDoorG10
set_option maxHeartbeats 0
set_option maxRecDepth 100000
set_option linter.all false
namespace Go.Proofs.YtdodihnehppnmaaGreatDoor
open Go.RowKit
variable{t:List ay}{e:ay}{p:ae}{i:Nat}
theorem Xkk(h:az e≠0):bL t e=([],az e):=by rw[bL,if_pos h]
theorem TD(h:az e=0)(hk:3<e.ag)(hg:¬(dC t e.af=none∧e.af≠[])):bL t e=(t.filter fun x=> !(gz e x),0):=by
 rw[bL,if_neg (by omega),if_pos hk,if_neg hg];by_cases h4:e.ag=4
 ·rw[if_pos h4];congr 2;funext x;rw[gz,Qt h4,Bool.true_and]
 ·rw[if_neg h4];congr 1;symm;exact List.filter_eq_self.2 fun x _=>by rw[gz,Qf h4];rfl
theorem Xjf(h:az e=0)(hk:3<e.ag)(hg:dC t e.af=none∧e.af≠[]):bL t e=([],9):=by
 rw[bL,if_neg (by omega),if_pos hk,if_pos hg]
theorem Xkj(h:az e=0)(hk:¬3<e.ag)(hd:aU t (jO e.af)≠0):bL t e=([],aU t (jO e.af)):=by
 rw[bL,if_neg (by omega),if_neg hk,if_pos hd]
theorem Xjd{y:ay}(h:az e=0)(hk:¬3<e.ag)(hd:aU t (jO e.af)=0)(hy:dC t e.af=some y):bL t e=if(y.ag==2) !=(e.ag==2)then([],8)else(eF t e,0):=by
 rw[bL,if_neg (by omega),if_neg hk,if_neg (by omega),hy]
theorem Xje(h:az e=0)(hk:¬3<e.ag)(hd:aU t (jO e.af)=0)(hy:dC t e.af=none):bL t e=if 5000≤t.length then([],6)else(eF t e,0):=by
 rw[bL,if_neg (by omega),if_neg hk,if_neg (by omega),hy]
theorem Xt2(hi:i<t.length)(hp:nJ p t[i]=true)(hn:(t.take i).any (nJ p)=false):dC t p=some t[i]:=by
 have:=Xm4 hi hp hn;unfold jf at this;cases h:dC t p with
 |none=>rw[h]at this;simp at this
 |some x=>rw[h]at this;simp at this;rw[this]
theorem Xt1(hn:t.any (nJ p)=false):dC t p=none:=by
 have:=Xm5 hn;unfold jf at this;cases h:dC t p with
 |none=>rfl
 |some x=>rw[h]at this;simp at this
theorem aW.own{w w':World}{n:Nat}{va vx:Value}{row:Option Nat}(h:aW w n e va vx)(hg:w.grownBy w' row)(cK:row≠some n):aW w' n e va vx:=
 ⟨xz hg cK h.c0,xz hg cK h.c1,xz hg cK h.c2,xz hg cK h.c3,xz hg cK h.c4,xz hg cK h.c5,xz hg cK h.c6⟩
theorem bR.set{I:IH}{xs cs:List Value}{l:List ay}(h:bR bC I xs l)(hi:i<l.length){x:ay}(hx:bC.rd I cs x):bR bC I (xs.take (i*7)++cs++xs.drop (i*7+7)) (l.set i x):=by
 have h1:=((h.take i).append (bR.one hx)).append (h.drop (i+1));have hs:bC.size=7:=rfl;rw[hs,show(i+1)*7=i*7+7 by omega]at h1;have e:l.set i x=l.take i++[x]++l.drop (i+1):=by
  rw[List.set_eq_take_append_cons_drop,if_pos hi];simp
 rw[e];exact h1
theorem Xfw(cur:Array Value)(o m:Nat)(cs:List Value)(h:o+cs.length≤m)(hm:m≤cur.size):(over cur o cs).toList.take m=(cur.toList.take m).take o++cs++(cur.toList.take m).drop (o+cs.length):=by
 simp only[over];rw[List.take_append,List.take_of_length_le (by simp;omega)];congr 1
 ·rw[List.take_take,Nat.min_eq_left (by omega)]
 ·rw[List.drop_take];congr 1;simp;omega
theorem WZ(I:IH)(hI:dG I)(v:Value)(t:List ay)(hv:bf bC I v t)(hs:pJ t)(IW:fC t)(hn:t.length≤100000)(e:ay)(va vx:Value)(dV:bf kT I va e.ai)(dX:bf mE I vx e.ak)(iZ:e.Wf)(mK:e.af.length≤4294967280)(o9:e.target.length≤4294967280)(w:World)(hw:Ok I w):
 Calls Tryz.prog 31 #[v,eT e va vx] w (uT bC I w (bL t e).1 (bL t e).2):=by
 have hlen:=hv.dh;have j6:=Qh (fun w hw=>TA I hI e va vx dV dX iZ mK o9 w hw);obtain⟨ao,cap,rfl,dD,il,_⟩:=id hv;have Hv:=Qh hv;obtain⟨aa,ca,rfl,_,_,_⟩:=id dV;obtain⟨ax,cx,rfl,_,_,_⟩:=id dX;have ku:=Qh (show bC.rd I (dB e (.slice aa e.ai.length ca) (.slice ax e.ak.length cx)) e from⟨_,_,rfl,dV,dX⟩);have Hs:=Qh hs;have Hsr:=Qh IW;clear hv dV dX hs IW;by_cases h0:az e=0;case neg=>
  have Ha:=Qh (Xkk (t:=t) h0);obtain⟨q,hq⟩:∃q,az e=q:=⟨_,rfl⟩;have Ao:(q !=0)=true:=by rw[←hq];simpa using h0
  rw[hq]at j6 Ha;clear hq h0;go_enter Tryz.func31,Tryz.ntmps31
  go_wp2_with fail
  refine(j6.O _ (hw.alloc _)).mono ?_;rintro e1 w1 ⟨rfl,au⟩;have gP:=Qh (bS rfl au);have aB:Ok I w1:=(hw.alloc _).below (Qn _) au;have cO:w.heap.size<w1.heap.size:=by have:=au.size;simp at this;omega
  have av:Below w.heap.size w w1:=((Qb _ _).alloc (Qn _) _).trans (au.mono (by simp));clear au;go_wp2;go_ret2;rw[Ha.O];exact⟨_,I,rfl,av,Ext.refl _ _,aB,bf.nil _ _⟩
 have nu:=CF h0;have H0:=Qh h0;rw[h0]at j6;have uZ:=Qh (WN e.ag);have DJ:=Qh (fun w hw=>WL I _ t Hv.O e.af w hw);have Ap:=IE t (nJ e.af);generalize l9 t (nJ e.af)=ix at DJ Ap;clear h0;by_cases tL:3<e.ag
 ·have lW:inT e.ag=false:=by
   cases h:inT e.ag with
   |false=>rfl
   |true=>have:=lU.1 h;omega
  rw[lW]at uZ;have vO:=Qh tL;clear lW;have nE:(∃i:Nat,ix=i∧i<t.length∧dC t e.af≠none)∨(ix= -1∧dC t e.af=none):=by
   rcases Ap with⟨i,hi,e1,e2,e3⟩|⟨e1,e2⟩
   ·exact .inl ⟨i,e1,hi,by rw[Xt2 hi e2 e3];simp⟩
   ·exact .inr ⟨e1,Xt1 e2⟩
  clear Ap;have Mo:(∃i:Nat,ix=i∧i<t.length∧dC t e.af≠none)∨(ix= -1∧e.af=[])∨(ix= -1∧dC t e.af=none∧e.af≠[]):=by
   rcases nE with h|⟨h1,h2⟩
   ·exact .inl h
   ·by_cases hp:e.af=[]
    ·exact .inr (.inl ⟨h1,hp⟩)
    ·exact .inr (.inr ⟨h1,h2,hp⟩)
  clear nE;rcases Mo with⟨i,rfl,hi,hg⟩|⟨rfl,hp⟩|⟨rfl,hg,hp⟩
  ·have Ha:=Qh (TD (t:=t) H0.O vO.O fun h=>hg h.1);clear hg;go_enter Tryz.func31,Tryz.ntmps31
   go_wp2_with fail
   refine(j6.O _ (hw.alloc _)).mono ?_;rintro e1 w1 ⟨rfl,au⟩;have gP:=Qh (bS rfl au);have aB:Ok I w1:=(hw.alloc _).below (Qn _) au;have cO:w.heap.size<w1.heap.size:=by have:=au.size;simp at this;omega
   have av:Below w.heap.size w w1:=((Qb _ _).alloc (Qn _) _).trans (au.mono (by simp));clear au;obtain⟨c0,c1,c2,c3,c4,c5,c6⟩:=gP.O;go_wp2_with fail
   refine(DJ.O _ aB).mono ?_;rintro e2 w2 ⟨rfl,aD⟩;have kU:=Qh (gP.O.aA aD);have aP:Ok I w2:=aB.below (Qn _) aD;have fe:w.heap.size<w2.heap.size:=by have:=aD.size;omega
   have aK:=av.trans (aD.mono av.size);clear aD av cO aB c0 c1 c2 c3 c4 c5 c6 gP;obtain⟨c0,c1,c2,c3,c4,c5,c6⟩:=kU.O;go_wp2_with fail
   refine(uZ.O _).mono ?_;rintro e3 w3 ⟨rfl,rfl⟩;have vw:=Qh (IV I _ t Hv.O w2 aP (by omega));have eG:∀b,w2.heap.size≤b→I b=none:=fun b hb=>aP.fresh hb;have jw:=Qh eG;clear eG;go_wp2_with fail
   refine vw.O.mono ?_;rintro e4 w4 ⟨v4,rfl,nP,aL⟩;have bA:Ok I w4:=aP.below (Qn _) aL;have aO:=aK.trans (aL.mono aK.size);have fG:=Qh (kU.O.aA aL);have aV:=Qh nP;have DK:=Qh aL.size;have KA:=Qh (Xeg I w2.heap.size v4 t w4 aV.O (by omega) 78 #[.pointer (some ⟨w.heap.size,0,none⟩)] (gz e) bA jw.O DK.O (fun _ _=>by kernel_rfl) (Xnh I hI e mK w.heap.size _ _ t Hs.O _ fun W hW=>⟨bA.grown hW (fun g hg=>jw.O g (aV.O.qY hg)),fG.O.own hW (aV.O.dw fe)⟩));clear nP aL c0 c1 c2 c3 c4 c5 c6;go_wp2_with fail
   refine KA.O.mono ?_;rintro e5 w5 ⟨v5,rfl,gM,hg5⟩;have fB:=Qh gM;have Pz:=Qh hg5;clear gM hg5;go_wp2;go_ret2;rw[Ha.O];have aY:=Below.own aO Pz.O aV.O (Nat.le_of_lt fe) DK.O;have bX:Ok I w5:=Ok.own bA Pz.O aV.O jw.O;obtain⟨I',jo,jA,kG,_⟩:=fB.O.freeze bX jw.O;exact⟨_,I',rfl,aY,jo.mono (Nat.le_of_lt fe),jA,kG⟩
  ·have Ha:=Qh (TD (t:=t) H0.O vO.O fun h=>h.2 hp);obtain⟨p1,p2,p3,p4⟩:=Bu hp;clear hp;go_enter Tryz.func31,Tryz.ntmps31
   go_wp2_with fail
   refine(j6.O _ (hw.alloc _)).mono ?_;rintro e1 w1 ⟨rfl,au⟩;have gP:=Qh (bS rfl au);have aB:Ok I w1:=(hw.alloc _).below (Qn _) au;have cO:w.heap.size<w1.heap.size:=by have:=au.size;simp at this;omega
   have av:Below w.heap.size w w1:=((Qb _ _).alloc (Qn _) _).trans (au.mono (by simp));clear au;obtain⟨c0,c1,c2,c3,c4,c5,c6⟩:=gP.O;go_wp2_with fail
   refine(DJ.O _ aB).mono ?_;rintro e2 w2 ⟨rfl,aD⟩;have kU:=Qh (gP.O.aA aD);have aP:Ok I w2:=aB.below (Qn _) aD;have fe:w.heap.size<w2.heap.size:=by have:=aD.size;omega
   have aK:=av.trans (aD.mono av.size);clear aD av cO aB c0 c1 c2 c3 c4 c5 c6 gP;obtain⟨c0,c1,c2,c3,c4,c5,c6⟩:=kU.O;go_wp2_with fail
   refine(uZ.O _).mono ?_;rintro e3 w3 ⟨rfl,rfl⟩;have vw:=Qh (IV I _ t Hv.O w2 aP (by omega));have eG:∀b,w2.heap.size≤b→I b=none:=fun b hb=>aP.fresh hb;have jw:=Qh eG;clear eG;go_wp2_with fail
   refine vw.O.mono ?_;rintro e4 w4 ⟨v4,rfl,nP,aL⟩;have bA:Ok I w4:=aP.below (Qn _) aL;have aO:=aK.trans (aL.mono aK.size);have fG:=Qh (kU.O.aA aL);have aV:=Qh nP;have DK:=Qh aL.size;have KA:=Qh (Xeg I w2.heap.size v4 t w4 aV.O (by omega) 78 #[.pointer (some ⟨w.heap.size,0,none⟩)] (gz e) bA jw.O DK.O (fun _ _=>by kernel_rfl) (Xnh I hI e mK w.heap.size _ _ t Hs.O _ fun W hW=>⟨bA.grown hW (fun g hg=>jw.O g (aV.O.qY hg)),fG.O.own hW (aV.O.dw fe)⟩));clear nP aL c0 c1 c2 c3 c4 c5 c6;go_wp2_with fail
   refine KA.O.mono ?_;rintro e5 w5 ⟨v5,rfl,gM,hg5⟩;have fB:=Qh gM;have Pz:=Qh hg5;clear gM hg5;go_wp2;go_ret2;rw[Ha.O];have aY:=Below.own aO Pz.O aV.O (Nat.le_of_lt fe) DK.O;have bX:Ok I w5:=Ok.own bA Pz.O aV.O jw.O;obtain⟨I',jo,jA,kG,_⟩:=fB.O.freeze bX jw.O;exact⟨_,I',rfl,aY,jo.mono (Nat.le_of_lt fe),jA,kG⟩
  ·have Ha:=Qh (Xjf (t:=t) H0.O vO.O ⟨hg,hp⟩);obtain⟨p1,p2,p3,p4⟩:=zC hp;clear hp hg;go_enter Tryz.func31,Tryz.ntmps31
   go_wp2_with fail
   refine(j6.O _ (hw.alloc _)).mono ?_;rintro e1 w1 ⟨rfl,au⟩;have gP:=Qh (bS rfl au);have aB:Ok I w1:=(hw.alloc _).below (Qn _) au;have cO:w.heap.size<w1.heap.size:=by have:=au.size;simp at this;omega
   have av:Below w.heap.size w w1:=((Qb _ _).alloc (Qn _) _).trans (au.mono (by simp));clear au;obtain⟨c0,c1,c2,c3,c4,c5,c6⟩:=gP.O;go_wp2_with fail
   refine(DJ.O _ aB).mono ?_;rintro e2 w2 ⟨rfl,aD⟩;have kU:=Qh (gP.O.aA aD);have aP:Ok I w2:=aB.below (Qn _) aD;have fe:w.heap.size<w2.heap.size:=by have:=aD.size;omega
   have aK:=av.trans (aD.mono av.size);clear aD av cO aB c0 c1 c2 c3 c4 c5 c6 gP;obtain⟨c0,c1,c2,c3,c4,c5,c6⟩:=kU.O;go_wp2_with fail
   refine(uZ.O _).mono ?_;rintro e3 w3 ⟨rfl,rfl⟩;go_wp2;go_ret2;rw[Ha.O];exact⟨_,I,rfl,aK,Ext.refl _ _,aP,bf.nil _ _⟩
 ·have lW:inT e.ag=true:=lU.2 (by omega);rw[lW]at uZ;have vO:=Qh tL;have DL:e.af≠[]:=fun hp=>by have:=nu.2.2.2 hp;omega
  have ll:=Qh (fun w hw=>VV I hI e.af mK w hw);rw[VR nu.2.2.1 DL]at ll;have lK:=Qh (fun w hw=>WM I _ t Hv.O (jO e.af) w hw);clear lW DL;by_cases tq:aU t (jO e.af)=0;case neg=>
   have Ha:=Qh (Xkj (t:=t) H0.O vO.O tq);obtain⟨q,hq⟩:∃q,aU t (jO e.af)=q:=⟨_,rfl⟩;have Ao:(q !=0)=true:=by rw[←hq];simpa using tq
   rw[hq]at lK Ha;clear hq tq Ap;go_enter Tryz.func31,Tryz.ntmps31
   go_wp2_with fail
   refine(j6.O _ (hw.alloc _)).mono ?_;rintro e1 w1 ⟨rfl,au⟩;have gP:=Qh (bS rfl au);have aB:Ok I w1:=(hw.alloc _).below (Qn _) au;have cO:w.heap.size<w1.heap.size:=by have:=au.size;simp at this;omega
   have av:Below w.heap.size w w1:=((Qb _ _).alloc (Qn _) _).trans (au.mono (by simp));clear au;obtain⟨c0,c1,c2,c3,c4,c5,c6⟩:=gP.O;go_wp2_with fail
   refine(DJ.O _ aB).mono ?_;rintro e2 w2 ⟨rfl,aD⟩;have kU:=Qh (gP.O.aA aD);have aP:Ok I w2:=aB.below (Qn _) aD;have fe:w.heap.size<w2.heap.size:=by have:=aD.size;omega
   have aK:=av.trans (aD.mono av.size);clear aD av cO aB c0 c1 c2 c3 c4 c5 c6 gP;obtain⟨c0,c1,c2,c3,c4,c5,c6⟩:=kU.O;go_wp2_with fail
   refine(uZ.O _).mono ?_;rintro e3 w3 ⟨rfl,rfl⟩;go_wp2_with fail
   refine(ll.O _ aP).mono ?_;rintro e4 w4 ⟨rfl,aL⟩;have bA:Ok I w4:=aP.below (Qn _) aL;have aO:=aK.trans (aL.mono aK.size);have fG:=Qh (kU.O.aA aL);have dH:w.heap.size<w4.heap.size:=by have h2:=aL.size;omega
   clear aL c0 c1 c2 c3 c4 c5 c6;go_wp2_with fail
   refine(lK.O _ bA).mono ?_;rintro e5 w5 ⟨rfl,aY⟩;have bX:Ok I w5:=bA.below (Qn _) aY;have bV:=aO.trans (aY.mono aO.size);have mD:=Qh (fG.O.aA aY);have jN:w.heap.size<w5.heap.size:=by have h2:=aY.size;omega
   clear aY aO;go_wp2;go_ret2;rw[Ha.O];exact⟨_,I,rfl,bV,Ext.refl _ _,bX,bf.nil _ _⟩
  have PC:=Qh tq;rw[tq]at lK;clear tq;rcases Ap with⟨i,hi,Ap,e2,e3⟩|⟨Ap,e2⟩
  ·subst Ap;have Ns:=Xt2 hi e2 e3;have Mq:t[i].af=e.af:=by simpa[nJ]using e2
   obtain⟨y,hy⟩:∃y,t[i]=y:=⟨_,rfl⟩;rw[hy]at Ns;have Hy:=Qh hy;have DN:=Qh (Xwd Hsr.O e hi Mq);obtain⟨b1,au⟩:∃b,((y.ag:Int)==2)=b:=⟨_,rfl⟩;obtain⟨b2,aD⟩:∃b,((e.ag:Int)==2)=b:=⟨_,rfl⟩;have Ha:=Qh (Xjd H0.O vO.O PC.O Ns);rw[au,aD]at Ha;clear e2 e3 hy Ns Mq;cases b1<;>cases b2
   ·have AV:=Qh (show bL t e=(eF t e,0) by rw[Ha.O];rfl);have lI:(Tryz.prog.info? 26).map (·.size)=some 7:=by kernel_rfl
    have BH:=Qh lI;clear lI;go_enter Tryz.func31,Tryz.ntmps31
    go_wp2_with fail
    refine(j6.O _ (hw.alloc _)).mono ?_;rintro e1 w1 ⟨rfl,au⟩;have gP:=Qh (bS rfl au);have aB:Ok I w1:=(hw.alloc _).below (Qn _) au;have cO:w.heap.size<w1.heap.size:=by have:=au.size;simp at this;omega
    have av:Below w.heap.size w w1:=((Qb _ _).alloc (Qn _) _).trans (au.mono (by simp));clear au;obtain⟨c0,c1,c2,c3,c4,c5,c6⟩:=gP.O;go_wp2_with fail
    refine(DJ.O _ aB).mono ?_;rintro e2 w2 ⟨rfl,aD⟩;have kU:=Qh (gP.O.aA aD);have aP:Ok I w2:=aB.below (Qn _) aD;have fe:w.heap.size<w2.heap.size:=by have:=aD.size;omega
    have aK:=av.trans (aD.mono av.size);clear aD av cO aB c0 c1 c2 c3 c4 c5 c6 gP;obtain⟨c0,c1,c2,c3,c4,c5,c6⟩:=kU.O;go_wp2_with fail
    refine(uZ.O _).mono ?_;rintro e3 w3 ⟨rfl,rfl⟩;go_wp2_with fail
    refine(ll.O _ aP).mono ?_;rintro e4 w4 ⟨rfl,aL⟩;have bA:Ok I w4:=aP.below (Qn _) aL;have aO:=aK.trans (aL.mono aK.size);have fG:=Qh (kU.O.aA aL);have dH:w.heap.size<w4.heap.size:=by have h2:=aL.size;omega
    clear aL c0 c1 c2 c3 c4 c5 c6;go_wp2_with fail
    refine(lK.O _ bA).mono ?_;rintro e5 w5 ⟨rfl,aY⟩;have bX:Ok I w5:=bA.below (Qn _) aY;have bV:=aO.trans (aY.mono aO.size);have mD:=Qh (fG.O.aA aY);have jN:w.heap.size<w5.heap.size:=by have h2:=aY.size;omega
    clear aY aO;have vw:=Qh (IV I _ t Hv.O w5 bX (by omega));have eG:∀b,w5.heap.size≤b→I b=none:=fun b hb=>bX.fresh hb;have jw:=Qh eG;clear eG;go_wp2_with fail
    refine vw.O.mono ?_;rintro e6 w6 ⟨v6,rfl,kg,fF⟩;have lm:Ok I w6:=bX.below (Qn _) fF;have iT:=bV.trans (fF.mono bV.size);have zf:=Qh (mD.O.aA fF);have qC:=Qh kg;have BJ:=Qh fF.size;clear kg fF bV;obtain⟨y',Nt,KC,b,off,cap',iB,di,⟨y0,_,_,_,_,_,_⟩,_,_⟩:=oG Hv.O lm i hi;cases di;have KD:y'=y:=by rw[←iB,Hy.O]
    subst KD;have g0:=cell_regrown zf.O.c0;have g1:=cell_regrown y0;clear iB;go_wp2_with fail
    refine wp_region_quiet_below (by kernel_rfl) (by kernel_rfl) ?_;repeat(go_big_quiet_step ((fail)))
    refine wpQuiet_nil ?_;intro w7 bg;have jJ:Below (w6).heap.size (w6) w7:=by
     obtain⟨pq,rfl⟩:=bg;exact below_regrown _ _ _
    clear bg;have nQ:Ok I w7:=lm.below (Qn _) jJ;have qD:=iT.trans (jJ.mono iT.size);have iy:=qC.O.below jJ;obtain⟨c0,c1,c2,c3,c4,c5,c6⟩:=zf.O.aA jJ;clear jJ g0 g1 y0 iT lm;obtain⟨xs,⟨mP,aZ⟩,hL⟩:=iy;rcases aZ with⟨h00,pR⟩|⟨g,wR,cur,rfl,Cx,um,sH,yB,iY,qJ⟩
    ·omega
    have lv:cur.size=wR*7:=iY;have mg:cur.toList.take (t.length*7)=xs:=qJ;have ui:xs.length=t.length*7:=mP;have nk:i*7+7≤cur.size:=by omega
    have DR:=Qh um;have HL:=Qh hL;have nG:=Qh mg;have zF:=Qh (show(over cur (i*7) (dB e (.slice aa e.ai.length ca) (.slice ax e.ak.length cx))).size=wR*7 by rw[CG _ _ _ nk,lv]);have Xa:=Qh (show(over cur (i*7) (dB e (.slice aa e.ai.length ca) (.slice ax e.ak.length cx))).toList.take (t.length*7)=xs.take (i*7)++dB e (.slice aa e.ai.length ca) (.slice ax e.ak.length cx)++xs.drop (i*7+7) by
     rw[Xfw _ _ _ _ (show i*7+7≤t.length*7 by omega) (by omega),mg];rfl)
    have uM:maxLen=9223372036854775807:=rfl;rw[uM]at yB;clear um hL qJ mg iY lv mP ui uM;go_wp2_with (refine WO rfl 26 _ _ rfl g (i*7) (dB e (.slice aa e.ai.length ca) (.slice ax e.ak.length cx)) (by simp[Act.eval]) rfl cur 26 DR.O nk BH.O (bC.one ku.O) ?_)
    go_ret2;have ES:=HL.O.set hi ku.O;have hg:w7.grownBy (w7.setRow g (over cur (i*7) (dB e (.slice aa e.ai.length ca) (.slice ax e.ak.length cx)))) (some g):=Bp;have pI:=nQ.grown hg (fun g' hg'=>by cases hg';exact jw.O _ Cx);have nC:aM bC 26 I (w7.setRow g (over cur (i*7) (dB e (.slice aa e.ai.length ca) (.slice ax e.ak.length cx)))) w5.heap.size (.slice (some ⟨g,0,none⟩) t.length wR) (t.set i e):=by
     refine⟨_,⟨ES.1,.inr ⟨g,wR,_,by rw[List.length_set],Cx,setRow_heap _ _ _ _ _ _ DR.O,by rw[List.length_set];exact sH,by unfold maxLen;exact yB,zF.O,by rw[List.length_set];exact Xa.O⟩⟩,ES⟩
    obtain⟨I',jo,jA,kG,_⟩:=nC.freeze pI jw.O;rw[AV.O,DN.O];exact⟨_,I',rfl,qD.grown hg qD.size (fun k hk=>by cases hk;omega),jo.mono (Nat.le_of_lt jN),jA,kG⟩
   ·have AV:=Qh (show bL t e=([],8) by rw[Ha.O];rfl);go_enter Tryz.func31,Tryz.ntmps31
    go_wp2_with fail
    refine(j6.O _ (hw.alloc _)).mono ?_;rintro e1 w1 ⟨rfl,au⟩;have gP:=Qh (bS rfl au);have aB:Ok I w1:=(hw.alloc _).below (Qn _) au;have cO:w.heap.size<w1.heap.size:=by have:=au.size;simp at this;omega
    have av:Below w.heap.size w w1:=((Qb _ _).alloc (Qn _) _).trans (au.mono (by simp));clear au;obtain⟨c0,c1,c2,c3,c4,c5,c6⟩:=gP.O;go_wp2_with fail
    refine(DJ.O _ aB).mono ?_;rintro e2 w2 ⟨rfl,aD⟩;have kU:=Qh (gP.O.aA aD);have aP:Ok I w2:=aB.below (Qn _) aD;have fe:w.heap.size<w2.heap.size:=by have:=aD.size;omega
    have aK:=av.trans (aD.mono av.size);clear aD av cO aB c0 c1 c2 c3 c4 c5 c6 gP;obtain⟨c0,c1,c2,c3,c4,c5,c6⟩:=kU.O;go_wp2_with fail
    refine(uZ.O _).mono ?_;rintro e3 w3 ⟨rfl,rfl⟩;go_wp2_with fail
    refine(ll.O _ aP).mono ?_;rintro e4 w4 ⟨rfl,aL⟩;have bA:Ok I w4:=aP.below (Qn _) aL;have aO:=aK.trans (aL.mono aK.size);have fG:=Qh (kU.O.aA aL);have dH:w.heap.size<w4.heap.size:=by have h2:=aL.size;omega
    clear aL c0 c1 c2 c3 c4 c5 c6;go_wp2_with fail
    refine(lK.O _ bA).mono ?_;rintro e5 w5 ⟨rfl,aY⟩;have bX:Ok I w5:=bA.below (Qn _) aY;have bV:=aO.trans (aY.mono aO.size);have mD:=Qh (fG.O.aA aY);have jN:w.heap.size<w5.heap.size:=by have h2:=aY.size;omega
    clear aY aO;have vw:=Qh (IV I _ t Hv.O w5 bX (by omega));have eG:∀b,w5.heap.size≤b→I b=none:=fun b hb=>bX.fresh hb;have jw:=Qh eG;clear eG;go_wp2_with fail
    refine vw.O.mono ?_;rintro e6 w6 ⟨v6,rfl,kg,fF⟩;have lm:Ok I w6:=bX.below (Qn _) fF;have iT:=bV.trans (fF.mono bV.size);have zf:=Qh (mD.O.aA fF);have qC:=Qh kg;have BJ:=Qh fF.size;clear kg fF bV;obtain⟨y',Nt,KC,b,off,cap',iB,di,⟨y0,_,_,_,_,_,_⟩,_,_⟩:=oG Hv.O lm i hi;cases di;have KD:y'=y:=by rw[←iB,Hy.O]
    subst KD;have g0:=cell_regrown zf.O.c0;have g1:=cell_regrown y0;clear iB;go_wp2_with fail
    refine wp_region_quiet_below (by kernel_rfl) (by kernel_rfl) ?_;repeat(go_big_quiet_step ((fail)))
    refine wpQuiet_nil ?_;intro w7 bg;have jJ:Below (w6).heap.size (w6) w7:=by
     obtain⟨pq,rfl⟩:=bg;exact below_regrown _ _ _
    clear bg;go_wp2;go_ret2;rw[AV.O];exact⟨_,I,rfl,iT.trans (jJ.mono iT.size),Ext.refl _ _,lm.below (Qn _) jJ,bf.nil _ _⟩
   ·have AV:=Qh (show bL t e=([],8) by rw[Ha.O];rfl);go_enter Tryz.func31,Tryz.ntmps31
    go_wp2_with fail
    refine(j6.O _ (hw.alloc _)).mono ?_;rintro e1 w1 ⟨rfl,au⟩;have gP:=Qh (bS rfl au);have aB:Ok I w1:=(hw.alloc _).below (Qn _) au;have cO:w.heap.size<w1.heap.size:=by have:=au.size;simp at this;omega
    have av:Below w.heap.size w w1:=((Qb _ _).alloc (Qn _) _).trans (au.mono (by simp));clear au;obtain⟨c0,c1,c2,c3,c4,c5,c6⟩:=gP.O;go_wp2_with fail
    refine(DJ.O _ aB).mono ?_;rintro e2 w2 ⟨rfl,aD⟩;have kU:=Qh (gP.O.aA aD);have aP:Ok I w2:=aB.below (Qn _) aD;have fe:w.heap.size<w2.heap.size:=by have:=aD.size;omega
    have aK:=av.trans (aD.mono av.size);clear aD av cO aB c0 c1 c2 c3 c4 c5 c6 gP;obtain⟨c0,c1,c2,c3,c4,c5,c6⟩:=kU.O;go_wp2_with fail
    refine(uZ.O _).mono ?_;rintro e3 w3 ⟨rfl,rfl⟩;go_wp2_with fail
    refine(ll.O _ aP).mono ?_;rintro e4 w4 ⟨rfl,aL⟩;have bA:Ok I w4:=aP.below (Qn _) aL;have aO:=aK.trans (aL.mono aK.size);have fG:=Qh (kU.O.aA aL);have dH:w.heap.size<w4.heap.size:=by have h2:=aL.size;omega
    clear aL c0 c1 c2 c3 c4 c5 c6;go_wp2_with fail
    refine(lK.O _ bA).mono ?_;rintro e5 w5 ⟨rfl,aY⟩;have bX:Ok I w5:=bA.below (Qn _) aY;have bV:=aO.trans (aY.mono aO.size);have mD:=Qh (fG.O.aA aY);have jN:w.heap.size<w5.heap.size:=by have h2:=aY.size;omega
    clear aY aO;have vw:=Qh (IV I _ t Hv.O w5 bX (by omega));have eG:∀b,w5.heap.size≤b→I b=none:=fun b hb=>bX.fresh hb;have jw:=Qh eG;clear eG;go_wp2_with fail
    refine vw.O.mono ?_;rintro e6 w6 ⟨v6,rfl,kg,fF⟩;have lm:Ok I w6:=bX.below (Qn _) fF;have iT:=bV.trans (fF.mono bV.size);have zf:=Qh (mD.O.aA fF);have qC:=Qh kg;have BJ:=Qh fF.size;clear kg fF bV;obtain⟨y',Nt,KC,b,off,cap',iB,di,⟨y0,_,_,_,_,_,_⟩,_,_⟩:=oG Hv.O lm i hi;cases di;have KD:y'=y:=by rw[←iB,Hy.O]
    subst KD;have g0:=cell_regrown zf.O.c0;have g1:=cell_regrown y0;clear iB;go_wp2_with fail
    refine wp_region_quiet_below (by kernel_rfl) (by kernel_rfl) ?_;repeat(go_big_quiet_step ((fail)))
    refine wpQuiet_nil ?_;intro w7 bg;have jJ:Below (w6).heap.size (w6) w7:=by
     obtain⟨pq,rfl⟩:=bg;exact below_regrown _ _ _
    clear bg;go_wp2;go_ret2;rw[AV.O];exact⟨_,I,rfl,iT.trans (jJ.mono iT.size),Ext.refl _ _,lm.below (Qn _) jJ,bf.nil _ _⟩
   ·have AV:=Qh (show bL t e=(eF t e,0) by rw[Ha.O];rfl);have lI:(Tryz.prog.info? 26).map (·.size)=some 7:=by kernel_rfl
    have BH:=Qh lI;clear lI;go_enter Tryz.func31,Tryz.ntmps31
    go_wp2_with fail
    refine(j6.O _ (hw.alloc _)).mono ?_;rintro e1 w1 ⟨rfl,au⟩;have gP:=Qh (bS rfl au);have aB:Ok I w1:=(hw.alloc _).below (Qn _) au;have cO:w.heap.size<w1.heap.size:=by have:=au.size;simp at this;omega
    have av:Below w.heap.size w w1:=((Qb _ _).alloc (Qn _) _).trans (au.mono (by simp));clear au;obtain⟨c0,c1,c2,c3,c4,c5,c6⟩:=gP.O;go_wp2_with fail
    refine(DJ.O _ aB).mono ?_;rintro e2 w2 ⟨rfl,aD⟩;have kU:=Qh (gP.O.aA aD);have aP:Ok I w2:=aB.below (Qn _) aD;have fe:w.heap.size<w2.heap.size:=by have:=aD.size;omega
    have aK:=av.trans (aD.mono av.size);clear aD av cO aB c0 c1 c2 c3 c4 c5 c6 gP;obtain⟨c0,c1,c2,c3,c4,c5,c6⟩:=kU.O;go_wp2_with fail
    refine(uZ.O _).mono ?_;rintro e3 w3 ⟨rfl,rfl⟩;go_wp2_with fail
    refine(ll.O _ aP).mono ?_;rintro e4 w4 ⟨rfl,aL⟩;have bA:Ok I w4:=aP.below (Qn _) aL;have aO:=aK.trans (aL.mono aK.size);have fG:=Qh (kU.O.aA aL);have dH:w.heap.size<w4.heap.size:=by have h2:=aL.size;omega
    clear aL c0 c1 c2 c3 c4 c5 c6;go_wp2_with fail
    refine(lK.O _ bA).mono ?_;rintro e5 w5 ⟨rfl,aY⟩;have bX:Ok I w5:=bA.below (Qn _) aY;have bV:=aO.trans (aY.mono aO.size);have mD:=Qh (fG.O.aA aY);have jN:w.heap.size<w5.heap.size:=by have h2:=aY.size;omega
    clear aY aO;have vw:=Qh (IV I _ t Hv.O w5 bX (by omega));have eG:∀b,w5.heap.size≤b→I b=none:=fun b hb=>bX.fresh hb;have jw:=Qh eG;clear eG;go_wp2_with fail
    refine vw.O.mono ?_;rintro e6 w6 ⟨v6,rfl,kg,fF⟩;have lm:Ok I w6:=bX.below (Qn _) fF;have iT:=bV.trans (fF.mono bV.size);have zf:=Qh (mD.O.aA fF);have qC:=Qh kg;have BJ:=Qh fF.size;clear kg fF bV;obtain⟨y',Nt,KC,b,off,cap',iB,di,⟨y0,_,_,_,_,_,_⟩,_,_⟩:=oG Hv.O lm i hi;cases di;have KD:y'=y:=by rw[←iB,Hy.O]
    subst KD;have g0:=cell_regrown zf.O.c0;have g1:=cell_regrown y0;clear iB;go_wp2_with fail
    refine wp_region_quiet_below (by kernel_rfl) (by kernel_rfl) ?_;repeat(go_big_quiet_step ((fail)))
    refine wpQuiet_nil ?_;intro w7 bg;have jJ:Below (w6).heap.size (w6) w7:=by
     obtain⟨pq,rfl⟩:=bg;exact below_regrown _ _ _
    clear bg;have nQ:Ok I w7:=lm.below (Qn _) jJ;have qD:=iT.trans (jJ.mono iT.size);have iy:=qC.O.below jJ;obtain⟨c0,c1,c2,c3,c4,c5,c6⟩:=zf.O.aA jJ;clear jJ g0 g1 y0 iT lm;obtain⟨xs,⟨mP,aZ⟩,hL⟩:=iy;rcases aZ with⟨h00,pR⟩|⟨g,wR,cur,rfl,Cx,um,sH,yB,iY,qJ⟩
    ·omega
    have lv:cur.size=wR*7:=iY;have mg:cur.toList.take (t.length*7)=xs:=qJ;have ui:xs.length=t.length*7:=mP;have nk:i*7+7≤cur.size:=by omega
    have DR:=Qh um;have HL:=Qh hL;have nG:=Qh mg;have zF:=Qh (show(over cur (i*7) (dB e (.slice aa e.ai.length ca) (.slice ax e.ak.length cx))).size=wR*7 by rw[CG _ _ _ nk,lv]);have Xa:=Qh (show(over cur (i*7) (dB e (.slice aa e.ai.length ca) (.slice ax e.ak.length cx))).toList.take (t.length*7)=xs.take (i*7)++dB e (.slice aa e.ai.length ca) (.slice ax e.ak.length cx)++xs.drop (i*7+7) by
     rw[Xfw _ _ _ _ (show i*7+7≤t.length*7 by omega) (by omega),mg];rfl)
    have uM:maxLen=9223372036854775807:=rfl;rw[uM]at yB;clear um hL qJ mg iY lv mP ui uM;go_wp2_with (refine WO rfl 26 _ _ rfl g (i*7) (dB e (.slice aa e.ai.length ca) (.slice ax e.ak.length cx)) (by simp[Act.eval]) rfl cur 26 DR.O nk BH.O (bC.one ku.O) ?_)
    go_ret2;have ES:=HL.O.set hi ku.O;have hg:w7.grownBy (w7.setRow g (over cur (i*7) (dB e (.slice aa e.ai.length ca) (.slice ax e.ak.length cx)))) (some g):=Bp;have pI:=nQ.grown hg (fun g' hg'=>by cases hg';exact jw.O _ Cx);have nC:aM bC 26 I (w7.setRow g (over cur (i*7) (dB e (.slice aa e.ai.length ca) (.slice ax e.ak.length cx)))) w5.heap.size (.slice (some ⟨g,0,none⟩) t.length wR) (t.set i e):=by
     refine⟨_,⟨ES.1,.inr ⟨g,wR,_,by rw[List.length_set],Cx,setRow_heap _ _ _ _ _ _ DR.O,by rw[List.length_set];exact sH,by unfold maxLen;exact yB,zF.O,by rw[List.length_set];exact Xa.O⟩⟩,ES⟩
    obtain⟨I',jo,jA,kG,_⟩:=nC.freeze pI jw.O;rw[AV.O,DN.O];exact⟨_,I',rfl,qD.grown hg qD.size (fun k hk=>by cases hk;omega),jo.mono (Nat.le_of_lt jN),jA,kG⟩
  ·subst Ap;have RQ:=Xt1 e2;have hnp:∀x∈t,x.af≠e.af:=fun x hx hp=>by
    rw[List.any_eq_true.2 ⟨x,hx,by simpa[nJ]using hp⟩]at e2;exact absurd e2 (by simp)
   have Ha:=Qh (Xje H0.O vO.O PC.O RQ);have DN:=Qh (Xyn Hsr.O e hnp);have PE:=(SC (gF t e.af) 0 t.length (Nat.zero_le _)).2;clear e2 RQ hnp;by_cases h5:5000≤t.length
   ·have hd5:decide (5000≤t.length)=true:=Qt h5;have AV:=Qh (show bL t e=([],6) by rw[Ha.O,if_pos h5]);go_enter Tryz.func31,Tryz.ntmps31
    go_wp2_with fail
    refine(j6.O _ (hw.alloc _)).mono ?_;rintro e1 w1 ⟨rfl,au⟩;have gP:=Qh (bS rfl au);have aB:Ok I w1:=(hw.alloc _).below (Qn _) au;have cO:w.heap.size<w1.heap.size:=by have:=au.size;simp at this;omega
    have av:Below w.heap.size w w1:=((Qb _ _).alloc (Qn _) _).trans (au.mono (by simp));clear au;obtain⟨c0,c1,c2,c3,c4,c5,c6⟩:=gP.O;go_wp2_with fail
    refine(DJ.O _ aB).mono ?_;rintro e2 w2 ⟨rfl,aD⟩;have kU:=Qh (gP.O.aA aD);have aP:Ok I w2:=aB.below (Qn _) aD;have fe:w.heap.size<w2.heap.size:=by have:=aD.size;omega
    have aK:=av.trans (aD.mono av.size);clear aD av cO aB c0 c1 c2 c3 c4 c5 c6 gP;obtain⟨c0,c1,c2,c3,c4,c5,c6⟩:=kU.O;go_wp2_with fail
    refine(uZ.O _).mono ?_;rintro e3 w3 ⟨rfl,rfl⟩;go_wp2_with fail
    refine(ll.O _ aP).mono ?_;rintro e4 w4 ⟨rfl,aL⟩;have bA:Ok I w4:=aP.below (Qn _) aL;have aO:=aK.trans (aL.mono aK.size);have fG:=Qh (kU.O.aA aL);have dH:w.heap.size<w4.heap.size:=by have h2:=aL.size;omega
    clear aL c0 c1 c2 c3 c4 c5 c6;go_wp2_with fail
    refine(lK.O _ bA).mono ?_;rintro e5 w5 ⟨rfl,aY⟩;have bX:Ok I w5:=bA.below (Qn _) aY;have bV:=aO.trans (aY.mono aO.size);have mD:=Qh (fG.O.aA aY);have jN:w.heap.size<w5.heap.size:=by have h2:=aY.size;omega
    clear aY aO;have vw:=Qh (IV I _ t Hv.O w5 bX (by omega));have eG:∀b,w5.heap.size≤b→I b=none:=fun b hb=>bX.fresh hb;have jw:=Qh eG;clear eG;go_wp2_with fail
    refine vw.O.mono ?_;rintro e6 w6 ⟨v6,rfl,kg,fF⟩;have lm:Ok I w6:=bX.below (Qn _) fF;have iT:=bV.trans (fF.mono bV.size);have zf:=Qh (mD.O.aA fF);have qC:=Qh kg;have BJ:=Qh fF.size;clear kg fF bV;go_wp2;go_ret2;rw[AV.O];exact⟨_,I,rfl,iT,Ext.refl _ _,lm,bf.nil _ _⟩
   have hd5:decide (5000≤t.length)=false:=Qf h5;have AV:=Qh (show bL t e=(eF t e,0) by rw[Ha.O,if_neg h5]);go_enter Tryz.func31,Tryz.ntmps31
   go_wp2_with fail
   refine(j6.O _ (hw.alloc _)).mono ?_;rintro e1 w1 ⟨rfl,au⟩;have gP:=Qh (bS rfl au);have aB:Ok I w1:=(hw.alloc _).below (Qn _) au;have cO:w.heap.size<w1.heap.size:=by have:=au.size;simp at this;omega
   have av:Below w.heap.size w w1:=((Qb _ _).alloc (Qn _) _).trans (au.mono (by simp));clear au;obtain⟨c0,c1,c2,c3,c4,c5,c6⟩:=gP.O;go_wp2_with fail
   refine(DJ.O _ aB).mono ?_;rintro e2 w2 ⟨rfl,aD⟩;have kU:=Qh (gP.O.aA aD);have aP:Ok I w2:=aB.below (Qn _) aD;have fe:w.heap.size<w2.heap.size:=by have:=aD.size;omega
   have aK:=av.trans (aD.mono av.size);clear aD av cO aB c0 c1 c2 c3 c4 c5 c6 gP;obtain⟨c0,c1,c2,c3,c4,c5,c6⟩:=kU.O;go_wp2_with fail
   refine(uZ.O _).mono ?_;rintro e3 w3 ⟨rfl,rfl⟩;go_wp2_with fail
   refine(ll.O _ aP).mono ?_;rintro e4 w4 ⟨rfl,aL⟩;have bA:Ok I w4:=aP.below (Qn _) aL;have aO:=aK.trans (aL.mono aK.size);have fG:=Qh (kU.O.aA aL);have dH:w.heap.size<w4.heap.size:=by have h2:=aL.size;omega
   clear aL c0 c1 c2 c3 c4 c5 c6;go_wp2_with fail
   refine(lK.O _ bA).mono ?_;rintro e5 w5 ⟨rfl,aY⟩;have bX:Ok I w5:=bA.below (Qn _) aY;have bV:=aO.trans (aY.mono aO.size);have mD:=Qh (fG.O.aA aY);have jN:w.heap.size<w5.heap.size:=by have h2:=aY.size;omega
   clear aY aO;have vw:=Qh (IV I _ t Hv.O w5 bX (by omega));have eG:∀b,w5.heap.size≤b→I b=none:=fun b hb=>bX.fresh hb;have jw:=Qh eG;clear eG;go_wp2_with fail
   refine vw.O.mono ?_;rintro e6 w6 ⟨v6,rfl,kg,fF⟩;have lm:Ok I w6:=bX.below (Qn _) fF;have iT:=bV.trans (fF.mono bV.size);have zf:=Qh (mD.O.aA fF);have qC:=Qh kg;have BJ:=Qh fF.size;clear kg fF bV;obtain⟨I',hx',RS,KE,_⟩:=qC.O.freeze lm jw.O;have Hbs:=Qh (Xeh I' (hI.mono (hx'.keep bX (Qn _))) v6 t KE (by omega) Hs.O e.af mK w6 RS);generalize bs (gF t e.af) 0 t.length=i at Hbs DN PE;obtain⟨a6,c6',rfl,_,_,_⟩:=id KE;obtain⟨c0,c1,c2,c3,c4,c5,c6⟩:=zf.O;clear hx' RS KE;go_wp2_with fail
   refine Hbs.O.mono ?_;rintro e7 w7 ⟨fb,rfl,jJ⟩;clear c0 c1 c2 c3 c4 c5 c6;have nQ:Ok I w7:=lm.below (Qn _) jJ;have qD:=iT.trans (jJ.mono iT.size);have PG:=Qh (Nat.le_trans BJ.O jJ.size);obtain⟨c0,c1,c2,c3,c4,c5,c6⟩:=zf.O.aA jJ;have iA:=Qh (qC.O.below jJ);have cK:=iA.O.nA (Qn w7.heap.size);have DI:=Qh (Xrs I w5.heap.size _ t e w7.heap.size i 26 (dB e (.slice aa e.ai.length ca) (.slice ax e.ak.length cx)) _ (iA.O.alloc (.cells #[.int .i64 e.ag,S e.af,.slice aa e.ai.length ca,S e.target,.int .i64 e.size,S e.aj,.slice ax e.ak.length cx] 26)) ku.O (heap_alloc_new w7 (.cells #[.int .i64 e.ag,S e.af,.slice aa e.ai.length ca,S e.target,.int .i64 e.size,S e.aj,.slice ax e.ak.length cx] 26)) cK PE (by omega) (by have:=PG.O;simp;omega));clear jJ cK;go_wp2_with fail
   refine DI.O.mono ?_;rintro e8 w8 ⟨v8,rfl,nC,uo⟩;have yw:=Qh nC;have IR:=Qh uo;clear nC uo;go_wp2;go_ret2;rw[AV.O,DN.O];have Xb:Ok I (w7.alloc (.cells #[.int .i64 e.ag,S e.af,.slice aa e.ai.length ca,S e.target,.int .i64 e.size,S e.aj,.slice ax e.ak.length cx] 26)):=nQ.alloc _;have iy:=iA.O.alloc (.cells #[.int .i64 e.ag,S e.af,.slice aa e.ai.length ca,S e.target,.int .i64 e.size,S e.aj,.slice ax e.ak.length cx] 26);have qB:=Below.own (qD.alloc qD.size _) IR.O iy (Nat.le_of_lt jN) (by have:=PG.O;simp;omega);have pI:Ok I w8:=Ok.own Xb IR.O iy jw.O;obtain⟨Sq,jo,jA,kG,_⟩:=yw.O.freeze pI jw.O;exact⟨_,Sq,rfl,qB,jo.mono (Nat.le_of_lt jN),jA,kG⟩
