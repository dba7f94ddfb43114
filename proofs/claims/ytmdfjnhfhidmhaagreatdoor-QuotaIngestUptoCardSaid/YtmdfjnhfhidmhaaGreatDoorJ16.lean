/- Lemmas for the claim's theorem;conditions: as each says. -/
import Derived.Test.YtmdfjnhfhidmhaaGreatDoorJ15
set_option maxHeartbeats 0
set_option maxRecDepth 100000
set_option linter.all false
namespace Go.Proofs.YtmdfjnhfhidmhaaGreatDoor
open Go.RowKit
variable{t:List aT}{e:aT}{p:af}{i:Nat}
theorem Xjf(h:aP e≠0):bS t e=([],aP e):=by rw[bS,if_pos h]
theorem U9(h:aP e=0)(hk:3<e.au)(hg:¬(ek t e.ag=none∧e.ag≠[])):bS t e=(t.filter fun x=> !(gD e x),0):=by
 rw[bS,if_neg (by omega),if_pos hk,if_neg hg];by_cases h4:e.au=4
 ·rw[if_pos h4];congr 2;funext x;rw[gD,Qt h4,Bool.true_and]
 ·rw[if_neg h4];congr 1;symm;exact List.filter_eq_self.2 fun x _=>by rw[gD,Qf h4];rfl
theorem Xie(h:aP e=0)(hk:3<e.au)(hg:ek t e.ag=none∧e.ag≠[]):bS t e=([],9):=by
 rw[bS,if_neg (by omega),if_pos hk,if_pos hg]
theorem Xje(h:aP e=0)(hk:¬3<e.au)(hd:dm t (nZ e.ag)≠0):bS t e=([],dm t (nZ e.ag)):=by
 rw[bS,if_neg (by omega),if_neg hk,if_pos hd]
theorem Xic{y:aT}(h:aP e=0)(hk:¬3<e.au)(hd:dm t (nZ e.ag)=0)(hy:ek t e.ag=some y):bS t e=if(y.au==2) !=(e.au==2)then([],8)else(eP t e,0):=by
 rw[bS,if_neg (by omega),if_neg hk,if_neg (by omega),hy]
theorem Xid(h:aP e=0)(hk:¬3<e.au)(hd:dm t (nZ e.ag)=0)(hy:ek t e.ag=none):bS t e=if 5000≤t.length then([],6)else(eP t e,0):=by
 rw[bS,if_neg (by omega),if_neg hk,if_neg (by omega),hy]
theorem Xr3(hi:i<t.length)(hp:rC p t[i]=true)(hn:(t.take i).any (rC p)=false):ek t p=some t[i]:=by
 have:=Xlp hi hp hn;unfold lg at this;cases h:ek t p with
 |none=>rw[h]at this;simp at this
 |some x=>rw[h]at this;simp at this;rw[this]
theorem Xr2(hn:t.any (rC p)=false):ek t p=none:=by
 have:=Xlq hn;unfold lg at this;cases h:ek t p with
 |none=>rfl
 |some x=>rw[h]at this;simp at this
theorem bB.own{w w':World}{n:Nat}{va vx:Value}{row:Option Nat}(h:bB w n e va vx)(hg:w.grownBy w' row)(bn:row≠some n):bB w' n e va vx:=
 ⟨jo hg bn h.c0,jo hg bn h.c1,jo hg bn h.c2,jo hg bn h.c3,jo hg bn h.c4,jo hg bn h.c5,jo hg bn h.c6⟩
theorem bA.set{I:IH}{xs cs:List Value}{l:List aT}(h:bA bQ I xs l)(hi:i<l.length){x:aT}(hx:bQ.rd I cs x):bA bQ I (xs.take (i*7)++cs++xs.drop (i*7+7)) (l.set i x):=by
 have h1:=((h.take i).append (bA.one hx)).append (h.drop (i+1));have hs:bQ.size=7:=rfl;rw[hs,show(i+1)*7=i*7+7 by omega]at h1;have e:l.set i x=l.take i++[x]++l.drop (i+1):=by
  rw[List.set_eq_take_append_cons_drop,if_pos hi];simp
 rw[e];exact h1
theorem Xfd(cur:Array Value)(o m:Nat)(cs:List Value)(h:o+cs.length≤m)(hm:m≤cur.size):(over cur o cs).toList.take m=(cur.toList.take m).take o++cs++(cur.toList.take m).drop (o+cs.length):=by
 simp only[over];rw[List.take_append,List.take_of_length_le (by simp;omega)];congr 1
 ·rw[List.take_take,Nat.min_eq_left (by omega)]
 ·rw[List.drop_take];congr 1;simp;omega
theorem Xol(I:IH)(hI:eG I)(v:Value)(t:List aT)(hv:aZ bQ I v t)(hs:ET t)(hsr:jD t)(hn:t.length≤100000)(e:aT)(va vx:Value)(fq:aZ lD I va e.aj)(kJ:aZ lY I vx e.aA)(l7:e.Wf)(nV:e.ag.length≤4294967280)(xh:e.target.length≤4294967280)(w:World)(hw:Ok I w):
 Calls Tryz.prog 38 #[v,gN e va vx] w (xz bQ I w (bS t e).1 (bS t e).2):=by
 have hlen:=hv.bF;have mg:=Qh (fun w hw=>U4 I hI e va vx fq kJ l7 nV xh w hw);obtain⟨ao,cap,rfl,dO,fJ,_⟩:=id hv;have Hv:=Qh hv;obtain⟨aa,ca,rfl,_,_,_⟩:=id fq;obtain⟨ax,cx,rfl,_,_,_⟩:=id kJ;have Ea:=Qh (show bQ.rd I (dI e (.slice aa e.aj.length ca) (.slice ax e.aA.length cx)) e from⟨_,_,rfl,fq,kJ⟩);have Hs:=Qh hs;have Hsr:=Qh hsr;clear hv fq kJ hs hsr;by_cases h0:aP e=0;case neg=>
  have Ha:=Qh (Xjf (t:=t) h0);obtain⟨q,hq⟩:∃q,aP e=q:=⟨_,rfl⟩;have Er:(q !=0)=true:=by rw[←hq];simpa using h0
  rw[hq]at mg Ha;clear hq h0;go_enter Tryz.func38,Tryz.ntmps38
  go_wp2_with fail
  refine(mg.O _ (hw.alloc _)).mono ?_;rintro e1 w1 ⟨rfl,aD⟩;have gQ:=Qh (dx rfl aD);have aM:Ok I w1:=(hw.alloc _).below (Qn _) aD;have bZ:w.heap.size<w1.heap.size:=by have:=aD.size;simp at this;omega
  have aH:Below w.heap.size w w1:=((Qb _ _).alloc (Qn _) _).trans (aD.mono (by simp));clear aD;go_wp2;go_ret2;rw[Ha.O];exact⟨_,I,rfl,aH,Ext.refl _ _,aM,aZ.nil _ _⟩
 have nY:=Gm h0;have H0:=Qh h0;rw[h0]at mg;have Au:=Qh (Xsm e.au);have uj:=Qh (fun w hw=>Xsn I _ t Hv.O e.ag w hw);have Gb:=LZ t (rC e.ag);generalize ol t (rC e.ag)=ix at uj Gb;clear h0;by_cases uH:3<e.au
 ·have uE:inT e.au=false:=by
   cases h:inT e.au with
   |false=>rfl
   |true=>have:=pu.1 h;omega
  rw[uE]at Au;have Az:=Qh uH;clear uE;have nW:(∃i:Nat,ix=i∧i<t.length∧ek t e.ag≠none)∨(ix= -1∧ek t e.ag=none):=by
   rcases Gb with⟨i,hi,e1,e2,e3⟩|⟨e1,e2⟩
   ·exact .inl ⟨i,e1,hi,by rw[Xr3 hi e2 e3];simp⟩
   ·exact .inr ⟨e1,Xr2 e2⟩
  clear Gb;have Ou:(∃i:Nat,ix=i∧i<t.length∧ek t e.ag≠none)∨(ix= -1∧e.ag=[])∨(ix= -1∧ek t e.ag=none∧e.ag≠[]):=by
   rcases nW with h|⟨h1,h2⟩
   ·exact .inl h
   ·by_cases hp:e.ag=[]
    ·exact .inr (.inl ⟨h1,hp⟩)
    ·exact .inr (.inr ⟨h1,h2,hp⟩)
  clear nW;rcases Ou with⟨i,rfl,hi,hg⟩|⟨rfl,hp⟩|⟨rfl,hg,hp⟩
  ·have Ha:=Qh (U9 (t:=t) H0.O Az.O fun h=>hg h.1);clear hg;go_enter Tryz.func38,Tryz.ntmps38
   go_wp2_with fail
   refine(mg.O _ (hw.alloc _)).mono ?_;rintro e1 w1 ⟨rfl,aD⟩;have gQ:=Qh (dx rfl aD);have aM:Ok I w1:=(hw.alloc _).below (Qn _) aD;have bZ:w.heap.size<w1.heap.size:=by have:=aD.size;simp at this;omega
   have aH:Below w.heap.size w w1:=((Qb _ _).alloc (Qn _) _).trans (aD.mono (by simp));clear aD;obtain⟨c0,c1,c2,c3,c4,c5,c6⟩:=gQ.O;go_wp2_with fail
   refine(uj.O _ aM).mono ?_;rintro e2 w2 ⟨rfl,aL⟩;have lF:=Qh (gQ.O.aQ aL);have aX:Ok I w2:=aM.below (Qn _) aL;have eZ:w.heap.size<w2.heap.size:=by have:=aL.size;omega
   have aY:=aH.trans (aL.mono aH.size);clear aL aH bZ aM c0 c1 c2 c3 c4 c5 c6 gQ;obtain⟨c0,c1,c2,c3,c4,c5,c6⟩:=lF.O;go_wp2_with fail
   refine(Au.O _).mono ?_;rintro e3 w3 ⟨rfl,rfl⟩;have qO:=Qh (IL I _ t Hv.O w2 aX (by omega));have iR:∀b,w2.heap.size≤b→I b=none:=fun b hb=>aX.fresh hb;have kw:=Qh iR;clear iR;go_wp2_with fail
   refine qO.O.mono ?_;rintro e4 w4 ⟨v4,rfl,oL,aR⟩;have bU:Ok I w4:=aX.below (Qn _) aR;have bI:=aY.trans (aR.mono aY.size);have gG:=Qh (lF.O.aQ aR);have aW:=Qh oL;have EY:=Qh aR.size;have Ml:=Qh (Xdv I w2.heap.size v4 t w4 aW.O (by omega) 80 #[.pointer (some ⟨w.heap.size,0,none⟩)] (gD e) bU kw.O EY.O (fun _ _=>by kernel_rfl) (Xlv I hI e nV w.heap.size _ _ t Hs.O _ fun W hW=>⟨bU.grown hW (fun g hg=>kw.O g (aW.O.qo hg)),gG.O.own hW (aW.O.cK eZ)⟩));clear oL aR c0 c1 c2 c3 c4 c5 c6;go_wp2_with fail
   refine Ml.O.mono ?_;rintro e5 w5 ⟨v5,rfl,gM,hg5⟩;have fw:=Qh gM;have Q3:=Qh hg5;clear gM hg5;go_wp2;go_ret2;rw[Ha.O];have bM:=Below.own bI Q3.O aW.O (Nat.le_of_lt eZ) EY.O;have dL:Ok I w5:=Ok.own bU Q3.O aW.O kw.O;obtain⟨I',jC,ku,lX,_⟩:=fw.O.freeze dL kw.O;exact⟨_,I',rfl,bM,jC.mono (Nat.le_of_lt eZ),ku,lX⟩
  ·have Ha:=Qh (U9 (t:=t) H0.O Az.O fun h=>h.2 hp);obtain⟨p1,p2,p3,p4⟩:=BU hp;clear hp;go_enter Tryz.func38,Tryz.ntmps38
   go_wp2_with fail
   refine(mg.O _ (hw.alloc _)).mono ?_;rintro e1 w1 ⟨rfl,aD⟩;have gQ:=Qh (dx rfl aD);have aM:Ok I w1:=(hw.alloc _).below (Qn _) aD;have bZ:w.heap.size<w1.heap.size:=by have:=aD.size;simp at this;omega
   have aH:Below w.heap.size w w1:=((Qb _ _).alloc (Qn _) _).trans (aD.mono (by simp));clear aD;obtain⟨c0,c1,c2,c3,c4,c5,c6⟩:=gQ.O;go_wp2_with fail
   refine(uj.O _ aM).mono ?_;rintro e2 w2 ⟨rfl,aL⟩;have lF:=Qh (gQ.O.aQ aL);have aX:Ok I w2:=aM.below (Qn _) aL;have eZ:w.heap.size<w2.heap.size:=by have:=aL.size;omega
   have aY:=aH.trans (aL.mono aH.size);clear aL aH bZ aM c0 c1 c2 c3 c4 c5 c6 gQ;obtain⟨c0,c1,c2,c3,c4,c5,c6⟩:=lF.O;go_wp2_with fail
   refine(Au.O _).mono ?_;rintro e3 w3 ⟨rfl,rfl⟩;have qO:=Qh (IL I _ t Hv.O w2 aX (by omega));have iR:∀b,w2.heap.size≤b→I b=none:=fun b hb=>aX.fresh hb;have kw:=Qh iR;clear iR;go_wp2_with fail
   refine qO.O.mono ?_;rintro e4 w4 ⟨v4,rfl,oL,aR⟩;have bU:Ok I w4:=aX.below (Qn _) aR;have bI:=aY.trans (aR.mono aY.size);have gG:=Qh (lF.O.aQ aR);have aW:=Qh oL;have EY:=Qh aR.size;have Ml:=Qh (Xdv I w2.heap.size v4 t w4 aW.O (by omega) 80 #[.pointer (some ⟨w.heap.size,0,none⟩)] (gD e) bU kw.O EY.O (fun _ _=>by kernel_rfl) (Xlv I hI e nV w.heap.size _ _ t Hs.O _ fun W hW=>⟨bU.grown hW (fun g hg=>kw.O g (aW.O.qo hg)),gG.O.own hW (aW.O.cK eZ)⟩));clear oL aR c0 c1 c2 c3 c4 c5 c6;go_wp2_with fail
   refine Ml.O.mono ?_;rintro e5 w5 ⟨v5,rfl,gM,hg5⟩;have fw:=Qh gM;have Q3:=Qh hg5;clear gM hg5;go_wp2;go_ret2;rw[Ha.O];have bM:=Below.own bI Q3.O aW.O (Nat.le_of_lt eZ) EY.O;have dL:Ok I w5:=Ok.own bU Q3.O aW.O kw.O;obtain⟨I',jC,ku,lX,_⟩:=fw.O.freeze dL kw.O;exact⟨_,I',rfl,bM,jC.mono (Nat.le_of_lt eZ),ku,lX⟩
  ·have Ha:=Qh (Xie (t:=t) H0.O Az.O ⟨hg,hp⟩);obtain⟨p1,p2,p3,p4⟩:=Ao hp;clear hp hg;go_enter Tryz.func38,Tryz.ntmps38
   go_wp2_with fail
   refine(mg.O _ (hw.alloc _)).mono ?_;rintro e1 w1 ⟨rfl,aD⟩;have gQ:=Qh (dx rfl aD);have aM:Ok I w1:=(hw.alloc _).below (Qn _) aD;have bZ:w.heap.size<w1.heap.size:=by have:=aD.size;simp at this;omega
   have aH:Below w.heap.size w w1:=((Qb _ _).alloc (Qn _) _).trans (aD.mono (by simp));clear aD;obtain⟨c0,c1,c2,c3,c4,c5,c6⟩:=gQ.O;go_wp2_with fail
   refine(uj.O _ aM).mono ?_;rintro e2 w2 ⟨rfl,aL⟩;have lF:=Qh (gQ.O.aQ aL);have aX:Ok I w2:=aM.below (Qn _) aL;have eZ:w.heap.size<w2.heap.size:=by have:=aL.size;omega
   have aY:=aH.trans (aL.mono aH.size);clear aL aH bZ aM c0 c1 c2 c3 c4 c5 c6 gQ;obtain⟨c0,c1,c2,c3,c4,c5,c6⟩:=lF.O;go_wp2_with fail
   refine(Au.O _).mono ?_;rintro e3 w3 ⟨rfl,rfl⟩;go_wp2;go_ret2;rw[Ha.O];exact⟨_,I,rfl,aY,Ext.refl _ _,aX,aZ.nil _ _⟩
 ·have uE:inT e.au=true:=pu.2 (by omega);rw[uE]at Au;have Az:=Qh uH;have EZ:e.ag≠[]:=fun hp=>by have:=nY.2.2.2 hp;omega
  have oM:=Qh (fun w hw=>Xrg I hI e.ag nV w hw);rw[Xrj nY.2.2.1 EZ]at oM;have nH:=Qh (fun w hw=>Xlt I _ t Hv.O (nZ e.ag) w hw);clear uE EZ;by_cases BB:dm t (nZ e.ag)=0;case neg=>
   have Ha:=Qh (Xje (t:=t) H0.O Az.O BB);obtain⟨q,hq⟩:∃q,dm t (nZ e.ag)=q:=⟨_,rfl⟩;have Er:(q !=0)=true:=by rw[←hq];simpa using BB
   rw[hq]at nH Ha;clear hq BB Gb;go_enter Tryz.func38,Tryz.ntmps38
   go_wp2_with fail
   refine(mg.O _ (hw.alloc _)).mono ?_;rintro e1 w1 ⟨rfl,aD⟩;have gQ:=Qh (dx rfl aD);have aM:Ok I w1:=(hw.alloc _).below (Qn _) aD;have bZ:w.heap.size<w1.heap.size:=by have:=aD.size;simp at this;omega
   have aH:Below w.heap.size w w1:=((Qb _ _).alloc (Qn _) _).trans (aD.mono (by simp));clear aD;obtain⟨c0,c1,c2,c3,c4,c5,c6⟩:=gQ.O;go_wp2_with fail
   refine(uj.O _ aM).mono ?_;rintro e2 w2 ⟨rfl,aL⟩;have lF:=Qh (gQ.O.aQ aL);have aX:Ok I w2:=aM.below (Qn _) aL;have eZ:w.heap.size<w2.heap.size:=by have:=aL.size;omega
   have aY:=aH.trans (aL.mono aH.size);clear aL aH bZ aM c0 c1 c2 c3 c4 c5 c6 gQ;obtain⟨c0,c1,c2,c3,c4,c5,c6⟩:=lF.O;go_wp2_with fail
   refine(Au.O _).mono ?_;rintro e3 w3 ⟨rfl,rfl⟩;go_wp2_with fail
   refine(oM.O _ aX).mono ?_;rintro e4 w4 ⟨rfl,aR⟩;have bU:Ok I w4:=aX.below (Qn _) aR;have bI:=aY.trans (aR.mono aY.size);have gG:=Qh (lF.O.aQ aR);have dJ:w.heap.size<w4.heap.size:=by have h2:=aR.size;omega
   clear aR c0 c1 c2 c3 c4 c5 c6;go_wp2_with fail
   refine(nH.O _ bU).mono ?_;rintro e5 w5 ⟨rfl,bM⟩;have dL:Ok I w5:=bU.below (Qn _) bM;have dE:=bI.trans (bM.mono bI.size);have mU:=Qh (gG.O.aQ bM);have jM:w.heap.size<w5.heap.size:=by have h2:=bM.size;omega
   clear bM bI;go_wp2;go_ret2;rw[Ha.O];exact⟨_,I,rfl,dE,Ext.refl _ _,dL,aZ.nil _ _⟩
  have Q4:=Qh BB;rw[BB]at nH;clear BB;rcases Gb with⟨i,hi,Gb,e2,e3⟩|⟨Gb,e2⟩
  ·subst Gb;have O7:=Xr3 hi e2 e3;have hpy:t[i].ag=e.ag:=by simpa[rC]using e2
   obtain⟨y,hy⟩:∃y,t[i]=y:=⟨_,rfl⟩;rw[hy]at O7;have Hy:=Qh hy;have uW:=Qh (Xt2 Hsr.O e hi hpy);obtain⟨b1,aD⟩:∃b,((y.au:Int)==2)=b:=⟨_,rfl⟩;obtain⟨b2,aL⟩:∃b,((e.au:Int)==2)=b:=⟨_,rfl⟩;have Ha:=Qh (Xic H0.O Az.O Q4.O O7);rw[aD,aL]at Ha;clear e2 e3 hy O7 hpy;cases b1<;>cases b2
   ·have Ci:=Qh (show bS t e=(eP t e,0) by rw[Ha.O];rfl);have yx:(Tryz.prog.info? 81).map (·.size)=some 7:=by kernel_rfl
    have Kr:=Qh yx;clear yx;go_enter Tryz.func38,Tryz.ntmps38
    go_wp2_with fail
    refine(mg.O _ (hw.alloc _)).mono ?_;rintro e1 w1 ⟨rfl,aD⟩;have gQ:=Qh (dx rfl aD);have aM:Ok I w1:=(hw.alloc _).below (Qn _) aD;have bZ:w.heap.size<w1.heap.size:=by have:=aD.size;simp at this;omega
    have aH:Below w.heap.size w w1:=((Qb _ _).alloc (Qn _) _).trans (aD.mono (by simp));clear aD;obtain⟨c0,c1,c2,c3,c4,c5,c6⟩:=gQ.O;go_wp2_with fail
    refine(uj.O _ aM).mono ?_;rintro e2 w2 ⟨rfl,aL⟩;have lF:=Qh (gQ.O.aQ aL);have aX:Ok I w2:=aM.below (Qn _) aL;have eZ:w.heap.size<w2.heap.size:=by have:=aL.size;omega
    have aY:=aH.trans (aL.mono aH.size);clear aL aH bZ aM c0 c1 c2 c3 c4 c5 c6 gQ;obtain⟨c0,c1,c2,c3,c4,c5,c6⟩:=lF.O;go_wp2_with fail
    refine(Au.O _).mono ?_;rintro e3 w3 ⟨rfl,rfl⟩;go_wp2_with fail
    refine(oM.O _ aX).mono ?_;rintro e4 w4 ⟨rfl,aR⟩;have bU:Ok I w4:=aX.below (Qn _) aR;have bI:=aY.trans (aR.mono aY.size);have gG:=Qh (lF.O.aQ aR);have dJ:w.heap.size<w4.heap.size:=by have h2:=aR.size;omega
    clear aR c0 c1 c2 c3 c4 c5 c6;go_wp2_with fail
    refine(nH.O _ bU).mono ?_;rintro e5 w5 ⟨rfl,bM⟩;have dL:Ok I w5:=bU.below (Qn _) bM;have dE:=bI.trans (bM.mono bI.size);have mU:=Qh (gG.O.aQ bM);have jM:w.heap.size<w5.heap.size:=by have h2:=bM.size;omega
    clear bM bI;have qO:=Qh (IL I _ t Hv.O w5 dL (by omega));have iR:∀b,w5.heap.size≤b→I b=none:=fun b hb=>dL.fresh hb;have kw:=Qh iR;clear iR;go_wp2_with fail
    refine qO.O.mono ?_;rintro e6 w6 ⟨v6,rfl,kM,fF⟩;have iO:Ok I w6:=dL.below (Qn _) fF;have kH:=dE.trans (fF.mono dE.size);have zX:=Qh (mU.O.aQ fF);have rG:=Qh kM;have Di:=Qh fF.size;clear kM fF dE;obtain⟨y',IM,O8,b,off,cap',ky,cZ,⟨y0,_,_,_,_,_,_⟩,_,_⟩:=yu Hv.O iO i hi;cases cZ;have Mm:y'=y:=by rw[←ky,Hy.O]
    subst Mm;have g0:=cell_regrown zX.O.c0;have g1:=cell_regrown y0;clear ky;go_wp2_with fail
    refine wp_region_quiet_below (by kernel_rfl) (by kernel_rfl) ?_;repeat(go_big_quiet_step ((fail)))
    refine wpQuiet_nil ?_;intro w7 bq;have ji:Below (w6).heap.size (w6) w7:=by
     obtain⟨pq,rfl⟩:=bq;exact below_regrown _ _ _
    clear bq;have iP:Ok I w7:=iO.below (Qn _) ji;have pM:=kH.trans (ji.mono kH.size);have iB:=rG.O.below ji;obtain⟨c0,c1,c2,c3,c4,c5,c6⟩:=zX.O.aQ ji;clear ji g0 g1 y0 kH iO;obtain⟨xs,⟨nD,aS⟩,hL⟩:=iB;rcases aS with⟨Wt,tT⟩|⟨g,uX,cur,rfl,yF,sF,Mo,E5,fE,rQ⟩
    ·omega
    have kI:cur.size=uX*7:=fE;have mr:cur.toList.take (t.length*7)=xs:=rQ;have uR:xs.length=t.length*7:=nD;have nN:i*7+7≤cur.size:=by omega
    have E9:=Qh sF;have HL:=Qh hL;have ny:=Qh mr;have Ar:=Qh (show(over cur (i*7) (dI e (.slice aa e.aj.length ca) (.slice ax e.aA.length cx))).size=uX*7 by rw[DZ _ _ _ nN,kI]);have YA:=Qh (show(over cur (i*7) (dI e (.slice aa e.aj.length ca) (.slice ax e.aA.length cx))).toList.take (t.length*7)=xs.take (i*7)++dI e (.slice aa e.aj.length ca) (.slice ax e.aA.length cx)++xs.drop (i*7+7) by
     rw[Xfd _ _ _ _ (show i*7+7≤t.length*7 by omega) (by omega),mr];rfl)
    have vM:maxLen=9223372036854775807:=rfl;rw[vM]at E5;clear sF hL rQ mr fE kI nD uR vM;go_wp2_with (refine Yq rfl 81 _ _ rfl g (i*7) (dI e (.slice aa e.aj.length ca) (.slice ax e.aA.length cx)) (by simp[Act.eval]) rfl cur 81 E9.O nN Kr.O (bQ.one Ea.O) ?_)
    go_ret2;have Gg:=HL.O.set hi Ea.O;have hg:w7.grownBy (w7.setRow g (over cur (i*7) (dI e (.slice aa e.aj.length ca) (.slice ax e.aA.length cx)))) (some g):=Al;have kL:=iP.grown hg (fun g' Ov=>by cases Ov;exact kw.O _ yF);have mf:aK bQ 81 I (w7.setRow g (over cur (i*7) (dI e (.slice aa e.aj.length ca) (.slice ax e.aA.length cx)))) w5.heap.size (.slice (some ⟨g,0,none⟩) t.length uX) (t.set i e):=by
     refine⟨_,⟨Gg.1,.inr ⟨g,uX,_,by rw[List.length_set],yF,setRow_heap _ _ _ _ _ _ E9.O,by rw[List.length_set];exact Mo,by unfold maxLen;exact E5,Ar.O,by rw[List.length_set];exact YA.O⟩⟩,Gg⟩
    obtain⟨I',jC,ku,lX,_⟩:=mf.freeze kL kw.O;rw[Ci.O,uW.O];exact⟨_,I',rfl,pM.grown hg pM.size (fun k hk=>by cases hk;omega),jC.mono (Nat.le_of_lt jM),ku,lX⟩
   ·have Ci:=Qh (show bS t e=([],8) by rw[Ha.O];rfl);go_enter Tryz.func38,Tryz.ntmps38
    go_wp2_with fail
    refine(mg.O _ (hw.alloc _)).mono ?_;rintro e1 w1 ⟨rfl,aD⟩;have gQ:=Qh (dx rfl aD);have aM:Ok I w1:=(hw.alloc _).below (Qn _) aD;have bZ:w.heap.size<w1.heap.size:=by have:=aD.size;simp at this;omega
    have aH:Below w.heap.size w w1:=((Qb _ _).alloc (Qn _) _).trans (aD.mono (by simp));clear aD;obtain⟨c0,c1,c2,c3,c4,c5,c6⟩:=gQ.O;go_wp2_with fail
    refine(uj.O _ aM).mono ?_;rintro e2 w2 ⟨rfl,aL⟩;have lF:=Qh (gQ.O.aQ aL);have aX:Ok I w2:=aM.below (Qn _) aL;have eZ:w.heap.size<w2.heap.size:=by have:=aL.size;omega
    have aY:=aH.trans (aL.mono aH.size);clear aL aH bZ aM c0 c1 c2 c3 c4 c5 c6 gQ;obtain⟨c0,c1,c2,c3,c4,c5,c6⟩:=lF.O;go_wp2_with fail
    refine(Au.O _).mono ?_;rintro e3 w3 ⟨rfl,rfl⟩;go_wp2_with fail
    refine(oM.O _ aX).mono ?_;rintro e4 w4 ⟨rfl,aR⟩;have bU:Ok I w4:=aX.below (Qn _) aR;have bI:=aY.trans (aR.mono aY.size);have gG:=Qh (lF.O.aQ aR);have dJ:w.heap.size<w4.heap.size:=by have h2:=aR.size;omega
    clear aR c0 c1 c2 c3 c4 c5 c6;go_wp2_with fail
    refine(nH.O _ bU).mono ?_;rintro e5 w5 ⟨rfl,bM⟩;have dL:Ok I w5:=bU.below (Qn _) bM;have dE:=bI.trans (bM.mono bI.size);have mU:=Qh (gG.O.aQ bM);have jM:w.heap.size<w5.heap.size:=by have h2:=bM.size;omega
    clear bM bI;have qO:=Qh (IL I _ t Hv.O w5 dL (by omega));have iR:∀b,w5.heap.size≤b→I b=none:=fun b hb=>dL.fresh hb;have kw:=Qh iR;clear iR;go_wp2_with fail
    refine qO.O.mono ?_;rintro e6 w6 ⟨v6,rfl,kM,fF⟩;have iO:Ok I w6:=dL.below (Qn _) fF;have kH:=dE.trans (fF.mono dE.size);have zX:=Qh (mU.O.aQ fF);have rG:=Qh kM;have Di:=Qh fF.size;clear kM fF dE;obtain⟨y',IM,O8,b,off,cap',ky,cZ,⟨y0,_,_,_,_,_,_⟩,_,_⟩:=yu Hv.O iO i hi;cases cZ;have Mm:y'=y:=by rw[←ky,Hy.O]
    subst Mm;have g0:=cell_regrown zX.O.c0;have g1:=cell_regrown y0;clear ky;go_wp2_with fail
    refine wp_region_quiet_below (by kernel_rfl) (by kernel_rfl) ?_;repeat(go_big_quiet_step ((fail)))
    refine wpQuiet_nil ?_;intro w7 bq;have ji:Below (w6).heap.size (w6) w7:=by
     obtain⟨pq,rfl⟩:=bq;exact below_regrown _ _ _
    clear bq;go_wp2;go_ret2;rw[Ci.O];exact⟨_,I,rfl,kH.trans (ji.mono kH.size),Ext.refl _ _,iO.below (Qn _) ji,aZ.nil _ _⟩
   ·have Ci:=Qh (show bS t e=([],8) by rw[Ha.O];rfl);go_enter Tryz.func38,Tryz.ntmps38
    go_wp2_with fail
    refine(mg.O _ (hw.alloc _)).mono ?_;rintro e1 w1 ⟨rfl,aD⟩;have gQ:=Qh (dx rfl aD);have aM:Ok I w1:=(hw.alloc _).below (Qn _) aD;have bZ:w.heap.size<w1.heap.size:=by have:=aD.size;simp at this;omega
    have aH:Below w.heap.size w w1:=((Qb _ _).alloc (Qn _) _).trans (aD.mono (by simp));clear aD;obtain⟨c0,c1,c2,c3,c4,c5,c6⟩:=gQ.O;go_wp2_with fail
    refine(uj.O _ aM).mono ?_;rintro e2 w2 ⟨rfl,aL⟩;have lF:=Qh (gQ.O.aQ aL);have aX:Ok I w2:=aM.below (Qn _) aL;have eZ:w.heap.size<w2.heap.size:=by have:=aL.size;omega
    have aY:=aH.trans (aL.mono aH.size);clear aL aH bZ aM c0 c1 c2 c3 c4 c5 c6 gQ;obtain⟨c0,c1,c2,c3,c4,c5,c6⟩:=lF.O;go_wp2_with fail
    refine(Au.O _).mono ?_;rintro e3 w3 ⟨rfl,rfl⟩;go_wp2_with fail
    refine(oM.O _ aX).mono ?_;rintro e4 w4 ⟨rfl,aR⟩;have bU:Ok I w4:=aX.below (Qn _) aR;have bI:=aY.trans (aR.mono aY.size);have gG:=Qh (lF.O.aQ aR);have dJ:w.heap.size<w4.heap.size:=by have h2:=aR.size;omega
    clear aR c0 c1 c2 c3 c4 c5 c6;go_wp2_with fail
    refine(nH.O _ bU).mono ?_;rintro e5 w5 ⟨rfl,bM⟩;have dL:Ok I w5:=bU.below (Qn _) bM;have dE:=bI.trans (bM.mono bI.size);have mU:=Qh (gG.O.aQ bM);have jM:w.heap.size<w5.heap.size:=by have h2:=bM.size;omega
    clear bM bI;have qO:=Qh (IL I _ t Hv.O w5 dL (by omega));have iR:∀b,w5.heap.size≤b→I b=none:=fun b hb=>dL.fresh hb;have kw:=Qh iR;clear iR;go_wp2_with fail
    refine qO.O.mono ?_;rintro e6 w6 ⟨v6,rfl,kM,fF⟩;have iO:Ok I w6:=dL.below (Qn _) fF;have kH:=dE.trans (fF.mono dE.size);have zX:=Qh (mU.O.aQ fF);have rG:=Qh kM;have Di:=Qh fF.size;clear kM fF dE;obtain⟨y',IM,O8,b,off,cap',ky,cZ,⟨y0,_,_,_,_,_,_⟩,_,_⟩:=yu Hv.O iO i hi;cases cZ;have Mm:y'=y:=by rw[←ky,Hy.O]
    subst Mm;have g0:=cell_regrown zX.O.c0;have g1:=cell_regrown y0;clear ky;go_wp2_with fail
    refine wp_region_quiet_below (by kernel_rfl) (by kernel_rfl) ?_;repeat(go_big_quiet_step ((fail)))
    refine wpQuiet_nil ?_;intro w7 bq;have ji:Below (w6).heap.size (w6) w7:=by
     obtain⟨pq,rfl⟩:=bq;exact below_regrown _ _ _
    clear bq;go_wp2;go_ret2;rw[Ci.O];exact⟨_,I,rfl,kH.trans (ji.mono kH.size),Ext.refl _ _,iO.below (Qn _) ji,aZ.nil _ _⟩
   ·have Ci:=Qh (show bS t e=(eP t e,0) by rw[Ha.O];rfl);have yx:(Tryz.prog.info? 81).map (·.size)=some 7:=by kernel_rfl
    have Kr:=Qh yx;clear yx;go_enter Tryz.func38,Tryz.ntmps38
    go_wp2_with fail
    refine(mg.O _ (hw.alloc _)).mono ?_;rintro e1 w1 ⟨rfl,aD⟩;have gQ:=Qh (dx rfl aD);have aM:Ok I w1:=(hw.alloc _).below (Qn _) aD;have bZ:w.heap.size<w1.heap.size:=by have:=aD.size;simp at this;omega
    have aH:Below w.heap.size w w1:=((Qb _ _).alloc (Qn _) _).trans (aD.mono (by simp));clear aD;obtain⟨c0,c1,c2,c3,c4,c5,c6⟩:=gQ.O;go_wp2_with fail
    refine(uj.O _ aM).mono ?_;rintro e2 w2 ⟨rfl,aL⟩;have lF:=Qh (gQ.O.aQ aL);have aX:Ok I w2:=aM.below (Qn _) aL;have eZ:w.heap.size<w2.heap.size:=by have:=aL.size;omega
    have aY:=aH.trans (aL.mono aH.size);clear aL aH bZ aM c0 c1 c2 c3 c4 c5 c6 gQ;obtain⟨c0,c1,c2,c3,c4,c5,c6⟩:=lF.O;go_wp2_with fail
    refine(Au.O _).mono ?_;rintro e3 w3 ⟨rfl,rfl⟩;go_wp2_with fail
    refine(oM.O _ aX).mono ?_;rintro e4 w4 ⟨rfl,aR⟩;have bU:Ok I w4:=aX.below (Qn _) aR;have bI:=aY.trans (aR.mono aY.size);have gG:=Qh (lF.O.aQ aR);have dJ:w.heap.size<w4.heap.size:=by have h2:=aR.size;omega
    clear aR c0 c1 c2 c3 c4 c5 c6;go_wp2_with fail
    refine(nH.O _ bU).mono ?_;rintro e5 w5 ⟨rfl,bM⟩;have dL:Ok I w5:=bU.below (Qn _) bM;have dE:=bI.trans (bM.mono bI.size);have mU:=Qh (gG.O.aQ bM);have jM:w.heap.size<w5.heap.size:=by have h2:=bM.size;omega
    clear bM bI;have qO:=Qh (IL I _ t Hv.O w5 dL (by omega));have iR:∀b,w5.heap.size≤b→I b=none:=fun b hb=>dL.fresh hb;have kw:=Qh iR;clear iR;go_wp2_with fail
    refine qO.O.mono ?_;rintro e6 w6 ⟨v6,rfl,kM,fF⟩;have iO:Ok I w6:=dL.below (Qn _) fF;have kH:=dE.trans (fF.mono dE.size);have zX:=Qh (mU.O.aQ fF);have rG:=Qh kM;have Di:=Qh fF.size;clear kM fF dE;obtain⟨y',IM,O8,b,off,cap',ky,cZ,⟨y0,_,_,_,_,_,_⟩,_,_⟩:=yu Hv.O iO i hi;cases cZ;have Mm:y'=y:=by rw[←ky,Hy.O]
    subst Mm;have g0:=cell_regrown zX.O.c0;have g1:=cell_regrown y0;clear ky;go_wp2_with fail
    refine wp_region_quiet_below (by kernel_rfl) (by kernel_rfl) ?_;repeat(go_big_quiet_step ((fail)))
    refine wpQuiet_nil ?_;intro w7 bq;have ji:Below (w6).heap.size (w6) w7:=by
     obtain⟨pq,rfl⟩:=bq;exact below_regrown _ _ _
    clear bq;have iP:Ok I w7:=iO.below (Qn _) ji;have pM:=kH.trans (ji.mono kH.size);have iB:=rG.O.below ji;obtain⟨c0,c1,c2,c3,c4,c5,c6⟩:=zX.O.aQ ji;clear ji g0 g1 y0 kH iO;obtain⟨xs,⟨nD,aS⟩,hL⟩:=iB;rcases aS with⟨Wt,tT⟩|⟨g,uX,cur,rfl,yF,sF,Mo,E5,fE,rQ⟩
    ·omega
    have kI:cur.size=uX*7:=fE;have mr:cur.toList.take (t.length*7)=xs:=rQ;have uR:xs.length=t.length*7:=nD;have nN:i*7+7≤cur.size:=by omega
    have E9:=Qh sF;have HL:=Qh hL;have ny:=Qh mr;have Ar:=Qh (show(over cur (i*7) (dI e (.slice aa e.aj.length ca) (.slice ax e.aA.length cx))).size=uX*7 by rw[DZ _ _ _ nN,kI]);have YA:=Qh (show(over cur (i*7) (dI e (.slice aa e.aj.length ca) (.slice ax e.aA.length cx))).toList.take (t.length*7)=xs.take (i*7)++dI e (.slice aa e.aj.length ca) (.slice ax e.aA.length cx)++xs.drop (i*7+7) by
     rw[Xfd _ _ _ _ (show i*7+7≤t.length*7 by omega) (by omega),mr];rfl)
    have vM:maxLen=9223372036854775807:=rfl;rw[vM]at E5;clear sF hL rQ mr fE kI nD uR vM;go_wp2_with (refine Yq rfl 81 _ _ rfl g (i*7) (dI e (.slice aa e.aj.length ca) (.slice ax e.aA.length cx)) (by simp[Act.eval]) rfl cur 81 E9.O nN Kr.O (bQ.one Ea.O) ?_)
    go_ret2;have Gg:=HL.O.set hi Ea.O;have hg:w7.grownBy (w7.setRow g (over cur (i*7) (dI e (.slice aa e.aj.length ca) (.slice ax e.aA.length cx)))) (some g):=Al;have kL:=iP.grown hg (fun g' Ov=>by cases Ov;exact kw.O _ yF);have mf:aK bQ 81 I (w7.setRow g (over cur (i*7) (dI e (.slice aa e.aj.length ca) (.slice ax e.aA.length cx)))) w5.heap.size (.slice (some ⟨g,0,none⟩) t.length uX) (t.set i e):=by
     refine⟨_,⟨Gg.1,.inr ⟨g,uX,_,by rw[List.length_set],yF,setRow_heap _ _ _ _ _ _ E9.O,by rw[List.length_set];exact Mo,by unfold maxLen;exact E5,Ar.O,by rw[List.length_set];exact YA.O⟩⟩,Gg⟩
    obtain⟨I',jC,ku,lX,_⟩:=mf.freeze kL kw.O;rw[Ci.O,uW.O];exact⟨_,I',rfl,pM.grown hg pM.size (fun k hk=>by cases hk;omega),jC.mono (Nat.le_of_lt jM),ku,lX⟩
  ·subst Gb;have Ow:=Xr2 e2;have hnp:∀x∈t,x.ag≠e.ag:=fun x hx hp=>by
    rw[List.any_eq_true.2 ⟨x,hx,by simpa[rC]using hp⟩]at e2;exact absurd e2 (by simp)
   have Ha:=Qh (Xid H0.O Az.O Q4.O Ow);have uW:=Qh (Xwb Hsr.O e hnp);have Q5:=(Uv (gF t e.ag) 0 t.length (Nat.zero_le _)).2;clear e2 Ow hnp;by_cases h5:5000≤t.length
   ·have hd5:decide (5000≤t.length)=true:=Qt h5;have Ci:=Qh (show bS t e=([],6) by rw[Ha.O,if_pos h5]);go_enter Tryz.func38,Tryz.ntmps38
    go_wp2_with fail
    refine(mg.O _ (hw.alloc _)).mono ?_;rintro e1 w1 ⟨rfl,aD⟩;have gQ:=Qh (dx rfl aD);have aM:Ok I w1:=(hw.alloc _).below (Qn _) aD;have bZ:w.heap.size<w1.heap.size:=by have:=aD.size;simp at this;omega
    have aH:Below w.heap.size w w1:=((Qb _ _).alloc (Qn _) _).trans (aD.mono (by simp));clear aD;obtain⟨c0,c1,c2,c3,c4,c5,c6⟩:=gQ.O;go_wp2_with fail
    refine(uj.O _ aM).mono ?_;rintro e2 w2 ⟨rfl,aL⟩;have lF:=Qh (gQ.O.aQ aL);have aX:Ok I w2:=aM.below (Qn _) aL;have eZ:w.heap.size<w2.heap.size:=by have:=aL.size;omega
    have aY:=aH.trans (aL.mono aH.size);clear aL aH bZ aM c0 c1 c2 c3 c4 c5 c6 gQ;obtain⟨c0,c1,c2,c3,c4,c5,c6⟩:=lF.O;go_wp2_with fail
    refine(Au.O _).mono ?_;rintro e3 w3 ⟨rfl,rfl⟩;go_wp2_with fail
    refine(oM.O _ aX).mono ?_;rintro e4 w4 ⟨rfl,aR⟩;have bU:Ok I w4:=aX.below (Qn _) aR;have bI:=aY.trans (aR.mono aY.size);have gG:=Qh (lF.O.aQ aR);have dJ:w.heap.size<w4.heap.size:=by have h2:=aR.size;omega
    clear aR c0 c1 c2 c3 c4 c5 c6;go_wp2_with fail
    refine(nH.O _ bU).mono ?_;rintro e5 w5 ⟨rfl,bM⟩;have dL:Ok I w5:=bU.below (Qn _) bM;have dE:=bI.trans (bM.mono bI.size);have mU:=Qh (gG.O.aQ bM);have jM:w.heap.size<w5.heap.size:=by have h2:=bM.size;omega
    clear bM bI;have qO:=Qh (IL I _ t Hv.O w5 dL (by omega));have iR:∀b,w5.heap.size≤b→I b=none:=fun b hb=>dL.fresh hb;have kw:=Qh iR;clear iR;go_wp2_with fail
    refine qO.O.mono ?_;rintro e6 w6 ⟨v6,rfl,kM,fF⟩;have iO:Ok I w6:=dL.below (Qn _) fF;have kH:=dE.trans (fF.mono dE.size);have zX:=Qh (mU.O.aQ fF);have rG:=Qh kM;have Di:=Qh fF.size;clear kM fF dE;go_wp2;go_ret2;rw[Ci.O];exact⟨_,I,rfl,kH,Ext.refl _ _,iO,aZ.nil _ _⟩
   have hd5:decide (5000≤t.length)=false:=Qf h5;have Ci:=Qh (show bS t e=(eP t e,0) by rw[Ha.O,if_neg h5]);go_enter Tryz.func38,Tryz.ntmps38
   go_wp2_with fail
   refine(mg.O _ (hw.alloc _)).mono ?_;rintro e1 w1 ⟨rfl,aD⟩;have gQ:=Qh (dx rfl aD);have aM:Ok I w1:=(hw.alloc _).below (Qn _) aD;have bZ:w.heap.size<w1.heap.size:=by have:=aD.size;simp at this;omega
   have aH:Below w.heap.size w w1:=((Qb _ _).alloc (Qn _) _).trans (aD.mono (by simp));clear aD;obtain⟨c0,c1,c2,c3,c4,c5,c6⟩:=gQ.O;go_wp2_with fail
   refine(uj.O _ aM).mono ?_;rintro e2 w2 ⟨rfl,aL⟩;have lF:=Qh (gQ.O.aQ aL);have aX:Ok I w2:=aM.below (Qn _) aL;have eZ:w.heap.size<w2.heap.size:=by have:=aL.size;omega
   have aY:=aH.trans (aL.mono aH.size);clear aL aH bZ aM c0 c1 c2 c3 c4 c5 c6 gQ;obtain⟨c0,c1,c2,c3,c4,c5,c6⟩:=lF.O;go_wp2_with fail
   refine(Au.O _).mono ?_;rintro e3 w3 ⟨rfl,rfl⟩;go_wp2_with fail
   refine(oM.O _ aX).mono ?_;rintro e4 w4 ⟨rfl,aR⟩;have bU:Ok I w4:=aX.below (Qn _) aR;have bI:=aY.trans (aR.mono aY.size);have gG:=Qh (lF.O.aQ aR);have dJ:w.heap.size<w4.heap.size:=by have h2:=aR.size;omega
   clear aR c0 c1 c2 c3 c4 c5 c6;go_wp2_with fail
   refine(nH.O _ bU).mono ?_;rintro e5 w5 ⟨rfl,bM⟩;have dL:Ok I w5:=bU.below (Qn _) bM;have dE:=bI.trans (bM.mono bI.size);have mU:=Qh (gG.O.aQ bM);have jM:w.heap.size<w5.heap.size:=by have h2:=bM.size;omega
   clear bM bI;have qO:=Qh (IL I _ t Hv.O w5 dL (by omega));have iR:∀b,w5.heap.size≤b→I b=none:=fun b hb=>dL.fresh hb;have kw:=Qh iR;clear iR;go_wp2_with fail
   refine qO.O.mono ?_;rintro e6 w6 ⟨v6,rfl,kM,fF⟩;have iO:Ok I w6:=dL.below (Qn _) fF;have kH:=dE.trans (fF.mono dE.size);have zX:=Qh (mU.O.aQ fF);have rG:=Qh kM;have Di:=Qh fF.size;clear kM fF dE;obtain⟨I',hx',TM,Mq,_⟩:=rG.O.freeze iO kw.O;have Hbs:=Qh (Xdw I' (hI.mono (hx'.keep dL (Qn _))) v6 t Mq (by omega) Hs.O e.ag nV w6 TM);generalize bs (gF t e.ag) 0 t.length=i at Hbs uW Q5;obtain⟨a6,c6',rfl,_,_,_⟩:=id Mq;obtain⟨c0,c1,c2,c3,c4,c5,c6⟩:=zX.O;clear hx' TM Mq;go_wp2_with fail
   refine Hbs.O.mono ?_;rintro e7 w7 ⟨fb,rfl,ji⟩;clear c0 c1 c2 c3 c4 c5 c6;have iP:Ok I w7:=iO.below (Qn _) ji;have pM:=kH.trans (ji.mono kH.size);have Q6:=Qh (Nat.le_trans Di.O ji.size);obtain⟨c0,c1,c2,c3,c4,c5,c6⟩:=zX.O.aQ ji;have iC:=Qh (rG.O.below ji);have bn:=iC.O.nP (Qn w7.heap.size);have EU:=Qh (Xp1 I w5.heap.size _ t e w7.heap.size i 81 (dI e (.slice aa e.aj.length ca) (.slice ax e.aA.length cx)) _ (iC.O.alloc (.cells #[.int .i64 e.au,S e.ag,.slice aa e.aj.length ca,S e.target,.int .i64 e.size,S e.av,.slice ax e.aA.length cx] 81)) Ea.O (heap_alloc_new w7 (.cells #[.int .i64 e.au,S e.ag,.slice aa e.aj.length ca,S e.target,.int .i64 e.size,S e.av,.slice ax e.aA.length cx] 81)) bn Q5 (by omega) (by have:=Q6.O;simp;omega));clear ji bn;go_wp2_with fail
   refine EU.O.mono ?_;rintro e8 w8 ⟨v8,rfl,mf,qN⟩;have y9:=Qh mf;have Kq:=Qh qN;clear mf qN;go_wp2;go_ret2;rw[Ci.O,uW.O];have YB:Ok I (w7.alloc (.cells #[.int .i64 e.au,S e.ag,.slice aa e.aj.length ca,S e.target,.int .i64 e.size,S e.av,.slice ax e.aA.length cx] 81)):=iP.alloc _;have iB:=iC.O.alloc (.cells #[.int .i64 e.au,S e.ag,.slice aa e.aj.length ca,S e.target,.int .i64 e.size,S e.av,.slice ax e.aA.length cx] 81);have mR:=Below.own (pM.alloc pM.size _) Kq.O iB (Nat.le_of_lt jM) (by have:=Q6.O;simp;omega);have kL:Ok I w8:=Ok.own YB Kq.O iB kw.O;obtain⟨Ul,jC,ku,lX,_⟩:=y9.O.freeze kL kw.O;exact⟨_,Ul,rfl,mR,jC.mono (Nat.le_of_lt jM),ku,lX⟩
