/- Lemmas for the claim's theorem;conditions: as each says. -/
import Derived.Test.YtegieeommgiknaaGreatDoorU09
set_option maxHeartbeats 0
set_option maxRecDepth 100000
set_option linter.all false
namespace Go.Proofs.YtegieeommgiknaaGreatDoor
open Go.RowKit
variable{t:List bD}{e:bD}{p:af}{i:Nat}
theorem Xjz(h:aX e≠0):dh t e=([],aX e):=by rw[dh,if_pos h]
theorem Yq(h:aX e=0)(hk:3<e.av)(hg:¬(gu t e.aj=none∧e.aj≠[])):dh t e=(t.filter fun x=> !(iM e x),0):=by
 rw[dh,if_neg (by omega),if_pos hk,if_neg hg];by_cases h4:e.av=4
 ·rw[if_pos h4];congr 2;funext x;rw[iM,Qt h4,Bool.true_and]
 ·rw[if_neg h4];congr 1;symm;exact List.filter_eq_self.2 fun x _=>by rw[iM,Qf h4];rfl
theorem Xi4(h:aX e=0)(hk:3<e.av)(hg:gu t e.aj=none∧e.aj≠[]):dh t e=([],9):=by
 rw[dh,if_neg (by omega),if_pos hk,if_pos hg]
theorem Xjy(h:aX e=0)(hk:¬3<e.av)(hd:dX t (qA e.aj)≠0):dh t e=([],dX t (qA e.aj)):=by
 rw[dh,if_neg (by omega),if_neg hk,if_pos hd]
theorem Xi2{y:bD}(h:aX e=0)(hk:¬3<e.av)(hd:dX t (qA e.aj)=0)(hy:gu t e.aj=some y):dh t e=if(y.av==2) !=(e.av==2)then([],8)else(gH t e,0):=by
 rw[dh,if_neg (by omega),if_neg hk,if_neg (by omega),hy]
theorem Xi3(h:aX e=0)(hk:¬3<e.av)(hd:dX t (qA e.aj)=0)(hy:gu t e.aj=none):dh t e=if 5000≤t.length then([],6)else(gH t e,0):=by
 rw[dh,if_neg (by omega),if_neg hk,if_neg (by omega),hy]
theorem Xsx(hi:i<t.length)(hp:uK p t[i]=true)(hn:(t.take i).any (uK p)=false):gu t p=some t[i]:=by
 have:=Xmj hi hp hn;unfold mV at this;cases h:gu t p with
 |none=>rw[h]at this;simp at this
 |some x=>rw[h]at this;simp at this;rw[this]
theorem Xsw(hn:t.any (uK p)=false):gu t p=none:=by
 have:=Xmk hn;unfold mV at this;cases h:gu t p with
 |none=>rfl
 |some x=>rw[h]at this;simp at this
theorem bP.own{w w':World}{n:Nat}{va vx:Value}{row:Option Nat}(h:bP w n e va vx)(hg:w.grownBy w' row)(bq:row≠some n):bP w' n e va vx:=
 ⟨fC hg bq h.c0,fC hg bq h.c1,fC hg bq h.c2,fC hg bq h.c3,fC hg bq h.c4,fC hg bq h.c5,fC hg bq h.c6⟩
theorem dF.set{I:IH}{xs cs:List Value}{l:List bD}(h:dF bM I xs l)(hi:i<l.length){x:bD}(hx:bM.rd I cs x):dF bM I (xs.take (i*7)++cs++xs.drop (i*7+7)) (l.set i x):=by
 have h1:=((h.take i).append (dF.one hx)).append (h.drop (i+1));have hs:bM.size=7:=rfl;rw[hs,show(i+1)*7=i*7+7 by omega]at h1;have e:l.set i x=l.take i++[x]++l.drop (i+1):=by
  rw[List.set_eq_take_append_cons_drop,if_pos hi];simp
 rw[e];exact h1
theorem Xf2(cur:Array Value)(o m:Nat)(cs:List Value)(h:o+cs.length≤m)(hm:m≤cur.size):(over cur o cs).toList.take m=(cur.toList.take m).take o++cs++(cur.toList.take m).drop (o+cs.length):=by
 simp only[over];rw[List.take_append,List.take_of_length_le (by simp;omega)];congr 1
 ·rw[List.take_take,Nat.min_eq_left (by omega)]
 ·rw[List.drop_take];congr 1;simp;omega
theorem Xpi(I:IH)(hI:fG I)(v:Value)(t:List bD)(hv:aZ bM I v t)(hs:II t)(hsr:kP t)(hn:t.length≤100000)(e:bD)(va vx:Value)(gK:aZ nk I va e.ag)(kw:aZ mU I vx e.aC)(lQ:e.Wf)(qp:e.aj.length≤4294967280)(zu:e.target.length≤4294967280)(w:World)(hw:Ok I w):
 Calls Tryz.prog 35 #[v,iF e va vx] w (Fx bM I w (dh t e).1 (dh t e).2):=by
 have hlen:=hv.bL;have mY:=Qh (fun w hw=>Yp I hI e va vx gK kw lQ qp zu w hw);obtain⟨ao,cap,rfl,fu,iv,_⟩:=id hv;have Hv:=Qh hv;obtain⟨aa,ca,rfl,_,_,_⟩:=id gK;obtain⟨ax,cx,rfl,_,_,_⟩:=id kw;have rP:=Qh (show bM.rd I (eO e (.slice aa e.ag.length ca) (.slice ax e.aC.length cx)) e from⟨_,_,rfl,gK,kw⟩);have Hs:=Qh hs;have Hsr:=Qh hsr;clear hv gK kw hs hsr;by_cases h0:aX e=0;case neg=>
  have Ha:=Qh (Xjz (t:=t) h0);obtain⟨q,hq⟩:∃q,aX e=q:=⟨_,rfl⟩;have E9:(q !=0)=true:=by rw[←hq];simpa using h0
  rw[hq]at mY Ha;clear hq h0;go_enter Tryz.func35,Tryz.ntmps35
  go_wp2_with fail
  refine(mY.O _ (hw.alloc _)).mono ?_;rintro e1 w1 ⟨rfl,aG⟩;have iW:=Qh (dP rfl aG);have aO:Ok I w1:=(hw.alloc _).below (Qn _) aG;have dJ:w.heap.size<w1.heap.size:=by have:=aG.size;simp at this;omega
  have aM:Below w.heap.size w w1:=((Qb _ _).alloc (Qn _) _).trans (aG.mono (by simp));clear aG;go_wp2;go_ret2;rw[Ha.O];exact⟨_,I,rfl,aM,Ext.refl _ _,aO,aZ.nil _ _⟩
 have mJ:=JV h0;have H0:=Qh h0;rw[h0]at mY;have Dl:=Qh (Xtd e.av);have wM:=Qh (fun w hw=>Xte I _ t Hv.O e.aj w hw);have JF:=RJ t (uK e.aj);generalize su t (uK e.aj)=ix at wM JF;clear h0;by_cases sJ:3<e.av
 ·have vM:inT e.av=false:=by
   cases h:inT e.av with
   |false=>rfl
   |true=>have:=rT.1 h;omega
  rw[vM]at Dl;have Dn:=Qh sJ;clear vM;have qw:(∃i:Nat,ix=i∧i<t.length∧gu t e.aj≠none)∨(ix= -1∧gu t e.aj=none):=by
   rcases JF with⟨i,hi,e1,e2,e3⟩|⟨e1,e2⟩
   ·exact .inl ⟨i,e1,hi,by rw[Xsx hi e2 e3];simp⟩
   ·exact .inr ⟨e1,Xsw e2⟩
  clear JF;have Q3:(∃i:Nat,ix=i∧i<t.length∧gu t e.aj≠none)∨(ix= -1∧e.aj=[])∨(ix= -1∧gu t e.aj=none∧e.aj≠[]):=by
   rcases qw with h|⟨h1,h2⟩
   ·exact .inl h
   ·by_cases hp:e.aj=[]
    ·exact .inr (.inl ⟨h1,hp⟩)
    ·exact .inr (.inr ⟨h1,h2,hp⟩)
  clear qw;rcases Q3 with⟨i,rfl,hi,hg⟩|⟨rfl,hp⟩|⟨rfl,hg,hp⟩
  ·have Ha:=Qh (Yq (t:=t) H0.O Dn.O fun h=>hg h.1);clear hg;go_enter Tryz.func35,Tryz.ntmps35
   go_wp2_with fail
   refine(mY.O _ (hw.alloc _)).mono ?_;rintro e1 w1 ⟨rfl,aG⟩;have iW:=Qh (dP rfl aG);have aO:Ok I w1:=(hw.alloc _).below (Qn _) aG;have dJ:w.heap.size<w1.heap.size:=by have:=aG.size;simp at this;omega
   have aM:Below w.heap.size w w1:=((Qb _ _).alloc (Qn _) _).trans (aG.mono (by simp));clear aG;obtain⟨c0,c1,c2,c3,c4,c5,c6⟩:=iW.O;go_wp2_with fail
   refine(wM.O _ aO).mono ?_;rintro e2 w2 ⟨rfl,aL⟩;have nu:=Qh (iW.O.aR aL);have bn:Ok I w2:=aO.below (Qn _) aL;have gJ:w.heap.size<w2.heap.size:=by have:=aL.size;omega
   have bH:=aM.trans (aL.mono aM.size);clear aL aM dJ aO c0 c1 c2 c3 c4 c5 c6 iW;obtain⟨c0,c1,c2,c3,c4,c5,c6⟩:=nu.O;go_wp2_with fail
   refine(Dl.O _).mono ?_;rintro e3 w3 ⟨rfl,rfl⟩;have qZ:=Qh (G7 I _ t Hv.O w2 bn (by omega));have jN:∀b,w2.heap.size≤b→I b=none:=fun b hb=>bn.fresh hb;have lM:=Qh jN;clear jN;go_wp2_with fail
   refine qZ.O.mono ?_;rintro e4 w4 ⟨v4,rfl,rC,aS⟩;have dz:Ok I w4:=bn.below (Qn _) aS;have cK:=bH.trans (aS.mono bH.size);have iI:=Qh (nu.O.aR aS);have bG:=Qh rC;have IJ:=Qh aS.size;have Pj:=Qh (Xeh I w2.heap.size v4 t w4 bG.O (by omega) 64 #[.pointer (some ⟨w.heap.size,0,none⟩)] (iM e) dz lM.O IJ.O (fun _ _=>by kernel_rfl) (Xmr I hI e qp w.heap.size _ _ t Hs.O _ fun W hW=>⟨dz.grown hW (fun g hg=>lM.O g (bG.O.rf hg)),iI.O.own hW (bG.O.dm gJ)⟩));clear rC aS c0 c1 c2 c3 c4 c5 c6;go_wp2_with fail
   refine Pj.O.mono ?_;rintro e5 w5 ⟨v5,rfl,iV,hg5⟩;have gW:=Qh iV;have UR:=Qh hg5;clear iV hg5;go_wp2;go_ret2;rw[Ha.O];have df:=Below.own cK UR.O bG.O (Nat.le_of_lt gJ) IJ.O;have fZ:Ok I w5:=Ok.own dz UR.O bG.O lM.O;obtain⟨I',kL,lI,nV,_⟩:=gW.O.freeze fZ lM.O;exact⟨_,I',rfl,df,kL.mono (Nat.le_of_lt gJ),lI,nV⟩
  ·have Ha:=Qh (Yq (t:=t) H0.O Dn.O fun h=>h.2 hp);obtain⟨p1,p2,p3,p4⟩:=EA hp;clear hp;go_enter Tryz.func35,Tryz.ntmps35
   go_wp2_with fail
   refine(mY.O _ (hw.alloc _)).mono ?_;rintro e1 w1 ⟨rfl,aG⟩;have iW:=Qh (dP rfl aG);have aO:Ok I w1:=(hw.alloc _).below (Qn _) aG;have dJ:w.heap.size<w1.heap.size:=by have:=aG.size;simp at this;omega
   have aM:Below w.heap.size w w1:=((Qb _ _).alloc (Qn _) _).trans (aG.mono (by simp));clear aG;obtain⟨c0,c1,c2,c3,c4,c5,c6⟩:=iW.O;go_wp2_with fail
   refine(wM.O _ aO).mono ?_;rintro e2 w2 ⟨rfl,aL⟩;have nu:=Qh (iW.O.aR aL);have bn:Ok I w2:=aO.below (Qn _) aL;have gJ:w.heap.size<w2.heap.size:=by have:=aL.size;omega
   have bH:=aM.trans (aL.mono aM.size);clear aL aM dJ aO c0 c1 c2 c3 c4 c5 c6 iW;obtain⟨c0,c1,c2,c3,c4,c5,c6⟩:=nu.O;go_wp2_with fail
   refine(Dl.O _).mono ?_;rintro e3 w3 ⟨rfl,rfl⟩;have qZ:=Qh (G7 I _ t Hv.O w2 bn (by omega));have jN:∀b,w2.heap.size≤b→I b=none:=fun b hb=>bn.fresh hb;have lM:=Qh jN;clear jN;go_wp2_with fail
   refine qZ.O.mono ?_;rintro e4 w4 ⟨v4,rfl,rC,aS⟩;have dz:Ok I w4:=bn.below (Qn _) aS;have cK:=bH.trans (aS.mono bH.size);have iI:=Qh (nu.O.aR aS);have bG:=Qh rC;have IJ:=Qh aS.size;have Pj:=Qh (Xeh I w2.heap.size v4 t w4 bG.O (by omega) 64 #[.pointer (some ⟨w.heap.size,0,none⟩)] (iM e) dz lM.O IJ.O (fun _ _=>by kernel_rfl) (Xmr I hI e qp w.heap.size _ _ t Hs.O _ fun W hW=>⟨dz.grown hW (fun g hg=>lM.O g (bG.O.rf hg)),iI.O.own hW (bG.O.dm gJ)⟩));clear rC aS c0 c1 c2 c3 c4 c5 c6;go_wp2_with fail
   refine Pj.O.mono ?_;rintro e5 w5 ⟨v5,rfl,iV,hg5⟩;have gW:=Qh iV;have UR:=Qh hg5;clear iV hg5;go_wp2;go_ret2;rw[Ha.O];have df:=Below.own cK UR.O bG.O (Nat.le_of_lt gJ) IJ.O;have fZ:Ok I w5:=Ok.own dz UR.O bG.O lM.O;obtain⟨I',kL,lI,nV,_⟩:=gW.O.freeze fZ lM.O;exact⟨_,I',rfl,df,kL.mono (Nat.le_of_lt gJ),lI,nV⟩
  ·have Ha:=Qh (Xi4 (t:=t) H0.O Dn.O ⟨hg,hp⟩);obtain⟨p1,p2,p3,p4⟩:=Dh hp;clear hp hg;go_enter Tryz.func35,Tryz.ntmps35
   go_wp2_with fail
   refine(mY.O _ (hw.alloc _)).mono ?_;rintro e1 w1 ⟨rfl,aG⟩;have iW:=Qh (dP rfl aG);have aO:Ok I w1:=(hw.alloc _).below (Qn _) aG;have dJ:w.heap.size<w1.heap.size:=by have:=aG.size;simp at this;omega
   have aM:Below w.heap.size w w1:=((Qb _ _).alloc (Qn _) _).trans (aG.mono (by simp));clear aG;obtain⟨c0,c1,c2,c3,c4,c5,c6⟩:=iW.O;go_wp2_with fail
   refine(wM.O _ aO).mono ?_;rintro e2 w2 ⟨rfl,aL⟩;have nu:=Qh (iW.O.aR aL);have bn:Ok I w2:=aO.below (Qn _) aL;have gJ:w.heap.size<w2.heap.size:=by have:=aL.size;omega
   have bH:=aM.trans (aL.mono aM.size);clear aL aM dJ aO c0 c1 c2 c3 c4 c5 c6 iW;obtain⟨c0,c1,c2,c3,c4,c5,c6⟩:=nu.O;go_wp2_with fail
   refine(Dl.O _).mono ?_;rintro e3 w3 ⟨rfl,rfl⟩;go_wp2;go_ret2;rw[Ha.O];exact⟨_,I,rfl,bH,Ext.refl _ _,bn,aZ.nil _ _⟩
 ·have vM:inT e.av=true:=rT.2 (by omega);rw[vM]at Dl;have Dn:=Qh sJ;have IK:e.aj≠[]:=fun hp=>by have:=mJ.2.2.2 hp;omega
  have rD:=Qh (fun w hw=>Xsb I hI e.aj qp w hw);rw[Xsd mJ.2.2.1 IK]at rD;have pR:=Qh (fun w hw=>Xmp I _ t Hv.O (qA e.aj) w hw);clear vM IK;by_cases Eh:dX t (qA e.aj)=0;case neg=>
   have Ha:=Qh (Xjy (t:=t) H0.O Dn.O Eh);obtain⟨q,hq⟩:∃q,dX t (qA e.aj)=q:=⟨_,rfl⟩;have E9:(q !=0)=true:=by rw[←hq];simpa using Eh
   rw[hq]at pR Ha;clear hq Eh JF;go_enter Tryz.func35,Tryz.ntmps35
   go_wp2_with fail
   refine(mY.O _ (hw.alloc _)).mono ?_;rintro e1 w1 ⟨rfl,aG⟩;have iW:=Qh (dP rfl aG);have aO:Ok I w1:=(hw.alloc _).below (Qn _) aG;have dJ:w.heap.size<w1.heap.size:=by have:=aG.size;simp at this;omega
   have aM:Below w.heap.size w w1:=((Qb _ _).alloc (Qn _) _).trans (aG.mono (by simp));clear aG;obtain⟨c0,c1,c2,c3,c4,c5,c6⟩:=iW.O;go_wp2_with fail
   refine(wM.O _ aO).mono ?_;rintro e2 w2 ⟨rfl,aL⟩;have nu:=Qh (iW.O.aR aL);have bn:Ok I w2:=aO.below (Qn _) aL;have gJ:w.heap.size<w2.heap.size:=by have:=aL.size;omega
   have bH:=aM.trans (aL.mono aM.size);clear aL aM dJ aO c0 c1 c2 c3 c4 c5 c6 iW;obtain⟨c0,c1,c2,c3,c4,c5,c6⟩:=nu.O;go_wp2_with fail
   refine(Dl.O _).mono ?_;rintro e3 w3 ⟨rfl,rfl⟩;go_wp2_with fail
   refine(rD.O _ bn).mono ?_;rintro e4 w4 ⟨rfl,aS⟩;have dz:Ok I w4:=bn.below (Qn _) aS;have cK:=bH.trans (aS.mono bH.size);have iI:=Qh (nu.O.aR aS);have eQ:w.heap.size<w4.heap.size:=by have h2:=aS.size;omega
   clear aS c0 c1 c2 c3 c4 c5 c6;go_wp2_with fail
   refine(pR.O _ dz).mono ?_;rintro e5 w5 ⟨rfl,df⟩;have fZ:Ok I w5:=dz.below (Qn _) df;have eH:=cK.trans (df.mono cK.size);have oW:=Qh (iI.O.aR df);have kX:w.heap.size<w5.heap.size:=by have h2:=df.size;omega
   clear df cK;go_wp2;go_ret2;rw[Ha.O];exact⟨_,I,rfl,eH,Ext.refl _ _,fZ,aZ.nil _ _⟩
  have UT:=Qh Eh;rw[Eh]at pR;clear Eh;rcases JF with⟨i,hi,JF,e2,e3⟩|⟨JF,e2⟩
  ·subst JF;have RU:=Xsx hi e2 e3;have hpy:t[i].aj=e.aj:=by simpa[uK]using e2
   obtain⟨y,hy⟩:∃y,t[i]=y:=⟨_,rfl⟩;rw[hy]at RU;have Hy:=Qh hy;have xI:=Qh (Xug Hsr.O e hi hpy);obtain⟨b1,aG⟩:∃b,((y.av:Int)==2)=b:=⟨_,rfl⟩;obtain⟨b2,aL⟩:∃b,((e.av:Int)==2)=b:=⟨_,rfl⟩;have Ha:=Qh (Xi2 H0.O Dn.O UT.O RU);rw[aG,aL]at Ha;clear e2 e3 hy RU hpy;cases b1<;>cases b2
   ·have EI:=Qh (show dh t e=(gH t e,0) by rw[Ha.O];rfl);have Au:(Tryz.prog.info? 63).map (·.size)=some 7:=by kernel_rfl
    have Nv:=Qh Au;clear Au;go_enter Tryz.func35,Tryz.ntmps35
    go_wp2_with fail
    refine(mY.O _ (hw.alloc _)).mono ?_;rintro e1 w1 ⟨rfl,aG⟩;have iW:=Qh (dP rfl aG);have aO:Ok I w1:=(hw.alloc _).below (Qn _) aG;have dJ:w.heap.size<w1.heap.size:=by have:=aG.size;simp at this;omega
    have aM:Below w.heap.size w w1:=((Qb _ _).alloc (Qn _) _).trans (aG.mono (by simp));clear aG;obtain⟨c0,c1,c2,c3,c4,c5,c6⟩:=iW.O;go_wp2_with fail
    refine(wM.O _ aO).mono ?_;rintro e2 w2 ⟨rfl,aL⟩;have nu:=Qh (iW.O.aR aL);have bn:Ok I w2:=aO.below (Qn _) aL;have gJ:w.heap.size<w2.heap.size:=by have:=aL.size;omega
    have bH:=aM.trans (aL.mono aM.size);clear aL aM dJ aO c0 c1 c2 c3 c4 c5 c6 iW;obtain⟨c0,c1,c2,c3,c4,c5,c6⟩:=nu.O;go_wp2_with fail
    refine(Dl.O _).mono ?_;rintro e3 w3 ⟨rfl,rfl⟩;go_wp2_with fail
    refine(rD.O _ bn).mono ?_;rintro e4 w4 ⟨rfl,aS⟩;have dz:Ok I w4:=bn.below (Qn _) aS;have cK:=bH.trans (aS.mono bH.size);have iI:=Qh (nu.O.aR aS);have eQ:w.heap.size<w4.heap.size:=by have h2:=aS.size;omega
    clear aS c0 c1 c2 c3 c4 c5 c6;go_wp2_with fail
    refine(pR.O _ dz).mono ?_;rintro e5 w5 ⟨rfl,df⟩;have fZ:Ok I w5:=dz.below (Qn _) df;have eH:=cK.trans (df.mono cK.size);have oW:=Qh (iI.O.aR df);have kX:w.heap.size<w5.heap.size:=by have h2:=df.size;omega
    clear df cK;have qZ:=Qh (G7 I _ t Hv.O w5 fZ (by omega));have jN:∀b,w5.heap.size≤b→I b=none:=fun b hb=>fZ.fresh hb;have lM:=Qh jN;clear jN;go_wp2_with fail
    refine qZ.O.mono ?_;rintro e6 w6 ⟨v6,rfl,l9,gF⟩;have fF:Ok I w6:=fZ.below (Qn _) gF;have lY:=eH.trans (gF.mono eH.size);have Cr:=Qh (oW.O.aR gF);have uL:=Qh l9;have FI:=Qh gF.size;clear l9 gF eH;obtain⟨y',RV,RX,b,off,cap',kK,dC,⟨y0,_,_,_,_,_,_⟩,_,_⟩:=wD Hv.O fF i hi;cases dC;have Pk:y'=y:=by rw[←kK,Hy.O]
    subst Pk;have g0:=cell_regrown Cr.O.c0;have g1:=cell_regrown y0;clear kK;go_wp2_with fail
    refine wp_region_quiet_below (by kernel_rfl) (by kernel_rfl) ?_;repeat(go_big_quiet_step ((fail)))
    refine wpQuiet_nil ?_;intro w7 bJ;have ji:Below (w6).heap.size (w6) w7:=by
     obtain⟨pq,rfl⟩:=bJ;exact below_regrown _ _ _
    clear bJ;have eY:Ok I w7:=fF.below (Qn _) ji;have sD:=lY.trans (ji.mono lY.size);have jw:=uL.O.below ji;obtain⟨c0,c1,c2,c3,c4,c5,c6⟩:=Cr.O.aR ji;clear ji g0 g1 y0 lY fF;obtain⟨xs,⟨qo,aK⟩,hL⟩:=jw;rcases aK with⟨ZA,vN⟩|⟨g,zQ,cur,rfl,FZ,vC,Pm,IL,jf,pE⟩
    ·omega
    have lv:cur.size=zQ*7:=jf;have oH:cur.toList.take (t.length*7)=xs:=pE;have xA:xs.length=t.length*7:=qo;have p9:i*7+7≤cur.size:=by omega
    have IM:=Qh vC;have HL:=Qh hL;have mq:=Qh oH;have Dj:=Qh (show(over cur (i*7) (eO e (.slice aa e.ag.length ca) (.slice ax e.aC.length cx))).size=zQ*7 by rw[Gd _ _ _ p9,lv]);have Htm:=Qh (show(over cur (i*7) (eO e (.slice aa e.ag.length ca) (.slice ax e.aC.length cx))).toList.take (t.length*7)=xs.take (i*7)++eO e (.slice aa e.ag.length ca) (.slice ax e.aC.length cx)++xs.drop (i*7+7) by
     rw[Xf2 _ _ _ _ (show i*7+7≤t.length*7 by omega) (by omega),oH];rfl)
    have yc:maxLen=9223372036854775807:=rfl;rw[yc]at IL;clear vC hL pE oH jf lv qo xA yc;go_wp2_with (refine Xca rfl 63 _ _ rfl g (i*7) (eO e (.slice aa e.ag.length ca) (.slice ax e.aC.length cx)) (by simp[Act.eval]) rfl cur 63 IM.O p9 Nv.O (bM.one rP.O) ?_)
    go_ret2;have JG:=HL.O.set hi rP.O;have hg:w7.grownBy (w7.setRow g (over cur (i*7) (eO e (.slice aa e.ag.length ca) (.slice ax e.aC.length cx)))) (some g):=bA;have lG:=eY.grown hg (fun g' Q4=>by cases Q4;exact lM.O _ FZ);have ow:aQ bM 63 I (w7.setRow g (over cur (i*7) (eO e (.slice aa e.ag.length ca) (.slice ax e.aC.length cx)))) w5.heap.size (.slice (some ⟨g,0,none⟩) t.length zQ) (t.set i e):=by
     refine⟨_,⟨JG.1,.inr ⟨g,zQ,_,by rw[List.length_set],FZ,setRow_heap _ _ _ _ _ _ IM.O,by rw[List.length_set];exact Pm,by unfold maxLen;exact IL,Dj.O,by rw[List.length_set];exact Htm.O⟩⟩,JG⟩
    obtain⟨I',kL,lI,nV,_⟩:=ow.freeze lG lM.O;rw[EI.O,xI.O];exact⟨_,I',rfl,sD.grown hg sD.size (fun k hk=>by cases hk;omega),kL.mono (Nat.le_of_lt kX),lI,nV⟩
   ·have EI:=Qh (show dh t e=([],8) by rw[Ha.O];rfl);go_enter Tryz.func35,Tryz.ntmps35
    go_wp2_with fail
    refine(mY.O _ (hw.alloc _)).mono ?_;rintro e1 w1 ⟨rfl,aG⟩;have iW:=Qh (dP rfl aG);have aO:Ok I w1:=(hw.alloc _).below (Qn _) aG;have dJ:w.heap.size<w1.heap.size:=by have:=aG.size;simp at this;omega
    have aM:Below w.heap.size w w1:=((Qb _ _).alloc (Qn _) _).trans (aG.mono (by simp));clear aG;obtain⟨c0,c1,c2,c3,c4,c5,c6⟩:=iW.O;go_wp2_with fail
    refine(wM.O _ aO).mono ?_;rintro e2 w2 ⟨rfl,aL⟩;have nu:=Qh (iW.O.aR aL);have bn:Ok I w2:=aO.below (Qn _) aL;have gJ:w.heap.size<w2.heap.size:=by have:=aL.size;omega
    have bH:=aM.trans (aL.mono aM.size);clear aL aM dJ aO c0 c1 c2 c3 c4 c5 c6 iW;obtain⟨c0,c1,c2,c3,c4,c5,c6⟩:=nu.O;go_wp2_with fail
    refine(Dl.O _).mono ?_;rintro e3 w3 ⟨rfl,rfl⟩;go_wp2_with fail
    refine(rD.O _ bn).mono ?_;rintro e4 w4 ⟨rfl,aS⟩;have dz:Ok I w4:=bn.below (Qn _) aS;have cK:=bH.trans (aS.mono bH.size);have iI:=Qh (nu.O.aR aS);have eQ:w.heap.size<w4.heap.size:=by have h2:=aS.size;omega
    clear aS c0 c1 c2 c3 c4 c5 c6;go_wp2_with fail
    refine(pR.O _ dz).mono ?_;rintro e5 w5 ⟨rfl,df⟩;have fZ:Ok I w5:=dz.below (Qn _) df;have eH:=cK.trans (df.mono cK.size);have oW:=Qh (iI.O.aR df);have kX:w.heap.size<w5.heap.size:=by have h2:=df.size;omega
    clear df cK;have qZ:=Qh (G7 I _ t Hv.O w5 fZ (by omega));have jN:∀b,w5.heap.size≤b→I b=none:=fun b hb=>fZ.fresh hb;have lM:=Qh jN;clear jN;go_wp2_with fail
    refine qZ.O.mono ?_;rintro e6 w6 ⟨v6,rfl,l9,gF⟩;have fF:Ok I w6:=fZ.below (Qn _) gF;have lY:=eH.trans (gF.mono eH.size);have Cr:=Qh (oW.O.aR gF);have uL:=Qh l9;have FI:=Qh gF.size;clear l9 gF eH;obtain⟨y',RV,RX,b,off,cap',kK,dC,⟨y0,_,_,_,_,_,_⟩,_,_⟩:=wD Hv.O fF i hi;cases dC;have Pk:y'=y:=by rw[←kK,Hy.O]
    subst Pk;have g0:=cell_regrown Cr.O.c0;have g1:=cell_regrown y0;clear kK;go_wp2_with fail
    refine wp_region_quiet_below (by kernel_rfl) (by kernel_rfl) ?_;repeat(go_big_quiet_step ((fail)))
    refine wpQuiet_nil ?_;intro w7 bJ;have ji:Below (w6).heap.size (w6) w7:=by
     obtain⟨pq,rfl⟩:=bJ;exact below_regrown _ _ _
    clear bJ;go_wp2;go_ret2;rw[EI.O];exact⟨_,I,rfl,lY.trans (ji.mono lY.size),Ext.refl _ _,fF.below (Qn _) ji,aZ.nil _ _⟩
   ·have EI:=Qh (show dh t e=([],8) by rw[Ha.O];rfl);go_enter Tryz.func35,Tryz.ntmps35
    go_wp2_with fail
    refine(mY.O _ (hw.alloc _)).mono ?_;rintro e1 w1 ⟨rfl,aG⟩;have iW:=Qh (dP rfl aG);have aO:Ok I w1:=(hw.alloc _).below (Qn _) aG;have dJ:w.heap.size<w1.heap.size:=by have:=aG.size;simp at this;omega
    have aM:Below w.heap.size w w1:=((Qb _ _).alloc (Qn _) _).trans (aG.mono (by simp));clear aG;obtain⟨c0,c1,c2,c3,c4,c5,c6⟩:=iW.O;go_wp2_with fail
    refine(wM.O _ aO).mono ?_;rintro e2 w2 ⟨rfl,aL⟩;have nu:=Qh (iW.O.aR aL);have bn:Ok I w2:=aO.below (Qn _) aL;have gJ:w.heap.size<w2.heap.size:=by have:=aL.size;omega
    have bH:=aM.trans (aL.mono aM.size);clear aL aM dJ aO c0 c1 c2 c3 c4 c5 c6 iW;obtain⟨c0,c1,c2,c3,c4,c5,c6⟩:=nu.O;go_wp2_with fail
    refine(Dl.O _).mono ?_;rintro e3 w3 ⟨rfl,rfl⟩;go_wp2_with fail
    refine(rD.O _ bn).mono ?_;rintro e4 w4 ⟨rfl,aS⟩;have dz:Ok I w4:=bn.below (Qn _) aS;have cK:=bH.trans (aS.mono bH.size);have iI:=Qh (nu.O.aR aS);have eQ:w.heap.size<w4.heap.size:=by have h2:=aS.size;omega
    clear aS c0 c1 c2 c3 c4 c5 c6;go_wp2_with fail
    refine(pR.O _ dz).mono ?_;rintro e5 w5 ⟨rfl,df⟩;have fZ:Ok I w5:=dz.below (Qn _) df;have eH:=cK.trans (df.mono cK.size);have oW:=Qh (iI.O.aR df);have kX:w.heap.size<w5.heap.size:=by have h2:=df.size;omega
    clear df cK;have qZ:=Qh (G7 I _ t Hv.O w5 fZ (by omega));have jN:∀b,w5.heap.size≤b→I b=none:=fun b hb=>fZ.fresh hb;have lM:=Qh jN;clear jN;go_wp2_with fail
    refine qZ.O.mono ?_;rintro e6 w6 ⟨v6,rfl,l9,gF⟩;have fF:Ok I w6:=fZ.below (Qn _) gF;have lY:=eH.trans (gF.mono eH.size);have Cr:=Qh (oW.O.aR gF);have uL:=Qh l9;have FI:=Qh gF.size;clear l9 gF eH;obtain⟨y',RV,RX,b,off,cap',kK,dC,⟨y0,_,_,_,_,_,_⟩,_,_⟩:=wD Hv.O fF i hi;cases dC;have Pk:y'=y:=by rw[←kK,Hy.O]
    subst Pk;have g0:=cell_regrown Cr.O.c0;have g1:=cell_regrown y0;clear kK;go_wp2_with fail
    refine wp_region_quiet_below (by kernel_rfl) (by kernel_rfl) ?_;repeat(go_big_quiet_step ((fail)))
    refine wpQuiet_nil ?_;intro w7 bJ;have ji:Below (w6).heap.size (w6) w7:=by
     obtain⟨pq,rfl⟩:=bJ;exact below_regrown _ _ _
    clear bJ;go_wp2;go_ret2;rw[EI.O];exact⟨_,I,rfl,lY.trans (ji.mono lY.size),Ext.refl _ _,fF.below (Qn _) ji,aZ.nil _ _⟩
   ·have EI:=Qh (show dh t e=(gH t e,0) by rw[Ha.O];rfl);have Au:(Tryz.prog.info? 63).map (·.size)=some 7:=by kernel_rfl
    have Nv:=Qh Au;clear Au;go_enter Tryz.func35,Tryz.ntmps35
    go_wp2_with fail
    refine(mY.O _ (hw.alloc _)).mono ?_;rintro e1 w1 ⟨rfl,aG⟩;have iW:=Qh (dP rfl aG);have aO:Ok I w1:=(hw.alloc _).below (Qn _) aG;have dJ:w.heap.size<w1.heap.size:=by have:=aG.size;simp at this;omega
    have aM:Below w.heap.size w w1:=((Qb _ _).alloc (Qn _) _).trans (aG.mono (by simp));clear aG;obtain⟨c0,c1,c2,c3,c4,c5,c6⟩:=iW.O;go_wp2_with fail
    refine(wM.O _ aO).mono ?_;rintro e2 w2 ⟨rfl,aL⟩;have nu:=Qh (iW.O.aR aL);have bn:Ok I w2:=aO.below (Qn _) aL;have gJ:w.heap.size<w2.heap.size:=by have:=aL.size;omega
    have bH:=aM.trans (aL.mono aM.size);clear aL aM dJ aO c0 c1 c2 c3 c4 c5 c6 iW;obtain⟨c0,c1,c2,c3,c4,c5,c6⟩:=nu.O;go_wp2_with fail
    refine(Dl.O _).mono ?_;rintro e3 w3 ⟨rfl,rfl⟩;go_wp2_with fail
    refine(rD.O _ bn).mono ?_;rintro e4 w4 ⟨rfl,aS⟩;have dz:Ok I w4:=bn.below (Qn _) aS;have cK:=bH.trans (aS.mono bH.size);have iI:=Qh (nu.O.aR aS);have eQ:w.heap.size<w4.heap.size:=by have h2:=aS.size;omega
    clear aS c0 c1 c2 c3 c4 c5 c6;go_wp2_with fail
    refine(pR.O _ dz).mono ?_;rintro e5 w5 ⟨rfl,df⟩;have fZ:Ok I w5:=dz.below (Qn _) df;have eH:=cK.trans (df.mono cK.size);have oW:=Qh (iI.O.aR df);have kX:w.heap.size<w5.heap.size:=by have h2:=df.size;omega
    clear df cK;have qZ:=Qh (G7 I _ t Hv.O w5 fZ (by omega));have jN:∀b,w5.heap.size≤b→I b=none:=fun b hb=>fZ.fresh hb;have lM:=Qh jN;clear jN;go_wp2_with fail
    refine qZ.O.mono ?_;rintro e6 w6 ⟨v6,rfl,l9,gF⟩;have fF:Ok I w6:=fZ.below (Qn _) gF;have lY:=eH.trans (gF.mono eH.size);have Cr:=Qh (oW.O.aR gF);have uL:=Qh l9;have FI:=Qh gF.size;clear l9 gF eH;obtain⟨y',RV,RX,b,off,cap',kK,dC,⟨y0,_,_,_,_,_,_⟩,_,_⟩:=wD Hv.O fF i hi;cases dC;have Pk:y'=y:=by rw[←kK,Hy.O]
    subst Pk;have g0:=cell_regrown Cr.O.c0;have g1:=cell_regrown y0;clear kK;go_wp2_with fail
    refine wp_region_quiet_below (by kernel_rfl) (by kernel_rfl) ?_;repeat(go_big_quiet_step ((fail)))
    refine wpQuiet_nil ?_;intro w7 bJ;have ji:Below (w6).heap.size (w6) w7:=by
     obtain⟨pq,rfl⟩:=bJ;exact below_regrown _ _ _
    clear bJ;have eY:Ok I w7:=fF.below (Qn _) ji;have sD:=lY.trans (ji.mono lY.size);have jw:=uL.O.below ji;obtain⟨c0,c1,c2,c3,c4,c5,c6⟩:=Cr.O.aR ji;clear ji g0 g1 y0 lY fF;obtain⟨xs,⟨qo,aK⟩,hL⟩:=jw;rcases aK with⟨ZA,vN⟩|⟨g,zQ,cur,rfl,FZ,vC,Pm,IL,jf,pE⟩
    ·omega
    have lv:cur.size=zQ*7:=jf;have oH:cur.toList.take (t.length*7)=xs:=pE;have xA:xs.length=t.length*7:=qo;have p9:i*7+7≤cur.size:=by omega
    have IM:=Qh vC;have HL:=Qh hL;have mq:=Qh oH;have Dj:=Qh (show(over cur (i*7) (eO e (.slice aa e.ag.length ca) (.slice ax e.aC.length cx))).size=zQ*7 by rw[Gd _ _ _ p9,lv]);have Htm:=Qh (show(over cur (i*7) (eO e (.slice aa e.ag.length ca) (.slice ax e.aC.length cx))).toList.take (t.length*7)=xs.take (i*7)++eO e (.slice aa e.ag.length ca) (.slice ax e.aC.length cx)++xs.drop (i*7+7) by
     rw[Xf2 _ _ _ _ (show i*7+7≤t.length*7 by omega) (by omega),oH];rfl)
    have yc:maxLen=9223372036854775807:=rfl;rw[yc]at IL;clear vC hL pE oH jf lv qo xA yc;go_wp2_with (refine Xca rfl 63 _ _ rfl g (i*7) (eO e (.slice aa e.ag.length ca) (.slice ax e.aC.length cx)) (by simp[Act.eval]) rfl cur 63 IM.O p9 Nv.O (bM.one rP.O) ?_)
    go_ret2;have JG:=HL.O.set hi rP.O;have hg:w7.grownBy (w7.setRow g (over cur (i*7) (eO e (.slice aa e.ag.length ca) (.slice ax e.aC.length cx)))) (some g):=bA;have lG:=eY.grown hg (fun g' Q4=>by cases Q4;exact lM.O _ FZ);have ow:aQ bM 63 I (w7.setRow g (over cur (i*7) (eO e (.slice aa e.ag.length ca) (.slice ax e.aC.length cx)))) w5.heap.size (.slice (some ⟨g,0,none⟩) t.length zQ) (t.set i e):=by
     refine⟨_,⟨JG.1,.inr ⟨g,zQ,_,by rw[List.length_set],FZ,setRow_heap _ _ _ _ _ _ IM.O,by rw[List.length_set];exact Pm,by unfold maxLen;exact IL,Dj.O,by rw[List.length_set];exact Htm.O⟩⟩,JG⟩
    obtain⟨I',kL,lI,nV,_⟩:=ow.freeze lG lM.O;rw[EI.O,xI.O];exact⟨_,I',rfl,sD.grown hg sD.size (fun k hk=>by cases hk;omega),kL.mono (Nat.le_of_lt kX),lI,nV⟩
  ·subst JF;have Q5:=Xsw e2;have hnp:∀x∈t,x.aj≠e.aj:=fun x hx hp=>by
    rw[List.any_eq_true.2 ⟨x,hx,by simpa[uK]using hp⟩]at e2;exact absurd e2 (by simp)
   have Ha:=Qh (Xi3 H0.O Dn.O UT.O Q5);have xI:=Qh (Xww Hsr.O e hnp);have UU:=(Yh (iP t e.aj) 0 t.length (Nat.zero_le _)).2;clear e2 Q5 hnp;by_cases h5:5000≤t.length
   ·have hd5:decide (5000≤t.length)=true:=Qt h5;have EI:=Qh (show dh t e=([],6) by rw[Ha.O,if_pos h5]);go_enter Tryz.func35,Tryz.ntmps35
    go_wp2_with fail
    refine(mY.O _ (hw.alloc _)).mono ?_;rintro e1 w1 ⟨rfl,aG⟩;have iW:=Qh (dP rfl aG);have aO:Ok I w1:=(hw.alloc _).below (Qn _) aG;have dJ:w.heap.size<w1.heap.size:=by have:=aG.size;simp at this;omega
    have aM:Below w.heap.size w w1:=((Qb _ _).alloc (Qn _) _).trans (aG.mono (by simp));clear aG;obtain⟨c0,c1,c2,c3,c4,c5,c6⟩:=iW.O;go_wp2_with fail
    refine(wM.O _ aO).mono ?_;rintro e2 w2 ⟨rfl,aL⟩;have nu:=Qh (iW.O.aR aL);have bn:Ok I w2:=aO.below (Qn _) aL;have gJ:w.heap.size<w2.heap.size:=by have:=aL.size;omega
    have bH:=aM.trans (aL.mono aM.size);clear aL aM dJ aO c0 c1 c2 c3 c4 c5 c6 iW;obtain⟨c0,c1,c2,c3,c4,c5,c6⟩:=nu.O;go_wp2_with fail
    refine(Dl.O _).mono ?_;rintro e3 w3 ⟨rfl,rfl⟩;go_wp2_with fail
    refine(rD.O _ bn).mono ?_;rintro e4 w4 ⟨rfl,aS⟩;have dz:Ok I w4:=bn.below (Qn _) aS;have cK:=bH.trans (aS.mono bH.size);have iI:=Qh (nu.O.aR aS);have eQ:w.heap.size<w4.heap.size:=by have h2:=aS.size;omega
    clear aS c0 c1 c2 c3 c4 c5 c6;go_wp2_with fail
    refine(pR.O _ dz).mono ?_;rintro e5 w5 ⟨rfl,df⟩;have fZ:Ok I w5:=dz.below (Qn _) df;have eH:=cK.trans (df.mono cK.size);have oW:=Qh (iI.O.aR df);have kX:w.heap.size<w5.heap.size:=by have h2:=df.size;omega
    clear df cK;have qZ:=Qh (G7 I _ t Hv.O w5 fZ (by omega));have jN:∀b,w5.heap.size≤b→I b=none:=fun b hb=>fZ.fresh hb;have lM:=Qh jN;clear jN;go_wp2_with fail
    refine qZ.O.mono ?_;rintro e6 w6 ⟨v6,rfl,l9,gF⟩;have fF:Ok I w6:=fZ.below (Qn _) gF;have lY:=eH.trans (gF.mono eH.size);have Cr:=Qh (oW.O.aR gF);have uL:=Qh l9;have FI:=Qh gF.size;clear l9 gF eH;go_wp2;go_ret2;rw[EI.O];exact⟨_,I,rfl,lY,Ext.refl _ _,fF,aZ.nil _ _⟩
   have hd5:decide (5000≤t.length)=false:=Qf h5;have EI:=Qh (show dh t e=(gH t e,0) by rw[Ha.O,if_neg h5]);go_enter Tryz.func35,Tryz.ntmps35
   go_wp2_with fail
   refine(mY.O _ (hw.alloc _)).mono ?_;rintro e1 w1 ⟨rfl,aG⟩;have iW:=Qh (dP rfl aG);have aO:Ok I w1:=(hw.alloc _).below (Qn _) aG;have dJ:w.heap.size<w1.heap.size:=by have:=aG.size;simp at this;omega
   have aM:Below w.heap.size w w1:=((Qb _ _).alloc (Qn _) _).trans (aG.mono (by simp));clear aG;obtain⟨c0,c1,c2,c3,c4,c5,c6⟩:=iW.O;go_wp2_with fail
   refine(wM.O _ aO).mono ?_;rintro e2 w2 ⟨rfl,aL⟩;have nu:=Qh (iW.O.aR aL);have bn:Ok I w2:=aO.below (Qn _) aL;have gJ:w.heap.size<w2.heap.size:=by have:=aL.size;omega
   have bH:=aM.trans (aL.mono aM.size);clear aL aM dJ aO c0 c1 c2 c3 c4 c5 c6 iW;obtain⟨c0,c1,c2,c3,c4,c5,c6⟩:=nu.O;go_wp2_with fail
   refine(Dl.O _).mono ?_;rintro e3 w3 ⟨rfl,rfl⟩;go_wp2_with fail
   refine(rD.O _ bn).mono ?_;rintro e4 w4 ⟨rfl,aS⟩;have dz:Ok I w4:=bn.below (Qn _) aS;have cK:=bH.trans (aS.mono bH.size);have iI:=Qh (nu.O.aR aS);have eQ:w.heap.size<w4.heap.size:=by have h2:=aS.size;omega
   clear aS c0 c1 c2 c3 c4 c5 c6;go_wp2_with fail
   refine(pR.O _ dz).mono ?_;rintro e5 w5 ⟨rfl,df⟩;have fZ:Ok I w5:=dz.below (Qn _) df;have eH:=cK.trans (df.mono cK.size);have oW:=Qh (iI.O.aR df);have kX:w.heap.size<w5.heap.size:=by have h2:=df.size;omega
   clear df cK;have qZ:=Qh (G7 I _ t Hv.O w5 fZ (by omega));have jN:∀b,w5.heap.size≤b→I b=none:=fun b hb=>fZ.fresh hb;have lM:=Qh jN;clear jN;go_wp2_with fail
   refine qZ.O.mono ?_;rintro e6 w6 ⟨v6,rfl,l9,gF⟩;have fF:Ok I w6:=fZ.below (Qn _) gF;have lY:=eH.trans (gF.mono eH.size);have Cr:=Qh (oW.O.aR gF);have uL:=Qh l9;have FI:=Qh gF.size;clear l9 gF eH;obtain⟨I',hx',WV,Io,_⟩:=uL.O.freeze fF lM.O;have Hbs:=Qh (Xei I' (hI.mono (hx'.keep fZ (Qn _))) v6 t Io (by omega) Hs.O e.aj qp w6 WV);generalize bs (iP t e.aj) 0 t.length=i at Hbs xI UU;obtain⟨a6,c6',rfl,_,_,_⟩:=id Io;obtain⟨c0,c1,c2,c3,c4,c5,c6⟩:=Cr.O;clear hx' WV Io;go_wp2_with fail
   refine Hbs.O.mono ?_;rintro e7 w7 ⟨fb,rfl,ji⟩;clear c0 c1 c2 c3 c4 c5 c6;have eY:Ok I w7:=fF.below (Qn _) ji;have sD:=lY.trans (ji.mono lY.size);have UW:=Qh (Nat.le_trans FI.O ji.size);obtain⟨c0,c1,c2,c3,c4,c5,c6⟩:=Cr.O.aR ji;have jy:=Qh (uL.O.below ji);have bq:=jy.O.sO (Qn w7.heap.size);have IB:=Qh (Xqx I w5.heap.size _ t e w7.heap.size i 63 (eO e (.slice aa e.ag.length ca) (.slice ax e.aC.length cx)) _ (jy.O.alloc (.cells #[.int .i64 e.av,S e.aj,.slice aa e.ag.length ca,S e.target,.int .i64 e.size,S e.aD,.slice ax e.aC.length cx] 63)) rP.O (heap_alloc_new w7 (.cells #[.int .i64 e.av,S e.aj,.slice aa e.ag.length ca,S e.target,.int .i64 e.size,S e.aD,.slice ax e.aC.length cx] 63)) bq UU (by omega) (by have:=UW.O;simp;omega));clear ji bq;go_wp2_with fail
   refine IB.O.mono ?_;rintro e8 w8 ⟨v8,rfl,ow,qO⟩;have BF:=Qh ow;have Nr:=Qh qO;clear ow qO;go_wp2;go_ret2;rw[EI.O,xI.O];have KN:Ok I (w7.alloc (.cells #[.int .i64 e.av,S e.aj,.slice aa e.ag.length ca,S e.target,.int .i64 e.size,S e.aD,.slice ax e.aC.length cx] 63)):=eY.alloc _;have jw:=jy.O.alloc (.cells #[.int .i64 e.av,S e.aj,.slice aa e.ag.length ca,S e.target,.int .i64 e.size,S e.aD,.slice ax e.aC.length cx] 63);have mH:=Below.own (sD.alloc sD.size _) Nr.O jw (Nat.le_of_lt kX) (by have:=UW.O;simp;omega);have lG:Ok I w8:=Ok.own KN Nr.O jw lM.O;obtain⟨XV,kL,lI,nV,_⟩:=BF.O.freeze lG lM.O;exact⟨_,XV,rfl,mH,kL.mono (Nat.le_of_lt kX),lI,nV⟩
