/- Lemmas for the claim's theorem;conditions: as each says. -/
import Derived.Test.YtkipnpjagcfcpaaGreatDoorE03
set_option maxHeartbeats 0
set_option maxRecDepth 100000
set_option linter.all false
namespace Go.Proofs.YtkipnpjagcfcpaaGreatDoor
open Go.RowKit
variable{t:List aG}{e:aG}{p:ae}{i:Nat}
def gL(e:aG)(x:aG):Bool:=decide (e.ai=4)&&under x.af e.af
theorem Xm2(I:IH)(hI:dQ I)(e:aG)(nI:e.af.length≤4294967280)(be:Nat)(ve vy:Value)(l:List aG)(hl:vE l)(C:World→Prop)(hC:∀W,C W→Ok I W∧bn W be e ve vy):
 yN 195 #[.pointer (some ⟨be,0,none⟩)] l (gL e) C:=by
 intro x hx a1 a2 c1 c2 W hW;obtain⟨gG,hB⟩:=hC W hW;have Hu:=Qh (fun w hw=>Wq I hI x.af e.af (hl x hx).1 nI w hw);obtain⟨c0,d1,d2,d3,d4,d5,d6⟩:=bn.past hB (.cells #[.int .i64 x.ai,S x.af,.slice a1 x.ag.length c1,S x.target,.int .i64 x.size,S x.aj,.slice a2 x.ak.length c2] 35);clear hB hC d2 d3 d4 d5 d6;by_cases hk:e.ai=4
 ·have k1:((e.ai:Int)==4)=true:=by simpa using hk
  have Hn:=Qh (show gL e x=under x.af e.af by rw[gL,Qt hk];rfl);clear hk;go_enter Tryz.func195,Tryz.ntmps195
  go_wp2_with fail
  refine(Hu.O _ (gG.alloc _)).mono ?_;rintro e w1 ⟨rfl,au⟩;go_wp2;go_ret;exact⟨iW Hn.O.symm,((Qb _ _).alloc (Qn _) _).trans (au.mono (by simp))⟩
 ·have k1:((e.ai:Int)==4)=false:=by simpa using hk
  have Hn:=Qh (show gL e x=false by rw[gL,Qf hk];rfl);clear hk;go_enter Tryz.func195,Tryz.ntmps195
  go_wp2;go_ret;exact⟨iW Hn.O.symm,(Qb _ _).alloc (Qn _) _⟩
theorem Xm1(I:IH)(hI:dQ I)(x:aG)(hx:x.af.length≤4294967280)(a1 a2:Option Addr)(c1 c2:Nat)(p:ae)(hp:p.length≤4294967280)(W:World)(hW:Ok I W):
 Calls Tryz.prog 199 #[fB x (.slice a1 x.ag.length c1) (.slice a2 x.ak.length c2),S p] W fun e w'=>e= .returned (.int .i64 (iP x.af p))∧Below W.heap.size W w':=by
 have Hc:=Qh (fun w hw=>Ws I hI x.af p hx hp w hw);go_enter Tryz.func199,Tryz.ntmps199
 go_wp2_with fail
 refine(Hc.O _ (hW.alloc _)).mono ?_;rintro e w1 ⟨rfl,au⟩;go_wp2;go_ret;exact⟨rfl,((Qb _ _).alloc (Qn _) _).trans (au.mono (by simp))⟩
def Xp(w:World)(n:Nat)(e:Ending)(w':World):Prop:=∃b:Bool,e= .returned (.tuple #[.int .i64 n,.bool b])∧Below w.heap.size w w'
theorem Xeh(I:IH)(hI:dQ I)(v:Value)(l:List aG)(hv:bf bG I v l)(hn:l.length≤1000000)(hl:vE l)(p:ae)(hp:p.length≤4294967280)(w:World)(hw:Ok I w):
 Calls Tryz.prog 198 #[v,S p,.func (.func 199) #[] #[]] w (Xp w (bs (gN l p) 0 l.length)):=by
 obtain⟨ao,cap,rfl,dO,iR,_⟩:=id hv;have Hv:=Qh hv;clear hv;have Hl:=Qh hl;clear hl;have eg:∀args w,(callFunc 199 args).run Tryz.prog w= .ok (.enter 199 args) w:=fun _ _=>by kernel_rfl
 obtain⟨N,hN⟩:∃N,bs (gN l p) 0 l.length=N:=⟨_,rfl⟩;have HN:=Qh hN;rw[hN];clear hN;go_enter Tryz.func198,Tryz.ntmps198
 go_wp2_with fail
 go_loopw [9,10] (fun s9 s10 wr=> ∃lo hi:Nat,s9= .int .i64 lo∧s10= .int .i64 hi∧lo≤hi∧hi≤l.length∧bs (gN l p) lo hi=N∧Below w.heap.size w wr) (fun a b _=>(intOf b).toNat-(intOf a).toNat)
 case atStart=>exact⟨0,l.length,rfl,rfl,Nat.zero_le _,Qn _,HN.O,Qb _ _⟩
 case round=>
  clear HN;obtain⟨lo,hi,rfl,rfl,hlh,Sz,hr,hb⟩:=hrel;have Hr:=Qh hr;clear hr;have dA:Ok I wr:=hw.below (Qn _) hb;by_cases hlt:lo<hi
  ·obtain⟨x,va,vx,b,off,cap',bH,dn,⟨c0,c1,c2,c3,c4,c5,c6⟩,h1,h2⟩:=qi Hv.O dA ((lo+hi) / 2) (by omega);cases dn;obtain⟨aa,ca,rfl,_,_,_⟩:=id h1;obtain⟨ax,cx,rfl,_,_,_⟩:=id h2;have Hnl:=Qh (show gN l p ((lo+hi) / 2)=!(ji (els x.af) (els p)) by rw[gN,List.getElem?_eq_getElem (by omega),bH]);have Hc:=Qh (fun W hW=>Xm1 I hI x (Hl.O x (by rw[←bH];exact List.getElem_mem _)).1 aa ax ca cx p hp W hW);have hj:(0:Int)≤((lo:Int)+(hi:Int)) / 2:=by omega
   have Du:((lo:Int)+(hi:Int)) / 2<(l.length:Int):=by omega
   have hm:(((lo:Int)+(hi:Int)) / 2).toNat=(lo+hi) / 2:=by omega
   have OO:(((lo+hi) / 2:Nat):Int)=((lo:Int)+(hi:Int)) / 2:=by omega
   have Hm2:=Qh OO;clear bH h1 h2 OO;cases hlp:ji (els x.af) (els p)
   ·have iD:=Qh (show bs (gN l p) lo ((lo+hi) / 2)=N by rw[←Hr.O];conv=>rhs;rw[bs];rw[dif_pos hlt,Hnl.O,hlp];simp);rcases Xqh hlp with hc|hc
    all_goals
     rw[hc]at Hc;clear hc hlp;go_wp2_with fail
     refine(Hc.O _ dA).mono ?_;rintro e w1 ⟨rfl,au⟩;go_wp2;go_roundw;case rel=>exact⟨lo,(lo+hi) / 2,rfl,by rw[Hm2.O],by omega,by omega,iD.O,hb.trans (au.mono hb.size)⟩
     case measure=>simp[intOf];omega
   ·have iD:=Qh (show bs (gN l p) ((lo+hi) / 2+1) hi=N by rw[←Hr.O];conv=>rhs;rw[bs];rw[dif_pos hlt,Hnl.O,hlp];simp);rw[Xqg hlp]at Hc;clear hlp;go_wp2_with fail
    refine(Hc.O _ dA).mono ?_;rintro e w1 ⟨rfl,au⟩;go_wp2;go_roundw;case rel=>exact⟨(lo+hi) / 2+1,hi,(by rw[←Hm2.O];go_num),rfl,by omega,by omega,iD.O,hb.trans (au.mono hb.size)⟩
    case measure=>simp[intOf];omega
  ·have Xq:=Qh (show lo=N by rw[←Hr.O,bs,dif_neg hlt]);by_cases kD:lo<l.length
   ·obtain⟨x,va,vx,b,off,cap',bH,dn,⟨c0,c1,c2,c3,c4,c5,c6⟩,h1,h2⟩:=qi Hv.O dA lo kD;cases dn;obtain⟨aa,ca,rfl,_,_,_⟩:=id h1;obtain⟨ax,cx,rfl,_,_,_⟩:=id h2;have Hc:=Qh (fun W hW=>Xm1 I hI x (Hl.O x (by rw[←bH];exact List.getElem_mem _)).1 aa ax ca cx p hp W hW);have hd:decide (lo<l.length)=true:=Qt kD;generalize iP x.af p=cc at Hc;clear bH h1 h2;go_wp2_with fail
    refine(Hc.O _ dA).mono ?_;rintro e w1 ⟨rfl,au⟩;go_wp2;go_ret2;rw[←Xq.O];exact⟨_,rfl,hb.trans (au.mono hb.size)⟩
   ·have hd:decide (lo<l.length)=false:=Qf kD;go_wp2;go_ret2;rw[←Xq.O];exact⟨_,rfl,hb⟩
theorem Xkh(h:az e≠0):bM t e=([],az e):=by rw[bM,if_pos h]
theorem Ug(h:az e=0)(hk:3<e.ai)(hg:¬(dS t e.af=none∧e.af≠[])):bM t e=(t.filter fun x=> !(gL e x),0):=by
 rw[bM,if_neg (by omega),if_pos hk,if_neg hg];by_cases h4:e.ai=4
 ·rw[if_pos h4];congr 2;funext x;rw[gL,Qt h4,Bool.true_and]
 ·rw[if_neg h4];congr 1;symm;exact List.filter_eq_self.2 fun x _=>by rw[gL,Qf h4];rfl
theorem Xjd(h:az e=0)(hk:3<e.ai)(hg:dS t e.af=none∧e.af≠[]):bM t e=([],9):=by
 rw[bM,if_neg (by omega),if_pos hk,if_pos hg]
theorem Xkg(h:az e=0)(hk:¬3<e.ai)(hd:bA t (kE e.af)≠0):bM t e=([],bA t (kE e.af)):=by
 rw[bM,if_neg (by omega),if_neg hk,if_pos hd]
theorem Xjb{y:aG}(h:az e=0)(hk:¬3<e.ai)(hd:bA t (kE e.af)=0)(hy:dS t e.af=some y):bM t e=if(y.ai==2) !=(e.ai==2)then([],8)else(fq t e,0):=by
 rw[bM,if_neg (by omega),if_neg hk,if_neg (by omega),hy]
theorem Xjc(h:az e=0)(hk:¬3<e.ai)(hd:bA t (kE e.af)=0)(hy:dS t e.af=none):bM t e=if 5000≤t.length then([],6)else(fq t e,0):=by
 rw[bM,if_neg (by omega),if_neg hk,if_neg (by omega),hy]
theorem Xtb(hi:i<t.length)(hp:qE p t[i]=true)(hn:(t.take i).any (qE p)=false):dS t p=some t[i]:=by
 have:=Xmr hi hp hn;unfold kG at this;cases h:dS t p with
 |none=>rw[h]at this;simp at this
 |some x=>rw[h]at this;simp at this;rw[this]
theorem Xta(hn:t.any (qE p)=false):dS t p=none:=by
 have:=Xms hn;unfold kG at this;cases h:dS t p with
 |none=>rfl
 |some x=>rw[h]at this;simp at this
theorem bn.own{w w':World}{n:Nat}{va vx:Value}{row:Option Nat}(h:bn w n e va vx)(hg:w.grownBy w' row)(bZ:row≠some n):bn w' n e va vx:=
 ⟨xP hg bZ h.c0,xP hg bZ h.c1,xP hg bZ h.c2,xP hg bZ h.c3,xP hg bZ h.c4,xP hg bZ h.c5,xP hg bZ h.c6⟩
theorem bS.set{I:IH}{xs cs:List Value}{l:List aG}(h:bS bG I xs l)(hi:i<l.length){x:aG}(hx:bG.rd I cs x):bS bG I (xs.take (i*7)++cs++xs.drop (i*7+7)) (l.set i x):=by
 have h1:=((h.take i).append (bS.one hx)).append (h.drop (i+1));have hs:bG.size=7:=rfl;rw[hs,show(i+1)*7=i*7+7 by omega]at h1;have e:l.set i x=l.take i++[x]++l.drop (i+1):=by
  rw[List.set_eq_take_append_cons_drop,if_pos hi];simp
 rw[e];exact h1
theorem Xfx(cur:Array Value)(o m:Nat)(cs:List Value)(h:o+cs.length≤m)(hm:m≤cur.size):(over cur o cs).toList.take m=(cur.toList.take m).take o++cs++(cur.toList.take m).drop (o+cs.length):=by
 simp only[over];rw[List.take_append,List.take_of_length_le (by simp;omega)];congr 1
 ·rw[List.take_take,Nat.min_eq_left (by omega)]
 ·rw[List.drop_take];congr 1;simp;omega
theorem Xqd(I:IH)(hI:dQ I)(v:Value)(t:List aG)(hv:bf bG I v t)(hs:vE t)(El:iQ t)(hn:t.length≤100000)(e:aG)(va vx:Value)(eP:bf lT I va e.ag)(eT:bf mr I vx e.ak)(jh:e.Wf)(nH:e.af.length≤4294967280)(pF:e.target.length≤4294967280)(w:World)(hw:Ok I w):
 Calls Tryz.prog 129 #[v,fB e va vx] w (yh bG I w (bM t e).1 (bM t e).2):=by
 have hlen:=hv.bW;have kg:=Qh (fun w hw=>Uf I hI e va vx eP eT jh nH pF w hw);obtain⟨ao,cap,rfl,dO,iR,_⟩:=id hv;have Hv:=Qh hv;obtain⟨aa,ca,rfl,_,_,_⟩:=id eP;obtain⟨ax,cx,rfl,_,_,_⟩:=id eT;have kJ:=Qh (show bG.rd I (dB e (.slice aa e.ag.length ca) (.slice ax e.ak.length cx)) e from⟨_,_,rfl,eP,eT⟩);have Hs:=Qh hs;have Hsr:=Qh El;clear hv eP eT hs El;by_cases h0:az e=0;case neg=>
  have Ha:=Qh (Xkh (t:=t) h0);obtain⟨q,hq⟩:∃q,az e=q:=⟨_,rfl⟩;have AL:(q !=0)=true:=by rw[←hq];simpa using h0
  rw[hq]at kg Ha;clear hq h0;go_enter Tryz.func129,Tryz.ntmps129
  go_wp2_with fail
  refine(kg.O _ (hw.alloc _)).mono ?_;rintro e1 w1 ⟨rfl,au⟩;have gZ:=Qh (cB rfl au);have aD:Ok I w1:=(hw.alloc _).below (Qn _) au;have bY:w.heap.size<w1.heap.size:=by have:=au.size;simp at this;omega
  have av:Below w.heap.size w w1:=((Qb _ _).alloc (Qn _) _).trans (au.mono (by simp));clear au;go_wp2;go_ret2;rw[Ha.O];exact⟨_,I,rfl,av,Ext.refl _ _,aD,bf.nil _ _⟩
 have nK:=FO h0;have H0:=Qh h0;rw[h0]at kg;have vw:=Qh (Xh e.ai);have Em:=Qh (fun w hw=>Xt5 I _ t Hv.O e.af w hw);have AO:=KC t (qE e.af);generalize nW t (qE e.af)=ix at Em AO;clear h0;by_cases tL:3<e.ai
 ·have kD:inT e.ai=false:=by
   cases h:inT e.ai with
   |false=>rfl
   |true=>have:=mg.1 h;omega
  rw[kD]at vw;have vV:=Qh tL;clear kD;have nQ:(∃i:Nat,ix=i∧i<t.length∧dS t e.af≠none)∨(ix= -1∧dS t e.af=none):=by
   rcases AO with⟨i,hi,e1,e2,e3⟩|⟨e1,e2⟩
   ·exact .inl ⟨i,e1,hi,by rw[Xtb hi e2 e3];simp⟩
   ·exact .inr ⟨e1,Xta e2⟩
  clear AO;have MM:(∃i:Nat,ix=i∧i<t.length∧dS t e.af≠none)∨(ix= -1∧e.af=[])∨(ix= -1∧dS t e.af=none∧e.af≠[]):=by
   rcases nQ with h|⟨h1,h2⟩
   ·exact .inl h
   ·by_cases hp:e.af=[]
    ·exact .inr (.inl ⟨h1,hp⟩)
    ·exact .inr (.inr ⟨h1,h2,hp⟩)
  clear nQ;rcases MM with⟨i,rfl,hi,hg⟩|⟨rfl,hp⟩|⟨rfl,hg,hp⟩
  ·have Ha:=Qh (Ug (t:=t) H0.O vV.O fun h=>hg h.1);clear hg;go_enter Tryz.func129,Tryz.ntmps129
   go_wp2_with fail
   refine(kg.O _ (hw.alloc _)).mono ?_;rintro e1 w1 ⟨rfl,au⟩;have gZ:=Qh (cB rfl au);have aD:Ok I w1:=(hw.alloc _).below (Qn _) au;have bY:w.heap.size<w1.heap.size:=by have:=au.size;simp at this;omega
   have av:Below w.heap.size w w1:=((Qb _ _).alloc (Qn _) _).trans (au.mono (by simp));clear au;obtain⟨c0,c1,c2,c3,c4,c5,c6⟩:=gZ.O;go_wp2_with fail
   refine(Em.O _ aD).mono ?_;rintro e2 w2 ⟨rfl,aF⟩;have lm:=Qh (gZ.O.aA aF);have aQ:Ok I w2:=aD.below (Qn _) aF;have fO:w.heap.size<w2.heap.size:=by have:=aF.size;omega
   have aL:=av.trans (aF.mono av.size);clear aF av bY aD c0 c1 c2 c3 c4 c5 c6 gZ;obtain⟨c0,c1,c2,c3,c4,c5,c6⟩:=lm.O;go_wp2_with fail
   refine(vw.O _).mono ?_;rintro e3 w3 ⟨rfl,rfl⟩;have zX:=Qh (Jv I _ t Hv.O w2 aQ (by omega));have eY:∀b,w2.heap.size≤b→I b=none:=fun b hb=>aQ.fresh hb;have kr:=Qh eY;clear eY;go_wp2_with fail
   refine zX.O.mono ?_;rintro e4 w4 ⟨v4,rfl,ow,aM⟩;have bC:Ok I w4:=aQ.below (Qn _) aM;have aO:=aL.trans (aM.mono aL.size);have fQ:=Qh (lm.O.aA aM);have aT:=Qh ow;have En:=Qh aM.size;have KN:=Qh (Xeg I w2.heap.size v4 t w4 aT.O (by omega) 195 #[.pointer (some ⟨w.heap.size,0,none⟩)] (gL e) bC kr.O En.O (fun _ _=>by kernel_rfl) (Xm2 I hI e nH w.heap.size _ _ t Hs.O _ fun W hW=>⟨bC.grown hW (fun g hg=>kr.O g (aT.O.qZ hg)),fQ.O.own hW (aT.O.dx fO)⟩));clear ow aM c0 c1 c2 c3 c4 c5 c6;go_wp2_with fail
   refine KN.O.mono ?_;rintro e5 w5 ⟨v5,rfl,gY,hg5⟩;have fI:=Qh gY;have P5:=Qh hg5;clear gY hg5;go_wp2;go_ret2;rw[Ha.O];have bq:=Below.own aO P5.O aT.O (Nat.le_of_lt fO) En.O;have df:Ok I w5:=Ok.own bC P5.O aT.O kr.O;obtain⟨I',jH,jW,lU,_⟩:=fI.O.freeze df kr.O;exact⟨_,I',rfl,bq,jH.mono (Nat.le_of_lt fO),jW,lU⟩
  ·have Ha:=Qh (Ug (t:=t) H0.O vV.O fun h=>h.2 hp);obtain⟨p1,p2,p3,p4⟩:=De hp;clear hp;go_enter Tryz.func129,Tryz.ntmps129
   go_wp2_with fail
   refine(kg.O _ (hw.alloc _)).mono ?_;rintro e1 w1 ⟨rfl,au⟩;have gZ:=Qh (cB rfl au);have aD:Ok I w1:=(hw.alloc _).below (Qn _) au;have bY:w.heap.size<w1.heap.size:=by have:=au.size;simp at this;omega
   have av:Below w.heap.size w w1:=((Qb _ _).alloc (Qn _) _).trans (au.mono (by simp));clear au;obtain⟨c0,c1,c2,c3,c4,c5,c6⟩:=gZ.O;go_wp2_with fail
   refine(Em.O _ aD).mono ?_;rintro e2 w2 ⟨rfl,aF⟩;have lm:=Qh (gZ.O.aA aF);have aQ:Ok I w2:=aD.below (Qn _) aF;have fO:w.heap.size<w2.heap.size:=by have:=aF.size;omega
   have aL:=av.trans (aF.mono av.size);clear aF av bY aD c0 c1 c2 c3 c4 c5 c6 gZ;obtain⟨c0,c1,c2,c3,c4,c5,c6⟩:=lm.O;go_wp2_with fail
   refine(vw.O _).mono ?_;rintro e3 w3 ⟨rfl,rfl⟩;have zX:=Qh (Jv I _ t Hv.O w2 aQ (by omega));have eY:∀b,w2.heap.size≤b→I b=none:=fun b hb=>aQ.fresh hb;have kr:=Qh eY;clear eY;go_wp2_with fail
   refine zX.O.mono ?_;rintro e4 w4 ⟨v4,rfl,ow,aM⟩;have bC:Ok I w4:=aQ.below (Qn _) aM;have aO:=aL.trans (aM.mono aL.size);have fQ:=Qh (lm.O.aA aM);have aT:=Qh ow;have En:=Qh aM.size;have KN:=Qh (Xeg I w2.heap.size v4 t w4 aT.O (by omega) 195 #[.pointer (some ⟨w.heap.size,0,none⟩)] (gL e) bC kr.O En.O (fun _ _=>by kernel_rfl) (Xm2 I hI e nH w.heap.size _ _ t Hs.O _ fun W hW=>⟨bC.grown hW (fun g hg=>kr.O g (aT.O.qZ hg)),fQ.O.own hW (aT.O.dx fO)⟩));clear ow aM c0 c1 c2 c3 c4 c5 c6;go_wp2_with fail
   refine KN.O.mono ?_;rintro e5 w5 ⟨v5,rfl,gY,hg5⟩;have fI:=Qh gY;have P5:=Qh hg5;clear gY hg5;go_wp2;go_ret2;rw[Ha.O];have bq:=Below.own aO P5.O aT.O (Nat.le_of_lt fO) En.O;have df:Ok I w5:=Ok.own bC P5.O aT.O kr.O;obtain⟨I',jH,jW,lU,_⟩:=fI.O.freeze df kr.O;exact⟨_,I',rfl,bq,jH.mono (Nat.le_of_lt fO),jW,lU⟩
  ·have Ha:=Qh (Xjd (t:=t) H0.O vV.O ⟨hg,hp⟩);obtain⟨p1,p2,p3,p4⟩:=Bc hp;clear hp hg;go_enter Tryz.func129,Tryz.ntmps129
   go_wp2_with fail
   refine(kg.O _ (hw.alloc _)).mono ?_;rintro e1 w1 ⟨rfl,au⟩;have gZ:=Qh (cB rfl au);have aD:Ok I w1:=(hw.alloc _).below (Qn _) au;have bY:w.heap.size<w1.heap.size:=by have:=au.size;simp at this;omega
   have av:Below w.heap.size w w1:=((Qb _ _).alloc (Qn _) _).trans (au.mono (by simp));clear au;obtain⟨c0,c1,c2,c3,c4,c5,c6⟩:=gZ.O;go_wp2_with fail
   refine(Em.O _ aD).mono ?_;rintro e2 w2 ⟨rfl,aF⟩;have lm:=Qh (gZ.O.aA aF);have aQ:Ok I w2:=aD.below (Qn _) aF;have fO:w.heap.size<w2.heap.size:=by have:=aF.size;omega
   have aL:=av.trans (aF.mono av.size);clear aF av bY aD c0 c1 c2 c3 c4 c5 c6 gZ;obtain⟨c0,c1,c2,c3,c4,c5,c6⟩:=lm.O;go_wp2_with fail
   refine(vw.O _).mono ?_;rintro e3 w3 ⟨rfl,rfl⟩;go_wp2;go_ret2;rw[Ha.O];exact⟨_,I,rfl,aL,Ext.refl _ _,aQ,bf.nil _ _⟩
 ·have kD:inT e.ai=true:=mg.2 (by omega);rw[kD]at vw;have vV:=Qh tL;have Eo:e.af≠[]:=fun hp=>by have:=nK.2.2.2 hp;omega
  have mV:=Qh (fun w hw=>Xl2 I hI e.af nH w hw);rw[Wm nK.2.2.1 Eo]at mV;have lZ:=Qh (fun w hw=>Xg9 I _ t Hv.O (kE e.af) w hw);clear kD Eo;by_cases sZ:bA t (kE e.af)=0;case neg=>
   have Ha:=Qh (Xkg (t:=t) H0.O vV.O sZ);obtain⟨q,hq⟩:∃q,bA t (kE e.af)=q:=⟨_,rfl⟩;have AL:(q !=0)=true:=by rw[←hq];simpa using sZ
   rw[hq]at lZ Ha;clear hq sZ AO;go_enter Tryz.func129,Tryz.ntmps129
   go_wp2_with fail
   refine(kg.O _ (hw.alloc _)).mono ?_;rintro e1 w1 ⟨rfl,au⟩;have gZ:=Qh (cB rfl au);have aD:Ok I w1:=(hw.alloc _).below (Qn _) au;have bY:w.heap.size<w1.heap.size:=by have:=au.size;simp at this;omega
   have av:Below w.heap.size w w1:=((Qb _ _).alloc (Qn _) _).trans (au.mono (by simp));clear au;obtain⟨c0,c1,c2,c3,c4,c5,c6⟩:=gZ.O;go_wp2_with fail
   refine(Em.O _ aD).mono ?_;rintro e2 w2 ⟨rfl,aF⟩;have lm:=Qh (gZ.O.aA aF);have aQ:Ok I w2:=aD.below (Qn _) aF;have fO:w.heap.size<w2.heap.size:=by have:=aF.size;omega
   have aL:=av.trans (aF.mono av.size);clear aF av bY aD c0 c1 c2 c3 c4 c5 c6 gZ;obtain⟨c0,c1,c2,c3,c4,c5,c6⟩:=lm.O;go_wp2_with fail
   refine(vw.O _).mono ?_;rintro e3 w3 ⟨rfl,rfl⟩;go_wp2_with fail
   refine(mV.O _ aQ).mono ?_;rintro e4 w4 ⟨rfl,aM⟩;have bC:Ok I w4:=aQ.below (Qn _) aM;have aO:=aL.trans (aM.mono aL.size);have fQ:=Qh (lm.O.aA aM);have dF:w.heap.size<w4.heap.size:=by have h2:=aM.size;omega
   clear aM c0 c1 c2 c3 c4 c5 c6;go_wp2_with fail
   refine(lZ.O _ bC).mono ?_;rintro e5 w5 ⟨rfl,bq⟩;have df:Ok I w5:=bC.below (Qn _) bq;have bT:=aO.trans (bq.mono aO.size);have ny:=Qh (fQ.O.aA bq);have jZ:w.heap.size<w5.heap.size:=by have h2:=bq.size;omega
   clear bq aO;go_wp2;go_ret2;rw[Ha.O];exact⟨_,I,rfl,bT,Ext.refl _ _,df,bf.nil _ _⟩
  have P6:=Qh sZ;rw[sZ]at lZ;clear sZ;rcases AO with⟨i,hi,AO,e2,e3⟩|⟨AO,e2⟩
  ·subst AO;have NQ:=Xtb hi e2 e3;have MN:t[i].af=e.af:=by simpa[qE]using e2
   obtain⟨y,hy⟩:∃y,t[i]=y:=⟨_,rfl⟩;rw[hy]at NQ;have Hy:=Qh hy;have Ep:=Qh (Xve Hsr.O e hi MN);obtain⟨b1,au⟩:∃b,((y.ai:Int)==2)=b:=⟨_,rfl⟩;obtain⟨b2,aF⟩:∃b,((e.ai:Int)==2)=b:=⟨_,rfl⟩;have Ha:=Qh (Xjb H0.O vV.O P6.O NQ);rw[au,aF]at Ha;clear e2 e3 hy NQ MN;cases b1<;>cases b2
   ·have Bl:=Qh (show bM t e=(fq t e,0) by rw[Ha.O];rfl);have lV:(Tryz.prog.info? 35).map (·.size)=some 7:=by kernel_rfl
    have Cg:=Qh lV;clear lV;go_enter Tryz.func129,Tryz.ntmps129
    go_wp2_with fail
    refine(kg.O _ (hw.alloc _)).mono ?_;rintro e1 w1 ⟨rfl,au⟩;have gZ:=Qh (cB rfl au);have aD:Ok I w1:=(hw.alloc _).below (Qn _) au;have bY:w.heap.size<w1.heap.size:=by have:=au.size;simp at this;omega
    have av:Below w.heap.size w w1:=((Qb _ _).alloc (Qn _) _).trans (au.mono (by simp));clear au;obtain⟨c0,c1,c2,c3,c4,c5,c6⟩:=gZ.O;go_wp2_with fail
    refine(Em.O _ aD).mono ?_;rintro e2 w2 ⟨rfl,aF⟩;have lm:=Qh (gZ.O.aA aF);have aQ:Ok I w2:=aD.below (Qn _) aF;have fO:w.heap.size<w2.heap.size:=by have:=aF.size;omega
    have aL:=av.trans (aF.mono av.size);clear aF av bY aD c0 c1 c2 c3 c4 c5 c6 gZ;obtain⟨c0,c1,c2,c3,c4,c5,c6⟩:=lm.O;go_wp2_with fail
    refine(vw.O _).mono ?_;rintro e3 w3 ⟨rfl,rfl⟩;go_wp2_with fail
    refine(mV.O _ aQ).mono ?_;rintro e4 w4 ⟨rfl,aM⟩;have bC:Ok I w4:=aQ.below (Qn _) aM;have aO:=aL.trans (aM.mono aL.size);have fQ:=Qh (lm.O.aA aM);have dF:w.heap.size<w4.heap.size:=by have h2:=aM.size;omega
    clear aM c0 c1 c2 c3 c4 c5 c6;go_wp2_with fail
    refine(lZ.O _ bC).mono ?_;rintro e5 w5 ⟨rfl,bq⟩;have df:Ok I w5:=bC.below (Qn _) bq;have bT:=aO.trans (bq.mono aO.size);have ny:=Qh (fQ.O.aA bq);have jZ:w.heap.size<w5.heap.size:=by have h2:=bq.size;omega
    clear bq aO;have zX:=Qh (Jv I _ t Hv.O w5 df (by omega));have eY:∀b,w5.heap.size≤b→I b=none:=fun b hb=>df.fresh hb;have kr:=Qh eY;clear eY;go_wp2_with fail
    refine zX.O.mono ?_;rintro e6 w6 ⟨v6,rfl,kI,gp⟩;have lg:Ok I w6:=df.below (Qn _) gp;have jM:=bT.trans (gp.mono bT.size);have zB:=Qh (ny.O.aA gp);have qF:=Qh kI;have Ch:=Qh gp.size;clear kI gp bT;obtain⟨y',NR,Xr,b,off,cap',iH,dn,⟨y0,_,_,_,_,_,_⟩,_,_⟩:=qi Hv.O lg i hi;cases dn;have KO:y'=y:=by rw[←iH,Hy.O]
    subst KO;have g0:=cell_regrown zB.O.c0;have g1:=cell_regrown y0;clear iH;go_wp2_with fail
    refine wp_region_quiet_below (by kernel_rfl) (by kernel_rfl) ?_;repeat(go_big_quiet_step ((fail)))
    refine wpQuiet_nil ?_;intro w7 bg;have jC:Below (w6).heap.size (w6) w7:=by
     obtain⟨pq,rfl⟩:=bg;exact below_regrown _ _ _
    clear bg;have o6:Ok I w7:=lg.below (Qn _) jC;have uu:=jM.trans (jC.mono jM.size);have iB:=qF.O.below jC;obtain⟨c0,c1,c2,c3,c4,c5,c6⟩:=zB.O.aA jC;clear jC g0 g1 y0 jM lg;obtain⟨xs,⟨nL,bI⟩,hL⟩:=iB;rcases bI with⟨h00,oO⟩|⟨g,xh,cur,rfl,CW,uo,yO,Er,iU,qJ⟩
    ·omega
    have lN:cur.size=xh*7:=iU;have mI:cur.toList.take (t.length*7)=xs:=qJ;have ui:xs.length=t.length*7:=nL;have nJ:i*7+7≤cur.size:=by omega
    have Es:=Qh uo;have HL:=Qh hL;have nR:=Qh mI;have zS:=Qh (show(over cur (i*7) (dB e (.slice aa e.ag.length ca) (.slice ax e.ak.length cx))).size=xh*7 by rw[Db _ _ _ nJ,lN]);have Xu:=Qh (show(over cur (i*7) (dB e (.slice aa e.ag.length ca) (.slice ax e.ak.length cx))).toList.take (t.length*7)=xs.take (i*7)++dB e (.slice aa e.ag.length ca) (.slice ax e.ak.length cx)++xs.drop (i*7+7) by
     rw[Xfx _ _ _ _ (show i*7+7≤t.length*7 by omega) (by omega),mI];rfl)
    have uU:maxLen=9223372036854775807:=rfl;rw[uU]at Er;clear uo hL qJ mI iU lN nL ui uU;go_wp2_with (refine Xi rfl 35 _ _ rfl g (i*7) (dB e (.slice aa e.ag.length ca) (.slice ax e.ak.length cx)) (by simp[Act.eval]) rfl cur 35 Es.O nJ Cg.O (bG.one kJ.O) ?_)
    go_ret2;have Fw:=HL.O.set hi kJ.O;have hg:w7.grownBy (w7.setRow g (over cur (i*7) (dB e (.slice aa e.ag.length ca) (.slice ax e.ak.length cx)))) (some g):=BP;have xg:=o6.grown hg (fun g' hg'=>by cases hg';exact kr.O _ CW);have jL:aP bG 35 I (w7.setRow g (over cur (i*7) (dB e (.slice aa e.ag.length ca) (.slice ax e.ak.length cx)))) w5.heap.size (.slice (some ⟨g,0,none⟩) t.length xh) (t.set i e):=by
     refine⟨_,⟨Fw.1,.inr ⟨g,xh,_,by rw[List.length_set],CW,setRow_heap _ _ _ _ _ _ Es.O,by rw[List.length_set];exact yO,by unfold maxLen;exact Er,zS.O,by rw[List.length_set];exact Xu.O⟩⟩,Fw⟩
    obtain⟨I',jH,jW,lU,_⟩:=jL.freeze xg kr.O;rw[Bl.O,Ep.O];exact⟨_,I',rfl,uu.grown hg uu.size (fun k hk=>by cases hk;omega),jH.mono (Nat.le_of_lt jZ),jW,lU⟩
   ·have Bl:=Qh (show bM t e=([],8) by rw[Ha.O];rfl);go_enter Tryz.func129,Tryz.ntmps129
    go_wp2_with fail
    refine(kg.O _ (hw.alloc _)).mono ?_;rintro e1 w1 ⟨rfl,au⟩;have gZ:=Qh (cB rfl au);have aD:Ok I w1:=(hw.alloc _).below (Qn _) au;have bY:w.heap.size<w1.heap.size:=by have:=au.size;simp at this;omega
    have av:Below w.heap.size w w1:=((Qb _ _).alloc (Qn _) _).trans (au.mono (by simp));clear au;obtain⟨c0,c1,c2,c3,c4,c5,c6⟩:=gZ.O;go_wp2_with fail
    refine(Em.O _ aD).mono ?_;rintro e2 w2 ⟨rfl,aF⟩;have lm:=Qh (gZ.O.aA aF);have aQ:Ok I w2:=aD.below (Qn _) aF;have fO:w.heap.size<w2.heap.size:=by have:=aF.size;omega
    have aL:=av.trans (aF.mono av.size);clear aF av bY aD c0 c1 c2 c3 c4 c5 c6 gZ;obtain⟨c0,c1,c2,c3,c4,c5,c6⟩:=lm.O;go_wp2_with fail
    refine(vw.O _).mono ?_;rintro e3 w3 ⟨rfl,rfl⟩;go_wp2_with fail
    refine(mV.O _ aQ).mono ?_;rintro e4 w4 ⟨rfl,aM⟩;have bC:Ok I w4:=aQ.below (Qn _) aM;have aO:=aL.trans (aM.mono aL.size);have fQ:=Qh (lm.O.aA aM);have dF:w.heap.size<w4.heap.size:=by have h2:=aM.size;omega
    clear aM c0 c1 c2 c3 c4 c5 c6;go_wp2_with fail
    refine(lZ.O _ bC).mono ?_;rintro e5 w5 ⟨rfl,bq⟩;have df:Ok I w5:=bC.below (Qn _) bq;have bT:=aO.trans (bq.mono aO.size);have ny:=Qh (fQ.O.aA bq);have jZ:w.heap.size<w5.heap.size:=by have h2:=bq.size;omega
    clear bq aO;have zX:=Qh (Jv I _ t Hv.O w5 df (by omega));have eY:∀b,w5.heap.size≤b→I b=none:=fun b hb=>df.fresh hb;have kr:=Qh eY;clear eY;go_wp2_with fail
    refine zX.O.mono ?_;rintro e6 w6 ⟨v6,rfl,kI,gp⟩;have lg:Ok I w6:=df.below (Qn _) gp;have jM:=bT.trans (gp.mono bT.size);have zB:=Qh (ny.O.aA gp);have qF:=Qh kI;have Ch:=Qh gp.size;clear kI gp bT;obtain⟨y',NR,Xr,b,off,cap',iH,dn,⟨y0,_,_,_,_,_,_⟩,_,_⟩:=qi Hv.O lg i hi;cases dn;have KO:y'=y:=by rw[←iH,Hy.O]
    subst KO;have g0:=cell_regrown zB.O.c0;have g1:=cell_regrown y0;clear iH;go_wp2_with fail
    refine wp_region_quiet_below (by kernel_rfl) (by kernel_rfl) ?_;repeat(go_big_quiet_step ((fail)))
    refine wpQuiet_nil ?_;intro w7 bg;have jC:Below (w6).heap.size (w6) w7:=by
     obtain⟨pq,rfl⟩:=bg;exact below_regrown _ _ _
    clear bg;go_wp2;go_ret2;rw[Bl.O];exact⟨_,I,rfl,jM.trans (jC.mono jM.size),Ext.refl _ _,lg.below (Qn _) jC,bf.nil _ _⟩
   ·have Bl:=Qh (show bM t e=([],8) by rw[Ha.O];rfl);go_enter Tryz.func129,Tryz.ntmps129
    go_wp2_with fail
    refine(kg.O _ (hw.alloc _)).mono ?_;rintro e1 w1 ⟨rfl,au⟩;have gZ:=Qh (cB rfl au);have aD:Ok I w1:=(hw.alloc _).below (Qn _) au;have bY:w.heap.size<w1.heap.size:=by have:=au.size;simp at this;omega
    have av:Below w.heap.size w w1:=((Qb _ _).alloc (Qn _) _).trans (au.mono (by simp));clear au;obtain⟨c0,c1,c2,c3,c4,c5,c6⟩:=gZ.O;go_wp2_with fail
    refine(Em.O _ aD).mono ?_;rintro e2 w2 ⟨rfl,aF⟩;have lm:=Qh (gZ.O.aA aF);have aQ:Ok I w2:=aD.below (Qn _) aF;have fO:w.heap.size<w2.heap.size:=by have:=aF.size;omega
    have aL:=av.trans (aF.mono av.size);clear aF av bY aD c0 c1 c2 c3 c4 c5 c6 gZ;obtain⟨c0,c1,c2,c3,c4,c5,c6⟩:=lm.O;go_wp2_with fail
    refine(vw.O _).mono ?_;rintro e3 w3 ⟨rfl,rfl⟩;go_wp2_with fail
    refine(mV.O _ aQ).mono ?_;rintro e4 w4 ⟨rfl,aM⟩;have bC:Ok I w4:=aQ.below (Qn _) aM;have aO:=aL.trans (aM.mono aL.size);have fQ:=Qh (lm.O.aA aM);have dF:w.heap.size<w4.heap.size:=by have h2:=aM.size;omega
    clear aM c0 c1 c2 c3 c4 c5 c6;go_wp2_with fail
    refine(lZ.O _ bC).mono ?_;rintro e5 w5 ⟨rfl,bq⟩;have df:Ok I w5:=bC.below (Qn _) bq;have bT:=aO.trans (bq.mono aO.size);have ny:=Qh (fQ.O.aA bq);have jZ:w.heap.size<w5.heap.size:=by have h2:=bq.size;omega
    clear bq aO;have zX:=Qh (Jv I _ t Hv.O w5 df (by omega));have eY:∀b,w5.heap.size≤b→I b=none:=fun b hb=>df.fresh hb;have kr:=Qh eY;clear eY;go_wp2_with fail
    refine zX.O.mono ?_;rintro e6 w6 ⟨v6,rfl,kI,gp⟩;have lg:Ok I w6:=df.below (Qn _) gp;have jM:=bT.trans (gp.mono bT.size);have zB:=Qh (ny.O.aA gp);have qF:=Qh kI;have Ch:=Qh gp.size;clear kI gp bT;obtain⟨y',NR,Xr,b,off,cap',iH,dn,⟨y0,_,_,_,_,_,_⟩,_,_⟩:=qi Hv.O lg i hi;cases dn;have KO:y'=y:=by rw[←iH,Hy.O]
    subst KO;have g0:=cell_regrown zB.O.c0;have g1:=cell_regrown y0;clear iH;go_wp2_with fail
    refine wp_region_quiet_below (by kernel_rfl) (by kernel_rfl) ?_;repeat(go_big_quiet_step ((fail)))
    refine wpQuiet_nil ?_;intro w7 bg;have jC:Below (w6).heap.size (w6) w7:=by
     obtain⟨pq,rfl⟩:=bg;exact below_regrown _ _ _
    clear bg;go_wp2;go_ret2;rw[Bl.O];exact⟨_,I,rfl,jM.trans (jC.mono jM.size),Ext.refl _ _,lg.below (Qn _) jC,bf.nil _ _⟩
   ·have Bl:=Qh (show bM t e=(fq t e,0) by rw[Ha.O];rfl);have lV:(Tryz.prog.info? 35).map (·.size)=some 7:=by kernel_rfl
    have Cg:=Qh lV;clear lV;go_enter Tryz.func129,Tryz.ntmps129
    go_wp2_with fail
    refine(kg.O _ (hw.alloc _)).mono ?_;rintro e1 w1 ⟨rfl,au⟩;have gZ:=Qh (cB rfl au);have aD:Ok I w1:=(hw.alloc _).below (Qn _) au;have bY:w.heap.size<w1.heap.size:=by have:=au.size;simp at this;omega
    have av:Below w.heap.size w w1:=((Qb _ _).alloc (Qn _) _).trans (au.mono (by simp));clear au;obtain⟨c0,c1,c2,c3,c4,c5,c6⟩:=gZ.O;go_wp2_with fail
    refine(Em.O _ aD).mono ?_;rintro e2 w2 ⟨rfl,aF⟩;have lm:=Qh (gZ.O.aA aF);have aQ:Ok I w2:=aD.below (Qn _) aF;have fO:w.heap.size<w2.heap.size:=by have:=aF.size;omega
    have aL:=av.trans (aF.mono av.size);clear aF av bY aD c0 c1 c2 c3 c4 c5 c6 gZ;obtain⟨c0,c1,c2,c3,c4,c5,c6⟩:=lm.O;go_wp2_with fail
    refine(vw.O _).mono ?_;rintro e3 w3 ⟨rfl,rfl⟩;go_wp2_with fail
    refine(mV.O _ aQ).mono ?_;rintro e4 w4 ⟨rfl,aM⟩;have bC:Ok I w4:=aQ.below (Qn _) aM;have aO:=aL.trans (aM.mono aL.size);have fQ:=Qh (lm.O.aA aM);have dF:w.heap.size<w4.heap.size:=by have h2:=aM.size;omega
    clear aM c0 c1 c2 c3 c4 c5 c6;go_wp2_with fail
    refine(lZ.O _ bC).mono ?_;rintro e5 w5 ⟨rfl,bq⟩;have df:Ok I w5:=bC.below (Qn _) bq;have bT:=aO.trans (bq.mono aO.size);have ny:=Qh (fQ.O.aA bq);have jZ:w.heap.size<w5.heap.size:=by have h2:=bq.size;omega
    clear bq aO;have zX:=Qh (Jv I _ t Hv.O w5 df (by omega));have eY:∀b,w5.heap.size≤b→I b=none:=fun b hb=>df.fresh hb;have kr:=Qh eY;clear eY;go_wp2_with fail
    refine zX.O.mono ?_;rintro e6 w6 ⟨v6,rfl,kI,gp⟩;have lg:Ok I w6:=df.below (Qn _) gp;have jM:=bT.trans (gp.mono bT.size);have zB:=Qh (ny.O.aA gp);have qF:=Qh kI;have Ch:=Qh gp.size;clear kI gp bT;obtain⟨y',NR,Xr,b,off,cap',iH,dn,⟨y0,_,_,_,_,_,_⟩,_,_⟩:=qi Hv.O lg i hi;cases dn;have KO:y'=y:=by rw[←iH,Hy.O]
    subst KO;have g0:=cell_regrown zB.O.c0;have g1:=cell_regrown y0;clear iH;go_wp2_with fail
    refine wp_region_quiet_below (by kernel_rfl) (by kernel_rfl) ?_;repeat(go_big_quiet_step ((fail)))
    refine wpQuiet_nil ?_;intro w7 bg;have jC:Below (w6).heap.size (w6) w7:=by
     obtain⟨pq,rfl⟩:=bg;exact below_regrown _ _ _
    clear bg;have o6:Ok I w7:=lg.below (Qn _) jC;have uu:=jM.trans (jC.mono jM.size);have iB:=qF.O.below jC;obtain⟨c0,c1,c2,c3,c4,c5,c6⟩:=zB.O.aA jC;clear jC g0 g1 y0 jM lg;obtain⟨xs,⟨nL,bI⟩,hL⟩:=iB;rcases bI with⟨h00,oO⟩|⟨g,xh,cur,rfl,CW,uo,yO,Er,iU,qJ⟩
    ·omega
    have lN:cur.size=xh*7:=iU;have mI:cur.toList.take (t.length*7)=xs:=qJ;have ui:xs.length=t.length*7:=nL;have nJ:i*7+7≤cur.size:=by omega
    have Es:=Qh uo;have HL:=Qh hL;have nR:=Qh mI;have zS:=Qh (show(over cur (i*7) (dB e (.slice aa e.ag.length ca) (.slice ax e.ak.length cx))).size=xh*7 by rw[Db _ _ _ nJ,lN]);have Xu:=Qh (show(over cur (i*7) (dB e (.slice aa e.ag.length ca) (.slice ax e.ak.length cx))).toList.take (t.length*7)=xs.take (i*7)++dB e (.slice aa e.ag.length ca) (.slice ax e.ak.length cx)++xs.drop (i*7+7) by
     rw[Xfx _ _ _ _ (show i*7+7≤t.length*7 by omega) (by omega),mI];rfl)
    have uU:maxLen=9223372036854775807:=rfl;rw[uU]at Er;clear uo hL qJ mI iU lN nL ui uU;go_wp2_with (refine Xi rfl 35 _ _ rfl g (i*7) (dB e (.slice aa e.ag.length ca) (.slice ax e.ak.length cx)) (by simp[Act.eval]) rfl cur 35 Es.O nJ Cg.O (bG.one kJ.O) ?_)
    go_ret2;have Fw:=HL.O.set hi kJ.O;have hg:w7.grownBy (w7.setRow g (over cur (i*7) (dB e (.slice aa e.ag.length ca) (.slice ax e.ak.length cx)))) (some g):=BP;have xg:=o6.grown hg (fun g' hg'=>by cases hg';exact kr.O _ CW);have jL:aP bG 35 I (w7.setRow g (over cur (i*7) (dB e (.slice aa e.ag.length ca) (.slice ax e.ak.length cx)))) w5.heap.size (.slice (some ⟨g,0,none⟩) t.length xh) (t.set i e):=by
     refine⟨_,⟨Fw.1,.inr ⟨g,xh,_,by rw[List.length_set],CW,setRow_heap _ _ _ _ _ _ Es.O,by rw[List.length_set];exact yO,by unfold maxLen;exact Er,zS.O,by rw[List.length_set];exact Xu.O⟩⟩,Fw⟩
    obtain⟨I',jH,jW,lU,_⟩:=jL.freeze xg kr.O;rw[Bl.O,Ep.O];exact⟨_,I',rfl,uu.grown hg uu.size (fun k hk=>by cases hk;omega),jH.mono (Nat.le_of_lt jZ),jW,lU⟩
  ·subst AO;have SE:=Xta e2;have hnp:∀x∈t,x.af≠e.af:=fun x hx hp=>by
    rw[List.any_eq_true.2 ⟨x,hx,by simpa[qE]using hp⟩]at e2;exact absurd e2 (by simp)
   have Ha:=Qh (Xjc H0.O vV.O P6.O SE);have Ep:=Qh (Xxe Hsr.O e hnp);have P7:=(Tu (gN t e.af) 0 t.length (Nat.zero_le _)).2;clear e2 SE hnp;by_cases h5:5000≤t.length
   ·have hd5:decide (5000≤t.length)=true:=Qt h5;have Bl:=Qh (show bM t e=([],6) by rw[Ha.O,if_pos h5]);go_enter Tryz.func129,Tryz.ntmps129
    go_wp2_with fail
    refine(kg.O _ (hw.alloc _)).mono ?_;rintro e1 w1 ⟨rfl,au⟩;have gZ:=Qh (cB rfl au);have aD:Ok I w1:=(hw.alloc _).below (Qn _) au;have bY:w.heap.size<w1.heap.size:=by have:=au.size;simp at this;omega
    have av:Below w.heap.size w w1:=((Qb _ _).alloc (Qn _) _).trans (au.mono (by simp));clear au;obtain⟨c0,c1,c2,c3,c4,c5,c6⟩:=gZ.O;go_wp2_with fail
    refine(Em.O _ aD).mono ?_;rintro e2 w2 ⟨rfl,aF⟩;have lm:=Qh (gZ.O.aA aF);have aQ:Ok I w2:=aD.below (Qn _) aF;have fO:w.heap.size<w2.heap.size:=by have:=aF.size;omega
    have aL:=av.trans (aF.mono av.size);clear aF av bY aD c0 c1 c2 c3 c4 c5 c6 gZ;obtain⟨c0,c1,c2,c3,c4,c5,c6⟩:=lm.O;go_wp2_with fail
    refine(vw.O _).mono ?_;rintro e3 w3 ⟨rfl,rfl⟩;go_wp2_with fail
    refine(mV.O _ aQ).mono ?_;rintro e4 w4 ⟨rfl,aM⟩;have bC:Ok I w4:=aQ.below (Qn _) aM;have aO:=aL.trans (aM.mono aL.size);have fQ:=Qh (lm.O.aA aM);have dF:w.heap.size<w4.heap.size:=by have h2:=aM.size;omega
    clear aM c0 c1 c2 c3 c4 c5 c6;go_wp2_with fail
    refine(lZ.O _ bC).mono ?_;rintro e5 w5 ⟨rfl,bq⟩;have df:Ok I w5:=bC.below (Qn _) bq;have bT:=aO.trans (bq.mono aO.size);have ny:=Qh (fQ.O.aA bq);have jZ:w.heap.size<w5.heap.size:=by have h2:=bq.size;omega
    clear bq aO;have zX:=Qh (Jv I _ t Hv.O w5 df (by omega));have eY:∀b,w5.heap.size≤b→I b=none:=fun b hb=>df.fresh hb;have kr:=Qh eY;clear eY;go_wp2_with fail
    refine zX.O.mono ?_;rintro e6 w6 ⟨v6,rfl,kI,gp⟩;have lg:Ok I w6:=df.below (Qn _) gp;have jM:=bT.trans (gp.mono bT.size);have zB:=Qh (ny.O.aA gp);have qF:=Qh kI;have Ch:=Qh gp.size;clear kI gp bT;go_wp2;go_ret2;rw[Bl.O];exact⟨_,I,rfl,jM,Ext.refl _ _,lg,bf.nil _ _⟩
   have hd5:decide (5000≤t.length)=false:=Qf h5;have Bl:=Qh (show bM t e=(fq t e,0) by rw[Ha.O,if_neg h5]);go_enter Tryz.func129,Tryz.ntmps129
   go_wp2_with fail
   refine(kg.O _ (hw.alloc _)).mono ?_;rintro e1 w1 ⟨rfl,au⟩;have gZ:=Qh (cB rfl au);have aD:Ok I w1:=(hw.alloc _).below (Qn _) au;have bY:w.heap.size<w1.heap.size:=by have:=au.size;simp at this;omega
   have av:Below w.heap.size w w1:=((Qb _ _).alloc (Qn _) _).trans (au.mono (by simp));clear au;obtain⟨c0,c1,c2,c3,c4,c5,c6⟩:=gZ.O;go_wp2_with fail
   refine(Em.O _ aD).mono ?_;rintro e2 w2 ⟨rfl,aF⟩;have lm:=Qh (gZ.O.aA aF);have aQ:Ok I w2:=aD.below (Qn _) aF;have fO:w.heap.size<w2.heap.size:=by have:=aF.size;omega
   have aL:=av.trans (aF.mono av.size);clear aF av bY aD c0 c1 c2 c3 c4 c5 c6 gZ;obtain⟨c0,c1,c2,c3,c4,c5,c6⟩:=lm.O;go_wp2_with fail
   refine(vw.O _).mono ?_;rintro e3 w3 ⟨rfl,rfl⟩;go_wp2_with fail
   refine(mV.O _ aQ).mono ?_;rintro e4 w4 ⟨rfl,aM⟩;have bC:Ok I w4:=aQ.below (Qn _) aM;have aO:=aL.trans (aM.mono aL.size);have fQ:=Qh (lm.O.aA aM);have dF:w.heap.size<w4.heap.size:=by have h2:=aM.size;omega
   clear aM c0 c1 c2 c3 c4 c5 c6;go_wp2_with fail
   refine(lZ.O _ bC).mono ?_;rintro e5 w5 ⟨rfl,bq⟩;have df:Ok I w5:=bC.below (Qn _) bq;have bT:=aO.trans (bq.mono aO.size);have ny:=Qh (fQ.O.aA bq);have jZ:w.heap.size<w5.heap.size:=by have h2:=bq.size;omega
   clear bq aO;have zX:=Qh (Jv I _ t Hv.O w5 df (by omega));have eY:∀b,w5.heap.size≤b→I b=none:=fun b hb=>df.fresh hb;have kr:=Qh eY;clear eY;go_wp2_with fail
   refine zX.O.mono ?_;rintro e6 w6 ⟨v6,rfl,kI,gp⟩;have lg:Ok I w6:=df.below (Qn _) gp;have jM:=bT.trans (gp.mono bT.size);have zB:=Qh (ny.O.aA gp);have qF:=Qh kI;have Ch:=Qh gp.size;clear kI gp bT;obtain⟨I',Vn,SF,KP,_⟩:=qF.O.freeze lg kr.O;have Hbs:=Qh (Xeh I' (hI.mono (Vn.keep df (Qn _))) v6 t KP (by omega) Hs.O e.af nH w6 SF);generalize bs (gN t e.af) 0 t.length=i at Hbs Ep P7;obtain⟨a6,c6',rfl,_,_,_⟩:=id KP;obtain⟨c0,c1,c2,c3,c4,c5,c6⟩:=zB.O;clear Vn SF KP;go_wp2_with fail
   refine Hbs.O.mono ?_;rintro e7 w7 ⟨fb,rfl,jC⟩;clear c0 c1 c2 c3 c4 c5 c6;have o6:Ok I w7:=lg.below (Qn _) jC;have uu:=jM.trans (jC.mono jM.size);have P8:=Qh (Nat.le_trans Ch.O jC.size);obtain⟨c0,c1,c2,c3,c4,c5,c6⟩:=zB.O.aA jC;have iC:=Qh (qF.O.below jC);have bZ:=iC.O.mP (Qn w7.heap.size);have Ej:=Qh (Xrc I w5.heap.size _ t e w7.heap.size i 35 (dB e (.slice aa e.ag.length ca) (.slice ax e.ak.length cx)) _ (iC.O.alloc (.cells #[.int .i64 e.ai,S e.af,.slice aa e.ag.length ca,S e.target,.int .i64 e.size,S e.aj,.slice ax e.ak.length cx] 35)) kJ.O (heap_alloc_new w7 (.cells #[.int .i64 e.ai,S e.af,.slice aa e.ag.length ca,S e.target,.int .i64 e.size,S e.aj,.slice ax e.ak.length cx] 35)) bZ P7 (by omega) (by have:=P8.O;simp;omega));clear jC bZ;go_wp2_with fail
   refine Ej.O.mono ?_;rintro e8 w8 ⟨v8,rfl,jL,uq⟩;have yM:=Qh jL;have Js:=Qh uq;clear jL uq;go_wp2;go_ret2;rw[Bl.O,Ep.O];have Xv:Ok I (w7.alloc (.cells #[.int .i64 e.ai,S e.af,.slice aa e.ag.length ca,S e.target,.int .i64 e.size,S e.aj,.slice ax e.ak.length cx] 35)):=o6.alloc _;have iB:=iC.O.alloc (.cells #[.int .i64 e.ai,S e.af,.slice aa e.ag.length ca,S e.target,.int .i64 e.size,S e.aj,.slice ax e.ak.length cx] 35);have oN:=Below.own (uu.alloc uu.size _) Js.O iB (Nat.le_of_lt jZ) (by have:=P8.O;simp;omega);have xg:Ok I w8:=Ok.own Xv Js.O iB kr.O;obtain⟨Tg,jH,jW,lU,_⟩:=yM.O.freeze xg kr.O;exact⟨_,Tg,rfl,oN,jH.mono (Nat.le_of_lt jZ),jW,lU⟩
