/- Lemmas for the claim's theorem;conditions: as each says. -/
import Derived.Test.YtdodihnehppnmaaGreatDoorG42
set_option maxHeartbeats 0
set_option maxRecDepth 100000
set_option linter.all false
namespace Go.Proofs.YtdodihnehppnmaaGreatDoor
open Go.RowKit
theorem Zq{L:List dm}(d:Int):pJ (bZ L d):=(Y0 (Un L d)).2
theorem Xfy(I:IH)(hI:dG I)(v:Value)(l:List dm)(hv:bf oK I v l)(iZ:∀x∈l,x.Wf)(n1 n2:Int)(w:World)(hw:Ok I w):
 Calls Tryz.prog 9 #[v,.agg #[.int .i64 n1,.int .i64 n2]] w fun r w'=>r= .returned (.bool true)∧Below w.heap.size w w':=by
 have vQ:=Qh (fun w hw=>Xil I hI w hw);have Ey:=Qh (fun w hw=>Xh7 I v l hv iZ w hw);obtain⟨w0,Oz⟩:∃w0,w.alloc (.cells #[.int .i64 n1,.int .i64 n2] 57)=w0:=⟨_,rfl⟩;have HW:=Qh Oz;have A0:=Qh (lT.start (show Ok I w0 by rw[←Oz];exact hw.alloc _));have lH:=Qh (show Below w.heap.size w w0 by rw[←Oz];exact(Qb w.heap.size w).alloc (Qn _) _);have Z0:=Qh (show w0.cell? ⟨w.heap.size,0,none⟩=some (.int .i64 n1) by rw[←Oz,World.cell?_alloc_new];rfl);have Z1:=Qh (show w0.cell? ⟨w.heap.size,1,none⟩=some (.int .i64 n2) by rw[←Oz,World.cell?_alloc_new];rfl);clear Oz;cases hg:jH l;case false=>
  have e1:gX l=0:=by rw[gX,hg];rfl
  rw[e1]at Ey;obtain⟨ao,cap,rfl,_,_,_⟩:=id hv;clear e1 hg hv;go_enter Tryz.func9,Tryz.ntmps9
  go_wp2_with fail
  rw[HW.O];refine(Ey.O _ A0.O.ok).mono ?_;rintro e1 w1 ⟨rfl,au⟩;have A1:=Qh (A0.O.quiet au);clear au A0 HW;go_wp2_with fail
  refine(vQ.O _ A1.O.ok0).mono ?_;rintro e20 N8 ⟨rfl,rH⟩;go_wp2;go_ret;exact⟨rfl,lH.O.trans ((A1.O.quiet rH).fA.mono lH.O.size)⟩
 case true=>
  have e1:gX l=1:=by rw[gX,hg];rfl
  obtain⟨⟨xB,sM,_⟩,_⟩:=Xjv iZ hg;rw[e1]at Ey;have Jt:=Qh (fun w hw=>Uo I hI v l hv sM (by omega) n1 w hw);have Zr:=Qh (fun w hw=>Uo I hI v l hv sM (by omega) n2 w hw);have xH:=Qh (fun J (hk:∀b c,I b=some c→J b=some c) w hw=>Uj J v l (hv.mono hk) n1 w hw);have QI:=Qh (fun J (hk:∀b c,I b=some c→J b=some c) w hw=>Uj J v l (hv.mono hk) n2 w hw);have Ju:=Qh (fun J (hk:∀b c,I b=some c→J b=some c) w hw=>Um J (hI.mono hk) v l (hv.mono hk) sM (by omega) (lJ n1 l:Nat) w hw);have Jq:=Qh (fun J (hk:∀b c,I b=some c→J b=some c) w hw=>Um J (hI.mono hk) v l (hv.mono hk) sM (by omega) (lJ n2 l:Nat) w hw);have NY:=Qh (fun J (hk:∀b c,I b=some c→J b=some c) x va vx dV dX w hw=>Xkb J v l (hv.mono hk) sM (by omega) x va vx dV dX w hw);rw[YZ]at Ju Jq;have apl:=NW sM n1;have apm:=NW sM n2;have Ii:=Qh (fun h1 h2=>Xw4 (l:=l) n1 n2 h1 h2 ⟨by omega,by omega,by omega⟩);have Zt:=Qh (show fC (bZ l n1)from(Ji (l:=l) (lJ n1 l)).vI);have Zu:=Qh (show fC (bZ l n2)from(Ji (l:=l) (lJ n2 l)).vI);have Zv:=Qh (Zq (L:=l) n1);have Zw:=Qh (Zq (L:=l) n2);obtain⟨ao,cap,rfl,_,_,_⟩:=id hv;clear e1 hg hv;generalize bZ l n1=t at*;generalize bZ l n2=u at*;generalize jk l n1=g1 at*;generalize jk l n2=g2 at*;obtain⟨LJ,er1⟩:=g1;obtain⟨LK,vT⟩:=g2;dsimp only at Jt Zr Ju Jq Ii;go_enter Tryz.func9,Tryz.ntmps9
  go_wp2_with fail
  rw[HW.O];refine(Ey.O _ A0.O.ok).mono ?_;rintro e1 w1 ⟨rfl,au⟩;have A1:=Qh (A0.O.quiet au);have z0:=dQ A1.O.fA Z0.O;have z1:=dQ A1.O.fA Z1.O;clear au A0 HW;go_wp2_with fail
  refine(Jt.O _ A1.O.ok).mono ?_;rintro e2 w2 ⟨rfl,aD⟩;have A2:=Qh (A1.O.quiet aD);have z0:=dQ A2.O.fA Z0.O;have z1:=dQ A2.O.fA Z1.O;clear aD A1;go_wp2_with fail
  refine(Zr.O _ A2.O.ok).mono ?_;rintro e3 w3 ⟨rfl,bU⟩;have A3:=Qh (A2.O.quiet bU);have z0:=dQ A3.O.fA Z0.O;have z1:=dQ A3.O.fA Z1.O;clear bU A2;by_cases oQ:er1=0;rotate_left
  ·have q1:(er1 !=0)=true:=by simpa using oQ
   clear oQ;go_wp2_with fail
   refine(vQ.O _ A3.O.ok0).mono ?_;rintro e20 N8 ⟨rfl,rH⟩;go_wp2;go_ret;exact⟨rfl,lH.O.trans ((A3.O.quiet rH).fA.mono lH.O.size)⟩
  by_cases uR:vT=0;rotate_left
  ·have q1:(vT !=0)=true:=by simpa using uR
   subst oQ;clear uR;go_wp2_with fail
   refine(vQ.O _ A3.O.ok0).mono ?_;rintro e20 N8 ⟨rfl,rH⟩;go_wp2;go_ret;exact⟨rfl,lH.O.trans ((A3.O.quiet rH).fA.mono lH.O.size)⟩
  subst oQ uR;replace Ii:=Qh (Ii.O rfl rfl);go_wp2_with fail
  refine(xH.O I (fun _ _ h=>h) _ A3.O.ok).mono ?_;rintro e4 w4 ⟨rfl,aL⟩;have A4:=Qh (A3.O.quiet aL);have z0:=dQ A4.O.fA Z0.O;have z1:=dQ A4.O.fA Z1.O;clear aL A3;go_wp2_with fail
  refine(Ju.O I (fun _ _ h=>h) _ A4.O.ok).mono ?_;rintro e5 w5 ⟨v5,J5,rfl,aY,MJ,bX,uP⟩;obtain⟨a5,c5,rfl,_,_,_⟩:=id uP;have A5:=Qh (A4.O.ext aY MJ bX);have Hk5:=Qh (MJ.keep A4.O.ok (Qn _));have R5:=Qh uP;have z0:=dQ A5.O.fA Z0.O;have z1:=dQ A5.O.fA Z1.O;clear aY MJ bX uP A4;go_wp2_with fail
  refine(QI.O J5 A5.O.keep _ A5.O.ok).mono ?_;rintro e6 w6 ⟨rfl,fF⟩;have A6:=Qh (A5.O.quiet fF);have z0:=dQ A6.O.fA Z0.O;have z1:=dQ A6.O.fA Z1.O;clear fF A5;go_wp2_with fail
  refine(Jq.O J5 A6.O.keep _ A6.O.ok).mono ?_;rintro e7 w7 ⟨v7,J7,rfl,jJ,hx7,nQ,Qs⟩;obtain⟨a7,c7,rfl,_,_,_⟩:=id Qs;have A7:=Qh (A6.O.ext jJ hx7 nQ);have Hk7:=Qh (hx7.keep A6.O.ok (Qn _));have R7:=Qh Qs;have z0:=dQ A7.O.fA Z0.O;have z1:=dQ A7.O.fA Z1.O;clear jJ hx7 nQ Qs A6;have R5J:=Qh (R5.O.mono Hk7.O);have Ro:=Qh (fun w hw=>Xuw J7 (hI.mono A7.O.keep) _ _ t u R5J.O R7.O Zv.O Zw.O (by omega) (by omega) w hw);go_wp2_with fail
  refine(Ro.O _ A7.O.ok).mono ?_;rintro e8 w8 ⟨l8,vY,v8,J8,rfl,qB,Oa,pI,I6⟩;have xB:l8=gp t u:=Xg7 Zt.O Zu.O vY.1 vY.2;subst xB;obtain⟨a8,c8,rfl,_,_,_⟩:=id I6;have A8:=Qh (A7.O.ext qB Oa pI);have Hk8:=Qh (Oa.keep A7.O.ok (Qn _));clear qB Oa pI I6 vY A7 z0 z1 Ro xH QI Ju Jq Jt Zr Ey;by_cases wh:gp t u=[]
  ·obtain⟨hlen,Rp⟩:=Ii.O.2 wh;have Zx:=Qh Rp;have q0:((t.length:Int) !=(u.length:Int))=false:=by rw[hlen];simp
   have q1:(((gp t u).length:Int)==0)=true:=by rw[wh];rfl
   have JS:=hlen;have Hle:=Qh hlen;clear wh Rp hlen Ii;by_cases hab:LJ=LK
   ·have q2:(!(LJ==LK))=false:=by rw[hab];simp
    have q3:(LJ==LK)=true:=by rw[hab];simp
    clear hab JS;go_wp2_with fail
    refine(vQ.O _ A8.O.ok0).mono ?_;rintro e20 N8 ⟨rfl,rH⟩;go_wp2;go_ret;exact⟨rfl,lH.O.trans ((A8.O.quiet rH).fA.mono lH.O.size)⟩
   ·have q2:(!(LJ==LK))=true:=by simpa using hab
    have q3:(LJ==LK)=false:=by simpa using hab
    have Hab:=Qh hab;clear hab JS;have Ht8:=Qh (R5J.O.mono Hk8.O);have Hu8:=Qh (R7.O.mono Hk8.O);have Hc8:=Qh (fun x va vx dV dX w hw=>NY.O J8 A8.O.keep x va vx dV dX w hw);go_wp2_with fail
    go_loopw [14,15,16,17,18,89] (fun _ _ _ _ _ s89 wr=> ∃k:Nat,k≤t.length∧s89= .int .i64 k∧lT I w0 J8 wr∧ ∀(i:Nat) x y,i<k→t[i]?=some x→u[i]?=some y→(gI (aS l) x).1≠(gI (aS l) y).1→bE (gI (aS l) x).1≠bE (gI (aS l) y).1) (fun _ _ _ _ _ i _=>t.length-(intOf i).toNat)
    case atStart=>exact⟨0,Nat.zero_le _,rfl,A8.O,fun i x y hi=>absurd hi (Nat.not_lt_zero _)⟩
    case round=>
     clear A8 q0 q1 q2 q3;obtain⟨k,hk,rfl,hM,Rq⟩:=hrel;have M:=Qh hM;have Zy:=Qh Rq;clear hM Rq;have H8:=Hle.O;by_cases hlt:k<t.length
     ·obtain⟨x,va,vx,b,off,cap',bN,di,⟨c0,c1,c2,c3,c4,c5,c6⟩,h1,h2⟩:=oG Ht8.O M.O.ok k hlt;cases di;obtain⟨y,vb,vy,b',off',tO,iB,hwv,HY,h3,h4⟩:=oG Hu8.O M.O.ok k (by omega);cases hwv;have GL:=Qh (Hc8.O x _ _ h1 h2);have D9:=Qh (Hc8.O y _ _ h3 h4);have sH:=Yr (aS l) x;have yB:=Yr (aS l) y;have gN:=Qh (fun(hq:(gI (aS l) x).1≠(gI (aS l) y).1→bE (gI (aS l) x).1≠bE (gI (aS l) y).1)=>show ∀(i:Nat) x y,i<k+1→t[i]?=some x→u[i]?=some y→(gI (aS l) x).1≠(gI (aS l) y).1→bE (gI (aS l) x).1≠bE (gI (aS l) y).1 from by
       intro i x2 y2 hi eZ Sk;by_cases hik:i=k
       ·subst hik;rw[List.getElem?_eq_getElem hlt,bN]at eZ;rw[List.getElem?_eq_getElem (by omega),iB]at Sk;injection eZ with eZ
        injection Sk with Sk
        subst eZ Sk;exact hq
       ·exact Zy.O i x2 y2 (by omega) eZ Sk)
      obtain⟨xa,xc,rfl,_,_,_⟩:=id h1;obtain⟨xx,xd,rfl,_,_,_⟩:=id h2;obtain⟨ya,yc,rfl,_,_,_⟩:=id h3;obtain⟨yx,yd,rfl,_,_,_⟩:=id h4;have HYy:=Qh HY;generalize gI (aS l) x=gx at GL sH gN;generalize gI (aS l) y=gy at D9 yB gN;obtain⟨cx,ex⟩:=gx;obtain⟨cy,ey⟩:=gy;dsimp only at GL D9 sH yB gN;have hku:(k:Int)<(u.length:Int):=by omega
      clear bN iB h1 h2 h3 h4 HY Zy H8;go_wp2_with fail
      refine(GL.O _ M.O.ok).mono ?_;rintro e9 w9 ⟨rfl,iq⟩;have M9:=Qh (M.O.quiet iq);have HY9:=Qh (HYy.O.aA iq);clear iq M HYy c0 c1 c2 c3 c4 c5 c6;obtain⟨d0,d1,d2,d3,d4,d5,d6⟩:=HY9.O;go_wp2_with fail
      refine(D9.O _ M9.O.ok).mono ?_;rintro e10 KJ ⟨rfl,zL⟩;have Eg:=Qh (M9.O.quiet zL);clear zL M9 HY9 d0 d1 d2 d3 d4 d5 d6;by_cases hcc:cx=cy
      ·have j1:(!(cx==cy))=false:=by rw[hcc];simp
       have iQ:=Qh (gN.O fun q=>absurd hcc q);clear hcc gN;go_wp2;go_roundw;case rel=>exact⟨k+1,by omega,by go_num,Eg.O,iQ.O⟩
       case measure=>simp[intOf];omega
      ·have j1:(!(cx==cy))=true:=by simpa using hcc
       have Hsx:=Qh (fun b w hc rO=>Qj b cx (by omega) w hc rO);have Hsy:=Qh (fun b w hc rO=>Qj b cy (by omega) w hc rO);clear hcc;go_wp2_with fail
       refine(Hsx.O KJ.heap.size (KJ.alloc (.cells #[S cx] 9)) (by rw[World.cell?_alloc_new];rfl) (by simp)).mono ?_;rintro e11 Uc ⟨rfl,yJ⟩;have Jh:=Qh ((Eg.O.past (.cells #[S cx] 9)).quiet yJ);clear yJ Eg;go_wp2_with fail
       refine(Hsy.O Uc.heap.size (Uc.alloc (.cells #[S cy] 9)) (by rw[World.cell?_alloc_new];rfl) (by simp)).mono ?_;rintro e12 w12 ⟨rfl,j5⟩;have Lc:=Qh ((Jh.O.past (.cells #[S cy] 9)).quiet j5);clear j5 Jh;by_cases Sl:bE cx=bE cy
       ·have j2:(bE cx==bE cy)=true:=by simpa using Sl
        clear Sl gN;go_wp2_with fail
        refine(vQ.O _ Lc.O.ok0).mono ?_;rintro e20 N8 ⟨rfl,rH⟩;go_wp2;go_ret;exact⟨rfl,lH.O.trans ((Lc.O.quiet rH).fA.mono lH.O.size)⟩
       ·have j2:(bE cx==bE cy)=false:=by simpa using Sl
        have iQ:=Qh (gN.O fun _=>Sl);clear Sl gN;go_wp2;go_roundw;case rel=>exact⟨k+1,by omega,by go_num,Lc.O,iQ.O⟩
        case measure=>simp[intOf];omega
     ·exact absurd (Zx.O fun i x y hx hy=>by
       have:=(List.getElem?_eq_some_iff.1 hx).1;exact Zy.O i x y (by omega) hx hy) Hab.O
  ·have q1:(((gp t u).length:Int)==0)=false:=by
    cases hdm:gp t u with
    |nil=>exact absurd hdm wh
    |cons a b=>simp;omega
   have hab:LJ≠LK:=fun q=>wh (Ii.O.1 q);have q3:(LJ==LK)=false:=by simpa using hab
   clear wh hab Ii;go_wp2_with fail
   refine(vQ.O _ A8.O.ok0).mono ?_;rintro e20 N8 ⟨rfl,rH⟩;go_wp2;go_ret;exact⟨rfl,lH.O.trans ((A8.O.quiet rH).fA.mono lH.O.size)⟩
