/- Lemmas for the claim's theorem;conditions: as each says. -/
import Derived.Test.YtdodihnehppnmaaGreatDoorG31
import Derived.Test.YtdodihnehppnmaaGreatDoorG38
set_option maxHeartbeats 0
set_option maxRecDepth 100000
set_option linter.all false
namespace Go.Proofs.YtdodihnehppnmaaGreatDoor
open Go.RowKit
variable{k:Nat}{α:Type}{p:α→Bool}{l:List α}{x:α}
def PD(l:List dm)(k:Nat)(p:ae)(d:Int):Prop:=
 (k=0∧p=[]∧d=0)∨ ∃(m:Nat) (h:m<l.length) (y:dm),k=m+1∧l[m]=y∧p=(eO y).1∧d=y.aT∧(eO y).2=0
theorem Ut(hk:k<l.length)(hx:l[k]=x)(h1:(l.take k).all p=true)(h2:p x=true):(l.take (k+1)).all p=true:=by
 rw[List.take_succ_eq_append_getElem hk,hx,List.all_append,h1];simp[h2]
theorem Uu(hk:k<l.length)(hx:l[k]=x)(h:p x=false):l.all p=false:=by
 cases ha:l.all p with
 |false=>rfl
 |true=>
  have:=List.all_eq_true.1 ha x (by rw[←hx];exact List.getElem_mem hk);rw[h]at this;cases this
theorem Xgq{l:List dm}{x:Xt}(hk:k<l.length)(h0:x.s≠0)(h:(k:Int)+1<x.s):pE (l.take (k+1)) x=false:=
 Xvm h0 (by rw[List.length_take];omega)
theorem Xhq{l:List dm}{x:Xt}{m:Nat}(hk:k<l.length)(hm:m≤k){y:dm}(hy:l[m]'(by omega)=y)(h:x.s=(m:Int)+1):pE (l.take (k+1)) x=decide (x.o+x.n≤(y.aI.length:Int)):=
 Xyb (l:=l.take (k+1)) (k:=m) (by rw[List.length_take];omega) (by rw[List.getElem_take];exact hy) h
theorem Xn9(I:IH)(v:Value)(l:List dm)(hv:bf oK I v l)(hg:∀x∈l,kR x)(hn:l.length≤1000)(w:World)(hw:Ok I w):
 Calls Tryz.prog 39 #[v] w fun r w'=>r= .returned (.int .i64 (BA l))∧Below w.heap.size w w':=by
 obtain⟨ao,cap,rfl,dD,il,_⟩:=id hv;have Hv:=Qh hv;have Hg:=Qh hg;obtain⟨E,hE⟩:∃E,BA l=E:=⟨_,rfl⟩;have HE:=Qh (show iH l 0 kZ [] 0 (l.drop 0)=E from hE);have H0:=Qh (oN.new (T:=136) hw rfl);rw[hE];clear hv hg hE;go_enter Tryz.func39,Tryz.ntmps39
 go_wp2_with fail
 go_loopw [18] (fun s18 wr=> ∃(k:Nat) (s:kC) (vt vh:Value) (J:IH) (p:ae) (d:Int),k≤l.length∧s18= .int .i64 k∧iH l k s p d (l.drop k)=E∧PD l k p d∧zi (30*k) s∧oN 136 w.heap.size J wr s vt vh∧Ext w.heap.size I J∧Below w.heap.size w wr) (fun i _=>l.length-(intOf i).toNat)
 case atStart=>exact⟨0,kZ,_,_,I,[],0,Nat.zero_le _,rfl,HE.O,.inl ⟨rfl,rfl,rfl⟩,Ym,H0.O,Ext.refl _ _,(Qb _ _).alloc (Qn _) _⟩
 case round=>
  clear H0 HE;obtain⟨k,s,vt,vh,J,p,d,hk,rfl,hce,Q6,JQ,fO,hx,hb⟩:=hrel;have Y8:=Qh hce;have vS:=Qh JQ;have bB:=Qh fO;have Hx:=Qh hx;have Y9:=Qh Q6;have sW:Ok J wr:=fO.ok;have jZ:=fO.lt;have Uv:=Qh (Hv.O.mono (hx.keep hw (Qn _)));clear hce JQ fO hx Q6;by_cases hlt:k<l.length
  ·obtain⟨x,ve,b,off,cap',bN,di,⟨c0,c1,c2,c3,c4,c5⟩,h1⟩:=Jc Uv.O sW k hlt;cases di;obtain⟨oe,ce,rfl,_,_,_⟩:=id h1;have Cb:=Qh (Hg.O x (by rw[←bN];exact List.getElem_mem hlt));have FM:=Qh ((X0s (l0:=l) (s:=s) (bP:=p) (aT:=d) hlt bN).symm.trans Y8.O);have Li:=Qh h1;have CZ:=Qh (Xgv J x _ h1 Cb.O (wr.alloc (.cells #[.int .i64 x.num,.int .i64 x.aT,S x.bP,.slice oe x.aH.length ce,S x.aI,S x.sl] 35)) (sW.alloc _));have U4:=Qh (fun h=>Wl (O6 (Xux (s:=x) h).1).1);have Q7:=Qh (fun h:(eO x).2=0=>show PD l (k+1) (eO x).1 x.aT from .inr ⟨k,hlt,x,rfl,bN,rfl,rfl,h⟩);have Lg:=Cb.O.qG;obtain⟨dg,er,JC⟩:∃dg er,eO x=(dg,er):=⟨_,_,rfl⟩;rw[JC]at CZ FM U4 Q7;clear bN h1 Y8 JC;go_wp2_with fail
   refine CZ.O.mono ?_;rintro e1 w1 ⟨rfl,au⟩;have gT:=Qh (wZ (s:=x) rfl au);have Es:=Qh ((bB.O.past (.cells #[.int .i64 x.num,.int .i64 x.aT,S x.bP,.slice oe x.aH.length ce,S x.aI,S x.sl] 35)).below au);have av:Below w.heap.size w w1:=(hb.alloc hb.size (.cells #[.int .i64 x.num,.int .i64 x.aT,S x.bP,.slice oe x.aH.length ce,S x.aI,S x.sl] 35)).trans (au.mono (by have:=hb.size;simp;omega));have EX:wr.heap.size<w1.heap.size:=by have:=au.size;simp at this;omega
   clear au CZ bB c0 c1 c2 c3 c4 c5 sW hb;obtain⟨c0,c1,c2,c3,c4,c5⟩:=gT.O;by_cases he:er=0;case neg=>
    have Hn:=Qh (show E=er by have:=FM.O;rw[if_pos he]at this;exact this.symm);have Ry:(er !=0)=true:=by simpa using he
    clear he;go_wp2;go_ret;exact⟨bT Hn.O.symm,av⟩
   subst he;have YY:=U4.O rfl;have Hpd:=Qh (Q7.O rfl);have g0:=cell_regrown c0;have g1:=cell_regrown c1;by_cases pO:x.num=(k:Int)+1;case neg=>
    have Hn:=Qh (show E=14 by have:=FM.O;rw[if_neg (by simp),if_pos (.inl pO)]at this;exact this.symm);have q1:(x.num !=(k:Int)+1)=true:=by simpa using pO
    have q2:(x.num==(k:Int)+1)=false:=by simpa using pO
    clear pO;go_wp2_with fail
    refine wp_region_quiet_below (by kernel_rfl) (by kernel_rfl) ?_;repeat(go_big_quiet_step ((fail)))
    refine wpQuiet_nil ?_;intro w2 bg;have aD:Below (w1).heap.size (w1) w2:=by
     obtain⟨pq,rfl⟩:=bg;exact below_regrown _ _ _
    clear bg;go_wp2;go_ret;exact⟨bT Hn.O.symm,av.trans (aD.mono av.size)⟩
   have q1:(x.num !=(k:Int)+1)=false:=by simpa using pO
   have q2:(x.num==(k:Int)+1)=true:=by simpa using pO
   rcases Y9.O with⟨qV,Bf,Oi⟩|⟨m,Q8,u,Za,zY,Bf,Oi,hdu⟩
   ·have MG:¬x.aT<d:=by omega
    have i0:decide ((0:Int)<(k:Int))=false:=Qf (by omega);have i1:decide (0<k)=false:=Qf (by omega);clear qV;go_wp2_with fail
    refine wp_region_quiet_below (by kernel_rfl) (by kernel_rfl) ?_;repeat(go_big_quiet_step ((fail)))
    refine wpQuiet_nil ?_;intro w2 bg;have aD:Below (w1).heap.size (w1) w2:=by
     obtain⟨pq,rfl⟩:=bg;exact below_regrown _ _ _
    clear bg;have nL:=Qh (gT.O.aA aD);have rf:=Qh (Es.O.below aD);have aK:=av.trans (aD.mono av.size);have jm:wr.heap.size<w2.heap.size:=by have:=aD.size;omega
    clear aD av gT Es g0 g1 c0 c1 c2 c3 c4 c5 q1 q2 EX;obtain⟨c0,c1,c2,c3,c4,c5⟩:=nL.O;by_cases vH:x.bP=p;case neg=>
     have Hn:=Qh (show E=20 by have:=FM.O;rw[if_neg (by simp),if_neg (by rintro(h|h);exact h pO;omega),if_pos vH]at this;exact this.symm);obtain⟨p1,p2,p3,p4⟩:=zC (show x.bP≠[] by rw[←Bf];exact vH);clear vH MG pO;go_wp2;go_ret;exact⟨bT Hn.O.symm,aK⟩
    obtain⟨p1,p2,p3,p4⟩:=Bu (show x.bP=[] by rw[←Bf];exact vH);clear YY U4;have rG:=Qh (show(if(iO (l.take (k+1)) x.aT s x.aH).2≠0 then(iO (l.take (k+1)) x.aT s x.aH).2 else iH l (k+1) (iO (l.take (k+1)) x.aT s x.aH).1 dg x.aT (l.drop (k+1)))=E by
     have:=FM.O;rw[if_neg (by simp),if_neg (by rintro(h|h);exact h pO;omega),if_neg (by simpa using vH)]at this;exact this)
    obtain⟨R,vT,hR⟩:∃R vT,iO (l.take (k+1)) x.aT s x.aH=(R,vT):=⟨_,_,rfl⟩;rw[hR]at rG;have HR:=Qh hR;clear vH MG pO FM hR;go_wp2_with fail
    generalize wr.heap.size=bx at nL jm jZ ⊢;clear c0 c1 c2 c3 c4 c5;go_loopw [69] (fun Zb wq=> ∃(j:Nat) (s':kC) (Aa FL:Value) (J':IH),j≤x.aH.length∧Zb= .int .i64 j∧iO (l.take (k+1)) x.aT s' (x.aH.drop j)=(R,vT)∧zi (30*k+j) s'∧oN 136 w.heap.size J' wq s' Aa FL∧Ext w.heap.size I J'∧mY wq bx x (.slice oe x.aH.length ce)∧(∀b c,J b=some c→J' b=some c)∧bx<wq.heap.size∧Below w.heap.size w wq) (fun i _=>x.aH.length-(intOf i).toNat)
    case atStart=>exact⟨0,s,vt,vh,J,Nat.zero_le _,rfl,HR.O,vS.O,rf.O,Hx.O,nL.O,fun _ _ h=>h,jm,aK⟩
    case round=>
     clear rf nL aK HR vS jm;obtain⟨j,s',Aa,FL,J',hj,rfl,hR,JQ,fO,hx,hB,fE,Zc,AA⟩:=hrel;have HR:=Qh hR;have vS:=Qh JQ;have bB:=Qh fO;have HB:=Qh hB;have Q9:=Qh hx;have Be:=Qh fE;have gK:Ok J' wr:=fO.ok;clear hR JQ fO hB hx fE;obtain⟨c0,c1,c2,c3,c4,c5⟩:=HB.O;by_cases Bi:j<x.aH.length
     ·obtain⟨y,YG,YH,b9,GX,Lj,iB,di,⟨x0,x1,x2,x3,x4,x5,x6⟩,h1,h2⟩:=oG (Li.O.mono Be.O) gK j Bi;cases di;obtain⟨xa,xc,rfl,_,_,_⟩:=id h1;obtain⟨xx,xd,rfl,_,_,_⟩:=id h2;obtain⟨t1,Jn,rfl,_,_,_⟩:=id bB.O.aJ;obtain⟨u1,Jo,rfl,_,_,_⟩:=id bB.O.holds;have gL:y∈x.aH:=by rw[←iB];exact List.getElem_mem Bi
      have Cc:=Qh ((Xug (L:=l.take (k+1)) (d:=x.aT) (s:=s') Bi iB).symm.trans HR.O);have uC:=Qh (bB.O.past (.cells #[.int .i64 y.ag,S y.af,.slice xa y.ai.length xc,S y.target,.int .i64 y.size,S y.aj,.slice xx y.ak.length xd] 26));have Mq:=Cb.O.af y gL;have U2:=Cb.O.target y gL;have tF:=Cb.O.ak y gL;have o9:=vS.O.ok.Bz;have FK:=vS.O.ok.hlen;have ik:=Qh (Xjx J' s' _ _ bB.O.aJ bB.O.holds vS.O.FH (by omega) vS.O.ok.holds (by omega) y _ _ h1 h2 (Cb.O.wf y gL) (by omega) (by omega) x.aT (wr.alloc (.cells #[.int .i64 y.ag,S y.af,.slice xa y.ai.length xc,S y.target,.int .i64 y.size,S y.aj,.slice xx y.ak.length xd] 26)) (gK.alloc _));have Et:=Qh (Ud vS.O y x.aT Mq U2);have Ra:=Qh (fun h=>Xx2 (s:=s') (d:=x.aT) (e:=y) h);have Jq:=Qh h2;obtain⟨s2,zl,oV⟩:∃s2 zl,dY s' y x.aT=(s2,zl):=⟨_,_,rfl⟩;rw[oV]at ik Cc Et Ra;have k0:=uC.O.c0;have k1:=uC.O.c1;have p1:=gD (.cells #[.int .i64 y.ag,S y.af,.slice xa y.ai.length xc,S y.target,.int .i64 y.size,S y.aj,.slice xx y.ak.length xd] 26) c1;have Zd:=bB.O.lt;have Ij:wr.heap.size≠w.heap.size:=by omega
      have LB:bx≠w.heap.size:=by omega
      have Ae:=AA.alloc AA.size (.cells #[.int .i64 y.ag,S y.af,.slice xa y.ai.length xc,S y.target,.int .i64 y.size,S y.aj,.slice xx y.ak.length xd] 26);have Rc:=Qh (HB.O.past (.cells #[.int .i64 y.ag,S y.af,.slice xa y.ai.length xc,S y.target,.int .i64 y.size,S y.aj,.slice xx y.ak.length xd] 26));clear iB h1 h2 gL o9 FK HR oV bB vS HB gK AA;go_wp2_with fail
      refine ik.O.mono ?_;rintro e3 w3 ⟨v3,v4,J3,rfl,bU,qW,bQ,EY,EZ⟩;have Ze:=Qh EY;have Zf:=Qh EZ;obtain⟨a3,d3,rfl,_,_,_⟩:=id EY;obtain⟨a4,d4,rfl,_,_,_⟩:=id EZ;have LC:=Qh ((bS (e:=y) rfl bU).past (.cells #[.slice a3 s2.aJ.length d3,.slice a4 s2.holds.length d4] 136));have mH:=Qh ((Rc.O.aA bU).past (.cells #[.slice a3 s2.aJ.length d3,.slice a4 s2.holds.length d4] 136));have Eu:=Qh ((uC.O.ext bU qW bQ).past (.cells #[.slice a3 s2.aJ.length d3,.slice a4 s2.holds.length d4] 136));have Af:=Ae.trans (bU.mono Ae.size);have oh:=Af.alloc Af.size (.cells #[.slice a3 s2.aJ.length d3,.slice a4 s2.holds.length d4] 136);have Ag:=Qh (qW.keep uC.O.ok (Qn _));have MH:wr.heap.size<w3.heap.size:=by have:=bU.size;simp at this;omega
      have Zg:=Qh (Q9.O.trans qW (by simp;omega));have n0:(w3.alloc (.cells #[.slice a3 s2.aJ.length d3,.slice a4 s2.holds.length d4] 136)).cell? ⟨w3.heap.size,0,none⟩=some (.slice a3 s2.aJ.length d3):=by simp
      have n1:(w3.alloc (.cells #[.slice a3 s2.aJ.length d3,.slice a4 s2.holds.length d4] 136)).cell? ⟨w3.heap.size,1,none⟩=some (.slice a4 s2.holds.length d4):=by simp
      clear c0 c1 c2 c3 c4 c5 x0 x1 x2 x3 x4 x5 x6 k0 k1 p1 bU qW bQ EY EZ ik uC Ae Rc Af;by_cases h3:zl=0;case neg=>
       have NQ:(zl !=0)=true:=by simpa using h3
       have Hn:=Qh (show E=zl by
        have h:=Cc.O;rw[if_pos h3]at h;have h2:vT=zl:=(Prod.mk.inj h).2.symm;have h4:=rG.O;rw[h2,if_pos h3]at h4;exact h4.symm)
       clear h3;go_wp2;go_ret;exact⟨bT Hn.O.symm,oh⟩
      subst h3;obtain⟨w4,Bg⟩:∃w4,w3.alloc (.cells #[.slice a3 s2.aJ.length d3,.slice a4 s2.holds.length d4] 136)=w4:=⟨_,rfl⟩;have dH:w3.heap.size<w4.heap.size:=by rw[←Bg];simp
      rw[Bg]at LC mH Eu oh n0 n1;have xe:=Qh n0;have yI:=Qh n1;obtain⟨x0,x1,x2,x3,x4,x5,x6⟩:=LC.O;go_wp2_with fail
      generalize w3.heap.size=nb at xe yI dH MH ⊢;clear Bg n0 n1 x0 x1 x2 x3 x4 x5 x6 LC;go_loopw [87] (fun s87 wq=> ∃q:Nat,q≤y.ak.length∧s87= .int .i64 q∧(y.ak.take q).all (pE (l.take (k+1)))=true∧Below w4.heap.size w4 wq) (fun i _=>y.ak.length-(intOf i).toNat)
      case atStart=>exact⟨0,Nat.zero_le _,rfl,rfl,Qb _ _⟩
      case round=>
       obtain⟨q,hq,rfl,aG,mo⟩:=hrel;have kK:=Qh aG;clear aG;have pQ:=Qh (Eu.O.below mo);have Ah:Ok J3 wr:=pQ.O.ok;by_cases Ce:q<y.ak.length
       ·obtain⟨z,bz,Zh,Zi,xw,di,z0,z1,z2⟩:=wo (Jq.O.mono Ag.O) Ah q Ce;cases di;obtain⟨b0,b1,b2,b3,b4,b5⟩:=Ra.O (by trivial) z (by rw[←xw];exact List.getElem_mem Ce);obtain⟨zs,zo,zn⟩:=z;dsimp only at b0 b1 b2 b3 b4 b5;have xy:=(oh.trans (mo.mono oh.size)).alloc (oh.trans (mo.mono oh.size)).size (.cells #[.int .i64 zs,.int .i64 zo,.int .i64 zn] 134);have xh:=mo.alloc mo.size (.cells #[.int .i64 zs,.int .i64 zo,.int .i64 zn] 134);by_cases lD:zs=0
        ·have e1:(zs !=0)=false:=by simpa using lD
         have e2:(zs==0)=true:=by simpa using lD
         have Hn:=Qh (Xlr (l:=l.take (k+1)) (x:=⟨zs,zo,zn⟩) lD);clear lD;have y0:=cell_regrown (show(wr.alloc (.cells #[.int .i64 zs,.int .i64 zo,.int .i64 zn] 134)).cell? ⟨wr.heap.size,0,none⟩=some (.int .i64 zs) by simp);have y1:=cell_regrown (show(wr.alloc (.cells #[.int .i64 zs,.int .i64 zo,.int .i64 zn] 134)).cell? ⟨wr.heap.size,1,none⟩=some (.int .i64 zo) by simp);have y2:=cell_regrown (show(wr.alloc (.cells #[.int .i64 zs,.int .i64 zo,.int .i64 zn] 134)).cell? ⟨wr.heap.size,2,none⟩=some (.int .i64 zn) by simp);have iQ:=Qh (Ut Ce xw kK.O Hn.O);clear xw;go_wp2_with fail
         refine wp_region_quiet_below (by kernel_rfl) (by kernel_rfl) ?_;repeat(go_big_quiet_step ((fail)))
         refine wpQuiet_nil ?_;intro w6 bg;have fF:Below ((wr.alloc (.cells #[.int .i64 zs,.int .i64 zo,.int .i64 zn] 134))).heap.size ((wr.alloc (.cells #[.int .i64 zs,.int .i64 zo,.int .i64 zn] 134))) w6:=by
          obtain⟨pq,rfl⟩:=bg;exact below_regrown _ _ _
         clear bg;go_wp2;go_roundw;case rel=>exact⟨q+1,by omega,by go_num,iQ.O,xh.trans (fF.mono (by have:=xh.size;omega))⟩
         case measure=>simp[intOf];omega
        have e1:(zs !=0)=true:=by simpa using lD
        have e2:(zs==0)=false:=by simpa using lD
        by_cases G6:(k:Int)+1<zs
        ·have e3:decide ((k:Int)+1<zs)=true:=Qt G6;have Hn:=Qh (Xgq (x:=⟨zs,zo,zn⟩) hlt lD G6);have y0:=cell_regrown (show(wr.alloc (.cells #[.int .i64 zs,.int .i64 zo,.int .i64 zn] 134)).cell? ⟨wr.heap.size,0,none⟩=some (.int .i64 zs) by simp);have y1:=cell_regrown (show(wr.alloc (.cells #[.int .i64 zs,.int .i64 zo,.int .i64 zn] 134)).cell? ⟨wr.heap.size,1,none⟩=some (.int .i64 zo) by simp);have y2:=cell_regrown (show(wr.alloc (.cells #[.int .i64 zs,.int .i64 zo,.int .i64 zn] 134)).cell? ⟨wr.heap.size,2,none⟩=some (.int .i64 zn) by simp);clear lD G6;have iQ:=Qh (show E=2 by
          have h:=Cc.O;rw[if_neg (by simp),if_pos (show lS (l.take (k+1)) y=false from Uu Ce xw Hn.O)]at h;have h2:vT=2:=(Prod.mk.inj h).2.symm;have h4:=rG.O;rw[h2,if_pos (by decide)]at h4;exact h4.symm)
         clear xw;go_wp2_with fail
         refine wp_region_quiet_below (by kernel_rfl) (by kernel_rfl) ?_;repeat(go_big_quiet_step ((fail)))
         refine wpQuiet_nil ?_;intro w6 bg;have fF:Below ((wr.alloc (.cells #[.int .i64 zs,.int .i64 zo,.int .i64 zn] 134))).heap.size ((wr.alloc (.cells #[.int .i64 zs,.int .i64 zo,.int .i64 zn] 134))) w6:=by
          obtain⟨pq,rfl⟩:=bg;exact below_regrown _ _ _
         clear bg;go_wp2;go_ret;exact⟨bT iQ.O.symm,xy.trans (fF.mono xy.size)⟩
        obtain⟨m,hm⟩:∃m:Nat,zs=(m:Int)+1:=⟨(zs-1).toNat,by omega⟩;subst hm;have iL:m≤k:=by omega
        obtain⟨u,vu,bu,Re,Rf,zY,di,⟨s0,s1,s2',s3,s4,s5⟩,h1⟩:=Jc ((Uv.O.mono Be.O).mono Ag.O) (Ah.alloc (.cells #[.int .i64 ((m:Int)+1),.int .i64 zo,.int .i64 zn] 134)) m (by omega);cases di;have sQ:=Xhq (x:=⟨(m:Int)+1,zo,zn⟩) hlt iL zY rfl;have e3:decide ((k:Int)+1<(m:Int)+1)=false:=Qf (by omega);have e3a:decide ((k:Int)<(m:Int))=false:=Qf (by omega);have e3b:decide (k<m)=false:=Qf (by omega);have IP:=(Hg.O u (by rw[←zY];exact List.getElem_mem _)).aI;have m8:IntKind.i64.wrap ((u.aI.length:Int)-zo)=(u.aI.length:Int)-zo:=IntWalk.i64_in _ (by omega);have m9:wrap64 ((u.aI.length:Int)-zo)=(u.aI.length:Int)-zo:=by unfold wrap64;omega
        have hi:(m:Int)<l.length:=by omega
        have g4:=cell_regrown s4;have y0:=cell_regrown (show(wr.alloc (.cells #[.int .i64 ((m:Int)+1),.int .i64 zo,.int .i64 zn] 134)).cell? ⟨wr.heap.size,0,none⟩=some (.int .i64 ((m:Int)+1)) by simp);have y1:=cell_regrown (show(wr.alloc (.cells #[.int .i64 ((m:Int)+1),.int .i64 zo,.int .i64 zn] 134)).cell? ⟨wr.heap.size,1,none⟩=some (.int .i64 zo) by simp);have y2:=cell_regrown (show(wr.alloc (.cells #[.int .i64 ((m:Int)+1),.int .i64 zo,.int .i64 zn] 134)).cell? ⟨wr.heap.size,2,none⟩=some (.int .i64 zn) by simp);clear lD G6 zY s0 s1 s2' s3 s4 s5 h1;obtain⟨zs,EQ⟩:∃zs,zs=(m:Int)+1:=⟨_,rfl⟩;by_cases lW:zo+zn≤(u.aI.length:Int)
        ·have Hn:=Qh (show pE (l.take (k+1)) ⟨(m:Int)+1,zo,zn⟩=true by rw[sQ];exact Qt lW);have e4:decide ((u.aI.length:Int)<zo)=false:=Qf (by omega);have e5:decide ((u.aI.length:Int)-zo<zn)=false:=Qf (by omega);clear sQ lW;subst EQ;have iQ:=Qh (Ut Ce xw kK.O Hn.O);clear xw;go_wp2_with fail
         refine wp_region_quiet_below (by kernel_rfl) (by kernel_rfl) ?_;repeat(go_big_quiet_step ((fail)))
         refine wpQuiet_nil ?_;intro w6 bg;have fF:Below ((wr.alloc (.cells #[.int .i64 ((m:Int)+1),.int .i64 zo,.int .i64 zn] 134))).heap.size ((wr.alloc (.cells #[.int .i64 ((m:Int)+1),.int .i64 zo,.int .i64 zn] 134))) w6:=by
          obtain⟨pq,rfl⟩:=bg;exact below_regrown _ _ _
         clear bg;go_wp2;go_roundw;case rel=>exact⟨q+1,by omega,by go_num,iQ.O,xh.trans (fF.mono (by have:=xh.size;omega))⟩
         case measure=>simp[intOf];omega
        ·have Hn:=Qh (show pE (l.take (k+1)) ⟨(m:Int)+1,zo,zn⟩=false by rw[sQ];exact Qf lW);have iQ:=Qh (show E=2 by
          have h:=Cc.O;rw[if_neg (by simp),if_pos (show lS (l.take (k+1)) y=false from Uu Ce xw Hn.O)]at h;have h2:vT=2:=(Prod.mk.inj h).2.symm;have h4:=rG.O;rw[h2,if_pos (by decide)]at h4;exact h4.symm)
         clear sQ xw;subst EQ;by_cases CB:(u.aI.length:Int)<zo
         ·have e4:decide ((u.aI.length:Int)<zo)=true:=Qt CB;clear lW;go_wp2_with fail
          refine wp_region_quiet_below (by kernel_rfl) (by kernel_rfl) ?_;repeat(go_big_quiet_step ((fail)))
          refine wpQuiet_nil ?_;intro w6 bg;have fF:Below ((wr.alloc (.cells #[.int .i64 ((m:Int)+1),.int .i64 zo,.int .i64 zn] 134))).heap.size ((wr.alloc (.cells #[.int .i64 ((m:Int)+1),.int .i64 zo,.int .i64 zn] 134))) w6:=by
           obtain⟨pq,rfl⟩:=bg;exact below_regrown _ _ _
          clear bg;go_wp2;go_ret;exact⟨bT iQ.O.symm,xy.trans (fF.mono xy.size)⟩
         ·have e4:decide ((u.aI.length:Int)<zo)=false:=Qf CB;have e5:decide ((u.aI.length:Int)-zo<zn)=true:=Qt (by omega);clear lW;go_wp2_with fail
          refine wp_region_quiet_below (by kernel_rfl) (by kernel_rfl) ?_;repeat(go_big_quiet_step ((fail)))
          refine wpQuiet_nil ?_;intro w6 bg;have fF:Below ((wr.alloc (.cells #[.int .i64 ((m:Int)+1),.int .i64 zo,.int .i64 zn] 134))).heap.size ((wr.alloc (.cells #[.int .i64 ((m:Int)+1),.int .i64 zo,.int .i64 zn] 134))) w6:=by
           obtain⟨pq,rfl⟩:=bg;exact below_regrown _ _ _
          clear bg;go_wp2;go_ret;exact⟨bT iQ.O.symm,xy.trans (fF.mono xy.size)⟩
       ·have Hn:=Qh (show iO (l.take (k+1)) x.aT s2 (x.aH.drop (j+1))=(R,vT) by
         have h:=Cc.O;have ha:=kK.O;rw[List.take_of_length_le (by omega)]at ha;rw[if_neg (by simp),if_neg (by rw[show lS (l.take (k+1)) y=true from ha];simp)]at h;exact h)
        have LD:=Qh (pQ.O.set (s':=s2) Ze.O Zf.O);have r0:=pQ.O.c0;have r1:=pQ.O.c1;have f0:=pQ.O.f0;have f1:=pQ.O.f1;have n0:=dQ mo xe.O;have n1:=dQ mo yI.O;have Zj:=Qh ((mH.O.aA mo).set2 (u:=(.slice a3 s2.aJ.length d3)) (v:=(.slice a4 s2.holds.length d4)) LB);have Ik:=((oh.trans (mo.mono oh.size)).setCell (p:=⟨w.heap.size,0,none⟩) (Qn _) (.slice a3 s2.aJ.length d3)).setCell (p:=⟨w.heap.size,1,none⟩) (Qn _) (.slice a4 s2.holds.length d4);have aaI:=mo.size;clear pQ Ah Cc kK;go_wp2;go_roundw;case rel=>exact⟨j+1,s2,_,_,J3,by omega,by go_num,Hn.O,Et.O,LD.O,Zg.O,Zj.O,fun b c h=>Ag.O b c (Be.O b c h),by simp;omega,Ik⟩
        case measure=>simp[intOf];omega
     ·have lF:(s',(0:Int))=(R,vT):=by have:=HR.O;rwa[List.drop_of_length_le (by omega)]at this
      obtain⟨rfl,rfl⟩:=Prod.mk.inj lF;have Hn:=Qh (show iH l (k+1) s' dg x.aT (l.drop (k+1))=E by have:=rG.O;rwa[if_neg (by simp)]at this);clear lF HR rG;go_wp2;go_roundw;case rel=>exact⟨k+1,s',_,_,J',dg,x.aT,by omega,by go_num,Hn.O,Hpd.O,vS.O.mono (by omega),bB.O,Q9.O,AA⟩
      case measure=>simp[intOf];omega
   ·have i0:decide ((0:Int)<(k:Int))=true:=Qt (by omega);have i0n:decide (0<k)=true:=Qt (by omega);have UW:IntKind.i64.wrap ((k:Int)-1)=(m:Int):=by rw[IntWalk.i64_in _ (by omega)];omega
    have hj9:(k:Int)-1=(m:Int):=by omega
    clear Za;have aB:Ok J w1:=Es.O.ok;obtain⟨u',vu,bu,Re,Rf,Rh,di,⟨s0,s1,s2',s3,s4,s5⟩,h1⟩:=Jc Uv.O aB m Q8;cases di;have huu:u=u':=by rw[←zY,Rh]
    subst huu;obtain⟨ou,cu,rfl,_,_,_⟩:=id h1;have CZ:=Qh (fun w hw=>Xgv J u _ h1 (Hg.O u (by rw[←zY];exact List.getElem_mem Q8)) w hw);have gu:=cell_regrown s1;have im:(m:Int)<l.length:=by omega
    rw[hdu,←Bf]at CZ;clear zY Rh h1 hdu;by_cases MG:x.aT<d
    ·have Hn:=Qh (show E=14 by have:=FM.O;rw[if_neg (by simp),if_pos (.inr MG)]at this;exact this.symm);have q3:decide (x.aT<u.aT)=true:=Qt (by omega);clear MG pO;go_wp2_with fail
     refine wp_region_quiet_below (by kernel_rfl) (by kernel_rfl) ?_;repeat(go_big_quiet_step ((fail)))
     refine wpQuiet_nil ?_;intro w2 bg;have aD:Below (w1).heap.size (w1) w2:=by
      obtain⟨pq,rfl⟩:=bg;exact below_regrown _ _ _
     clear bg;go_wp2;go_ret;exact⟨bT Hn.O.symm,av.trans (aD.mono av.size)⟩
    have q3:decide (x.aT<u.aT)=false:=Qf (by omega);go_wp2_with fail
    refine wp_region_quiet_below (by kernel_rfl) (by kernel_rfl) ?_;repeat(go_big_quiet_step ((fail)))
    refine wpQuiet_nil ?_;intro w0 bg;have om:Below (w1).heap.size (w1) w0:=by
     obtain⟨pq,rfl⟩:=bg;exact below_regrown _ _ _
    clear bg;have lH:=Qh (gT.O.aA om);have iU:=Qh (Es.O.below om);have LF:=av.trans (om.mono av.size);have Zk:wr.heap.size<w0.heap.size:=by have:=om.size;omega
    have t0:=dQ om s0;have t1:=dQ om s1;have t2:=dQ om s2';have t3:=dQ om s3;have t4:=dQ om s4;have t5:=dQ om s5;clear om av gT Es g0 g1 c0 c1 c2 c3 c4 c5 q1 q2 EX gu s0 s1 s2' s3 s4 s5;go_wp2_with fail
    refine(CZ.O _ iU.O.ok).mono ?_;rintro e2 w2 ⟨rfl,aD⟩;have nL:=Qh (lH.O.aA aD);have rf:=Qh (iU.O.below aD);have aK:=LF.trans (aD.mono LF.size);have jm:wr.heap.size<w2.heap.size:=by have:=aD.size;omega
    clear aD LF lH iU Zk t0 t1 t2 t3 t4 t5 CZ q3;obtain⟨c0,c1,c2,c3,c4,c5⟩:=nL.O;by_cases vH:x.bP=p;case neg=>
     have Hn:=Qh (show E=20 by have:=FM.O;rw[if_neg (by simp),if_neg (by rintro(h|h);exact h (by simpa using pO);omega),if_pos vH]at this;exact this.symm);have q4:(x.bP==p)=false:=by simpa using vH
     have q5:(x.bP !=p)=true:=by simpa using vH
     have q4a:(x.bP==(eO u).1)=false:=by rw[←Bf];simpa using vH
     have q5a:(x.bP !=(eO u).1)=true:=by rw[←Bf];simpa using vH
     clear vH MG pO;go_wp2;go_ret;exact⟨bT Hn.O.symm,aK⟩
    have q4a:(x.bP==(eO u).1)=true:=by rw[←Bf];simpa using vH
    have q5a:(x.bP !=(eO u).1)=false:=by rw[←Bf];simpa using vH
    have q4:(x.bP==p)=true:=by simpa using vH
    have q5:(x.bP !=p)=false:=by simpa using vH
    clear YY U4;have rG:=Qh (show(if(iO (l.take (k+1)) x.aT s x.aH).2≠0 then(iO (l.take (k+1)) x.aT s x.aH).2 else iH l (k+1) (iO (l.take (k+1)) x.aT s x.aH).1 dg x.aT (l.drop (k+1)))=E by
     have:=FM.O;rw[if_neg (by simp),if_neg (by rintro(h|h);exact h pO;omega),if_neg (by simpa using vH)]at this;exact this)
    obtain⟨R,vT,hR⟩:∃R vT,iO (l.take (k+1)) x.aT s x.aH=(R,vT):=⟨_,_,rfl⟩;rw[hR]at rG;have HR:=Qh hR;clear vH MG pO FM hR;go_wp2_with fail
    generalize wr.heap.size=bx at nL jm jZ ⊢;clear c0 c1 c2 c3 c4 c5;go_loopw [69] (fun Zb wq=> ∃(j:Nat) (s':kC) (Aa FL:Value) (J':IH),j≤x.aH.length∧Zb= .int .i64 j∧iO (l.take (k+1)) x.aT s' (x.aH.drop j)=(R,vT)∧zi (30*k+j) s'∧oN 136 w.heap.size J' wq s' Aa FL∧Ext w.heap.size I J'∧mY wq bx x (.slice oe x.aH.length ce)∧(∀b c,J b=some c→J' b=some c)∧bx<wq.heap.size∧Below w.heap.size w wq) (fun i _=>x.aH.length-(intOf i).toNat)
    case atStart=>exact⟨0,s,vt,vh,J,Nat.zero_le _,rfl,HR.O,vS.O,rf.O,Hx.O,nL.O,fun _ _ h=>h,jm,aK⟩
    case round=>
     clear rf nL aK HR vS jm;obtain⟨j,s',Aa,FL,J',hj,rfl,hR,JQ,fO,hx,hB,fE,Zc,AA⟩:=hrel;have HR:=Qh hR;have vS:=Qh JQ;have bB:=Qh fO;have HB:=Qh hB;have Q9:=Qh hx;have Be:=Qh fE;have gK:Ok J' wr:=fO.ok;clear hR JQ fO hB hx fE;obtain⟨c0,c1,c2,c3,c4,c5⟩:=HB.O;by_cases Bi:j<x.aH.length
     ·obtain⟨y,YG,YH,b9,GX,Lj,iB,di,⟨x0,x1,x2,x3,x4,x5,x6⟩,h1,h2⟩:=oG (Li.O.mono Be.O) gK j Bi;cases di;obtain⟨xa,xc,rfl,_,_,_⟩:=id h1;obtain⟨xx,xd,rfl,_,_,_⟩:=id h2;obtain⟨t1,Jn,rfl,_,_,_⟩:=id bB.O.aJ;obtain⟨u1,Jo,rfl,_,_,_⟩:=id bB.O.holds;have gL:y∈x.aH:=by rw[←iB];exact List.getElem_mem Bi
      have Cc:=Qh ((Xug (L:=l.take (k+1)) (d:=x.aT) (s:=s') Bi iB).symm.trans HR.O);have uC:=Qh (bB.O.past (.cells #[.int .i64 y.ag,S y.af,.slice xa y.ai.length xc,S y.target,.int .i64 y.size,S y.aj,.slice xx y.ak.length xd] 26));have Mq:=Cb.O.af y gL;have U2:=Cb.O.target y gL;have tF:=Cb.O.ak y gL;have o9:=vS.O.ok.Bz;have FK:=vS.O.ok.hlen;have ik:=Qh (Xjx J' s' _ _ bB.O.aJ bB.O.holds vS.O.FH (by omega) vS.O.ok.holds (by omega) y _ _ h1 h2 (Cb.O.wf y gL) (by omega) (by omega) x.aT (wr.alloc (.cells #[.int .i64 y.ag,S y.af,.slice xa y.ai.length xc,S y.target,.int .i64 y.size,S y.aj,.slice xx y.ak.length xd] 26)) (gK.alloc _));have Et:=Qh (Ud vS.O y x.aT Mq U2);have Ra:=Qh (fun h=>Xx2 (s:=s') (d:=x.aT) (e:=y) h);have Jq:=Qh h2;obtain⟨s2,zl,oV⟩:∃s2 zl,dY s' y x.aT=(s2,zl):=⟨_,_,rfl⟩;rw[oV]at ik Cc Et Ra;have k0:=uC.O.c0;have k1:=uC.O.c1;have p1:=gD (.cells #[.int .i64 y.ag,S y.af,.slice xa y.ai.length xc,S y.target,.int .i64 y.size,S y.aj,.slice xx y.ak.length xd] 26) c1;have Zd:=bB.O.lt;have Ij:wr.heap.size≠w.heap.size:=by omega
      have LB:bx≠w.heap.size:=by omega
      have Ae:=AA.alloc AA.size (.cells #[.int .i64 y.ag,S y.af,.slice xa y.ai.length xc,S y.target,.int .i64 y.size,S y.aj,.slice xx y.ak.length xd] 26);have Rc:=Qh (HB.O.past (.cells #[.int .i64 y.ag,S y.af,.slice xa y.ai.length xc,S y.target,.int .i64 y.size,S y.aj,.slice xx y.ak.length xd] 26));clear iB h1 h2 gL o9 FK HR oV bB vS HB gK AA;go_wp2_with fail
      refine ik.O.mono ?_;rintro e3 w3 ⟨v3,v4,J3,rfl,bU,qW,bQ,EY,EZ⟩;have Ze:=Qh EY;have Zf:=Qh EZ;obtain⟨a3,d3,rfl,_,_,_⟩:=id EY;obtain⟨a4,d4,rfl,_,_,_⟩:=id EZ;have LC:=Qh ((bS (e:=y) rfl bU).past (.cells #[.slice a3 s2.aJ.length d3,.slice a4 s2.holds.length d4] 136));have mH:=Qh ((Rc.O.aA bU).past (.cells #[.slice a3 s2.aJ.length d3,.slice a4 s2.holds.length d4] 136));have Eu:=Qh ((uC.O.ext bU qW bQ).past (.cells #[.slice a3 s2.aJ.length d3,.slice a4 s2.holds.length d4] 136));have Af:=Ae.trans (bU.mono Ae.size);have oh:=Af.alloc Af.size (.cells #[.slice a3 s2.aJ.length d3,.slice a4 s2.holds.length d4] 136);have Ag:=Qh (qW.keep uC.O.ok (Qn _));have MH:wr.heap.size<w3.heap.size:=by have:=bU.size;simp at this;omega
      have Zg:=Qh (Q9.O.trans qW (by simp;omega));have n0:(w3.alloc (.cells #[.slice a3 s2.aJ.length d3,.slice a4 s2.holds.length d4] 136)).cell? ⟨w3.heap.size,0,none⟩=some (.slice a3 s2.aJ.length d3):=by simp
      have n1:(w3.alloc (.cells #[.slice a3 s2.aJ.length d3,.slice a4 s2.holds.length d4] 136)).cell? ⟨w3.heap.size,1,none⟩=some (.slice a4 s2.holds.length d4):=by simp
      clear c0 c1 c2 c3 c4 c5 x0 x1 x2 x3 x4 x5 x6 k0 k1 p1 bU qW bQ EY EZ ik uC Ae Rc Af;by_cases h3:zl=0;case neg=>
       have NQ:(zl !=0)=true:=by simpa using h3
       have Hn:=Qh (show E=zl by
        have h:=Cc.O;rw[if_pos h3]at h;have h2:vT=zl:=(Prod.mk.inj h).2.symm;have h4:=rG.O;rw[h2,if_pos h3]at h4;exact h4.symm)
       clear h3;go_wp2;go_ret;exact⟨bT Hn.O.symm,oh⟩
      subst h3;obtain⟨w4,Bg⟩:∃w4,w3.alloc (.cells #[.slice a3 s2.aJ.length d3,.slice a4 s2.holds.length d4] 136)=w4:=⟨_,rfl⟩;have dH:w3.heap.size<w4.heap.size:=by rw[←Bg];simp
      rw[Bg]at LC mH Eu oh n0 n1;have xe:=Qh n0;have yI:=Qh n1;obtain⟨x0,x1,x2,x3,x4,x5,x6⟩:=LC.O;go_wp2_with fail
      generalize w3.heap.size=nb at xe yI dH MH ⊢;clear Bg n0 n1 x0 x1 x2 x3 x4 x5 x6 LC;go_loopw [87] (fun s87 wq=> ∃q:Nat,q≤y.ak.length∧s87= .int .i64 q∧(y.ak.take q).all (pE (l.take (k+1)))=true∧Below w4.heap.size w4 wq) (fun i _=>y.ak.length-(intOf i).toNat)
      case atStart=>exact⟨0,Nat.zero_le _,rfl,rfl,Qb _ _⟩
      case round=>
       obtain⟨q,hq,rfl,aG,mo⟩:=hrel;have kK:=Qh aG;clear aG;have pQ:=Qh (Eu.O.below mo);have Ah:Ok J3 wr:=pQ.O.ok;by_cases Ce:q<y.ak.length
       ·obtain⟨z,bz,Zh,Zi,xw,di,z0,z1,z2⟩:=wo (Jq.O.mono Ag.O) Ah q Ce;cases di;obtain⟨b0,b1,b2,b3,b4,b5⟩:=Ra.O (by trivial) z (by rw[←xw];exact List.getElem_mem Ce);obtain⟨zs,zo,zn⟩:=z;dsimp only at b0 b1 b2 b3 b4 b5;have xy:=(oh.trans (mo.mono oh.size)).alloc (oh.trans (mo.mono oh.size)).size (.cells #[.int .i64 zs,.int .i64 zo,.int .i64 zn] 134);have xh:=mo.alloc mo.size (.cells #[.int .i64 zs,.int .i64 zo,.int .i64 zn] 134);by_cases lD:zs=0
        ·have e1:(zs !=0)=false:=by simpa using lD
         have e2:(zs==0)=true:=by simpa using lD
         have Hn:=Qh (Xlr (l:=l.take (k+1)) (x:=⟨zs,zo,zn⟩) lD);clear lD;have y0:=cell_regrown (show(wr.alloc (.cells #[.int .i64 zs,.int .i64 zo,.int .i64 zn] 134)).cell? ⟨wr.heap.size,0,none⟩=some (.int .i64 zs) by simp);have y1:=cell_regrown (show(wr.alloc (.cells #[.int .i64 zs,.int .i64 zo,.int .i64 zn] 134)).cell? ⟨wr.heap.size,1,none⟩=some (.int .i64 zo) by simp);have y2:=cell_regrown (show(wr.alloc (.cells #[.int .i64 zs,.int .i64 zo,.int .i64 zn] 134)).cell? ⟨wr.heap.size,2,none⟩=some (.int .i64 zn) by simp);have iQ:=Qh (Ut Ce xw kK.O Hn.O);clear xw;go_wp2_with fail
         refine wp_region_quiet_below (by kernel_rfl) (by kernel_rfl) ?_;repeat(go_big_quiet_step ((fail)))
         refine wpQuiet_nil ?_;intro w6 bg;have fF:Below ((wr.alloc (.cells #[.int .i64 zs,.int .i64 zo,.int .i64 zn] 134))).heap.size ((wr.alloc (.cells #[.int .i64 zs,.int .i64 zo,.int .i64 zn] 134))) w6:=by
          obtain⟨pq,rfl⟩:=bg;exact below_regrown _ _ _
         clear bg;go_wp2;go_roundw;case rel=>exact⟨q+1,by omega,by go_num,iQ.O,xh.trans (fF.mono (by have:=xh.size;omega))⟩
         case measure=>simp[intOf];omega
        have e1:(zs !=0)=true:=by simpa using lD
        have e2:(zs==0)=false:=by simpa using lD
        by_cases G6:(k:Int)+1<zs
        ·have e3:decide ((k:Int)+1<zs)=true:=Qt G6;have Hn:=Qh (Xgq (x:=⟨zs,zo,zn⟩) hlt lD G6);have y0:=cell_regrown (show(wr.alloc (.cells #[.int .i64 zs,.int .i64 zo,.int .i64 zn] 134)).cell? ⟨wr.heap.size,0,none⟩=some (.int .i64 zs) by simp);have y1:=cell_regrown (show(wr.alloc (.cells #[.int .i64 zs,.int .i64 zo,.int .i64 zn] 134)).cell? ⟨wr.heap.size,1,none⟩=some (.int .i64 zo) by simp);have y2:=cell_regrown (show(wr.alloc (.cells #[.int .i64 zs,.int .i64 zo,.int .i64 zn] 134)).cell? ⟨wr.heap.size,2,none⟩=some (.int .i64 zn) by simp);clear lD G6;have iQ:=Qh (show E=2 by
          have h:=Cc.O;rw[if_neg (by simp),if_pos (show lS (l.take (k+1)) y=false from Uu Ce xw Hn.O)]at h;have h2:vT=2:=(Prod.mk.inj h).2.symm;have h4:=rG.O;rw[h2,if_pos (by decide)]at h4;exact h4.symm)
         clear xw;go_wp2_with fail
         refine wp_region_quiet_below (by kernel_rfl) (by kernel_rfl) ?_;repeat(go_big_quiet_step ((fail)))
         refine wpQuiet_nil ?_;intro w6 bg;have fF:Below ((wr.alloc (.cells #[.int .i64 zs,.int .i64 zo,.int .i64 zn] 134))).heap.size ((wr.alloc (.cells #[.int .i64 zs,.int .i64 zo,.int .i64 zn] 134))) w6:=by
          obtain⟨pq,rfl⟩:=bg;exact below_regrown _ _ _
         clear bg;go_wp2;go_ret;exact⟨bT iQ.O.symm,xy.trans (fF.mono xy.size)⟩
        obtain⟨m,hm⟩:∃m:Nat,zs=(m:Int)+1:=⟨(zs-1).toNat,by omega⟩;subst hm;have iL:m≤k:=by omega
        obtain⟨u,vu,bu,Re,Rf,zY,di,⟨s0,s1,s2',s3,s4,s5⟩,h1⟩:=Jc ((Uv.O.mono Be.O).mono Ag.O) (Ah.alloc (.cells #[.int .i64 ((m:Int)+1),.int .i64 zo,.int .i64 zn] 134)) m (by omega);cases di;have sQ:=Xhq (x:=⟨(m:Int)+1,zo,zn⟩) hlt iL zY rfl;have e3:decide ((k:Int)+1<(m:Int)+1)=false:=Qf (by omega);have e3a:decide ((k:Int)<(m:Int))=false:=Qf (by omega);have e3b:decide (k<m)=false:=Qf (by omega);have IP:=(Hg.O u (by rw[←zY];exact List.getElem_mem _)).aI;have m8:IntKind.i64.wrap ((u.aI.length:Int)-zo)=(u.aI.length:Int)-zo:=IntWalk.i64_in _ (by omega);have m9:wrap64 ((u.aI.length:Int)-zo)=(u.aI.length:Int)-zo:=by unfold wrap64;omega
        have hi:(m:Int)<l.length:=by omega
        have g4:=cell_regrown s4;have y0:=cell_regrown (show(wr.alloc (.cells #[.int .i64 ((m:Int)+1),.int .i64 zo,.int .i64 zn] 134)).cell? ⟨wr.heap.size,0,none⟩=some (.int .i64 ((m:Int)+1)) by simp);have y1:=cell_regrown (show(wr.alloc (.cells #[.int .i64 ((m:Int)+1),.int .i64 zo,.int .i64 zn] 134)).cell? ⟨wr.heap.size,1,none⟩=some (.int .i64 zo) by simp);have y2:=cell_regrown (show(wr.alloc (.cells #[.int .i64 ((m:Int)+1),.int .i64 zo,.int .i64 zn] 134)).cell? ⟨wr.heap.size,2,none⟩=some (.int .i64 zn) by simp);clear lD G6 zY s0 s1 s2' s3 s4 s5 h1;obtain⟨zs,EQ⟩:∃zs,zs=(m:Int)+1:=⟨_,rfl⟩;by_cases lW:zo+zn≤(u.aI.length:Int)
        ·have Hn:=Qh (show pE (l.take (k+1)) ⟨(m:Int)+1,zo,zn⟩=true by rw[sQ];exact Qt lW);have e4:decide ((u.aI.length:Int)<zo)=false:=Qf (by omega);have e5:decide ((u.aI.length:Int)-zo<zn)=false:=Qf (by omega);clear sQ lW;subst EQ;have iQ:=Qh (Ut Ce xw kK.O Hn.O);clear xw;go_wp2_with fail
         refine wp_region_quiet_below (by kernel_rfl) (by kernel_rfl) ?_;repeat(go_big_quiet_step ((fail)))
         refine wpQuiet_nil ?_;intro w6 bg;have fF:Below ((wr.alloc (.cells #[.int .i64 ((m:Int)+1),.int .i64 zo,.int .i64 zn] 134))).heap.size ((wr.alloc (.cells #[.int .i64 ((m:Int)+1),.int .i64 zo,.int .i64 zn] 134))) w6:=by
          obtain⟨pq,rfl⟩:=bg;exact below_regrown _ _ _
         clear bg;go_wp2;go_roundw;case rel=>exact⟨q+1,by omega,by go_num,iQ.O,xh.trans (fF.mono (by have:=xh.size;omega))⟩
         case measure=>simp[intOf];omega
        ·have Hn:=Qh (show pE (l.take (k+1)) ⟨(m:Int)+1,zo,zn⟩=false by rw[sQ];exact Qf lW);have iQ:=Qh (show E=2 by
          have h:=Cc.O;rw[if_neg (by simp),if_pos (show lS (l.take (k+1)) y=false from Uu Ce xw Hn.O)]at h;have h2:vT=2:=(Prod.mk.inj h).2.symm;have h4:=rG.O;rw[h2,if_pos (by decide)]at h4;exact h4.symm)
         clear sQ xw;subst EQ;by_cases CB:(u.aI.length:Int)<zo
         ·have e4:decide ((u.aI.length:Int)<zo)=true:=Qt CB;clear lW;go_wp2_with fail
          refine wp_region_quiet_below (by kernel_rfl) (by kernel_rfl) ?_;repeat(go_big_quiet_step ((fail)))
          refine wpQuiet_nil ?_;intro w6 bg;have fF:Below ((wr.alloc (.cells #[.int .i64 ((m:Int)+1),.int .i64 zo,.int .i64 zn] 134))).heap.size ((wr.alloc (.cells #[.int .i64 ((m:Int)+1),.int .i64 zo,.int .i64 zn] 134))) w6:=by
           obtain⟨pq,rfl⟩:=bg;exact below_regrown _ _ _
          clear bg;go_wp2;go_ret;exact⟨bT iQ.O.symm,xy.trans (fF.mono xy.size)⟩
         ·have e4:decide ((u.aI.length:Int)<zo)=false:=Qf CB;have e5:decide ((u.aI.length:Int)-zo<zn)=true:=Qt (by omega);clear lW;go_wp2_with fail
          refine wp_region_quiet_below (by kernel_rfl) (by kernel_rfl) ?_;repeat(go_big_quiet_step ((fail)))
          refine wpQuiet_nil ?_;intro w6 bg;have fF:Below ((wr.alloc (.cells #[.int .i64 ((m:Int)+1),.int .i64 zo,.int .i64 zn] 134))).heap.size ((wr.alloc (.cells #[.int .i64 ((m:Int)+1),.int .i64 zo,.int .i64 zn] 134))) w6:=by
           obtain⟨pq,rfl⟩:=bg;exact below_regrown _ _ _
          clear bg;go_wp2;go_ret;exact⟨bT iQ.O.symm,xy.trans (fF.mono xy.size)⟩
       ·have Hn:=Qh (show iO (l.take (k+1)) x.aT s2 (x.aH.drop (j+1))=(R,vT) by
         have h:=Cc.O;have ha:=kK.O;rw[List.take_of_length_le (by omega)]at ha;rw[if_neg (by simp),if_neg (by rw[show lS (l.take (k+1)) y=true from ha];simp)]at h;exact h)
        have LD:=Qh (pQ.O.set (s':=s2) Ze.O Zf.O);have r0:=pQ.O.c0;have r1:=pQ.O.c1;have f0:=pQ.O.f0;have f1:=pQ.O.f1;have n0:=dQ mo xe.O;have n1:=dQ mo yI.O;have Zj:=Qh ((mH.O.aA mo).set2 (u:=(.slice a3 s2.aJ.length d3)) (v:=(.slice a4 s2.holds.length d4)) LB);have Ik:=((oh.trans (mo.mono oh.size)).setCell (p:=⟨w.heap.size,0,none⟩) (Qn _) (.slice a3 s2.aJ.length d3)).setCell (p:=⟨w.heap.size,1,none⟩) (Qn _) (.slice a4 s2.holds.length d4);have aaI:=mo.size;clear pQ Ah Cc kK;go_wp2;go_roundw;case rel=>exact⟨j+1,s2,_,_,J3,by omega,by go_num,Hn.O,Et.O,LD.O,Zg.O,Zj.O,fun b c h=>Ag.O b c (Be.O b c h),by simp;omega,Ik⟩
        case measure=>simp[intOf];omega
     ·have lF:(s',(0:Int))=(R,vT):=by have:=HR.O;rwa[List.drop_of_length_le (by omega)]at this
      obtain⟨rfl,rfl⟩:=Prod.mk.inj lF;have Hn:=Qh (show iH l (k+1) s' dg x.aT (l.drop (k+1))=E by have:=rG.O;rwa[if_neg (by simp)]at this);clear lF HR rG;go_wp2;go_roundw;case rel=>exact⟨k+1,s',_,_,J',dg,x.aT,by omega,by go_num,Hn.O,Hpd.O,vS.O.mono (by omega),bB.O,Q9.O,AA⟩
      case measure=>simp[intOf];omega
  ·have Hn:=Qh (show E=0 by have:=Y8.O;rw[List.drop_of_length_le (by omega)]at this;rw[←this];rfl);go_wp2;go_ret;exact⟨bT Hn.O.symm,hb⟩
