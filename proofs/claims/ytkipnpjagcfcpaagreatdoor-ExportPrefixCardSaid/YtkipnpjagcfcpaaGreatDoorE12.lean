/- Lemmas for the claim's theorem;conditions: as each says. -/
import Derived.Test.YtkipnpjagcfcpaaGreatDoorE11
set_option maxHeartbeats 0
set_option maxRecDepth 100000
set_option linter.all false
namespace Go.Proofs.YtkipnpjagcfcpaaGreatDoor
open Go.RowKit
variable{l:List bR}{k:Nat}{α:Type}{p:α→Bool}{x:α}
def PD(l:List bR)(k:Nat)(p:ae)(d:Int):Prop:=
 (k=0∧p=[]∧d=0)∨ ∃(m:Nat) (h:m<l.length) (y:bR),k=m+1∧l[m]=y∧p=(eD y).1∧d=y.aN∧(eD y).2=0
theorem U2{l:List α}(hk:k<l.length)(hx:l[k]=x)(h1:(l.take k).all p=true)(h2:p x=true):(l.take (k+1)).all p=true:=by
 rw[List.take_succ_eq_append_getElem hk,hx,List.all_append,h1];simp[h2]
theorem U3{l:List α}(hk:k<l.length)(hx:l[k]=x)(h:p x=false):l.all p=false:=by
 cases ha:l.all p with
 |false=>rfl
 |true=>
  have:=List.all_eq_true.1 ha x (by rw[←hx];exact List.getElem_mem hk);rw[h]at this;cases this
theorem Xgs{x:Xt}(hk:k<l.length)(h0:x.s≠0)(h:(k:Int)+1<x.s):mU (l.take (k+1)) x=false:=
 Xup h0 (by rw[List.length_take];omega)
theorem Xhu{x:Xt}{m:Nat}(hk:k<l.length)(hm:m≤k){y:bR}(hy:l[m]'(by omega)=y)(h:x.s=(m:Int)+1):mU (l.take (k+1)) x=decide (x.o+x.n≤(y.aH.length:Int)):=
 Xw3 (l:=l.take (k+1)) (k:=m) (by rw[List.length_take];omega) (by rw[List.getElem_take];exact hy) h
theorem Xn0(I:IH)(v:Value)(l:List bR)(hv:bf lL I v l)(hg:∀x∈l,jA x)(hn:l.length≤1000)(w:World)(hw:Ok I w):
 Calls Tryz.prog 19 #[v] w fun r w'=>r= .returned (.int .i64 (wX l))∧Below w.heap.size w w':=by
 obtain⟨ao,cap,rfl,dO,iR,_⟩:=id hv;have Hv:=Qh hv;have Hg:=Qh hg;obtain⟨E,hE⟩:∃E,wX l=E:=⟨_,rfl⟩;have HE:=Qh (show eO l 0 lF [] 0 (l.drop 0)=E from hE);have H0:=Qh (o9.new (T:=106) hw rfl);rw[hE];clear hv hg hE;go_enter Tryz.func19,Tryz.ntmps19
 go_wp2_with fail
 go_loopw [18] (fun s18 wr=> ∃(k:Nat) (s:jI) (vt vh:Value) (J:IH) (p:ae) (d:Int),k≤l.length∧s18= .int .i64 k∧eO l k s p d (l.drop k)=E∧PD l k p d∧zD (30*k) s∧o9 106 w.heap.size J wr s vt vh∧Ext w.heap.size I J∧Below w.heap.size w wr) (fun i _=>l.length-(intOf i).toNat)
 case atStart=>exact⟨0,lF,_,_,I,[],0,Nat.zero_le _,rfl,HE.O,.inl ⟨rfl,rfl,rfl⟩,YA,H0.O,Ext.refl _ _,(Qb _ _).alloc (Qn _) _⟩
 case round=>
  clear H0 HE;obtain⟨k,s,vt,vh,J,p,d,hk,rfl,hce,RQ,CZ,gB,hx,hb⟩:=hrel;have Zy:=Qh hce;have sP:=Qh CZ;have bB:=Qh gB;have Hx:=Qh hx;have Zz:=Qh RQ;have sW:Ok J wr:=gB.ok;have kF:=gB.lt;have IL:=Qh (Hv.O.mono (hx.keep hw (Qn _)));clear hce CZ gB hx RQ;by_cases hlt:k<l.length
  ·obtain⟨x,ve,b,off,cap',bH,dn,⟨c0,c1,c2,c3,c4,c5⟩,h1⟩:=Dl IL.O sW k hlt;cases dn;obtain⟨oe,ce,rfl,_,_,_⟩:=id h1;have CB:=Qh (Hg.O x (by rw[←bH];exact List.getElem_mem hlt));have Gn:=Qh ((Xy9 (l0:=l) (s:=s) (aW:=p) (aN:=d) hlt bH).symm.trans Zy.O);have LD:=Qh h1;have L8:=Qh (Xgw J x _ h1 CB.O (wr.alloc (.cells #[.int .i64 x.num,.int .i64 x.aN,S x.aW,.slice oe x.ay.length ce,S x.aH,S x.sl] 62)) (sW.alloc _));have Vu:=Qh (fun h=>TR (PH (Xm4 (s:=x) h).1).1);have RS:=Qh (fun h:(eD x).2=0=>show PD l (k+1) (eD x).1 x.aN from .inr ⟨k,hlt,x,rfl,bH,rfl,rfl,h⟩);have LB:=CB.O.mi;obtain⟨dg,er,OC⟩:∃dg er,eD x=(dg,er):=⟨_,_,rfl⟩;rw[OC]at L8 Gn Vu RS;clear bH h1 Zy OC;go_wp2_with fail
   refine L8.O.mono ?_;rintro e1 w1 ⟨rfl,au⟩;have iq:=Qh (xz (s:=x) rfl au);have EW:=Qh ((bB.O.past (.cells #[.int .i64 x.num,.int .i64 x.aN,S x.aW,.slice oe x.ay.length ce,S x.aH,S x.sl] 62)).below au);have av:Below w.heap.size w w1:=(hb.alloc hb.size (.cells #[.int .i64 x.num,.int .i64 x.aN,S x.aW,.slice oe x.ay.length ce,S x.aH,S x.sl] 62)).trans (au.mono (by have:=hb.size;simp;omega));have FE:wr.heap.size<w1.heap.size:=by have:=au.size;simp at this;omega
   clear au L8 bB c0 c1 c2 c3 c4 c5 sW hb;obtain⟨c0,c1,c2,c3,c4,c5⟩:=iq.O;by_cases he:er=0;case neg=>
    have Hn:=Qh (show E=er by have:=Gn.O;rw[if_pos he]at this;exact this.symm);have Sl:(er !=0)=true:=by simpa using he
    clear he;go_wp2;go_ret;exact⟨bP Hn.O.symm,av⟩
   subst he;have Zd:=Vu.O rfl;have Hpd:=Qh (RS.O rfl);have g0:=cell_regrown c0;have g1:=cell_regrown c1;by_cases pU:x.num=(k:Int)+1;case neg=>
    have Hn:=Qh (show E=14 by have:=Gn.O;rw[if_neg (by simp),if_pos (.inl pU)]at this;exact this.symm);have q1:(x.num !=(k:Int)+1)=true:=by simpa using pU
    have q2:(x.num==(k:Int)+1)=false:=by simpa using pU
    clear pU;go_wp2_with fail
    refine wp_region_quiet_below (by kernel_rfl) (by kernel_rfl) ?_;repeat(go_big_quiet_step ((fail)))
    refine wpQuiet_nil ?_;intro w2 bg;have aF:Below (w1).heap.size (w1) w2:=by
     obtain⟨pq,rfl⟩:=bg;exact below_regrown _ _ _
    clear bg;go_wp2;go_ret;exact⟨bP Hn.O.symm,av.trans (aF.mono av.size)⟩
   have q1:(x.num !=(k:Int)+1)=false:=by simpa using pU
   have q2:(x.num==(k:Int)+1)=true:=by simpa using pU
   rcases Zz.O with⟨rM,BG,OM⟩|⟨m,RU,u,hkm,xD,BG,OM,hdu⟩
   ·have Ng:¬x.aN<d:=by omega
    have i0:decide ((0:Int)<(k:Int))=false:=Qf (by omega);have i1:decide (0<k)=false:=Qf (by omega);clear rM;go_wp2_with fail
    refine wp_region_quiet_below (by kernel_rfl) (by kernel_rfl) ?_;repeat(go_big_quiet_step ((fail)))
    refine wpQuiet_nil ?_;intro w2 bg;have aF:Below (w1).heap.size (w1) w2:=by
     obtain⟨pq,rfl⟩:=bg;exact below_regrown _ _ _
    clear bg;have oh:=Qh (iq.O.aA aF);have iy:=Qh (EW.O.below aF);have aL:=av.trans (aF.mono av.size);have kH:wr.heap.size<w2.heap.size:=by have:=aF.size;omega
    clear aF av iq EW g0 g1 c0 c1 c2 c3 c4 c5 q1 q2 FE;obtain⟨c0,c1,c2,c3,c4,c5⟩:=oh.O;by_cases vQ:x.aW=p;case neg=>
     have Hn:=Qh (show E=20 by have:=Gn.O;rw[if_neg (by simp),if_neg (by rintro(h|h);exact h pU;omega),if_pos vQ]at this;exact this.symm);obtain⟨p1,p2,p3,p4⟩:=Bc (show x.aW≠[] by rw[←BG];exact vQ);clear vQ Ng pU;go_wp2;go_ret;exact⟨bP Hn.O.symm,aL⟩
    obtain⟨p1,p2,p3,p4⟩:=De (show x.aW=[] by rw[←BG];exact vQ);clear Zd Vu;have rJ:=Qh (show(if(ib (l.take (k+1)) x.aN s x.ay).2≠0 then(ib (l.take (k+1)) x.aN s x.ay).2 else eO l (k+1) (ib (l.take (k+1)) x.aN s x.ay).1 dg x.aN (l.drop (k+1)))=E by
     have:=Gn.O;rw[if_neg (by simp),if_neg (by rintro(h|h);exact h pU;omega),if_neg (by simpa using vQ)]at this;exact this)
    obtain⟨R,za,hR⟩:∃R za,ib (l.take (k+1)) x.aN s x.ay=(R,za):=⟨_,_,rfl⟩;rw[hR]at rJ;have HR:=Qh hR;clear vQ Ng pU Gn hR;go_wp2_with fail
    generalize wr.heap.size=bx at oh kH kF ⊢;clear c0 c1 c2 c3 c4 c5;go_loopw [69] (fun ZA wq=> ∃(j:Nat) (s':jI) (Al Gl:Value) (J':IH),j≤x.ay.length∧ZA= .int .i64 j∧ib (l.take (k+1)) x.aN s' (x.ay.drop j)=(R,za)∧zD (30*k+j) s'∧o9 106 w.heap.size J' wq s' Al Gl∧Ext w.heap.size I J'∧nC wq bx x (.slice oe x.ay.length ce)∧(∀b c,J b=some c→J' b=some c)∧bx<wq.heap.size∧Below w.heap.size w wq) (fun i _=>x.ay.length-(intOf i).toNat)
    case atStart=>exact⟨0,s,vt,vh,J,Nat.zero_le _,rfl,HR.O,sP.O,iy.O,Hx.O,oh.O,fun _ _ h=>h,kH,aL⟩
    case round=>
     clear iy oh aL HR sP kH;obtain⟨j,s',Al,Gl,J',hj,rfl,hR,CZ,gB,hx,hB,fJ,ZB,AY⟩:=hrel;have HR:=Qh hR;have sP:=Qh CZ;have bB:=Qh gB;have HB:=Qh hB;have RV:=Qh hx;have BC:=Qh fJ;have gG:Ok J' wr:=gB.ok;clear hR CZ gB hB hx fJ;obtain⟨c0,c1,c2,c3,c4,c5⟩:=HB.O;by_cases tq:j<x.ay.length
     ·obtain⟨y,YY,YZ,b9,Iy,LF,iH,dn,⟨x0,x1,x2,x3,x4,x5,x6⟩,h1,h2⟩:=qi (LD.O.mono BC.O) gG j tq;cases dn;obtain⟨xa,xc,rfl,_,_,_⟩:=id h1;obtain⟨xx,xd,rfl,_,_,_⟩:=id h2;obtain⟨t1,JL,rfl,_,_,_⟩:=id bB.O.aI;obtain⟨u1,JM,rfl,_,_,_⟩:=id bB.O.holds;have gX:y∈x.ay:=by rw[←iH];exact List.getElem_mem tq
      have CF:=Qh ((Xtp (L:=l.take (k+1)) (d:=x.aN) (s:=s') tq iH).symm.trans HR.O);have uK:=Qh (bB.O.past (.cells #[.int .i64 y.ai,S y.af,.slice xa y.ag.length xc,S y.target,.int .i64 y.size,S y.aj,.slice xx y.ak.length xd] 35));have MN:=CB.O.af y gX;have Vt:=CB.O.target y gX;have xI:=CB.O.ak y gX;have pF:=sP.O.ok.BX;have Cx:=sP.O.ok.hlen;have iG:=Qh (Xjq J' s' _ _ bB.O.aI bB.O.holds sP.O.JH (by omega) sP.O.ok.holds (by omega) y _ _ h1 h2 (CB.O.wf y gX) (by omega) (by omega) x.aN (wr.alloc (.cells #[.int .i64 y.ai,S y.af,.slice xa y.ag.length xc,S y.target,.int .i64 y.size,S y.aj,.slice xx y.ak.length xd] 35)) (gG.alloc _));have EX:=Qh (UE sP.O y x.aN MN Vt);have RX:=Qh (fun h=>Xwv (s:=s') (d:=x.aN) (e:=y) h);have ZC:=Qh h2;obtain⟨s2,zG,pX⟩:∃s2 zG,dY s' y x.aN=(s2,zG):=⟨_,_,rfl⟩;rw[pX]at iG CF EX RX;have k0:=uK.O.c0;have k1:=uK.O.c1;have p1:=fP (.cells #[.int .i64 y.ai,S y.af,.slice xa y.ag.length xc,S y.target,.int .i64 y.size,S y.aj,.slice xx y.ak.length xd] 35) c1;have ZE:=bB.O.lt;have aaV:wr.heap.size≠w.heap.size:=by omega
      have L9:bx≠w.heap.size:=by omega
      have Aq:=AY.alloc AY.size (.cells #[.int .i64 y.ai,S y.af,.slice xa y.ag.length xc,S y.target,.int .i64 y.size,S y.aj,.slice xx y.ak.length xd] 35);have RY:=Qh (HB.O.past (.cells #[.int .i64 y.ai,S y.af,.slice xa y.ag.length xc,S y.target,.int .i64 y.size,S y.aj,.slice xx y.ak.length xd] 35));clear iH h1 h2 gX pF Cx HR pX bB sP HB gG AY;go_wp2_with fail
      refine iG.O.mono ?_;rintro e3 w3 ⟨v3,v4,J3,rfl,cO,rO,bN,FH,FI⟩;have ZF:=Qh FH;have ZG:=Qh FI;obtain⟨a3,d3,rfl,_,_,_⟩:=id FH;obtain⟨a4,d4,rfl,_,_,_⟩:=id FI;have Ma:=Qh ((cB (e:=y) rfl cO).past (.cells #[.slice a3 s2.aI.length d3,.slice a4 s2.holds.length d4] 106));have ng:=Qh ((RY.O.aA cO).past (.cells #[.slice a3 s2.aI.length d3,.slice a4 s2.holds.length d4] 106));have xE:=Qh ((uK.O.ext cO rO bN).past (.cells #[.slice a3 s2.aI.length d3,.slice a4 s2.holds.length d4] 106));have Ar:=Aq.trans (cO.mono Aq.size);have oH:=Ar.alloc Ar.size (.cells #[.slice a3 s2.aI.length d3,.slice a4 s2.holds.length d4] 106);have Au:=Qh (rO.keep uK.O.ok (Qn _));have Nh:wr.heap.size<w3.heap.size:=by have:=cO.size;simp at this;omega
      have ZH:=Qh (RV.O.trans rO (by simp;omega));have n0:(w3.alloc (.cells #[.slice a3 s2.aI.length d3,.slice a4 s2.holds.length d4] 106)).cell? ⟨w3.heap.size,0,none⟩=some (.slice a3 s2.aI.length d3):=by simp
      have n1:(w3.alloc (.cells #[.slice a3 s2.aI.length d3,.slice a4 s2.holds.length d4] 106)).cell? ⟨w3.heap.size,1,none⟩=some (.slice a4 s2.holds.length d4):=by simp
      clear c0 c1 c2 c3 c4 c5 x0 x1 x2 x3 x4 x5 x6 k0 k1 p1 cO rO bN FH FI iG uK Aq RY Ar;by_cases h3:zG=0;case neg=>
       have Om:(zG !=0)=true:=by simpa using h3
       have Hn:=Qh (show E=zG by
        have h:=CF.O;rw[if_pos h3]at h;have h2:za=zG:=(Prod.mk.inj h).2.symm;have h4:=rJ.O;rw[h2,if_pos h3]at h4;exact h4.symm)
       clear h3;go_wp2;go_ret;exact⟨bP Hn.O.symm,oH⟩
      subst h3;obtain⟨w4,BH⟩:∃w4,w3.alloc (.cells #[.slice a3 s2.aI.length d3,.slice a4 s2.holds.length d4] 106)=w4:=⟨_,rfl⟩;have dF:w3.heap.size<w4.heap.size:=by rw[←BH];simp
      rw[BH]at Ma ng xE oH n0 n1;have qV:=Qh n0;have yT:=Qh n1;obtain⟨x0,x1,x2,x3,x4,x5,x6⟩:=Ma.O;go_wp2_with fail
      generalize w3.heap.size=nb at qV yT dF Nh ⊢;clear BH n0 n1 x0 x1 x2 x3 x4 x5 x6 Ma;go_loopw [87] (fun s87 wq=> ∃q:Nat,q≤y.ak.length∧s87= .int .i64 q∧(y.ak.take q).all (mU (l.take (k+1)))=true∧Below w4.heap.size w4 wq) (fun i _=>y.ak.length-(intOf i).toNat)
      case atStart=>exact⟨0,Nat.zero_le _,rfl,rfl,Qb _ _⟩
      case round=>
       obtain⟨q,hq,rfl,aB,mM⟩:=hrel;have kW:=Qh aB;clear aB;have pV:=Qh (xE.O.below mM);have Av:Ok J3 wr:=pV.O.ok;by_cases CG:q<y.ak.length
       ·obtain⟨z,bz,ZI,ZJ,xO,dn,z0,z1,z2⟩:=uZ (ZC.O.mono Au.O) Av q CG;cases dn;obtain⟨b0,b1,b2,b3,b4,b5⟩:=RX.O (by trivial) z (by rw[←xO];exact List.getElem_mem CG);obtain⟨zs,zo,zn⟩:=z;dsimp only at b0 b1 b2 b3 b4 b5;have C7:=(oH.trans (mM.mono oH.size)).alloc (oH.trans (mM.mono oH.size)).size (.cells #[.int .i64 zs,.int .i64 zo,.int .i64 zn] 110);have xG:=mM.alloc mM.size (.cells #[.int .i64 zs,.int .i64 zo,.int .i64 zn] 110);by_cases jY:zs=0
        ·have e1:(zs !=0)=false:=by simpa using jY
         have e2:(zs==0)=true:=by simpa using jY
         have Hn:=Qh (Xlf (l:=l.take (k+1)) (x:=⟨zs,zo,zn⟩) jY);clear jY;have y0:=cell_regrown (show(wr.alloc (.cells #[.int .i64 zs,.int .i64 zo,.int .i64 zn] 110)).cell? ⟨wr.heap.size,0,none⟩=some (.int .i64 zs) by simp);have y1:=cell_regrown (show(wr.alloc (.cells #[.int .i64 zs,.int .i64 zo,.int .i64 zn] 110)).cell? ⟨wr.heap.size,1,none⟩=some (.int .i64 zo) by simp);have y2:=cell_regrown (show(wr.alloc (.cells #[.int .i64 zs,.int .i64 zo,.int .i64 zn] 110)).cell? ⟨wr.heap.size,2,none⟩=some (.int .i64 zn) by simp);have jF:=Qh (U2 CG xO kW.O Hn.O);clear xO;go_wp2_with fail
         refine wp_region_quiet_below (by kernel_rfl) (by kernel_rfl) ?_;repeat(go_big_quiet_step ((fail)))
         refine wpQuiet_nil ?_;intro w6 bg;have gp:Below ((wr.alloc (.cells #[.int .i64 zs,.int .i64 zo,.int .i64 zn] 110))).heap.size ((wr.alloc (.cells #[.int .i64 zs,.int .i64 zo,.int .i64 zn] 110))) w6:=by
          obtain⟨pq,rfl⟩:=bg;exact below_regrown _ _ _
         clear bg;go_wp2;go_roundw;case rel=>exact⟨q+1,by omega,by go_num,jF.O,xG.trans (gp.mono (by have:=xG.size;omega))⟩
         case measure=>simp[intOf];omega
        have e1:(zs !=0)=true:=by simpa using jY
        have e2:(zs==0)=false:=by simpa using jY
        by_cases IM:(k:Int)+1<zs
        ·have e3:decide ((k:Int)+1<zs)=true:=Qt IM;have Hn:=Qh (Xgs (x:=⟨zs,zo,zn⟩) hlt jY IM);have y0:=cell_regrown (show(wr.alloc (.cells #[.int .i64 zs,.int .i64 zo,.int .i64 zn] 110)).cell? ⟨wr.heap.size,0,none⟩=some (.int .i64 zs) by simp);have y1:=cell_regrown (show(wr.alloc (.cells #[.int .i64 zs,.int .i64 zo,.int .i64 zn] 110)).cell? ⟨wr.heap.size,1,none⟩=some (.int .i64 zo) by simp);have y2:=cell_regrown (show(wr.alloc (.cells #[.int .i64 zs,.int .i64 zo,.int .i64 zn] 110)).cell? ⟨wr.heap.size,2,none⟩=some (.int .i64 zn) by simp);clear jY IM;have jF:=Qh (show E=2 by
          have h:=CF.O;rw[if_neg (by simp),if_pos (show gP (l.take (k+1)) y=false from U3 CG xO Hn.O)]at h;have h2:za=2:=(Prod.mk.inj h).2.symm;have h4:=rJ.O;rw[h2,if_pos (by decide)]at h4;exact h4.symm)
         clear xO;go_wp2_with fail
         refine wp_region_quiet_below (by kernel_rfl) (by kernel_rfl) ?_;repeat(go_big_quiet_step ((fail)))
         refine wpQuiet_nil ?_;intro w6 bg;have gp:Below ((wr.alloc (.cells #[.int .i64 zs,.int .i64 zo,.int .i64 zn] 110))).heap.size ((wr.alloc (.cells #[.int .i64 zs,.int .i64 zo,.int .i64 zn] 110))) w6:=by
          obtain⟨pq,rfl⟩:=bg;exact below_regrown _ _ _
         clear bg;go_wp2;go_ret;exact⟨bP jF.O.symm,C7.trans (gp.mono C7.size)⟩
        obtain⟨m,hm⟩:∃m:Nat,zs=(m:Int)+1:=⟨(zs-1).toNat,by omega⟩;subst hm;have iO:m≤k:=by omega
        obtain⟨u,vu,bu,Lv,Lx,xD,dn,⟨s0,s1,s2',s3,s4,s5⟩,h1⟩:=Dl ((IL.O.mono BC.O).mono Au.O) (Av.alloc (.cells #[.int .i64 ((m:Int)+1),.int .i64 zo,.int .i64 zn] 110)) m (by omega);cases dn;have yf:=Xhu (x:=⟨(m:Int)+1,zo,zn⟩) hlt iO xD rfl;have e3:decide ((k:Int)+1<(m:Int)+1)=false:=Qf (by omega);have e3a:decide ((k:Int)<(m:Int))=false:=Qf (by omega);have e3b:decide (k<m)=false:=Qf (by omega);have GX:=(Hg.O u (by rw[←xD];exact List.getElem_mem _)).aH;have m8:IntKind.i64.wrap ((u.aH.length:Int)-zo)=(u.aH.length:Int)-zo:=IntWalk.i64_in _ (by omega);have m9:wrap64 ((u.aH.length:Int)-zo)=(u.aH.length:Int)-zo:=by unfold wrap64;omega
        have hi:(m:Int)<l.length:=by omega
        have g4:=cell_regrown s4;have y0:=cell_regrown (show(wr.alloc (.cells #[.int .i64 ((m:Int)+1),.int .i64 zo,.int .i64 zn] 110)).cell? ⟨wr.heap.size,0,none⟩=some (.int .i64 ((m:Int)+1)) by simp);have y1:=cell_regrown (show(wr.alloc (.cells #[.int .i64 ((m:Int)+1),.int .i64 zo,.int .i64 zn] 110)).cell? ⟨wr.heap.size,1,none⟩=some (.int .i64 zo) by simp);have y2:=cell_regrown (show(wr.alloc (.cells #[.int .i64 ((m:Int)+1),.int .i64 zo,.int .i64 zn] 110)).cell? ⟨wr.heap.size,2,none⟩=some (.int .i64 zn) by simp);clear jY IM xD s0 s1 s2' s3 s4 s5 h1;obtain⟨zs,Fv⟩:∃zs,zs=(m:Int)+1:=⟨_,rfl⟩;by_cases kD:zo+zn≤(u.aH.length:Int)
        ·have Hn:=Qh (show mU (l.take (k+1)) ⟨(m:Int)+1,zo,zn⟩=true by rw[yf];exact Qt kD);have e4:decide ((u.aH.length:Int)<zo)=false:=Qf (by omega);have e5:decide ((u.aH.length:Int)-zo<zn)=false:=Qf (by omega);clear yf kD;subst Fv;have jF:=Qh (U2 CG xO kW.O Hn.O);clear xO;go_wp2_with fail
         refine wp_region_quiet_below (by kernel_rfl) (by kernel_rfl) ?_;repeat(go_big_quiet_step ((fail)))
         refine wpQuiet_nil ?_;intro w6 bg;have gp:Below ((wr.alloc (.cells #[.int .i64 ((m:Int)+1),.int .i64 zo,.int .i64 zn] 110))).heap.size ((wr.alloc (.cells #[.int .i64 ((m:Int)+1),.int .i64 zo,.int .i64 zn] 110))) w6:=by
          obtain⟨pq,rfl⟩:=bg;exact below_regrown _ _ _
         clear bg;go_wp2;go_roundw;case rel=>exact⟨q+1,by omega,by go_num,jF.O,xG.trans (gp.mono (by have:=xG.size;omega))⟩
         case measure=>simp[intOf];omega
        ·have Hn:=Qh (show mU (l.take (k+1)) ⟨(m:Int)+1,zo,zn⟩=false by rw[yf];exact Qf kD);have jF:=Qh (show E=2 by
          have h:=CF.O;rw[if_neg (by simp),if_pos (show gP (l.take (k+1)) y=false from U3 CG xO Hn.O)]at h;have h2:za=2:=(Prod.mk.inj h).2.symm;have h4:=rJ.O;rw[h2,if_pos (by decide)]at h4;exact h4.symm)
         clear yf xO;subst Fv;by_cases vP:(u.aH.length:Int)<zo
         ·have e4:decide ((u.aH.length:Int)<zo)=true:=Qt vP;clear kD;go_wp2_with fail
          refine wp_region_quiet_below (by kernel_rfl) (by kernel_rfl) ?_;repeat(go_big_quiet_step ((fail)))
          refine wpQuiet_nil ?_;intro w6 bg;have gp:Below ((wr.alloc (.cells #[.int .i64 ((m:Int)+1),.int .i64 zo,.int .i64 zn] 110))).heap.size ((wr.alloc (.cells #[.int .i64 ((m:Int)+1),.int .i64 zo,.int .i64 zn] 110))) w6:=by
           obtain⟨pq,rfl⟩:=bg;exact below_regrown _ _ _
          clear bg;go_wp2;go_ret;exact⟨bP jF.O.symm,C7.trans (gp.mono C7.size)⟩
         ·have e4:decide ((u.aH.length:Int)<zo)=false:=Qf vP;have e5:decide ((u.aH.length:Int)-zo<zn)=true:=Qt (by omega);clear kD;go_wp2_with fail
          refine wp_region_quiet_below (by kernel_rfl) (by kernel_rfl) ?_;repeat(go_big_quiet_step ((fail)))
          refine wpQuiet_nil ?_;intro w6 bg;have gp:Below ((wr.alloc (.cells #[.int .i64 ((m:Int)+1),.int .i64 zo,.int .i64 zn] 110))).heap.size ((wr.alloc (.cells #[.int .i64 ((m:Int)+1),.int .i64 zo,.int .i64 zn] 110))) w6:=by
           obtain⟨pq,rfl⟩:=bg;exact below_regrown _ _ _
          clear bg;go_wp2;go_ret;exact⟨bP jF.O.symm,C7.trans (gp.mono C7.size)⟩
       ·have Hn:=Qh (show ib (l.take (k+1)) x.aN s2 (x.ay.drop (j+1))=(R,za) by
         have h:=CF.O;have ha:=kW.O;rw[List.take_of_length_le (by omega)]at ha;rw[if_neg (by simp),if_neg (by rw[show gP (l.take (k+1)) y=true from ha];simp)]at h;exact h)
        have Mc:=Qh (pV.O.set (s':=s2) ZF.O ZG.O);have r0:=pV.O.c0;have r1:=pV.O.c1;have f0:=pV.O.f0;have f1:=pV.O.f1;have n0:=dh mM qV.O;have n1:=dh mM yT.O;have ZK:=Qh ((ng.O.aA mM).set2 (u:=(.slice a3 s2.aI.length d3)) (v:=(.slice a4 s2.holds.length d4)) L9);have hbs:=((oH.trans (mM.mono oH.size)).setCell (p:=⟨w.heap.size,0,none⟩) (Qn _) (.slice a3 s2.aI.length d3)).setCell (p:=⟨w.heap.size,1,none⟩) (Qn _) (.slice a4 s2.holds.length d4);have aaX:=mM.size;clear pV Av CF kW;go_wp2;go_roundw;case rel=>exact⟨j+1,s2,_,_,J3,by omega,by go_num,Hn.O,EX.O,Mc.O,ZH.O,ZK.O,fun b c h=>Au.O b c (BC.O b c h),by simp;omega,hbs⟩
        case measure=>simp[intOf];omega
     ·have jf:(s',(0:Int))=(R,za):=by have:=HR.O;rwa[List.drop_of_length_le (by omega)]at this
      obtain⟨rfl,rfl⟩:=Prod.mk.inj jf;have Hn:=Qh (show eO l (k+1) s' dg x.aN (l.drop (k+1))=E by have:=rJ.O;rwa[if_neg (by simp)]at this);clear jf HR rJ;go_wp2;go_roundw;case rel=>exact⟨k+1,s',_,_,J',dg,x.aN,by omega,by go_num,Hn.O,Hpd.O,sP.O.mono (by omega),bB.O,RV.O,AY⟩
      case measure=>simp[intOf];omega
   ·have i0:decide ((0:Int)<(k:Int))=true:=Qt (by omega);have i0n:decide (0<k)=true:=Qt (by omega);have Vp:IntKind.i64.wrap ((k:Int)-1)=(m:Int):=by rw[IntWalk.i64_in _ (by omega)];omega
    have hj9:(k:Int)-1=(m:Int):=by omega
    clear hkm;have aD:Ok J w1:=EW.O.ok;obtain⟨u',vu,bu,Lv,Lx,RZ,dn,⟨s0,s1,s2',s3,s4,s5⟩,h1⟩:=Dl IL.O aD m RU;cases dn;have huu:u=u':=by rw[←xD,RZ]
    subst huu;obtain⟨ou,cu,rfl,_,_,_⟩:=id h1;have L8:=Qh (fun w hw=>Xgw J u _ h1 (Hg.O u (by rw[←xD];exact List.getElem_mem RU)) w hw);have gu:=cell_regrown s1;have im:(m:Int)<l.length:=by omega
    rw[hdu,←BG]at L8;clear xD RZ h1 hdu;by_cases Ng:x.aN<d
    ·have Hn:=Qh (show E=14 by have:=Gn.O;rw[if_neg (by simp),if_pos (.inr Ng)]at this;exact this.symm);have q3:decide (x.aN<u.aN)=true:=Qt (by omega);clear Ng pU;go_wp2_with fail
     refine wp_region_quiet_below (by kernel_rfl) (by kernel_rfl) ?_;repeat(go_big_quiet_step ((fail)))
     refine wpQuiet_nil ?_;intro w2 bg;have aF:Below (w1).heap.size (w1) w2:=by
      obtain⟨pq,rfl⟩:=bg;exact below_regrown _ _ _
     clear bg;go_wp2;go_ret;exact⟨bP Hn.O.symm,av.trans (aF.mono av.size)⟩
    have q3:decide (x.aN<u.aN)=false:=Qf (by omega);go_wp2_with fail
    refine wp_region_quiet_below (by kernel_rfl) (by kernel_rfl) ?_;repeat(go_big_quiet_step ((fail)))
    refine wpQuiet_nil ?_;intro w0 bg;have lW:Below (w1).heap.size (w1) w0:=by
     obtain⟨pq,rfl⟩:=bg;exact below_regrown _ _ _
    clear bg;have qg:=Qh (iq.O.aA lW);have iY:=Qh (EW.O.below lW);have Md:=av.trans (lW.mono av.size);have ZL:wr.heap.size<w0.heap.size:=by have:=lW.size;omega
    have t0:=dh lW s0;have t1:=dh lW s1;have t2:=dh lW s2';have t3:=dh lW s3;have t4:=dh lW s4;have t5:=dh lW s5;clear lW av iq EW g0 g1 c0 c1 c2 c3 c4 c5 q1 q2 FE gu s0 s1 s2' s3 s4 s5;go_wp2_with fail
    refine(L8.O _ iY.O.ok).mono ?_;rintro e2 w2 ⟨rfl,aF⟩;have oh:=Qh (qg.O.aA aF);have iy:=Qh (iY.O.below aF);have aL:=Md.trans (aF.mono Md.size);have kH:wr.heap.size<w2.heap.size:=by have:=aF.size;omega
    clear aF Md qg iY ZL t0 t1 t2 t3 t4 t5 L8 q3;obtain⟨c0,c1,c2,c3,c4,c5⟩:=oh.O;by_cases vQ:x.aW=p;case neg=>
     have Hn:=Qh (show E=20 by have:=Gn.O;rw[if_neg (by simp),if_neg (by rintro(h|h);exact h (by simpa using pU);omega),if_pos vQ]at this;exact this.symm);have q4:(x.aW==p)=false:=by simpa using vQ
     have q5:(x.aW !=p)=true:=by simpa using vQ
     have q4a:(x.aW==(eD u).1)=false:=by rw[←BG];simpa using vQ
     have q5a:(x.aW !=(eD u).1)=true:=by rw[←BG];simpa using vQ
     clear vQ Ng pU;go_wp2;go_ret;exact⟨bP Hn.O.symm,aL⟩
    have q4a:(x.aW==(eD u).1)=true:=by rw[←BG];simpa using vQ
    have q5a:(x.aW !=(eD u).1)=false:=by rw[←BG];simpa using vQ
    have q4:(x.aW==p)=true:=by simpa using vQ
    have q5:(x.aW !=p)=false:=by simpa using vQ
    clear Zd Vu;have rJ:=Qh (show(if(ib (l.take (k+1)) x.aN s x.ay).2≠0 then(ib (l.take (k+1)) x.aN s x.ay).2 else eO l (k+1) (ib (l.take (k+1)) x.aN s x.ay).1 dg x.aN (l.drop (k+1)))=E by
     have:=Gn.O;rw[if_neg (by simp),if_neg (by rintro(h|h);exact h pU;omega),if_neg (by simpa using vQ)]at this;exact this)
    obtain⟨R,za,hR⟩:∃R za,ib (l.take (k+1)) x.aN s x.ay=(R,za):=⟨_,_,rfl⟩;rw[hR]at rJ;have HR:=Qh hR;clear vQ Ng pU Gn hR;go_wp2_with fail
    generalize wr.heap.size=bx at oh kH kF ⊢;clear c0 c1 c2 c3 c4 c5;go_loopw [69] (fun ZA wq=> ∃(j:Nat) (s':jI) (Al Gl:Value) (J':IH),j≤x.ay.length∧ZA= .int .i64 j∧ib (l.take (k+1)) x.aN s' (x.ay.drop j)=(R,za)∧zD (30*k+j) s'∧o9 106 w.heap.size J' wq s' Al Gl∧Ext w.heap.size I J'∧nC wq bx x (.slice oe x.ay.length ce)∧(∀b c,J b=some c→J' b=some c)∧bx<wq.heap.size∧Below w.heap.size w wq) (fun i _=>x.ay.length-(intOf i).toNat)
    case atStart=>exact⟨0,s,vt,vh,J,Nat.zero_le _,rfl,HR.O,sP.O,iy.O,Hx.O,oh.O,fun _ _ h=>h,kH,aL⟩
    case round=>
     clear iy oh aL HR sP kH;obtain⟨j,s',Al,Gl,J',hj,rfl,hR,CZ,gB,hx,hB,fJ,ZB,AY⟩:=hrel;have HR:=Qh hR;have sP:=Qh CZ;have bB:=Qh gB;have HB:=Qh hB;have RV:=Qh hx;have BC:=Qh fJ;have gG:Ok J' wr:=gB.ok;clear hR CZ gB hB hx fJ;obtain⟨c0,c1,c2,c3,c4,c5⟩:=HB.O;by_cases tq:j<x.ay.length
     ·obtain⟨y,YY,YZ,b9,Iy,LF,iH,dn,⟨x0,x1,x2,x3,x4,x5,x6⟩,h1,h2⟩:=qi (LD.O.mono BC.O) gG j tq;cases dn;obtain⟨xa,xc,rfl,_,_,_⟩:=id h1;obtain⟨xx,xd,rfl,_,_,_⟩:=id h2;obtain⟨t1,JL,rfl,_,_,_⟩:=id bB.O.aI;obtain⟨u1,JM,rfl,_,_,_⟩:=id bB.O.holds;have gX:y∈x.ay:=by rw[←iH];exact List.getElem_mem tq
      have CF:=Qh ((Xtp (L:=l.take (k+1)) (d:=x.aN) (s:=s') tq iH).symm.trans HR.O);have uK:=Qh (bB.O.past (.cells #[.int .i64 y.ai,S y.af,.slice xa y.ag.length xc,S y.target,.int .i64 y.size,S y.aj,.slice xx y.ak.length xd] 35));have MN:=CB.O.af y gX;have Vt:=CB.O.target y gX;have xI:=CB.O.ak y gX;have pF:=sP.O.ok.BX;have Cx:=sP.O.ok.hlen;have iG:=Qh (Xjq J' s' _ _ bB.O.aI bB.O.holds sP.O.JH (by omega) sP.O.ok.holds (by omega) y _ _ h1 h2 (CB.O.wf y gX) (by omega) (by omega) x.aN (wr.alloc (.cells #[.int .i64 y.ai,S y.af,.slice xa y.ag.length xc,S y.target,.int .i64 y.size,S y.aj,.slice xx y.ak.length xd] 35)) (gG.alloc _));have EX:=Qh (UE sP.O y x.aN MN Vt);have RX:=Qh (fun h=>Xwv (s:=s') (d:=x.aN) (e:=y) h);have ZC:=Qh h2;obtain⟨s2,zG,pX⟩:∃s2 zG,dY s' y x.aN=(s2,zG):=⟨_,_,rfl⟩;rw[pX]at iG CF EX RX;have k0:=uK.O.c0;have k1:=uK.O.c1;have p1:=fP (.cells #[.int .i64 y.ai,S y.af,.slice xa y.ag.length xc,S y.target,.int .i64 y.size,S y.aj,.slice xx y.ak.length xd] 35) c1;have ZE:=bB.O.lt;have aaV:wr.heap.size≠w.heap.size:=by omega
      have L9:bx≠w.heap.size:=by omega
      have Aq:=AY.alloc AY.size (.cells #[.int .i64 y.ai,S y.af,.slice xa y.ag.length xc,S y.target,.int .i64 y.size,S y.aj,.slice xx y.ak.length xd] 35);have RY:=Qh (HB.O.past (.cells #[.int .i64 y.ai,S y.af,.slice xa y.ag.length xc,S y.target,.int .i64 y.size,S y.aj,.slice xx y.ak.length xd] 35));clear iH h1 h2 gX pF Cx HR pX bB sP HB gG AY;go_wp2_with fail
      refine iG.O.mono ?_;rintro e3 w3 ⟨v3,v4,J3,rfl,cO,rO,bN,FH,FI⟩;have ZF:=Qh FH;have ZG:=Qh FI;obtain⟨a3,d3,rfl,_,_,_⟩:=id FH;obtain⟨a4,d4,rfl,_,_,_⟩:=id FI;have Ma:=Qh ((cB (e:=y) rfl cO).past (.cells #[.slice a3 s2.aI.length d3,.slice a4 s2.holds.length d4] 106));have ng:=Qh ((RY.O.aA cO).past (.cells #[.slice a3 s2.aI.length d3,.slice a4 s2.holds.length d4] 106));have xE:=Qh ((uK.O.ext cO rO bN).past (.cells #[.slice a3 s2.aI.length d3,.slice a4 s2.holds.length d4] 106));have Ar:=Aq.trans (cO.mono Aq.size);have oH:=Ar.alloc Ar.size (.cells #[.slice a3 s2.aI.length d3,.slice a4 s2.holds.length d4] 106);have Au:=Qh (rO.keep uK.O.ok (Qn _));have Nh:wr.heap.size<w3.heap.size:=by have:=cO.size;simp at this;omega
      have ZH:=Qh (RV.O.trans rO (by simp;omega));have n0:(w3.alloc (.cells #[.slice a3 s2.aI.length d3,.slice a4 s2.holds.length d4] 106)).cell? ⟨w3.heap.size,0,none⟩=some (.slice a3 s2.aI.length d3):=by simp
      have n1:(w3.alloc (.cells #[.slice a3 s2.aI.length d3,.slice a4 s2.holds.length d4] 106)).cell? ⟨w3.heap.size,1,none⟩=some (.slice a4 s2.holds.length d4):=by simp
      clear c0 c1 c2 c3 c4 c5 x0 x1 x2 x3 x4 x5 x6 k0 k1 p1 cO rO bN FH FI iG uK Aq RY Ar;by_cases h3:zG=0;case neg=>
       have Om:(zG !=0)=true:=by simpa using h3
       have Hn:=Qh (show E=zG by
        have h:=CF.O;rw[if_pos h3]at h;have h2:za=zG:=(Prod.mk.inj h).2.symm;have h4:=rJ.O;rw[h2,if_pos h3]at h4;exact h4.symm)
       clear h3;go_wp2;go_ret;exact⟨bP Hn.O.symm,oH⟩
      subst h3;obtain⟨w4,BH⟩:∃w4,w3.alloc (.cells #[.slice a3 s2.aI.length d3,.slice a4 s2.holds.length d4] 106)=w4:=⟨_,rfl⟩;have dF:w3.heap.size<w4.heap.size:=by rw[←BH];simp
      rw[BH]at Ma ng xE oH n0 n1;have qV:=Qh n0;have yT:=Qh n1;obtain⟨x0,x1,x2,x3,x4,x5,x6⟩:=Ma.O;go_wp2_with fail
      generalize w3.heap.size=nb at qV yT dF Nh ⊢;clear BH n0 n1 x0 x1 x2 x3 x4 x5 x6 Ma;go_loopw [87] (fun s87 wq=> ∃q:Nat,q≤y.ak.length∧s87= .int .i64 q∧(y.ak.take q).all (mU (l.take (k+1)))=true∧Below w4.heap.size w4 wq) (fun i _=>y.ak.length-(intOf i).toNat)
      case atStart=>exact⟨0,Nat.zero_le _,rfl,rfl,Qb _ _⟩
      case round=>
       obtain⟨q,hq,rfl,aB,mM⟩:=hrel;have kW:=Qh aB;clear aB;have pV:=Qh (xE.O.below mM);have Av:Ok J3 wr:=pV.O.ok;by_cases CG:q<y.ak.length
       ·obtain⟨z,bz,ZI,ZJ,xO,dn,z0,z1,z2⟩:=uZ (ZC.O.mono Au.O) Av q CG;cases dn;obtain⟨b0,b1,b2,b3,b4,b5⟩:=RX.O (by trivial) z (by rw[←xO];exact List.getElem_mem CG);obtain⟨zs,zo,zn⟩:=z;dsimp only at b0 b1 b2 b3 b4 b5;have C7:=(oH.trans (mM.mono oH.size)).alloc (oH.trans (mM.mono oH.size)).size (.cells #[.int .i64 zs,.int .i64 zo,.int .i64 zn] 110);have xG:=mM.alloc mM.size (.cells #[.int .i64 zs,.int .i64 zo,.int .i64 zn] 110);by_cases jY:zs=0
        ·have e1:(zs !=0)=false:=by simpa using jY
         have e2:(zs==0)=true:=by simpa using jY
         have Hn:=Qh (Xlf (l:=l.take (k+1)) (x:=⟨zs,zo,zn⟩) jY);clear jY;have y0:=cell_regrown (show(wr.alloc (.cells #[.int .i64 zs,.int .i64 zo,.int .i64 zn] 110)).cell? ⟨wr.heap.size,0,none⟩=some (.int .i64 zs) by simp);have y1:=cell_regrown (show(wr.alloc (.cells #[.int .i64 zs,.int .i64 zo,.int .i64 zn] 110)).cell? ⟨wr.heap.size,1,none⟩=some (.int .i64 zo) by simp);have y2:=cell_regrown (show(wr.alloc (.cells #[.int .i64 zs,.int .i64 zo,.int .i64 zn] 110)).cell? ⟨wr.heap.size,2,none⟩=some (.int .i64 zn) by simp);have jF:=Qh (U2 CG xO kW.O Hn.O);clear xO;go_wp2_with fail
         refine wp_region_quiet_below (by kernel_rfl) (by kernel_rfl) ?_;repeat(go_big_quiet_step ((fail)))
         refine wpQuiet_nil ?_;intro w6 bg;have gp:Below ((wr.alloc (.cells #[.int .i64 zs,.int .i64 zo,.int .i64 zn] 110))).heap.size ((wr.alloc (.cells #[.int .i64 zs,.int .i64 zo,.int .i64 zn] 110))) w6:=by
          obtain⟨pq,rfl⟩:=bg;exact below_regrown _ _ _
         clear bg;go_wp2;go_roundw;case rel=>exact⟨q+1,by omega,by go_num,jF.O,xG.trans (gp.mono (by have:=xG.size;omega))⟩
         case measure=>simp[intOf];omega
        have e1:(zs !=0)=true:=by simpa using jY
        have e2:(zs==0)=false:=by simpa using jY
        by_cases IM:(k:Int)+1<zs
        ·have e3:decide ((k:Int)+1<zs)=true:=Qt IM;have Hn:=Qh (Xgs (x:=⟨zs,zo,zn⟩) hlt jY IM);have y0:=cell_regrown (show(wr.alloc (.cells #[.int .i64 zs,.int .i64 zo,.int .i64 zn] 110)).cell? ⟨wr.heap.size,0,none⟩=some (.int .i64 zs) by simp);have y1:=cell_regrown (show(wr.alloc (.cells #[.int .i64 zs,.int .i64 zo,.int .i64 zn] 110)).cell? ⟨wr.heap.size,1,none⟩=some (.int .i64 zo) by simp);have y2:=cell_regrown (show(wr.alloc (.cells #[.int .i64 zs,.int .i64 zo,.int .i64 zn] 110)).cell? ⟨wr.heap.size,2,none⟩=some (.int .i64 zn) by simp);clear jY IM;have jF:=Qh (show E=2 by
          have h:=CF.O;rw[if_neg (by simp),if_pos (show gP (l.take (k+1)) y=false from U3 CG xO Hn.O)]at h;have h2:za=2:=(Prod.mk.inj h).2.symm;have h4:=rJ.O;rw[h2,if_pos (by decide)]at h4;exact h4.symm)
         clear xO;go_wp2_with fail
         refine wp_region_quiet_below (by kernel_rfl) (by kernel_rfl) ?_;repeat(go_big_quiet_step ((fail)))
         refine wpQuiet_nil ?_;intro w6 bg;have gp:Below ((wr.alloc (.cells #[.int .i64 zs,.int .i64 zo,.int .i64 zn] 110))).heap.size ((wr.alloc (.cells #[.int .i64 zs,.int .i64 zo,.int .i64 zn] 110))) w6:=by
          obtain⟨pq,rfl⟩:=bg;exact below_regrown _ _ _
         clear bg;go_wp2;go_ret;exact⟨bP jF.O.symm,C7.trans (gp.mono C7.size)⟩
        obtain⟨m,hm⟩:∃m:Nat,zs=(m:Int)+1:=⟨(zs-1).toNat,by omega⟩;subst hm;have iO:m≤k:=by omega
        obtain⟨u,vu,bu,Lv,Lx,xD,dn,⟨s0,s1,s2',s3,s4,s5⟩,h1⟩:=Dl ((IL.O.mono BC.O).mono Au.O) (Av.alloc (.cells #[.int .i64 ((m:Int)+1),.int .i64 zo,.int .i64 zn] 110)) m (by omega);cases dn;have yf:=Xhu (x:=⟨(m:Int)+1,zo,zn⟩) hlt iO xD rfl;have e3:decide ((k:Int)+1<(m:Int)+1)=false:=Qf (by omega);have e3a:decide ((k:Int)<(m:Int))=false:=Qf (by omega);have e3b:decide (k<m)=false:=Qf (by omega);have GX:=(Hg.O u (by rw[←xD];exact List.getElem_mem _)).aH;have m8:IntKind.i64.wrap ((u.aH.length:Int)-zo)=(u.aH.length:Int)-zo:=IntWalk.i64_in _ (by omega);have m9:wrap64 ((u.aH.length:Int)-zo)=(u.aH.length:Int)-zo:=by unfold wrap64;omega
        have hi:(m:Int)<l.length:=by omega
        have g4:=cell_regrown s4;have y0:=cell_regrown (show(wr.alloc (.cells #[.int .i64 ((m:Int)+1),.int .i64 zo,.int .i64 zn] 110)).cell? ⟨wr.heap.size,0,none⟩=some (.int .i64 ((m:Int)+1)) by simp);have y1:=cell_regrown (show(wr.alloc (.cells #[.int .i64 ((m:Int)+1),.int .i64 zo,.int .i64 zn] 110)).cell? ⟨wr.heap.size,1,none⟩=some (.int .i64 zo) by simp);have y2:=cell_regrown (show(wr.alloc (.cells #[.int .i64 ((m:Int)+1),.int .i64 zo,.int .i64 zn] 110)).cell? ⟨wr.heap.size,2,none⟩=some (.int .i64 zn) by simp);clear jY IM xD s0 s1 s2' s3 s4 s5 h1;obtain⟨zs,Fv⟩:∃zs,zs=(m:Int)+1:=⟨_,rfl⟩;by_cases kD:zo+zn≤(u.aH.length:Int)
        ·have Hn:=Qh (show mU (l.take (k+1)) ⟨(m:Int)+1,zo,zn⟩=true by rw[yf];exact Qt kD);have e4:decide ((u.aH.length:Int)<zo)=false:=Qf (by omega);have e5:decide ((u.aH.length:Int)-zo<zn)=false:=Qf (by omega);clear yf kD;subst Fv;have jF:=Qh (U2 CG xO kW.O Hn.O);clear xO;go_wp2_with fail
         refine wp_region_quiet_below (by kernel_rfl) (by kernel_rfl) ?_;repeat(go_big_quiet_step ((fail)))
         refine wpQuiet_nil ?_;intro w6 bg;have gp:Below ((wr.alloc (.cells #[.int .i64 ((m:Int)+1),.int .i64 zo,.int .i64 zn] 110))).heap.size ((wr.alloc (.cells #[.int .i64 ((m:Int)+1),.int .i64 zo,.int .i64 zn] 110))) w6:=by
          obtain⟨pq,rfl⟩:=bg;exact below_regrown _ _ _
         clear bg;go_wp2;go_roundw;case rel=>exact⟨q+1,by omega,by go_num,jF.O,xG.trans (gp.mono (by have:=xG.size;omega))⟩
         case measure=>simp[intOf];omega
        ·have Hn:=Qh (show mU (l.take (k+1)) ⟨(m:Int)+1,zo,zn⟩=false by rw[yf];exact Qf kD);have jF:=Qh (show E=2 by
          have h:=CF.O;rw[if_neg (by simp),if_pos (show gP (l.take (k+1)) y=false from U3 CG xO Hn.O)]at h;have h2:za=2:=(Prod.mk.inj h).2.symm;have h4:=rJ.O;rw[h2,if_pos (by decide)]at h4;exact h4.symm)
         clear yf xO;subst Fv;by_cases vP:(u.aH.length:Int)<zo
         ·have e4:decide ((u.aH.length:Int)<zo)=true:=Qt vP;clear kD;go_wp2_with fail
          refine wp_region_quiet_below (by kernel_rfl) (by kernel_rfl) ?_;repeat(go_big_quiet_step ((fail)))
          refine wpQuiet_nil ?_;intro w6 bg;have gp:Below ((wr.alloc (.cells #[.int .i64 ((m:Int)+1),.int .i64 zo,.int .i64 zn] 110))).heap.size ((wr.alloc (.cells #[.int .i64 ((m:Int)+1),.int .i64 zo,.int .i64 zn] 110))) w6:=by
           obtain⟨pq,rfl⟩:=bg;exact below_regrown _ _ _
          clear bg;go_wp2;go_ret;exact⟨bP jF.O.symm,C7.trans (gp.mono C7.size)⟩
         ·have e4:decide ((u.aH.length:Int)<zo)=false:=Qf vP;have e5:decide ((u.aH.length:Int)-zo<zn)=true:=Qt (by omega);clear kD;go_wp2_with fail
          refine wp_region_quiet_below (by kernel_rfl) (by kernel_rfl) ?_;repeat(go_big_quiet_step ((fail)))
          refine wpQuiet_nil ?_;intro w6 bg;have gp:Below ((wr.alloc (.cells #[.int .i64 ((m:Int)+1),.int .i64 zo,.int .i64 zn] 110))).heap.size ((wr.alloc (.cells #[.int .i64 ((m:Int)+1),.int .i64 zo,.int .i64 zn] 110))) w6:=by
           obtain⟨pq,rfl⟩:=bg;exact below_regrown _ _ _
          clear bg;go_wp2;go_ret;exact⟨bP jF.O.symm,C7.trans (gp.mono C7.size)⟩
       ·have Hn:=Qh (show ib (l.take (k+1)) x.aN s2 (x.ay.drop (j+1))=(R,za) by
         have h:=CF.O;have ha:=kW.O;rw[List.take_of_length_le (by omega)]at ha;rw[if_neg (by simp),if_neg (by rw[show gP (l.take (k+1)) y=true from ha];simp)]at h;exact h)
        have Mc:=Qh (pV.O.set (s':=s2) ZF.O ZG.O);have r0:=pV.O.c0;have r1:=pV.O.c1;have f0:=pV.O.f0;have f1:=pV.O.f1;have n0:=dh mM qV.O;have n1:=dh mM yT.O;have ZK:=Qh ((ng.O.aA mM).set2 (u:=(.slice a3 s2.aI.length d3)) (v:=(.slice a4 s2.holds.length d4)) L9);have hbs:=((oH.trans (mM.mono oH.size)).setCell (p:=⟨w.heap.size,0,none⟩) (Qn _) (.slice a3 s2.aI.length d3)).setCell (p:=⟨w.heap.size,1,none⟩) (Qn _) (.slice a4 s2.holds.length d4);have aaX:=mM.size;clear pV Av CF kW;go_wp2;go_roundw;case rel=>exact⟨j+1,s2,_,_,J3,by omega,by go_num,Hn.O,EX.O,Mc.O,ZH.O,ZK.O,fun b c h=>Au.O b c (BC.O b c h),by simp;omega,hbs⟩
        case measure=>simp[intOf];omega
     ·have jf:(s',(0:Int))=(R,za):=by have:=HR.O;rwa[List.drop_of_length_le (by omega)]at this
      obtain⟨rfl,rfl⟩:=Prod.mk.inj jf;have Hn:=Qh (show eO l (k+1) s' dg x.aN (l.drop (k+1))=E by have:=rJ.O;rwa[if_neg (by simp)]at this);clear jf HR rJ;go_wp2;go_roundw;case rel=>exact⟨k+1,s',_,_,J',dg,x.aN,by omega,by go_num,Hn.O,Hpd.O,sP.O.mono (by omega),bB.O,RV.O,AY⟩
      case measure=>simp[intOf];omega
  ·have Hn:=Qh (show E=0 by have:=Zy.O;rw[List.drop_of_length_le (by omega)]at this;rw[←this];rfl);go_wp2;go_ret;exact⟨bP Hn.O.symm,hb⟩
def jT(l:List bR):Bool:=!vI l&&wX l==0
def il(l:List bR):Int:=if jT l then 1 else 0
theorem Xjo(hw:∀x∈l,x.Wf)(h:jT l=true):(l.length≤8∧(∀x∈l,jA x)∧xY l≤20000)∧wX l=0:=by
 unfold jT at h;rw[Bool.and_eq_true]at h;exact⟨YD hw (by simpa using h.1),by simpa using h.2⟩
theorem Xic(I:IH)(v:Value)(l:List bR)(hv:bf lL I v l)(jh:∀x∈l,x.Wf)(w:World)(hw:Ok I w):
 Calls Tryz.prog 6 #[v] w fun r w'=>r= .returned (.int .i64 (il l))∧Below w.heap.size w w':=by
 have vL:=Qh (Xnz I v l hv jh w hw);have kg:=Qh (fun(h:vI l=false) w hw=>Xn0 I v l hv (YD jh h).2.1 (by have:=(YD jh h).1;omega) w hw);obtain⟨ao,cap,rfl,_,_,_⟩:=id hv;clear hv jh;cases hg:vI l
 ·have Hc:=Qh (kg.O hg);have Hn:=Qh (show jT l=(wX l==0) by rw[jT,hg];rfl);rw[show lM l=0 by rw[lM,hg];rfl]at vL;obtain⟨E,hE⟩:∃E,wX l=E:=⟨_,rfl⟩;rw[hE]at Hn Hc;clear hg hE kg;by_cases h0:E=0
  ·have jF:=Qh (show jT l=true by rw[Hn.O,h0];rfl);subst h0;go_enter Tryz.func6,Tryz.ntmps6
   go_wp2_with fail
   refine vL.O.mono ?_;rintro e1 w1 ⟨rfl,au⟩;have aD:=hw.below (Qn _) au;go_wp2_with fail
   refine(Hc.O w1 aD).mono ?_;rintro e2 w2 ⟨rfl,aF⟩;go_wp2;go_ret;exact⟨bP (by rw[il,jF.O];rfl),au.trans (aF.mono au.size)⟩
  ·have jF:=Qh (show jT l=false by rw[Hn.O];simpa using h0);have he:(E !=0)=true:=by simpa using h0
   clear h0;go_enter Tryz.func6,Tryz.ntmps6
   go_wp2_with fail
   refine vL.O.mono ?_;rintro e1 w1 ⟨rfl,au⟩;have aD:=hw.below (Qn _) au;go_wp2_with fail
   refine(Hc.O w1 aD).mono ?_;rintro e2 w2 ⟨rfl,aF⟩;go_wp2;go_ret;exact⟨bP (by rw[il,jF.O];rfl),au.trans (aF.mono au.size)⟩
 ·have Hn:=Qh (show jT l=false by rw[jT,hg];rfl);rw[show lM l=1 by rw[lM,hg];rfl]at vL;clear hg kg;go_enter Tryz.func6,Tryz.ntmps6
  go_wp2_with fail
  refine vL.O.mono ?_;rintro e1 w1 ⟨rfl,au⟩;go_wp2;go_ret;exact⟨bP (by rw[il,Hn.O];rfl),au⟩
theorem ZM:∀{xs:List bR} {i:Nat} {s:jI} {aW:ae} {aN:Int},eO l i s aW aN xs=0→ ∀x∈xs,EQ x
 | [],_,_,_,_,_,x,hx=>by cases hx
 |y::xs,i,s,aW,aN,h,x,hx=>by
  obtain⟨h1,_,_,h4⟩:=Ut h;rcases List.mem_cons.1 hx with rfl|hx
  ·have h5:=(Xm4 h1.dig).1;have h6:iK x=0:=by
    unfold dN at h5;split at h5
    ·contradiction
    ·omega
   obtain⟨k1,k2,k3,k4,_⟩:=TR h6;exact⟨by omega,by omega,by omega,by omega⟩
  ·exact ZM h4 x hx
theorem Xp8(h:wX l=0):∀x∈l,∀e∈x.ay,az e=0:=by
 intro x hx e he;obtain⟨j,hj⟩:=List.getElem?_of_mem hx;exact(YH h j x hj e he).1
theorem Xse(st:List ae)(m:Nat)(num:Int)(e:aG)(n:Nat):(kV st m num e n).aU.length≤65560:=by
 unfold kV;split
 ·simp
 ·have h:=UG st e;unfold cZ at h;split at h
  ·dsimp only;omega
  ·rename_i hk;have:jr st e=([],10):=Y1 hk;rw[this];simp
theorem ZN(st:List ae)(m:Nat)(num:Int):∀(l:List aG) (n:Nat),(∀f∈gV st m num l n,f.aU.length≤65560)∧(gV st m num l n).length≤l.length
 | [],_=>⟨fun f h=>(by cases h),Qn _⟩
 |e::l,n=>by
  rw[gV];split
  ·obtain⟨h1,h2⟩:=ZN st m num l n;exact⟨h1,by rw[List.length_cons];omega⟩
  ·obtain⟨h1,h2⟩:=ZN st m num l (n+1);refine⟨fun f h=> ?_,by rw[List.length_cons,List.length_cons];omega⟩;rcases List.mem_cons.1 h with rfl|h
   ·exact Xse ..
   ·exact h1 f h
theorem U4(st:List ae)(m:Nat):∀(L:List bR) (n:Nat),(∀x∈L,jA x)→(∀f∈dP st m L n,f.aU.length≤65560)∧(dP st m L n).length≤30*L.length
 | [],_,_=>⟨fun f h=>(by cases h),Qn _⟩
 |x::L,n,hg=>by
  rw[dP];obtain⟨h1,h2⟩:=ZN st m x.num x.ay n;obtain⟨h3,h4⟩:=U4 st m L (n+jb x.ay) fun y hy=>hg y (by simp[hy]);have h5:=(hg x (by simp)).mi;refine⟨fun f h=> ?_,by rw[List.length_append,List.length_cons];omega⟩;rcases List.mem_append.1 h with h|h
  ·exact h1 f h
  ·exact h3 f h
