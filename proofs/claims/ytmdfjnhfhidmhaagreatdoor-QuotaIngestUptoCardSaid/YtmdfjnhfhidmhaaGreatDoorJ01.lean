/- Lemmas for the claim's theorem;conditions: as each says. -/
import Derived.Test.YtmdfjnhfhidmhaaGreatDoorJ00
import Derived.Lib.ItoaNum
import Derived.BigRegion
import Derived.Test.YtmdfjnhfhidmhaaGreatDoorProg
import Derived.OpenShut
import Derived.DataShut
set_option maxHeartbeats 0
set_option maxRecDepth 100000
set_option linter.all false
namespace Go.Proofs.YtmdfjnhfhidmhaaGreatDoor
open Go.RowKit
variable{w:World}{r:Option Nat}{l:List At}{i:Nat}{w':World}
theorem Xhe(l d:List af):d.isPrefixOf l=decide (l.take d.length=d):=by
 rw[Bool.eq_iff_iff,List.isPrefixOf_iff_prefix,decide_eq_true_iff,List.prefix_iff_eq_take];exact⟨fun h=>h.symm,fun h=>h.symm⟩
theorem Xf5{l d:List af}(h:l.length<d.length):d.isPrefixOf l=false:=by
 cases hp:d.isPrefixOf l with
 |false=>rfl
 |true=>have:=(List.isPrefixOf_iff_prefix.1 hp).length_le;omega
theorem Uz(I:IH)(p d:af)(w:World)(hw:Ok I w):
 Calls Tryz.prog 122 #[S p,S d] w fun e w'=>e= .returned (.bool (under p d))∧Below w.heap.size w w':=by
 have OU:=Qh (fun w hw=>Uy I p w hw);have BP:=Qh (fun w hw=>Uy I d w hw);by_cases h0:aO p=0;case neg=>
  have Hu:=Qh (show under p d=false by rw[under,Qf h0];rfl);obtain⟨q,hq⟩:∃q,aO p=q:=⟨_,rfl⟩;have hn:(q !=0)=true:=by rw[←hq];simpa using h0
  rw[hq]at OU;clear hq h0;go_enter Tryz.func122,Tryz.ntmps122
  go_wp2_with fail
  refine(OU.O _ hw).mono ?_;rintro e w1 ⟨rfl,aD⟩;go_wp2;go_ret;exact⟨ib Hu.O.symm,aD⟩
 by_cases h1:aO d=0;case neg=>
  have Hu:=Qh (show under p d=false by rw[under,Qf h1,Bool.and_false];rfl);obtain⟨q,hq⟩:∃q,aO d=q:=⟨_,rfl⟩;have hn:(q !=0)=true:=by rw[←hq];simpa using h1
  rw[hq]at BP;rw[h0]at OU;clear hq h1 h0;go_enter Tryz.func122,Tryz.ntmps122
  go_wp2_with fail
  refine(OU.O _ hw).mono ?_;rintro e w1 ⟨rfl,aD⟩;go_wp2_with fail
  refine(BP.O _ (hw.below (Qn _) aD)).mono ?_;rintro e w2 ⟨rfl,aL⟩;go_wp2;go_ret;exact⟨ib Hu.O.symm,aD.trans (aL.mono aD.size)⟩
 have hp:=(Ey h0).1;have hd:=(Ey h1).1;have Hu:=Qh (show under p d=(els d).isPrefixOf (els p) by rw[under,Qt h0,Qt h1];rfl);have JY:=Qh (fun I w hw=>OT I p (by omega) w hw);have JZ:=Qh (fun I w hw=>OT I d (by omega) w hw);rw[h0]at OU;rw[h1]at BP;generalize els p=l at Hu JY;generalize els d=m at Hu JZ;clear h0 h1;go_enter Tryz.func122,Tryz.ntmps122
 go_wp2_with fail
 refine(OU.O _ hw).mono ?_;rintro e w1 ⟨rfl,aD⟩;have aM:Ok I w1:=hw.below (Qn _) aD;go_wp2_with fail
 refine(BP.O _ aM).mono ?_;rintro e w2 ⟨rfl,aL⟩;have aX:Ok I w2:=aM.below (Qn _) aL;have aY:=aD.trans (aL.mono aD.size);clear aD aL;go_wp2_with fail
 refine(JY.O I _ aX).mono ?_;rintro e w3 ⟨v3,I3,rfl,dX,yh,eT,tV⟩;have gp:=aY.trans (dX.mono aY.size);have Qq:=Qh tV;clear tV dX;go_wp2_with fail
 refine(JZ.O I3 _ eT).mono ?_;rintro e w4 ⟨v4,I4,rfl,aR,rT,bU,JC⟩;have bI:=gp.trans (aR.mono gp.size);have tV:=Qq.O.mono (rT.keep eT (Qn _));have hlen:=tV.bF;have BQ:=JC.bF;obtain⟨ao,cap,rfl,dO,fJ,_⟩:=id tV;obtain⟨pF,cap2,rfl,oU,qJ,_⟩:=id JC;have Hl:=Qh tV;have Hm:=Qh JC;clear tV JC Qq aR rT yh eT aY gp;by_cases nA:m.length≤l.length;case neg=>
  have hn:decide (l.length<m.length)=true:=Qt (by omega);have Lu:=Qh (show under p d=false by rw[Hu.O];exact Xf5 (by omega));go_wp2;go_ret;exact⟨ib Lu.O.symm,bI⟩
 have hn:decide (l.length<m.length)=false:=Qf (by omega);have Lu:=Qh (show under p d=decide (l.take m.length=m) by rw[Hu.O];exact Xhe l m);have HB:=Qh bI;clear bI;go_wp2_with fail
 go_loopw [7] (fun s7 wr=> ∃k:Nat,k≤m.length∧s7= .int .i64 k∧l.take k=m.take k∧Below w4.heap.size w4 wr) (fun i _=>m.length-(intOf i).toNat)
 case atStart=>exact⟨0,Nat.zero_le _,rfl,rfl,Qb _ _⟩
 case round=>
  obtain⟨k,hk,rfl,hr,hb⟩:=hrel;have Hr:=Qh hr;clear hr;have dG:Ok I4 wr:=bU.below (Qn _) hb;by_cases hlt:k<m.length
  ·obtain⟨x,b,off,cap',dA,cZ,oG⟩:=DY Hl.O dG k (by omega);cases cZ;obtain⟨y,b',off',nQ,ky,cZ,CO⟩:=DY Hm.O dG k hlt;cases cZ;have qM:=Qh dA;have Ia:=Qh ky;have jh:k<l.length:=by omega
   have g0:=cell_regrown oG;have g1:=cell_regrown CO;clear dA ky;by_cases GJ:x=y
   ·have f1:(x !=y)=false:=by simp[GJ]
    have f2:(x==y)=true:=by simp[GJ]
    have Hn:=Qh (show l.take (k+1)=m.take (k+1) by rw[List.take_succ_eq_append_getElem jh,List.take_succ_eq_append_getElem hlt,Hr.O,qM.O,Ia.O,GJ]);clear GJ;go_wp2_with fail
    refine wp_region_quiet_below (by kernel_rfl) (by kernel_rfl) ?_;repeat(go_big_quiet_step ((fail)))
    refine wpQuiet_nil ?_;intro w5 bq;have bM:Below (wr).heap.size (wr) w5:=by
     obtain⟨pq,rfl⟩:=bq;exact below_regrown _ _ _
    clear bq;go_wp2;go_roundw;case rel=>exact⟨k+1,by omega,by go_num,Hn.O,hb.trans (bM.mono hb.size)⟩
    case measure=>simp[intOf];omega
   ·have f1:(x !=y)=true:=by simpa using GJ
    have f2:(x==y)=false:=by simpa using GJ
    have Hn:=Qh (show under p d=false by
     rw[Lu.O,Qf];intro h;apply GJ;rw[←qM.O,←Ia.O];have:=congrArg (fun z=>z[k]?) h;simp only[List.getElem?_take_of_lt hlt]at this;rw[List.getElem?_eq_getElem jh,List.getElem?_eq_getElem hlt]at this;exact Option.some.inj this)
    clear GJ;go_wp2_with fail
    refine wp_region_quiet_below (by kernel_rfl) (by kernel_rfl) ?_;repeat(go_big_quiet_step ((fail)))
    refine wpQuiet_nil ?_;intro w5 bq;have bM:Below (wr).heap.size (wr) w5:=by
     obtain⟨pq,rfl⟩:=bq;exact below_regrown _ _ _
    clear bq;go_wp2;go_ret;exact⟨ib Hn.O.symm,HB.O.trans ((hb.trans (bM.mono hb.size)).mono HB.O.size)⟩
  ·have Hn:=Qh (show under p d=true by
    have:=Hr.O;rw[show k=m.length by omega,List.take_of_length_le (l:=m) (Qn _)]at this;rw[Lu.O,Qt this])
   go_wp2;go_ret;exact⟨ib Hn.O.symm,HB.O.trans (hb.mono HB.O.size)⟩
theorem UA(I:IH)(p d:af)(hp:p.length≤4294967280)(hd:d.length≤4294967280)(w:World)(hw:Ok I w):
 Calls Tryz.prog 125 #[S p,S d] w fun e w'=>e= .returned (.int .i64 (iU p d))∧Below w.heap.size w w':=by
 have Hu:=Qh (Xsu p d);have JY:=Qh (fun I w hw=>OT I p hp w hw);have JZ:=Qh (fun I w hw=>OT I d hd w hw);generalize els p=l at Hu JY;generalize els d=m at Hu JZ;go_enter Tryz.func125,Tryz.ntmps125
 go_wp2_with fail
 refine(JY.O I _ hw).mono ?_;rintro e w3 ⟨v3,I3,rfl,dX,yh,eT,tV⟩;have Qq:=Qh tV;clear tV;go_wp2_with fail
 refine(JZ.O I3 _ eT).mono ?_;rintro e w4 ⟨v4,I4,rfl,aR,rT,bU,JC⟩;have HB:=Qh (dX.trans (aR.mono dX.size));have tV:=Qq.O.mono (rT.keep eT (Qn _));have hlen:=tV.bF;have BQ:=JC.bF;obtain⟨ao,cap,rfl,dO,fJ,_⟩:=id tV;obtain⟨pF,cap2,rfl,oU,qJ,_⟩:=id JC;have Hl:=Qh tV;have Hm:=Qh JC;clear tV JC Qq aR rT yh eT dX;go_wp2_with fail
 go_loopw [7] (fun s7 wr=> ∃k:Nat,k≤l.length∧k≤m.length∧s7= .int .i64 k∧l.take k=m.take k∧Below w4.heap.size w4 wr) (fun i _=>m.length-(intOf i).toNat)
 case atStart=>exact⟨0,Nat.zero_le _,Nat.zero_le _,rfl,rfl,Qb _ _⟩
 case round=>
  obtain⟨k,hk,yD,rfl,hr,hb⟩:=hrel;have Hr:=Qh hr;have BP:=Qh (Xl5 hr hk yD);clear hr;have dG:Ok I4 wr:=bU.below (Qn _) hb;by_cases hlt:k<l.length;case neg=>
   have Qr:=Qh (show l.drop k=[]from List.drop_of_length_le (by omega));by_cases jh:k<m.length
   ·have ng:decide (l.length<m.length)=true:=Qt (by omega);have Hn:=Qh (show iU p d= -1 by rw[Hu.O,BP.O,Qr.O,List.drop_eq_getElem_cons jh];rfl);go_wp2;go_ret;exact⟨di Hn.O.symm,HB.O.trans (hb.mono HB.O.size)⟩
   ·have ng:decide (l.length<m.length)=false:=Qf (by omega);have rR:decide (m.length<l.length)=false:=Qf (by omega);have Hn:=Qh (show iU p d=0 by rw[Hu.O,BP.O,Qr.O,List.drop_of_length_le (by omega)];rfl);go_wp2;go_ret;exact⟨di Hn.O.symm,HB.O.trans (hb.mono HB.O.size)⟩
  by_cases jh:k<m.length;case neg=>
   have ng:decide (l.length<m.length)=false:=Qf (by omega);have rR:decide (m.length<l.length)=true:=Qt (by omega);have Hn:=Qh (show iU p d=1 by rw[Hu.O,BP.O,List.drop_of_length_le (l:=m) (by omega),List.drop_eq_getElem_cons hlt];rfl);go_wp2;go_ret;exact⟨di Hn.O.symm,HB.O.trans (hb.mono HB.O.size)⟩
  obtain⟨x,b,off,cap',dA,cZ,oG⟩:=DY Hl.O dG k hlt;cases cZ;obtain⟨y,b',off',nQ,ky,cZ,CO⟩:=DY Hm.O dG k jh;cases cZ;have EC:=Qh (show iU p d=cmpL (x::l.drop (k+1)) (y::m.drop (k+1)) by rw[Hu.O,BP.O,List.drop_eq_getElem_cons hlt,List.drop_eq_getElem_cons jh,dA,ky]);have qM:=Qh dA;have Ia:=Qh ky;have g0:=cell_regrown oG;have g1:=cell_regrown CO;clear dA ky;rcases Lm x y with ht|ht|ht
  ·have Hn:=Qh (show iU p d= -1 by rw[EC.O];exact Xga ht _ _);go_wp2_with fail
   refine wp_region_quiet_below (by kernel_rfl) (by kernel_rfl) ?_;repeat(go_big_quiet_step ((fail)))
   refine wpQuiet_nil ?_;intro w5 bq;have bM:Below (wr).heap.size (wr) w5:=by
    obtain⟨pq,rfl⟩:=bq;exact below_regrown _ _ _
   clear bq;go_wp2;go_ret;exact⟨di Hn.O.symm,HB.O.trans ((hb.trans (bM.mono hb.size)).mono HB.O.size)⟩
  ·have f1:Op.bytesLess x y=false:=by rw[ht];exact zU _
   have f2:Op.bytesLess y x=false:=by rw[ht];exact zU _
   have f3:(x==y)=true:=by simp[ht]
   have f4:(!(x==y))=false:=by simp[ht]
   have Hn:=Qh (show l.take (k+1)=m.take (k+1) by rw[List.take_succ_eq_append_getElem hlt,List.take_succ_eq_append_getElem jh,Hr.O,qM.O,Ia.O,ht]);clear ht;go_wp2_with fail
   refine wp_region_quiet_below (by kernel_rfl) (by kernel_rfl) ?_;repeat(go_big_quiet_step ((fail)))
   refine wpQuiet_nil ?_;intro w5 bq;have bM:Below (wr).heap.size (wr) w5:=by
    obtain⟨pq,rfl⟩:=bq;exact below_regrown _ _ _
   clear bq;have dE:=hb.trans (bM.mono hb.size);have gu:=bK bM oG;have GK:=bK bM CO;have g0:=cell_regrown gu;have g1:=cell_regrown GK;clear bM oG CO;go_wp2_with fail
   refine wp_region_quiet_below (by kernel_rfl) (by kernel_rfl) ?_;repeat(go_big_quiet_step ((fail)))
   refine wpQuiet_nil ?_;intro w6 bq;have fF:Below (w5).heap.size (w5) w6:=by
    obtain⟨pq,rfl⟩:=bq;exact below_regrown _ _ _
   clear bq;go_wp2;go_roundw;case rel=>exact⟨k+1,by omega,by omega,by go_num,Hn.O,dE.trans (fF.mono dE.size)⟩
   case measure=>simp[intOf];omega
  ·have f1:=OP ht;have f3:(x==y)=false:=by simpa using(OQ ht).symm
   have f4:(!(x==y))=true:=by rw[f3];rfl
   have Hn:=Qh (show iU p d=1 by rw[EC.O];exact Xgb ht _ _);go_wp2_with fail
   refine wp_region_quiet_below (by kernel_rfl) (by kernel_rfl) ?_;repeat(go_big_quiet_step ((fail)))
   refine wpQuiet_nil ?_;intro w5 bq;have bM:Below (wr).heap.size (wr) w5:=by
    obtain⟨pq,rfl⟩:=bq;exact below_regrown _ _ _
   clear bq;have dE:=hb.trans (bM.mono hb.size);have gu:=bK bM oG;have GK:=bK bM CO;have g0:=cell_regrown gu;have g1:=cell_regrown GK;clear bM oG CO;go_wp2_with fail
   refine wp_region_quiet_below (by kernel_rfl) (by kernel_rfl) ?_;repeat(go_big_quiet_step ((fail)))
   refine wpQuiet_nil ?_;intro w6 bq;have fF:Below (w5).heap.size (w5) w6:=by
    obtain⟨pq,rfl⟩:=bq;exact below_regrown _ _ _
   clear bq;go_wp2;go_ret;exact⟨di Hn.O.symm,HB.O.trans ((dE.trans (fF.mono dE.size)).mono HB.O.size)⟩
def fu(k:Int):af:=if k=1 then [102,105,108,101]else if k=2 then [100,105,114]else if k=3 then [108,105,110,107]else if k=4 then [114,101,109,111,118,101]else if k=5 then [104,111,108,100]else if k=6 then [114,101,108,101,97,115,101]else []
theorem wO{k:Int}:fu k=[]↔k<1∨6<k:=by
 unfold fu;constructor
 ·intro h;by_cases h1:k<1∨6<k
  ·exact h1
  ·have:k=1∨k=2∨k=3∨k=4∨k=5∨k=6:=by omega
   rcases this with rfl|rfl|rfl|rfl|rfl|rfl<;>simp at h
 ·intro h;rw[if_neg (by omega),if_neg (by omega),if_neg (by omega),if_neg (by omega),if_neg (by omega),if_neg (by omega)]
theorem Xpd(k:Int)(w:World):Calls Tryz.prog 118 #[.int .i64 k] w fun e w'=>e= .returned (S (fu k))∧w'=w:=by
 by_cases h1:k=1;case pos=>
  subst h1;rw[show fu 1=[102,105,108,101]from rfl];go_enter Tryz.func118,Tryz.ntmps118
  go_wp2;go_ret;exact⟨rfl,rfl⟩
 by_cases h2:k=2;case pos=>
  subst h2;rw[show fu 2=[100,105,114]from rfl];go_enter Tryz.func118,Tryz.ntmps118
  go_wp2;go_ret;exact⟨rfl,rfl⟩
 by_cases h3:k=3;case pos=>
  subst h3;rw[show fu 3=[108,105,110,107]from rfl];go_enter Tryz.func118,Tryz.ntmps118
  go_wp2;go_ret;exact⟨rfl,rfl⟩
 by_cases h4:k=4;case pos=>
  subst h4;rw[show fu 4=[114,101,109,111,118,101]from rfl];go_enter Tryz.func118,Tryz.ntmps118
  go_wp2;go_ret;exact⟨rfl,rfl⟩
 by_cases h5:k=5;case pos=>
  subst h5;rw[show fu 5=[104,111,108,100]from rfl];go_enter Tryz.func118,Tryz.ntmps118
  go_wp2;go_ret;exact⟨rfl,rfl⟩
 by_cases h6:k=6;case pos=>
  subst h6;rw[show fu 6=[114,101,108,101,97,115,101]from rfl];go_enter Tryz.func118,Tryz.ntmps118
  go_wp2;go_ret;exact⟨rfl,rfl⟩
 have hn:fu k=[]:=wO.2 (by omega);have f1:(k==1)=false:=by simpa using h1
 have f2:(k==2)=false:=by simpa using h2
 have f3:(k==3)=false:=by simpa using h3
 have f4:(k==4)=false:=by simpa using h4
 have f5:(k==5)=false:=by simpa using h5
 have f6:(k==6)=false:=by simpa using h6
 rw[hn];clear hn h1 h2 h3 h4 h5 h6;go_enter Tryz.func118,Tryz.ntmps118
 go_wp2;go_ret;exact⟨rfl,rfl⟩
def j6(c:UInt8):Bool:=decide (48≤c)&&decide (c≤57)
theorem UB(c:UInt8):j6 c=(decide (48≤c.toNat)&&decide (c.toNat≤57)):=by
 unfold j6;simp[UInt8.le_iff_toNat_le]
theorem Xg(l:af)(c:UInt8):digits (l++[c])=10*digits l+((c.toNat:Int)-48):=by
 simp[digits,List.foldl_append]
theorem Xlx:∀(n:Nat) (l:af),l.length=n→l.all j6=true→0≤digits l∧digits l<10^n:=by
 intro n;induction n with
 |zero=>
  intro l h _;have:l=[]:=List.eq_nil_of_length_eq_zero h;subst this;exact⟨Int.le_refl _,by decide⟩
 |succ n ih=>
  intro l h ha;have bn:l≠[]:=by intro e;rw[e]at h;simp at h
  have e:l=l.dropLast++[l.getLast bn]:=(List.dropLast_concat_getLast bn).symm;have hl:l.dropLast.length=n:=by rw[List.length_dropLast,h];omega
  rw[e,List.all_append,Bool.and_eq_true]at ha;obtain⟨i1,i2⟩:=ih _ hl ha.1;have hc:=ha.2;simp only[List.all_cons,List.all_nil,Bool.and_true]at hc;rw[UB,Bool.and_eq_true,decide_eq_true_iff,decide_eq_true_iff]at hc;rw[e,Xg,Int.pow_succ];generalize digits l.dropLast=d at i1 i2;generalize((10:Int)^n)=p at i1 i2 ⊢;omega
def kW(s:af):Int×Bool:=if s.length<1∨10<s.length∨(1<s.length∧s.head?=some 48)∨s.all j6=false then(0,false)else(digits s,decide (digits s≤1000000000))
theorem Xur(s:af):(kW s).2=fK s:=by
 unfold kW fK;have hd:(fun c:UInt8=>decide (48≤c)&&decide (c≤57))=j6:=rfl;rw[hd];by_cases h1:s.length<1
 ·rw[if_pos (.inl h1),Qf (by omega)];rfl
 by_cases h2:10<s.length
 ·rw[if_pos (.inr (.inl h2)),Qf (show ¬s.length≤10 by omega)];simp
 by_cases h3:1<s.length∧s.head?=some 48
 ·rw[if_pos (.inr (.inr (.inl h3)))];have:(decide (1<s.length)&&s.head?==some 48)=true:=by rw[Qt h3.1,h3.2];rfl
  rw[this];simp
 have h3':(decide (1<s.length)&&s.head?==some 48)=false:=by
  cases h:(decide (1<s.length)&&s.head?==some 48)with
  |false=>rfl
  |true=>
   rw[Bool.and_eq_true,decide_eq_true_iff,beq_iff_eq]at h;exact absurd h h3
 rw[h3',Qt (show 1≤s.length by omega),Qt (show s.length≤10 by omega)];cases h4:s.all j6
 ·rw[if_pos (.inr (.inr (.inr rfl)))];simp
 ·rw[if_neg (by simp[h1,h2,h3])];simp
theorem Xpe(s:af)(hs:s.length≤9223372036854775807)(w:World):
 Calls Tryz.prog 172 #[S s] w fun e w'=>e= .returned (.tuple #[.int .i64 (kW s).1,.bool (kW s).2])∧Below w.heap.size w w':=by
 by_cases h1:s.length<1;case pos=>
  have ng:decide (s.length<1)=true:=Qt h1;have Hp:=Qh (show kW s=(0,false) by rw[kW,if_pos (.inl h1)]);go_enter Tryz.func172,Tryz.ntmps172
  go_wp2;go_ret2;rw[Hp.O];exact⟨rfl,Qb _ _⟩
 have ng:decide (s.length<1)=false:=Qf h1;by_cases h2:10<s.length;case pos=>
  have rR:decide (10<s.length)=true:=Qt h2;have Hp:=Qh (show kW s=(0,false) by rw[kW,if_pos (.inr (.inl h2))]);go_enter Tryz.func172,Tryz.ntmps172
  go_wp2;go_ret2;rw[Hp.O];exact⟨rfl,Qb _ _⟩
 have rR:decide (10<s.length)=false:=Qf h2;have oG:=gm Tryz.underlying9 s 0 0 rfl (by omega);have Wh:((((s.getD 0 0).toNat:Nat):Int)==48)=(s.getD 0 0==UInt8.ofNat 48):=Ux (s.getD 0 0) 48 (by decide);have hh:s.head?=some (s.getD 0 0):=by cases s<;>simp_all
 have nW:(1<s.length∧s.head?=some 48)∨ ¬(1<s.length∧s.head?=some 48):=Classical.em _;rcases nW with h3|h3
 ·have GL:decide (1<s.length)=true:=Qt h3.1;have he1:(((s.getD 0 0).toNat:Int)==48)=true:=by
   rw[Wh];have:=h3.2;rw[hh]at this;rw[Option.some.inj this];rfl
  have Hp:=Qh (show kW s=(0,false) by rw[kW,if_pos (.inr (.inr (.inl h3)))]);generalize(s.getD 0 0).toNat=c0 at oG he1;have vH:c0=48:=by have:=beq_iff_eq.1 he1;omega
  subst vH;have h5:=h3.1;clear h3 Wh hh he1;go_enter Tryz.func172,Tryz.ntmps172
  go_wp2;go_ret2;rw[Hp.O];exact⟨rfl,Qb _ _⟩
 ·have Hp:=Qh (show kW s=if s.all j6=false then(0,false)else(digits s,decide (digits s≤1000000000)) by
   rw[kW];by_cases h4:s.all j6=false
   ·rw[if_pos (.inr (.inr (.inr h4))),if_pos h4]
   ·rw[if_neg (by simp[h1,h2,h3];simpa using h4),if_neg h4])
  have lU:(¬1<s.length∧decide (1<s.length)=false)∨(1<s.length∧decide (1<s.length)=true∧(((s.getD 0 0).toNat:Int)==48)=false):=by
   by_cases h5:1<s.length
   ·right;refine⟨h5,Qt h5,?_⟩;rw[Wh,beq_eq_false_iff_ne];intro e;exact h3 ⟨h5,by rw[hh,e];rfl⟩
   ·exact .inl ⟨h5,Qf h5⟩
  generalize(s.getD 0 0).toNat=c0 at oG lU;clear h3 Wh hh;have H10:s.length≤10:=by omega
  rcases lU with⟨h5,GL⟩|⟨h5,GL,he3⟩
  all_goals
   go_enter Tryz.func172,Tryz.ntmps172
   go_wp2_with fail
   go_loop [4,5] (fun s4 s5=> ∃k:Nat,k≤s.length∧s5= .int .i64 k∧s4= .int .i64 (digits (s.take k))∧(s.take k).all j6=true) (fun _ i=>s.length-(intOf i).toNat)
   case atStart=>exact⟨0,Nat.zero_le _,rfl,rfl,rfl⟩
   case round=>
    obtain⟨k,hk,rfl,rfl,hr⟩:=hrel;have CS:=Xlx k (s.take k) (by rw[List.length_take];omega) hr;have Hr:=Qh hr;clear hr;by_cases hlt:k<s.length
    ·have hx:=gm Tryz.underlying9 s (k:Int) k rfl hlt;have J8:=UB (s.getD k 0);have hpk:(10:Int)^k≤10000000000:=by
      have:(10:Nat)^k≤10^10:=Nat.pow_le_pow_right (by decide) (by omega);have h2:((10^k:Nat):Int)≤((10^10:Nat):Int):=by exact_mod_cast this
      simpa using h2
     have rQ:s.take (k+1)=s.take k++[s.getD k 0]:=by rw[List.take_succ_eq_append_getElem hlt];simp[List.getD,hlt]
     have GM:digits (s.take (k+1))=10*digits (s.take k)+(((s.getD k 0).toNat:Int)-48):=by rw[rQ,Xg]
     have sO:s.getD k 0∈s:=by simp[List.getD,hlt]
     have tQ:(s.getD k 0).toNat<256:=(s.getD k 0).toNat_lt;generalize s.getD k 0=ch at J8 rQ hx tQ GM sO;generalize ch.toNat=c at J8 hx tQ GM;generalize digits (s.take k)=n at CS GM ⊢;generalize((10:Int)^k)=p10 at CS hpk;have ny:=Qh rQ;have Xh:=Qh GM;have Aj:=Qh sO;clear rQ GM sO;by_cases uG:48≤c;case neg=>
      have d48:decide ((c:Int)<48)=true:=Qt (by omega);have Hn:=Qh (show kW s=(0,false) by
       rw[Hp.O,if_pos];cases h:s.all j6 with
       |false=>rfl
       |true=>
        have:=List.all_eq_true.1 h ch Aj.O;rw[J8,Qf uG]at this;exact absurd this (by simp))
      clear J8 uG;go_wp2;go_ret2;rw[Hn.O];exact⟨rfl,Qb _ _⟩
     have d48:decide ((c:Int)<48)=false:=Qf (by omega);by_cases yj:c≤57;case neg=>
      have d57:decide (57<(c:Int))=true:=Qt (by omega);have Hn:=Qh (show kW s=(0,false) by
       rw[Hp.O,if_pos];cases h:s.all j6 with
       |false=>rfl
       |true=>
        have:=List.all_eq_true.1 h ch Aj.O;rw[J8,Qf yj]at this;exact absurd this (by simp))
      clear J8 yj;go_wp2;go_ret2;rw[Hn.O];exact⟨rfl,Qb _ _⟩
     have d57:decide (57<(c:Int))=false:=Qf (by omega);have Hdc:=Qh (show j6 ch=true by rw[J8,Qt uG,Qt yj];rfl);clear J8;go_wp2;go_round;case rel=>exact⟨k+1,by omega,by go_num,by rw[Xh.O];go_num,by rw[ny.O,List.all_append,Hr.O];simp[Hdc.O]⟩
     case measure=>simp[intOf];omega
    ·have aC:s.take k=s:=List.take_of_length_le (by omega);rw[aC]at Hr CS ⊢;have Hn:=Qh (show kW s=(digits s,decide (digits s≤1000000000)) by rw[Hp.O,if_neg (by rw[Hr.O];simp)]);clear aC;go_wp2;go_ret2;rw[Hn.O];exact⟨rfl,Qb _ _⟩
theorem Xh1:∀(B p:af),(∀c∈B,c≠47)→dR p B=[p++B]
 | [],p,_=>by rw[dR,List.append_nil]
 |c::B,p,h=>by
  have hc:(c==47)=false:=by simpa using h c (List.mem_cons_self ..)
  rw[dR,hc];simp only[Bool.false_eq_true,if_false];rw[Xh1 B (p++[c]) fun d hd=>h d (List.mem_cons_of_mem _ hd)];simp
def fG(s:af):af:=Lib.itoa s.length++[58]++s++[44]
def iA:List af→af
 | []=> []
 |s::l=>fG s++iA l
def gB(n:Int):af:=Lib.itoa n++[32]
theorem Xf8(l m:List af):iA (l++m)=iA l++iA m:=by
 induction l with
 |nil=>rfl
 |cons s l ih=>rw[List.cons_append,iA,iA,ih,List.append_assoc]
theorem Xiz(n w:Nat)(hn:n<10^w)(hw:1≤w):Lib.nDigits n≤w:=by
 induction w generalizing n with
 |zero=>omega
 |succ w ih=>
  by_cases h:n<10
  ·rw[Lib.nDigits_small h];omega
  ·rw[Lib.nDigits_big h];rw[Nat.pow_succ]at hn;rcases Nat.eq_zero_or_pos w with h0|h0
   ·subst h0;simp at hn;omega
   ·have:=ih (n / 10) (by omega) h0;omega
theorem Qs(n:Nat)(h:n≤140737488355328):(Lib.itoa (n:Int)).length≤16:=by
 have:Lib.itoa (n:Int)=Lib.decDigits n:=by simp[Lib.itoa]
 rw[this,Lib.decDigits_length];exact Xiz n 16 (by omega) (by omega)
theorem yw(s:af)(h:s.length≤100000000):(fG s).length≤s.length+18:=by
 have:=Qs s.length (by omega);simp[fG];omega
theorem Ib(n:Nat)(h:n≤140737488355328):(gB n).length≤17:=by
 have:=Qs n h;simp[gB];omega
structure ajH (x:aT):Prop where
 au:x.au=1∨x.au=2∨x.au=3
 Lv:x.aj.length≤16
 UC:∀a∈x.aj,a.k.length≤32∧a.v.length≤64
 target:x.target.length≤200
 s0:0≤x.size
 s1:x.size≤65536
 av:x.av.length≤32
 ag:x.ag.length≤200
 deep:(els x.ag).length≤8
theorem Xh6:∀{l:List At} {p:Option At},dW p l=0→ ∀a∈l,a.k.length≤32∧a.v.length≤64
 | [],_,_,a,ha=>by cases ha
 |x::l,p,h,a,ha=>by
  unfold dW at h;by_cases h1:fQ x≠0
  ·rw[if_pos h1]at h;exact absurd h h1
  rw[if_neg h1]at h;split at h
  ·omega
  split at h
  ·omega
  rcases List.mem_cons.1 ha with rfl|ha
  ·have h2:fQ a=0:=by omega
   unfold fQ at h2;split at h2
   ·omega
   rename_i hk;split at h2
   ·omega
   simp[lG]at hk;omega
  ·exact Xh6 h a ha
theorem Xwt(h:mK l=0):l.length≤16∧ ∀a∈l,a.k.length≤32∧a.v.length≤64:=by
 unfold mK at h;split at h
 ·omega
 ·exact⟨by omega,Xh6 h⟩
def acR:aT:=⟨2,[],[],[],0,[],[]⟩
def Deep(n:Nat)(x:aT):Prop:=10≤(els x.ag).length+n
section
variable (H:af→af) (hH:∀s,(H s).length≤32)
abbrev Qu(n:Nat)(t:List aT)(x:aT):af:=JW H fG gB fu n t x
abbrev Lx(x:aT):af:=Ai fG gB fu x
theorem Xi(k:Int):(fu k).length≤7:=by
 unfold fu;repeat' split
 all_goals simp
def Ak(l:List At):af:=gB l.length++l.flatMap fun a=>fG a.k++fG a.v
theorem Xj:∀(l:List At),(∀a∈l,a.k.length≤32∧a.v.length≤64)→(l.flatMap fun a=>fG a.k++fG a.v).length≤132*l.length
 | [],_=>by simp
 |a::l,h=>by
  have h1:=h a (List.mem_cons_self ..);have h2:=Xj l fun b hb=>h b (List.mem_cons_of_mem _ hb);have h3:=yw a.k (by omega);have h4:=yw a.v (by omega);simp only[List.flatMap_cons,List.length_append,List.length_cons];omega
theorem Xu1(hn:l.length≤16)(h:∀a∈l,a.k.length≤32∧a.v.length≤64):(Ak l).length≤2200:=by
 have h1:=Xj l h;have h2:=Ib l.length (by omega);unfold Ak;rw[List.length_append];omega
def UD(n:Nat)(t:List aT)(x:aT)(l:List aT):af:=Lx x++gB (EA t x.ag).length++l.flatMap fun y=>fG (JV y.ag)++fG (Qu H n t y)
end
def mo(d m x:Int):Int:=bits .or .u32 (x / d) (x*m%4294967296)
theorem UE(k:IntKind)(x y:Int):bits .or k x y=bits .or k y x:=by
 simp only[bits,BitVec.or_comm]
def uK(k d m:Int):Prop:=(k=16∧d=65536∧m=65536)∨(k=12∧d=4096∧m=1048576)∨(k=8∧d=256∧m=16777216)∨(k=7∧d=128∧m=33554432)
theorem UF(x:Int)(k d m:Int)(hk:uK k d m)(w:World):
 Calls Tryz.prog 245 #[.int .u32 x,.int .i64 (-k)] w fun e w'=>e= .returned (.int .u32 (mo d m x))∧w'=w:=by
 rcases hk with⟨rfl,rfl,rfl⟩|⟨rfl,rfl,rfl⟩|⟨rfl,rfl,rfl⟩|⟨rfl,rfl,rfl⟩
 ·have e1:IntKind.u64.wrap (-16)=18446744073709551600:=by decide
  have e2:bits .and .u64 18446744073709551600 31=16:=by decide
  go_enter Tryz.func245,Tryz.ntmps245
  go_wp2;go_ret;exact⟨di (UE _ _ _),rfl⟩
 ·have e1:IntKind.u64.wrap (-12)=18446744073709551604:=by decide
  have e2:bits .and .u64 18446744073709551604 31=20:=by decide
  go_enter Tryz.func245,Tryz.ntmps245
  go_wp2;go_ret;exact⟨di (UE _ _ _),rfl⟩
 ·have e1:IntKind.u64.wrap (-8)=18446744073709551608:=by decide
  have e2:bits .and .u64 18446744073709551608 31=24:=by decide
  go_enter Tryz.func245,Tryz.ntmps245
  go_wp2;go_ret;exact⟨di (UE _ _ _),rfl⟩
 ·have e1:IntKind.u64.wrap (-7)=18446744073709551609:=by decide
  have e2:bits .and .u64 18446744073709551609 31=25:=by decide
  go_enter Tryz.func245,Tryz.ntmps245
  go_wp2;go_ret;exact⟨di (UE _ _ _),rfl⟩
theorem Xk0(x:Int)(k d m:Int)(hk:uK k d m)(w:World):
 Calls Tryz.prog 249 #[.int .u32 x,.int .u64 k] w fun e w'=>e= .returned (.int .u32 (mo d m x))∧w'=w:=by
 rcases hk with⟨rfl,rfl,rfl⟩|⟨rfl,rfl,rfl⟩|⟨rfl,rfl,rfl⟩|⟨rfl,rfl,rfl⟩
 all_goals
  go_enter Tryz.func249,Tryz.ntmps249
  go_wp2;go_ret;exact⟨di rfl,rfl⟩
def row(l:List Int):Array Value:=(l.map fun x=>Value.int .u32 x).toArray
@[simp] theorem bG (l:List Int):(row l).size=l.length:=by simp[row]
theorem pG{l:List Int}(h:i<l.length):(row l)[i]?=some (.int .u32 (l.getD i 0)):=by
 simp[row,List.getD,List.getElem?_eq_getElem h]
theorem Xvw(l:List Int)(i:Nat)(v:Int):(row l).setIfInBounds i (.int .u32 v)=row (l.set i v):=by
 simp[row,List.map_set]
theorem heap_setCell{b:Nat}{l:List Int}{t:TypeId}{f:Nat×Nat}(v:Int)(h:w.heap[b]?=some (.cells (row l) t f)):(w.setCell ⟨b,i,none⟩ (.int .u32 v)).heap[b]?=some (.cells (row (l.set i v)) t f):=by
 unfold World.setCell;rw[Array.getElem?_modify,if_pos rfl,h];simp[Xvw]
theorem UG(w:World)(a:Addr)(u:Value):w.grownBy (w.setCell a u) (some a.block):=
 ⟨rfl,rfl,rfl,by simp[World.setCell],fun k _ bn=>Below.heap_setCell _ _ _ _ (fun e=>bn (by rw[e]))⟩
theorem Xnd{B:Nat}(h:Below B w w')(hB:w.heap.size≤B):w.grownBy w' r:=
 ⟨h.os,h.tape,h.output,h.size,fun k hk _=>h.block k (by omega)⟩
theorem UH{w1 w2:World}(h:w.grownBy w1 r)(k:w1.grownBy w2 r):w.grownBy w2 r:=
 ⟨k.os.trans h.os,k.tape.trans h.tape,k.output.trans h.output,Nat.le_trans h.size k.size,fun j hj bn=>(k.block j (Nat.lt_of_lt_of_le hj h.size) bn).trans (h.block j hj bn)⟩
theorem Xpy(h:w.grownBy w' r):w.grownBy w'.drew r:=⟨h.os,h.tape,h.output,h.size,h.block⟩
def tZ(a b c d x y:Int):Int×Int×Int×Int:=
 let a1:=(a+(b+x))%4294967296
 let d1:=mo 65536 65536 (bits .xor .u32 d a1)
 let c1:=(c+d1)%4294967296
 let b1:=mo 4096 1048576 (bits .xor .u32 b c1)
 let a2:=(a1+(b1+y))%4294967296
 let d2:=mo 256 16777216 (bits .xor .u32 d1 a2)
 let c2:=(c1+d2)%4294967296
 (a2,mo 128 33554432 (bits .xor .u32 b1 c2),c2,d2)
def oh(l:List Int)(a b c d:Nat)(x y:Int):List Int:=
 let r:=tZ (l.getD a 0) (l.getD b 0) (l.getD c 0) (l.getD d 0) x y
 (((l.set a r.1).set b r.2.1).set c r.2.2.1).set d r.2.2.2
theorem Xk(l:List Int)(a b c d:Nat)(x y:Int):(oh l a b c d x y).length=l.length:=by simp[oh]
