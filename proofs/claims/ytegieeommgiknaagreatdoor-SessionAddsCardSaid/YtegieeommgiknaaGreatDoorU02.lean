/- Lemmas for the claim's theorem;conditions: as each says. -/
import Derived.Test.YtegieeommgiknaaGreatDoorU01
set_option maxHeartbeats 0
set_option maxRecDepth 100000
set_option linter.all false
namespace Go.Proofs.YtegieeommgiknaaGreatDoor
open Go.RowKit
variable{e:bD}{n:Nat}{va vx:Value}{w w':World}
def gp(k:Int):af:=if k=1 then [102,105,108,101]else if k=2 then [100,105,114]else if k=3 then [108,105,110,107]else if k=4 then [114,101,109,111,118,101]else if k=5 then [104,111,108,100]else if k=6 then [114,101,108,101,97,115,101]else []
theorem za{k:Int}:gp k=[]↔k<1∨6<k:=by
 unfold gp;constructor
 ·intro h;by_cases h1:k<1∨6<k
  ·exact h1
  ·have:k=1∨k=2∨k=3∨k=4∨k=5∨k=6:=by omega
   rcases this with rfl|rfl|rfl|rfl|rfl|rfl<;>simp at h
 ·intro h;rw[if_neg (by omega),if_neg (by omega),if_neg (by omega),if_neg (by omega),if_neg (by omega),if_neg (by omega)]
theorem Xjh(k:Int)(w:World):Calls Tryz.prog 85 #[.int .i64 k] w fun e w'=>e= .returned (S (gp k))∧w'=w:=by
 by_cases h1:k=1;case pos=>
  subst h1;rw[show gp 1=[102,105,108,101]from rfl];go_enter Tryz.func85,Tryz.ntmps85
  go_wp2;go_ret;exact⟨rfl,rfl⟩
 by_cases h2:k=2;case pos=>
  subst h2;rw[show gp 2=[100,105,114]from rfl];go_enter Tryz.func85,Tryz.ntmps85
  go_wp2;go_ret;exact⟨rfl,rfl⟩
 by_cases h3:k=3;case pos=>
  subst h3;rw[show gp 3=[108,105,110,107]from rfl];go_enter Tryz.func85,Tryz.ntmps85
  go_wp2;go_ret;exact⟨rfl,rfl⟩
 by_cases h4:k=4;case pos=>
  subst h4;rw[show gp 4=[114,101,109,111,118,101]from rfl];go_enter Tryz.func85,Tryz.ntmps85
  go_wp2;go_ret;exact⟨rfl,rfl⟩
 by_cases h5:k=5;case pos=>
  subst h5;rw[show gp 5=[104,111,108,100]from rfl];go_enter Tryz.func85,Tryz.ntmps85
  go_wp2;go_ret;exact⟨rfl,rfl⟩
 by_cases h6:k=6;case pos=>
  subst h6;rw[show gp 6=[114,101,108,101,97,115,101]from rfl];go_enter Tryz.func85,Tryz.ntmps85
  go_wp2;go_ret;exact⟨rfl,rfl⟩
 have hn:gp k=[]:=za.2 (by omega);have f1:(k==1)=false:=by simpa using h1
 have f2:(k==2)=false:=by simpa using h2
 have f3:(k==3)=false:=by simpa using h3
 have f4:(k==4)=false:=by simpa using h4
 have f5:(k==5)=false:=by simpa using h5
 have f6:(k==6)=false:=by simpa using h6
 rw[hn];clear hn h1 h2 h3 h4 h5 h6;go_enter Tryz.func85,Tryz.ntmps85
 go_wp2;go_ret;exact⟨rfl,rfl⟩
def lF(c:UInt8):Bool:=decide (48≤c)&&decide (c≤57)
theorem Ya(c:UInt8):lF c=(decide (48≤c.toNat)&&decide (c.toNat≤57)):=by
 unfold lF;simp[UInt8.le_iff_toNat_le]
theorem Xfg(l:af)(c:UInt8):digits (l++[c])=10*digits l+((c.toNat:Int)-48):=by
 simp[digits,List.foldl_append]
theorem Xmt:∀(n:Nat) (l:af),l.length=n→l.all lF=true→0≤digits l∧digits l<10^n:=by
 intro n;induction n with
 |zero=>
  intro l h _;have:l=[]:=List.eq_nil_of_length_eq_zero h;subst this;exact⟨Int.le_refl _,by decide⟩
 |succ n ih=>
  intro l h ha;have bq:l≠[]:=by intro e;rw[e]at h;simp at h
  have e:l=l.dropLast++[l.getLast bq]:=(List.dropLast_concat_getLast bq).symm;have hl:l.dropLast.length=n:=by rw[List.length_dropLast,h];omega
  rw[e,List.all_append,Bool.and_eq_true]at ha;obtain⟨i1,i2⟩:=ih _ hl ha.1;have hc:=ha.2;simp only[List.all_cons,List.all_nil,Bool.and_true]at hc;rw[Ya,Bool.and_eq_true,decide_eq_true_iff,decide_eq_true_iff]at hc;rw[e,Xfg,Int.pow_succ];generalize digits l.dropLast=d at i1 i2;generalize((10:Int)^n)=p at i1 i2 ⊢;omega
def mI(s:af):Int×Bool:=if s.length<1∨10<s.length∨(1<s.length∧s.head?=some 48)∨s.all lF=false then(0,false)else(digits s,decide (digits s≤1000000000))
theorem Xu4(s:af):(mI s).2=il s:=by
 unfold mI il;have hd:(fun c:UInt8=>decide (48≤c)&&decide (c≤57))=lF:=rfl;rw[hd];by_cases h1:s.length<1
 ·rw[if_pos (.inl h1),Qf (by omega)];rfl
 by_cases h2:10<s.length
 ·rw[if_pos (.inr (.inl h2)),Qf (show ¬s.length≤10 by omega)];simp
 by_cases h3:1<s.length∧s.head?=some 48
 ·rw[if_pos (.inr (.inr (.inl h3)))];have:(decide (1<s.length)&&s.head?==some 48)=true:=by rw[Qt h3.1,h3.2];rfl
  rw[this];simp
 have h3':(decide (1<s.length)&&s.head?==some 48)=false:=by
  cases h:(decide (1<s.length)&&s.head?==some 48)with
  |false=>rfl
  |true=>
   rw[Bool.and_eq_true,decide_eq_true_iff,beq_iff_eq]at h;exact absurd h h3
 rw[h3',Qt (show 1≤s.length by omega),Qt (show s.length≤10 by omega)];cases h4:s.all lF
 ·rw[if_pos (.inr (.inr (.inr rfl)))];simp
 ·rw[if_neg (by simp[h1,h2,h3])];simp
theorem Xqe(s:af)(hs:s.length≤9223372036854775807)(w:World):
 Calls Tryz.prog 141 #[S s] w fun e w'=>e= .returned (.tuple #[.int .i64 (mI s).1,.bool (mI s).2])∧Below w.heap.size w w':=by
 by_cases h1:s.length<1;case pos=>
  have pF:decide (s.length<1)=true:=Qt h1;have Hp:=Qh (show mI s=(0,false) by rw[mI,if_pos (.inl h1)]);go_enter Tryz.func141,Tryz.ntmps141
  go_wp2;go_ret2;rw[Hp.O];exact⟨rfl,Qb _ _⟩
 have pF:decide (s.length<1)=false:=Qf h1;by_cases h2:10<s.length;case pos=>
  have uS:decide (10<s.length)=true:=Qt h2;have Hp:=Qh (show mI s=(0,false) by rw[mI,if_pos (.inr (.inl h2))]);go_enter Tryz.func141,Tryz.ntmps141
  go_wp2;go_ret2;rw[Hp.O];exact⟨rfl,Qb _ _⟩
 have uS:decide (10<s.length)=false:=Qf h2;have ni:=iG Tryz.underlying9 s 0 0 rfl (by omega);have Zt:((((s.getD 0 0).toNat:Nat):Int)==48)=(s.getD 0 0==UInt8.ofNat 48):=XZ (s.getD 0 0) 48 (by decide);have hh:s.head?=some (s.getD 0 0):=by cases s<;>simp_all
 have qw:(1<s.length∧s.head?=some 48)∨ ¬(1<s.length∧s.head?=some 48):=Classical.em _;rcases qw with h3|h3
 ·have Ko:decide (1<s.length)=true:=Qt h3.1;have he1:(((s.getD 0 0).toNat:Int)==48)=true:=by
   rw[Zt];have:=h3.2;rw[hh]at this;rw[Option.some.inj this];rfl
  have Hp:=Qh (show mI s=(0,false) by rw[mI,if_pos (.inr (.inr (.inl h3)))]);generalize(s.getD 0 0).toNat=c0 at ni he1;have tq:c0=48:=by have:=beq_iff_eq.1 he1;omega
  subst tq;have h5:=h3.1;clear h3 Zt hh he1;go_enter Tryz.func141,Tryz.ntmps141
  go_wp2;go_ret2;rw[Hp.O];exact⟨rfl,Qb _ _⟩
 ·have Hp:=Qh (show mI s=if s.all lF=false then(0,false)else(digits s,decide (digits s≤1000000000)) by
   rw[mI];by_cases h4:s.all lF=false
   ·rw[if_pos (.inr (.inr (.inr h4))),if_pos h4]
   ·rw[if_neg (by simp[h1,h2,h3];simpa using h4),if_neg h4])
  have nS:(¬1<s.length∧decide (1<s.length)=false)∨(1<s.length∧decide (1<s.length)=true∧(((s.getD 0 0).toNat:Int)==48)=false):=by
   by_cases h5:1<s.length
   ·right;refine⟨h5,Qt h5,?_⟩;rw[Zt,beq_eq_false_iff_ne];intro e;exact h3 ⟨h5,by rw[hh,e];rfl⟩
   ·exact .inl ⟨h5,Qf h5⟩
  generalize(s.getD 0 0).toNat=c0 at ni nS;clear h3 Zt hh;have H10:s.length≤10:=by omega
  rcases nS with⟨h5,Ko⟩|⟨h5,Ko,he3⟩
  all_goals
   go_enter Tryz.func141,Tryz.ntmps141
   go_wp2_with fail
   go_loop [4,5] (fun s4 s5=> ∃k:Nat,k≤s.length∧s5= .int .i64 k∧s4= .int .i64 (digits (s.take k))∧(s.take k).all lF=true) (fun _ i=>s.length-(intOf i).toNat)
   case atStart=>exact⟨0,Nat.zero_le _,rfl,rfl,rfl⟩
   case round=>
    obtain⟨k,hk,rfl,rfl,hr⟩:=hrel;have FB:=Xmt k (s.take k) (by rw[List.length_take];omega) hr;have Hr:=Qh hr;clear hr;by_cases hlt:k<s.length
    ·have hx:=iG Tryz.underlying9 s (k:Int) k rfl hlt;have Nj:=Ya (s.getD k 0);have hpk:(10:Int)^k≤10000000000:=by
      have:(10:Nat)^k≤10^10:=Nat.pow_le_pow_right (by decide) (by omega);have h2:((10^k:Nat):Int)≤((10^10:Nat):Int):=by exact_mod_cast this
      simpa using h2
     have pE:s.take (k+1)=s.take k++[s.getD k 0]:=by rw[List.take_succ_eq_append_getElem hlt];simp[List.getD,hlt]
     have Kq:digits (s.take (k+1))=10*digits (s.take k)+(((s.getD k 0).toNat:Int)-48):=by rw[pE,Xfg]
     have qK:s.getD k 0∈s:=by simp[List.getD,hlt]
     have wC:(s.getD k 0).toNat<256:=(s.getD k 0).toNat_lt;generalize s.getD k 0=ch at Nj pE hx wC Kq qK;generalize ch.toNat=c at Nj hx wC Kq;generalize digits (s.take k)=n at FB Kq ⊢;generalize((10:Int)^k)=p10 at FB hpk;have mq:=Qh pE;have Hds:=Qh Kq;have Df:=Qh qK;clear pE Kq qK;by_cases rJ:48≤c;case neg=>
      have d48:decide ((c:Int)<48)=true:=Qt (by omega);have Hn:=Qh (show mI s=(0,false) by
       rw[Hp.O,if_pos];cases h:s.all lF with
       |false=>rfl
       |true=>
        have:=List.all_eq_true.1 h ch Df.O;rw[Nj,Qf rJ]at this;exact absurd this (by simp))
      clear Nj rJ;go_wp2;go_ret2;rw[Hn.O];exact⟨rfl,Qb _ _⟩
     have d48:decide ((c:Int)<48)=false:=Qf (by omega);by_cases rH:c≤57;case neg=>
      have d57:decide (57<(c:Int))=true:=Qt (by omega);have Hn:=Qh (show mI s=(0,false) by
       rw[Hp.O,if_pos];cases h:s.all lF with
       |false=>rfl
       |true=>
        have:=List.all_eq_true.1 h ch Df.O;rw[Nj,Qf rH]at this;exact absurd this (by simp))
      clear Nj rH;go_wp2;go_ret2;rw[Hn.O];exact⟨rfl,Qb _ _⟩
     have d57:decide (57<(c:Int))=false:=Qf (by omega);have Hdc:=Qh (show lF ch=true by rw[Nj,Qt rJ,Qt rH];rfl);clear Nj;go_wp2;go_round;case rel=>exact⟨k+1,by omega,by go_num,by rw[Hds.O];go_num,by rw[mq.O,List.all_append,Hr.O];simp[Hdc.O]⟩
     case measure=>simp[intOf];omega
    ·have au:s.take k=s:=List.take_of_length_le (by omega);rw[au]at Hr FB ⊢;have Hn:=Qh (show mI s=(digits s,decide (digits s≤1000000000)) by rw[Hp.O,if_neg (by rw[Hr.O];simp)]);clear au;go_wp2;go_ret2;rw[Hn.O];exact⟨rfl,Qb _ _⟩
def abw(x:At):Bool:=decide (100<x.k.length) || decide (100<x.v.length)
def O0(l:List At):Int:=if 30<l.length then 1 else if l.any abw then 1 else 0
theorem Xp7(a b:At)(W:World):(binOp .neq 60 (.agg #[S a.k,S a.v]) (.agg #[S b.k,S b.v])).run Tryz.prog W= .ok (.bool (!decide (a=b))) W:=by
 rw[Tv _ _ [(9,0,false),(9,1,false)] W (by kernel_rfl) (by kernel_rfl) (by kernel_rfl)];obtain⟨a1,a2⟩:=a;obtain⟨b1,b2⟩:=b;simp[go_sem];by_cases h1:a1=b1<;>by_cases h2:a2=b2<;>simp[h1,h2]
theorem Xqi(I:IH)(v1 v2:Value)(l1 l2:List At)(ny:aZ nk I v1 l1)(pY:aZ nk I v2 l2)(w:World)(hw:Ok I w):
 Calls Tryz.prog 109 #[v1,v2] w fun e w'=>e= .returned (.bool (decide (l1=l2)))∧Below w.heap.size w w':=by
 have hlen:=ny.bL;have Ez:=pY.bL;obtain⟨ao,cap,rfl,fu,iv,_⟩:=id ny;obtain⟨qN,cap2,rfl,rG,tZ,_⟩:=id pY;have KE:=Qh ny;clear ny;have KF:=Qh pY;clear pY;by_cases Cg:l1.length=l2.length
 ·have hn:((l1.length:Int) !=(l2.length:Int))=false:=by rw[Cg];simp
  have JU:=Qh Cg;clear Cg;go_enter Tryz.func109,Tryz.ntmps109
  go_wp2;go_loopw [5] (fun s5 wr=> ∃k:Nat,k≤l1.length∧s5= .int .i64 k∧l1.take k=l2.take k∧Below w.heap.size w wr) (fun i _=>l1.length-(intOf i).toNat)
  case atStart=>exact⟨0,Nat.zero_le _,rfl,rfl,Qb _ _⟩
  case round=>
   obtain⟨k,hk,rfl,hr,hb⟩:=hrel;have Hr:=Qh hr;clear hr;by_cases hlt:k<l1.length
   ·have kg:k<l2.length:=by rw[←JU.O];exact hlt
    have eX:Ok I wr:=hw.below (Qn _) hb;obtain⟨p,b,off,cap',hp,dC,QL,Zu⟩:=yD KE.O eX k hlt;cases dC;obtain⟨q,b',off',sN,hq,dC,SX,rF⟩:=yD KF.O eX k kg;cases dC;have Hp:=Qh hp;clear hp;have Hq:=Qh hq;clear hq;have Ki:=cell_regrown QL;have hg1:=cell_regrown Zu;have Gv:=cell_regrown SX;have Kn:=cell_regrown rF;have yS:=Xp7 p q;by_cases sZ:p=q
    ·rw[Qt sZ]at yS;go_wp2_with fail
     refine wp_region_quiet_below (by kernel_rfl) (by kernel_rfl) ?_;repeat(go_big_quiet_step ((fail)))
     refine wpQuiet_nil ?_;intro w2 bJ;have aL:Below (wr).heap.size (wr) w2:=by
      obtain⟨pq,rfl⟩:=bJ;exact below_regrown _ _ _
     clear bJ;go_wp2;go_roundw;case rel=>exact⟨k+1,by omega,by go_num,by rw[List.take_succ_eq_append_getElem hlt,List.take_succ_eq_append_getElem kg,Hr.O,Hp.O,Hq.O,sZ],hb.trans (aL.mono hb.size)⟩
     case measure=>simp[intOf];omega
    ·rw[Qf sZ]at yS;go_wp2_with fail
     refine wp_region_quiet_below (by kernel_rfl) (by kernel_rfl) ?_;repeat(go_big_quiet_step ((fail)))
     refine wpQuiet_nil ?_;intro w2 bJ;have aL:Below (wr).heap.size (wr) w2:=by
      obtain⟨pq,rfl⟩:=bJ;exact below_regrown _ _ _
     clear bJ;go_wp2;go_ret;refine⟨jr ?_,hb.trans (aL.mono hb.size)⟩;symm;rw[decide_eq_false_iff_not];intro h;apply sZ;rw[←Hp.O,←Hq.O];simp[h]
   ·go_wp2;go_ret;refine⟨jr ?_,hb⟩;symm;rw[decide_eq_true_iff];have:=Hr.O;rwa[List.take_of_length_le (by omega),List.take_of_length_le (by rw[←JU.O];omega)]at this
 ·have hn:((l1.length:Int) !=(l2.length:Int))=true:=by rw[bne_iff_ne];omega
  go_enter Tryz.func109,Tryz.ntmps109
  go_wp2;go_ret;exact⟨jr (by simp;intro h;exact Cg (by rw[h])),Qb _ _⟩
theorem Xn6(c:UInt8):cZ c=(decide (97≤c.toNat)&&decide (c.toNat≤122) || decide (48≤c.toNat)&&decide (c.toNat≤57) || decide (c.toNat=46) || decide (c.toNat=95) || decide (c.toNat=45)):=by
 have e:∀n:Nat,n<256→(c==UInt8.ofNat n)=decide (c.toNat=n):=fun n hn=>by
  rw[Bool.eq_iff_iff,beq_iff_eq,decide_eq_true_iff];constructor
  ·intro h;rw[h];simp;omega
  ·intro h;have:c=UInt8.ofNat c.toNat:=by simp
   rw[this,h]
 unfold cZ;rw[show(46:UInt8)=UInt8.ofNat 46 from rfl,show(95:UInt8)=UInt8.ofNat 95 from rfl,show(45:UInt8)=UInt8.ofNat 45 from rfl,e 46 (by omega),e 95 (by omega),e 45 (by omega)];simp[UInt8.le_iff_toNat_le]
theorem Xr5(s:af)(hs:s.length≤9223372036854775807)(w:World):
 Calls Tryz.prog 140 #[S s] w fun e w'=>e= .returned (.bool (nI s))∧Below w.heap.size w w':=by
 by_cases h1:1≤s.length
 ·have pF:decide (s.length<1)=false:=Qf (by omega);by_cases mF:s.length≤32
  ·have uS:decide (32<s.length)=false:=by simp;omega
   have qM:=Qh (show nI s=s.all cZ by simp[nI,h1,mF]);go_enter Tryz.func140,Tryz.ntmps140
   go_wp2_with fail
   go_loop [3] (fun s3=> ∃k:Nat,k≤s.length∧s3= .int .i64 k∧(s.take k).all cZ=true) (fun i=>s.length-(intOf i).toNat)
   case atStart=>exact⟨0,Nat.zero_le _,rfl,rfl⟩
   case round=>
    obtain⟨k,hk,rfl,hr⟩:=hrel;have Hr:=Qh hr;clear hr;by_cases hlt:k<s.length
    ·have hx:=iG Tryz.underlying9 s (k:Int) k rfl hlt;have qJ:=Xn6 (s.getD k 0);have mq:=Qh (show s.take (k+1)=s.take k++[s.getD k 0] by rw[List.take_succ_eq_append_getElem hlt];simp[List.getD,hlt]);have Df:=Qh (show s.getD k 0∈s by simp[List.getD,hlt]);have wC:(s.getD k 0).toNat<256:=(s.getD k 0).toNat_lt;generalize s.getD k 0=ch at qJ mq Df hx wC;generalize ch.toNat=c at qJ hx wC;rcases(show(97≤c∧c≤122)∨122<c∨(48≤c∧c≤57)∨c=46∨c=95∨c=45∨(c<48∧c≠46∧c≠45)∨(57<c∧c<97∧c≠95) by omega)with hc|hc|hc|hc|hc|hc|hc|hc
     ·have d97:decide ((c:Int)<97)=false:=by simp;omega
      have d122:decide (122<(c:Int))=false:=by simp;omega
      have d48:decide ((c:Int)<48)=false:=by simp;omega
      have d57:decide (57<(c:Int))=true:=by simp;omega
      have n46:((c:Int) !=46)=true:=by simp;omega
      have n95:((c:Int) !=95)=true:=by simp;omega
      have n45:((c:Int) !=45)=true:=by simp;omega
      have rR:=Qh (show cZ ch=true by rw[qJ];simp;omega);clear qJ hc;go_wp2;go_round;case rel=>exact⟨k+1,by omega,by go_num,by rw[mq.O,List.all_append,Hr.O];simp[rR.O]⟩
      case measure=>simp[intOf];omega
     ·have d97:decide ((c:Int)<97)=false:=by simp;omega
      have d122:decide (122<(c:Int))=true:=by simp;omega
      have d48:decide ((c:Int)<48)=false:=by simp;omega
      have d57:decide (57<(c:Int))=true:=by simp;omega
      have n46:((c:Int) !=46)=true:=by simp;omega
      have n95:((c:Int) !=95)=true:=by simp;omega
      have n45:((c:Int) !=45)=true:=by simp;omega
      have rR:=Qh (show cZ ch=false by rw[qJ];simp;omega);have uw:=Qh (show s.all cZ=false by
       cases h:s.all cZ with
       |false=>rfl
       |true=>rw[List.all_eq_true.1 h ch Df.O]at rR;exact absurd rR.O (by simp))
      clear qJ hc;go_wp2;go_ret;exact⟨jr (by rw[qM.O,uw.O]),Qb _ _⟩
     ·have d97:decide ((c:Int)<97)=true:=by simp;omega
      have d122:decide (122<(c:Int))=false:=by simp;omega
      have d48:decide ((c:Int)<48)=false:=by simp;omega
      have d57:decide (57<(c:Int))=false:=by simp;omega
      have n46:((c:Int) !=46)=true:=by simp;omega
      have n95:((c:Int) !=95)=true:=by simp;omega
      have n45:((c:Int) !=45)=true:=by simp;omega
      have rR:=Qh (show cZ ch=true by rw[qJ];simp;omega);clear qJ hc;go_wp2;go_round;case rel=>exact⟨k+1,by omega,by go_num,by rw[mq.O,List.all_append,Hr.O];simp[rR.O]⟩
      case measure=>simp[intOf];omega
     ·have d97:decide ((c:Int)<97)=true:=by simp;omega
      have d122:decide (122<(c:Int))=false:=by simp;omega
      have d48:decide ((c:Int)<48)=true:=by simp;omega
      have d57:decide (57<(c:Int))=false:=by simp;omega
      have n46:((c:Int) !=46)=false:=by simp;omega
      have n95:((c:Int) !=95)=true:=by simp;omega
      have n45:((c:Int) !=45)=true:=by simp;omega
      have rR:=Qh (show cZ ch=true by rw[qJ];simp;omega);clear qJ hc;go_wp2;go_round;case rel=>exact⟨k+1,by omega,by go_num,by rw[mq.O,List.all_append,Hr.O];simp[rR.O]⟩
      case measure=>simp[intOf];omega
     ·have d97:decide ((c:Int)<97)=true:=by simp;omega
      have d122:decide (122<(c:Int))=false:=by simp;omega
      have d48:decide ((c:Int)<48)=false:=by simp;omega
      have d57:decide (57<(c:Int))=true:=by simp;omega
      have n46:((c:Int) !=46)=true:=by simp;omega
      have n95:((c:Int) !=95)=false:=by simp;omega
      have n45:((c:Int) !=45)=true:=by simp;omega
      have rR:=Qh (show cZ ch=true by rw[qJ];simp;omega);clear qJ hc;go_wp2;go_round;case rel=>exact⟨k+1,by omega,by go_num,by rw[mq.O,List.all_append,Hr.O];simp[rR.O]⟩
      case measure=>simp[intOf];omega
     ·have d97:decide ((c:Int)<97)=true:=by simp;omega
      have d122:decide (122<(c:Int))=false:=by simp;omega
      have d48:decide ((c:Int)<48)=true:=by simp;omega
      have d57:decide (57<(c:Int))=false:=by simp;omega
      have n46:((c:Int) !=46)=true:=by simp;omega
      have n95:((c:Int) !=95)=true:=by simp;omega
      have n45:((c:Int) !=45)=false:=by simp;omega
      have rR:=Qh (show cZ ch=true by rw[qJ];simp;omega);clear qJ hc;go_wp2;go_round;case rel=>exact⟨k+1,by omega,by go_num,by rw[mq.O,List.all_append,Hr.O];simp[rR.O]⟩
      case measure=>simp[intOf];omega
     ·have d97:decide ((c:Int)<97)=true:=by simp;omega
      have d122:decide (122<(c:Int))=false:=by simp;omega
      have d48:decide ((c:Int)<48)=true:=by simp;omega
      have d57:decide (57<(c:Int))=false:=by simp;omega
      have n46:((c:Int) !=46)=true:=by simp;omega
      have n95:((c:Int) !=95)=true:=by simp;omega
      have n45:((c:Int) !=45)=true:=by simp;omega
      have rR:=Qh (show cZ ch=false by rw[qJ];simp;omega);have uw:=Qh (show s.all cZ=false by
       cases h:s.all cZ with
       |false=>rfl
       |true=>rw[List.all_eq_true.1 h ch Df.O]at rR;exact absurd rR.O (by simp))
      clear qJ hc;go_wp2;go_ret;exact⟨jr (by rw[qM.O,uw.O]),Qb _ _⟩
     ·have d97:decide ((c:Int)<97)=true:=by simp;omega
      have d122:decide (122<(c:Int))=false:=by simp;omega
      have d48:decide ((c:Int)<48)=false:=by simp;omega
      have d57:decide (57<(c:Int))=true:=by simp;omega
      have n46:((c:Int) !=46)=true:=by simp;omega
      have n95:((c:Int) !=95)=true:=by simp;omega
      have n45:((c:Int) !=45)=true:=by simp;omega
      have rR:=Qh (show cZ ch=false by rw[qJ];simp;omega);have uw:=Qh (show s.all cZ=false by
       cases h:s.all cZ with
       |false=>rfl
       |true=>rw[List.all_eq_true.1 h ch Df.O]at rR;exact absurd rR.O (by simp))
      clear qJ hc;go_wp2;go_ret;exact⟨jr (by rw[qM.O,uw.O]),Qb _ _⟩
    ·have au:s.take k=s:=List.take_of_length_le (by omega);rw[au]at Hr;clear au;go_wp2;go_ret;exact⟨jr (by rw[qM.O,Hr.O]),Qb _ _⟩
  ·have uS:decide (32<s.length)=true:=by simp;omega
   have qM:=Qh (show nI s=false by simp[nI,mF]);go_enter Tryz.func140,Tryz.ntmps140
   go_wp2;go_ret;exact⟨jr qM.O.symm,Qb _ _⟩
 ·have pF:decide (s.length<1)=true:=Qt (by omega);have qM:=Qh (show nI s=false by simp[nI,h1]);go_enter Tryz.func140,Tryz.ntmps140
  go_wp2;go_ret;exact⟨jr qM.O.symm,Qb _ _⟩
theorem Xg5(p:Option At)(x:At)(l:List At):fE p (x::l)=if iB x≠0 then iB x else if(p.any fun q=>q.k==x.k)then 8 else if(p.any fun q=>Op.bytesLess x.k q.k)then 14 else fE (some x) l:=rfl
theorem Xnv(I:IH)(v:Value)(l:List At)(hv:aZ nk I v l)(hl:∀x∈l,x.Wf)(w:World)(hw:Ok I w):
 Calls Tryz.prog 87 #[v] w fun e w'=>e= .returned (.int .i64 (oP l))∧Below w.heap.size w w':=by
 have hlen:=hv.bL;obtain⟨ao,cap,rfl,fu,iv,_⟩:=id hv;have Hv:=Qh hv;clear hv;have Hl:=Qh hl;clear hl;by_cases JC:l.length≤16
 ·have hd:decide (16<l.length)=false:=Qf (by omega);have vz:=Qh (show oP l=fE none l by rw[oP,if_neg (by omega)]);go_enter Tryz.func87,Tryz.ntmps87
  go_wp2_with fail
  go_loopw [3] (fun s3 wr=> ∃k:Nat,k≤l.length∧s3= .int .i64 k∧fE (if k=0 then none else l[k-1]?) (l.drop k)=fE none l∧Below w.heap.size w wr) (fun i _=>l.length-(intOf i).toNat)
  case atStart=>exact⟨0,Nat.zero_le _,rfl,rfl,Qb _ _⟩
  case round=>
   obtain⟨k,hk,rfl,hr,hb⟩:=hrel;have Hr:=Qh hr;clear hr;by_cases hlt:k<l.length
   ·have eX:Ok I wr:=hw.below (Qn _) hb;obtain⟨x,b,off,cap',cB,dC,tq,rJ⟩:=yD Hv.O eX k hlt;cases dC;have E5:x∈l:=by rw[←cB];exact List.getElem_mem hlt
    obtain⟨iY,mK⟩:=Hl.O x E5;have bI:=Qh (show oP l=if iB x≠0 then iB x else if((if k=0 then none else l[k-1]?).any fun q=>q.k==x.k)then 8 else if((if k=0 then none else l[k-1]?).any fun q=>Op.bytesLess x.k q.k)then 14 else fE (some x) (l.drop (k+1)) by
     rw[vz.O,←Hr.O,List.drop_eq_getElem_cons hlt,cB,Xg5])
    have Ut:=Qh (show l[k]?=some x by rw[List.getElem?_eq_getElem hlt,cB]);clear cB E5;go_wp2_with fail
    refine(Xr5 x.k iY _).mono ?_;rintro e w1 ⟨rfl,aG⟩;have aM:=hb.trans (aG.mono hb.size);have tq:=aV aG tq;have rJ:=aV aG rJ;have AJ:Ok I w1:=eX.below (Qn _) aG;clear aG;cases hko:nI x.k
    ·have Yb:=Qh (show oP l=7 by rw[bI.O,if_pos (by rw[iB,if_pos hko];omega),iB,if_pos hko]);clear hko;go_wp2;go_ret;exact⟨dZ Yb.O.symm,aM⟩
    ·have Yb:=Qh hko;clear hko;by_cases h64:x.v.length≤64
     ·have uS:decide (64<x.v.length)=false:=Qf (by omega);have He:=Qh (show iB x=0 by rw[iB,if_neg (by rw[Yb.O];simp),if_neg (by omega)]);by_cases D6:k=0
      ·have Ko:decide (0<k)=false:=Qf (by omega);have jq:=Qh (show fE (if k+1=0 then none else l[k+1-1]?) (l.drop (k+1))=fE none l by
        rw[←vz.O,bI.O,He.O,if_neg (by omega),Nat.add_sub_cancel,Ut.O];simp[D6])
       clear D6;go_wp2_with fail
       refine wp_region_quiet_below (by kernel_rfl) (by kernel_rfl) ?_;repeat(go_big_quiet_step ((fail)))
       refine wpQuiet_nil ?_;intro w2 bJ;have aL:Below (w1).heap.size (w1) w2:=by
        obtain⟨pq,rfl⟩:=bJ;exact below_regrown _ _ _
       clear bJ;go_wp2_with fail
       refine wp_region_quiet_below (by kernel_rfl) (by kernel_rfl) ?_;repeat(go_big_quiet_step ((fail)))
       refine wpQuiet_nil ?_;intro w3 bJ;have dO:Below (w2).heap.size (w2) w3:=by
        obtain⟨pq,rfl⟩:=bJ;exact below_regrown _ _ _
       clear bJ;go_wp2;go_roundw;case rel=>exact⟨k+1,by omega,by go_num,jq.O,aM.trans ((aL.trans (dO.mono aL.size)).mono aM.size)⟩
       case measure=>simp[intOf];omega
      ·obtain⟨q,b',off',sN,Gu,dC,QL,Zu⟩:=yD Hv.O AJ (k-1) (by omega);cases dC;have uz:=Qh (show oP l=if(q.k==x.k)then 8 else if Op.bytesLess x.k q.k then 14 else fE (some x) (l.drop (k+1)) by
        rw[bI.O,He.O,if_neg (by omega),if_neg D6,List.getElem?_eq_getElem (by omega),Gu];rfl)
       have Ko:decide (0<k)=true:=Qt (by omega);have hi:IntKind.i64.wrap ((k:Int)-1)=(k:Int)-1:=IntWalk.i64_in _ (by omega);have hj:0≤(k:Int)-1:=by omega
       have hm:((k:Int)-1).toNat=k-1:=by omega
       have Ki:=cell_regrown tq;have SX:=cell_regrown QL;clear Gu;cases he1:(x.k==q.k)
       ·have He1:=Qh (show(q.k==x.k)=false by rw[beq_eq_false_iff_ne]at he1 ⊢;exact fun h=>he1 h.symm);cases he2:Op.bytesLess x.k q.k
        ·have jq:=Qh (show fE (if k+1=0 then none else l[k+1-1]?) (l.drop (k+1))=fE none l by
          rw[←vz.O,uz.O,He1.O,he2,Nat.add_sub_cancel,Ut.O];simp)
         go_wp2_with fail
         refine wp_region_quiet_below (by kernel_rfl) (by kernel_rfl) ?_;repeat(go_big_quiet_step ((fail)))
         refine wpQuiet_nil ?_;intro w2 bJ;have aL:Below (w1).heap.size (w1) w2:=by
          obtain⟨pq,rfl⟩:=bJ;exact below_regrown _ _ _
         clear bJ;go_wp2_with fail
         have Ki:=cell_regrown (aV aL tq);have SX:=cell_regrown (aV aL QL);refine wp_region_quiet_below (by kernel_rfl) (by kernel_rfl) ?_;repeat(go_big_quiet_step ((fail)))
         refine wpQuiet_nil ?_;intro w3 bJ;have dO:Below (w2).heap.size (w2) w3:=by
          obtain⟨pq,rfl⟩:=bJ;exact below_regrown _ _ _
         clear bJ;go_wp2;go_roundw;case rel=>exact⟨k+1,by omega,by go_num,jq.O,aM.trans ((aL.trans (dO.mono aL.size)).mono aM.size)⟩
         case measure=>simp[intOf];omega
        ·have jq:=Qh (show oP l=14 by rw[uz.O,He1.O,he2];simp);go_wp2_with fail
         refine wp_region_quiet_below (by kernel_rfl) (by kernel_rfl) ?_;repeat(go_big_quiet_step ((fail)))
         refine wpQuiet_nil ?_;intro w2 bJ;have aL:Below (w1).heap.size (w1) w2:=by
          obtain⟨pq,rfl⟩:=bJ;exact below_regrown _ _ _
         clear bJ;go_wp2_with fail
         have Ki:=cell_regrown (aV aL tq);have SX:=cell_regrown (aV aL QL);refine wp_region_quiet_below (by kernel_rfl) (by kernel_rfl) ?_;repeat(go_big_quiet_step ((fail)))
         refine wpQuiet_nil ?_;intro w3 bJ;have dO:Below (w2).heap.size (w2) w3:=by
          obtain⟨pq,rfl⟩:=bJ;exact below_regrown _ _ _
         clear bJ;go_wp2;go_ret;exact⟨dZ jq.O.symm,aM.trans ((aL.trans (dO.mono aL.size)).mono aM.size)⟩
       ·have jq:=Qh (show oP l=8 by rw[uz.O,if_pos (by rw[beq_iff_eq]at he1 ⊢;exact he1.symm)]);go_wp2_with fail
        refine wp_region_quiet_below (by kernel_rfl) (by kernel_rfl) ?_;repeat(go_big_quiet_step ((fail)))
        refine wpQuiet_nil ?_;intro w2 bJ;have aL:Below (w1).heap.size (w1) w2:=by
         obtain⟨pq,rfl⟩:=bJ;exact below_regrown _ _ _
        clear bJ;go_wp2;go_ret;exact⟨dZ jq.O.symm,aM.trans (aL.mono aM.size)⟩
     ·have uS:decide (64<x.v.length)=true:=Qt (by omega);have He:=Qh (show oP l=6 by
       have:iB x=6:=by rw[iB,if_neg (by rw[Yb.O];simp),if_pos (by omega)]
       rw[bI.O,this];simp)
      go_wp2;go_ret;exact⟨dZ He.O.symm,aM⟩
   ·go_wp2;go_ret;refine⟨dZ ?_,hb⟩;rw[vz.O,←Hr.O,List.drop_of_length_le (by omega)];rfl
 ·have hd:decide (16<l.length)=true:=Qt (by omega);go_enter Tryz.func87,Tryz.ntmps87
  go_wp2;go_ret;exact⟨dZ (by rw[oP,if_pos (by omega)]),Qb _ _⟩
theorem Xlp(x:bD)(hx:x.target.length≤9223372036854775807)(va vx:Value)(w:World):
 Calls Tryz.prog 88 #[iF x va vx] w fun e w'=>e= .returned (.bool (dx x))∧Below w.heap.size w w':=by
 by_cases h3:x.av=3
 ·have f3:((x.av:Int)==3)=true:=by simpa using h3
  by_cases h1:1≤x.target.length;case neg=>
   have d1:decide (1≤x.target.length)=false:=Qf h1;have Ht:=Qh (show dx x=false by rw[dx,if_pos h3,d1];rfl);clear h3;go_enter Tryz.func88,Tryz.ntmps88
   go_wp2;go_ret;exact⟨jr Ht.O.symm,(Qb _ _).alloc (Qn _) _⟩
  have d1:decide (1≤x.target.length)=true:=Qt h1;have Ht:=Qh (show dx x=decide (x.target.length≤200) by rw[dx,if_pos h3,d1];rfl);clear h3;go_enter Tryz.func88,Tryz.ntmps88
  go_wp2;go_ret;exact⟨jr (by rw[Ht.O,decide_eq_decide];omega),(Qb _ _).alloc (Qn _) _⟩
 have f3:((x.av:Int)==3)=false:=by simpa using h3
 by_cases h5:x.av=5
 ·have f5:((x.av:Int)==5)=true:=by simpa using h5
  have Ht:=Qh (show dx x=(mI x.target).2 by rw[dx,if_neg h3,if_pos h5,Xu4]);clear h3 h5;go_enter Tryz.func88,Tryz.ntmps88
  go_wp2_with fail
  refine(Xqe x.target hx _).mono ?_;rintro e w1 ⟨rfl,aG⟩;go_wp2;go_ret;exact⟨jr Ht.O.symm,((Qb _ _).alloc (Qn _) _).trans (aG.mono (by simp))⟩
 have f5:((x.av:Int)==5)=false:=by simpa using h5
 have Ht:=Qh (show dx x=x.target.isEmpty by rw[dx,if_neg h3,if_neg h5]);clear h3 h5;go_enter Tryz.func88,Tryz.ntmps88
 go_wp2;go_ret;exact⟨jr (by rw[Ht.O]),(Qb _ _).alloc (Qn _) _⟩
def Iy(x:bD):Bool:=decide (300<x.aj.length) || decide (300<x.target.length) || decide (100<x.aD.length) || decide (30<x.aC.length) || decide (O0 x.ag=1)
def grE(x:bD):Int:=if Iy x then 1 else 0
def uA(l:List Xt):Int:=l.foldl (fun n x=>wrap64 (n+x.n)) 0
theorem Xle(l:List Xt)(x:Xt):uA (l++[x])=wrap64 (uA l+x.n):=by simp[uA,List.foldl_append]
def bN(e:bD):Int:=
 if e.av<1∨6<e.av then 10
 else if aW e.aj≠0 then aW e.aj
 else if e.aj=[]∧e.av<5 then 1
 else if oP e.ag≠0 then oP e.ag
 else if(e.ag≠[]∧3<e.av)∨dx e=false then 1
 else if e.size<0∨65536<e.size∨(e.av≠1∧e.size≠0)then 2
 else if(e.av=1∧e.aD.length≠32)∨(e.av≠1∧e.aD≠[])then 1
 else if dL (e.av==1) e.aC≠0 then dL (e.av==1) e.aC
 else if uA e.aC≠e.size then 1 else 0
theorem Xhg:∀(l:List Xt),dL true l=0→ ∀x∈l,dQ x=false
 | [],_,_,h=>absurd h (by simp)
 |y::l,h,x,hx=>by
  rw[dL,if_neg (by simp)]at h;by_cases hb:dQ y=true
  ·rw[if_pos hb]at h;omega
  ·rw[if_neg hb]at h;rcases List.mem_cons.1 hx with rfl|hx
   ·simpa using hb
   ·exact Xhg l h x hx
theorem Xhi{x:Xt}(h:dQ x=false):1≤x.n∧x.n≤65536:=by
 unfold dQ at h;simp only[Bool.or_eq_false_iff,decide_eq_false_iff_not]at h;omega
theorem Xge(l:List Xt)(x:Xt):jG (l++[x])=jG l+x.n:=by simp[jG]
theorem Xok:∀(n:Nat) (l:List Xt),l.length=n→(∀x∈l,dQ x=false)→0≤jG l∧jG l≤65536*n:=by
 intro n;induction n with
 |zero=>
  intro l h _;have:l=[]:=List.eq_nil_of_length_eq_zero h;subst this;exact⟨Int.le_refl _,by decide⟩
 |succ n ih=>
  intro l h ha;have bq:l≠[]:=by intro e;rw[e]at h;simp at h
  have e:l=l.dropLast++[l.getLast bq]:=(List.dropLast_concat_getLast bq).symm;have hl:l.dropLast.length=n:=by rw[List.length_dropLast,h];omega
  obtain⟨i1,i2⟩:=ih _ hl fun x hx=>ha x (List.dropLast_subset _ hx);have hc:=Xhi (ha _ (List.getLast_mem bq));rw[e,Xge];omega
theorem Xv8{l:List Xt}(hl:l.length≤1000000)(ha:∀x∈l,dQ x=false):uA l=jG l:=by
 have key:∀k,k≤l.length→uA (l.take k)=jG (l.take k):=by
  intro k;induction k with
  |zero=>intro _;rfl
  |succ k ih=>
   intro hk;have e:l.take (k+1)=l.take k++[l[k]]:=List.take_succ_eq_append_getElem (by omega);have hb:=Xok k (l.take k) (by rw[List.length_take];omega) fun x hx=>ha x (List.mem_of_mem_take hx);have hc:=Xhi (ha l[k] (List.getElem_mem _));rw[e,Xle,Xge,ih (by omega)];unfold wrap64;omega
 have:=key l.length (Qn _);rwa[List.take_length]at this
theorem Yc(h:e.aC.length≤1000000):bN e=aX e:=by
 unfold bN aX;by_cases h8:dL (e.av==1) e.aC=0
 ·have:uA e.aC=jG e.aC:=by
   cases hk:(e.av==1)
   ·rw[hk]at h8;cases hx:e.aC with
    |nil=>rfl
    |cons y l=>rw[hx]at h8;simp[dL]at h8
   ·rw[hk]at h8;exact Xv8 h (Xhg _ h8)
  rw[this]
 ·simp only[h8,ne_eq,not_false_eq_true,if_true]
structure bP (w:World) (n:Nat) (e:bD) (va vx:Value):Prop where
 c0:w.cell? ⟨n,0,none⟩=some (.int .i64 e.av)
 c1:w.cell? ⟨n,1,none⟩=some (S e.aj)
 c2:w.cell? ⟨n,2,none⟩=some va
 c3:w.cell? ⟨n,3,none⟩=some (S e.target)
 c4:w.cell? ⟨n,4,none⟩=some (.int .i64 e.size)
 c5:w.cell? ⟨n,5,none⟩=some (S e.aD)
 c6:w.cell? ⟨n,6,none⟩=some vx
theorem bP.aR(h:bP w n e va vx)(hb:Below w.heap.size w w'):bP w' n e va vx:=
 ⟨aV hb h.c0,aV hb h.c1,aV hb h.c2,aV hb h.c3,aV hb h.c4,aV hb h.c5,aV hb h.c6⟩
theorem bP.past(h:bP w n e va vx)(x:Obj):bP (w.alloc x) n e va vx:=
 ⟨kM x h.c0,kM x h.c1,kM x h.c2,kM x h.c3,kM x h.c4,kM x h.c5,kM x h.c6⟩
theorem dP{W:World}{t:TypeId}(hn:n=W.heap.size)(hb:Below (W.alloc (.cells #[.int .i64 e.av,S e.aj,va,S e.target,.int .i64 e.size,S e.aD,vx] t)).heap.size (W.alloc (.cells #[.int .i64 e.av,S e.aj,va,S e.target,.int .i64 e.size,S e.aD,vx] t)) w'):bP w' n e va vx:=by
 subst hn;exact bP.aR ⟨by simp,by simp,by simp,by simp,by simp,by simp,by simp⟩ hb
