/- Lemmas for the claim's theorem;conditions: as each says. -/
import Derived.Test.YtegieeommgiknaaGreatDoorU05
import Derived.Lib.SmallJoins
import Derived.Lib.AppendIntMem
import Derived.Shelf.Spec.SlicesInsert
import Derived.Lib.AppendZerosOnto
set_option maxHeartbeats 0
set_option maxRecDepth 100000
set_option linter.all false
namespace Go.Proofs.YtegieeommgiknaaGreatDoor
open Go.RowKit
variable{w:World}{I:IH}{s:af}
abbrev mX:af:=[97,98,99,100,101,102,103,104,105,106,107,108,109,110,111,112,113,114,115,116,117,118,119,120,121,122,48,49,50,51,52,53,54,55,56,57,46,95,45]
theorem Xmx(c:UInt8):mX.contains c=cZ c:=by
 have h:∀n:Fin 256,mX.contains (UInt8.ofNat n.1)=cZ (UInt8.ofNat n.1):=by decide
 have:=h ⟨c.toNat,c.toNat_lt⟩;simpa using this
theorem Xlc(s cs:af):Lib.trimS s cs=[]↔s.all (cs.contains ·)=true:=by
 have hd:∀l:af,l.dropWhile (cs.contains ·)=[]↔l.all (cs.contains ·)=true:=by
  intro l;induction l with
  |nil=>simp
  |cons x l ih=>
   rw[List.dropWhile_cons,List.all_cons];cases h:cs.contains x
   ·simp
   ·simp only[if_true,Bool.true_and];exact ih
 have Kr:∀l:af,(l.dropWhile (cs.contains ·)).all (cs.contains ·)=l.all (cs.contains ·):=by
  intro l;induction l with
  |nil=>rfl
  |cons x l ih=>
   rw[List.dropWhile_cons];cases h:cs.contains x
   ·rfl
   ·simp only[if_true];rw[ih,List.all_cons,h,Bool.true_and]
 unfold Lib.trimS Lib.trimLeftS Lib.trimRightS;rw[hd,List.all_reverse,Kr,List.all_reverse]
theorem Xuo(s:af)(hs:s.length≤9223372036854775807)(w:World):
 Calls Tryz.prog 130 #[S s,S mX] w fun e w'=>e= .returned (S (Lib.trimS s mX))∧Below w.heap.size w w':=by
 have h:=Tryz.uD ⟨s.toArray⟩ ⟨mX.toArray⟩ w (by rw[ByteArray.size_mk',List.size_toArray];exact hs) (by decide) (ascii_of_all (by decide));exact h
def mr(s:af):Int:=if nI s then 0 else 7
theorem Xtp(s:af)(hs:s.length≤9223372036854775807)(w:World):
 Calls Tryz.prog 204 #[S s] w fun e w'=>e= .returned (.int .i64 (mr s))∧Below w.heap.size w w':=by
 by_cases h1:s=[]
 ·have hE:mr s=7:=by rw[h1];rfl
  have HE:=Qh hE;have f1:(s==[])=true:=by rw[h1];rfl
  have f2:s.isEmpty=true:=by rw[h1];rfl
  have f3:(!s.isEmpty)=false:=by rw[h1];rfl
  clear hE h1;go_enter Tryz.func204,Tryz.ntmps204
  go_wp2;go_ret;exact⟨dZ HE.O.symm,Qb _ _⟩
 ·have hlen:1≤s.length:=by cases s<;>simp_all
  have f1:(s==[])=false:=by simpa using h1
  have f2:s.isEmpty=false:=by cases s<;>simp_all
  have f3:(!s.isEmpty)=true:=by rw[f2];rfl
  clear h1;by_cases mF:s.length≤32
  ·have pF:decide (32<s.length)=false:=Qf (by omega);have hk:nI s=s.all (mX.contains ·):=by
    have:(fun c=>mX.contains c)=cZ:=funext Xmx;rw[this];simp[nI,mF,hlen]
   have ht:=Xlc s mX;have Htr:=Qh (Xuo s hs);generalize hT:Lib.trimS s mX=T at ht Htr;by_cases Nq:T=[]
   ·have HE:=Qh (show mr s=0 by rw[mr,hk,if_pos (ht.1 Nq)]);have g1:(T==[])=true:=by rw[Nq];rfl
    have g2:T.isEmpty=true:=by rw[Nq];rfl
    have g3:(!T.isEmpty)=false:=by rw[Nq];rfl
    clear Nq ht hk hT;go_enter Tryz.func204,Tryz.ntmps204
    go_wp2_with fail
    refine(Htr.O _).mono ?_;rintro e w1 ⟨rfl,aG⟩;go_wp2;go_ret;exact⟨dZ HE.O.symm,aG⟩
   ·have HE:=Qh (show mr s=7 by rw[mr,hk,if_neg (fun h=>Nq (ht.2 h))]);have g1:(T==[])=false:=by simpa using Nq
    have g2:T.isEmpty=false:=by cases T<;>simp_all
    have g3:(!T.isEmpty)=true:=by rw[g2];rfl
    clear Nq ht hk hT;go_enter Tryz.func204,Tryz.ntmps204
    go_wp2_with fail
    refine(Htr.O _).mono ?_;rintro e w1 ⟨rfl,aG⟩;go_wp2;go_ret;exact⟨dZ HE.O.symm,aG⟩
  ·have pF:decide (32<s.length)=true:=Qt (by omega);have HE:=Qh (show mr s=7 by rw[mr,if_neg (by simp[nI,mF])]);go_enter Tryz.func204,Tryz.ntmps204
   go_wp2;go_ret;exact⟨dZ HE.O.symm,Qb _ _⟩
theorem Xxk(x:At)(hx:x.Wf)(w:World):
 Calls Tryz.prog 164 #[x.val] w fun e w'=>e= .returned (.int .i64 (iB x))∧Below w.heap.size w w':=by
 obtain⟨iY,mK⟩:=hx;cases hk:nI x.k
 ·have HE:=Qh (show mr x.k=7 by rw[mr,hk];rfl);have HA:=Qh (show iB x=7 by rw[iB,if_pos hk]);clear hk;go_enter Tryz.func164,Tryz.ntmps164
  go_wp2_with fail
  refine(Xtp x.k iY _).mono ?_;rintro e w1 ⟨rfl,aG⟩;rw[HE.O];go_wp2;go_ret;exact⟨dZ HA.O.symm,((Qb _ _).alloc (Qn _) _).trans (aG.mono (by simp))⟩
 ·have HE:=Qh (show mr x.k=0 by rw[mr,hk];rfl);have Hk:=Qh hk;clear hk;by_cases h64:x.v.length≤64
  ·have hd:decide (64<x.v.length)=false:=Qf (by omega);have HA:=Qh (show iB x=0 by rw[iB,if_neg (by rw[Hk.O];simp),if_neg (by omega)]);go_enter Tryz.func164,Tryz.ntmps164
   go_wp2_with fail
   refine(Xtp x.k iY _).mono ?_;rintro e w1 ⟨rfl,aG⟩;rw[HE.O];obtain⟨tq,rJ⟩:=Xxl rfl aG;go_wp2;go_ret;exact⟨dZ HA.O.symm,((Qb _ _).alloc (Qn _) _).trans (aG.mono (by simp))⟩
  ·have hd:decide (64<x.v.length)=true:=Qt (by omega);have HA:=Qh (show iB x=6 by rw[iB,if_neg (by rw[Hk.O];simp),if_pos (by omega)]);go_enter Tryz.func164,Tryz.ntmps164
   go_wp2_with fail
   refine(Xtp x.k iY _).mono ?_;rintro e w1 ⟨rfl,aG⟩;rw[HE.O];obtain⟨tq,rJ⟩:=Xxl rfl aG;go_wp2;go_ret;exact⟨dZ HA.O.symm,((Qb _ _).alloc (Qn _) _).trans (aG.mono (by simp))⟩
theorem Xm0:∀(a b:af),Lib.compareBytes a b=if Op.bytesLess a b then -1 else if a==b then 0 else 1
 | [],[]=>rfl
 | [],_::_=>rfl
 |_::_,[]=>rfl
 |x::a,y::b=>by
  rw[Lib.compareBytes,Xm0 a b,Op.bytesLess];by_cases h1:x<y
  ·simp[h1]
  ·by_cases h2:y<x
   ·have:¬x=y:=fun e=>by subst e;exact UInt8.lt_irrefl _ h2
    simp[h1,h2,this]
   ·have e:x=y:=UInt8.le_antisymm (UInt8.not_lt.1 h2) (UInt8.not_lt.1 h1);subst e;simp
theorem Xn2(a b:af)(w:World):Calls Tryz.prog 165 #[S a,S b] w fun e w'=>e= .returned (.int .i64 (Lib.compareBytes a b))∧Below w.heap.size w w':=
 (Tryz.strings_Compare ⟨a.toArray⟩ ⟨b.toArray⟩ w).mono fun _ _ ⟨h1,h2⟩=>⟨h1,by rw[h2];exact Qb _ _⟩
theorem Xvg(I:IH)(v:Value)(l:List At)(hv:aZ nk I v l)(hl:∀x∈l,x.Wf)(w:World)(hw:Ok I w):
 Calls Tryz.prog 115 #[v] w fun e w'=>e= .returned (.int .i64 (oP l))∧Below w.heap.size w w':=by
 have hlen:=hv.bL;obtain⟨ao,cap,rfl,fu,iv,_⟩:=id hv;have Hv:=Qh hv;clear hv;have Hl:=Qh hl;clear hl;by_cases JC:l.length≤16
 ·have hd:decide (16<l.length)=false:=Qf (by omega);have vz:=Qh (show oP l=fE none l by rw[oP,if_neg (by omega)]);go_enter Tryz.func115,Tryz.ntmps115
  go_wp2_with fail
  go_loopw [11] (fun s11 wr=> ∃k:Nat,k≤l.length∧s11= .int .i64 k∧fE (if k=0 then none else l[k-1]?) (l.drop k)=fE none l∧Below w.heap.size w wr) (fun i _=>l.length-(intOf i).toNat)
  case atStart=>exact⟨0,Nat.zero_le _,rfl,rfl,Qb _ _⟩
  case round=>
   obtain⟨k,hk,rfl,hr,hb⟩:=hrel;have Hr:=Qh hr;clear hr;by_cases hlt:k<l.length
   ·have eX:Ok I wr:=hw.below (Qn _) hb;obtain⟨x,b,off,cap',cB,dC,tq,rJ⟩:=yD Hv.O eX k hlt;cases dC;have E5:x∈l:=by rw[←cB];exact List.getElem_mem hlt
    have Hxw:=Qh (Hl.O x E5);have bI:=Qh (show oP l=if iB x≠0 then iB x else if((if k=0 then none else l[k-1]?).any fun q=>q.k==x.k)then 8 else if((if k=0 then none else l[k-1]?).any fun q=>Op.bytesLess x.k q.k)then 14 else fE (some x) (l.drop (k+1)) by
     rw[vz.O,←Hr.O,List.drop_eq_getElem_cons hlt,cB,Xg5])
    have Ut:=Qh (show l[k]?=some x by rw[List.getElem?_eq_getElem hlt,cB]);clear cB E5;go_wp2_with fail
    refine(Xxk x Hxw.O _).mono ?_;rintro e w1 ⟨rfl,aG⟩;obtain⟨ni,iY⟩:=Xxl rfl aG;have aM:=(hb.alloc hb.size _).trans (aG.mono (by have:=hb.size;simp;omega));have AJ:Ok I w1:=hw.below (Qn _) aM;clear aG tq rJ;by_cases h0:iB x=0
    ·have H0:=Qh h0;rw[h0];clear h0;by_cases D6:k=0
     ·have Ko:((k:Int)==0)=true:=by rw[D6];rfl
      have jq:=Qh (show fE (if k+1=0 then none else l[k+1-1]?) (l.drop (k+1))=fE none l by
       rw[←vz.O,bI.O,H0.O,if_neg (by omega),Nat.add_sub_cancel,Ut.O];simp[D6])
      clear D6;go_wp2;go_roundw;case rel=>exact⟨k+1,by omega,by go_num,jq.O,aM⟩
      case measure=>simp[intOf];omega
     ·obtain⟨q,b',off',sN,Gu,dC,QL,Zu⟩:=yD Hv.O AJ (k-1) (by omega);cases dC;have uz:=Qh (show oP l=if(q.k==x.k)then 8 else if Op.bytesLess x.k q.k then 14 else fE (some x) (l.drop (k+1)) by
       rw[bI.O,H0.O,if_neg (by omega),if_neg D6,List.getElem?_eq_getElem (by omega),Gu];rfl)
      have Ko:((k:Int)==0)=false:=by rw[beq_eq_false_iff_ne];omega
      have hi:IntKind.i64.wrap ((k:Int)-1)=(k:Int)-1:=IntWalk.i64_in _ (by omega);have hj:0≤(k:Int)-1:=by omega
      have hm:((k:Int)-1).toNat=k-1:=by omega
      have Ki:=cell_regrown ni;have SX:=cell_regrown QL;have Ec:=Xm0 q.k x.k;have KY:=Qh (fun W=>Xn2 q.k x.k W);generalize Lib.compareBytes q.k x.k=r at Ec KY;clear Gu;rcases Rz q.k x.k with ht|ht|ht
      ·have je:r= -1:=by rw[Ec,ht];rfl
       have jq:=Qh (show fE (if k+1=0 then none else l[k+1-1]?) (l.drop (k+1))=fE none l by
        have Cf:(q.k==x.k)=false:=by simpa using RB ht
        rw[←vz.O,uz.O,RA ht,Cf,Nat.add_sub_cancel,Ut.O];simp)
       subst je;clear ht Ec;go_wp2_with fail
       refine wp_region_quiet_below (by kernel_rfl) (by kernel_rfl) ?_;repeat(go_big_quiet_step ((with_reducible exact Calls.regrown_of (KY.O _))))
       refine wpQuiet_nil ?_;intro w2 bJ;have aL:Below (w1).heap.size (w1) w2:=by
        obtain⟨pq,rfl⟩:=bJ;exact below_regrown _ _ _
       clear bJ;go_wp2;go_roundw;case rel=>exact⟨k+1,by omega,by go_num,jq.O,aM.trans (aL.mono aM.size)⟩
       case measure=>simp[intOf];omega
      ·have Cf:(q.k==x.k)=true:=by rw[ht];exact beq_self_eq_true _
       have qW:Op.bytesLess q.k x.k=false:=by rw[ht];exact Iq _
       have je:r=0:=by rw[Ec,qW,Cf];rfl
       have jq:=Qh (show oP l=8 by rw[uz.O,if_pos Cf]);subst je;clear ht Ec Cf qW;go_wp2_with fail
       refine wp_region_quiet_below (by kernel_rfl) (by kernel_rfl) ?_;repeat(go_big_quiet_step ((with_reducible exact Calls.regrown_of (KY.O _))))
       refine wpQuiet_nil ?_;intro w2 bJ;have aL:Below (w1).heap.size (w1) w2:=by
        obtain⟨pq,rfl⟩:=bJ;exact below_regrown _ _ _
       clear bJ;go_wp2;go_ret;exact⟨dZ jq.O.symm,aM.trans (aL.mono aM.size)⟩
      ·have bq:(q.k==x.k)=false:=by simpa using(RB ht).symm
       have je:r=1:=by rw[Ec,RA ht,bq];rfl
       have jq:=Qh (show oP l=14 by rw[uz.O,if_neg (by rw[bq];simp),if_pos ht]);subst je;clear ht Ec bq;go_wp2_with fail
       refine wp_region_quiet_below (by kernel_rfl) (by kernel_rfl) ?_;repeat(go_big_quiet_step ((with_reducible exact Calls.regrown_of (KY.O _))))
       refine wpQuiet_nil ?_;intro w2 bJ;have aL:Below (w1).heap.size (w1) w2:=by
        obtain⟨pq,rfl⟩:=bJ;exact below_regrown _ _ _
       clear bJ;go_wp2;go_ret;exact⟨dZ jq.O.symm,aM.trans (aL.mono aM.size)⟩
    ·obtain⟨q,hq⟩:∃q,iB x=q:=⟨_,rfl⟩;have E9:(q !=0)=true:=by rw[←hq];simpa using h0
     have Hs:=Qh (show oP l=q by rw[bI.O,if_pos h0,hq]);rw[hq];clear hq h0;go_wp2;go_ret;exact⟨dZ Hs.O.symm,aM⟩
   ·go_wp2;go_ret;refine⟨dZ ?_,hb⟩;rw[vz.O,←Hr.O,List.drop_of_length_le (by omega)];rfl
 ·have hd:decide (16<l.length)=true:=Qt (by omega);go_enter Tryz.func115,Tryz.ntmps115
  go_wp2;go_ret;exact⟨dZ (by rw[oP,if_pos (by omega)]),Qb _ _⟩
theorem fG.tab(h : fG I)(hw : Ok I w) : Lib.TabIs Tryz.prog w "internal/strconv.uint64pow10" .u64 Lib.pow10Tab :=by
 obtain⟨e,f,hh⟩:=hw _ _ h.pow;unfold Lib.TabIs World.var?;have hg : Tryz.prog.globalNamed "internal/strconv.uint64pow10" =some 5 :=by kernel_rfl
 simp[hg,hh]
theorem fG.abW(h : fG I)(hw : Ok I w) : ∃tp p,w.var? Tryz.prog "strconv.ErrSyntax" =some #[.iface tp p] :=by
 obtain⟨tp,p,h1⟩:=h.syn;obtain⟨e,f,hh⟩:=hw _ _ h1;refine⟨tp,p,?_⟩;unfold World.var?;have hg : Tryz.prog.globalNamed "strconv.ErrSyntax" =some 1 :=by kernel_rfl
 simp[hg,hh]
theorem fG.abX(h : fG I)(hw : Ok I w) : ∃tp p,w.var? Tryz.prog "strconv.ErrRange" =some #[.iface tp p] :=by
 obtain⟨tp,p,h1⟩:=h.rng;obtain⟨e,f,hh⟩:=hw _ _ h1;refine⟨tp,p,?_⟩;unfold World.var?;have hg : Tryz.prog.globalNamed "strconv.ErrRange" =some 2 :=by kernel_rfl
 simp[hg,hh]
theorem Xki(I:IH)(hI:fG I)(n:Int)(w:World)(hw:Ok I w)(h0: -9223372036854775808≤n)(h1:n≤9223372036854775807):
 Calls Tryz.prog 150 #[.int .i64 n] w fun e w'=>e= .returned (S (Lib.itoa n))∧Below w.heap.size w w':=
 (Tryz.strconv_Itoa n h0 h1 w (hI.tab hw)).mono fun e w' ⟨he,k,os,hq⟩=>⟨he,by rw[hq];exact Lib.below_grow _ _ (Qn _) _ _⟩
def KZ(w:World)(e:Ending)(w':World):Prop:=∃n N,e= .returned (.tuple #[.int .i64 n,.iface 239 (.pointer (some ⟨N,0,none⟩))])∧Below w.heap.size w w'
theorem Xie(s:af)(hs:s.length≤4294967280)(n:Int)(h:Lib.atoiAll s= .ok n)(w:World):
 Calls Tryz.prog 131 #[S s] w fun e w'=>e= .returned (.tuple #[.int .i64 n,.nilIface])∧Below w.heap.size w w':=by
 have bS:(⟨s.toArray⟩:ByteArray).size=s.length:=by simp[ByteArray.size]
 refine(Tryz.strconv_Atoi_ok ⟨s.toArray⟩ (by omega) n h w).mono fun e w' ⟨h1,h2⟩=>⟨h1,?_⟩;rcases h2 with h2|⟨t,h2⟩
 ·rw[h2];exact Qb _ _
 ·rw[h2];exact Joins.below_bytesWorld _ _ _ _ (Qn _)
theorem Xl8(I:IH)(hI:fG I)(s:af)(hs:s.length≤4294967280)(h:∀n,Lib.atoiAll s≠ .ok n)(w:World)(hw:Ok I w):
 Calls Tryz.prog 131 #[S s] w (KZ w):=by
 have bS:(⟨s.toArray⟩:ByteArray).size=s.length:=by simp[ByteArray.size]
 by_cases hr:Lib.atoiAll s= .range
 ·obtain⟨tp,p,hv⟩:=hI.abX hw;exact(Tryz.strconv_Atoi_range_var ⟨s.toArray⟩ (by omega) hr tp p w hv).mono fun e w' ⟨N,h1,_,_,h4⟩=>⟨_,N,h1,h4⟩
 ·obtain⟨tp,p,hv⟩:=hI.abW hw;exact(Tryz.strconv_Atoi_syntax_var ⟨s.toArray⟩ (by omega) h hr tp p w hv).mono fun e w' ⟨N,h1,_,_,h4⟩=>⟨0,N,h1,h4⟩
theorem Xs8(I:IH)(hI:fG I)(s:af)(hs:s.length≤4294967280)(w:World)(hw:Ok I w):
 Calls Tryz.prog 166 #[S s] w fun e w'=>e= .returned (.bool (il s))∧Below w.heap.size w w':=by
 have Zw:=Xpk s;by_cases iZ:∃n,Lib.atoiAll s= .ok n;case neg=>
  have Hn:=Qh (show il s=false by
   cases h:il s with
   |false=>rfl
   |true=>obtain⟨n,h1,_⟩:=Zw.1 h;exact absurd ⟨n,h1⟩ iZ)
  have Dk:=Qh (Xl8 I hI s hs (fun n h=>iZ ⟨n,h⟩) w hw);clear Zw iZ;go_enter Tryz.func166,Tryz.ntmps166
  go_wp2_with fail
  refine Dk.O.mono ?_;rintro e w1 ⟨n,N,rfl,aG⟩;go_wp2;go_ret;exact⟨jr Hn.O.symm,aG⟩
 obtain⟨n,hn⟩:=iZ;have Dk:=Qh (Xie s hs n hn w);have Hd:=Qh (show il s=(decide (0≤n)&&decide (n≤1000000000)&&decide (Lib.itoa n=s)) by
  rw[Bool.eq_iff_iff,Zw];simp only[Bool.and_eq_true,decide_eq_true_eq];constructor
  ·rintro⟨m,h1,h2,h3,h4⟩;rw[hn]at h1;injection h1 with h1
   subst h1;exact⟨⟨h2,h3⟩,h4⟩
  ·rintro⟨⟨h2,h3⟩,h4⟩;exact⟨n,hn,h2,h3,h4⟩)
 clear Zw hn;by_cases h0:0≤n;case neg=>
  have Hn:=Qh (show il s=false by rw[Hd.O,Qf h0];rfl);go_enter Tryz.func166,Tryz.ntmps166
  go_wp2_with fail
  refine Dk.O.mono ?_;rintro e w1 ⟨rfl,aG⟩;go_wp2;go_ret;exact⟨(by first|exact jr Hn.O.symm|(rw[Hn.O];congr 1;simp;omega)),aG⟩
 by_cases h1:n≤1000000000;case neg=>
  have Hn:=Qh (show il s=false by rw[Hd.O,Qf h1,Bool.and_false];rfl);go_enter Tryz.func166,Tryz.ntmps166
  go_wp2_with fail
  refine Dk.O.mono ?_;rintro e w1 ⟨rfl,aG⟩;go_wp2;go_ret;exact⟨(by first|exact jr Hn.O.symm|(rw[Hn.O];congr 1;simp;omega)),aG⟩
 have Hn:=Qh (show il s=(Lib.itoa n==s) by
  rw[Hd.O,Qt h0,Qt h1];by_cases h:Lib.itoa n=s<;>simp[h])
 have Dl:=Qh (fun w hw=>Xki I hI n w hw (by omega) (by omega));obtain⟨t,ht⟩:∃t,Lib.itoa n=t:=⟨_,rfl⟩;rw[ht]at Dl Hn;clear ht;go_enter Tryz.func166,Tryz.ntmps166
 go_wp2_with fail
 refine Dk.O.mono ?_;rintro e w1 ⟨rfl,aG⟩;go_wp2_with fail
 refine(Dl.O _ (hw.below (Qn _) aG)).mono ?_;rintro e w2 ⟨rfl,aL⟩;go_wp2;go_ret;exact⟨jr Hn.O.symm,aG.trans (aL.mono aG.size)⟩
theorem Xs7(I:IH)(hI:fG I)(x:bD)(hx:x.target.length≤4294967280)(va vx:Value)(w:World)(hw:Ok I w):
 Calls Tryz.prog 116 #[iF x va vx] w fun e w'=>e= .returned (.bool (dx x))∧Below w.heap.size w w':=by
 by_cases h3:x.av=3
 ·have f3:((x.av:Int)==3)=true:=by simpa using h3
  by_cases h1:x.target=[]
  ·have Ht:=Qh (show dx x=false by rw[dx,if_pos h3,h1];rfl);obtain⟨p1,p2,p3,p4⟩:=EA h1;clear h3 h1;go_enter Tryz.func116,Tryz.ntmps116
   go_wp2;go_ret;exact⟨jr Ht.O.symm,(Qb _ _).alloc (Qn _) _⟩
  have yT:1≤x.target.length:=List.length_pos_iff.2 h1;have Ht:=Qh (show dx x=decide (x.target.length≤200) by rw[dx,if_pos h3,Qt yT];rfl);obtain⟨p1,p2,p3,p4⟩:=Dh h1;clear h3 h1;go_enter Tryz.func116,Tryz.ntmps116
  go_wp2;go_ret;exact⟨jr (by rw[Ht.O,decide_eq_decide];omega),(Qb _ _).alloc (Qn _) _⟩
 have f3:((x.av:Int)==3)=false:=by simpa using h3
 by_cases h5:x.av=5
 ·have f5:((x.av:Int)==5)=true:=by simpa using h5
  have Ht:=Qh (show dx x=il x.target by rw[dx,if_neg h3,if_pos h5]);clear h3 h5;go_enter Tryz.func116,Tryz.ntmps116
  go_wp2_with fail
  refine(Xs8 I hI x.target hx _ (hw.alloc _)).mono ?_;rintro e w1 ⟨rfl,aG⟩;go_wp2;go_ret;exact⟨jr Ht.O.symm,((Qb _ _).alloc (Qn _) _).trans (aG.mono (by simp))⟩
 have f5:((x.av:Int)==5)=false:=by simpa using h5
 have Ht:=Qh (show dx x=x.target.isEmpty by rw[dx,if_neg h3,if_neg h5]);clear h3 h5;go_enter Tryz.func116,Tryz.ntmps116
 go_wp2;go_ret;exact⟨jr (by rw[Ht.O]),(Qb _ _).alloc (Qn _) _⟩
theorem JW{P:Program}(w:World)(dT sT ty elem:TypeId)(size g o dLen dCap:Nat)(a:Addr)(sLen sCap:Nat)(cur:Array Value)(t:TypeId)(cs:List Value)
 (hu:P.underlying dT=some (.slice elem)) (hs:(P.info? elem).map (·.size)=some size)
 (hg:w.heap[g]?=some (.cells cur t (0,0))) (hn:cs.length=Nat.min sLen dLen*size)
 (ae1:∀j v,cs[j]?=some v→w.cell? (a.add j)=some v) (p9:o+cs.length≤cur.size) (h1:∀v∈cs,v.oneCell'=true):
 (Builtin.copy_ #[dT,sT] ty #[.slice (some ⟨g,o,none⟩) dLen dCap,.slice (some a) sLen sCap]).run P w=
   .ok (goInt (Nat.min sLen dLen)) (w.setRow g (cur.toList.take o++cs++cur.toList.drop (o+cs.length)).toArray):=by
 have jO:=run_storeCells_at P g o t cs 0 cur w hg (by simpa using p9) h1;cases hq:P.info? elem with
 |none=>simp[hq]at hs
 |some i=>
  have hi:i.size=size:=by simpa[hq]using hs
  have hf:=run_firstCells_some (P:=P) w i.size (Nat.min sLen dLen) a sLen sCap cs (by rw[hi];exact hn) ae1;simp only[Nat.min_def]at hf ⊢;simp[Builtin.copy_,run_underlying hu,Builtin.lenOf,sizeOf,typeInfo,hq,Nat.min_def,hf,jO]
def over(cur:Array Value)(o:Nat)(cs:List Value):Array Value:=(cur.toList.take o++cs++cur.toList.drop (o+cs.length)).toArray
theorem Gd(cur:Array Value)(o:Nat)(cs:List Value)(h:o+cs.length≤cur.size):(over cur o cs).size=cur.size:=by
 simp[over];omega
theorem Xh8(cur:Array Value)(o:Nat)(cs:List Value)(h:o≤cur.size):(over cur o cs).toList.take (o+cs.length)=cur.toList.take o++cs:=by
 simp only[over];rw[List.take_append_of_le_length (by simp;omega)];rw[List.take_of_length_le (by simp;omega)]
theorem insert_row(cur:Array Value)(xs news:List Value)(p k:Nat)(hp:p≤xs.length)(hx:cur.toList.take xs.length=xs)(hk:news.length=k)(bS:xs.length+k≤cur.size):
 (over (over cur (p+k) (xs.drop p)) p news).toList.take (xs.length+k)=xs.take p++news++xs.drop p:=by
 have bO:cur.toList.length=cur.size:=by simp
 have h1:(over cur (p+k) (xs.drop p)).toList=cur.toList.take (p+k)++xs.drop p++cur.toList.drop (p+k+(xs.drop p).length):=rfl;have h2:∀c:Array Value,(over c p news).toList=c.toList.take p++news++c.toList.drop (p+k):=fun c=>by simp[over,hk]
 rw[h2,h1];have e1:(cur.toList.take (p+k)++xs.drop p++cur.toList.drop (p+k+(xs.drop p).length)).take p=xs.take p:=by
  rw[List.append_assoc,List.take_append_of_le_length (by simp;omega),List.take_take,Nat.min_eq_left (by omega)];conv=>rhs;rw[←hx]
  rw[List.take_take,Nat.min_eq_left hp]
 have e2:(cur.toList.take (p+k)++xs.drop p++cur.toList.drop (p+k+(xs.drop p).length)).drop (p+k)=xs.drop p++cur.toList.drop (p+k+(xs.drop p).length):=by
  rw[List.append_assoc,List.drop_append_of_le_length (by simp;omega)];rw[List.drop_eq_nil_of_le (by simp;omega),List.nil_append]
 rw[e1,e2,←List.append_assoc,List.take_append_of_le_length (by simp;omega),List.take_of_length_le (by simp;omega)]
theorem Xih(cur:Array Value)(xs news:List Value)(p k:Nat)(hp:p≤xs.length)(hx:cur.toList.take p=xs.take p)(hk:news.length=k)(bS:xs.length+k≤cur.size):
 (over (over cur p news) (p+k) (xs.drop p)).toList.take (xs.length+k)=xs.take p++news++xs.drop p:=by
 have h1:=Xh8 cur p news (by omega);rw[hk,hx]at h1;have h2:=Xh8 (over cur p news) (p+k) (xs.drop p) (by rw[Gd _ _ _ (by omega)];omega);rw[h1,List.length_drop,show p+k+(xs.length-p)=xs.length+k by omega]at h2;exact h2
theorem bA{g:Nat}{cur:Array Value}:w.grownBy (w.setRow g cur) (some g):=
 ⟨rfl,rfl,rfl,by simp,fun k _ hk=>setRow_other w g k _ (fun e=>hk (by rw[e]))⟩
theorem RN{a b c:World}{row:Option Nat}(h:a.grownBy b row)(k:b.grownBy c row):a.grownBy c row:=
 ⟨k.os.trans h.os,k.tape.trans h.tape,k.output.trans h.output,Nat.le_trans h.size k.size,fun j hj bq=>(k.block j (Nat.lt_of_lt_of_le hj h.size) bq).trans (h.block j hj bq)⟩
theorem Xkx(h:il s=true):Lib.atoiAll s= .ok (digits s)∧s≠[]∧s.all lF=true∧((s.getD 0 0).toNat=48→s=[48]):=by
 have h':=h;obtain⟨n,h1,h2,h3,h4⟩:=(Xpk s).1 h;obtain⟨u,rfl⟩:=Int.eq_ofNat_of_zero_le h2;rw[Lib.itoa,if_neg (by omega),Int.toNat_natCast]at h4;obtain⟨f1,f2,f3,f4,f5⟩:=Xmw u;rw[h4]at f1 f2 f3 f4 f5;have Mk:digits s=u:=by rw[Xgr f1,f3]
 refine⟨by rw[Mk];exact h1,f2,f1,fun hc=> ?_⟩;cases s with
 |nil=>exact absurd rfl f2
 |cons c r=>
  have ii:c=48:=by
   apply UInt8.toNat_inj.1;simpa using hc
  subst ii;have hu:u=0:=by
   by_cases k:1≤u
   ·exact absurd rfl (f5 k)
   ·omega
  subst hu;rw[←h4];first|(rw[Lib.decDigits];rfl)|simp[Lib.decDigits]|decide
def tL:af:=[48,49,50,51,52,53,54,55,56,57]
theorem Xqz:∀c:UInt8,lF c=true→tL.contains c=true:=by
 intro c h;have hb:=O8 h;have key:∀n:Fin 256,48≤n.1→n.1≤57→tL.contains (UInt8.ofNat n.1)=true:=by decide
 have:=key ⟨c.toNat,c.toNat_lt⟩ hb.1 hb.2;simpa using this
theorem Xng(h:s.all lF=true):Lib.trimS s tL=[]:=by
 rw[Xlc,List.all_eq_true];intro c hc;exact Xqz c (List.all_eq_true.1 h c hc)
theorem Xsi(s:af)(hs:s.length≤9223372036854775807)(w:World):
 Calls Tryz.prog 130 #[S s,S tL] w fun e w'=>e= .returned (S (Lib.trimS s tL))∧Below w.heap.size w w':=by
 have h:=Tryz.uD ⟨s.toArray⟩ ⟨tL.toArray⟩ w (by rw[ByteArray.size_mk',List.size_toArray];exact hs) (by decide) (ascii_of_all (by decide));exact h
theorem Xry(s:af)(hs:s.length≤4294967280)(hd:il s=true)(w:World):
 Calls Tryz.prog 76 #[S s] w fun e w'=>e= .returned (.tuple #[.int .i64 (digits s),.bool true])∧Below w.heap.size w w':=by
 obtain⟨ha,bq,au,hz⟩:=Xkx hd;have qx:=(Yi hd).2;have hlen:=List.length_pos_iff.2 bq;obtain⟨p1,p2,p3,p4⟩:=Dh bq;have Ht:=Qh (Xsi s (by omega) w);rw[Xng au]at Ht;have Ha:=Qh (fun w=>Xie s hs _ ha w);have ni:=iG (P:=Tryz.prog) Tryz.underlying9 s 0 0 rfl hlen;have q1:decide (digits s≤1000000000)=true:=Qt qx;generalize digits s=n at Ha qx q1 ⊢;have HD:=Qh (show tL=[48,49,50,51,52,53,54,55,56,57]from rfl);rw[HD.O]at Ht;clear hd ha au bq;by_cases hc:(s.getD 0 0).toNat=48
 ·have ky:=hz hc;have k1:(((s.getD 0 0).toNat:Int)==48)=true:=by rw[hc];rfl
  have k2:(s==[48])=true:=by rw[ky];rfl
  have Hs:=Qh ky;clear ky hc hz;generalize(s.getD 0 0).toNat=c at ni k1;go_enter Tryz.func76,Tryz.ntmps76
  go_wp2_with fail
  refine Ht.O.mono ?_;rintro e w1 ⟨rfl,aG⟩;go_wp2_with fail
  refine(Ha.O _).mono ?_;rintro e w2 ⟨rfl,aL⟩;go_wp2;go_ret2;exact⟨rfl,aG.trans (aL.mono aG.size)⟩
 ·have k1:(((s.getD 0 0).toNat:Int)==48)=false:=by
   have:((s.getD 0 0).toNat:Int)≠48:=by omega
   simpa using this
  clear hc hz;generalize(s.getD 0 0).toNat=c at ni k1;go_enter Tryz.func76,Tryz.ntmps76
  go_wp2_with fail
  refine Ht.O.mono ?_;rintro e w1 ⟨rfl,aG⟩;go_wp2_with fail
  refine(Ha.O _).mono ?_;rintro e w2 ⟨rfl,aL⟩;go_wp2;go_ret2;exact⟨rfl,aG.trans (aL.mono aG.size)⟩
theorem Xnn(I:IH)(hI:fG I)(p:af)(hp:p.length≤4294967280)(b:Nat)(l:List Ho)(hl:∀h∈l,h.p.length≤4294967280)(w:World)(hw:Ok I w)(hc:w.cell? ⟨b,1,none⟩=some (S p)):vZ 128 #[.pointer (some ⟨b,0,none⟩)] l (fun h=>under h.p p) (Below w.heap.size w):=by
 intro x hx W hW;have Hu:=Qh (Xkg I hI x.p p (hl x hx) hp (W.alloc (.cells #[S x.p,.int .i64 x.u] 106)) ((hw.below (Qn _) hW).alloc _));have QS:=kM (.cells #[S x.p,.int .i64 x.u] 106) (aV hW hc);clear hc;show Calls Tryz.prog _ #[O7 x,.pointer (some ⟨b,0,none⟩)] W _;go_enter Tryz.func128,Tryz.ntmps128
 go_wp2_with fail
 refine Hu.O.mono ?_;rintro e w1 ⟨rfl,aG⟩;go_wp2;go_ret;exact⟨rfl,((Qb _ _).alloc (Qn _) _).trans (aG.mono (by simp))⟩
theorem Xp8(I:IH)(hI:fG I)(v:Value)(l:List Ho)(hv:aZ ku I v l)(hk:yf l)(hn:l.length≤100000)(e:bD)(va vx:Value)(gK:aZ nk I va e.ag)(kw:aZ mU I vx e.aC)(hp:e.aj.length≤4294967280)(d:Int)(w:World)(hw:Ok I w):
 Calls Tryz.prog 74 #[v,iF e va vx,.int .i64 d] w fun r w'=>r= .returned (.int .i64 (kE l e.av e.aj d))∧Below w.heap.size w w':=by
 have Hh:=Qh (fun w hw=>Xwo I hI v l hv hk hn e.aj hp d w hw);have Ha:=Qh (fun w hw=>TC I v l hv hn d w hw);have HI:=Qh hI;have Hk:=Qh (hk.act d);obtain⟨ao,cap,rfl,fu,iv,_⟩:=id hv;obtain⟨aa,ca,rfl,_,_,_⟩:=id gK;obtain⟨ax,cx,rfl,_,_,_⟩:=id kw;clear hv gK kw hI hk;by_cases h1:e.av=1
 ·have k1:((e.av:Int)==1)=true:=by simpa using h1
  have Hn:=Qh (show kE l e.av e.aj d=if ig l e.aj d then 15 else 0 by rw[kE,if_pos (.inl h1)]);generalize ig l e.aj d=b at Hh Hn;clear h1;go_enter Tryz.func74,Tryz.ntmps74
  go_wp2_with fail
  refine(Hh.O _ (hw.alloc _)).mono ?_;rintro e1 w1 ⟨rfl,aG⟩;have aM:=((Qb w.heap.size w).alloc (Qn _) (.cells #[.int .i64 e.av,S e.aj,.slice aa e.ag.length ca,S e.target,.int .i64 e.size,S e.aD,.slice ax e.aC.length cx] 63)).trans (aG.mono (by simp));cases b
  ·go_wp2;go_ret;exact⟨dZ Hn.O.symm,aM⟩
  ·go_wp2;go_ret;exact⟨dZ Hn.O.symm,aM⟩
 have k1:((e.av:Int)==1)=false:=by simpa using h1
 by_cases h2:e.av=2
 ·have k2:((e.av:Int)==2)=true:=by simpa using h2
  have Hn:=Qh (show kE l e.av e.aj d=if ig l e.aj d then 15 else 0 by rw[kE,if_pos (.inr (.inl h2))]);generalize ig l e.aj d=b at Hh Hn;clear h1 h2;go_enter Tryz.func74,Tryz.ntmps74
  go_wp2_with fail
  refine(Hh.O _ (hw.alloc _)).mono ?_;rintro e1 w1 ⟨rfl,aG⟩;have aM:=((Qb w.heap.size w).alloc (Qn _) (.cells #[.int .i64 e.av,S e.aj,.slice aa e.ag.length ca,S e.target,.int .i64 e.size,S e.aD,.slice ax e.aC.length cx] 63)).trans (aG.mono (by simp));cases b
  ·go_wp2;go_ret;exact⟨dZ Hn.O.symm,aM⟩
  ·go_wp2;go_ret;exact⟨dZ Hn.O.symm,aM⟩
 have k2:((e.av:Int)==2)=false:=by simpa using h2
 by_cases h3:e.av=3
 ·have k3:((e.av:Int)==3)=true:=by simpa using h3
  have Hn:=Qh (show kE l e.av e.aj d=if ig l e.aj d then 15 else 0 by rw[kE,if_pos (.inr (.inr h3))]);generalize ig l e.aj d=b at Hh Hn;clear h1 h2 h3;go_enter Tryz.func74,Tryz.ntmps74
  go_wp2_with fail
  refine(Hh.O _ (hw.alloc _)).mono ?_;rintro e1 w1 ⟨rfl,aG⟩;have aM:=((Qb w.heap.size w).alloc (Qn _) (.cells #[.int .i64 e.av,S e.aj,.slice aa e.ag.length ca,S e.target,.int .i64 e.size,S e.aD,.slice ax e.aC.length cx] 63)).trans (aG.mono (by simp));cases b
  ·go_wp2;go_ret;exact⟨dZ Hn.O.symm,aM⟩
  ·go_wp2;go_ret;exact⟨dZ Hn.O.symm,aM⟩
 have k3:((e.av:Int)==3)=false:=by simpa using h3
 have yU:¬(e.av=1∨e.av=2∨e.av=3):=fun q=>by omega
 by_cases h4:e.av=4;case neg=>
  have k4:((e.av:Int)==4)=false:=by simpa using h4
  have Hn:=Qh (show kE l e.av e.aj d=0 by rw[kE,if_neg yU,if_neg h4]);clear h1 h2 h3 h4 yU;go_enter Tryz.func74,Tryz.ntmps74
  go_wp2;go_ret;exact⟨dZ Hn.O.symm,(Qb w.heap.size w).alloc (Qn _) _⟩
 have k4:((e.av:Int)==4)=true:=by simpa using h4
 have Hn:=Qh (show kE l e.av e.aj d=if ig l e.aj d || lh l e.aj d then 15 else 0 by rw[kE,if_neg yU,if_pos h4]);clear h1 h2 h3 h4 yU;have lC:=Qh (show lh l e.aj d=(bY l d).any (fun h=>under h.p e.aj)from rfl);generalize ig l e.aj d=b at Hh Hn;generalize lh l e.aj d=c at Hn lC;go_enter Tryz.func74,Tryz.ntmps74
 go_wp2_with fail
 refine(Hh.O _ (hw.alloc _)).mono ?_;rintro e1 w1 ⟨rfl,aG⟩;have kJ:=Qh (dP (e:=e) rfl aG);have aO:Ok I w1:=(hw.alloc _).below (Qn _) aG;have aM:=((Qb w.heap.size w).alloc (Qn _) (.cells #[.int .i64 e.av,S e.aj,.slice aa e.ag.length ca,S e.target,.int .i64 e.size,S e.aD,.slice ax e.aC.length cx] 63)).trans (aG.mono (by simp));clear aG;cases b;case true=>
  go_wp2;go_ret;exact⟨dZ Hn.O.symm,aM⟩
 have lM:=Qh (fun b (hb:w1.heap.size≤b)=>aO.fresh (b:=b) hb);go_wp2_with fail
 refine(Ha.O _ aO).mono ?_;rintro e2 w2 ⟨v2,rfl,bU,aL⟩;have bn:Ok I w2:=aO.below (Qn _) aL;obtain⟨I2,kL,lI,nV,_⟩:=bU.freeze bn lM.O;have Hp:=Qh (Xnn I2 (HI.O.mono (kL.keep aO (Qn _))) e.aj hp w.heap.size (bY l d) Hk.O.short w2 lI (kJ.O.aR aL).c1);have Hc:=Qh (Xdo I2 _ _ nV _ _ _ w2 lI (fun _ _=>by kernel_rfl) Hp.O);rw[←lC.O]at Hc;have bH:=aM.trans (aL.mono aM.size);obtain⟨a1,c1,rfl,_,_,_⟩:=id nV;clear aL bU nV lI kL Ha Hp aM;go_wp2_with fail
 refine Hc.O.mono ?_;rintro e3 w3 ⟨rfl,dO⟩;have jg:=bH.trans (dO.mono bH.size);cases c
 ·go_wp2;go_ret;exact⟨dZ Hn.O.symm,jg⟩
 ·go_wp2;go_ret;exact⟨dZ Hn.O.symm,jg⟩
