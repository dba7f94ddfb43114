/- Lemmas for the claim's theorem;conditions: as each says. -/
import Derived.Test.YtmdfjnhfhidmhaaGreatDoorJ07
import Derived.Lib.SmallJoins
import Derived.Lib.AppendIntMem
import Derived.Shelf.Strings.Builder1
import Derived.Shelf.Strings.Builder2
import Derived.Shelf.Strings.Repeat
import Derived.Shelf.Strings.LastIndex
import Derived.Test.YtmdfjnhfhidmhaaGreatDoorProg
import Derived.Lib.Repeat
import Derived.Test.YtmdfjnhfhidmhaaGreatDoorJ03
import Derived.Laws.MakeOwn
set_option maxHeartbeats 0
set_option maxRecDepth 100000
set_option linter.all false
namespace Go.Proofs.YtmdfjnhfhidmhaaGreatDoor
open Go.RowKit
variable{I:IH}{w:World}
abbrev lq:af:=[97,98,99,100,101,102,103,104,105,106,107,108,109,110,111,112,113,114,115,116,117,118,119,120,121,122,48,49,50,51,52,53,54,55,56,57,46,95,45]
theorem Xl1(c:UInt8):lq.contains c=bJ c:=by
 have h:∀n:Fin 256,lq.contains (UInt8.ofNat n.1)=bJ (UInt8.ofNat n.1):=by decide
 have:=h ⟨c.toNat,c.toNat_lt⟩;simpa using this
theorem Xko(s cs:af):Lib.trimS s cs=[]↔s.all (cs.contains ·)=true:=by
 have hd:∀l:af,l.dropWhile (cs.contains ·)=[]↔l.all (cs.contains ·)=true:=by
  intro l;induction l with
  |nil=>simp
  |cons x l ih=>
   rw[List.dropWhile_cons,List.all_cons];cases h:cs.contains x
   ·simp
   ·simp only[if_true,Bool.true_and];exact ih
 have GV:∀l:af,(l.dropWhile (cs.contains ·)).all (cs.contains ·)=l.all (cs.contains ·):=by
  intro l;induction l with
  |nil=>rfl
  |cons x l ih=>
   rw[List.dropWhile_cons];cases h:cs.contains x
   ·rfl
   ·simp only[if_true];rw[ih,List.all_cons,h,Bool.true_and]
 unfold Lib.trimS Lib.trimLeftS Lib.trimRightS;rw[hd,List.all_reverse,GV,List.all_reverse]
theorem Xub(s:af)(hs:s.length≤9223372036854775807)(w:World):
 Calls Tryz.prog 144 #[S s,S lq] w fun e w'=>e= .returned (S (Lib.trimS s lq))∧Below w.heap.size w w':=by
 have h:=Tryz.q8 ⟨s.toArray⟩ ⟨lq.toArray⟩ w (by rw[ByteArray.size_mk',List.size_toArray];exact hs) (by decide) (ascii_of_all (by decide));exact h
def kQ(s:af):Int:=if lG s then 0 else 7
theorem XP(s:af)(hs:s.length≤9223372036854775807)(w:World):
 Calls Tryz.prog 220 #[S s] w fun e w'=>e= .returned (.int .i64 (kQ s))∧Below w.heap.size w w':=by
 by_cases h1:s=[]
 ·have hE:kQ s=7:=by rw[h1];rfl
  have HE:=Qh hE;have f1:(s==[])=true:=by rw[h1];rfl
  have f2:s.isEmpty=true:=by rw[h1];rfl
  have f3:(!s.isEmpty)=false:=by rw[h1];rfl
  clear hE h1;go_enter Tryz.func220,Tryz.ntmps220
  go_wp2;go_ret;exact⟨di HE.O.symm,Qb _ _⟩
 ·have hlen:1≤s.length:=by cases s<;>simp_all
  have f1:(s==[])=false:=by simpa using h1
  have f2:s.isEmpty=false:=by cases s<;>simp_all
  have f3:(!s.isEmpty)=true:=by rw[f2];rfl
  clear h1;by_cases pz:s.length≤32
  ·have ng:decide (32<s.length)=false:=Qf (by omega);have hk:lG s=s.all (lq.contains ·):=by
    have:(fun c=>lq.contains c)=bJ:=funext Xl1;rw[this];simp[lG,pz,hlen]
   have ht:=Xko s lq;have XQ:=Qh (Xub s hs);generalize hT:Lib.trimS s lq=T at ht XQ;by_cases Kh:T=[]
   ·have HE:=Qh (show kQ s=0 by rw[kQ,hk,if_pos (ht.1 Kh)]);have g1:(T==[])=true:=by rw[Kh];rfl
    have g2:T.isEmpty=true:=by rw[Kh];rfl
    have g3:(!T.isEmpty)=false:=by rw[Kh];rfl
    clear Kh ht hk hT;go_enter Tryz.func220,Tryz.ntmps220
    go_wp2_with fail
    refine(XQ.O _).mono ?_;rintro e w1 ⟨rfl,aD⟩;go_wp2;go_ret;exact⟨di HE.O.symm,aD⟩
   ·have HE:=Qh (show kQ s=7 by rw[kQ,hk,if_neg (fun h=>Kh (ht.2 h))]);have g1:(T==[])=false:=by simpa using Kh
    have g2:T.isEmpty=false:=by cases T<;>simp_all
    have g3:(!T.isEmpty)=true:=by rw[g2];rfl
    clear Kh ht hk hT;go_enter Tryz.func220,Tryz.ntmps220
    go_wp2_with fail
    refine(XQ.O _).mono ?_;rintro e w1 ⟨rfl,aD⟩;go_wp2;go_ret;exact⟨di HE.O.symm,aD⟩
  ·have ng:decide (32<s.length)=true:=Qt (by omega);have HE:=Qh (show kQ s=7 by rw[kQ,if_neg (by simp[lG,pz])]);go_enter Tryz.func220,Tryz.ntmps220
   go_wp2;go_ret;exact⟨di HE.O.symm,Qb _ _⟩
theorem Xwx(x:At)(hx:x.Wf)(w:World):
 Calls Tryz.prog 178 #[x.val] w fun e w'=>e= .returned (.int .i64 (fQ x))∧Below w.heap.size w w':=by
 obtain⟨gu,oQ⟩:=hx;cases hk:lG x.k
 ·have HE:=Qh (show kQ x.k=7 by rw[kQ,hk];rfl);have HA:=Qh (show fQ x=7 by rw[fQ,if_pos hk]);clear hk;go_enter Tryz.func178,Tryz.ntmps178
  go_wp2_with fail
  refine(XP x.k gu _).mono ?_;rintro e w1 ⟨rfl,aD⟩;rw[HE.O];go_wp2;go_ret;exact⟨di HA.O.symm,((Qb _ _).alloc (Qn _) _).trans (aD.mono (by simp))⟩
 ·have HE:=Qh (show kQ x.k=0 by rw[kQ,hk];rfl);have Hk:=Qh hk;clear hk;by_cases h64:x.v.length≤64
  ·have hd:decide (64<x.v.length)=false:=Qf (by omega);have HA:=Qh (show fQ x=0 by rw[fQ,if_neg (by rw[Hk.O];simp),if_neg (by omega)]);go_enter Tryz.func178,Tryz.ntmps178
   go_wp2_with fail
   refine(XP x.k gu _).mono ?_;rintro e w1 ⟨rfl,aD⟩;rw[HE.O];obtain⟨vH,uG⟩:=XO rfl aD;go_wp2;go_ret;exact⟨di HA.O.symm,((Qb _ _).alloc (Qn _) _).trans (aD.mono (by simp))⟩
  ·have hd:decide (64<x.v.length)=true:=Qt (by omega);have HA:=Qh (show fQ x=6 by rw[fQ,if_neg (by rw[Hk.O];simp),if_pos (by omega)]);go_enter Tryz.func178,Tryz.ntmps178
   go_wp2_with fail
   refine(XP x.k gu _).mono ?_;rintro e w1 ⟨rfl,aD⟩;rw[HE.O];obtain⟨vH,uG⟩:=XO rfl aD;go_wp2;go_ret;exact⟨di HA.O.symm,((Qb _ _).alloc (Qn _) _).trans (aD.mono (by simp))⟩
theorem Xl4:∀(a b:af),Lib.compareBytes a b=if Op.bytesLess a b then -1 else if a==b then 0 else 1
 | [],[]=>rfl
 | [],_::_=>rfl
 |_::_,[]=>rfl
 |x::a,y::b=>by
  rw[Lib.compareBytes,Xl4 a b,Op.bytesLess];by_cases h1:x<y
  ·simp[h1]
  ·by_cases h2:y<x
   ·have:¬x=y:=fun e=>by subst e;exact UInt8.lt_irrefl _ h2
    simp[h1,h2,this]
   ·have e:x=y:=UInt8.le_antisymm (UInt8.not_lt.1 h2) (UInt8.not_lt.1 h1);subst e;simp
theorem Xm8(a b:af)(w:World):Calls Tryz.prog 179 #[S a,S b] w fun e w'=>e= .returned (.int .i64 (Lib.compareBytes a b))∧Below w.heap.size w w':=
 (Tryz.strings_Compare ⟨a.toArray⟩ ⟨b.toArray⟩ w).mono fun _ _ ⟨h1,h2⟩=>⟨h1,by rw[h2];exact Qb _ _⟩
theorem Xu4(I:IH)(v:Value)(l:List At)(hv:aZ lD I v l)(hl:∀x∈l,x.Wf)(w:World)(hw:Ok I w):
 Calls Tryz.prog 131 #[v] w fun e w'=>e= .returned (.int .i64 (mK l))∧Below w.heap.size w w':=by
 have hlen:=hv.bF;obtain⟨ao,cap,rfl,dO,fJ,_⟩:=id hv;have Hv:=Qh hv;clear hv;have Hl:=Qh hl;clear hl;by_cases F7:l.length≤16
 ·have hd:decide (16<l.length)=false:=Qf (by omega);have su:=Qh (show mK l=dW none l by rw[mK,if_neg (by omega)]);go_enter Tryz.func131,Tryz.ntmps131
  go_wp2_with fail
  go_loopw [11] (fun s11 wr=> ∃k:Nat,k≤l.length∧s11= .int .i64 k∧dW (if k=0 then none else l[k-1]?) (l.drop k)=dW none l∧Below w.heap.size w wr) (fun i _=>l.length-(intOf i).toNat)
  case atStart=>exact⟨0,Nat.zero_le _,rfl,rfl,Qb _ _⟩
  case round=>
   obtain⟨k,hk,rfl,hr,hb⟩:=hrel;have Hr:=Qh hr;clear hr;by_cases hlt:k<l.length
   ·have dG:Ok I wr:=hw.below (Qn _) hb;obtain⟨x,b,off,cap',dA,cZ,vH,uG⟩:=yK Hv.O dG k hlt;cases cZ;have CQ:x∈l:=by rw[←dA];exact List.getElem_mem hlt
    have Hxw:=Qh (Hl.O x CQ);have bu:=Qh (show mK l=if fQ x≠0 then fQ x else if((if k=0 then none else l[k-1]?).any fun q=>q.k==x.k)then 8 else if((if k=0 then none else l[k-1]?).any fun q=>Op.bytesLess x.k q.k)then 14 else dW (some x) (l.drop (k+1)) by
     rw[su.O,←Hr.O,List.drop_eq_getElem_cons hlt,dA,Xgc])
    have Qw:=Qh (show l[k]?=some x by rw[List.getElem?_eq_getElem hlt,dA]);clear dA CQ;go_wp2_with fail
    refine(Xwx x Hxw.O _).mono ?_;rintro e w1 ⟨rfl,aD⟩;obtain⟨oG,gu⟩:=XO rfl aD;have aH:=(hb.alloc hb.size _).trans (aD.mono (by have:=hb.size;simp;omega));have wL:Ok I w1:=hw.below (Qn _) aH;clear aD vH uG;by_cases h0:fQ x=0
    ·have H0:=Qh h0;rw[h0];clear h0;by_cases vG:k=0
     ·have GL:((k:Int)==0)=true:=by rw[vG];rfl
      have iL:=Qh (show dW (if k+1=0 then none else l[k+1-1]?) (l.drop (k+1))=dW none l by
       rw[←su.O,bu.O,H0.O,if_neg (by omega),Nat.add_sub_cancel,Qw.O];simp[vG])
      clear vG;go_wp2;go_roundw;case rel=>exact⟨k+1,by omega,by go_num,iL.O,aH⟩
      case measure=>simp[intOf];omega
     ·obtain⟨q,b',off',nQ,Em,cZ,N7,Wi⟩:=yK Hv.O wL (k-1) (by omega);cases cZ;have qW:=Qh (show mK l=if(q.k==x.k)then 8 else if Op.bytesLess x.k q.k then 14 else dW (some x) (l.drop (k+1)) by
       rw[bu.O,H0.O,if_neg (by omega),if_neg vG,List.getElem?_eq_getElem (by omega),Em];rfl)
      have GL:((k:Int)==0)=false:=by rw[beq_eq_false_iff_ne];omega
      have hi:IntKind.i64.wrap ((k:Int)-1)=(k:Int)-1:=IntWalk.i64_in _ (by omega);have hj:0≤(k:Int)-1:=by omega
      have hm:((k:Int)-1).toNat=k-1:=by omega
      have GR:=cell_regrown oG;have PI:=cell_regrown N7;have Bv:=Xl4 q.k x.k;have Ip:=Qh (fun W=>Xm8 q.k x.k W);generalize Lib.compareBytes q.k x.k=r at Bv Ip;clear Em;rcases Lm q.k x.k with ht|ht|ht
      ·have gy:r= -1:=by rw[Bv,ht];rfl
       have iL:=Qh (show dW (if k+1=0 then none else l[k+1-1]?) (l.drop (k+1))=dW none l by
        have Ep:(q.k==x.k)=false:=by simpa using OQ ht
        rw[←su.O,qW.O,OP ht,Ep,Nat.add_sub_cancel,Qw.O];simp)
       subst gy;clear ht Bv;go_wp2_with fail
       refine wp_region_quiet_below (by kernel_rfl) (by kernel_rfl) ?_;repeat(go_big_quiet_step ((with_reducible exact Calls.regrown_of (Ip.O _))))
       refine wpQuiet_nil ?_;intro w2 bq;have aL:Below (w1).heap.size (w1) w2:=by
        obtain⟨pq,rfl⟩:=bq;exact below_regrown _ _ _
       clear bq;go_wp2;go_roundw;case rel=>exact⟨k+1,by omega,by go_num,iL.O,aH.trans (aL.mono aH.size)⟩
       case measure=>simp[intOf];omega
      ·have Ep:(q.k==x.k)=true:=by rw[ht];exact beq_self_eq_true _
       have rW:Op.bytesLess q.k x.k=false:=by rw[ht];exact zU _
       have gy:r=0:=by rw[Bv,rW,Ep];rfl
       have iL:=Qh (show mK l=8 by rw[qW.O,if_pos Ep]);subst gy;clear ht Bv Ep rW;go_wp2_with fail
       refine wp_region_quiet_below (by kernel_rfl) (by kernel_rfl) ?_;repeat(go_big_quiet_step ((with_reducible exact Calls.regrown_of (Ip.O _))))
       refine wpQuiet_nil ?_;intro w2 bq;have aL:Below (w1).heap.size (w1) w2:=by
        obtain⟨pq,rfl⟩:=bq;exact below_regrown _ _ _
       clear bq;go_wp2;go_ret;exact⟨di iL.O.symm,aH.trans (aL.mono aH.size)⟩
      ·have bn:(q.k==x.k)=false:=by simpa using(OQ ht).symm
       have gy:r=1:=by rw[Bv,OP ht,bn];rfl
       have iL:=Qh (show mK l=14 by rw[qW.O,if_neg (by rw[bn];simp),if_pos ht]);subst gy;clear ht Bv bn;go_wp2_with fail
       refine wp_region_quiet_below (by kernel_rfl) (by kernel_rfl) ?_;repeat(go_big_quiet_step ((with_reducible exact Calls.regrown_of (Ip.O _))))
       refine wpQuiet_nil ?_;intro w2 bq;have aL:Below (w1).heap.size (w1) w2:=by
        obtain⟨pq,rfl⟩:=bq;exact below_regrown _ _ _
       clear bq;go_wp2;go_ret;exact⟨di iL.O.symm,aH.trans (aL.mono aH.size)⟩
    ·obtain⟨q,hq⟩:∃q,fQ x=q:=⟨_,rfl⟩;have Er:(q !=0)=true:=by rw[←hq];simpa using h0
     have Hs:=Qh (show mK l=q by rw[bu.O,if_pos h0,hq]);rw[hq];clear hq h0;go_wp2;go_ret;exact⟨di Hs.O.symm,aH⟩
   ·go_wp2;go_ret;refine⟨di ?_,hb⟩;rw[su.O,←Hr.O,List.drop_of_length_le (by omega)];rfl
 ·have hd:decide (16<l.length)=true:=Qt (by omega);go_enter Tryz.func131,Tryz.ntmps131
  go_wp2;go_ret;exact⟨di (by rw[mK,if_pos (by omega)]),Qb _ _⟩
theorem eG.tab(h : eG I)(hw : Ok I w) : Lib.TabIs Tryz.prog w "internal/strconv.uint64pow10" .u64 Lib.pow10Tab :=by
 obtain⟨e,f,hh⟩:=hw _ _ h.pow;unfold Lib.TabIs World.var?;have hg : Tryz.prog.globalNamed "internal/strconv.uint64pow10" =some 5 :=by kernel_rfl
 simp[hg,hh]
theorem eG.XR(h : eG I)(hw : Ok I w) : ∃tp p,w.var? Tryz.prog "strconv.ErrSyntax" =some #[.iface tp p] :=by
 obtain⟨tp,p,h1⟩:=h.syn;obtain⟨e,f,hh⟩:=hw _ _ h1;refine⟨tp,p,?_⟩;unfold World.var?;have hg : Tryz.prog.globalNamed "strconv.ErrSyntax" =some 1 :=by kernel_rfl
 simp[hg,hh]
theorem eG.XT(h : eG I)(hw : Ok I w) : ∃tp p,w.var? Tryz.prog "strconv.ErrRange" =some #[.iface tp p] :=by
 obtain⟨tp,p,h1⟩:=h.rng;obtain⟨e,f,hh⟩:=hw _ _ h1;refine⟨tp,p,?_⟩;unfold World.var?;have hg : Tryz.prog.globalNamed "strconv.ErrRange" =some 2 :=by kernel_rfl
 simp[hg,hh]
theorem XU(I:IH)(hI:eG I)(n:Int)(w:World)(hw:Ok I w)(h0: -9223372036854775808≤n)(h1:n≤9223372036854775807):
 Calls Tryz.prog 201 #[.int .i64 n] w fun e w'=>e= .returned (S (Lib.itoa n))∧Below w.heap.size w w':=
 (Tryz.strconv_Itoa n h0 h1 w (hI.tab hw)).mono fun e w' ⟨he,k,os,hq⟩=>⟨he,by rw[hq];exact Lib.below_grow _ _ (Qn _) _ _⟩
def Iq(w:World)(e:Ending)(w':World):Prop:=∃n N,e= .returned (.tuple #[.int .i64 n,.iface 262 (.pointer (some ⟨N,0,none⟩))])∧Below w.heap.size w w'
theorem Xhm(s:af)(hs:s.length≤4294967280)(n:Int)(h:Lib.atoiAll s= .ok n)(w:World):
 Calls Tryz.prog 145 #[S s] w fun e w'=>e= .returned (.tuple #[.int .i64 n,.nilIface])∧Below w.heap.size w w':=by
 have dM:(⟨s.toArray⟩:ByteArray).size=s.length:=by simp[ByteArray.size]
 refine(Tryz.strconv_Atoi_ok ⟨s.toArray⟩ (by omega) n h w).mono fun e w' ⟨h1,h2⟩=>⟨h1,?_⟩;rcases h2 with h2|⟨t,h2⟩
 ·rw[h2];exact Qb _ _
 ·rw[h2];exact Joins.below_bytesWorld _ _ _ _ (Qn _)
theorem Xle(I:IH)(hI:eG I)(s:af)(hs:s.length≤4294967280)(h:∀n,Lib.atoiAll s≠ .ok n)(w:World)(hw:Ok I w):
 Calls Tryz.prog 145 #[S s] w (Iq w):=by
 have dM:(⟨s.toArray⟩:ByteArray).size=s.length:=by simp[ByteArray.size]
 by_cases hr:Lib.atoiAll s= .range
 ·obtain⟨tp,p,hv⟩:=hI.XT hw;exact(Tryz.strconv_Atoi_range_var ⟨s.toArray⟩ (by omega) hr tp p w hv).mono fun e w' ⟨N,h1,_,_,h4⟩=>⟨_,N,h1,h4⟩
 ·obtain⟨tp,p,hv⟩:=hI.XR hw;exact(Tryz.strconv_Atoi_syntax_var ⟨s.toArray⟩ (by omega) h hr tp p w hv).mono fun e w' ⟨N,h1,_,_,h4⟩=>⟨0,N,h1,h4⟩
theorem Xsh(I:IH)(hI:eG I)(s:af)(hs:s.length≤4294967280)(w:World)(hw:Ok I w):
 Calls Tryz.prog 180 #[S s] w fun e w'=>e= .returned (.bool (fK s))∧Below w.heap.size w w':=by
 have Wl:=Xon s;by_cases iQ:∃n,Lib.atoiAll s= .ok n;case neg=>
  have Hn:=Qh (show fK s=false by
   cases h:fK s with
   |false=>rfl
   |true=>obtain⟨n,h1,_⟩:=Wl.1 h;exact absurd ⟨n,h1⟩ iQ)
  have D8:=Qh (Xle I hI s hs (fun n h=>iQ ⟨n,h⟩) w hw);clear Wl iQ;go_enter Tryz.func180,Tryz.ntmps180
  go_wp2_with fail
  refine D8.O.mono ?_;rintro e w1 ⟨n,N,rfl,aD⟩;go_wp2;go_ret;exact⟨ib Hn.O.symm,aD⟩
 obtain⟨n,hn⟩:=iQ;have D8:=Qh (Xhm s hs n hn w);have Hd:=Qh (show fK s=(decide (0≤n)&&decide (n≤1000000000)&&decide (Lib.itoa n=s)) by
  rw[Bool.eq_iff_iff,Wl];simp only[Bool.and_eq_true,decide_eq_true_eq];constructor
  ·rintro⟨m,h1,h2,h3,h4⟩;rw[hn]at h1;injection h1 with h1
   subst h1;exact⟨⟨h2,h3⟩,h4⟩
  ·rintro⟨⟨h2,h3⟩,h4⟩;exact⟨n,hn,h2,h3,h4⟩)
 clear Wl hn;by_cases h0:0≤n;case neg=>
  have Hn:=Qh (show fK s=false by rw[Hd.O,Qf h0];rfl);go_enter Tryz.func180,Tryz.ntmps180
  go_wp2_with fail
  refine D8.O.mono ?_;rintro e w1 ⟨rfl,aD⟩;go_wp2;go_ret;exact⟨(by first|exact ib Hn.O.symm|(rw[Hn.O];congr 1;simp;omega)),aD⟩
 by_cases h1:n≤1000000000;case neg=>
  have Hn:=Qh (show fK s=false by rw[Hd.O,Qf h1,Bool.and_false];rfl);go_enter Tryz.func180,Tryz.ntmps180
  go_wp2_with fail
  refine D8.O.mono ?_;rintro e w1 ⟨rfl,aD⟩;go_wp2;go_ret;exact⟨(by first|exact ib Hn.O.symm|(rw[Hn.O];congr 1;simp;omega)),aD⟩
 have Hn:=Qh (show fK s=(Lib.itoa n==s) by
  rw[Hd.O,Qt h0,Qt h1];by_cases h:Lib.itoa n=s<;>simp[h])
 have Au:=Qh (fun w hw=>XU I hI n w hw (by omega) (by omega));obtain⟨t,ht⟩:∃t,Lib.itoa n=t:=⟨_,rfl⟩;rw[ht]at Au Hn;clear ht;go_enter Tryz.func180,Tryz.ntmps180
 go_wp2_with fail
 refine D8.O.mono ?_;rintro e w1 ⟨rfl,aD⟩;go_wp2_with fail
 refine(Au.O _ (hw.below (Qn _) aD)).mono ?_;rintro e w2 ⟨rfl,aL⟩;go_wp2;go_ret;exact⟨ib Hn.O.symm,aD.trans (aL.mono aD.size)⟩
theorem Xsg(I:IH)(hI:eG I)(x:aT)(hx:x.target.length≤4294967280)(va vx:Value)(w:World)(hw:Ok I w):
 Calls Tryz.prog 132 #[gN x va vx] w fun e w'=>e= .returned (.bool (bO x))∧Below w.heap.size w w':=by
 by_cases h3:x.au=3
 ·have f3:((x.au:Int)==3)=true:=by simpa using h3
  by_cases h1:x.target=[]
  ·have Ht:=Qh (show bO x=false by rw[bO,if_pos h3,h1];rfl);obtain⟨p1,p2,p3,p4⟩:=BU h1;clear h3 h1;go_enter Tryz.func132,Tryz.ntmps132
   go_wp2;go_ret;exact⟨ib Ht.O.symm,(Qb _ _).alloc (Qn _) _⟩
  have Eo:1≤x.target.length:=List.length_pos_iff.2 h1;have Ht:=Qh (show bO x=decide (x.target.length≤200) by rw[bO,if_pos h3,Qt Eo];rfl);obtain⟨p1,p2,p3,p4⟩:=Ao h1;clear h3 h1;go_enter Tryz.func132,Tryz.ntmps132
  go_wp2;go_ret;exact⟨ib (by rw[Ht.O,decide_eq_decide];omega),(Qb _ _).alloc (Qn _) _⟩
 have f3:((x.au:Int)==3)=false:=by simpa using h3
 by_cases h5:x.au=5
 ·have f5:((x.au:Int)==5)=true:=by simpa using h5
  have Ht:=Qh (show bO x=fK x.target by rw[bO,if_neg h3,if_pos h5]);clear h3 h5;go_enter Tryz.func132,Tryz.ntmps132
  go_wp2_with fail
  refine(Xsh I hI x.target hx _ (hw.alloc _)).mono ?_;rintro e w1 ⟨rfl,aD⟩;go_wp2;go_ret;exact⟨ib Ht.O.symm,((Qb _ _).alloc (Qn _) _).trans (aD.mono (by simp))⟩
 have f5:((x.au:Int)==5)=false:=by simpa using h5
 have Ht:=Qh (show bO x=x.target.isEmpty by rw[bO,if_neg h3,if_neg h5]);clear h3 h5;go_enter Tryz.func132,Tryz.ntmps132
 go_wp2;go_ret;exact⟨ib (by rw[Ht.O]),(Qb _ _).alloc (Qn _) _⟩
end Go.Proofs.YtmdfjnhfhidmhaaGreatDoor
namespace Go.Proofs
open Go.Shelf
def Tryz.sW:Go.Shelf.Ren:=⟨fun|169=>156|n=>n,fun|70=>201|9=>9|0=>0|72=>203|37=>93|127=>233|3=>3|5=>5|n=>n,fun|n=>n⟩
theorem Tryz.Ir:Go.Proofs.Lays.n169 Tryz.prog Tryz.sW:={
 mixed:=by kernel_rfl
 f169:=Tryz.func156.trans (congrArg some (by kernel_rfl))
 t0:=Tryz.underlying0
 a0:=Tryz.isAgg0
 z0:=Tryz.sizeOf0
 v0:=Tryz.zeroValue0
 t3:=Tryz.underlying3
 a3:=Tryz.isAgg3
 z3:=Tryz.sizeOf3
 v3:=Tryz.zeroValue3
 t9:=Tryz.underlying9
 a9:=Tryz.isAgg9
 z9:=Tryz.sizeOf9
 v9:=Tryz.zeroValue9
 t37:=Tryz.underlying93
 a37:=Tryz.isAgg93
 z37:=Tryz.sizeOf93
 v37:=Tryz.zeroValue93
 t70:=Tryz.underlying201
 a70:=Tryz.isAgg201
 z70:=Tryz.sizeOf201
 v70:=Tryz.zeroValue201
 t72:=Tryz.underlying203
 a72:=Tryz.isAgg203
 z72:=Tryz.sizeOf203
 v72:=Tryz.zeroValue203
 t127:=Tryz.underlying233
 a127:=Tryz.isAgg233
 z127:=Tryz.sizeOf233
 v127:=Tryz.zeroValue233}
theorem Tryz.rf:Builder.Extra Tryz.prog Tryz.sW:={
 sizeBuilder:=by kernel_rfl
 liesBuilder:=by kernel_rfl
 t5:=Tryz.underlying5
 a5:=Tryz.isAgg5
 z5:=Tryz.sizeOf5
 v5:=Tryz.zeroValue5
 infoByte:=by kernel_rfl
 cellsByte:=by kernel_rfl
 sizeByte:=by kernel_rfl
 neB5:=by decide}
open Go.RowKit in
theorem Tryz.Builder_String_any(B b:Nat)(l:List UInt8)(w:World)(h:Lib.IsBuilder 203 5 B b (Lib.byteCells l) w)(Ag:B≤w.heap.size):
 Calls Tryz.prog 156 #[.pointer (some ⟨b,0,none⟩)] w fun e w'=>e= .returned (.string ⟨l.toArray⟩)∧Below B w w':=Any.Builder_String_any Tryz.Ir Tryz.rf B b l w h Ag
def Tryz.sZ:Go.Shelf.Ren:=⟨fun|105=>162|212=>208|99=>209|165=>181|166=>152|170=>210|169=>156|263=>246|264=>247|206=>248|240=>200|241=>222|276=>240|277=>252|n=>n,fun|9=>9|3=>3|4=>4|20=>20|0=>0|46=>186|109=>244|5=>5|72=>203|76=>192|51=>58|146=>273|53=>210|148=>275|70=>201|37=>93|75=>191|127=>233|164=>268|80=>205|n=>n,fun|n=>n⟩
theorem Tryz.Iu:Go.Proofs.Lays.n105 Tryz.prog Tryz.sZ:={
 mixed:=by kernel_rfl
 f99:=Tryz.func209.trans (congrArg some (by kernel_rfl))
 f105:=Tryz.func162.trans (congrArg some (by kernel_rfl))
 f165:=Tryz.func181.trans (congrArg some (by kernel_rfl))
 f166:=Tryz.func152.trans (congrArg some (by kernel_rfl))
 f169:=Tryz.func156.trans (congrArg some (by kernel_rfl))
 f170:=Tryz.func210.trans (congrArg some (by kernel_rfl))
 f206:=Tryz.func248.trans (congrArg some (by kernel_rfl))
 f212:=Tryz.func208.trans (congrArg some (by kernel_rfl))
 f240:=Tryz.func200.trans (congrArg some (by kernel_rfl))
 f241:=Tryz.func222.trans (congrArg some (by kernel_rfl))
 f263:=Tryz.func246.trans (congrArg some (by kernel_rfl))
 f264:=Tryz.func247.trans (congrArg some (by kernel_rfl))
 f276:=Tryz.func240.trans (congrArg some (by kernel_rfl))
 f277:=Tryz.func252.trans (congrArg some (by kernel_rfl))
 t0:=Tryz.underlying0
 a0:=Tryz.isAgg0
 z0:=Tryz.sizeOf0
 v0:=Tryz.zeroValue0
 t3:=Tryz.underlying3
 a3:=Tryz.isAgg3
 z3:=Tryz.sizeOf3
 v3:=Tryz.zeroValue3
 t4:=Tryz.underlying4
 a4:=Tryz.isAgg4
 z4:=Tryz.sizeOf4
 v4:=Tryz.zeroValue4
 t5:=Tryz.underlying5
 a5:=Tryz.isAgg5
 z5:=Tryz.sizeOf5
 v5:=Tryz.zeroValue5
 t9:=Tryz.underlying9
 a9:=Tryz.isAgg9
 z9:=Tryz.sizeOf9
 v9:=Tryz.zeroValue9
 t20:=Tryz.underlying20
 a20:=Tryz.isAgg20
 z20:=Tryz.sizeOf20
 v20:=Tryz.zeroValue20
 t37:=Tryz.underlying93
 a37:=Tryz.isAgg93
 z37:=Tryz.sizeOf93
 v37:=Tryz.zeroValue93
 t46:=Tryz.underlying186
 a46:=Tryz.isAgg186
 z46:=Tryz.sizeOf186
 v46:=Tryz.zeroValue186
 t51:=Tryz.underlying58
 a51:=Tryz.isAgg58
 z51:=Tryz.sizeOf58
 v51:=Tryz.zeroValue58
 t53:=Tryz.underlying210
 a53:=Tryz.isAgg210
 z53:=Tryz.sizeOf210
 v53:=Tryz.zeroValue210
 t70:=Tryz.underlying201
 a70:=Tryz.isAgg201
 z70:=Tryz.sizeOf201
 v70:=Tryz.zeroValue201
 t72:=Tryz.underlying203
 a72:=Tryz.isAgg203
 z72:=Tryz.sizeOf203
 v72:=Tryz.zeroValue203
 t75:=Tryz.underlying191
 a75:=Tryz.isAgg191
 z75:=Tryz.sizeOf191
 v75:=Tryz.zeroValue191
 t76:=Tryz.underlying192
 a76:=Tryz.isAgg192
 z76:=Tryz.sizeOf192
 v76:=Tryz.zeroValue192
 t109:=Tryz.underlying244
 a109:=Tryz.isAgg244
 z109:=Tryz.sizeOf244
 v109:=Tryz.zeroValue244
 t127:=Tryz.underlying233
 a127:=Tryz.isAgg233
 z127:=Tryz.sizeOf233
 v127:=Tryz.zeroValue233
 t146:=Tryz.underlying273
 a146:=Tryz.isAgg273
 z146:=Tryz.sizeOf273
 v146:=Tryz.zeroValue273
 t148:=Tryz.underlying275
 a148:=Tryz.isAgg275
 z148:=Tryz.sizeOf275
 v148:=Tryz.zeroValue275
 t164:=Tryz.underlying268
 a164:=Tryz.isAgg268
 z164:=Tryz.sizeOf268
 v164:=Tryz.zeroValue268}
theorem Tryz.ru:Builder.Extra Tryz.prog Tryz.sZ:={
 sizeBuilder:=by kernel_rfl
 liesBuilder:=by kernel_rfl
 t5:=Tryz.underlying5
 a5:=Tryz.isAgg5
 z5:=Tryz.sizeOf5
 v5:=Tryz.zeroValue5
 infoByte:=by kernel_rfl
 cellsByte:=by kernel_rfl
 sizeByte:=by kernel_rfl
 neB5:=by decide}
open Go.RowKit Go.Lib in
theorem Tryz.strings_Repeat(s:ByteArray)(c:Nat)(w:World)(hc:c≤9223372036854775807)(hlen:s.size*c≤140737488355328):
 Calls Tryz.prog 162 #[.string s,.int .i64 c] w fun e w'=>e= .returned (.string ⟨(Lib.repeatL s.data.toList c).toArray⟩)∧Below w.heap.size w w':=Any.strings_Repeat Tryz.Iu Tryz.ru s c w hc hlen
def Tryz.tq:Go.Shelf.Ren:=⟨fun|166=>152|240=>200|276=>240|n=>n,fun|0=>0|3=>3|4=>4|5=>5|9=>9|20=>20|37=>93|70=>201|72=>203|75=>191|80=>205|164=>268|n=>n,fun|n=>n⟩
theorem Tryz.Iw:Go.Proofs.Lays.n166 Tryz.prog Tryz.tq:={
 mixed:=by kernel_rfl
 f166:=Tryz.func152.trans (congrArg some (by kernel_rfl))
 f240:=Tryz.func200.trans (congrArg some (by kernel_rfl))
 f276:=Tryz.func240.trans (congrArg some (by kernel_rfl))
 t0:=Tryz.underlying0
 a0:=Tryz.isAgg0
 z0:=Tryz.sizeOf0
 v0:=Tryz.zeroValue0
 t3:=Tryz.underlying3
 a3:=Tryz.isAgg3
 z3:=Tryz.sizeOf3
 v3:=Tryz.zeroValue3
 t4:=Tryz.underlying4
 a4:=Tryz.isAgg4
 z4:=Tryz.sizeOf4
 v4:=Tryz.zeroValue4
 t9:=Tryz.underlying9
 a9:=Tryz.isAgg9
 z9:=Tryz.sizeOf9
 v9:=Tryz.zeroValue9
 t20:=Tryz.underlying20
 a20:=Tryz.isAgg20
 z20:=Tryz.sizeOf20
 v20:=Tryz.zeroValue20
 t37:=Tryz.underlying93
 a37:=Tryz.isAgg93
 z37:=Tryz.sizeOf93
 v37:=Tryz.zeroValue93
 t70:=Tryz.underlying201
 a70:=Tryz.isAgg201
 z70:=Tryz.sizeOf201
 v70:=Tryz.zeroValue201
 t72:=Tryz.underlying203
 a72:=Tryz.isAgg203
 z72:=Tryz.sizeOf203
 v72:=Tryz.zeroValue203
 t75:=Tryz.underlying191
 a75:=Tryz.isAgg191
 z75:=Tryz.sizeOf191
 v75:=Tryz.zeroValue191
 t164:=Tryz.underlying268
 a164:=Tryz.isAgg268
 z164:=Tryz.sizeOf268
 v164:=Tryz.zeroValue268}
theorem Tryz.ry:Builder.Extra Tryz.prog Tryz.tq:={
 sizeBuilder:=by kernel_rfl
 liesBuilder:=by kernel_rfl
 t5:=Tryz.underlying5
 a5:=Tryz.isAgg5
 z5:=Tryz.sizeOf5
 v5:=Tryz.zeroValue5
 infoByte:=by kernel_rfl
 cellsByte:=by kernel_rfl
 sizeByte:=by kernel_rfl
 neB5:=by decide}
theorem Tryz.Builder_WriteString(B b:Nat)(bs:List Value)(s:ByteArray)(w:World)(h:Lib.IsBuilder 203 5 B b bs w)(hlen:bs.length+s.size≤140737488355328)(Ag:B≤w.heap.size):
 Calls Tryz.prog 152 #[.pointer (some ⟨b,0,none⟩),.string s] w fun e w'=>e= .returned (.tuple #[.int .i64 s.size,.nilIface])∧(Lib.BuilderAt 203 5 B b (.pointer (some ⟨b,0,none⟩)) (bs++Lib.strCells s) w'∧RowKit.Below B w w'):=Any.Builder_WriteString Tryz.Iw Tryz.ry B b bs s w h hlen Ag
end Go.Proofs
namespace Go.Proofs.YtmdfjnhfhidmhaaGreatDoor
open Go.RowKit Go.Lib
theorem Xg7(c:UInt8):∀n,repeatL [c] n=List.replicate n c
 |0=>rfl
 |n+1=>by rw[repeatL,Xg7 c n,List.replicate_succ];rfl
theorem Xpu(l:af)(c:Int)(w:World)(h0:0≤c)(hc:c≤9223372036854775807)(hl:l.length*c.toNat≤140737488355328):
 Calls Tryz.prog 162 #[S l,.int .i64 c] w fun e w'=>e= .returned (S (repeatL l c.toNat))∧Below w.heap.size w w':=by
 obtain⟨c,rfl⟩:=Int.eq_ofNat_of_zero_le h0;have h:=Tryz.strings_Repeat ⟨l.toArray⟩ c w (by omega) (by rw[ByteArray.size_mk',List.size_toArray];simpa using hl);simpa using h
theorem Xli(l:List af):Lib.join l []=l.flatten:=by
 unfold Lib.join List.intercalate;induction l with
 |nil=>rfl
 |cons x l ih=>
  cases l with
  |nil=>rfl
  |cons y l=>rw[List.intersperse_cons_cons,List.flatten_cons,List.flatten_cons,ih,List.flatten_cons];rfl
theorem Xro(b off cap:Nat)(l:List af)(w:World)(hc:∀(j:Nat) x,l[j]?=some x→w.cell? ⟨b,off+j,none⟩=some (S x))(dO:l.length≤cap)(hb:b<w.heap.size)(hn:l.length≤1000000)(hl:l.flatten.length≤140737488355328):
 Calls Tryz.prog 138 #[.slice (some ⟨b,off,none⟩) l.length cap,S []] w fun e w'=>e= .returned (S l.flatten)∧Below w.heap.size w w':=by
 have hx:(l.map fun s=>(⟨s.toArray⟩:ByteArray)).map (·.data.toList)=l:=by
  rw[List.map_map];conv=>rhs;rw[←List.map_id l]
  apply List.map_congr_left;intro b _;simp
 have xk:Lib.join ((l.map fun s=>(⟨s.toArray⟩:ByteArray)).map (·.data.toList)) (⟨[].toArray⟩:ByteArray).data.toList=l.flatten:=by rw[hx];exact Xli l
 have h:=Tryz.strings_Join b off cap (l.map fun s=>⟨s.toArray⟩) ⟨[].toArray⟩ w (fun j x hx=> ?_) hb (by rw[List.length_map];omega) (by rw[List.length_map];exact dO) (by rw[xk];exact hl)
 ·rw[xk,List.length_map]at h;exact h
 ·rw[List.getElem?_map]at hx;cases hlj:l[j]? with
  |none=>rw[hlj]at hx;simp at hx
  |some s=>
   rw[hlj]at hx;simp at hx;subst hx;exact hc j s hlj
def UX(s:af):Int:=Lib.lastIndexByte ⟨s.toArray⟩ 47
open Go.RowKit
def rz:List Int:=[bits .xor .u32 1779033703 16842784,3144134277,1013904242,2773480762,1359893119,2600822924,528734635,1541459225]
def hAt(s:af):Nat→List Int
 |0=>rz
 |i+1=>dQ (hAt s i) ((s.drop (64*i)).take 64) ((64*i+64:Nat):Int) false
theorem QC(s:af):∀i,(hAt s i).length=8
 |0=>rfl
 |_+1=>Qv ..
def lK(s:af):Nat:=(s.length-1) / 64
def iM(s:af):List Int:=dQ (hAt s (lK s)) (s.drop (64*lK s)++List.replicate (64-(s.length-64*lK s)) 0) (s.length:Int) true
def tB:Ty Int:=Ty.flat 1 (fun x=> [.int .u8 x]) (fun _=>rfl) (fun _ u h=>by simp at h;subst h;rfl)
def iq(x:Int):List Int:=[x%256,x / 256%256,x / 65536%256,x / 16777216%256]
def iN(G:List Int)(k:Nat):List Int:=(G.take k).flatMap iq
theorem Xpt(G:List Int)(k:Nat)(hk:k<G.length):iN G (k+1)=iN G k++iq (G.getD k 0):=by
 rw[iN,iN,List.take_succ_eq_append_getElem hk,List.flatMap_append];simp[List.getD,List.getElem?_eq_getElem hk]
theorem Xf7(G:List Int):∀k,(iN G k).length≤4*k:=by
 intro k;have:∀L:List Int,(L.flatMap iq).length=4*L.length:=by
  intro L;induction L with
  |nil=>rfl
  |cons x L ih=>rw[List.flatMap_cons,List.length_append,ih];simp[iq];omega
 rw[iN,this];simp;omega
theorem Xik(I:IH)(x:Int):bA tB I [.int .u8 (x%256),.int .u8 (x / 256%256),.int .u8 (x / 65536%256),.int .u8 (x / 16777216%256)] (iq x):=
 (((bA.one (T:=tB) (I:=I) (x:=x%256) (cs:=[.int .u8 (x%256)]) rfl).append (bA.one (T:=tB) (x:=x / 256%256) (cs:=[.int .u8 (x / 256%256)]) rfl)).append (bA.one (T:=tB) (x:=x / 65536%256) (cs:=[.int .u8 (x / 65536%256)]) rfl)).append (bA.one (T:=tB) (x:=x / 16777216%256) (cs:=[.int .u8 (x / 16777216%256)]) rfl)
theorem Xtg{I:IH}{xs:List Value}{l:List Int}(h:bA tB I xs l)(j:Nat)(hj:j<l.length):xs[j]?=some (.int .u8 l[j]):=by
 obtain⟨cs,h1,h2⟩:=h.2 j hj;have e:cs=[.int .u8 l[j]]:=h1;subst e;have:=h2 0 _ rfl;rw[show j*tB.size+0=j by show j*1+0=j;omega]at this;exact this
theorem Xe9:∀(l:List Int) (a:ByteArray),List.foldl (fun r n=>r.push (UInt8.ofNat n.toNat)) a l=⟨a.data++(l.map fun x=>UInt8.ofNat x.toNat).toArray⟩
 | [],a=>by simp
 |x::l,a=>by
  rw[List.foldl_cons,Xe9 l];apply ByteArray.ext;simp[ByteArray.push]
theorem Xt5(l:List Int):List.foldl (fun r n=>r.push (UInt8.ofNat n.toNat)) ByteArray.empty l=⟨(l.map fun x=>UInt8.ofNat x.toNat).toArray⟩:=by
 rw[Xe9];apply ByteArray.ext;show(#[]:Array UInt8)++_=_;simp
theorem XV{P:Program}{I:IH}{E src dst e:TypeId}{v:Value}{l:List Int}{B:Nat}(hs:P.underlying src=some (.slice e))(he:P.underlying e=some (.int .u8))(hd:P.underlying dst=some .string)(W:World)(h:aK tB E I W B v l)(hl:0<l.length):
 (convert src dst v).run P W= .ok (S (l.map fun x=>UInt8.ofNat x.toNat)) W:=by
 obtain⟨xs,⟨_,lU⟩,hL⟩:=h;rcases lU with⟨_,h0⟩|⟨g,cap,cur,rfl,_,hg,_,_,_,ht⟩
 ·omega
 ·rw[run_convert_bytes_string _ _ _ e _ _ _ hs he hd,run_bytesToString (ns:=l)]
  ·rw[Xt5]
  ·have hc:=run_loadCells_list (P:=P) W ⟨g,0,none⟩ (l.map fun x=>Value.int .u8 x) (fun j u hu=>by
    have hj:j<l.length:=by simpa using(List.getElem?_eq_some_iff.1 hu).1
    rw[Addr.add_lit,Nat.zero_add,cell_of_row _ _ _ _ _ _ hg];have h1:=Xtg hL j hj;rw[←ht,List.getElem?_take]at h1;split at h1
    ·rw[←Array.getElem?_toList,h1];simpa[hj]using hu
    ·cases h1)
   simpa using hc
def fA(s:af):af:=(iN (iM s) 8).map fun x=>UInt8.ofNat x.toNat
theorem UY:(Tryz.prog.info? 5).map (fun i=>(i.zero,i.size,i.bytes))=some (some (.int .u8 0),1,1):=by kernel_rfl
theorem Xuz:∃ZZ:Array Value,ZZ.size=32∧ ∀W,(Instr.makeSlice 93 (.int .i64 0) (.int .i64 32)).run Tryz.prog W= .ok (.slice (some ⟨W.heap.size,0,none⟩) 0 32) (W.alloc (.cells ZZ 5)):=by
 obtain⟨i,h1,h2,h3,h4⟩:=info_parts UY;refine⟨madeCells (Value.int .u8 0).cells (32*i.size),by rw[size_madeCells,h3],fun W=> ?_⟩;exact run_make (P:=Tryz.prog) W 93 5 i _ Tryz.underlying93 h1 h2 .i64 .i64 0 32 (by omega) (by omega) (by rw[h4];omega) (by omega)
theorem QD:dS Tryz.prog 93 5 tB 1:=dS.of Tryz.underlying93 UY rfl (by decide) rfl
theorem Xot(b off cap:Nat)(l:List af)(s:af)(hl:l.flatten=s)(hs:s.length≤140737488355328)(w:World)(hc:∀(j:Nat) x,l[j]?=some x→w.cell? ⟨b,off+j,none⟩=some (S x))(dO:l.length≤cap)(rW:b<w.heap.size)(hn:l.length≤1000000):
 Calls Tryz.prog 110 #[.slice (some ⟨b,off,none⟩) l.length cap] w fun e w'=>e= .returned (S (fA s))∧Below w.heap.size w w':=by
 have Hj:=Qh (Xro b off cap l w hc dO rW hn (by rw[hl];exact hs));rw[hl]at Hj;clear hc hl dO hn rW;go_enter Tryz.func110,Tryz.ntmps110
 go_wp2_with fail
 refine Hj.O.mono ?_;rintro e w0 ⟨rfl,ym⟩;clear Hj;go_wp2_with fail
 refine(Xh9 _).mono ?_;rintro e w1 ⟨rfl,QE⟩;have aD:=ym.trans (QE.mono ym.size);clear ym QE;rw[show row eX=#[.int .u32 1779033703,.int .u32 3144134277,.int .u32 1013904242,.int .u32 2773480762,.int .u32 1359893119,.int .u32 2600822924,.int .u32 528734635,.int .u32 1541459225]from rfl];go_wp2_with fail
 obtain⟨B,ug⟩:∃B,w1.heap.size=B:=⟨_,rfl⟩;have Ag:w.heap.size≤B:=by rw[←ug];exact aD.size
 have bu:=Qh (show(w1.alloc (.cells (row rz) 206)).heap[B]?=some (.cells (row (hAt s 0)) 206 (0,0)) by rw[←ug];exact heap_alloc_new _ _);have Iy:=Qh (show Below w.heap.size w (w1.alloc (.cells (row rz) 206))from aD.alloc aD.size _);rw[ug];clear aD ug;obtain⟨L,hL⟩:∃L,lK s=L:=⟨_,rfl⟩;have hL':L=(s.length-1) / 64:=hL.symm;have HL:=Qh hL;clear hL;go_loopw [5] (fun s5 wr=> ∃i:Nat,i≤L∧s5= .int .i64 (64*(i:Int))∧Below w.heap.size w wr∧B<wr.heap.size∧wr.heap[B]?=some (.cells (row (hAt s i)) 206 (0,0))) (fun i _=>s.length-(intOf i).toNat)
 case atStart=>exact⟨0,Nat.zero_le _,rfl,Iy.O,(by have:=bu.O;exact(Qg this)),bu.O⟩
 case round=>
  clear bu Iy;obtain⟨i,hi,rfl,hb,ui,hB⟩:=hrel;by_cases hlt:i<L
  ·have hlen:64*i+64<s.length:=by omega
   obtain⟨e0,e1,e2,e3,e4,e5,e6,e7,he⟩:=LF (QC s i);have He:=Qh he;rw[he]at hB;clear he;have d0:wr.cell? ⟨B,0,none⟩=some (.int .u32 e0):=(cell_of_row wr B 0 _ _ _ hB).trans rfl;have d1:wr.cell? ⟨B,1,none⟩=some (.int .u32 e1):=(cell_of_row wr B 1 _ _ _ hB).trans rfl;have d2:wr.cell? ⟨B,2,none⟩=some (.int .u32 e2):=(cell_of_row wr B 2 _ _ _ hB).trans rfl;have d3:wr.cell? ⟨B,3,none⟩=some (.int .u32 e3):=(cell_of_row wr B 3 _ _ _ hB).trans rfl;have d4:wr.cell? ⟨B,4,none⟩=some (.int .u32 e4):=(cell_of_row wr B 4 _ _ _ hB).trans rfl;have d5:wr.cell? ⟨B,5,none⟩=some (.int .u32 e5):=(cell_of_row wr B 5 _ _ _ hB).trans rfl;have d6:wr.cell? ⟨B,6,none⟩=some (.int .u32 e6):=(cell_of_row wr B 6 _ _ _ hB).trans rfl;have d7:wr.cell? ⟨B,7,none⟩=some (.int .u32 e7):=(cell_of_row wr B 7 _ _ _ hB).trans rfl;have z0:=frozen_of_row wr B 0 _ _ hB;have z1:=frozen_of_row wr B 1 _ _ hB;have z2:=frozen_of_row wr B 2 _ _ hB;have z3:=frozen_of_row wr B 3 _ _ hB;have z4:=frozen_of_row wr B 4 _ _ hB;have z5:=frozen_of_row wr B 5 _ _ hB;have z6:=frozen_of_row wr B 6 _ _ hB;have z7:=frozen_of_row wr B 7 _ _ hB;have HB:=Qh hB;clear hB;go_wp2_with fail
   have wL:IntKind.i64.wrap (64*(i:Int)+64)=64*(i:Int)+64:=IntWalk.i64_in _ (by omega);have Es:IntKind.u64.wrap (64*(i:Int)+64)=64*(i:Int)+64:=IntWalk.u64_in _ (by omega);have qP:(0:Int)≤64*(i:Int)+64:=by omega
   have GX:64*(i:Int)+64≤(s.length:Int):=by omega
   have Ki:(0:Int)≤64*(i:Int):=by omega
   have hw6:64*(i:Int)≤64*(i:Int)+64:=by omega
   have hw7:(64*(i:Int)+64).toNat=64*i+64:=by omega
   have hw8:(64*(i:Int)).toNat=64*i:=by omega
   have hw9:64*i+64-64*i=64:=by omega
   have nV:((s.drop (64*i)).take 64).length=64:=by simp;omega
   obtain⟨c0,c1,c2,c3,c4,c5,c6,c7,hc⟩:=LF (Qv [e0,e1,e2,e3,e4,e5,e6,e7] ((s.drop (64*i)).take 64) (64*(i:Int)+64) false);have Hc:=Qh hc;clear hc;go_region_law (go_simp;go_at_call 161;refine(Xgg [e0,e1,e2,e3,e4,e5,e6,e7] rfl ((s.drop (64*i)).take 64) nV (64*(i:Int)+64) false _).mono ?_;rintro e w' ⟨rfl,sS⟩;rw[Hc.O,show row [c0,c1,c2,c3,c4,c5,c6,c7]=#[.int .u32 c0,.int .u32 c1,.int .u32 c2,.int .u32 c3,.int .u32 c4,.int .u32 c5,.int .u32 c6,.int .u32 c7]from rfl];have y0:w'.cell? ⟨B,0,none⟩=some (.int .u32 e0):=(sS.cell ui).trans d0;have y1:w'.cell? ⟨B,1,none⟩=some (.int .u32 e1):=(sS.cell ui).trans d1;have y2:w'.cell? ⟨B,2,none⟩=some (.int .u32 e2):=(sS.cell ui).trans d2;have y3:w'.cell? ⟨B,3,none⟩=some (.int .u32 e3):=(sS.cell ui).trans d3;have y4:w'.cell? ⟨B,4,none⟩=some (.int .u32 e4):=(sS.cell ui).trans d4;have y5:w'.cell? ⟨B,5,none⟩=some (.int .u32 e5):=(sS.cell ui).trans d5;have y6:w'.cell? ⟨B,6,none⟩=some (.int .u32 e6):=(sS.cell ui).trans d6;have y7:w'.cell? ⟨B,7,none⟩=some (.int .u32 e7):=(sS.cell ui).trans d7;have g0:w'.frozen? ⟨B,0,none⟩=false:=(sS.frozen ui).trans z0;have g1:w'.frozen? ⟨B,1,none⟩=false:=(sS.frozen ui).trans z1;have g2:w'.frozen? ⟨B,2,none⟩=false:=(sS.frozen ui).trans z2;have g3:w'.frozen? ⟨B,3,none⟩=false:=(sS.frozen ui).trans z3;have g4:w'.frozen? ⟨B,4,none⟩=false:=(sS.frozen ui).trans z4;have g5:w'.frozen? ⟨B,5,none⟩=false:=(sS.frozen ui).trans z5;have g6:w'.frozen? ⟨B,6,none⟩=false:=(sS.frozen ui).trans z6;have g7:w'.frozen? ⟨B,7,none⟩=false:=(sS.frozen ui).trans z7;have XW:=Qh sS;clear sS)
   have zK:=(XW.O.block B ui).trans HB.O;have hv:=heap_setCell (i:=7) c7 (heap_setCell (i:=6) c6 (heap_setCell (i:=5) c5 (heap_setCell (i:=4) c4 (heap_setCell (i:=3) c3 (heap_setCell (i:=2) c2 (heap_setCell (i:=1) c1 (heap_setCell (i:=0) c0 (zK))))))));have cu:Below w.heap.size w w':=hb.drew.trans (XW.O.mono hb.size);have XX:=Below.setCell (Below.setCell (Below.setCell (Below.setCell (Below.setCell (Below.setCell (Below.setCell (Below.setCell (cu) (p:=⟨B,0,none⟩) Ag (.int .u32 c0)) (p:=⟨B,1,none⟩) Ag (.int .u32 c1)) (p:=⟨B,2,none⟩) Ag (.int .u32 c2)) (p:=⟨B,3,none⟩) Ag (.int .u32 c3)) (p:=⟨B,4,none⟩) Ag (.int .u32 c4)) (p:=⟨B,5,none⟩) Ag (.int .u32 c5)) (p:=⟨B,6,none⟩) Ag (.int .u32 c6)) (p:=⟨B,7,none⟩) Ag (.int .u32 c7);have abv:=XW.O.size;go_wp2;go_roundw;case rel=>exact⟨i+1,by omega,by go_num,XX,(by simp[World.setCell];simp at abv;omega),(by rw[hAt,He.O,show((64*i+64:Nat):Int)=64*(i:Int)+64 by omega,Hc.O];exact hv)⟩
   case measure=>simp[intOf];omega
  ·have Lb:i=L:=by omega
   have CL:s.length≤64*i+64:=by omega
   have JD:64*i≤s.length:=by omega
   have wL:IntKind.i64.wrap (64-((s.length:Int)-64*(i:Int)))=64-((s.length:Int)-64*(i:Int)):=IntWalk.i64_in _ (by omega);have Es:IntKind.i64.wrap ((s.length:Int)-64*(i:Int))=(s.length:Int)-64*(i:Int):=IntWalk.i64_in _ (by omega);have qP:64*(i:Int)≤(s.length:Int):=by omega
   have GX:(0:Int)≤64*(i:Int):=by omega
   have Ki:(64*(i:Int)).toNat=64*i:=by omega
   obtain⟨c,akW⟩:∃c:Nat,(64:Int)-((s.length:Int)-64*(i:Int))=c:=⟨64-(s.length-64*i),by omega⟩;have PN:c=64-(s.length-64*i):=by omega
   have HB:=Qh hB;clear hB;have Hie:=Qh (show lK s=i by rw[HL.O,Lb]);have Hcn:=Qh PN;have uG:c≤64:=by omega
   have GY:(Lib.repeatL [0] (c:Int).toNat).length≤100:=by rw[Lib.repeatL_length];simp;omega
   have abw:(Lib.repeatL [0] c).length≤100:=by rw[Lib.repeatL_length];simp;omega
   clear Lb hL' PN hlt hi;go_wp2_with fail
   refine wp_region_quiet_below (by kernel_rfl) (by kernel_rfl) ?_;repeat(go_big_quiet_step ((exact Calls.regrown_of (Xpu [0] c _ (by omega) (by omega) (by simp;omega)))))
   refine wpQuiet_nil ?_;intro w2 bq;have aL:Below (wr).heap.size (wr) w2:=by
    obtain⟨pq,rfl⟩:=bq;exact below_regrown _ _ _
   clear bq;obtain⟨PB,XY⟩:∃PB,List.take (s.length-64*i) (List.drop (64*i) s)++Lib.repeatL [0] c=PB:=⟨_,rfl⟩;rw[XY];have HPB:=Qh (show PB=s.drop (64*i)++List.replicate (64-(s.length-64*i)) 0 by rw[←XY,Xg7,List.take_of_length_le (by simp),Hcn.O]);have QF:PB.length=64:=by rw[HPB.O];simp;omega
   clear XY GY abw;have Av:=QC s i;have qx:=Qh (show iM s=dQ (hAt s i) PB (s.length:Int) true by rw[iM,Hie.O,HPB.O]);have mJ:=(aL.block B ui).trans HB.O;have eZ:B<w2.heap.size:=by have:=aL.size;omega
   have qL:Below w.heap.size w w2:=hb.trans (aL.mono hb.size);generalize hAt s i=F at mJ Av qx;have wm:(Tryz.prog.info? 206).map (·.size)=some (row F).size:=by rw[bG,Av];kernel_rfl
   have arJ:IntKind.u64.wrap (s.length:Int)=(s.length:Int):=IntWalk.u64_in _ (by omega);clear aL HB;go_wp2_with (refine wpList_load_row rfl 206 _ rfl B rfl 206 (row F) (0,0) _ mJ Tryz.underlying206 rfl wm ?_)
   refine(Xgg F Av PB QF (s.length:Int) true _).mono ?_;rintro e w3 ⟨rfl,dX⟩;rw[←qx.O];have Iz:(iM s).length=8:=Qv ..;obtain⟨G,hG⟩:∃G,iM s=G:=⟨_,rfl⟩;have HG:=Qh hG;rw[hG]at Iz ⊢;clear hG;have hB3:=(dX.block B eZ).trans mJ;have pJ:B<w3.heap.size:=by have:=dX.size;omega
   have qy:Below w.heap.size w w3:=qL.trans (dX.mono qL.size);have QG:(Tryz.prog.info? 206).map (·.size)=some (row G).size:=by rw[bG,Iz];kernel_rfl
   have D5:(row F).size=(row G).size:=by rw[bG,bG,Av,Iz]
   have uM:(row G).all (·.oneCell')=true:=by simp[row,Value.oneCell']
   clear dX qx;go_upto_region 10 with(refine wpList_store_row rfl 206 _ _ rfl B (row G) rfl rfl 206 (row F) hB3 QG D5 uM ?_)
   have hB4:(w3.setRow B (row G)).heap[B]?=some (.cells (row G) 206 (0,0)):=setRow_heap _ _ _ _ _ _ hB3;have CZ:Below w.heap.size w (w3.setRow B (row G)):=below_setRow qy Ag _;have dJ:B<(w3.setRow B (row G)).heap.size:=by simpa using pJ
   generalize w3.setRow B (row G)=w4 at hB4 CZ dJ;clear hB3 qy pJ;obtain⟨ZZ,hZZ,jA⟩:=Xuz;have UZ:(w4.alloc (.cells ZZ 5)).heap[B]?=some (.cells (row G) 206 (0,0)):=(Below.heap_alloc _ _ _ dJ).trans hB4;go_wp2_with (refine wpList_load_row rfl 206 _ rfl B rfl 206 (row G) (0,0) _ UZ Tryz.underlying206 rfl QG ?_)
   have Bw:w.heap.size≤w4.heap.size:=CZ.size;have bu:=Qh (show aK tB 5 (fun _=>none) (w4.alloc (.cells ZZ 5)) w4.heap.size (.slice (some ⟨w4.heap.size,0,none⟩) 0 32) []from⟨[],World.ownsRow_made w4 ZZ 32 (Qn _) (by decide) (by rw[hZZ];rfl),bA.nil _ _⟩);have Iy:=Qh (CZ.alloc Bw (.cells ZZ 5));obtain⟨B0,IA⟩:∃B0,w4.heap.size=B0:=⟨_,rfl⟩;have jM:B0≤(w4.alloc (.cells ZZ 5)).heap.size:=by simp;omega
   rw[IA]at Bw bu ⊢;clear hB4 UZ CZ dJ jA;go_loopw [7,58] (fun s7 s58 wr=> ∃k:Nat,k≤8∧s58= .int .i64 k∧aK tB 5 (fun _=>none) wr B0 s7 (iN G k)∧Below w.heap.size w wr∧B0≤wr.heap.size) (fun _ k _=>8-(intOf k).toNat)
   case atStart=>exact⟨0,Nat.zero_le _,rfl,bu.O,Iy.O,jM⟩
   case round=>
    clear bu Iy jM;obtain⟨k,hk,rfl,bg,Wj,QH⟩:=hrel;by_cases je:k<8
    ·have Gb:=Xp (P:=Tryz.prog) Tryz.underlying206 Tryz.underlying58 rfl (by kernel_rfl) k je (pG (l:=G) (i:=k) (by omega));have Gp:=Qh (Xpt G k (by omega));have F3:=Xf7 G k;generalize G.getD k 0=x at Gb Gp;have Oe:(iq x).length=4:=rfl;have ky:=Xik (fun _=>none) x;go_wp2_with (at_builtin;refine Xii (w0:=wr) QD rfl _ _ rfl _ _ _ rfl bg (iq x) [.int .u8 (x%256),.int .u8 (x / 256%256),.int .u8 (x / 65536%256),.int .u8 (x / 16777216%256)] _ rfl ky (by rw[Oe];omega) (by rw[Oe];omega) (by rw[Oe];omega) QH ?_)
     intro v5 w5 gM hg5;have bM:=Below.own Wj hg5 bg Bw QH;have jM:=hg5.size;go_wp2;go_roundw;case rel=>exact⟨k+1,by omega,by go_num,by rw[Gp.O];exact gM,bM,by omega⟩
     case measure=>simp[intOf];omega
    ·have nY:k=8:=by omega
     have XZ:=Qh (show(iN G k).map (fun x=>UInt8.ofNat x.toNat)=fA s by rw[fA,HG.O,nY]);have vI:0<(iN G k).length:=by rw[nY];match G,Iz with|_::_,_=>simp[iN,iq]
     have Wm:=XV (P:=Tryz.prog) Tryz.underlying93 Tryz.underlying5 Tryz.underlying9 _ bg vI;rw[XZ.O]at Wm;clear bg vI nY;go_wp2;go_ret;exact⟨rfl,Wj⟩
structure dK where
 num:Int
 aG:Int
 bR:af
 aB:List aT
 bC:af
 sl:af
def mO(e:aT):af:=fG (fu e.au)++fG e.ag++Ak e.aj++fG e.target
def Kj(l:List Xt):af:=l.flatMap fun x=>gB x.s++gB x.o++gB x.n
def yR(e:aT):af:=fG (mO e)++gB e.size++fG e.av++gB e.aA.length++Kj e.aA
def rA(s:dK):af:=gB s.num++gB s.aG++fG s.bR++(gB s.bC.length++fG (fA s.bC)++gB s.aB.length)
def nE(s:dK):af:=rA s++s.aB.flatMap yR
def EM(s:dK):Int:=if s.num<1∨255<s.num∨s.aG<0∨1000000000<s.aG then 2 else if s.bR≠[]∧s.bR.length≠32 then 1 else 0
def xI:List aT→Int
 | []=>0
 |e::l=>if aP e≠0 then aP e else xI l
def EN(s:dK):Int:=if EM s≠0 then EM s else if 14680064<s.bC.length∨400<s.aB.length then 6 else if xI s.aB≠0 then xI s.aB else if 2000<s.sl.length then 6 else 0
def xJ(s:dK):af×Int:=if EN s≠0 then([],EN s)else(fA (nE s),0)
structure mG where
 aI:List aT
 holds:List Ho
def sw(s:mG)(e:aT)(d:Int):Int:=if 3<e.au∨(ek s.aI e.ag).isSome=true then jP s.holds e.au e.ag d else 0
def gq(s:mG)(e:aT)(d:Int):mG×Int:=
 if(bS s.aI e).2≠0 then(s,(bS s.aI e).2)
 else if sw s e d≠0 then(s,sw s e d)
 else if(appH s.holds e d).2≠0 then(s,(appH s.holds e d).2)
 else(⟨(bS s.aI e).1,(appH s.holds e d).1⟩,0)
def cB:mG:=⟨[],[]⟩
def pK(s:mG)(d:Int)(l:List aT):mG:=l.foldl (fun s e=>(gq s e d).1) s
def bY(s:mG)(l:List dK):mG:=l.foldl (fun s x=>pK s x.aG x.aB) s
structure L9 (n:Nat) (s:mG):Prop where
 aI:JP s.aI
 holds:vL s.holds
 C8:s.aI.length≤n
 hlen:s.holds.length≤n
theorem Xvr:L9 0 cB:=⟨(Xwu []).1 rfl,Xrx,Qn _,Qn _⟩
theorem L9.mono{n m:Nat}{s:mG}(h:L9 n s)(hm:n≤m):L9 m s:=⟨h.aI,h.holds,Nat.le_trans h.C8 hm,Nat.le_trans h.hlen hm⟩
theorem X0{t:List aT}{e:aT}(h:(bS t e).2=0):bS t e=((bS t e).1,0):=Prod.ext rfl h
theorem Xtl{n:Nat}{s:mG}(h:L9 n s)(e:aT)(d:Int):L9 (n+1) (gq s e d).1:=by
 unfold gq;split
 ·exact h.mono (by omega)
 ·rename_i h1;split
  ·exact h.mono (by omega)
  ·split
   ·exact h.mono (by omega)
   ·have ha:=X0 (t:=s.aI) (e:=e) (by omega);obtain⟨zO,hx⟩:=qm.1 ha;have hl:=Xwe s.aI e;have hh:appH s.holds e d=((appH s.holds e d).1,(appH s.holds e d).2):=rfl;refine⟨Xs5 h.aI ha,Xwz h.holds zO.Ls hh,?_,?_⟩
    ·rw[hx];have:=h.C8;show(JS s.aI e).length≤_;omega
    ·have:=Xu7 hh;have:=h.hlen;show(appH s.holds e d).1.length≤_;omega
def X3(l:List dK)(x:Xt):Bool:=x.s==0 || (decide (x.s≤l.length)&&decide (x.o+x.n≤((l[(x.s-1).toNat]?).map fun s=>(s.bC.length:Int)).getD 0))
def IB(l:List dK)(e:aT):Bool:=e.aA.all (X3 l)
def Ca(l:List dK)(d:Int):mG→List aT→mG×Int
 |s,[]=>(s,0)
 |s,e::es=>if(gq s e d).2≠0 then((gq s e d).1,(gq s e d).2)else if IB l e=false then((gq s e d).1,2)else Ca l d (gq s e d).1 es
def yS(l:List dK):Nat→mG→af→Int→List dK→Int
 |_,_,_,_,[]=>0
 |i,s,bR,aG,x::xs=>
  if(xJ x).2≠0 then(xJ x).2
  else if x.num≠i+1∨x.aG<aG then 14
  else if x.bR≠bR then 20
  else if(Ca (l.take (i+1)) x.aG s x.aB).2≠0 then(Ca (l.take (i+1)) x.aG s x.aB).2
  else yS l (i+1) (Ca (l.take (i+1)) x.aG s x.aB).1 (xJ x).1 x.aG xs
def ak9(l:List dK):Int:=yS l 0 cB [] 0 l
structure Mc where
 s:Int
 d:Int
 e:aT
def EO(s:mG)(p:af)(e:aT):Bool:=(decide (e.au≤3)&&e.ag==p) || (e.au==4&&(ek s.aI p).isSome&&under p e.ag)
def QI(num d:Int)(p:af):mG→List aT→List Mc
 |_,[]=> []
 |s,e::es=>(if EO s p e then [⟨num,d,e⟩]else [])++QI num d p (gq s e d).1 es
def Cb(p:af):mG→List dK→List Mc
 |_,[]=> []
 |s,x::xs=>QI x.num x.aG p s x.aB++Cb p (pK s x.aG x.aB) xs
def ala(l:List dK)(p:af):List Mc:=Cb p cB l
def X4(d:Int):List dK→Nat
 | []=>0
 |x::l=>if d<x.aG then 0 else X4 d l+1
structure Ck where
 d:af
 x:Xt
structure fM where
 aJ:List Ck
 aV:Int
 str:af
def fB:List Ck→af→Option Xt
 | [],_=>none
 |c::l,d=>if c.d=d then some c.x else fB l d
def jr(l:List Xt)(x:Xt):List Xt:=
 match l.getLast? with
 |none=> [x]
 |some y=>if x.s≠0∧y.s=x.s∧y.o+y.n=x.o then l.dropLast++[⟨y.s,y.o,y.n+x.n⟩]else l++[x]
def lL(S:fM)(c:af):Xt:=⟨S.aV,(S.str.length:Nat),(c.length:Nat)⟩
def IC(S:fM)(c:af):fM×Xt:=
 match fB S.aJ (fA c)with
 |some x=>(S,x)
 |none=>(⟨S.aJ++[⟨fA c,lL S c⟩],S.aV,S.str++c⟩,lL S c)
def oK(p:fM×List Xt)(c:af):fM×List Xt:=((IC p.1 c).1,jr p.2 (IC p.1 c).2)
def mq(p:fM×List Xt)(g:Sg):fM×List Xt:=if g.d=[]then(p.1,jr p.2 ⟨0,0,g.n⟩)else(bT g.d).foldl oK p
def jL(S:fM)(c:af):fM×List Xt×Int:=
 if S.aV<1∨255<S.aV then(S,[],1)else if 65536<c.length then(S,[],6)
 else(((iK c).foldl mq (S,[])).1,((iK c).foldl mq (S,[])).2,0)
def jE(S:fM)(n:Int):fM×Int:=if n<1∨255<n then(S,2)else if n≤S.aV then(S,14)else(⟨S.aJ,n,[]⟩,0)
def xK(st:List af)(x:Xt):Bool:=decide (x.n<0) || decide (x.o<0) || decide (x.s<0) || decide ((st.length:Int)<x.s) || (x.s==0&&x.o !=0)
def kR(st:List af)(x:Xt):af:=st.getD (x.s-1).toNat []
def mP(st:List af):List Xt→af→af×Int
 | [],out=>(out,0)
 |x::r,out=>
  if xK st x=true then([],2)
  else if 0<x.s∧(((kR st x).length:Int)<x.o∨((kR st x).length:Int)-x.o<x.n)then([],2)
  else if 65536-(out.length:Int)<x.n then([],6)
  else mP st r (out++if x.s=0 then List.replicate x.n.toNat 0 else((kR st x).drop x.o.toNat).take x.n.toNat)
def wu(st:List af)(l:List Xt):af×Int:=mP st l []
theorem Xox(l:List Xt)(x:Xt):(jr l x).length≤l.length+1∧0<(jr l x).length:=by
 unfold jr;split
 ·simp
 ·rename_i y hy;have hl:0<l.length:=by cases l with
   |nil=>simp at hy
   |cons a l=>simp
  split<;>simp<;>omega
