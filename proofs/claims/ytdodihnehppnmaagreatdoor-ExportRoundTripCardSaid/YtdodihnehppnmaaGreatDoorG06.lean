/- Lemmas for the claim's theorem;conditions: as each says. -/
import Derived.Test.YtdodihnehppnmaaGreatDoorG05
import Derived.Lib.SmallJoins
import Derived.Lib.AppendIntMem
import Derived.Shelf.Strings.Builder1
import Derived.Shelf.Strings.Builder2
import Derived.Shelf.Strings.Repeat
import Derived.Shelf.Strings.LastIndex
import Derived.Test.YtdodihnehppnmaaGreatDoorProg
import Derived.Lib.Repeat
import Derived.Laws.MakeOwn
import Derived.Shelf.Strings.Prefix
import Derived.Shelf.Slices.Turned
import Derived.OwnWalk
set_option maxHeartbeats 0
set_option maxRecDepth 100000
set_option linter.all false
namespace Go.Proofs.YtdodihnehppnmaaGreatDoor
open Go.RowKit
variable{I:IH}{w:World}
theorem Xxv(I:IH)(v:Value)(l:List At)(hv:bf kT I v l)(hl:∀x∈l,x.Wf)(w:World)(hw:Ok I w):
 Calls Tryz.prog 130 #[v] w fun e w'=>e= .returned (.int .i64 (mq l))∧Below w.heap.size w w':=by
 have hlen:=hv.dh;obtain⟨ao,cap,rfl,dD,il,_⟩:=id hv;have Hv:=Qh hv;clear hv;have Hl:=Qh hl;clear hl;by_cases h16:l.length≤16
 ·have hd:decide (16<l.length)=false:=Qf (by omega);have wD:=Qh (show mq l=dP none l by rw[mq,if_neg (by omega)]);go_enter Tryz.func130,Tryz.ntmps130
  go_wp2_with fail
  go_loopw [11] (fun s11 wr=> ∃k:Nat,k≤l.length∧s11= .int .i64 k∧dP (if k=0 then none else l[k-1]?) (l.drop k)=dP none l∧Below w.heap.size w wr) (fun i _=>l.length-(intOf i).toNat)
  case atStart=>exact⟨0,Nat.zero_le _,rfl,rfl,Qb _ _⟩
  case round=>
   obtain⟨k,hk,rfl,hr,hb⟩:=hrel;have Hr:=Qh hr;clear hr;by_cases hlt:k<l.length
   ·have dz:Ok I wr:=hw.below (Qn _) hb;obtain⟨x,b,off,cap',bN,di,mM,qX⟩:=uU Hv.O dz k hlt;cases di;have uS:x∈l:=by rw[←bN];exact List.getElem_mem hlt
    have OX:=Qh (Hl.O x uS);have bB:=Qh (show mq l=if fJ x≠0 then fJ x else if((if k=0 then none else l[k-1]?).any fun q=>q.k==x.k)then 8 else if((if k=0 then none else l[k-1]?).any fun q=>Op.bytesLess x.k q.k)then 14 else dP (some x) (l.drop (k+1)) by
     rw[wD.O,←Hr.O,List.drop_eq_getElem_cons hlt,bN,Xha])
    have IC:=Qh (show l[k]?=some x by rw[List.getElem?_eq_getElem hlt,bN]);clear bN uS;go_wp2_with fail
    refine(Xz3 x OX.O _).mono ?_;rintro e w1 ⟨rfl,au⟩;obtain⟨hx0,fP⟩:=VY rfl au;have av:=(hb.alloc hb.size _).trans (au.mono (by have:=hb.size;simp;omega));have uF:Ok I w1:=hw.below (Qn _) av;clear au mM qX;by_cases h0:fJ x=0
    ·have H0:=Qh h0;rw[h0];clear h0;by_cases qV:k=0
     ·have EI:((k:Int)==0)=true:=by rw[qV];rfl
      have gN:=Qh (show dP (if k+1=0 then none else l[k+1-1]?) (l.drop (k+1))=dP none l by
       rw[←wD.O,bB.O,H0.O,if_neg (by omega),Nat.add_sub_cancel,IC.O];simp[qV])
      clear qV;go_wp2;go_roundw;case rel=>exact⟨k+1,by omega,by go_num,gN.O,av⟩
      case measure=>simp[intOf];omega
     ·obtain⟨q,b',off',tO,C8,di,Bf,hp1⟩:=uU Hv.O uF (k-1) (by omega);cases di;have rf:=Qh (show mq l=if(q.k==x.k)then 8 else if Op.bytesLess x.k q.k then 14 else dP (some x) (l.drop (k+1)) by
       rw[bB.O,H0.O,if_neg (by omega),if_neg qV,List.getElem?_eq_getElem (by omega),C8];rfl)
      have EI:((k:Int)==0)=false:=by rw[beq_eq_false_iff_ne];omega
      have hi:IntKind.i64.wrap ((k:Int)-1)=(k:Int)-1:=IntWalk.i64_in _ (by omega);have hj:0≤(k:Int)-1:=by omega
      have hm:((k:Int)-1).toNat=k-1:=by omega
      have RI:=cell_regrown hx0;have ZX:=cell_regrown Bf;have Am:=Xnp q.k x.k;have wL:=Qh (fun W=>Xoq q.k x.k W);generalize Lib.compareBytes q.k x.k=r at Am wL;clear C8;rcases ML q.k x.k with ht|ht|ht
      ·have kV:r= -1:=by rw[Am,ht];rfl
       have gN:=Qh (show dP (if k+1=0 then none else l[k+1-1]?) (l.drop (k+1))=dP none l by
        have RN:(q.k==x.k)=false:=by simpa using MN ht
        rw[←wD.O,rf.O,MM ht,RN,Nat.add_sub_cancel,IC.O];simp)
       subst kV;clear ht Am;go_wp2_with fail
       refine wp_region_quiet_below (by kernel_rfl) (by kernel_rfl) ?_;repeat(go_big_quiet_step ((with_reducible exact Calls.regrown_of (wL.O _))))
       refine wpQuiet_nil ?_;intro w2 bg;have aD:Below (w1).heap.size (w1) w2:=by
        obtain⟨pq,rfl⟩:=bg;exact below_regrown _ _ _
       clear bg;go_wp2;go_roundw;case rel=>exact⟨k+1,by omega,by go_num,gN.O,av.trans (aD.mono av.size)⟩
       case measure=>simp[intOf];omega
      ·have RN:(q.k==x.k)=true:=by rw[ht];exact beq_self_eq_true _
       have rO:Op.bytesLess q.k x.k=false:=by rw[ht];exact Df _
       have kV:r=0:=by rw[Am,rO,RN];rfl
       have gN:=Qh (show mq l=8 by rw[rf.O,if_pos RN]);subst kV;clear ht Am RN rO;go_wp2_with fail
       refine wp_region_quiet_below (by kernel_rfl) (by kernel_rfl) ?_;repeat(go_big_quiet_step ((with_reducible exact Calls.regrown_of (wL.O _))))
       refine wpQuiet_nil ?_;intro w2 bg;have aD:Below (w1).heap.size (w1) w2:=by
        obtain⟨pq,rfl⟩:=bg;exact below_regrown _ _ _
       clear bg;go_wp2;go_ret;exact⟨bT gN.O.symm,av.trans (aD.mono av.size)⟩
      ·have cK:(q.k==x.k)=false:=by simpa using(MN ht).symm
       have kV:r=1:=by rw[Am,MM ht,cK];rfl
       have gN:=Qh (show mq l=14 by rw[rf.O,if_neg (by rw[cK];simp),if_pos ht]);subst kV;clear ht Am cK;go_wp2_with fail
       refine wp_region_quiet_below (by kernel_rfl) (by kernel_rfl) ?_;repeat(go_big_quiet_step ((with_reducible exact Calls.regrown_of (wL.O _))))
       refine wpQuiet_nil ?_;intro w2 bg;have aD:Below (w1).heap.size (w1) w2:=by
        obtain⟨pq,rfl⟩:=bg;exact below_regrown _ _ _
       clear bg;go_wp2;go_ret;exact⟨bT gN.O.symm,av.trans (aD.mono av.size)⟩
    ·obtain⟨q,hq⟩:∃q,fJ x=q:=⟨_,rfl⟩;have Ao:(q !=0)=true:=by rw[←hq];simpa using h0
     have Hs:=Qh (show mq l=q by rw[bB.O,if_pos h0,hq]);rw[hq];clear hq h0;go_wp2;go_ret;exact⟨bT Hs.O.symm,av⟩
   ·go_wp2;go_ret;refine⟨bT ?_,hb⟩;rw[wD.O,←Hr.O,List.drop_of_length_le (by omega)];rfl
 ·have hd:decide (16<l.length)=true:=Qt (by omega);go_enter Tryz.func130,Tryz.ntmps130
  go_wp2;go_ret;exact⟨bT (by rw[mq,if_pos (by omega)]),Qb _ _⟩
theorem dG.tab(h : dG I)(hw : Ok I w) : Lib.TabIs Tryz.prog w "internal/strconv.uint64pow10" .u64 Lib.pow10Tab :=by
 obtain⟨e,f,hh⟩:=hw _ _ h.pow;unfold Lib.TabIs World.var?;have hg : Tryz.prog.globalNamed "internal/strconv.uint64pow10" =some 3 :=by kernel_rfl
 simp[hg,hh]
theorem dG.V4(h : dG I)(hw : Ok I w) : ∃tp p,w.var? Tryz.prog "strconv.ErrSyntax" =some #[.iface tp p] :=by
 obtain⟨tp,p,h1⟩:=h.syn;obtain⟨e,f,hh⟩:=hw _ _ h1;refine⟨tp,p,?_⟩;unfold World.var?;have hg : Tryz.prog.globalNamed "strconv.ErrSyntax" =some 1 :=by kernel_rfl
 simp[hg,hh]
theorem dG.V5(h : dG I)(hw : Ok I w) : ∃tp p,w.var? Tryz.prog "strconv.ErrRange" =some #[.iface tp p] :=by
 obtain⟨tp,p,h1⟩:=h.rng;obtain⟨e,f,hh⟩:=hw _ _ h1;refine⟨tp,p,?_⟩;unfold World.var?;have hg : Tryz.prog.globalNamed "strconv.ErrRange" =some 2 :=by kernel_rfl
 simp[hg,hh]
theorem V6(I:IH)(hI:dG I)(n:Int)(w:World)(hw:Ok I w)(h0: -9223372036854775808≤n)(h1:n≤9223372036854775807):
 Calls Tryz.prog 96 #[.int .i64 n] w fun e w'=>e= .returned (S (Lib.itoa n))∧Below w.heap.size w w':=
 (Tryz.strconv_Itoa n h0 h1 w (hI.tab hw)).mono fun e w' ⟨he,k,os,hq⟩=>⟨he,by rw[hq];exact Lib.below_grow _ _ (Qn _) _ _⟩
def Gf(w:World)(e:Ending)(w':World):Prop:=∃n N,e= .returned (.tuple #[.int .i64 n,.iface 244 (.pointer (some ⟨N,0,none⟩))])∧Below w.heap.size w w'
theorem Te(s:ae)(hs:s.length≤4294967280)(n:Int)(h:Lib.atoiAll s= .ok n)(w:World):
 Calls Tryz.prog 104 #[S s] w fun e w'=>e= .returned (.tuple #[.int .i64 n,.nilIface])∧Below w.heap.size w w':=by
 have eU:(⟨s.toArray⟩:ByteArray).size=s.length:=by simp[ByteArray.size]
 refine(Tryz.strconv_Atoi_ok ⟨s.toArray⟩ (by omega) n h w).mono fun e w' ⟨h1,h2⟩=>⟨h1,?_⟩;rcases h2 with h2|⟨t,h2⟩
 ·rw[h2];exact Qb _ _
 ·rw[h2];exact Joins.below_bytesWorld _ _ _ _ (Qn _)
theorem V7(I:IH)(hI:dG I)(s:ae)(hs:s.length≤4294967280)(h:∀n,Lib.atoiAll s≠ .ok n)(w:World)(hw:Ok I w):
 Calls Tryz.prog 104 #[S s] w (Gf w):=by
 have eU:(⟨s.toArray⟩:ByteArray).size=s.length:=by simp[ByteArray.size]
 by_cases hr:Lib.atoiAll s= .range
 ·obtain⟨tp,p,hv⟩:=hI.V5 hw;exact(Tryz.strconv_Atoi_range_var ⟨s.toArray⟩ (by omega) hr tp p w hv).mono fun e w' ⟨N,h1,_,_,h4⟩=>⟨_,N,h1,h4⟩
 ·obtain⟨tp,p,hv⟩:=hI.V4 hw;exact(Tryz.strconv_Atoi_syntax_var ⟨s.toArray⟩ (by omega) h hr tp p w hv).mono fun e w' ⟨N,h1,_,_,h4⟩=>⟨0,N,h1,h4⟩
theorem Xun(I:IH)(hI:dG I)(s:ae)(hs:s.length≤4294967280)(w:World)(hw:Ok I w):
 Calls Tryz.prog 199 #[S s] w fun e w'=>e= .returned (.bool (fH s))∧Below w.heap.size w w':=by
 have UL:=Xqq s;by_cases gK:∃n,Lib.atoiAll s= .ok n;case neg=>
  have Hn:=Qh (show fH s=false by
   cases h:fH s with
   |false=>rfl
   |true=>obtain⟨n,h1,_⟩:=UL.1 h;exact absurd ⟨n,h1⟩ gK)
  have rq:=Qh (V7 I hI s hs (fun n h=>gK ⟨n,h⟩) w hw);clear UL gK;go_enter Tryz.func199,Tryz.ntmps199
  go_wp2_with fail
  refine rq.O.mono ?_;rintro e w1 ⟨n,N,rfl,au⟩;go_wp2;go_ret;exact⟨gZ Hn.O.symm,au⟩
 obtain⟨n,hn⟩:=gK;have rq:=Qh (Te s hs n hn w);have Hd:=Qh (show fH s=(decide (0≤n)&&decide (n≤1000000000)&&decide (Lib.itoa n=s)) by
  rw[Bool.eq_iff_iff,UL];simp only[Bool.and_eq_true,decide_eq_true_eq];constructor
  ·rintro⟨m,h1,h2,h3,h4⟩;rw[hn]at h1;injection h1 with h1
   subst h1;exact⟨⟨h2,h3⟩,h4⟩
  ·rintro⟨⟨h2,h3⟩,h4⟩;exact⟨n,hn,h2,h3,h4⟩)
 clear UL hn;by_cases h0:0≤n;case neg=>
  have Hn:=Qh (show fH s=false by rw[Hd.O,Qf h0];rfl);go_enter Tryz.func199,Tryz.ntmps199
  go_wp2_with fail
  refine rq.O.mono ?_;rintro e w1 ⟨rfl,au⟩;go_wp2;go_ret;exact⟨(by first|exact gZ Hn.O.symm|(rw[Hn.O];congr 1;simp;omega)),au⟩
 by_cases h1:n≤1000000000;case neg=>
  have Hn:=Qh (show fH s=false by rw[Hd.O,Qf h1,Bool.and_false];rfl);go_enter Tryz.func199,Tryz.ntmps199
  go_wp2_with fail
  refine rq.O.mono ?_;rintro e w1 ⟨rfl,au⟩;go_wp2;go_ret;exact⟨(by first|exact gZ Hn.O.symm|(rw[Hn.O];congr 1;simp;omega)),au⟩
 have Hn:=Qh (show fH s=(Lib.itoa n==s) by
  rw[Hd.O,Qt h0,Qt h1];by_cases h:Lib.itoa n=s<;>simp[h])
 have uZ:=Qh (fun w hw=>V6 I hI n w hw (by omega) (by omega));obtain⟨t,ht⟩:∃t,Lib.itoa n=t:=⟨_,rfl⟩;rw[ht]at uZ Hn;clear ht;go_enter Tryz.func199,Tryz.ntmps199
 go_wp2_with fail
 refine rq.O.mono ?_;rintro e w1 ⟨rfl,au⟩;go_wp2_with fail
 refine(uZ.O _ (hw.below (Qn _) au)).mono ?_;rintro e w2 ⟨rfl,aD⟩;go_wp2;go_ret;exact⟨gZ Hn.O.symm,au.trans (aD.mono au.size)⟩
theorem Xul(I:IH)(hI:dG I)(x:ay)(hx:x.target.length≤4294967280)(va vx:Value)(w:World)(hw:Ok I w):
 Calls Tryz.prog 131 #[eT x va vx] w fun e w'=>e= .returned (.bool (bG x))∧Below w.heap.size w w':=by
 by_cases h3:x.ag=3
 ·have f3:((x.ag:Int)==3)=true:=by simpa using h3
  by_cases h1:x.target=[]
  ·have Ht:=Qh (show bG x=false by rw[bG,if_pos h3,h1];rfl);obtain⟨p1,p2,p3,p4⟩:=Bu h1;clear h3 h1;go_enter Tryz.func131,Tryz.ntmps131
   go_wp2;go_ret;exact⟨gZ Ht.O.symm,(Qb _ _).alloc (Qn _) _⟩
  have xM:1≤x.target.length:=List.length_pos_iff.2 h1;have Ht:=Qh (show bG x=decide (x.target.length≤200) by rw[bG,if_pos h3,Qt xM];rfl);obtain⟨p1,p2,p3,p4⟩:=zC h1;clear h3 h1;go_enter Tryz.func131,Tryz.ntmps131
  go_wp2;go_ret;exact⟨gZ (by rw[Ht.O,decide_eq_decide];omega),(Qb _ _).alloc (Qn _) _⟩
 have f3:((x.ag:Int)==3)=false:=by simpa using h3
 by_cases h5:x.ag=5
 ·have f5:((x.ag:Int)==5)=true:=by simpa using h5
  have Ht:=Qh (show bG x=fH x.target by rw[bG,if_neg h3,if_pos h5]);clear h3 h5;go_enter Tryz.func131,Tryz.ntmps131
  go_wp2_with fail
  refine(Xun I hI x.target hx _ (hw.alloc _)).mono ?_;rintro e w1 ⟨rfl,au⟩;go_wp2;go_ret;exact⟨gZ Ht.O.symm,((Qb _ _).alloc (Qn _) _).trans (au.mono (by simp))⟩
 have f5:((x.ag:Int)==5)=false:=by simpa using h5
 have Ht:=Qh (show bG x=x.target.isEmpty by rw[bG,if_neg h3,if_neg h5]);clear h3 h5;go_enter Tryz.func131,Tryz.ntmps131
 go_wp2;go_ret;exact⟨gZ (by rw[Ht.O]),(Qb _ _).alloc (Qn _) _⟩
end Go.Proofs.YtdodihnehppnmaaGreatDoor
namespace Go.Proofs
open Go.Shelf
def Tryz.rR:Go.Shelf.Ren:=⟨fun|169=>44|n=>n,fun|70=>74|9=>9|0=>0|72=>77|37=>75|127=>141|3=>3|5=>5|n=>n,fun|n=>n⟩
theorem Tryz.Gg:Go.Proofs.Lays.n169 Tryz.prog Tryz.rR:={
 mixed:=by kernel_rfl
 f169:=Tryz.func44.trans (congrArg some (by kernel_rfl))
 t0:=Tryz.underlying0
 a0:=Tryz.isAgg0
 z0:=Tryz.sizeOf0
 v0:=Tryz.zeroValue0
 t3:=Tryz.underlying3
 a3:=Tryz.isAgg3
 z3:=Tryz.sizeOf3
 v3:=Tryz.zeroValue3
 t9:=Tryz.underlying9
 a9:=Tryz.isAgg9
 z9:=Tryz.sizeOf9
 v9:=Tryz.zeroValue9
 t37:=Tryz.underlying75
 a37:=Tryz.isAgg75
 z37:=Tryz.sizeOf75
 v37:=Tryz.zeroValue75
 t70:=Tryz.underlying74
 a70:=Tryz.isAgg74
 z70:=Tryz.sizeOf74
 v70:=Tryz.zeroValue74
 t72:=Tryz.underlying77
 a72:=Tryz.isAgg77
 z72:=Tryz.sizeOf77
 v72:=Tryz.zeroValue77
 t127:=Tryz.underlying141
 a127:=Tryz.isAgg141
 z127:=Tryz.sizeOf141
 v127:=Tryz.zeroValue141}
theorem Tryz.qm:Builder.Extra Tryz.prog Tryz.rR:={
 sizeBuilder:=by kernel_rfl
 liesBuilder:=by kernel_rfl
 t5:=Tryz.underlying5
 a5:=Tryz.isAgg5
 z5:=Tryz.sizeOf5
 v5:=Tryz.zeroValue5
 infoByte:=by kernel_rfl
 cellsByte:=by kernel_rfl
 sizeByte:=by kernel_rfl
 neB5:=by decide}
open Go.RowKit in
theorem Tryz.Builder_String_any(B b:Nat)(l:List UInt8)(w:World)(h:Lib.IsBuilder 77 5 B b (Lib.byteCells l) w)(zq:B≤w.heap.size):
 Calls Tryz.prog 44 #[.pointer (some ⟨b,0,none⟩)] w fun e w'=>e= .returned (.string ⟨l.toArray⟩)∧Below B w w':=Any.Builder_String_any Tryz.Gg Tryz.qm B b l w h zq
def Tryz.rT:Go.Shelf.Ren:=⟨fun|105=>75|212=>127|99=>27|165=>123|166=>40|170=>128|169=>44|263=>192|264=>193|206=>65|240=>95|241=>190|276=>147|277=>255|n=>n,fun|9=>9|3=>3|4=>4|20=>20|0=>0|46=>116|109=>169|5=>5|72=>77|76=>80|51=>110|146=>214|53=>46|148=>216|70=>74|37=>75|75=>79|127=>141|164=>184|80=>84|n=>n,fun|n=>n⟩
theorem Tryz.Gh:Go.Proofs.Lays.n105 Tryz.prog Tryz.rT:={
 mixed:=by kernel_rfl
 f99:=Tryz.func27.trans (congrArg some (by kernel_rfl))
 f105:=Tryz.func75.trans (congrArg some (by kernel_rfl))
 f165:=Tryz.func123.trans (congrArg some (by kernel_rfl))
 f166:=Tryz.func40.trans (congrArg some (by kernel_rfl))
 f169:=Tryz.func44.trans (congrArg some (by kernel_rfl))
 f170:=Tryz.func128.trans (congrArg some (by kernel_rfl))
 f206:=Tryz.func65.trans (congrArg some (by kernel_rfl))
 f212:=Tryz.func127.trans (congrArg some (by kernel_rfl))
 f240:=Tryz.func95.trans (congrArg some (by kernel_rfl))
 f241:=Tryz.func190.trans (congrArg some (by kernel_rfl))
 f263:=Tryz.func192.trans (congrArg some (by kernel_rfl))
 f264:=Tryz.func193.trans (congrArg some (by kernel_rfl))
 f276:=Tryz.func147.trans (congrArg some (by kernel_rfl))
 f277:=Tryz.func255.trans (congrArg some (by kernel_rfl))
 t0:=Tryz.underlying0
 a0:=Tryz.isAgg0
 z0:=Tryz.sizeOf0
 v0:=Tryz.zeroValue0
 t3:=Tryz.underlying3
 a3:=Tryz.isAgg3
 z3:=Tryz.sizeOf3
 v3:=Tryz.zeroValue3
 t4:=Tryz.underlying4
 a4:=Tryz.isAgg4
 z4:=Tryz.sizeOf4
 v4:=Tryz.zeroValue4
 t5:=Tryz.underlying5
 a5:=Tryz.isAgg5
 z5:=Tryz.sizeOf5
 v5:=Tryz.zeroValue5
 t9:=Tryz.underlying9
 a9:=Tryz.isAgg9
 z9:=Tryz.sizeOf9
 v9:=Tryz.zeroValue9
 t20:=Tryz.underlying20
 a20:=Tryz.isAgg20
 z20:=Tryz.sizeOf20
 v20:=Tryz.zeroValue20
 t37:=Tryz.underlying75
 a37:=Tryz.isAgg75
 z37:=Tryz.sizeOf75
 v37:=Tryz.zeroValue75
 t46:=Tryz.underlying116
 a46:=Tryz.isAgg116
 z46:=Tryz.sizeOf116
 v46:=Tryz.zeroValue116
 t51:=Tryz.underlying110
 a51:=Tryz.isAgg110
 z51:=Tryz.sizeOf110
 v51:=Tryz.zeroValue110
 t53:=Tryz.underlying46
 a53:=Tryz.isAgg46
 z53:=Tryz.sizeOf46
 v53:=Tryz.zeroValue46
 t70:=Tryz.underlying74
 a70:=Tryz.isAgg74
 z70:=Tryz.sizeOf74
 v70:=Tryz.zeroValue74
 t72:=Tryz.underlying77
 a72:=Tryz.isAgg77
 z72:=Tryz.sizeOf77
 v72:=Tryz.zeroValue77
 t75:=Tryz.underlying79
 a75:=Tryz.isAgg79
 z75:=Tryz.sizeOf79
 v75:=Tryz.zeroValue79
 t76:=Tryz.underlying80
 a76:=Tryz.isAgg80
 z76:=Tryz.sizeOf80
 v76:=Tryz.zeroValue80
 t109:=Tryz.underlying169
 a109:=Tryz.isAgg169
 z109:=Tryz.sizeOf169
 v109:=Tryz.zeroValue169
 t127:=Tryz.underlying141
 a127:=Tryz.isAgg141
 z127:=Tryz.sizeOf141
 v127:=Tryz.zeroValue141
 t146:=Tryz.underlying214
 a146:=Tryz.isAgg214
 z146:=Tryz.sizeOf214
 v146:=Tryz.zeroValue214
 t148:=Tryz.underlying216
 a148:=Tryz.isAgg216
 z148:=Tryz.sizeOf216
 v148:=Tryz.zeroValue216
 t164:=Tryz.underlying184
 a164:=Tryz.isAgg184
 z164:=Tryz.sizeOf184
 v164:=Tryz.zeroValue184}
theorem Tryz.qo:Builder.Extra Tryz.prog Tryz.rT:={
 sizeBuilder:=by kernel_rfl
 liesBuilder:=by kernel_rfl
 t5:=Tryz.underlying5
 a5:=Tryz.isAgg5
 z5:=Tryz.sizeOf5
 v5:=Tryz.zeroValue5
 infoByte:=by kernel_rfl
 cellsByte:=by kernel_rfl
 sizeByte:=by kernel_rfl
 neB5:=by decide}
open Go.RowKit Go.Lib in
theorem Tryz.strings_Repeat(s:ByteArray)(c:Nat)(w:World)(hc:c≤9223372036854775807)(hlen:s.size*c≤140737488355328):
 Calls Tryz.prog 75 #[.string s,.int .i64 c] w fun e w'=>e= .returned (.string ⟨(Lib.repeatL s.data.toList c).toArray⟩)∧Below w.heap.size w w':=Any.strings_Repeat Tryz.Gh Tryz.qo s c w hc hlen
def Tryz.rU:Go.Shelf.Ren:=⟨fun|166=>40|240=>95|276=>147|n=>n,fun|0=>0|3=>3|4=>4|5=>5|9=>9|20=>20|37=>75|70=>74|72=>77|75=>79|80=>84|164=>184|n=>n,fun|n=>n⟩
theorem Tryz.Gi:Go.Proofs.Lays.n166 Tryz.prog Tryz.rU:={
 mixed:=by kernel_rfl
 f166:=Tryz.func40.trans (congrArg some (by kernel_rfl))
 f240:=Tryz.func95.trans (congrArg some (by kernel_rfl))
 f276:=Tryz.func147.trans (congrArg some (by kernel_rfl))
 t0:=Tryz.underlying0
 a0:=Tryz.isAgg0
 z0:=Tryz.sizeOf0
 v0:=Tryz.zeroValue0
 t3:=Tryz.underlying3
 a3:=Tryz.isAgg3
 z3:=Tryz.sizeOf3
 v3:=Tryz.zeroValue3
 t4:=Tryz.underlying4
 a4:=Tryz.isAgg4
 z4:=Tryz.sizeOf4
 v4:=Tryz.zeroValue4
 t9:=Tryz.underlying9
 a9:=Tryz.isAgg9
 z9:=Tryz.sizeOf9
 v9:=Tryz.zeroValue9
 t20:=Tryz.underlying20
 a20:=Tryz.isAgg20
 z20:=Tryz.sizeOf20
 v20:=Tryz.zeroValue20
 t37:=Tryz.underlying75
 a37:=Tryz.isAgg75
 z37:=Tryz.sizeOf75
 v37:=Tryz.zeroValue75
 t70:=Tryz.underlying74
 a70:=Tryz.isAgg74
 z70:=Tryz.sizeOf74
 v70:=Tryz.zeroValue74
 t72:=Tryz.underlying77
 a72:=Tryz.isAgg77
 z72:=Tryz.sizeOf77
 v72:=Tryz.zeroValue77
 t75:=Tryz.underlying79
 a75:=Tryz.isAgg79
 z75:=Tryz.sizeOf79
 v75:=Tryz.zeroValue79
 t164:=Tryz.underlying184
 a164:=Tryz.isAgg184
 z164:=Tryz.sizeOf184
 v164:=Tryz.zeroValue184}
theorem Tryz.qp:Builder.Extra Tryz.prog Tryz.rU:={
 sizeBuilder:=by kernel_rfl
 liesBuilder:=by kernel_rfl
 t5:=Tryz.underlying5
 a5:=Tryz.isAgg5
 z5:=Tryz.sizeOf5
 v5:=Tryz.zeroValue5
 infoByte:=by kernel_rfl
 cellsByte:=by kernel_rfl
 sizeByte:=by kernel_rfl
 neB5:=by decide}
theorem Tryz.Builder_WriteString(B b:Nat)(bs:List Value)(s:ByteArray)(w:World)(h:Lib.IsBuilder 77 5 B b bs w)(hlen:bs.length+s.size≤140737488355328)(zq:B≤w.heap.size):
 Calls Tryz.prog 40 #[.pointer (some ⟨b,0,none⟩),.string s] w fun e w'=>e= .returned (.tuple #[.int .i64 s.size,.nilIface])∧(Lib.BuilderAt 77 5 B b (.pointer (some ⟨b,0,none⟩)) (bs++Lib.strCells s) w'∧RowKit.Below B w w'):=Any.Builder_WriteString Tryz.Gi Tryz.qp B b bs s w h hlen zq
end Go.Proofs
namespace Go.Proofs.YtdodihnehppnmaaGreatDoor
open Go.RowKit Go.Lib
theorem repeatL_one(c:UInt8):∀n,repeatL [c] n=List.replicate n c
 |0=>rfl
 |n+1=>by rw[repeatL,repeatL_one c n,List.replicate_succ];rfl
theorem Xrj(l:ae)(c:Int)(w:World)(h0:0≤c)(hc:c≤9223372036854775807)(hl:l.length*c.toNat≤140737488355328):
 Calls Tryz.prog 75 #[S l,.int .i64 c] w fun e w'=>e= .returned (S (repeatL l c.toNat))∧Below w.heap.size w w':=by
 obtain⟨c,rfl⟩:=Int.eq_ofNat_of_zero_le h0;have h:=Tryz.strings_Repeat ⟨l.toArray⟩ c w (by omega) (by rw[ByteArray.size_mk',List.size_toArray];simpa using hl);simpa using h
theorem Xmy(l:List ae):Lib.join l []=l.flatten:=by
 unfold Lib.join List.intercalate;induction l with
 |nil=>rfl
 |cons x l ih=>
  cases l with
  |nil=>rfl
  |cons y l=>rw[List.intersperse_cons_cons,List.flatten_cons,List.flatten_cons,ih,List.flatten_cons];rfl
theorem Xtm(b off cap:Nat)(l:List ae)(w:World)(hc:∀(j:Nat) x,l[j]?=some x→w.cell? ⟨b,off+j,none⟩=some (S x))(dD:l.length≤cap)(hb:b<w.heap.size)(hn:l.length≤1000000)(hl:l.flatten.length≤140737488355328):
 Calls Tryz.prog 72 #[.slice (some ⟨b,off,none⟩) l.length cap,S []] w fun e w'=>e= .returned (S l.flatten)∧Below w.heap.size w w':=by
 have hx:(l.map fun s=>(⟨s.toArray⟩:ByteArray)).map (·.data.toList)=l:=by
  rw[List.map_map];conv=>rhs;rw[←List.map_id l]
  apply List.map_congr_left;intro b _;simp
 have vX:Lib.join ((l.map fun s=>(⟨s.toArray⟩:ByteArray)).map (·.data.toList)) (⟨[].toArray⟩:ByteArray).data.toList=l.flatten:=by rw[hx];exact Xmy l
 have h:=Tryz.strings_Join b off cap (l.map fun s=>⟨s.toArray⟩) ⟨[].toArray⟩ w (fun j x hx=> ?_) hb (by rw[List.length_map];omega) (by rw[List.length_map];exact dD) (by rw[vX];exact hl)
 ·rw[vX,List.length_map]at h;exact h
 ·rw[List.getElem?_map]at hx;cases hlj:l[j]? with
  |none=>rw[hlj]at hx;simp at hx
  |some s=>
   rw[hlj]at hx;simp at hx;subst hx;exact hc j s hlj
def kM(s:ae):Int:=Lib.lastIndexByte ⟨s.toArray⟩ 47
theorem Xlz(s:ae):0≤kM s+1∧kM s+1≤s.length∧s.drop (kM s+1).toNat=iE s:=by
 have eU:(⟨s.toArray⟩:ByteArray).size=s.length:=by simp[ByteArray.size]
 have EO:∀j,j<s.length→ ∃h:j<s.length,(((⟨s.toArray⟩:ByteArray).data[j]!).toNat:Int)=(s[j].toNat:Int):=fun j hj=>⟨hj,by
  rw[getElem!_pos (⟨s.toArray⟩:ByteArray).data j (by simpa using hj)];simp⟩
 unfold kM Lib.lastIndexByte;rw[eU];rcases Lib.lastIdx_spec ⟨s.toArray⟩ 47 s.length with⟨h1,h2⟩|⟨i,hi,h1,h2,h3⟩
 ·rw[h1];refine⟨by omega,by omega,?_⟩;show s.drop 0=_;rw[List.drop_zero,Xrl];intro c hc e;obtain⟨j,hj,rfl⟩:=List.getElem_of_mem hc;obtain⟨_,hh⟩:=EO j hj;have:=h2 j hj;rw[hh,e]at this;exact this rfl
 ·rw[h1];refine⟨by omega,by omega,?_⟩;rw[show((i:Int)+1).toNat=i+1 by omega];obtain⟨_,hh⟩:=EO i hi;have he:s[i]=47:=by
   rw[hh]at h2;apply UInt8.toNat_inj.1;exact_mod_cast h2
  have hs:s=s.take i++47::s.drop (i+1):=by
   conv=>lhs;rw[←List.take_append_drop i s]
   rw[List.drop_eq_getElem_cons hi,he]
  have hB:∀c∈s.drop (i+1),c≠47:=by
   intro c hc e;obtain⟨j,hj,rfl⟩:=List.getElem_of_mem hc;rw[List.getElem_drop]at e;simp at hj;obtain⟨_,hh⟩:=EO (i+1+j) (by omega);have:=h3 (i+1+j) (by omega) (by omega);rw[hh,e]at this;exact this rfl
  conv=>rhs;rw[hs]
  rw[Xtp _ _ hB]
open Go.RowKit
def qw:List Int:=[bits .xor .u32 1779033703 16842784,3144134277,1013904242,2773480762,1359893119,2600822924,528734635,1541459225]
def hAt(s:ae):Nat→List Int
 |0=>qw
 |i+1=>dN (hAt s i) ((s.drop (64*i)).take 64) ((64*i+64:Nat):Int) false
theorem OY(s:ae):∀i,(hAt s i).length=8
 |0=>rfl
 |_+1=>Nf ..
def kY(s:ae):Nat:=(s.length-1) / 64
def iF(s:ae):List Int:=dN (hAt s (kY s)) (s.drop (64*kY s)++List.replicate (64-(s.length-64*kY s)) 0) (s.length:Int) true
def tB:Ty Int:=Ty.flat 1 (fun x=> [.int .u8 x]) (fun _=>rfl) (fun _ u h=>by simp at h;subst h;rfl)
def ib(x:Int):List Int:=[x%256,x / 256%256,x / 65536%256,x / 16777216%256]
def iG(G:List Int)(k:Nat):List Int:=(G.take k).flatMap ib
theorem Xrh(G:List Int)(k:Nat)(hk:k<G.length):iG G (k+1)=iG G k++ib (G.getD k 0):=by
 rw[iG,iG,List.take_succ_eq_append_getElem hk,List.flatMap_append];simp[List.getD,List.getElem?_eq_getElem hk]
theorem V8(G:List Int):∀k,(iG G k).length≤4*k:=by
 intro k;have:∀L:List Int,(L.flatMap ib).length=4*L.length:=by
  intro L;induction L with
  |nil=>rfl
  |cons x L ih=>rw[List.flatMap_cons,List.length_append,ih];simp[ib];omega
 rw[iG,this];simp;omega
theorem Xjk(I:IH)(x:Int):bR tB I [.int .u8 (x%256),.int .u8 (x / 256%256),.int .u8 (x / 65536%256),.int .u8 (x / 16777216%256)] (ib x):=
 (((bR.one (T:=tB) (I:=I) (x:=x%256) (cs:=[.int .u8 (x%256)]) rfl).append (bR.one (T:=tB) (x:=x / 256%256) (cs:=[.int .u8 (x / 256%256)]) rfl)).append (bR.one (T:=tB) (x:=x / 65536%256) (cs:=[.int .u8 (x / 65536%256)]) rfl)).append (bR.one (T:=tB) (x:=x / 16777216%256) (cs:=[.int .u8 (x / 16777216%256)]) rfl)
theorem Xvu{I:IH}{xs:List Value}{l:List Int}(h:bR tB I xs l)(j:Nat)(hj:j<l.length):xs[j]?=some (.int .u8 l[j]):=by
 obtain⟨cs,h1,h2⟩:=h.2 j hj;have e:cs=[.int .u8 l[j]]:=h1;subst e;have:=h2 0 _ rfl;rw[show j*tB.size+0=j by show j*1+0=j;omega]at this;exact this
theorem Xfv:∀(l:List Int) (a:ByteArray),List.foldl (fun r n=>r.push (UInt8.ofNat n.toNat)) a l=⟨a.data++(l.map fun x=>UInt8.ofNat x.toNat).toArray⟩
 | [],a=>by simp
 |x::l,a=>by
  rw[List.foldl_cons,Xfv l];apply ByteArray.ext;simp[ByteArray.push]
theorem Xwg(l:List Int):List.foldl (fun r n=>r.push (UInt8.ofNat n.toNat)) ByteArray.empty l=⟨(l.map fun x=>UInt8.ofNat x.toNat).toArray⟩:=by
 rw[Xfv];apply ByteArray.ext;show(#[]:Array UInt8)++_=_;simp
theorem V9{P:Program}{I:IH}{E src dst e:TypeId}{v:Value}{l:List Int}{B:Nat}(hs:P.underlying src=some (.slice e))(he:P.underlying e=some (.int .u8))(hd:P.underlying dst=some .string)(W:World)(h:aM tB E I W B v l)(hl:0<l.length):
 (convert src dst v).run P W= .ok (S (l.map fun x=>UInt8.ofNat x.toNat)) W:=by
 obtain⟨xs,⟨_,jI⟩,hL⟩:=h;rcases jI with⟨_,h0⟩|⟨g,cap,cur,rfl,_,hg,_,_,_,ht⟩
 ·omega
 ·rw[run_convert_bytes_string _ _ _ e _ _ _ hs he hd,run_bytesToString (ns:=l)]
  ·rw[Xwg]
  ·have hc:=run_loadCells_list (P:=P) W ⟨g,0,none⟩ (l.map fun x=>Value.int .u8 x) (fun j u hu=>by
    have hj:j<l.length:=by simpa using(List.getElem?_eq_some_iff.1 hu).1
    rw[Addr.add_lit,Nat.zero_add,cell_of_row _ _ _ _ _ _ hg];have h1:=Xvu hL j hj;rw[←ht,List.getElem?_take]at h1;split at h1
    ·rw[←Array.getElem?_toList,h1];simpa[hj]using hu
    ·cases h1)
   simpa using hc
def bE(s:ae):ae:=(iG (iF s) 8).map fun x=>UInt8.ofNat x.toNat
theorem Tf:(Tryz.prog.info? 5).map (fun i=>(i.zero,i.size,i.bytes))=some (some (.int .u8 0),1,1):=by kernel_rfl
theorem Xxt:∃ZZ:Array Value,ZZ.size=32∧ ∀W,(Instr.makeSlice 75 (.int .i64 0) (.int .i64 32)).run Tryz.prog W= .ok (.slice (some ⟨W.heap.size,0,none⟩) 0 32) (W.alloc (.cells ZZ 5)):=by
 obtain⟨i,h1,h2,h3,h4⟩:=info_parts Tf;refine⟨madeCells (Value.int .u8 0).cells (32*i.size),by rw[size_madeCells,h3],fun W=> ?_⟩;exact run_make (P:=Tryz.prog) W 75 5 i _ Tryz.underlying75 h1 h2 .i64 .i64 0 32 (by omega) (by omega) (by rw[h4];omega) (by omega)
theorem OZ:fq Tryz.prog 75 5 tB 1:=fq.of Tryz.underlying75 Tf rfl (by decide) rfl
theorem Xqu(b off cap:Nat)(l:List ae)(s:ae)(hl:l.flatten=s)(hs:s.length≤140737488355328)(w:World)(hc:∀(j:Nat) x,l[j]?=some x→w.cell? ⟨b,off+j,none⟩=some (S x))(dD:l.length≤cap)(rO:b<w.heap.size)(hn:l.length≤1000000):
 Calls Tryz.prog 30 #[.slice (some ⟨b,off,none⟩) l.length cap] w fun e w'=>e= .returned (S (bE s))∧Below w.heap.size w w':=by
 have Hj:=Qh (Xtm b off cap l w hc dD rO hn (by rw[hl];exact hs));rw[hl]at Hj;clear hc hl dD hn rO;go_enter Tryz.func30,Tryz.ntmps30
 go_wp2_with fail
 refine Hj.O.mono ?_;rintro e w0 ⟨rfl,om⟩;clear Hj;go_wp2_with fail
 refine(Xja _).mono ?_;rintro e w1 ⟨rfl,O0⟩;have au:=om.trans (O0.mono om.size);clear om O0;rw[show row eP=#[.int .u32 1779033703,.int .u32 3144134277,.int .u32 1013904242,.int .u32 2773480762,.int .u32 1359893119,.int .u32 2600822924,.int .u32 528734635,.int .u32 1541459225]from rfl];go_wp2_with fail
 obtain⟨B,ma⟩:∃B,w1.heap.size=B:=⟨_,rfl⟩;have zq:w.heap.size≤B:=by rw[←ma];exact au.size
 have bB:=Qh (show(w1.alloc (.cells (row qw) 111)).heap[B]?=some (.cells (row (hAt s 0)) 111 (0,0)) by rw[←ma];exact heap_alloc_new _ _);have CK:=Qh (show Below w.heap.size w (w1.alloc (.cells (row qw) 111))from au.alloc au.size _);rw[ma];clear au ma;obtain⟨L,hL⟩:∃L,kY s=L:=⟨_,rfl⟩;have Z5:L=(s.length-1) / 64:=hL.symm;have HL:=Qh hL;clear hL;go_loopw [5] (fun s5 wr=> ∃i:Nat,i≤L∧s5= .int .i64 (64*(i:Int))∧Below w.heap.size w wr∧B<wr.heap.size∧wr.heap[B]?=some (.cells (row (hAt s i)) 111 (0,0))) (fun i _=>s.length-(intOf i).toNat)
 case atStart=>exact⟨0,Nat.zero_le _,rfl,CK.O,(by have:=bB.O;exact(Qg this)),bB.O⟩
 case round=>
  clear bB CK;obtain⟨i,hi,rfl,hb,qP,hB⟩:=hrel;by_cases hlt:i<L
  ·have hlen:64*i+64<s.length:=by omega
   obtain⟨e0,e1,e2,e3,e4,e5,e6,e7,he⟩:=Kb (OY s i);have He:=Qh he;rw[he]at hB;clear he;have d0:wr.cell? ⟨B,0,none⟩=some (.int .u32 e0):=(cell_of_row wr B 0 _ _ _ hB).trans rfl;have d1:wr.cell? ⟨B,1,none⟩=some (.int .u32 e1):=(cell_of_row wr B 1 _ _ _ hB).trans rfl;have d2:wr.cell? ⟨B,2,none⟩=some (.int .u32 e2):=(cell_of_row wr B 2 _ _ _ hB).trans rfl;have d3:wr.cell? ⟨B,3,none⟩=some (.int .u32 e3):=(cell_of_row wr B 3 _ _ _ hB).trans rfl;have d4:wr.cell? ⟨B,4,none⟩=some (.int .u32 e4):=(cell_of_row wr B 4 _ _ _ hB).trans rfl;have d5:wr.cell? ⟨B,5,none⟩=some (.int .u32 e5):=(cell_of_row wr B 5 _ _ _ hB).trans rfl;have d6:wr.cell? ⟨B,6,none⟩=some (.int .u32 e6):=(cell_of_row wr B 6 _ _ _ hB).trans rfl;have d7:wr.cell? ⟨B,7,none⟩=some (.int .u32 e7):=(cell_of_row wr B 7 _ _ _ hB).trans rfl;have z0:=frozen_of_row wr B 0 _ _ hB;have z1:=frozen_of_row wr B 1 _ _ hB;have z2:=frozen_of_row wr B 2 _ _ hB;have z3:=frozen_of_row wr B 3 _ _ hB;have z4:=frozen_of_row wr B 4 _ _ hB;have z5:=frozen_of_row wr B 5 _ _ hB;have z6:=frozen_of_row wr B 6 _ _ hB;have z7:=frozen_of_row wr B 7 _ _ hB;have HB:=Qh hB;clear hB;go_wp2_with fail
   have uF:IntKind.i64.wrap (64*(i:Int)+64)=64*(i:Int)+64:=IntWalk.i64_in _ (by omega);have yY:IntKind.u64.wrap (64*(i:Int)+64)=64*(i:Int)+64:=IntWalk.u64_in _ (by omega);have oF:(0:Int)≤64*(i:Int)+64:=by omega
   have Bg:64*(i:Int)+64≤(s.length:Int):=by omega
   have II:(0:Int)≤64*(i:Int):=by omega
   have hw6:64*(i:Int)≤64*(i:Int)+64:=by omega
   have hw7:(64*(i:Int)+64).toNat=64*i+64:=by omega
   have hw8:(64*(i:Int)).toNat=64*i:=by omega
   have hw9:64*i+64-64*i=64:=by omega
   have mK:((s.drop (64*i)).take 64).length=64:=by simp;omega
   obtain⟨c0,c1,c2,c3,c4,c5,c6,c7,hc⟩:=Kb (Nf [e0,e1,e2,e3,e4,e5,e6,e7] ((s.drop (64*i)).take 64) (64*(i:Int)+64) false);have Hc:=Qh hc;clear hc;go_region_law (go_simp;go_at_call 74;refine(Xhb [e0,e1,e2,e3,e4,e5,e6,e7] rfl ((s.drop (64*i)).take 64) mK (64*(i:Int)+64) false _).mono ?_;rintro e w' ⟨rfl,sS⟩;rw[Hc.O,show row [c0,c1,c2,c3,c4,c5,c6,c7]=#[.int .u32 c0,.int .u32 c1,.int .u32 c2,.int .u32 c3,.int .u32 c4,.int .u32 c5,.int .u32 c6,.int .u32 c7]from rfl];have y0:w'.cell? ⟨B,0,none⟩=some (.int .u32 e0):=(sS.cell qP).trans d0;have y1:w'.cell? ⟨B,1,none⟩=some (.int .u32 e1):=(sS.cell qP).trans d1;have y2:w'.cell? ⟨B,2,none⟩=some (.int .u32 e2):=(sS.cell qP).trans d2;have y3:w'.cell? ⟨B,3,none⟩=some (.int .u32 e3):=(sS.cell qP).trans d3;have y4:w'.cell? ⟨B,4,none⟩=some (.int .u32 e4):=(sS.cell qP).trans d4;have y5:w'.cell? ⟨B,5,none⟩=some (.int .u32 e5):=(sS.cell qP).trans d5;have y6:w'.cell? ⟨B,6,none⟩=some (.int .u32 e6):=(sS.cell qP).trans d6;have y7:w'.cell? ⟨B,7,none⟩=some (.int .u32 e7):=(sS.cell qP).trans d7;have g0:w'.frozen? ⟨B,0,none⟩=false:=(sS.frozen qP).trans z0;have g1:w'.frozen? ⟨B,1,none⟩=false:=(sS.frozen qP).trans z1;have g2:w'.frozen? ⟨B,2,none⟩=false:=(sS.frozen qP).trans z2;have g3:w'.frozen? ⟨B,3,none⟩=false:=(sS.frozen qP).trans z3;have g4:w'.frozen? ⟨B,4,none⟩=false:=(sS.frozen qP).trans z4;have g5:w'.frozen? ⟨B,5,none⟩=false:=(sS.frozen qP).trans z5;have g6:w'.frozen? ⟨B,6,none⟩=false:=(sS.frozen qP).trans z6;have g7:w'.frozen? ⟨B,7,none⟩=false:=(sS.frozen qP).trans z7;have Wd:=Qh sS;clear sS)
   have yU:=(Wd.O.block B qP).trans HB.O;have hv:=heap_setCell (i:=7) c7 (heap_setCell (i:=6) c6 (heap_setCell (i:=5) c5 (heap_setCell (i:=4) c4 (heap_setCell (i:=3) c3 (heap_setCell (i:=2) c2 (heap_setCell (i:=1) c1 (heap_setCell (i:=0) c0 (yU))))))));have jY:Below w.heap.size w w':=hb.drew.trans (Wd.O.mono hb.size);have We:=Below.setCell (Below.setCell (Below.setCell (Below.setCell (Below.setCell (Below.setCell (Below.setCell (Below.setCell (jY) (p:=⟨B,0,none⟩) zq (.int .u32 c0)) (p:=⟨B,1,none⟩) zq (.int .u32 c1)) (p:=⟨B,2,none⟩) zq (.int .u32 c2)) (p:=⟨B,3,none⟩) zq (.int .u32 c3)) (p:=⟨B,4,none⟩) zq (.int .u32 c4)) (p:=⟨B,5,none⟩) zq (.int .u32 c5)) (p:=⟨B,6,none⟩) zq (.int .u32 c6)) (p:=⟨B,7,none⟩) zq (.int .u32 c7);have Z6:=Wd.O.size;go_wp2;go_roundw;case rel=>exact⟨i+1,by omega,by go_num,We,(by simp[World.setCell];simp at Z6;omega),(by rw[hAt,He.O,show((64*i+64:Nat):Int)=64*(i:Int)+64 by omega,Hc.O];exact hv)⟩
   case measure=>simp[intOf];omega
  ·have Og:i=L:=by omega
   have H8:s.length≤64*i+64:=by omega
   have Cr:64*i≤s.length:=by omega
   have uF:IntKind.i64.wrap (64-((s.length:Int)-64*(i:Int)))=64-((s.length:Int)-64*(i:Int)):=IntWalk.i64_in _ (by omega);have yY:IntKind.i64.wrap ((s.length:Int)-64*(i:Int))=(s.length:Int)-64*(i:Int):=IntWalk.i64_in _ (by omega);have oF:64*(i:Int)≤(s.length:Int):=by omega
   have Bg:(0:Int)≤64*(i:Int):=by omega
   have II:(64*(i:Int)).toNat=64*i:=by omega
   obtain⟨c,ajg⟩:∃c:Nat,(64:Int)-((s.length:Int)-64*(i:Int))=c:=⟨64-(s.length-64*i),by omega⟩;have UM:c=64-(s.length-64*i):=by omega
   have HB:=Qh hB;clear hB;have Hie:=Qh (show kY s=i by rw[HL.O,Og]);have Hcn:=Qh UM;have qX:c≤64:=by omega
   have Md:(Lib.repeatL [0] (c:Int).toNat).length≤100:=by rw[Lib.repeatL_length];simp;omega
   have Z7:(Lib.repeatL [0] c).length≤100:=by rw[Lib.repeatL_length];simp;omega
   clear Og Z5 UM hlt hi;go_wp2_with fail
   refine wp_region_quiet_below (by kernel_rfl) (by kernel_rfl) ?_;repeat(go_big_quiet_step ((exact Calls.regrown_of (Xrj [0] c _ (by omega) (by omega) (by simp;omega)))))
   refine wpQuiet_nil ?_;intro w2 bg;have aD:Below (wr).heap.size (wr) w2:=by
    obtain⟨pq,rfl⟩:=bg;exact below_regrown _ _ _
   clear bg;obtain⟨PB,Wh⟩:∃PB,List.take (s.length-64*i) (List.drop (64*i) s)++Lib.repeatL [0] c=PB:=⟨_,rfl⟩;rw[Wh];have HPB:=Qh (show PB=s.drop (64*i)++List.replicate (64-(s.length-64*i)) 0 by rw[←Wh,repeatL_one,List.take_of_length_le (by simp),Hcn.O]);have Gj:PB.length=64:=by rw[HPB.O];simp;omega
   clear Wh Md Z7;have xB:=OY s i;have wM:=Qh (show iF s=dN (hAt s i) PB (s.length:Int) true by rw[iF,Hie.O,HPB.O]);have H9:=(aD.block B qP).trans HB.O;have fe:B<w2.heap.size:=by have:=aD.size;omega
   have Ic:Below w.heap.size w w2:=hb.trans (aD.mono hb.size);generalize hAt s i=F at H9 xB wM;have uX:(Tryz.prog.info? 111).map (·.size)=some (row F).size:=by rw[bI,xB];kernel_rfl
   have aqY:IntKind.u64.wrap (s.length:Int)=(s.length:Int):=IntWalk.u64_in _ (by omega);clear aD HB;go_wp2_with (refine wpList_load_row rfl 111 _ rfl B rfl 111 (row F) (0,0) _ H9 Tryz.underlying111 rfl uX ?_)
   refine(Xhb F xB PB Gj (s.length:Int) true _).mono ?_;rintro e w3 ⟨rfl,bU⟩;rw[←wM.O];have Bv:(iF s).length=8:=Nf ..;obtain⟨G,hG⟩:∃G,iF s=G:=⟨_,rfl⟩;have HG:=Qh hG;rw[hG]at Bv ⊢;clear hG;have Z8:=(bU.block B fe).trans H9;have wG:B<w3.heap.size:=by have:=bU.size;omega
   have O3:Below w.heap.size w w3:=Ic.trans (bU.mono Ic.size);have O4:(Tryz.prog.info? 111).map (·.size)=some (row G).size:=by rw[bI,Bv];kernel_rfl
   have F6:(row F).size=(row G).size:=by rw[bI,bI,xB,Bv]
   have F7:(row G).all (·.oneCell')=true:=by simp[row,Value.oneCell']
   clear bU wM;go_upto_region 10 with(refine wpList_store_row rfl 111 _ _ rfl B (row G) rfl rfl 111 (row F) Z8 O4 F6 F7 ?_)
   have Z9:(w3.setRow B (row G)).heap[B]?=some (.cells (row G) 111 (0,0)):=setRow_heap _ _ _ _ _ _ Z8;have Gl:Below w.heap.size w (w3.setRow B (row G)):=below_setRow O3 zq _;have dH:B<(w3.setRow B (row G)).heap.size:=by simpa using wG
   generalize w3.setRow B (row G)=w4 at Z9 Gl dH;clear Z8 O3 wG;obtain⟨ZZ,hZZ,iL⟩:=Xxt;have hB5:(w4.alloc (.cells ZZ 5)).heap[B]?=some (.cells (row G) 111 (0,0)):=(Below.heap_alloc _ _ _ dH).trans Z9;go_wp2_with (refine wpList_load_row rfl 111 _ rfl B rfl 111 (row G) (0,0) _ hB5 Tryz.underlying111 rfl O4 ?_)
   have Da:w.heap.size≤w4.heap.size:=Gl.size;have bB:=Qh (show aM tB 5 (fun _=>none) (w4.alloc (.cells ZZ 5)) w4.heap.size (.slice (some ⟨w4.heap.size,0,none⟩) 0 32) []from⟨[],World.ownsRow_made w4 ZZ 32 (Qn _) (by decide) (by rw[hZZ];rfl),bR.nil _ _⟩);have CK:=Qh (Gl.alloc Da (.cells ZZ 5));obtain⟨B0,Gm⟩:∃B0,w4.heap.size=B0:=⟨_,rfl⟩;have jN:B0≤(w4.alloc (.cells ZZ 5)).heap.size:=by simp;omega
   rw[Gm]at Da bB ⊢;clear Z9 hB5 Gl dH iL;go_loopw [7,58] (fun s7 s58 wr=> ∃k:Nat,k≤8∧s58= .int .i64 k∧aM tB 5 (fun _=>none) wr B0 s7 (iG G k)∧Below w.heap.size w wr∧B0≤wr.heap.size) (fun _ k _=>8-(intOf k).toNat)
   case atStart=>exact⟨0,Nat.zero_le _,rfl,bB.O,CK.O,jN⟩
   case round=>
    clear bB CK jN;obtain⟨k,hk,rfl,bJ,UJ,O5⟩:=hrel;by_cases iP:k<8
    ·have Ap:=VF (P:=Tryz.prog) Tryz.underlying111 Tryz.underlying110 rfl (by kernel_rfl) k iP (oI (l:=G) (i:=k) (by omega));have Fj:=Qh (Xrh G k (by omega));have EG:=V8 G k;generalize G.getD k 0=x at Ap Fj;have hwl:(ib x).length=4:=rfl;have iB:=Xjk (fun _=>none) x;go_wp2_with (at_builtin;refine Xji (w0:=wr) OZ rfl _ _ rfl _ _ _ rfl bJ (ib x) [.int .u8 (x%256),.int .u8 (x / 256%256),.int .u8 (x / 65536%256),.int .u8 (x / 16777216%256)] _ rfl iB (by rw[hwl];omega) (by rw[hwl];omega) (by rw[hwl];omega) O5 ?_)
     intro v5 w5 gM hg5;have aY:=Below.own UJ hg5 bJ Da O5;have jN:=hg5.size;go_wp2;go_roundw;case rel=>exact⟨k+1,by omega,by go_num,by rw[Fj.O];exact gM,aY,by omega⟩
     case measure=>simp[intOf];omega
    ·have nu:k=8:=by omega
     have Wi:=Qh (show(iG G k).map (fun x=>UInt8.ofNat x.toNat)=bE s by rw[bE,HG.O,nu]);have xm:0<(iG G k).length:=by rw[nu];match G,Bv with|_::_,_=>simp[iG,ib]
     have UN:=V9 (P:=Tryz.prog) Tryz.underlying75 Tryz.underlying5 Tryz.underlying9 _ bJ xm;rw[Wi.O]at UN;clear bJ xm nu;go_wp2;go_ret;exact⟨rfl,UJ⟩
structure dm where
 num:Int
 aT:Int
 bP:ae
 aH:List ay
 aI:ae
 sl:ae
def dR(e:ay):ae:=aN (bH e.ag)++aN e.af++q8 e.ai++aN e.target
def vL(l:List Xt):ae:=l.flatMap fun x=>bq x.s++bq x.o++bq x.n
def yh(e:ay):ae:=aN (dR e)++bq e.size++aN e.aj++bq e.ak.length++vL e.ak
def qx(s:dm):ae:=bq s.num++bq s.aT++aN s.bP++(bq s.aI.length++aN (bE s.aI)++bq s.aH.length)
def kN(s:dm):ae:=qx s++s.aH.flatMap yh
def iR(s:dm):Int:=if s.num<1∨255<s.num∨s.aT<0∨1000000000<s.aT then 2 else if s.bP≠[]∧s.bP.length≠32 then 1 else 0
def eQ:List ay→Int
 | []=>0
 |e::l=>if az e≠0 then az e else eQ l
def dO(s:dm):Int:=if iR s≠0 then iR s else if 14680064<s.aI.length∨400<s.aH.length then 6 else if eQ s.aH≠0 then eQ s.aH else if 2000<s.sl.length then 6 else 0
def eO(s:dm):ae×Int:=if dO s≠0 then([],dO s)else(bE (kN s),0)
theorem Xux{s:dm}(h:(eO s).2=0):dO s=0∧(eO s).1=bE (kN s):=by
 unfold eO at*;split at h
 ·contradiction
 ·rename_i k;rw[if_neg k];exact⟨by omega,rfl⟩
theorem Wj:∀{l:List ay},eQ l=0→ ∀e∈l,az e=0
 | [],_,e,he=>by cases he
 |x::l,h,e,he=>by
  unfold eQ at h;split at h
  ·contradiction
  ·rename_i k;rcases List.mem_cons.1 he with rfl|he
   ·omega
   ·exact Wj h e he
theorem O6{s:dm}(h:dO s=0):iR s=0∧s.aI.length≤14680064∧s.aH.length≤400∧eQ s.aH=0∧s.sl.length≤2000:=by
 unfold dO at h;split at h
 ·contradiction
 ·split at h
  ·omega
  ·split at h
   ·contradiction
   ·split at h
    ·omega
    ·rename_i k1 k2 k3 k4;exact⟨by omega,by omega,by omega,by omega,by omega⟩
theorem Wl{s:dm}(h:iR s=0):1≤s.num∧s.num≤255∧0≤s.aT∧s.aT≤1000000000∧(s.bP=[]∨s.bP.length=32):=by
 unfold iR at h;split at h
 ·omega
 ·split at h
  ·omega
  ·rename_i k1 k2;refine⟨by omega,by omega,by omega,by omega,?_⟩;by_cases hp:s.bP=[]
   ·exact .inl hp
   ·exact .inr (Classical.byContradiction fun q=>k2 ⟨hp,q⟩)
structure kC where
 aJ:List ay
 holds:List Ho
def mf(s:kC)(e:ay)(d:Int):Int:=if 3<e.ag∨(dC s.aJ e.af).isSome=true then jT s.holds e.ag e.af d else 0
def dY(s:kC)(e:ay)(d:Int):kC×Int:=
 if(bL s.aJ e).2≠0 then(s,(bL s.aJ e).2)
 else if mf s e d≠0 then(s,mf s e d)
 else if(appH s.holds e d).2≠0 then(s,(appH s.holds e d).2)
 else(⟨(bL s.aJ e).1,(appH s.holds e d).1⟩,0)
def kZ:kC:=⟨[],[]⟩
def Bw(s:kC)(d:Int)(l:List ay):kC:=l.foldl (fun s e=>(dY s e d).1) s
def tY(s:kC)(l:List dm):kC:=l.foldl (fun s x=>Bw s x.aT x.aH) s
structure Dv (n:Nat) (s:kC):Prop where
 aJ:xR s.aJ
 holds:tQ s.holds
 Bz:s.aJ.length≤n
 hlen:s.holds.length≤n
theorem Xsh:Dv 0 kZ:=⟨(Xvc []).1 rfl,Xtu,Qn _,Qn _⟩
theorem Dv.mono{n m:Nat}{s:kC}(h:Dv n s)(hm:n≤m):Dv m s:=⟨h.aJ,h.holds,Nat.le_trans h.Bz hm,Nat.le_trans h.hlen hm⟩
theorem Pb{t:List ay}{e:ay}(h:(bL t e).2=0):bL t e=((bL t e).1,0):=Prod.ext rfl h
theorem Xpm{n:Nat}{s:kC}(h:Dv n s)(e:ay)(d:Int):Dv (n+1) (dY s e d).1:=by
 unfold dY;split
 ·exact h.mono (by omega)
 ·rename_i h1;split
  ·exact h.mono (by omega)
  ·split
   ·exact h.mono (by omega)
   ·have ha:=Pb (t:=s.aJ) (e:=e) (by omega);obtain⟨Me,hx⟩:=jR.1 ha;have hl:=Xys s.aJ e;have hh:appH s.holds e d=((appH s.holds e d).1,(appH s.holds e d).2):=rfl;refine⟨Xvi h.aJ ha,Xz5 h.holds Me.mr hh,?_,?_⟩
    ·rw[hx];have:=h.Bz;show(FY s.aJ e).length≤_;omega
    ·have:=Xxx hh;have:=h.hlen;show(appH s.holds e d).1.length≤_;omega
theorem Xso:∀(l:List ay) {n:Nat} {s:kC} (_:Dv n s) (d:Int),Dv (n+l.length) (Bw s d l)
 | [],_,_,h,_=>h
 |e::l,n,s,h,d=>by
  have:=Xso l (Xpm h e d) d;exact this.mono (by simp;omega)
def pE(l:List dm)(x:Xt):Bool:=x.s==0 || (decide (x.s≤l.length)&&decide (x.o+x.n≤((l[(x.s-1).toNat]?).map fun s=>(s.aI.length:Int)).getD 0))
def lS(l:List dm)(e:ay):Bool:=e.ak.all (pE l)
def iO(l:List dm)(d:Int):kC→List ay→kC×Int
 |s,[]=>(s,0)
 |s,e::es=>if(dY s e d).2≠0 then((dY s e d).1,(dY s e d).2)else if lS l e=false then((dY s e d).1,2)else iO l d (dY s e d).1 es
def iH(l:List dm):Nat→kC→ae→Int→List dm→Int
 |_,_,_,_,[]=>0
 |i,s,bP,aT,x::xs=>
  if(eO x).2≠0 then(eO x).2
  else if x.num≠i+1∨x.aT<aT then 14
  else if x.bP≠bP then 20
  else if(iO (l.take (i+1)) x.aT s x.aH).2≠0 then(iO (l.take (i+1)) x.aT s x.aH).2
  else iH l (i+1) (iO (l.take (i+1)) x.aT s x.aH).1 (eO x).1 x.aT xs
def BA(l:List dm):Int:=iH l 0 kZ [] 0 l
structure Fp where
 s:Int
 d:Int
 e:ay
def Dw(s:kC)(p:ae)(e:ay):Bool:=(decide (e.ag≤3)&&e.af==p) || (e.ag==4&&(dC s.aJ p).isSome&&under p e.af)
def Pd(num d:Int)(p:ae):kC→List ay→List Fp
 |_,[]=> []
 |s,e::es=>(if Dw s p e then [⟨num,d,e⟩]else [])++Pd num d p (dY s e d).1 es
def AP(p:ae):kC→List dm→List Fp
 |_,[]=> []
 |s,x::xs=>Pd x.num x.aT p s x.aH++AP p (Bw s x.aT x.aH) xs
def ajm(l:List dm)(p:ae):List Fp:=AP p kZ l
def lJ(d:Int):List dm→Nat
 | []=>0
 |x::l=>if d<x.aT then 0 else lJ d l+1
abbrev Rd(α:Type):=Except Int (α×Nat)
def Rb{β γ:Type}(r:Except Int β)(f:β→Except Int γ):Except Int γ:=match r with| .error e=> .error e| .ok x=>f x
@[simp] theorem dK {β γ:Type} (e:Int) (f:β→Except Int γ):Rb (.error e) f= .error e:=rfl
@[simp] theorem aR {β γ:Type} (x:β) (f:β→Except Int γ):Rb (.ok x) f=f x:=rfl
def upTo(s:ae)(a:Nat)(c:UInt8):ae:=(s.drop a).takeWhile (fun x=>x !=c)
def dM(s:ae)(a:Nat)(c:UInt8):Rd ae:=
 if s.length<a then .error 1 else if a+(upTo s a c).length<s.length then .ok (upTo s a c,a+(upTo s a c).length+1)else .error 4
def jg(t:ae):Bool:=!t.isEmpty&&t.all ig&&(t.length==1 || t.head? !=some 48)
def mR(t:ae):Bool:=t.head?==some 45
def kP(t:ae):ae:=if mR t=true then t.tail else t
def ii(t:ae):Bool:=jg (kP t)&& !(mR t&&dS 0 (kP t)==0)
def pF(t:ae):Int:=if mR t=true then -(dS 0 (kP t):Int)else(dS 0 (kP t):Int)
def numOf(t:ae)(n:Nat):Rd Int:=if ii t=false then .error 3 else if pF t< -2147483648∨2147483647<pF t then .error 2 else .ok (pF t,n)
def strOf(s t:ae)(n:Nat):Rd ae:=if jg t=false then .error 3 else if s.length-n≤dS 0 t then .error 4 else if s.getD (n+dS 0 t) 0≠44 then .error 3 else .ok ((s.drop n).take (dS 0 t),n+dS 0 t+1)
def rdNum(s:ae)(a:Nat):Rd Int:=Rb (dM s a 32) fun p=>numOf p.1 p.2
def rdStr(s:ae)(a:Nat):Rd ae:=Rb (dM s a 58) fun p=>strOf s p.1 p.2
def gW(most:Int)(s:ae)(a:Nat):Rd Int:=Rb (rdNum s a) fun p=>if p.1<0∨most<p.1 then .error 2 else .ok p
def jh(s:ae):Nat→Nat→List At→Rd (List At)
 |0,a,acc=> .ok (acc,a)
 |n+1,a,acc=>Rb (rdStr s a) fun p=>Rb (rdStr s p.2) fun q=>jh s n q.2 (acc++[⟨p.1,q.1⟩])
def ji(s:ae):Nat→Nat→List Xt→Rd (List Xt)
 |0,a,acc=> .ok (acc,a)
 |n+1,a,acc=>Rb (rdNum s a) fun p=>Rb (rdNum s p.2) fun q=>Rb (rdNum s q.2) fun r=>ji s n r.2 (acc++[⟨p.1,q.1,r.1⟩])
def kindOf(n:ae):Int:=if n=bH 1 then 1 else if n=bH 2 then 2 else if n=bH 3 then 3 else if n=bH 4 then 4 else if n=bH 5 then 5 else if n=bH 6 then 6 else 0
def Dx(nm p:ae)(l:List At)(t:ae):ay:=⟨kindOf nm,p,l,t,0,[],[]⟩
def ek(h:ae):Except Int ay:=
 Rb (rdStr h 0) fun nm=>if kindOf nm.1=0 then .error 3 else
 Rb (rdStr h nm.2) fun p=>Rb (gW 400 h p.2) fun n=>Rb (jh h n.1.toNat n.2 []) fun l=>Rb (rdStr h l.2) fun t=>
 if t.2≠h.length then .error 3 else .ok (Dx nm.1 p.1 l.1 t.1)
def bW(e:ay)(sz:Int)(dg:ae)(l:List Xt):ay:={e with size:=sz,aj:=dg,ak:=l}
def jV(e:ay)(g:Nat):Rd ay:=if az e≠0 then .error (az e)else .ok (e,g)
def jB(s:ae)(a:Nat):Rd ay:=
 Rb (rdStr s a) fun h=>Rb (ek h.1) fun e=>Rb (rdNum s h.2) fun z=>Rb (rdStr s z.2) fun d=>Rb (gW 65536 s d.2) fun n=>Rb (ji s n.1.toNat n.2 []) fun l=>
 jV (bW e z.1 d.1 l.1) l.2
theorem Xvp(s:ae)(a:Nat)(c:UInt8):(upTo s a c).length≤s.length-a:=by
 have:=(List.takeWhile_prefix (fun x=>x !=c) (l:=s.drop a)).length_le;rw[List.length_drop]at this;exact this
theorem Pe{s t:ae}{a n:Nat}{c:UInt8}(h:dM s a c= .ok (t,n)):a<n∧n≤s.length∧t.length<s.length∧t=upTo s a c∧n=a+t.length+1:=by
 unfold dM at h;split at h
 ·cases h
 ·rename_i k;split at h
  ·rename_i k2;injection h with h
   injection h with h1 h2
   subst h1;subst h2;exact⟨by omega,by omega,by omega,rfl,rfl⟩
  ·cases h
theorem Gn{s:ae}{a n:Nat}{x:Int}(h:rdNum s a= .ok (x,n)):a<n∧n≤s.length∧ -2147483648≤x∧x≤2147483647:=by
 unfold rdNum at h;cases hu:dM s a 32 with
 |error e=>rw[hu]at h;cases h
 |ok p=>
  obtain⟨t,m⟩:=p;rw[hu,aR]at h;have he:=Pe hu;unfold numOf at h;split at h
  ·cases h
  ·split at h
   ·cases h
   ·injection h with h
    injection h with h1 h2
    subst h1;subst h2;omega
theorem BB{s x:ae}{a n:Nat}(h:rdStr s a= .ok (x,n)):a<n∧n≤s.length∧x.length<s.length:=by
 unfold rdStr at h;cases hu:dM s a 58 with
 |error e=>rw[hu]at h;cases h
 |ok p=>
  obtain⟨t,m⟩:=p;rw[hu,aR]at h;have he:=Pe hu;unfold strOf at h;split at h
  ·cases h
  ·split at h
   ·cases h
   ·split at h
    ·cases h
    ·injection h with h
     injection h with h1 h2
     subst h1;subst h2;rw[List.length_take,List.length_drop];dsimp only at*;omega
theorem Tg{most:Int}{s:ae}{a n:Nat}{x:Int}(h:gW most s a= .ok (x,n)):a<n∧n≤s.length∧0≤x∧x≤most:=by
 unfold gW at h;cases hu:rdNum s a with
 |error e=>rw[hu]at h;cases h
 |ok p=>
  obtain⟨t,m⟩:=p;rw[hu,aR]at h;have he:=Gn hu;split at h
  ·cases h
  ·injection h with h
   injection h with h1 h2
   subst h1;subst h2;dsimp only at*;omega
theorem Xuy:∀(l:ae) (a:Nat),a≤dS a l
 | [],_=>Qn _
 |c::l,a=>by
  have:=Xuy l (10*a+(c.toNat-48));show a≤dS (10*a+(c.toNat-48)) l;omega
theorem Xmj:∀(l:ae) (acc:Nat),l.all ig=true→acc<18446744073709551616→Lib.parseUint10 acc l=if dS acc l<18446744073709551616 then .ok (dS acc l)else .range
 | [],acc,_,h=>by show Lib.NumEnd.ok acc=_;rw[if_pos (show dS acc []<_ from h)];rfl
 |c::l,acc,h,hb=>by
  rw[List.all_cons,Bool.and_eq_true]at h;have hc:=Fe h.1;have he:dS acc (c::l)=dS (acc*10+(c.toNat-48)) l:=by rw[Nat.mul_comm];rfl
  have hg:=Xuy l (acc*10+(c.toNat-48));rw[Lib.parseUint10,if_pos hc,he];split
  ·rw[if_neg (by omega)]
  ·split
   ·rw[if_neg (by omega)]
   ·exact Xmj l _ h.2 (by omega)
theorem Xyv{l:ae}(h:jg l=true):Lib.parseMag l=if dS 0 l<18446744073709551616 then .ok (dS 0 l)else .range:=by
 unfold jg at h;simp only[Bool.and_eq_true]at h;unfold Lib.parseMag;rw[if_neg (by have:=h.1.1;cases l<;>simp_all)];exact Xmj l 0 h.1.2 (by omega)
theorem Xj4{l:ae}(h:jg l=true):∃c r,l=c::r∧48≤c.toNat∧c.toNat≤57:=by
 unfold jg at h;cases l with
 |nil=>simp at h
 |cons c r=>
  simp only[Bool.and_eq_true,List.all_cons]at h;exact⟨c,r,rfl,Fe h.1.2.1⟩
theorem Xmp{l:ae}(h:jg l=true):mR l=false:=by
 obtain⟨c,r,rfl,h1,h2⟩:=Xj4 h;unfold mR;have:c≠45:=fun e=>by subst e;have:(45:UInt8).toNat=45:=rfl;omega
 simpa using this
theorem Ti{t:ae}:jg t=(ii t&& !mR t):=by
 unfold ii kP;cases hn:mR t
 ·simp
 ·have:jg t=false:=by
   cases h:jg t with
   |false=>rfl
   |true=>rw[Xmp h]at hn;cases hn
  simp[this]
theorem Wm{t:ae}(h:jg t=true):pF t=dS 0 t:=by
 unfold pF kP;rw[Xmp h];simp
theorem Xqv{t:ae}(h:ii t=true):(∃n,Lib.atoiAll t= .ok n∧n=pF t)∨(Lib.atoiAll t= .range∧(pF t< -9223372036854775808∨9223372036854775807<pF t)):=by
 unfold ii at h;rw[Bool.and_eq_true]at h;have hm:=Xyv h.1;have c45:(45:UInt8).toNat=45:=rfl;cases t with
 |nil=>simp[kP,mR,jg]at h
 |cons c r=>
  by_cases hn:c=45
  ·subst hn;have hneg:mR (45::r)=true:=rfl;have IJ:kP (45::r)=r:=rfl;rw[IJ]at hm;unfold Lib.atoiAll;simp only[c45,or_true,if_true,hm];unfold pF;rw[hneg,IJ];simp only[if_true];by_cases hb:dS 0 r<18446744073709551616
   ·rw[if_pos hb];by_cases hc:9223372036854775808<dS 0 r
    ·right;simp[hc];omega
    ·left;simp[hc]
   ·rw[if_neg hb];right;exact⟨rfl,by omega⟩
  ·have hneg:mR (c::r)=false:=by unfold mR;simpa using hn
   have IJ:kP (c::r)=c::r:=by unfold kP;rw[hneg];rfl
   rw[IJ]at hm h;obtain⟨c',r',e,k1,k2⟩:=Xj4 h.1;injection e with e1 e2
   subst e1;unfold Lib.atoiAll;dsimp only;rw[if_neg (show ¬(c.toNat=43∨c.toNat=45) by omega),hm];unfold pF;rw[hneg,IJ];simp only[show ¬c.toNat=45 by omega,not_false_eq_true,true_and,false_and,if_false,Bool.false_eq_true];by_cases hb:dS 0 (c::r)<18446744073709551616
   ·rw[if_pos hb];by_cases hc:9223372036854775808≤dS 0 (c::r)
    ·right;simp[hc];omega
    ·left;simp[hc]
   ·rw[if_neg hb];right;exact⟨rfl,by omega⟩
def Pf(a:Nat):Nat:=if 1099511627776<a then 1099511627776 else a
def Wn(acc:Nat)(l:ae):Nat:=l.foldl (fun n c=>Pf (10*n+(c.toNat-48))) acc
theorem Xfn{c:UInt8}:∀{t r:ae},(∀x∈t,x≠c)→(t++c::r).takeWhile (fun x=>x !=c)=t
 | [],r,_=>by simp
 |x::t,r,h=>by
  rw[List.cons_append,List.takeWhile_cons,if_pos (by simpa using h x (by simp)),Xfn (fun y hy=>h y (by simp[hy]))]
theorem Xjz{x t r:ae}{c:UInt8}(h:∀y∈t,y≠c):dM (x++(t++c::r)) x.length c= .ok (t,x.length+t.length+1):=by
 have hu:upTo (x++(t++c::r)) x.length c=t:=by
  unfold upTo;rw[List.drop_left];exact Xfn h
 unfold dM;rw[hu,if_neg (by simp),if_pos (by simp)]
theorem Wo(n:Nat):jg (Lib.decDigits n)=true:=by
 obtain⟨h1,h2,h3,h4,h5⟩:=MV n;unfold jg;rw[h1];have:(Lib.decDigits n).isEmpty=false:=by cases hd:Lib.decDigits n<;>simp_all
 rw[this];by_cases JB:10≤n
 ·have:=h4 JB;simp[this]
 ·have e:Lib.decDigits n=[UInt8.ofNat (48+n)]:=by rw[Lib.decDigits,dif_pos (by omega)]
  rw[e];rfl
theorem Wp{c:UInt8}(hc:c.toNat<48∨57<c.toNat)(n:Nat):∀x∈Lib.decDigits n,x≠c:=fun x hx e=>by
 have:=List.all_eq_true.1 (MV n).1 x hx;have:=Fe this;subst e;omega
theorem Xp3(n:Nat):Lib.itoa (n:Int)=Lib.decDigits n:=by
 unfold Lib.itoa;rw[if_neg (by omega),Int.toNat_natCast]
theorem Wq(x s r:ae):rdStr (x++(aN s++r)) x.length= .ok (s,x.length+(aN s).length):=by
 have e:x++(aN s++r)=x++(Lib.decDigits s.length++58::(s++44::r)):=by simp[aN,Xp3]
 have hl:(aN s).length=(Lib.decDigits s.length).length+s.length+2:=by simp[aN,Xp3];omega
 have hd:dS 0 (Lib.decDigits s.length)=s.length:=(MV _).2.2.1;rw[hl,e,rdStr,Xjz (Wp (.inr (by decide)) _),aR,strOf,Wo,hd];dsimp only;obtain⟨y,hy⟩:∃y,x++Lib.decDigits s.length++[58]=y:=⟨_,rfl⟩;have UO:x.length+(Lib.decDigits s.length).length+1=y.length:=by rw[←hy];simp;omega
 have e2:x++(Lib.decDigits s.length++58::(s++44::r))=y++(s++44::r):=by rw[←hy];simp
 rw[e2,UO,if_neg (by simp),if_neg (by simp),if_neg ?_,List.drop_left,List.take_left]
 ·rw[←UO];congr 2;omega
 ·simp[List.getD,List.getElem?_append]
theorem Ws(x r:ae)(n:Int)(h0: -2147483648≤n)(h1:n≤2147483647):rdNum (x++(bq n++r)) x.length= .ok (n,x.length+(bq n).length):=by
 have e:x++(bq n++r)=x++(Lib.itoa n++32::r):=by simp[bq]
 have hl:(bq n).length=(Lib.itoa n).length+1:=by simp[bq]
 have Oe:=MV n.natAbs;have xn:∀y∈Lib.itoa n,y≠32:=by
  intro y hy;unfold Lib.itoa at hy;split at hy
  ·rcases List.mem_cons.1 hy with rfl|hy
   ·decide
   ·exact Wp (.inl (by decide)) _ y hy
  ·exact Wp (.inl (by decide)) _ y hy
 rw[hl,e,rdNum,Xjz xn,aR];dsimp only;have hv:ii (Lib.itoa n)=true∧pF (Lib.itoa n)=n:=by
  unfold Lib.itoa;split
  ·rename_i hn;have hneg:mR (45::Lib.decDigits n.natAbs)=true:=rfl;have IJ:kP (45::Lib.decDigits n.natAbs)=Lib.decDigits n.natAbs:=rfl;constructor
   ·unfold ii;rw[hneg,IJ,Wo,Oe.2.2.1];simp;omega
   ·unfold pF;rw[hneg,IJ,Oe.2.2.1];simp;omega
  ·rename_i hn;have e2:n.toNat=n.natAbs:=by omega
   have zG:jg (Lib.decDigits n.natAbs)=true:=Wo _;constructor
   ·have:= @Ti (Lib.decDigits n.natAbs);rw[zG]at this
    first
     |(rw[e2];simp_all)
     |simp_all
   ·first
     |(rw[e2,Wm zG,Oe.2.2.1];omega)
     |(rw[Wm zG,Oe.2.2.1];omega)
 unfold numOf;rw[hv.1,hv.2,if_neg (by simp),if_neg (by omega),Nat.add_assoc]
theorem Xg2(c:UInt8):∀l:ae,Lib.indexByte l c=if(l.takeWhile (fun x=>x !=c)).length<l.length then(((l.takeWhile (fun x=>x !=c)).length:Nat):Int)else -1
 | []=>rfl
 |x::l=>by
  rw[Lib.indexByte,List.takeWhile_cons];by_cases h:x=c
  ·subst h;simp
  ·have e1:(x==c)=false:=by simpa using h
   have e2:(x !=c)=true:=by simpa using h
   rw[e1,e2];simp only[Bool.false_eq_true,if_false,if_true];rw[Xg2 c l,List.length_cons,List.length_cons];generalize(l.takeWhile (fun x=>x !=c)).length=n;generalize l.length=m;by_cases k:n<m
   ·have e3:(((n:Nat):Int)== -1)=false:=by
     have:((n:Nat):Int)≠ -1:=by omega
     simpa using this
    rw[if_pos k,e3,if_neg (by simp),if_pos (by omega)];simp
   ·rw[if_neg k,if_pos (show((-1:Int)== -1)=true from rfl),if_neg (by omega)]
theorem Xsb(s:ae):Lib.trimPrefix s [45]=kP s:=by
 unfold Lib.trimPrefix Lib.hasPrefix kP mR;cases s with
 |nil=>rfl
 |cons c r=>
  by_cases h:c=45
  ·subst h;simp[List.isPrefixOf]
  ·have h2:¬(45:UInt8)=c:=fun e=>h e.symm;simp[List.isPrefixOf,h,h2]
theorem Xpb(s:ae):ii s=(!(kP s).isEmpty&&((kP s).all ig&&((kP s).head? !=some 48 || s==[48]))):=by
 unfold ii jg;cases hm:kP s with
 |nil=>rfl
 |cons c r=>
  cases ha:(c::r).all ig with
  |false=>simp[ha]
  |true=>
   by_cases hc:c=48
   ·subst hc;have hneg:mR s=true→s≠[48]:=by
     intro h e;rw[e]at h;cases h
    by_cases hn:mR s=true
    ·have h1:=hneg hn;cases r with
     |nil=>simp[hn,h1,dS]
     |cons d r=>simp[hn,h1]
    ·have UI:mR s=false:=by simpa using hn
     have hs:s=48::r:=by
      unfold kP at hm;rw[if_neg hn]at hm;exact hm
     rw[UI,hs];cases r with
     |nil=>rfl
     |cons d r=>simp
   ·have JB:10^r.length≤dS 0 (c::r):=Vo ha hc;have h1:1≤10^r.length:=Nat.pos_of_ne_zero (by simp);have h0:(dS 0 (c::r)==0)=false:=by simp;omega
    have h2:(some c !=some (48:UInt8))=true:=by simpa using hc
    rw[h0];simp[h2]
def jq:Ty Ho:=Ty.flat 2 (fun x=> [S x.p,.int .i64 x.u]) (fun _=>rfl) (fun _ u h=>by simp at h;rcases h with rfl|rfl<;>rfl)
theorem yj{I:IH}{v:Value}{l:List Ho}{w:World}(h:bf jq I v l)(hw:Ok I w)(i:Nat)(hi:i<l.length):∃x b off cap,l[i]=x∧v= .slice (some ⟨b,off,none⟩) l.length cap∧
 w.cell? ⟨b,off+i*2,none⟩=some (S x.p)∧w.cell? ⟨b,off+i*2+1,none⟩=some (.int .i64 x.u):=by
 obtain⟨b,off,cap,cs,hv,iY,hc⟩:=h.at_ hw hi;have lv:cs=[S l[i].p,.int .i64 l[i].u]:=iY;subst lv;exact⟨_,b,off,cap,rfl,hv,hc 0 _ rfl,hc 1 _ rfl⟩
theorem Tj:(Tryz.prog.info? 227).map (fun i=>(i.zero,i.size,i.bytes))=some (some (.agg #[.string ⟨#[]⟩,.int .i64 0]),2,24):=by kernel_rfl
theorem AQ:fq Tryz.prog 101 227 jq 24:=fq.of Tryz.underlying101 Tj rfl (by decide) rfl
abbrev Kn(x:Ho):Value:= .agg #[S x.p,.int .i64 x.u]
def rV(g:Nat)(cb:Array Value)(l:List Ho)(p:Ho→Bool)(C:World→Prop):Prop:=
 ∀x∈l,∀W:World,C W→Calls Tryz.prog g (#[Kn x]++cb) W fun e w'=>e= .returned (.bool (p x))∧Below W.heap.size W w'
theorem Wt(f:Ho→Bool){a:List Ho}{k:Nat}(hk:k<a.length){x:Ho}(hx:a[k]=x):(a.take (k+1)).filter f=(a.take k).filter f++(if f x=true then [x]else []):=by
 rw[List.take_succ_eq_append_getElem hk,hx,List.filter_append];cases h:f x<;>simp[h]
theorem Wu{α:Type}{T U:List α}{c:Bool}{p:α}(h:T=U++(if c=true then [p]else []))(hc:c=true):T=U++[p]:=by rw[h,if_pos hc]
theorem Wv{α:Type}{T U:List α}{c:Bool}{p:α}(h:T=U++(if c=true then [p]else []))(hc:c=false):T=U:=by rw[h,hc,if_neg (by simp),List.append_nil]
theorem aM.rW{α:Type}{T:Ty α}{E:TypeId}{I:IH}{w:World}{B:Nat}{v:Value}{l l':List α}(h:aM T E I w B v l)(e:l=l'):aM T E I w B v l':=e▸h
theorem Pg(I:IH)(v:Value)(l:List Ho)(hv:bf jq I v l)(hn:l.length≤100000)(g:Nat)(cb:Array Value)(p:Ho→Bool)(w:World)(hw:Ok I w)(eg:∀args w,(callFunc g args).run Tryz.prog w= .ok (.enter g args) w)(hp:rV g cb l p (Below w.heap.size w)):
 Calls Tryz.prog 243 #[v,.func (.func g) #[] cb] w fun e w'=> ∃v',e= .returned v'∧aM jq 227 I w' w.heap.size v' (l.filter p)∧Below w.heap.size w w':=by
 obtain⟨ao,cap,rfl,dD,il,_⟩:=id hv;have Hv:=Qh hv;clear hv;have Hp:=Qh hp;clear hp;go_enter Tryz.func243,Tryz.ntmps243
 go_wp2_with fail
 go_loopw [5,10] (fun s5 s10 wr=> ∃k:Nat,k≤l.length∧s10= .int .i64 k∧aM jq 227 I wr w.heap.size s5 ((l.take k).filter p)∧Below w.heap.size w wr) (fun _ i _=>l.length-(intOf i).toNat)
 case atStart=>exact⟨0,Nat.zero_le _,rfl,aM.nil _ _ _ _ _,Qb _ _⟩
 case round=>
  obtain⟨k,hk,rfl,bJ,hb⟩:=hrel;have bD:=Qh bJ;clear bJ;have dz:Ok I wr:=hw.below (Qn _) hb;have mO:((l.take k).filter p).length≤k:=Nat.le_trans (List.length_filter_le _ _) (by simp;omega);by_cases hlt:k<l.length
  ·obtain⟨x,b,off,cap',bN,di,c0,c1⟩:=yj Hv.O dz k hlt;cases di;have bB:=Qh (Wt p hlt bN);have kJ:=Qh (Hp.O x (by rw[←bN];exact List.getElem_mem hlt) (wr.alloc (.cells #[S x.p,.int .i64 x.u] 227)) (hb.alloc hb.size _));clear bN;go_wp2_with fail
   refine kJ.O.mono ?_;rintro e w1 ⟨rfl,au⟩;have x0:=dQ au (show(wr.alloc (.cells #[S x.p,.int .i64 x.u] 227)).cell? ⟨wr.heap.size,0,none⟩=some (S x.p) by simp);have x1:=dQ au (show(wr.alloc (.cells #[S x.p,.int .i64 x.u] 227)).cell? ⟨wr.heap.size,1,none⟩=some (.int .i64 x.u) by simp);have av:=(hb.alloc hb.size (.cells #[S x.p,.int .i64 x.u] 227)).trans (au.mono (by have:=hb.size;simp;omega));have tZ:=Qh ((bD.O.alloc (.cells #[S x.p,.int .i64 x.u] 227)).below au);have oD:=av.size;clear au kJ c0 c1 bD;cases hpx:p x
   ·have Hn:=Qh (Wv bB.O hpx);clear hpx;go_wp2;go_roundw;case rel=>exact⟨k+1,by omega,by go_num,tZ.O.rW Hn.O.symm,av⟩
    case measure=>simp[intOf];omega
   ·have Hn:=Qh (Wu bB.O hpx);clear hpx;go_wp2_with (at_builtin;refine oq (w0:=w1) AQ rfl _ _ rfl _ _ _ rfl tZ.O x [S x.p,.int .i64 x.u] _ rfl rfl (by omega) (by omega) oD ?_)
    intro v9 w9 dF fw;have iq:=Below.own av fw tZ.O (Qn _) oD;go_wp2;go_roundw;case rel=>exact⟨k+1,by omega,by go_num,dF.rW Hn.O.symm,iq⟩
    case measure=>simp[intOf];omega
  ·have aG:l.take k=l:=List.take_of_length_le (by omega);rw[aG]at bD;clear aG mO;go_wp2;go_ret;exact⟨_,rfl,bD.O,hb⟩
theorem Xe8(I:IH)(v:Value)(l:List Ho)(hv:bf jq I v l)(g:Nat)(cb:Array Value)(p:Ho→Bool)(w:World)(hw:Ok I w)(eg:∀args w,(callFunc g args).run Tryz.prog w= .ok (.enter g args) w)(hp:rV g cb l p (Below w.heap.size w)):
 Calls Tryz.prog 246 #[v,.func (.func g) #[] cb] w fun e w'=>e= .returned (.int .i64 (l9 l p))∧Below w.heap.size w w':=by
 have hlen:=hv.dh;obtain⟨ao,cap,rfl,dD,il,_⟩:=id hv;have Hv:=Qh hv;clear hv;have Hp:=Qh hp;clear hp;go_enter Tryz.func246,Tryz.ntmps246
 go_wp2_with fail
 go_loopw [8] (fun s8 wr=> ∃k:Nat,k≤l.length∧s8= .int .i64 k∧(l.take k).any p=false∧Below w.heap.size w wr) (fun i _=>l.length-(intOf i).toNat)
 case atStart=>exact⟨0,Nat.zero_le _,rfl,rfl,Qb _ _⟩
 case round=>
  obtain⟨k,hk,rfl,hr,hb⟩:=hrel;have Hr:=Qh hr;clear hr;by_cases hlt:k<l.length
  ·have dz:Ok I wr:=hw.below (Qn _) hb;obtain⟨x,b,off,cap',bN,di,c0,c1⟩:=yj Hv.O dz k hlt;cases di;have sF:=Qh bN;have kJ:=Qh (Hp.O x (by rw[←bN];exact List.getElem_mem hlt) wr hb);clear bN;go_wp2_with fail
   refine kJ.O.mono ?_;rintro e w1 ⟨rfl,au⟩;have av:=hb.trans (au.mono hb.size);clear au kJ c0 c1;cases hpx:p x
   ·have Hn:=Qh (show(l.take (k+1)).any p=false by rw[List.take_succ_eq_append_getElem hlt,List.any_append,Hr.O,sF.O];simp[hpx]);clear hpx;go_wp2;go_roundw;case rel=>exact⟨k+1,by omega,by go_num,Hn.O,av⟩
    case measure=>simp[intOf];omega
   ·have Hn:=Qh (S9 (p:=p) hlt (by rw[sF.O];exact hpx) Hr.O);clear hpx;go_wp2;go_ret;exact⟨bT Hn.O.symm,av⟩
  ·have Hn:=Qh (show l9 l p= -1 from SY (by have:=Hr.O;rwa[List.take_of_length_le (by omega)]at this));go_wp2;go_ret;exact⟨bT Hn.O.symm,hb⟩
theorem Xdi(I:IH)(v:Value)(l:List Ho)(hv:bf jq I v l)(g:Nat)(cb:Array Value)(p:Ho→Bool)(w:World)(hw:Ok I w)(eg:∀args w,(callFunc g args).run Tryz.prog w= .ok (.enter g args) w)(hp:rV g cb l p (Below w.heap.size w)):
 Calls Tryz.prog 241 #[v,.func (.func g) #[] cb] w fun e w'=>e= .returned (.bool (l.any p))∧Below w.heap.size w w':=by
 have Hi:=Qh (Xe8 I v l hv g cb p w hw eg hp);obtain⟨ao,cap,rfl,dD,il,_⟩:=id hv;clear hv hp eg;rcases IE l p with⟨i,hi,e1,e2,_⟩|⟨e1,e2⟩
 ·have Ha:=Qh (show l.any p=true from List.any_eq_true.2 ⟨l[i],List.getElem_mem hi,e2⟩);have hd:decide ((0:Int)≤(i:Int))=true:=Qt (by omega);rw[e1]at Hi;clear e1 e2;go_enter Tryz.func241,Tryz.ntmps241
  go_wp2_with fail
  refine Hi.O.mono ?_;rintro e w1 ⟨rfl,au⟩;go_wp2;go_ret;exact⟨gZ Ha.O.symm,au⟩
 ·have Ha:=Qh e2;rw[e1]at Hi;clear e1 e2;go_enter Tryz.func241,Tryz.ntmps241
  go_wp2_with fail
  refine Hi.O.mono ?_;rintro e w1 ⟨rfl,au⟩;go_wp2;go_ret;exact⟨gZ Ha.O.symm,au⟩
theorem Xq6(d:Int)(b:Nat)(l:List Ho)(w:World)(hc:w.cell? ⟨b,0,none⟩=some (.int .i64 d)):rV 276 #[.pointer (some ⟨b,0,none⟩)] l (fun h=>decide (d≤h.u)) (Below w.heap.size w):=by
 intro x _ W hW;have JH:=gD (.cells #[S x.p,.int .i64 x.u] 227) (dQ hW hc);clear hc;show Calls Tryz.prog _ #[Kn x,.pointer (some ⟨b,0,none⟩)] W _;go_enter Tryz.func276,Tryz.ntmps276
 go_wp2;go_ret;exact⟨rfl,(Qb _ _).alloc (Qn _) _⟩
theorem Ww(I:IH)(v:Value)(l:List Ho)(hv:bf jq I v l)(hn:l.length≤100000)(d:Int)(w:World)(hw:Ok I w):
 Calls Tryz.prog 242 #[v,.int .i64 d] w fun e w'=> ∃v',e= .returned v'∧aM jq 227 I w' w.heap.size v' (fu l d)∧Below w.heap.size w w':=by
 have Hp:=Qh (Xq6 d w.heap.size l (w.alloc (.cells #[.int .i64 d] 3)) (by simp));have Hs:=Qh (Pg I v l hv hn _ _ _ _ (hw.alloc (.cells #[.int .i64 d] 3)) (fun _ _=>by kernel_rfl) Hp.O);obtain⟨ao,cap,rfl,dD,il,_⟩:=id hv;clear hv Hp;go_enter Tryz.func242,Tryz.ntmps242
 go_wp2_with fail
 refine Hs.O.mono ?_;rintro e w1 ⟨v1,rfl,bJ,hb⟩;go_wp2;go_ret;exact⟨_,rfl,bJ.lower (by simp),((Qb _ _).alloc (Qn _) _).trans (hb.mono (by simp))⟩
theorem Xv4(I:IH)(hI:dG I)(p:ae)(hp:p.length≤4294967280)(b:Nat)(l:List Ho)(hl:∀h∈l,h.p.length≤4294967280)(w:World)(hw:Ok I w)(hc:w.cell? ⟨b,0,none⟩=some (S p)):rV 275 #[.pointer (some ⟨b,0,none⟩)] l (fun h=>under p h.p) (Below w.heap.size w):=by
 intro x hx W hW;have Hu:=Qh (VW I hI p x.p hp (hl x hx) (W.alloc (.cells #[S x.p,.int .i64 x.u] 227)) ((hw.below (Qn _) hW).alloc _));have JH:=gD (.cells #[S x.p,.int .i64 x.u] 227) (dQ hW hc);clear hc;show Calls Tryz.prog _ #[Kn x,.pointer (some ⟨b,0,none⟩)] W _;go_enter Tryz.func275,Tryz.ntmps275
 go_wp2_with fail
 refine Hu.O.mono ?_;rintro e w1 ⟨rfl,au⟩;go_wp2;go_ret;exact⟨rfl,((Qb _ _).alloc (Qn _) _).trans (au.mono (by simp))⟩
theorem tQ.short{l:List Ho}(h:tQ l):∀x∈l,x.p.length≤4294967280:=fun x hx=>by have:=(Bj (h.af x hx)).1;omega
theorem Xyg(I:IH)(hI:dG I)(v:Value)(l:List Ho)(hv:bf jq I v l)(hk:tQ l)(hn:l.length≤100000)(p:ae)(hp:p.length≤4294967280)(d:Int)(w:World)(hw:Ok I w):
 Calls Tryz.prog 239 #[v,S p,.int .i64 d] w fun e w'=>e= .returned (.bool (fK l p d))∧Below w.heap.size w w':=by
 have Ha:=Qh (Ww I v l hv hn d (w.alloc (.cells #[S p] 9)) (hw.alloc _));have Hk:=Qh (hk.act d);have jw:=Qh (fun b (hb:(w.alloc (.cells #[S p] 9)).heap.size≤b)=>(hw.alloc (.cells #[S p] 9)).fresh (b:=b) hb);have HI:=Qh hI;obtain⟨ao,cap,rfl,dD,il,_⟩:=id hv;clear hv hk hI;go_enter Tryz.func239,Tryz.ntmps239
 go_wp2_with fail
 refine Ha.O.mono ?_;rintro e w1 ⟨v1,rfl,bJ,hb⟩;have aB:Ok I w1:=(hw.alloc _).below (Qn _) hb;obtain⟨I1,jo,jA,kG,_⟩:=bJ.freeze aB jw.O;have qX:w1.cell? ⟨w.heap.size,0,none⟩=some (S p):=dQ hb (by simp);have Hp:=Qh (Xv4 I1 (HI.O.mono (jo.keep (hw.alloc (.cells #[S p] 9)) (Qn _))) p hp w.heap.size (fu l d) Hk.O.short w1 jA qX);have Hc:=Qh (Xdi I1 _ _ kG _ _ _ w1 jA (fun _ _=>by kernel_rfl) Hp.O);have sS:=((Qb w.heap.size w).alloc (Qn _) (.cells #[S p] 9)).trans (hb.mono (by simp));obtain⟨a1,c1,rfl,_,_,_⟩:=id kG;clear hb bJ kG jA jo qX Ha Hp;go_wp2_with fail
 refine Hc.O.mono ?_;rintro e w2 ⟨rfl,aD⟩;go_wp2;go_ret;exact⟨rfl,sS.trans (aD.mono sS.size)⟩
theorem Wx{s:ae}(h:fH s=true):Lib.atoiAll s= .ok (digits s)∧s≠[]∧s.all ig=true∧((s.getD 0 0).toNat=48→s=[48]):=by
 have h':=h;obtain⟨n,h1,h2,h3,h4⟩:=(Xqq s).1 h;obtain⟨u,rfl⟩:=Int.eq_ofNat_of_zero_le h2;rw[Lib.itoa,if_neg (by omega),Int.toNat_natCast]at h4;obtain⟨f1,f2,f3,f4,f5⟩:=MV u;rw[h4]at f1 f2 f3 f4 f5;have JC:digits s=u:=by rw[Vn f1,f3]
 refine⟨by rw[JC];exact h1,f2,f1,fun hc=> ?_⟩;cases s with
 |nil=>exact absurd rfl f2
 |cons c r=>
  have kF:c=48:=by
   apply UInt8.toNat_inj.1;simpa using hc
  subst kF;have hu:u=0:=by
   by_cases k:1≤u
   ·exact absurd rfl (f5 k)
   ·omega
  subst hu;rw[←h4];first|(rw[Lib.decDigits];rfl)|simp[Lib.decDigits]|decide
def kD:ae:=[48,49,50,51,52,53,54,55,56,57]
theorem Xkg:∀c:UInt8,ig c=true→kD.contains c=true:=by
 intro c h;have hb:=Fe h;have key:∀n:Fin 256,48≤n.1→n.1≤57→kD.contains (UInt8.ofNat n.1)=true:=by decide
 have:=key ⟨c.toNat,c.toNat_lt⟩ hb.1 hb.2;simpa using this
theorem Xn2{s:ae}(h:s.all ig=true):Lib.trimS s kD=[]:=by
 rw[VZ,List.all_eq_true];intro c hc;exact Xkg c (List.all_eq_true.1 h c hc)
theorem Xms(s:ae)(hs:s.length≤9223372036854775807)(w:World):
 Calls Tryz.prog 156 #[S s,S kD] w fun e w'=>e= .returned (S (Lib.trimS s kD))∧Below w.heap.size w w':=by
 have h:=Tryz.ql ⟨s.toArray⟩ ⟨kD.toArray⟩ w (by rw[ByteArray.size_mk',List.size_toArray];exact hs) (by decide) (ascii_of_all (by decide));exact h
theorem Xsq(s:ae)(hs:s.length≤4294967280)(hd:fH s=true)(w:World):
 Calls Tryz.prog 245 #[S s] w fun e w'=>e= .returned (.tuple #[.int .i64 (digits s),.bool true])∧Below w.heap.size w w':=by
 obtain⟨ha,cK,aG,hz⟩:=Wx hd;have tJ:=(SE hd).2;have hlen:=List.length_pos_iff.2 cK;obtain⟨p1,p2,p3,p4⟩:=zC cK;have Ht:=Qh (Xms s (by omega) w);rw[Xn2 aG]at Ht;have Ha:=Qh (fun w=>Te s hs _ ha w);have hx0:=gG (P:=Tryz.prog) Tryz.underlying9 s 0 0 rfl hlen;have q1:decide (digits s≤1000000000)=true:=Qt tJ;generalize digits s=n at Ha tJ q1 ⊢;have HD:=Qh (show kD=[48,49,50,51,52,53,54,55,56,57]from rfl);rw[HD.O]at Ht;clear hd ha aG cK;by_cases hc:(s.getD 0 0).toNat=48
 ·have p8:=hz hc;have k1:(((s.getD 0 0).toNat:Int)==48)=true:=by rw[hc];rfl
  have k2:(s==[48])=true:=by rw[p8];rfl
  have Hs:=Qh p8;clear p8 hc hz;generalize(s.getD 0 0).toNat=c at hx0 k1;go_enter Tryz.func245,Tryz.ntmps245
  go_wp2_with fail
  refine Ht.O.mono ?_;rintro e w1 ⟨rfl,au⟩;go_wp2_with fail
  refine(Ha.O _).mono ?_;rintro e w2 ⟨rfl,aD⟩;go_wp2;go_ret2;exact⟨rfl,au.trans (aD.mono au.size)⟩
 ·have k1:(((s.getD 0 0).toNat:Int)==48)=false:=by
   have:((s.getD 0 0).toNat:Int)≠48:=by omega
   simpa using this
  clear hc hz;generalize(s.getD 0 0).toNat=c at hx0 k1;go_enter Tryz.func245,Tryz.ntmps245
  go_wp2_with fail
  refine Ht.O.mono ?_;rintro e w1 ⟨rfl,au⟩;go_wp2_with fail
  refine(Ha.O _).mono ?_;rintro e w2 ⟨rfl,aD⟩;go_wp2;go_ret2;exact⟨rfl,au.trans (aD.mono au.size)⟩
theorem Xn6(I:IH)(hI:dG I)(p:ae)(hp:p.length≤4294967280)(b:Nat)(l:List Ho)(hl:∀h∈l,h.p.length≤4294967280)(w:World)(hw:Ok I w)(hc:w.cell? ⟨b,1,none⟩=some (S p)):rV 240 #[.pointer (some ⟨b,0,none⟩)] l (fun h=>under h.p p) (Below w.heap.size w):=by
 intro x hx W hW;have Hu:=Qh (VW I hI x.p p (hl x hx) hp (W.alloc (.cells #[S x.p,.int .i64 x.u] 227)) ((hw.below (Qn _) hW).alloc _));have JH:=gD (.cells #[S x.p,.int .i64 x.u] 227) (dQ hW hc);clear hc;show Calls Tryz.prog _ #[Kn x,.pointer (some ⟨b,0,none⟩)] W _;go_enter Tryz.func240,Tryz.ntmps240
 go_wp2_with fail
 refine Hu.O.mono ?_;rintro e w1 ⟨rfl,au⟩;go_wp2;go_ret;exact⟨rfl,((Qb _ _).alloc (Qn _) _).trans (au.mono (by simp))⟩
theorem Tk(I:IH)(hI:dG I)(v:Value)(l:List Ho)(hv:bf jq I v l)(hk:tQ l)(hn:l.length≤100000)(e:ay)(va vx:Value)(dV:bf kT I va e.ai)(dX:bf mE I vx e.ak)(hp:e.af.length≤4294967280)(d:Int)(w:World)(hw:Ok I w):
 Calls Tryz.prog 176 #[v,eT e va vx,.int .i64 d] w fun r w'=>r= .returned (.int .i64 (jT l e.ag e.af d))∧Below w.heap.size w w':=by
 have Hh:=Qh (fun w hw=>Xyg I hI v l hv hk hn e.af hp d w hw);have Ha:=Qh (fun w hw=>Ww I v l hv hn d w hw);have HI:=Qh hI;have Hk:=Qh (hk.act d);obtain⟨ao,cap,rfl,dD,il,_⟩:=id hv;obtain⟨aa,ca,rfl,_,_,_⟩:=id dV;obtain⟨ax,cx,rfl,_,_,_⟩:=id dX;clear hv dV dX hI hk;by_cases h1:e.ag=1
 ·have k1:((e.ag:Int)==1)=true:=by simpa using h1
  have Hn:=Qh (show jT l e.ag e.af d=if fK l e.af d then 15 else 0 by rw[jT,if_pos (.inl h1)]);generalize fK l e.af d=b at Hh Hn;clear h1;go_enter Tryz.func176,Tryz.ntmps176
  go_wp2_with fail
  refine(Hh.O _ (hw.alloc _)).mono ?_;rintro e1 w1 ⟨rfl,au⟩;have av:=((Qb w.heap.size w).alloc (Qn _) (.cells #[.int .i64 e.ag,S e.af,.slice aa e.ai.length ca,S e.target,.int .i64 e.size,S e.aj,.slice ax e.ak.length cx] 26)).trans (au.mono (by simp));cases b
  ·go_wp2;go_ret;exact⟨bT Hn.O.symm,av⟩
  ·go_wp2;go_ret;exact⟨bT Hn.O.symm,av⟩
 have k1:((e.ag:Int)==1)=false:=by simpa using h1
 by_cases h2:e.ag=2
 ·have k2:((e.ag:Int)==2)=true:=by simpa using h2
  have Hn:=Qh (show jT l e.ag e.af d=if fK l e.af d then 15 else 0 by rw[jT,if_pos (.inr (.inl h2))]);generalize fK l e.af d=b at Hh Hn;clear h1 h2;go_enter Tryz.func176,Tryz.ntmps176
  go_wp2_with fail
  refine(Hh.O _ (hw.alloc _)).mono ?_;rintro e1 w1 ⟨rfl,au⟩;have av:=((Qb w.heap.size w).alloc (Qn _) (.cells #[.int .i64 e.ag,S e.af,.slice aa e.ai.length ca,S e.target,.int .i64 e.size,S e.aj,.slice ax e.ak.length cx] 26)).trans (au.mono (by simp));cases b
  ·go_wp2;go_ret;exact⟨bT Hn.O.symm,av⟩
  ·go_wp2;go_ret;exact⟨bT Hn.O.symm,av⟩
 have k2:((e.ag:Int)==2)=false:=by simpa using h2
 by_cases h3:e.ag=3
 ·have k3:((e.ag:Int)==3)=true:=by simpa using h3
  have Hn:=Qh (show jT l e.ag e.af d=if fK l e.af d then 15 else 0 by rw[jT,if_pos (.inr (.inr h3))]);generalize fK l e.af d=b at Hh Hn;clear h1 h2 h3;go_enter Tryz.func176,Tryz.ntmps176
  go_wp2_with fail
  refine(Hh.O _ (hw.alloc _)).mono ?_;rintro e1 w1 ⟨rfl,au⟩;have av:=((Qb w.heap.size w).alloc (Qn _) (.cells #[.int .i64 e.ag,S e.af,.slice aa e.ai.length ca,S e.target,.int .i64 e.size,S e.aj,.slice ax e.ak.length cx] 26)).trans (au.mono (by simp));cases b
  ·go_wp2;go_ret;exact⟨bT Hn.O.symm,av⟩
  ·go_wp2;go_ret;exact⟨bT Hn.O.symm,av⟩
 have k3:((e.ag:Int)==3)=false:=by simpa using h3
 have xn:¬(e.ag=1∨e.ag=2∨e.ag=3):=fun q=>by omega
 by_cases h4:e.ag=4;case neg=>
  have k4:((e.ag:Int)==4)=false:=by simpa using h4
  have Hn:=Qh (show jT l e.ag e.af d=0 by rw[jT,if_neg xn,if_neg h4]);clear h1 h2 h3 h4 xn;go_enter Tryz.func176,Tryz.ntmps176
  go_wp2;go_ret;exact⟨bT Hn.O.symm,(Qb w.heap.size w).alloc (Qn _) _⟩
 have k4:((e.ag:Int)==4)=true:=by simpa using h4
 have Hn:=Qh (show jT l e.ag e.af d=if fK l e.af d || jS l e.af d then 15 else 0 by rw[jT,if_neg xn,if_pos h4]);clear h1 h2 h3 h4 xn;have Hbe:=Qh (show jS l e.af d=(fu l d).any (fun h=>under h.p e.af)from rfl);generalize fK l e.af d=b at Hh Hn;generalize jS l e.af d=c at Hn Hbe;go_enter Tryz.func176,Tryz.ntmps176
 go_wp2_with fail
 refine(Hh.O _ (hw.alloc _)).mono ?_;rintro e1 w1 ⟨rfl,au⟩;have gT:=Qh (bS (e:=e) rfl au);have aB:Ok I w1:=(hw.alloc _).below (Qn _) au;have av:=((Qb w.heap.size w).alloc (Qn _) (.cells #[.int .i64 e.ag,S e.af,.slice aa e.ai.length ca,S e.target,.int .i64 e.size,S e.aj,.slice ax e.ak.length cx] 26)).trans (au.mono (by simp));clear au;cases b;case true=>
  go_wp2;go_ret;exact⟨bT Hn.O.symm,av⟩
 have jw:=Qh (fun b (hb:w1.heap.size≤b)=>aB.fresh (b:=b) hb);go_wp2_with fail
 refine(Ha.O _ aB).mono ?_;rintro e2 w2 ⟨v2,rfl,bJ,aD⟩;have aP:Ok I w2:=aB.below (Qn _) aD;obtain⟨I2,jo,jA,kG,_⟩:=bJ.freeze aP jw.O;have Hp:=Qh (Xn6 I2 (HI.O.mono (jo.keep aB (Qn _))) e.af hp w.heap.size (fu l d) Hk.O.short w2 jA (gT.O.aA aD).c1);have Hc:=Qh (Xdi I2 _ _ kG _ _ _ w2 jA (fun _ _=>by kernel_rfl) Hp.O);rw[←Hbe.O]at Hc;have aK:=av.trans (aD.mono av.size);obtain⟨a1,c1,rfl,_,_,_⟩:=id kG;clear aD bJ kG jA jo Ha Hp av;go_wp2_with fail
 refine Hc.O.mono ?_;rintro e3 w3 ⟨rfl,bU⟩;have df:=aK.trans (bU.mono aK.size);cases c
 ·go_wp2;go_ret;exact⟨bT Hn.O.symm,df⟩
 ·go_wp2;go_ret;exact⟨bT Hn.O.symm,df⟩
end Go.Proofs.YtdodihnehppnmaaGreatDoor
namespace Go.Proofs
open Go.Shelf
def Tryz.yl:Go.Shelf.Ren:=⟨fun|137=>154|217=>169|266=>237|n=>n,fun|9=>9|5=>5|3=>3|n=>n,fun|n=>n⟩
theorem Tryz.Gp:Go.Proofs.Lays.n137 Tryz.prog Tryz.yl:={
 mixed:=by kernel_rfl
 f137:=Tryz.func154.trans (congrArg some (by kernel_rfl))
 f217:=Tryz.func169.trans (congrArg some (by kernel_rfl))
 f266:=Tryz.func237.trans (congrArg some (by kernel_rfl))
 t3:=Tryz.underlying3
 a3:=Tryz.isAgg3
 z3:=Tryz.sizeOf3
 v3:=Tryz.zeroValue3
 t5:=Tryz.underlying5
 a5:=Tryz.isAgg5
 z5:=Tryz.sizeOf5
 v5:=Tryz.zeroValue5
 t9:=Tryz.underlying9
 a9:=Tryz.isAgg9
 z9:=Tryz.sizeOf9
 v9:=Tryz.zeroValue9}
open Go.RowKit in
theorem Tryz.strings_IndexByte(s:ByteArray)(c:Int)(w:World):
 Calls Tryz.prog 154 #[.string s,.int .u8 c] w fun e w'=>e= .returned (.int .i64 (Lib.indexByte s.data.toList c.toNat.toUInt8))∧w'=w:=Any.strings_IndexByte Tryz.Gp s c w
def Tryz.ym:Go.Shelf.Ren:=⟨fun|101=>155|208=>219|206=>65|n=>n,fun|9=>9|4=>4|3=>3|n=>n,fun|n=>n⟩
theorem Tryz.Gq:Go.Proofs.Lays.n101 Tryz.prog Tryz.ym:={
 mixed:=by kernel_rfl
 f101:=Tryz.func155.trans (congrArg some (by kernel_rfl))
 f206:=Tryz.func65.trans (congrArg some (by kernel_rfl))
 f208:=Tryz.func219.trans (congrArg some (by kernel_rfl))
 t3:=Tryz.underlying3
 a3:=Tryz.isAgg3
 z3:=Tryz.sizeOf3
 v3:=Tryz.zeroValue3
 t4:=Tryz.underlying4
 a4:=Tryz.isAgg4
 z4:=Tryz.sizeOf4
 v4:=Tryz.zeroValue4
 t9:=Tryz.underlying9
 a9:=Tryz.isAgg9
 z9:=Tryz.sizeOf9
 v9:=Tryz.zeroValue9}
open Go.RowKit Go.Lib in
theorem Tryz.strings_TrimPrefix(s p:ByteArray)(w:World):
 Calls Tryz.prog 155 #[.string s,.string p] w fun e w'=>e= .returned (.string ⟨(Lib.trimPrefix s.data.toList p.data.toList).toArray⟩)∧w'=w:=Any.strings_TrimPrefix Tryz.Gq s p w
def Tryz.yn:Go.Shelf.Ren:=⟨fun|109=>236|n=>n,fun|31=>60|9=>9|3=>3|0=>0|4=>4|n=>n,fun|n=>n⟩
theorem Tryz.Gr:Go.Proofs.Lays.n109 Tryz.prog Tryz.yn:={
 mixed:=by kernel_rfl
 f109:=Tryz.func236.trans (congrArg some (by kernel_rfl))
 t0:=Tryz.underlying0
 a0:=Tryz.isAgg0
 z0:=Tryz.sizeOf0
 v0:=Tryz.zeroValue0
 t3:=Tryz.underlying3
 a3:=Tryz.isAgg3
 z3:=Tryz.sizeOf3
 v3:=Tryz.zeroValue3
 t4:=Tryz.underlying4
 a4:=Tryz.isAgg4
 z4:=Tryz.sizeOf4
 v4:=Tryz.zeroValue4
 t9:=Tryz.underlying9
 a9:=Tryz.isAgg9
 z9:=Tryz.sizeOf9
 v9:=Tryz.zeroValue9
 t31:=Tryz.underlying60
 a31:=Tryz.isAgg60
 z31:=Tryz.sizeOf60
 v31:=Tryz.zeroValue60}
open Go.Lib in
theorem Tryz.slices_Index_string(b off n c:Nat)(zs:List ByteArray)(x:ByteArray)(w:World)(hz:n≤zs.length)(iW:n≤9223372036854775807)(hc:∀j,j<zs.length→w.cell? ⟨b,off+j,none⟩=some (.string (zs.getD j ByteArray.empty))):
 Calls Tryz.prog 236 #[.slice (some ⟨b,off,none⟩) n c,.string x] w fun e w'=>e= .returned (.int .i64 (Lib.idxOfS (zs.take n) x))∧w'=w:=Any.slices_Index_string Tryz.Gr b off n c zs x w hz iW hc
end Go.Proofs
namespace Go.Proofs.YtdodihnehppnmaaGreatDoor
open Go.RowKit Go.Lib
theorem IK{T e:TypeId}{B b:Nat}{bs:List Value}{w w':World}(h:Lib.IsBuilder T e B b bs w)(hb:Below w.heap.size w w'):Lib.IsBuilder T e B b bs w':=by
 have key:∀p,Lib.BuilderAt T e B b p bs w→Lib.BuilderAt T e B b p bs w':=fun p h=>by
  have hlt:=h.lt;obtain⟨hB,v,hv,bJ,cK⟩:=h;refine⟨hB,v,(hb.block b hlt).trans hv,bJ.kept (row:=none) ⟨hb.os,hb.tape,hb.output,hb.size,fun k hk _=>hb.block k hk⟩ ?_,cK⟩;cases v.ownBlock<;>simp
 rcases h with h|h
 ·exact .inl (key _ h)
 ·exact .inr (key _ h)
theorem IL(I:IH)(hI:dG I)(s:ae)(hs:s.length≤140737488355200)(w:World)(hw:Ok I w):
 Calls Tryz.prog 62 #[S s] w fun e w'=>e= .returned (S (aN s))∧Below w.heap.size w w':=by
 have RO:=MX s.length (by omega);go_enter Tryz.func62,Tryz.ntmps62
 go_wp2_with fail
 refine(V6 I hI _ _ hw (by omega) (by omega)).mono ?_;rintro e w1 ⟨rfl,au⟩;go_wp2;go_ret;exact⟨FR (by simp[aN]),au⟩
theorem IM(I:IH)(hI:dG I)(n:Nat)(hn:n≤140737488355200)(w:World)(hw:Ok I w):
 Calls Tryz.prog 41 #[.int .i64 n] w fun e w'=>e= .returned (S (bq n))∧Below w.heap.size w w':=by
 have RO:=MX n (by omega);go_enter Tryz.func41,Tryz.ntmps41
 go_wp2_with fail
 refine(V6 I hI _ _ hw (by omega) (by omega)).mono ?_;rintro e w1 ⟨rfl,au⟩;go_wp2;go_ret;exact⟨rfl,au⟩
def nN(w:World)(b off:Nat)(l:List ae):Prop:=∀(j:Nat) x,l[j]?=some x→w.cell? ⟨b,off+j,none⟩=some (S x)
theorem Nl(W:World)(l:List ae)(T:TypeId):nN (W.alloc (.cells (l.map fun s=>S s).toArray T)) W.heap.size 0 l:=fun j x hx=>by
 rw[cell_of_row _ W.heap.size _ _ _ _ (heap_alloc_new W _),Nat.zero_add,List.getElem?_toArray,List.getElem?_map,hx];rfl
theorem Ph(I:IH)(hI:dG I)(b off cap n:Nat)(l:List ae)(EP:l.length=n)(dD:l.length≤cap)(il:cap≤maxLen)(w:World)(hv:nN w b off l)(hs:(eX l).length≤140737488355200)(hw:Ok I w):
 Calls Tryz.prog 43 #[.slice (some ⟨b,off,none⟩) n cap] w fun e w'=>e= .returned (S (eX l))∧Below w.heap.size w w':=by
 subst EP;have hlen:l.length≤9223372036854775807:=by unfold maxLen at il;omega
 have Hv:=Qh hv;clear hv;have eG:Lib.IsBuilder 77 5 w.heap.size w.heap.size (Lib.byteCells (eX (l.take 0))) (w.alloc (.cells #[.pointer none,.slice none 0 0] 77)):=Lib.fresh_isBuilder _ _ w;have jw:=Qh eG;clear eG;go_enter Tryz.func43,Tryz.ntmps43
 go_wp2_with fail
 go_loopw [8] (fun s8 wr=> ∃k:Nat,k≤l.length∧s8= .int .i64 k∧Lib.IsBuilder 77 5 w.heap.size w.heap.size (Lib.byteCells (eX (l.take k))) wr∧Below w.heap.size w wr∧w.heap.size<wr.heap.size) (fun i _=>l.length-(intOf i).toNat)
 case atStart=>exact⟨0,Nat.zero_le _,rfl,jw.O,(Qb _ _).alloc (Qn _) _,by simp⟩
 case round=>
  obtain⟨k,hk,rfl,tJ,hb,eU⟩:=hrel;have wN:=Qh tJ;clear tJ;have dz:Ok I wr:=hw.below (Qn _) hb;by_cases hlt:k<l.length
  ·obtain⟨s,UQ⟩:∃s,l[k]=s:=⟨_,rfl⟩;have hc:wr.cell? ⟨b,off+k,none⟩=some (S s):=dQ hb (Hv.O k s (by rw[List.getElem?_eq_getElem hlt,UQ]));have nG:=Qh (show eX (l.take (k+1))=eX (l.take k)++aN s by rw[List.take_succ_eq_append_getElem hlt,Xgz,UQ];simp[eX]);have kK:=Qh (show eX l=eX (l.take (k+1))++eX (l.drop (k+1)) by rw[←Xgz,List.take_append_drop]);have iW:(eX (l.take k)).length+(aN s).length≤140737488355200:=by
    rw[kK.O,nG.O]at hs;simp at hs;omega
   have vY:s.length≤140737488355200:=by
    have:s.length≤(aN s).length:=by simp[aN];omega
    omega
   clear UQ;go_wp2_with fail
   refine(IL I hI s vY _ dz).mono ?_;rintro e w1 ⟨rfl,au⟩;have nI:=IK wN.O au;have cO:=au.size;go_wp2_with fail
   refine(Tryz.Builder_WriteString w.heap.size w.heap.size _ _ _ nI (by rw[ByteArray.size_mk',List.size_toArray];simp[Lib.byteCells];omega) (by omega)).mono ?_;rintro e w2 ⟨rfl,mU,aD⟩;have fe:=mU.lt;have u7:Hid (Lib.IsBuilder 77 5 w.heap.size w.heap.size (Lib.byteCells (eX (l.take (k+1)))) w2):=Qh (.inr (by
    have:=mU;rw[Lib.strCells_toArray,Lib.byteCells,Lib.byteCells,←List.map_append,←nG.O]at this;exact this))
   clear nI mU;go_wp2;go_roundw;case rel=>exact⟨k+1,by omega,by go_num,u7.O,(hb.trans (au.mono (Nat.le_of_lt eU))).trans aD,by omega⟩
   case measure=>simp[intOf];omega
  ·have nu:l.take k=l:=List.take_of_length_le (by omega);rw[nu]at wN;clear nu;go_wp2_with fail
   refine(Tryz.Builder_String_any w.heap.size w.heap.size _ _ wN.O (Nat.le_of_lt eU)).mono ?_;rintro e w1 ⟨rfl,au⟩;go_wp2;go_ret;exact⟨rfl,hb.trans au⟩
def BC:ae:=[48,49,50,51,52,53,54,55,56,57]
theorem Xlu(u:Nat)(h:u<10):(BC.drop u).take (u+1-u)=decDigits u:=by
 rw[decDigits_one h];match u,h with
 |0,_=>rfl
 |1,_=>rfl
 |2,_=>rfl
 |3,_=>rfl
 |4,_=>rfl
 |5,_=>rfl
 |6,_=>rfl
 |7,_=>rfl
 |8,_=>rfl
 |9,_=>rfl
theorem Xlh{n:Nat}(h:¬n<10):decDigits n=decDigits (n / 10)++decDigits (n%10):=by
 rw[decDigits_one (i:=n%10) (by omega),decDigits.eq_def n,dif_neg h]
theorem Xmd(u:Nat)(hu:u<18446744073709551616):∀w:World,Calls Tryz.prog 149 #[.int .u64 u] w fun e w'=>e= .returned (S (decDigits u))∧Below w.heap.size w w':=by
 induction u using Nat.strongRecOn with
 |ind u ih=>
  intro w;have xM:(decDigits u).length≤20:=by rw[decDigits_length];exact Xj5 _ _ (by omega) (by omega)
  by_cases h:u<10
  ·have Ht:=Qh (Xlu u h);clear ih xM;go_enter Tryz.func149,Tryz.ntmps149
   go_wp2;go_ret;exact⟨FR (by have h:=Ht.O;rwa[show u+1-u=1 by omega]at h),Qb _ _⟩
  ·have Hd:=Qh (Xlh h);have JF:=ih (u / 10) (by omega) (by omega);have yV:=ih (u%10) (by omega) (by omega);have FP:(decDigits (u / 10)).length+(decDigits (u%10)).length≤20:=by rw[Hd.O,List.length_append]at xM;exact xM
   have Fh:=Qh JF;have qQ:=Qh yV;rw[show((u / 10:Nat):Int)=(u:Int) / 10 by omega]at Fh;rw[show((u%10:Nat):Int)=(u:Int)%10 by omega]at qQ;clear ih JF yV xM;go_enter Tryz.func149,Tryz.ntmps149
   go_wp2_with fail
   refine(Fh.O _).mono ?_;rintro e w1 ⟨rfl,au⟩;go_wp2_with fail
   refine(qQ.O _).mono ?_;rintro e w2 ⟨rfl,aD⟩;go_wp2;go_ret;exact⟨FR Hd.O.symm,au.trans (aD.mono au.size)⟩
theorem Xme(n:Nat)(hn:n≤9223372036854775807)(w:World):Calls Tryz.prog 99 #[.int .i64 n] w fun e w'=>e= .returned (S (itoa n))∧Below w.heap.size w w':=by
 have Hi:=Qh (show itoa (n:Int)=decDigits n by simp[itoa]);have hw:IntKind.u64.wrap (n:Int)=n:=IntWalk.u64_in _ (by omega);go_enter Tryz.func99,Tryz.ntmps99
 go_wp2_with fail
 refine(Xmd n (by omega) _).mono ?_;rintro e w1 ⟨rfl,au⟩;go_wp2;go_ret;exact⟨FR Hi.O.symm,au⟩
theorem Fq(s:ae)(hs:s.length≤140737488355200)(w:World):
 Calls Tryz.prog 49 #[S s] w fun e w'=>e= .returned (S (aN s))∧Below w.heap.size w w':=by
 have RO:=MX s.length (by omega);go_enter Tryz.func49,Tryz.ntmps49
 go_wp2_with fail
 refine(Xme _ (by omega) _).mono ?_;rintro e w1 ⟨rfl,au⟩;go_wp2;go_ret;exact⟨FR (by simp[aN]),au⟩
theorem Nn(n:Nat)(hn:n≤140737488355200)(w:World):
 Calls Tryz.prog 47 #[.int .i64 n] w fun e w'=>e= .returned (S (bq n))∧Below w.heap.size w w':=by
 have RO:=MX n (by omega);go_enter Tryz.func47,Tryz.ntmps47
 go_wp2_with fail
 refine(Xme n (by omega) _).mono ?_;rintro e w1 ⟨rfl,au⟩;go_wp2;go_ret;exact⟨rfl,au⟩
open Go.RowKit
def rdV{α:Type}(f:α→Value)(z:Value):Rd α→Value
 | .error e=> .tuple #[z,.int .i64 0,.int .i64 e]
 | .ok p=> .tuple #[f p.1,.int .i64 (p.2:Nat),.int .i64 0]
abbrev sV(r:Rd ae):Value:=rdV (fun x=>S x) (S []) r
abbrev nV(r:Rd Int):Value:=rdV (fun x=> .int .i64 x) (.int .i64 0) r
theorem Xz9{x y:ae}{n:Nat}{m:Int}(h:x=y)(hm:m=n):Ending.returned (.tuple #[S x,.int .i64 m,.int .i64 0])= .returned (sV (.ok (y,n))):=by rw[h,hm];rfl
theorem X00{x y:Int}{n:Nat}{m:Int}(h:x=y)(hm:m=n):Ending.returned (.tuple #[.int .i64 x,.int .i64 m,.int .i64 0])= .returned (nV (.ok (y,n))):=by rw[h,hm];rfl
theorem Xkf(c:UInt8):kD.contains c=ig c:=by
 cases h:ig c with
 |true=>exact Xkg c h
 |false=>
  have key:∀n:Fin 256,kD.contains (UInt8.ofNat n.1)=true→48≤n.1∧n.1≤57:=by decide
  cases hc:kD.contains c with
  |false=>rfl
  |true=>
   have:=key ⟨c.toNat,c.toNat_lt⟩ (by simpa using hc);rw[OH,Qt this.1,Qt this.2]at h;cases h
theorem Xvr(s:ae):Lib.trimS s kD=[]↔s.all ig=true:=by
 rw[VZ,List.all_eq_true,List.all_eq_true];constructor
 ·intro h c hc;rw[←Xkf];exact h c hc
 ·intro h c hc;rw[Xkf];exact h c hc
theorem Xjt(c:UInt8):∀l:ae,l.take (l.takeWhile (fun x=>x !=c)).length=l.takeWhile (fun x=>x !=c)
 | []=>rfl
 |x::l=>by
  rw[List.takeWhile_cons];split
  ·rw[List.length_cons,List.take_succ_cons,Xjt c l]
  ·rfl
theorem Xmo(s:ae)(hs:s.length≤4294967280)(a:Nat)(ha:a≤9223372036854775807)(c:UInt8)(w:World):
 Calls Tryz.prog 102 #[S s,.int .i64 a,.int .u8 (c.toNat:Int)] w fun e w'=>e= .returned (sV (dM s a c))∧Below w.heap.size w w':=by
 have IP:=Xvp s a c;by_cases h1:s.length<a
 ·have Hr:=Qh (show dM s a c= .error 1 by unfold dM;rw[if_pos h1]);clear IP;go_enter Tryz.func102,Tryz.ntmps102
  go_wp2;go_ret3
  rw[Hr.O];exact⟨rfl,Qb _ _⟩
 have Ap:Lib.indexByte (s.drop a) c=if(upTo s a c).length<s.length-a then(((upTo s a c).length:Nat):Int)else -1:=by
  rw[Xg2,List.length_drop];rfl
 have hd:(List.drop a s).take (s.length-a)=s.drop a:=List.take_of_length_le (by simp);have wO:=Qh (show ∀w,Calls Tryz.prog 154 #[S ((s.drop a).take (s.length-a)),.int .u8 (c.toNat:Int)] w fun e w'=>e= .returned (.int .i64 (if(upTo s a c).length<s.length-a then(((upTo s a c).length:Nat):Int)else -1))∧w'=w from fun w=>by
  rw[hd];have:=Tryz.strings_IndexByte ⟨(s.drop a).toArray⟩ (c.toNat:Int) w;rw[show((c.toNat:Int).toNat.toUInt8)=c by simp,show(⟨(s.drop a).toArray⟩:ByteArray).data.toList=s.drop a from rfl,Ap]at this;exact this)
 have h0:(0:Int)≤a:=by omega
 have h2:(a:Int)≤s.length:=by omega
 by_cases h3:(upTo s a c).length<s.length-a
 ·have Hr:=Qh (show dM s a c= .ok (upTo s a c,a+(upTo s a c).length+1) by unfold dM;rw[if_neg h1,if_pos (by omega)]);rw[if_pos h3]at wO;have Hu:=Qh (show(s.drop a).take (upTo s a c).length=upTo s a c from Xjt c _);generalize(upTo s a c).length=n at*;have Hd:=Qh hd;clear Ap hd IP;go_enter Tryz.func102,Tryz.ntmps102
  go_wp2_with fail
  refine(wO.O _).mono ?_;rintro e w1 ⟨rfl,rfl⟩;go_wp2;go_ret3
  rw[Hr.O];exact⟨Xz9 (by rw[show a+n-a=n by omega,Hu.O]) (by omega),Qb _ _⟩
 ·have Hr:=Qh (show dM s a c= .error 4 by unfold dM;rw[if_neg h1,if_neg (by omega)]);rw[if_neg h3]at wO;clear Ap hd IP;go_enter Tryz.func102,Tryz.ntmps102
  go_wp2_with fail
  refine(wO.O _).mono ?_;rintro e w1 ⟨rfl,rfl⟩;go_wp2;go_ret3
  rw[Hr.O];exact⟨rfl,Qb _ _⟩
theorem X0h(s:ae):(kP s).length≤s.length:=by
 unfold kP;split
 ·rw[List.length_tail];omega
 ·exact Qn _
theorem Xij(s:ae)(hs:s.length≤4294967280)(w:World):
 Calls Tryz.prog 103 #[S s] w fun e w'=>e= .returned (.bool (ii s))∧Below w.heap.size w w':=by
 have uM:=X0h s;have Ko:=Qh (Xpb s);have Tm:=Qh (show ∀w,Calls Tryz.prog 155 #[S s,S [45]] w fun e w'=>e= .returned (S (kP s))∧w'=w from fun w=>by
  have:=Tryz.strings_TrimPrefix ⟨s.toArray⟩ ⟨[45].toArray⟩ w;rw[show(⟨s.toArray⟩:ByteArray).data.toList=s from rfl,show(⟨[45].toArray⟩:ByteArray).data.toList=[45]from rfl,Xsb]at this;exact this)
 have yg:=Qh (fun w=>Xms (kP s) (by omega) w);have Tn:=Qh (Xvr (kP s));generalize kP s=m at*;have HD:=Qh (show kD=[48,49,50,51,52,53,54,55,56,57]from rfl);rw[HD.O]at yg Tn;by_cases h1:m=[]
 ·have Hn:=Qh (show ii s=false by rw[Ko.O,h1];rfl);obtain⟨p1,p2,p3,p4⟩:=Bu h1;clear h1;go_enter Tryz.func103,Tryz.ntmps103
  go_wp2_with fail
  refine(Tm.O _).mono ?_;rintro e w1 ⟨rfl,rfl⟩;go_wp2;go_ret;exact⟨gZ Hn.O.symm,Qb _ _⟩
 have hlen:=List.length_pos_iff.2 h1;obtain⟨p1,p2,p3,p4⟩:=zC h1;by_cases h2:m.all ig=true
 ·rw[Tn.O.2 h2]at yg;have hx0:=gG (P:=Tryz.prog) Tryz.underlying9 m 0 0 rfl hlen;have hh:m.head?=some (m.getD 0 0):=by cases m with
   |nil=>exact absurd rfl h1
   |cons a r=>rfl
  have Hn:=Qh (show ii s=(m.head? !=some 48 || s==[48]) by rw[Ko.O,p2,h2];rfl);rw[hh]at Hn;by_cases h3:(m.getD 0 0).toNat=48
  ·have k1:(((m.getD 0 0).toNat:Int) !=48)=false:=by rw[h3];rfl
   have Hs:=Qh (show ii s=(s==[48]) by
    have e:m.getD 0 0=48:=UInt8.toNat_inj.1 (by rw[h3];rfl);rw[Hn.O,e];rfl)
   clear Hn hh h2 h3 h1;generalize(m.getD 0 0).toNat=c at hx0 k1;go_enter Tryz.func103,Tryz.ntmps103
   go_wp2_with fail
   refine(Tm.O _).mono ?_;rintro e w1 ⟨rfl,rfl⟩;go_wp2_with fail
   refine(yg.O _).mono ?_;rintro e w2 ⟨rfl,aD⟩;go_wp2;go_ret;exact⟨gZ Hs.O.symm,aD⟩
  ·have k1:(((m.getD 0 0).toNat:Int) !=48)=true:=by
    have:((m.getD 0 0).toNat:Int)≠48:=by omega
    simpa using this
   have Hs:=Qh (show ii s=true by
    have e:m.getD 0 0≠48:=fun e=>h3 (by rw[e];rfl);rw[Hn.O];have e2:(some (m.getD 0 0) !=some (48:UInt8))=true:=by simpa using e
    rw[e2];rfl)
   clear Hn hh h2 h3 h1;generalize(m.getD 0 0).toNat=c at hx0 k1;go_enter Tryz.func103,Tryz.ntmps103
   go_wp2_with fail
   refine(Tm.O _).mono ?_;rintro e w1 ⟨rfl,rfl⟩;go_wp2_with fail
   refine(yg.O _).mono ?_;rintro e w2 ⟨rfl,aD⟩;go_wp2;go_ret;exact⟨gZ Hs.O.symm,aD⟩
 ·have Hn:=Qh (show ii s=false by
   have:m.all ig=false:=by simpa using h2
   rw[Ko.O,this];simp)
  have ht:Lib.trimS m [48,49,50,51,52,53,54,55,56,57]≠[]:=fun e=>h2 (Tn.O.1 e);clear h2 h1;generalize Lib.trimS m [48,49,50,51,52,53,54,55,56,57]=u at yg ht;obtain⟨q1,q2,q3,q4⟩:=zC ht;clear ht Tn;go_enter Tryz.func103,Tryz.ntmps103
  go_wp2_with fail
  refine(Tm.O _).mono ?_;rintro e w1 ⟨rfl,rfl⟩;go_wp2_with fail
  refine(yg.O _).mono ?_;rintro e w2 ⟨rfl,aD⟩;go_wp2;go_ret;exact⟨gZ Hn.O.symm,aD⟩
