/- Lemmas for the claim's theorem;conditions: as each says. -/
import Derived.Test.YtmdfjnhfhidmhaaGreatDoorJ01
set_option maxHeartbeats 0
set_option maxRecDepth 100000
set_option linter.all false
namespace Go.Proofs.YtmdfjnhfhidmhaaGreatDoor
open Go.RowKit
variable{e:aT}{n:Nat}{va vx:Value}{w w':World}
def Xz(x:At):Bool:=decide (100<x.k.length) || decide (100<x.v.length)
def LK(l:List At):Int:=if 30<l.length then 1 else if l.any Xz then 1 else 0
theorem Xo7(a b:At)(W:World):(binOp .neq 107 (.agg #[S a.k,S a.v]) (.agg #[S b.k,S b.v])).run Tryz.prog W= .ok (.bool (!decide (a=b))) W:=by
 rw[PX _ _ [(9,0,false),(9,1,false)] W (by kernel_rfl) (by kernel_rfl) (by kernel_rfl)];obtain⟨a1,a2⟩:=a;obtain⟨b1,b2⟩:=b;simp[go_sem];by_cases h1:a1=b1<;>by_cases h2:a2=b2<;>simp[h1,h2]
theorem Xpi(I:IH)(v1 v2:Value)(l1 l2:List At)(nC:aZ lD I v1 l1)(qK:aZ lD I v2 l2)(w:World)(hw:Ok I w):
 Calls Tryz.prog 96 #[v1,v2] w fun e w'=>e= .returned (.bool (decide (l1=l2)))∧Below w.heap.size w w':=by
 have hlen:=nC.bF;have BQ:=qK.bF;obtain⟨ao,cap,rfl,dO,fJ,_⟩:=id nC;obtain⟨pF,cap2,rfl,oU,qJ,_⟩:=id qK;have Ih:=Qh nC;clear nC;have Ii:=Qh qK;clear qK;by_cases Br:l1.length=l2.length
 ·have hn:((l1.length:Int) !=(l2.length:Int))=false:=by rw[Br];simp
  have Gq:=Qh Br;clear Br;go_enter Tryz.func96,Tryz.ntmps96
  go_wp2;go_loopw [5] (fun s5 wr=> ∃k:Nat,k≤l1.length∧s5= .int .i64 k∧l1.take k=l2.take k∧Below w.heap.size w wr) (fun i _=>l1.length-(intOf i).toNat)
  case atStart=>exact⟨0,Nat.zero_le _,rfl,rfl,Qb _ _⟩
  case round=>
   obtain⟨k,hk,rfl,hr,hb⟩:=hrel;have Hr:=Qh hr;clear hr;by_cases hlt:k<l1.length
   ·have jh:k<l2.length:=by rw[←Gq.O];exact hlt
    have dG:Ok I wr:=hw.below (Qn _) hb;obtain⟨p,b,off,cap',hp,cZ,N7,Wi⟩:=yK Ih.O dG k hlt;cases cZ;obtain⟨q,b',off',nQ,hq,cZ,PI,rV⟩:=yK Ii.O dG k jh;cases cZ;have Hp:=Qh hp;clear hp;have Hq:=Qh hq;clear hq;have GR:=cell_regrown N7;have hg1:=cell_regrown Wi;have CO:=cell_regrown PI;have GK:=cell_regrown rV;have yl:=Xo7 p q;by_cases uF:p=q
    ·rw[Qt uF]at yl;go_wp2_with fail
     refine wp_region_quiet_below (by kernel_rfl) (by kernel_rfl) ?_;repeat(go_big_quiet_step ((fail)))
     refine wpQuiet_nil ?_;intro w2 bq;have aL:Below (wr).heap.size (wr) w2:=by
      obtain⟨pq,rfl⟩:=bq;exact below_regrown _ _ _
     clear bq;go_wp2;go_roundw;case rel=>exact⟨k+1,by omega,by go_num,by rw[List.take_succ_eq_append_getElem hlt,List.take_succ_eq_append_getElem jh,Hr.O,Hp.O,Hq.O,uF],hb.trans (aL.mono hb.size)⟩
     case measure=>simp[intOf];omega
    ·rw[Qf uF]at yl;go_wp2_with fail
     refine wp_region_quiet_below (by kernel_rfl) (by kernel_rfl) ?_;repeat(go_big_quiet_step ((fail)))
     refine wpQuiet_nil ?_;intro w2 bq;have aL:Below (wr).heap.size (wr) w2:=by
      obtain⟨pq,rfl⟩:=bq;exact below_regrown _ _ _
     clear bq;go_wp2;go_ret;refine⟨ib ?_,hb.trans (aL.mono hb.size)⟩;symm;rw[decide_eq_false_iff_not];intro h;apply uF;rw[←Hp.O,←Hq.O];simp[h]
   ·go_wp2;go_ret;refine⟨ib ?_,hb⟩;symm;rw[decide_eq_true_iff];have:=Hr.O;rwa[List.take_of_length_le (by omega),List.take_of_length_le (by rw[←Gq.O];omega)]at this
 ·have hn:((l1.length:Int) !=(l2.length:Int))=true:=by rw[bne_iff_ne];omega
  go_enter Tryz.func96,Tryz.ntmps96
  go_wp2;go_ret;exact⟨ib (by simp;intro h;exact Br (by rw[h])),Qb _ _⟩
theorem Xna(c:UInt8):bJ c=(decide (97≤c.toNat)&&decide (c.toNat≤122) || decide (48≤c.toNat)&&decide (c.toNat≤57) || decide (c.toNat=46) || decide (c.toNat=95) || decide (c.toNat=45)):=by
 have e:∀n:Nat,n<256→(c==UInt8.ofNat n)=decide (c.toNat=n):=fun n hn=>by
  rw[Bool.eq_iff_iff,beq_iff_eq,decide_eq_true_iff];constructor
  ·intro h;rw[h];simp;omega
  ·intro h;have:c=UInt8.ofNat c.toNat:=by simp
   rw[this,h]
 unfold bJ;rw[show(46:UInt8)=UInt8.ofNat 46 from rfl,show(95:UInt8)=UInt8.ofNat 95 from rfl,show(45:UInt8)=UInt8.ofNat 45 from rfl,e 46 (by omega),e 95 (by omega),e 45 (by omega)];simp[UInt8.le_iff_toNat_le]
theorem Xq8(s:af)(hs:s.length≤9223372036854775807)(w:World):
 Calls Tryz.prog 171 #[S s] w fun e w'=>e= .returned (.bool (lG s))∧Below w.heap.size w w':=by
 by_cases h1:1≤s.length
 ·have ng:decide (s.length<1)=false:=Qf (by omega);by_cases pz:s.length≤32
  ·have rR:decide (32<s.length)=false:=by simp;omega
   have o7:=Qh (show lG s=s.all bJ by simp[lG,h1,pz]);go_enter Tryz.func171,Tryz.ntmps171
   go_wp2_with fail
   go_loop [3] (fun s3=> ∃k:Nat,k≤s.length∧s3= .int .i64 k∧(s.take k).all bJ=true) (fun i=>s.length-(intOf i).toNat)
   case atStart=>exact⟨0,Nat.zero_le _,rfl,rfl⟩
   case round=>
    obtain⟨k,hk,rfl,hr⟩:=hrel;have Hr:=Qh hr;clear hr;by_cases hlt:k<s.length
    ·have hx:=gm Tryz.underlying9 s (k:Int) k rfl hlt;have oz:=Xna (s.getD k 0);have ny:=Qh (show s.take (k+1)=s.take k++[s.getD k 0] by rw[List.take_succ_eq_append_getElem hlt];simp[List.getD,hlt]);have Aj:=Qh (show s.getD k 0∈s by simp[List.getD,hlt]);have tQ:(s.getD k 0).toNat<256:=(s.getD k 0).toNat_lt;generalize s.getD k 0=ch at oz ny Aj hx tQ;generalize ch.toNat=c at oz hx tQ;rcases(show(97≤c∧c≤122)∨122<c∨(48≤c∧c≤57)∨c=46∨c=95∨c=45∨(c<48∧c≠46∧c≠45)∨(57<c∧c<97∧c≠95) by omega)with hc|hc|hc|hc|hc|hc|hc|hc
     ·have d97:decide ((c:Int)<97)=false:=by simp;omega
      have d122:decide (122<(c:Int))=false:=by simp;omega
      have d48:decide ((c:Int)<48)=false:=by simp;omega
      have d57:decide (57<(c:Int))=true:=by simp;omega
      have n46:((c:Int) !=46)=true:=by simp;omega
      have n95:((c:Int) !=95)=true:=by simp;omega
      have n45:((c:Int) !=45)=true:=by simp;omega
      have o8:=Qh (show bJ ch=true by rw[oz];simp;omega);clear oz hc;go_wp2;go_round;case rel=>exact⟨k+1,by omega,by go_num,by rw[ny.O,List.all_append,Hr.O];simp[o8.O]⟩
      case measure=>simp[intOf];omega
     ·have d97:decide ((c:Int)<97)=false:=by simp;omega
      have d122:decide (122<(c:Int))=true:=by simp;omega
      have d48:decide ((c:Int)<48)=false:=by simp;omega
      have d57:decide (57<(c:Int))=true:=by simp;omega
      have n46:((c:Int) !=46)=true:=by simp;omega
      have n95:((c:Int) !=95)=true:=by simp;omega
      have n45:((c:Int) !=45)=true:=by simp;omega
      have o8:=Qh (show bJ ch=false by rw[oz];simp;omega);have qR:=Qh (show s.all bJ=false by
       cases h:s.all bJ with
       |false=>rfl
       |true=>rw[List.all_eq_true.1 h ch Aj.O]at o8;exact absurd o8.O (by simp))
      clear oz hc;go_wp2;go_ret;exact⟨ib (by rw[o7.O,qR.O]),Qb _ _⟩
     ·have d97:decide ((c:Int)<97)=true:=by simp;omega
      have d122:decide (122<(c:Int))=false:=by simp;omega
      have d48:decide ((c:Int)<48)=false:=by simp;omega
      have d57:decide (57<(c:Int))=false:=by simp;omega
      have n46:((c:Int) !=46)=true:=by simp;omega
      have n95:((c:Int) !=95)=true:=by simp;omega
      have n45:((c:Int) !=45)=true:=by simp;omega
      have o8:=Qh (show bJ ch=true by rw[oz];simp;omega);clear oz hc;go_wp2;go_round;case rel=>exact⟨k+1,by omega,by go_num,by rw[ny.O,List.all_append,Hr.O];simp[o8.O]⟩
      case measure=>simp[intOf];omega
     ·have d97:decide ((c:Int)<97)=true:=by simp;omega
      have d122:decide (122<(c:Int))=false:=by simp;omega
      have d48:decide ((c:Int)<48)=true:=by simp;omega
      have d57:decide (57<(c:Int))=false:=by simp;omega
      have n46:((c:Int) !=46)=false:=by simp;omega
      have n95:((c:Int) !=95)=true:=by simp;omega
      have n45:((c:Int) !=45)=true:=by simp;omega
      have o8:=Qh (show bJ ch=true by rw[oz];simp;omega);clear oz hc;go_wp2;go_round;case rel=>exact⟨k+1,by omega,by go_num,by rw[ny.O,List.all_append,Hr.O];simp[o8.O]⟩
      case measure=>simp[intOf];omega
     ·have d97:decide ((c:Int)<97)=true:=by simp;omega
      have d122:decide (122<(c:Int))=false:=by simp;omega
      have d48:decide ((c:Int)<48)=false:=by simp;omega
      have d57:decide (57<(c:Int))=true:=by simp;omega
      have n46:((c:Int) !=46)=true:=by simp;omega
      have n95:((c:Int) !=95)=false:=by simp;omega
      have n45:((c:Int) !=45)=true:=by simp;omega
      have o8:=Qh (show bJ ch=true by rw[oz];simp;omega);clear oz hc;go_wp2;go_round;case rel=>exact⟨k+1,by omega,by go_num,by rw[ny.O,List.all_append,Hr.O];simp[o8.O]⟩
      case measure=>simp[intOf];omega
     ·have d97:decide ((c:Int)<97)=true:=by simp;omega
      have d122:decide (122<(c:Int))=false:=by simp;omega
      have d48:decide ((c:Int)<48)=true:=by simp;omega
      have d57:decide (57<(c:Int))=false:=by simp;omega
      have n46:((c:Int) !=46)=true:=by simp;omega
      have n95:((c:Int) !=95)=true:=by simp;omega
      have n45:((c:Int) !=45)=false:=by simp;omega
      have o8:=Qh (show bJ ch=true by rw[oz];simp;omega);clear oz hc;go_wp2;go_round;case rel=>exact⟨k+1,by omega,by go_num,by rw[ny.O,List.all_append,Hr.O];simp[o8.O]⟩
      case measure=>simp[intOf];omega
     ·have d97:decide ((c:Int)<97)=true:=by simp;omega
      have d122:decide (122<(c:Int))=false:=by simp;omega
      have d48:decide ((c:Int)<48)=true:=by simp;omega
      have d57:decide (57<(c:Int))=false:=by simp;omega
      have n46:((c:Int) !=46)=true:=by simp;omega
      have n95:((c:Int) !=95)=true:=by simp;omega
      have n45:((c:Int) !=45)=true:=by simp;omega
      have o8:=Qh (show bJ ch=false by rw[oz];simp;omega);have qR:=Qh (show s.all bJ=false by
       cases h:s.all bJ with
       |false=>rfl
       |true=>rw[List.all_eq_true.1 h ch Aj.O]at o8;exact absurd o8.O (by simp))
      clear oz hc;go_wp2;go_ret;exact⟨ib (by rw[o7.O,qR.O]),Qb _ _⟩
     ·have d97:decide ((c:Int)<97)=true:=by simp;omega
      have d122:decide (122<(c:Int))=false:=by simp;omega
      have d48:decide ((c:Int)<48)=false:=by simp;omega
      have d57:decide (57<(c:Int))=true:=by simp;omega
      have n46:((c:Int) !=46)=true:=by simp;omega
      have n95:((c:Int) !=95)=true:=by simp;omega
      have n45:((c:Int) !=45)=true:=by simp;omega
      have o8:=Qh (show bJ ch=false by rw[oz];simp;omega);have qR:=Qh (show s.all bJ=false by
       cases h:s.all bJ with
       |false=>rfl
       |true=>rw[List.all_eq_true.1 h ch Aj.O]at o8;exact absurd o8.O (by simp))
      clear oz hc;go_wp2;go_ret;exact⟨ib (by rw[o7.O,qR.O]),Qb _ _⟩
    ·have aC:s.take k=s:=List.take_of_length_le (by omega);rw[aC]at Hr;clear aC;go_wp2;go_ret;exact⟨ib (by rw[o7.O,Hr.O]),Qb _ _⟩
  ·have rR:decide (32<s.length)=true:=by simp;omega
   have o7:=Qh (show lG s=false by simp[lG,pz]);go_enter Tryz.func171,Tryz.ntmps171
   go_wp2;go_ret;exact⟨ib o7.O.symm,Qb _ _⟩
 ·have ng:decide (s.length<1)=true:=Qt (by omega);have o7:=Qh (show lG s=false by simp[lG,h1]);go_enter Tryz.func171,Tryz.ntmps171
  go_wp2;go_ret;exact⟨ib o7.O.symm,Qb _ _⟩
theorem Xgc(p:Option At)(x:At)(l:List At):dW p (x::l)=if fQ x≠0 then fQ x else if(p.any fun q=>q.k==x.k)then 8 else if(p.any fun q=>Op.bytesLess x.k q.k)then 14 else dW (some x) l:=rfl
theorem Xmy(I:IH)(v:Value)(l:List At)(hv:aZ lD I v l)(hl:∀x∈l,x.Wf)(w:World)(hw:Ok I w):
 Calls Tryz.prog 120 #[v] w fun e w'=>e= .returned (.int .i64 (mK l))∧Below w.heap.size w w':=by
 have hlen:=hv.bF;obtain⟨ao,cap,rfl,dO,fJ,_⟩:=id hv;have Hv:=Qh hv;clear hv;have Hl:=Qh hl;clear hl;by_cases F7:l.length≤16
 ·have hd:decide (16<l.length)=false:=Qf (by omega);have su:=Qh (show mK l=dW none l by rw[mK,if_neg (by omega)]);go_enter Tryz.func120,Tryz.ntmps120
  go_wp2_with fail
  go_loopw [3] (fun s3 wr=> ∃k:Nat,k≤l.length∧s3= .int .i64 k∧dW (if k=0 then none else l[k-1]?) (l.drop k)=dW none l∧Below w.heap.size w wr) (fun i _=>l.length-(intOf i).toNat)
  case atStart=>exact⟨0,Nat.zero_le _,rfl,rfl,Qb _ _⟩
  case round=>
   obtain⟨k,hk,rfl,hr,hb⟩:=hrel;have Hr:=Qh hr;clear hr;by_cases hlt:k<l.length
   ·have dG:Ok I wr:=hw.below (Qn _) hb;obtain⟨x,b,off,cap',dA,cZ,vH,uG⟩:=yK Hv.O dG k hlt;cases cZ;have CQ:x∈l:=by rw[←dA];exact List.getElem_mem hlt
    obtain⟨gu,oQ⟩:=Hl.O x CQ;have bu:=Qh (show mK l=if fQ x≠0 then fQ x else if((if k=0 then none else l[k-1]?).any fun q=>q.k==x.k)then 8 else if((if k=0 then none else l[k-1]?).any fun q=>Op.bytesLess x.k q.k)then 14 else dW (some x) (l.drop (k+1)) by
     rw[su.O,←Hr.O,List.drop_eq_getElem_cons hlt,dA,Xgc])
    have Qw:=Qh (show l[k]?=some x by rw[List.getElem?_eq_getElem hlt,dA]);clear dA CQ;go_wp2_with fail
    refine(Xq8 x.k gu _).mono ?_;rintro e w1 ⟨rfl,aD⟩;have aH:=hb.trans (aD.mono hb.size);have vH:=bK aD vH;have uG:=bK aD uG;have wL:Ok I w1:=dG.below (Qn _) aD;clear aD;cases hko:lG x.k
    ·have UQ:=Qh (show mK l=7 by rw[bu.O,if_pos (by rw[fQ,if_pos hko];omega),fQ,if_pos hko]);clear hko;go_wp2;go_ret;exact⟨di UQ.O.symm,aH⟩
    ·have UQ:=Qh hko;clear hko;by_cases h64:x.v.length≤64
     ·have rR:decide (64<x.v.length)=false:=Qf (by omega);have He:=Qh (show fQ x=0 by rw[fQ,if_neg (by rw[UQ.O];simp),if_neg (by omega)]);by_cases vG:k=0
      ·have GL:decide (0<k)=false:=Qf (by omega);have iL:=Qh (show dW (if k+1=0 then none else l[k+1-1]?) (l.drop (k+1))=dW none l by
        rw[←su.O,bu.O,He.O,if_neg (by omega),Nat.add_sub_cancel,Qw.O];simp[vG])
       clear vG;go_wp2_with fail
       refine wp_region_quiet_below (by kernel_rfl) (by kernel_rfl) ?_;repeat(go_big_quiet_step ((fail)))
       refine wpQuiet_nil ?_;intro w2 bq;have aL:Below (w1).heap.size (w1) w2:=by
        obtain⟨pq,rfl⟩:=bq;exact below_regrown _ _ _
       clear bq;go_wp2_with fail
       refine wp_region_quiet_below (by kernel_rfl) (by kernel_rfl) ?_;repeat(go_big_quiet_step ((fail)))
       refine wpQuiet_nil ?_;intro w3 bq;have dX:Below (w2).heap.size (w2) w3:=by
        obtain⟨pq,rfl⟩:=bq;exact below_regrown _ _ _
       clear bq;go_wp2;go_roundw;case rel=>exact⟨k+1,by omega,by go_num,iL.O,aH.trans ((aL.trans (dX.mono aL.size)).mono aH.size)⟩
       case measure=>simp[intOf];omega
      ·obtain⟨q,b',off',nQ,Em,cZ,N7,Wi⟩:=yK Hv.O wL (k-1) (by omega);cases cZ;have qW:=Qh (show mK l=if(q.k==x.k)then 8 else if Op.bytesLess x.k q.k then 14 else dW (some x) (l.drop (k+1)) by
        rw[bu.O,He.O,if_neg (by omega),if_neg vG,List.getElem?_eq_getElem (by omega),Em];rfl)
       have GL:decide (0<k)=true:=Qt (by omega);have hi:IntKind.i64.wrap ((k:Int)-1)=(k:Int)-1:=IntWalk.i64_in _ (by omega);have hj:0≤(k:Int)-1:=by omega
       have hm:((k:Int)-1).toNat=k-1:=by omega
       have GR:=cell_regrown vH;have PI:=cell_regrown N7;clear Em;cases he1:(x.k==q.k)
       ·have He1:=Qh (show(q.k==x.k)=false by rw[beq_eq_false_iff_ne]at he1 ⊢;exact fun h=>he1 h.symm);cases he2:Op.bytesLess x.k q.k
        ·have iL:=Qh (show dW (if k+1=0 then none else l[k+1-1]?) (l.drop (k+1))=dW none l by
          rw[←su.O,qW.O,He1.O,he2,Nat.add_sub_cancel,Qw.O];simp)
         go_wp2_with fail
         refine wp_region_quiet_below (by kernel_rfl) (by kernel_rfl) ?_;repeat(go_big_quiet_step ((fail)))
         refine wpQuiet_nil ?_;intro w2 bq;have aL:Below (w1).heap.size (w1) w2:=by
          obtain⟨pq,rfl⟩:=bq;exact below_regrown _ _ _
         clear bq;go_wp2_with fail
         have GR:=cell_regrown (bK aL vH);have PI:=cell_regrown (bK aL N7);refine wp_region_quiet_below (by kernel_rfl) (by kernel_rfl) ?_;repeat(go_big_quiet_step ((fail)))
         refine wpQuiet_nil ?_;intro w3 bq;have dX:Below (w2).heap.size (w2) w3:=by
          obtain⟨pq,rfl⟩:=bq;exact below_regrown _ _ _
         clear bq;go_wp2;go_roundw;case rel=>exact⟨k+1,by omega,by go_num,iL.O,aH.trans ((aL.trans (dX.mono aL.size)).mono aH.size)⟩
         case measure=>simp[intOf];omega
        ·have iL:=Qh (show mK l=14 by rw[qW.O,He1.O,he2];simp);go_wp2_with fail
         refine wp_region_quiet_below (by kernel_rfl) (by kernel_rfl) ?_;repeat(go_big_quiet_step ((fail)))
         refine wpQuiet_nil ?_;intro w2 bq;have aL:Below (w1).heap.size (w1) w2:=by
          obtain⟨pq,rfl⟩:=bq;exact below_regrown _ _ _
         clear bq;go_wp2_with fail
         have GR:=cell_regrown (bK aL vH);have PI:=cell_regrown (bK aL N7);refine wp_region_quiet_below (by kernel_rfl) (by kernel_rfl) ?_;repeat(go_big_quiet_step ((fail)))
         refine wpQuiet_nil ?_;intro w3 bq;have dX:Below (w2).heap.size (w2) w3:=by
          obtain⟨pq,rfl⟩:=bq;exact below_regrown _ _ _
         clear bq;go_wp2;go_ret;exact⟨di iL.O.symm,aH.trans ((aL.trans (dX.mono aL.size)).mono aH.size)⟩
       ·have iL:=Qh (show mK l=8 by rw[qW.O,if_pos (by rw[beq_iff_eq]at he1 ⊢;exact he1.symm)]);go_wp2_with fail
        refine wp_region_quiet_below (by kernel_rfl) (by kernel_rfl) ?_;repeat(go_big_quiet_step ((fail)))
        refine wpQuiet_nil ?_;intro w2 bq;have aL:Below (w1).heap.size (w1) w2:=by
         obtain⟨pq,rfl⟩:=bq;exact below_regrown _ _ _
        clear bq;go_wp2;go_ret;exact⟨di iL.O.symm,aH.trans (aL.mono aH.size)⟩
     ·have rR:decide (64<x.v.length)=true:=Qt (by omega);have He:=Qh (show mK l=6 by
       have:fQ x=6:=by rw[fQ,if_neg (by rw[UQ.O];simp),if_pos (by omega)]
       rw[bu.O,this];simp)
      go_wp2;go_ret;exact⟨di He.O.symm,aH⟩
   ·go_wp2;go_ret;refine⟨di ?_,hb⟩;rw[su.O,←Hr.O,List.drop_of_length_le (by omega)];rfl
 ·have hd:decide (16<l.length)=true:=Qt (by omega);go_enter Tryz.func120,Tryz.ntmps120
  go_wp2;go_ret;exact⟨di (by rw[mK,if_pos (by omega)]),Qb _ _⟩
theorem Xky(x:aT)(hx:x.target.length≤9223372036854775807)(va vx:Value)(w:World):
 Calls Tryz.prog 121 #[gN x va vx] w fun e w'=>e= .returned (.bool (bO x))∧Below w.heap.size w w':=by
 by_cases h3:x.au=3
 ·have f3:((x.au:Int)==3)=true:=by simpa using h3
  by_cases h1:1≤x.target.length;case neg=>
   have d1:decide (1≤x.target.length)=false:=Qf h1;have Ht:=Qh (show bO x=false by rw[bO,if_pos h3,d1];rfl);clear h3;go_enter Tryz.func121,Tryz.ntmps121
   go_wp2;go_ret;exact⟨ib Ht.O.symm,(Qb _ _).alloc (Qn _) _⟩
  have d1:decide (1≤x.target.length)=true:=Qt h1;have Ht:=Qh (show bO x=decide (x.target.length≤200) by rw[bO,if_pos h3,d1];rfl);clear h3;go_enter Tryz.func121,Tryz.ntmps121
  go_wp2;go_ret;exact⟨ib (by rw[Ht.O,decide_eq_decide];omega),(Qb _ _).alloc (Qn _) _⟩
 have f3:((x.au:Int)==3)=false:=by simpa using h3
 by_cases h5:x.au=5
 ·have f5:((x.au:Int)==5)=true:=by simpa using h5
  have Ht:=Qh (show bO x=(kW x.target).2 by rw[bO,if_neg h3,if_pos h5,Xur]);clear h3 h5;go_enter Tryz.func121,Tryz.ntmps121
  go_wp2_with fail
  refine(Xpe x.target hx _).mono ?_;rintro e w1 ⟨rfl,aD⟩;go_wp2;go_ret;exact⟨ib Ht.O.symm,((Qb _ _).alloc (Qn _) _).trans (aD.mono (by simp))⟩
 have f5:((x.au:Int)==5)=false:=by simpa using h5
 have Ht:=Qh (show bO x=x.target.isEmpty by rw[bO,if_neg h3,if_neg h5]);clear h3 h5;go_enter Tryz.func121,Tryz.ntmps121
 go_wp2;go_ret;exact⟨ib (by rw[Ht.O]),(Qb _ _).alloc (Qn _) _⟩
def EI(x:aT):Bool:=decide (300<x.ag.length) || decide (300<x.target.length) || decide (100<x.av.length) || decide (30<x.aA.length) || decide (LK x.aj=1)
def grE(x:aT):Int:=if EI x then 1 else 0
def qX(l:List Xt):Int:=l.foldl (fun n x=>wrap64 (n+x.n)) 0
theorem Xkq(l:List Xt)(x:Xt):qX (l++[x])=wrap64 (qX l+x.n):=by simp[qX,List.foldl_append]
def bf(e:aT):Int:=
 if e.au<1∨6<e.au then 10
 else if aO e.ag≠0 then aO e.ag
 else if e.ag=[]∧e.au<5 then 1
 else if mK e.aj≠0 then mK e.aj
 else if(e.aj≠[]∧3<e.au)∨bO e=false then 1
 else if e.size<0∨65536<e.size∨(e.au≠1∧e.size≠0)then 2
 else if(e.au=1∧e.av.length≠32)∨(e.au≠1∧e.av≠[])then 1
 else if bW (e.au==1) e.aA≠0 then bW (e.au==1) e.aA
 else if qX e.aA≠e.size then 1 else 0
theorem XA:∀(l:List Xt),bW true l=0→ ∀x∈l,dh x=false
 | [],_,_,h=>absurd h (by simp)
 |y::l,h,x,hx=>by
  rw[bW,if_neg (by simp)]at h;by_cases hb:dh y=true
  ·rw[if_pos hb]at h;omega
  ·rw[if_neg hb]at h;rcases List.mem_cons.1 hx with rfl|hx
   ·simpa using hb
   ·exact XA l h x hx
theorem XC{x:Xt}(h:dh x=false):1≤x.n∧x.n≤65536:=by
 unfold dh at h;simp only[Bool.or_eq_false_iff,decide_eq_false_iff_not]at h;omega
theorem XD(l:List Xt)(x:Xt):iI (l++[x])=iI l+x.n:=by simp[iI]
theorem Xnq:∀(n:Nat) (l:List Xt),l.length=n→(∀x∈l,dh x=false)→0≤iI l∧iI l≤65536*n:=by
 intro n;induction n with
 |zero=>
  intro l h _;have:l=[]:=List.eq_nil_of_length_eq_zero h;subst this;exact⟨Int.le_refl _,by decide⟩
 |succ n ih=>
  intro l h ha;have bn:l≠[]:=by intro e;rw[e]at h;simp at h
  have e:l=l.dropLast++[l.getLast bn]:=(List.dropLast_concat_getLast bn).symm;have hl:l.dropLast.length=n:=by rw[List.length_dropLast,h];omega
  obtain⟨i1,i2⟩:=ih _ hl fun x hx=>ha x (List.dropLast_subset _ hx);have hc:=XC (ha _ (List.getLast_mem bn));rw[e,XD];omega
theorem Xvo{l:List Xt}(hl:l.length≤1000000)(ha:∀x∈l,dh x=false):qX l=iI l:=by
 have key:∀k,k≤l.length→qX (l.take k)=iI (l.take k):=by
  intro k;induction k with
  |zero=>intro _;rfl
  |succ k ih=>
   intro hk;have e:l.take (k+1)=l.take k++[l[k]]:=List.take_succ_eq_append_getElem (by omega);have hb:=Xnq k (l.take k) (by rw[List.length_take];omega) fun x hx=>ha x (List.mem_of_mem_take hx);have hc:=XC (ha l[k] (List.getElem_mem _));rw[e,Xkq,XD,ih (by omega)];unfold wrap64;omega
 have:=key l.length (Qn _);rwa[List.take_length]at this
theorem Xi7(h:e.aA.length≤1000000):bf e=aP e:=by
 unfold bf aP;by_cases h8:bW (e.au==1) e.aA=0
 ·have:qX e.aA=iI e.aA:=by
   cases hk:(e.au==1)
   ·rw[hk]at h8;cases hx:e.aA with
    |nil=>rfl
    |cons y l=>rw[hx]at h8;simp[bW]at h8
   ·rw[hk]at h8;exact Xvo h (XA _ h8)
  rw[this]
 ·simp only[h8,ne_eq,not_false_eq_true,if_true]
structure bB (w:World) (n:Nat) (e:aT) (va vx:Value):Prop where
 c0:w.cell? ⟨n,0,none⟩=some (.int .i64 e.au)
 c1:w.cell? ⟨n,1,none⟩=some (S e.ag)
 c2:w.cell? ⟨n,2,none⟩=some va
 c3:w.cell? ⟨n,3,none⟩=some (S e.target)
 c4:w.cell? ⟨n,4,none⟩=some (.int .i64 e.size)
 c5:w.cell? ⟨n,5,none⟩=some (S e.av)
 c6:w.cell? ⟨n,6,none⟩=some vx
theorem bB.aQ(h:bB w n e va vx)(hb:Below w.heap.size w w'):bB w' n e va vx:=
 ⟨bK hb h.c0,bK hb h.c1,bK hb h.c2,bK hb h.c3,bK hb h.c4,bK hb h.c5,bK hb h.c6⟩
theorem bB.past(h:bB w n e va vx)(x:Obj):bB (w.alloc x) n e va vx:=
 ⟨kP x h.c0,kP x h.c1,kP x h.c2,kP x h.c3,kP x h.c4,kP x h.c5,kP x h.c6⟩
theorem dx{W:World}{t:TypeId}(hn:n=W.heap.size)(hb:Below (W.alloc (.cells #[.int .i64 e.au,S e.ag,va,S e.target,.int .i64 e.size,S e.av,vx] t)).heap.size (W.alloc (.cells #[.int .i64 e.au,S e.ag,va,S e.target,.int .i64 e.size,S e.av,vx] t)) w'):bB w' n e va vx:=by
 subst hn;exact bB.aQ ⟨by simp,by simp,by simp,by simp,by simp,by simp,by simp⟩ hb
