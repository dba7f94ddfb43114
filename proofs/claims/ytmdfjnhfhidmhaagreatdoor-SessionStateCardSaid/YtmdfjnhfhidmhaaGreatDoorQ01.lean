/- Lemmas for the claim's theorem;conditions: as each says. -/
import Derived.Test.YtmdfjnhfhidmhaaGreatDoorQ00
set_option maxHeartbeats 0
set_option maxRecDepth 100000
set_option linter.all false
namespace Go.Proofs.YtmdfjnhfhidmhaaGreatDoor
open Go.RowKit
def fU(k:Int):af:=if k=1 then [102,105,108,101]else if k=2 then [100,105,114]else if k=3 then [108,105,110,107]else if k=4 then [114,101,109,111,118,101]else if k=5 then [104,111,108,100]else if k=6 then [114,101,108,101,97,115,101]else []
def jW(c:UInt8):Bool:=decide (48≤c)&&decide (c≤57)
theorem VI(c:UInt8):jW c=(decide (48≤c.toNat)&&decide (c.toNat≤57)):=by
 unfold jW;simp[UInt8.le_iff_toNat_le]
def VJ(s:af):Int×Bool:=if s.length<1∨10<s.length∨(1<s.length∧s.head?=some 48)∨s.all jW=false then(0,false)else(digits s,decide (digits s≤1000000000))
def PL(x:At):Bool:=decide (100<x.k.length) || decide (100<x.v.length)
def Et(l:List At):Int:=if 30<l.length then 1 else if l.any PL then 1 else 0
theorem Xl3(a b:At)(W:World):(binOp .neq 107 (.agg #[S a.k,S a.v]) (.agg #[S b.k,S b.v])).run Tryz.prog W= .ok (.bool (!decide (a=b))) W:=by
 rw[Pv _ _ [(9,0,false),(9,1,false)] W (by kernel_rfl) (by kernel_rfl) (by kernel_rfl)];obtain⟨a1,a2⟩:=a;obtain⟨b1,b2⟩:=b;simp[go_sem];by_cases h1:a1=b1<;>by_cases h2:a2=b2<;>simp[h1,h2]
theorem Xl7(I:IH)(v1 v2:Value)(l1 l2:List At)(vg:aY lv I v1 l1)(yN:aY lv I v2 l2)(w:World)(hw:Ok I w):
 Calls Tryz.prog 96 #[v1,v2] w fun e w'=>e= .returned (.bool (decide (l1=l2)))∧Below w.heap.size w w':=by
 have hlen:=vg.bK;have Da:=yN.bK;obtain⟨ao,cap,rfl,dM,gV,_⟩:=id vg;obtain⟨vC,cap2,rfl,xn,uN,_⟩:=id yN;have Hv1:=Qh vg;clear vg;have Hv2:=Qh yN;clear yN;by_cases Ag:l1.length=l2.length
 ·have hn:((l1.length:Int) !=(l2.length:Int))=false:=by rw[Ag];simp
  have Db:=Qh Ag;clear Ag;go_enter Tryz.func96,Tryz.ntmps96
  go_wp2;go_loopw [5] (fun s5 wr=> ∃k:Nat,k≤l1.length∧s5= .int .i64 k∧l1.take k=l2.take k∧Below w.heap.size w wr) (fun i _=>l1.length-(intOf i).toNat)
  case atStart=>exact⟨0,Nat.zero_le _,rfl,rfl,Qb _ _⟩
  case round=>
   obtain⟨k,hk,rfl,hr,hb⟩:=hrel;have Hr:=Qh hr;clear hr;by_cases hlt:k<l1.length
   ·have kK:k<l2.length:=by rw[←Db.q];exact hlt
    have gZ:Ok I wr:=hw.below (Qn _) hb;obtain⟨p,b,off,cap',hp,dC,UB,hp1⟩:=xE Hv1.q gZ k hlt;cases dC;obtain⟨q,b',off',wF,hq,dC,UC,nI⟩:=xE Hv2.q gZ k kK;cases dC;have Hp:=Qh hp;clear hp;have Hq:=Qh hq;clear hq;have O3:=cell_regrown UB;have Ah:=cell_regrown hp1;have hy0:=cell_regrown UC;have hy1:=cell_regrown nI;have uO:=Xl3 p q;by_cases qJ:p=q
    ·rw[Qt qJ]at uO;go_wp2_with fail
     refine wp_region_quiet_below (by kernel_rfl) (by kernel_rfl) ?_;repeat(go_big_quiet_step ((fail)))
     refine wpQuiet_nil ?_;intro w2 dD;have aP:Below (wr).heap.size (wr) w2:=by
      obtain⟨pq,rfl⟩:=dD;exact below_regrown _ _ _
     clear dD;go_wp2;go_roundw;case rel=>exact⟨k+1,by omega,by go_num,by rw[List.take_succ_eq_append_getElem hlt,List.take_succ_eq_append_getElem kK,Hr.q,Hp.q,Hq.q,qJ],hb.trans (aP.mono hb.size)⟩
     case measure=>simp[intOf];omega
    ·rw[Qf qJ]at uO;go_wp2_with fail
     refine wp_region_quiet_below (by kernel_rfl) (by kernel_rfl) ?_;repeat(go_big_quiet_step ((fail)))
     refine wpQuiet_nil ?_;intro w2 dD;have aP:Below (wr).heap.size (wr) w2:=by
      obtain⟨pq,rfl⟩:=dD;exact below_regrown _ _ _
     clear dD;go_wp2;go_ret;refine⟨iG ?_,hb.trans (aP.mono hb.size)⟩;symm;rw[decide_eq_false_iff_not];intro h;apply qJ;rw[←Hp.q,←Hq.q];simp[h]
   ·go_wp2;go_ret;refine⟨iG ?_,hb⟩;symm;rw[decide_eq_true_iff];have:=Hr.q;rwa[List.take_of_length_le (by omega),List.take_of_length_le (by rw[←Db.q];omega)]at this
 ·have hn:((l1.length:Int) !=(l2.length:Int))=true:=by rw[bne_iff_ne];omega
  go_enter Tryz.func96,Tryz.ntmps96
  go_wp2;go_ret;exact⟨iG (by simp;intro h;exact Ag (by rw[h])),Qb _ _⟩

theorem Xji(p:Option At)(x:At)(l:List At):eG p (x::l)=if fQ x≠0 then fQ x else if(p.any fun q=>q.k==x.k)then 8 else if(p.any fun q=>Op.bytesLess x.k q.k)then 14 else eG (some x) l:=rfl
