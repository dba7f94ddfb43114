/- Lemmas for the claim's theorem;conditions: as each says. -/
import Derived.Test.YtdodihnehppnmaaGreatDoorG02
set_option maxHeartbeats 0
set_option maxRecDepth 100000
set_option linter.all false
namespace Go.Proofs.YtdodihnehppnmaaGreatDoor
open Go.RowKit
variable{e:ay}{n:Nat}{va vx:Value}{w w':World}
theorem Xha(p:Option At)(x:At)(l:List At):dP p (x::l)=if fJ x≠0 then fJ x else if(p.any fun q=>q.k==x.k)then 8 else if(p.any fun q=>Op.bytesLess x.k q.k)then 14 else dP (some x) l:=rfl
theorem Xof(I:IH)(v:Value)(l:List At)(hv:bf kT I v l)(hl:∀x∈l,x.Wf)(w:World)(hw:Ok I w):
 Calls Tryz.prog 152 #[v] w fun e w'=>e= .returned (.int .i64 (mq l))∧Below w.heap.size w w':=by
 have hlen:=hv.dh;obtain⟨ao,cap,rfl,dD,il,_⟩:=id hv;have Hv:=Qh hv;clear hv;have Hl:=Qh hl;clear hl;by_cases h16:l.length≤16
 ·have hd:decide (16<l.length)=false:=Qf (by omega);have wD:=Qh (show mq l=dP none l by rw[mq,if_neg (by omega)]);go_enter Tryz.func152,Tryz.ntmps152
  go_wp2_with fail
  go_loopw [3] (fun s3 wr=> ∃k:Nat,k≤l.length∧s3= .int .i64 k∧dP (if k=0 then none else l[k-1]?) (l.drop k)=dP none l∧Below w.heap.size w wr) (fun i _=>l.length-(intOf i).toNat)
  case atStart=>exact⟨0,Nat.zero_le _,rfl,rfl,Qb _ _⟩
  case round=>
   obtain⟨k,hk,rfl,hr,hb⟩:=hrel;have Hr:=Qh hr;clear hr;by_cases hlt:k<l.length
   ·have dz:Ok I wr:=hw.below (Qn _) hb;obtain⟨x,b,off,cap',bN,di,mM,qX⟩:=uU Hv.O dz k hlt;cases di;have uS:x∈l:=by rw[←bN];exact List.getElem_mem hlt
    obtain⟨fP,eZ⟩:=Hl.O x uS;have bB:=Qh (show mq l=if fJ x≠0 then fJ x else if((if k=0 then none else l[k-1]?).any fun q=>q.k==x.k)then 8 else if((if k=0 then none else l[k-1]?).any fun q=>Op.bytesLess x.k q.k)then 14 else dP (some x) (l.drop (k+1)) by
     rw[wD.O,←Hr.O,List.drop_eq_getElem_cons hlt,bN,Xha])
    have IC:=Qh (show l[k]?=some x by rw[List.getElem?_eq_getElem hlt,bN]);clear bN uS;go_wp2_with fail
    refine(Xsw x.k fP _).mono ?_;rintro e w1 ⟨rfl,au⟩;have av:=hb.trans (au.mono hb.size);have mM:=dQ au mM;have qX:=dQ au qX;have uF:Ok I w1:=dz.below (Qn _) au;clear au;cases hko:kW x.k
    ·have SV:=Qh (show mq l=7 by rw[bB.O,if_pos (by rw[fJ,if_pos hko];omega),fJ,if_pos hko]);clear hko;go_wp2;go_ret;exact⟨bT SV.O.symm,av⟩
    ·have SV:=Qh hko;clear hko;by_cases h64:x.v.length≤64
     ·have oP:decide (64<x.v.length)=false:=Qf (by omega);have He:=Qh (show fJ x=0 by rw[fJ,if_neg (by rw[SV.O];simp),if_neg (by omega)]);by_cases qV:k=0
      ·have EI:decide (0<k)=false:=Qf (by omega);have gN:=Qh (show dP (if k+1=0 then none else l[k+1-1]?) (l.drop (k+1))=dP none l by
        rw[←wD.O,bB.O,He.O,if_neg (by omega),Nat.add_sub_cancel,IC.O];simp[qV])
       clear qV;go_wp2_with fail
       refine wp_region_quiet_below (by kernel_rfl) (by kernel_rfl) ?_;repeat(go_big_quiet_step ((fail)))
       refine wpQuiet_nil ?_;intro w2 bg;have aD:Below (w1).heap.size (w1) w2:=by
        obtain⟨pq,rfl⟩:=bg;exact below_regrown _ _ _
       clear bg;go_wp2_with fail
       refine wp_region_quiet_below (by kernel_rfl) (by kernel_rfl) ?_;repeat(go_big_quiet_step ((fail)))
       refine wpQuiet_nil ?_;intro w3 bg;have bU:Below (w2).heap.size (w2) w3:=by
        obtain⟨pq,rfl⟩:=bg;exact below_regrown _ _ _
       clear bg;go_wp2;go_roundw;case rel=>exact⟨k+1,by omega,by go_num,gN.O,av.trans ((aD.trans (bU.mono aD.size)).mono av.size)⟩
       case measure=>simp[intOf];omega
      ·obtain⟨q,b',off',tO,C8,di,Bf,hp1⟩:=uU Hv.O uF (k-1) (by omega);cases di;have rf:=Qh (show mq l=if(q.k==x.k)then 8 else if Op.bytesLess x.k q.k then 14 else dP (some x) (l.drop (k+1)) by
        rw[bB.O,He.O,if_neg (by omega),if_neg qV,List.getElem?_eq_getElem (by omega),C8];rfl)
       have EI:decide (0<k)=true:=Qt (by omega);have hi:IntKind.i64.wrap ((k:Int)-1)=(k:Int)-1:=IntWalk.i64_in _ (by omega);have hj:0≤(k:Int)-1:=by omega
       have hm:((k:Int)-1).toNat=k-1:=by omega
       have RI:=cell_regrown mM;have ZX:=cell_regrown Bf;clear C8;cases he1:(x.k==q.k)
       ·have He1:=Qh (show(q.k==x.k)=false by rw[beq_eq_false_iff_ne]at he1 ⊢;exact fun h=>he1 h.symm);cases he2:Op.bytesLess x.k q.k
        ·have gN:=Qh (show dP (if k+1=0 then none else l[k+1-1]?) (l.drop (k+1))=dP none l by
          rw[←wD.O,rf.O,He1.O,he2,Nat.add_sub_cancel,IC.O];simp)
         go_wp2_with fail
         refine wp_region_quiet_below (by kernel_rfl) (by kernel_rfl) ?_;repeat(go_big_quiet_step ((fail)))
         refine wpQuiet_nil ?_;intro w2 bg;have aD:Below (w1).heap.size (w1) w2:=by
          obtain⟨pq,rfl⟩:=bg;exact below_regrown _ _ _
         clear bg;go_wp2_with fail
         have RI:=cell_regrown (dQ aD mM);have ZX:=cell_regrown (dQ aD Bf);refine wp_region_quiet_below (by kernel_rfl) (by kernel_rfl) ?_;repeat(go_big_quiet_step ((fail)))
         refine wpQuiet_nil ?_;intro w3 bg;have bU:Below (w2).heap.size (w2) w3:=by
          obtain⟨pq,rfl⟩:=bg;exact below_regrown _ _ _
         clear bg;go_wp2;go_roundw;case rel=>exact⟨k+1,by omega,by go_num,gN.O,av.trans ((aD.trans (bU.mono aD.size)).mono av.size)⟩
         case measure=>simp[intOf];omega
        ·have gN:=Qh (show mq l=14 by rw[rf.O,He1.O,he2];simp);go_wp2_with fail
         refine wp_region_quiet_below (by kernel_rfl) (by kernel_rfl) ?_;repeat(go_big_quiet_step ((fail)))
         refine wpQuiet_nil ?_;intro w2 bg;have aD:Below (w1).heap.size (w1) w2:=by
          obtain⟨pq,rfl⟩:=bg;exact below_regrown _ _ _
         clear bg;go_wp2_with fail
         have RI:=cell_regrown (dQ aD mM);have ZX:=cell_regrown (dQ aD Bf);refine wp_region_quiet_below (by kernel_rfl) (by kernel_rfl) ?_;repeat(go_big_quiet_step ((fail)))
         refine wpQuiet_nil ?_;intro w3 bg;have bU:Below (w2).heap.size (w2) w3:=by
          obtain⟨pq,rfl⟩:=bg;exact below_regrown _ _ _
         clear bg;go_wp2;go_ret;exact⟨bT gN.O.symm,av.trans ((aD.trans (bU.mono aD.size)).mono av.size)⟩
       ·have gN:=Qh (show mq l=8 by rw[rf.O,if_pos (by rw[beq_iff_eq]at he1 ⊢;exact he1.symm)]);go_wp2_with fail
        refine wp_region_quiet_below (by kernel_rfl) (by kernel_rfl) ?_;repeat(go_big_quiet_step ((fail)))
        refine wpQuiet_nil ?_;intro w2 bg;have aD:Below (w1).heap.size (w1) w2:=by
         obtain⟨pq,rfl⟩:=bg;exact below_regrown _ _ _
        clear bg;go_wp2;go_ret;exact⟨bT gN.O.symm,av.trans (aD.mono av.size)⟩
     ·have oP:decide (64<x.v.length)=true:=Qt (by omega);have He:=Qh (show mq l=6 by
       have:fJ x=6:=by rw[fJ,if_neg (by rw[SV.O];simp),if_pos (by omega)]
       rw[bB.O,this];simp)
      go_wp2;go_ret;exact⟨bT He.O.symm,av⟩
   ·go_wp2;go_ret;refine⟨bT ?_,hb⟩;rw[wD.O,←Hr.O,List.drop_of_length_le (by omega)];rfl
 ·have hd:decide (16<l.length)=true:=Qt (by omega);go_enter Tryz.func152,Tryz.ntmps152
  go_wp2;go_ret;exact⟨bT (by rw[mq,if_pos (by omega)]),Qb _ _⟩
theorem Xl8(x:ay)(hx:x.target.length≤9223372036854775807)(va vx:Value)(w:World):
 Calls Tryz.prog 153 #[eT x va vx] w fun e w'=>e= .returned (.bool (bG x))∧Below w.heap.size w w':=by
 by_cases h3:x.ag=3
 ·have f3:((x.ag:Int)==3)=true:=by simpa using h3
  by_cases h1:1≤x.target.length;case neg=>
   have d1:decide (1≤x.target.length)=false:=Qf h1;have Ht:=Qh (show bG x=false by rw[bG,if_pos h3,d1];rfl);clear h3;go_enter Tryz.func153,Tryz.ntmps153
   go_wp2;go_ret;exact⟨gZ Ht.O.symm,(Qb _ _).alloc (Qn _) _⟩
  have d1:decide (1≤x.target.length)=true:=Qt h1;have Ht:=Qh (show bG x=decide (x.target.length≤200) by rw[bG,if_pos h3,d1];rfl);clear h3;go_enter Tryz.func153,Tryz.ntmps153
  go_wp2;go_ret;exact⟨gZ (by rw[Ht.O,decide_eq_decide];omega),(Qb _ _).alloc (Qn _) _⟩
 have f3:((x.ag:Int)==3)=false:=by simpa using h3
 by_cases h5:x.ag=5
 ·have f5:((x.ag:Int)==5)=true:=by simpa using h5
  have Ht:=Qh (show bG x=(kH x.target).2 by rw[bG,if_neg h3,if_pos h5,Xxn]);clear h3 h5;go_enter Tryz.func153,Tryz.ntmps153
  go_wp2_with fail
  refine(Xra x.target hx _).mono ?_;rintro e w1 ⟨rfl,au⟩;go_wp2;go_ret;exact⟨gZ Ht.O.symm,((Qb _ _).alloc (Qn _) _).trans (au.mono (by simp))⟩
 have f5:((x.ag:Int)==5)=false:=by simpa using h5
 have Ht:=Qh (show bG x=x.target.isEmpty by rw[bG,if_neg h3,if_neg h5]);clear h3 h5;go_enter Tryz.func153,Tryz.ntmps153
 go_wp2;go_ret;exact⟨gZ (by rw[Ht.O]),(Qb _ _).alloc (Qn _) _⟩
def fI(x:ay):Bool:=decide (300<x.af.length) || decide (300<x.target.length) || decide (100<x.aj.length) || decide (30<x.ak.length) || decide (l7 x.ai=1)
theorem Xm3(l:List At):l7 l=1∨l7 l=0:=by
 unfold l7;split
 ·exact .inl rfl
 ·split
  ·exact .inl rfl
  ·exact .inr rfl
def grE(x:ay):Int:=if fI x then 1 else 0
def qh(l:List Xt):Int:=l.foldl (fun n x=>wrap64 (n+x.n)) 0
theorem Xlw(l:List Xt)(x:Xt):qh (l++[x])=wrap64 (qh l+x.n):=by simp[qh,List.foldl_append]
def aX(e:ay):Int:=
 if e.ag<1∨6<e.ag then 10
 else if aF e.af≠0 then aF e.af
 else if e.af=[]∧e.ag<5 then 1
 else if mq e.ai≠0 then mq e.ai
 else if(e.ai≠[]∧3<e.ag)∨bG e=false then 1
 else if e.size<0∨65536<e.size∨(e.ag≠1∧e.size≠0)then 2
 else if(e.ag=1∧e.aj.length≠32)∨(e.ag≠1∧e.aj≠[])then 1
 else if bM (e.ag==1) e.ak≠0 then bM (e.ag==1) e.ak
 else if qh e.ak≠e.size then 1 else 0
theorem VN:∀(l:List Xt),bM true l=0→ ∀x∈l,cB x=false
 | [],_,_,h=>absurd h (by simp)
 |y::l,h,x,hx=>by
  rw[bM,if_neg (by simp)]at h;by_cases hb:cB y=true
  ·rw[if_pos hb]at h;omega
  ·rw[if_neg hb]at h;rcases List.mem_cons.1 hx with rfl|hx
   ·simpa using hb
   ·exact VN l h x hx
theorem VO{x:Xt}(h:cB x=false):1≤x.n∧x.n≤65536:=by
 unfold cB at h;simp only[Bool.or_eq_false_iff,decide_eq_false_iff_not]at h;omega
theorem VP(l:List Xt)(x:Xt):fV (l++[x])=fV l+x.n:=by simp[fV]
theorem Xpi:∀(n:Nat) (l:List Xt),l.length=n→(∀x∈l,cB x=false)→0≤fV l∧fV l≤65536*n:=by
 intro n;induction n with
 |zero=>
  intro l h _;have:l=[]:=List.eq_nil_of_length_eq_zero h;subst this;exact⟨Int.le_refl _,by decide⟩
 |succ n ih=>
  intro l h ha;have cK:l≠[]:=by intro e;rw[e]at h;simp at h
  have e:l=l.dropLast++[l.getLast cK]:=(List.dropLast_concat_getLast cK).symm;have hl:l.dropLast.length=n:=by rw[List.length_dropLast,h];omega
  obtain⟨i1,i2⟩:=ih _ hl fun x hx=>ha x (List.dropLast_subset _ hx);have hc:=VO (ha _ (List.getLast_mem cK));rw[e,VP];omega
theorem Xyd{l:List Xt}(hl:l.length≤1000000)(ha:∀x∈l,cB x=false):qh l=fV l:=by
 have key:∀k,k≤l.length→qh (l.take k)=fV (l.take k):=by
  intro k;induction k with
  |zero=>intro _;rfl
  |succ k ih=>
   intro hk;have e:l.take (k+1)=l.take k++[l[k]]:=List.take_succ_eq_append_getElem (by omega);have hb:=Xpi k (l.take k) (by rw[List.length_take];omega) fun x hx=>ha x (List.mem_of_mem_take hx);have hc:=VO (ha l[k] (List.getElem_mem _));rw[e,Xlw,VP,ih (by omega)];unfold wrap64;omega
 have:=key l.length (Qn _);rwa[List.take_length]at this
theorem OM(h:e.ak.length≤1000000):aX e=az e:=by
 unfold aX az;by_cases h8:bM (e.ag==1) e.ak=0
 ·have:qh e.ak=fV e.ak:=by
   cases hk:(e.ag==1)
   ·rw[hk]at h8;cases hx:e.ak with
    |nil=>rfl
    |cons y l=>rw[hx]at h8;simp[bM]at h8
   ·rw[hk]at h8;exact Xyd h (VN _ h8)
  rw[this]
 ·simp only[h8,ne_eq,not_false_eq_true,if_true]
structure aW (w:World) (n:Nat) (e:ay) (va vx:Value):Prop where
 c0:w.cell? ⟨n,0,none⟩=some (.int .i64 e.ag)
 c1:w.cell? ⟨n,1,none⟩=some (S e.af)
 c2:w.cell? ⟨n,2,none⟩=some va
 c3:w.cell? ⟨n,3,none⟩=some (S e.target)
 c4:w.cell? ⟨n,4,none⟩=some (.int .i64 e.size)
 c5:w.cell? ⟨n,5,none⟩=some (S e.aj)
 c6:w.cell? ⟨n,6,none⟩=some vx
theorem aW.aA(h:aW w n e va vx)(hb:Below w.heap.size w w'):aW w' n e va vx:=
 ⟨dQ hb h.c0,dQ hb h.c1,dQ hb h.c2,dQ hb h.c3,dQ hb h.c4,dQ hb h.c5,dQ hb h.c6⟩
theorem aW.past(h:aW w n e va vx)(x:Obj):aW (w.alloc x) n e va vx:=
 ⟨gD x h.c0,gD x h.c1,gD x h.c2,gD x h.c3,gD x h.c4,gD x h.c5,gD x h.c6⟩
theorem bS{W:World}{t:TypeId}(hn:n=W.heap.size)(hb:Below (W.alloc (.cells #[.int .i64 e.ag,S e.af,va,S e.target,.int .i64 e.size,S e.aj,vx] t)).heap.size (W.alloc (.cells #[.int .i64 e.ag,S e.af,va,S e.target,.int .i64 e.size,S e.aj,vx] t)) w'):aW w' n e va vx:=by
 subst hn;exact aW.aA ⟨by simp,by simp,by simp,by simp,by simp,by simp,by simp⟩ hb
