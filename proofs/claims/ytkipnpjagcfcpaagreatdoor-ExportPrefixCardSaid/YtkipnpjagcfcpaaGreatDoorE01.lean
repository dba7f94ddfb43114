/- Lemmas for the claim's theorem;conditions: as each says. -/
import Derived.Test.YtkipnpjagcfcpaaGreatDoorE00
set_option maxHeartbeats 0
set_option maxRecDepth 100000
set_option linter.all false
namespace Go.Proofs.YtkipnpjagcfcpaaGreatDoor
open Go.RowKit
variable{e:aG}{va vx:Value}{w w':World}{n:Nat}{l p d:ae}
theorem Xhc(p:Option At)(x:At)(l:List At):dR p (x::l)=if gq x≠0 then gq x else if(p.any fun q=>q.k==x.k)then 8 else if(p.any fun q=>Op.bytesLess x.k q.k)then 14 else dR (some x) l:=rfl
theorem Xn6(I:IH)(v:Value)(l:List At)(hv:bf lT I v l)(hl:∀x∈l,x.Wf)(w:World)(hw:Ok I w):
 Calls Tryz.prog 116 #[v] w fun e w'=>e= .returned (.int .i64 (mQ l))∧Below w.heap.size w w':=by
 have hlen:=hv.bW;obtain⟨ao,cap,rfl,dO,iR,_⟩:=id hv;have Hv:=Qh hv;clear hv;have Hl:=Qh hl;clear hl;by_cases h16:l.length≤16
 ·have hd:decide (16<l.length)=false:=Qf (by omega);have wP:=Qh (show mQ l=dR none l by rw[mQ,if_neg (by omega)]);go_enter Tryz.func116,Tryz.ntmps116
  go_wp2_with fail
  go_loopw [3] (fun s3 wr=> ∃k:Nat,k≤l.length∧s3= .int .i64 k∧dR (if k=0 then none else l[k-1]?) (l.drop k)=dR none l∧Below w.heap.size w wr) (fun i _=>l.length-(intOf i).toNat)
  case atStart=>exact⟨0,Nat.zero_le _,rfl,rfl,Qb _ _⟩
  case round=>
   obtain⟨k,hk,rfl,hr,hb⟩:=hrel;have Hr:=Qh hr;clear hr;by_cases hlt:k<l.length
   ·have dA:Ok I wr:=hw.below (Qn _) hb;obtain⟨x,b,off,cap',bH,dn,nk,qW⟩:=zL Hv.O dA k hlt;cases dn;have qY:x∈l:=by rw[←bH];exact List.getElem_mem hlt
    obtain⟨gK,fM⟩:=Hl.O x qY;have bB:=Qh (show mQ l=if gq x≠0 then gq x else if((if k=0 then none else l[k-1]?).any fun q=>q.k==x.k)then 8 else if((if k=0 then none else l[k-1]?).any fun q=>Op.bytesLess x.k q.k)then 14 else dR (some x) (l.drop (k+1)) by
     rw[wP.O,←Hr.O,List.drop_eq_getElem_cons hlt,bH,Xhc])
    have Jn:=Qh (show l[k]?=some x by rw[List.getElem?_eq_getElem hlt,bH]);clear bH qY;go_wp2_with fail
    refine(Xr9 x.k gK _).mono ?_;rintro e w1 ⟨rfl,au⟩;have av:=hb.trans (au.mono hb.size);have nk:=dh au nk;have qW:=dh au qW;have uN:Ok I w1:=dA.below (Qn _) au;clear au;cases hko:lu x.k
    ·have TI:=Qh (show mQ l=7 by rw[bB.O,if_pos (by rw[gq,if_pos hko];omega),gq,if_pos hko]);clear hko;go_wp2;go_ret;exact⟨bP TI.O.symm,av⟩
    ·have TI:=Qh hko;clear hko;by_cases h64:x.v.length≤64
     ·have pg:decide (64<x.v.length)=false:=Qf (by omega);have He:=Qh (show gq x=0 by rw[gq,if_neg (by rw[TI.O];simp),if_neg (by omega)]);by_cases rM:k=0
      ·have Fp:decide (0<k)=false:=Qf (by omega);have iD:=Qh (show dR (if k+1=0 then none else l[k+1-1]?) (l.drop (k+1))=dR none l by
        rw[←wP.O,bB.O,He.O,if_neg (by omega),Nat.add_sub_cancel,Jn.O];simp[rM])
       clear rM;go_wp2_with fail
       refine wp_region_quiet_below (by kernel_rfl) (by kernel_rfl) ?_;repeat(go_big_quiet_step ((fail)))
       refine wpQuiet_nil ?_;intro w2 bg;have aF:Below (w1).heap.size (w1) w2:=by
        obtain⟨pq,rfl⟩:=bg;exact below_regrown _ _ _
       clear bg;go_wp2_with fail
       refine wp_region_quiet_below (by kernel_rfl) (by kernel_rfl) ?_;repeat(go_big_quiet_step ((fail)))
       refine wpQuiet_nil ?_;intro w3 bg;have cO:Below (w2).heap.size (w2) w3:=by
        obtain⟨pq,rfl⟩:=bg;exact below_regrown _ _ _
       clear bg;go_wp2;go_roundw;case rel=>exact⟨k+1,by omega,by go_num,iD.O,av.trans ((aF.trans (cO.mono aF.size)).mono av.size)⟩
       case measure=>simp[intOf];omega
      ·obtain⟨q,b',off',yj,Dt,dn,BG,hp1⟩:=zL Hv.O uN (k-1) (by omega);cases dn;have iy:=Qh (show mQ l=if(q.k==x.k)then 8 else if Op.bytesLess x.k q.k then 14 else dR (some x) (l.drop (k+1)) by
        rw[bB.O,He.O,if_neg (by omega),if_neg rM,List.getElem?_eq_getElem (by omega),Dt];rfl)
       have Fp:decide (0<k)=true:=Qt (by omega);have hi:IntKind.i64.wrap ((k:Int)-1)=(k:Int)-1:=IntWalk.i64_in _ (by omega);have hj:0≤(k:Int)-1:=by omega
       have hm:((k:Int)-1).toNat=k-1:=by omega
       have Sr:=cell_regrown nk;have hq0:=cell_regrown BG;clear Dt;cases he1:(x.k==q.k)
       ·have He1:=Qh (show(q.k==x.k)=false by rw[beq_eq_false_iff_ne]at he1 ⊢;exact fun h=>he1 h.symm);cases he2:Op.bytesLess x.k q.k
        ·have iD:=Qh (show dR (if k+1=0 then none else l[k+1-1]?) (l.drop (k+1))=dR none l by
          rw[←wP.O,iy.O,He1.O,he2,Nat.add_sub_cancel,Jn.O];simp)
         go_wp2_with fail
         refine wp_region_quiet_below (by kernel_rfl) (by kernel_rfl) ?_;repeat(go_big_quiet_step ((fail)))
         refine wpQuiet_nil ?_;intro w2 bg;have aF:Below (w1).heap.size (w1) w2:=by
          obtain⟨pq,rfl⟩:=bg;exact below_regrown _ _ _
         clear bg;go_wp2_with fail
         have Sr:=cell_regrown (dh aF nk);have hq0:=cell_regrown (dh aF BG);refine wp_region_quiet_below (by kernel_rfl) (by kernel_rfl) ?_;repeat(go_big_quiet_step ((fail)))
         refine wpQuiet_nil ?_;intro w3 bg;have cO:Below (w2).heap.size (w2) w3:=by
          obtain⟨pq,rfl⟩:=bg;exact below_regrown _ _ _
         clear bg;go_wp2;go_roundw;case rel=>exact⟨k+1,by omega,by go_num,iD.O,av.trans ((aF.trans (cO.mono aF.size)).mono av.size)⟩
         case measure=>simp[intOf];omega
        ·have iD:=Qh (show mQ l=14 by rw[iy.O,He1.O,he2];simp);go_wp2_with fail
         refine wp_region_quiet_below (by kernel_rfl) (by kernel_rfl) ?_;repeat(go_big_quiet_step ((fail)))
         refine wpQuiet_nil ?_;intro w2 bg;have aF:Below (w1).heap.size (w1) w2:=by
          obtain⟨pq,rfl⟩:=bg;exact below_regrown _ _ _
         clear bg;go_wp2_with fail
         have Sr:=cell_regrown (dh aF nk);have hq0:=cell_regrown (dh aF BG);refine wp_region_quiet_below (by kernel_rfl) (by kernel_rfl) ?_;repeat(go_big_quiet_step ((fail)))
         refine wpQuiet_nil ?_;intro w3 bg;have cO:Below (w2).heap.size (w2) w3:=by
          obtain⟨pq,rfl⟩:=bg;exact below_regrown _ _ _
         clear bg;go_wp2;go_ret;exact⟨bP iD.O.symm,av.trans ((aF.trans (cO.mono aF.size)).mono av.size)⟩
       ·have iD:=Qh (show mQ l=8 by rw[iy.O,if_pos (by rw[beq_iff_eq]at he1 ⊢;exact he1.symm)]);go_wp2_with fail
        refine wp_region_quiet_below (by kernel_rfl) (by kernel_rfl) ?_;repeat(go_big_quiet_step ((fail)))
        refine wpQuiet_nil ?_;intro w2 bg;have aF:Below (w1).heap.size (w1) w2:=by
         obtain⟨pq,rfl⟩:=bg;exact below_regrown _ _ _
        clear bg;go_wp2;go_ret;exact⟨bP iD.O.symm,av.trans (aF.mono av.size)⟩
     ·have pg:decide (64<x.v.length)=true:=Qt (by omega);have He:=Qh (show mQ l=6 by
       have:gq x=6:=by rw[gq,if_neg (by rw[TI.O];simp),if_pos (by omega)]
       rw[bB.O,this];simp)
      go_wp2;go_ret;exact⟨bP He.O.symm,av⟩
   ·go_wp2;go_ret;refine⟨bP ?_,hb⟩;rw[wP.O,←Hr.O,List.drop_of_length_le (by omega)];rfl
 ·have hd:decide (16<l.length)=true:=Qt (by omega);go_enter Tryz.func116,Tryz.ntmps116
  go_wp2;go_ret;exact⟨bP (by rw[mQ,if_pos (by omega)]),Qb _ _⟩
theorem Xls(x:aG)(hx:x.target.length≤9223372036854775807)(va vx:Value)(w:World):
 Calls Tryz.prog 117 #[fB x va vx] w fun e w'=>e= .returned (.bool (bJ x))∧Below w.heap.size w w':=by
 by_cases h3:x.ai=3
 ·have f3:((x.ai:Int)==3)=true:=by simpa using h3
  by_cases h1:1≤x.target.length;case neg=>
   have d1:decide (1≤x.target.length)=false:=Qf h1;have Ht:=Qh (show bJ x=false by rw[bJ,if_pos h3,d1];rfl);clear h3;go_enter Tryz.func117,Tryz.ntmps117
   go_wp2;go_ret;exact⟨iW Ht.O.symm,(Qb _ _).alloc (Qn _) _⟩
  have d1:decide (1≤x.target.length)=true:=Qt h1;have Ht:=Qh (show bJ x=decide (x.target.length≤200) by rw[bJ,if_pos h3,d1];rfl);clear h3;go_enter Tryz.func117,Tryz.ntmps117
  go_wp2;go_ret;exact⟨iW (by rw[Ht.O,decide_eq_decide];omega),(Qb _ _).alloc (Qn _) _⟩
 have f3:((x.ai:Int)==3)=false:=by simpa using h3
 by_cases h5:x.ai=5
 ·have f5:((x.ai:Int)==5)=true:=by simpa using h5
  have Ht:=Qh (show bJ x=(kR x.target).2 by rw[bJ,if_neg h3,if_pos h5,Xwe]);clear h3 h5;go_enter Tryz.func117,Tryz.ntmps117
  go_wp2_with fail
  refine(Xqu x.target hx _).mono ?_;rintro e w1 ⟨rfl,au⟩;go_wp2;go_ret;exact⟨iW Ht.O.symm,((Qb _ _).alloc (Qn _) _).trans (au.mono (by simp))⟩
 have f5:((x.ai:Int)==5)=false:=by simpa using h5
 have Ht:=Qh (show bJ x=x.target.isEmpty by rw[bJ,if_neg h3,if_neg h5]);clear h3 h5;go_enter Tryz.func117,Tryz.ntmps117
 go_wp2;go_ret;exact⟨iW (by rw[Ht.O]),(Qb _ _).alloc (Qn _) _⟩
def fV(x:aG):Bool:=decide (300<x.af.length) || decide (300<x.target.length) || decide (100<x.aj.length) || decide (30<x.ak.length) || decide (mF x.ag=1)
theorem Xmo(l:List At):mF l=1∨mF l=0:=by
 unfold mF;split
 ·exact .inl rfl
 ·split
  ·exact .inl rfl
  ·exact .inr rfl
def grE(x:aG):Int:=if fV x then 1 else 0
def qm(l:List Xt):Int:=l.foldl (fun n x=>wrap64 (n+x.n)) 0
theorem Xlk(l:List Xt)(x:Xt):qm (l++[x])=wrap64 (qm l+x.n):=by simp[qm,List.foldl_append]
def aX(e:aG):Int:=
 if e.ai<1∨6<e.ai then 10
 else if aJ e.af≠0 then aJ e.af
 else if e.af=[]∧e.ai<5 then 1
 else if mQ e.ag≠0 then mQ e.ag
 else if(e.ag≠[]∧3<e.ai)∨bJ e=false then 1
 else if e.size<0∨65536<e.size∨(e.ai≠1∧e.size≠0)then 2
 else if(e.ai=1∧e.aj.length≠32)∨(e.ai≠1∧e.aj≠[])then 1
 else if bK (e.ai==1) e.ak≠0 then bK (e.ai==1) e.ak
 else if qm e.ak≠e.size then 1 else 0
theorem Wi:∀(l:List Xt),bK true l=0→ ∀x∈l,bX x=false
 | [],_,_,h=>absurd h (by simp)
 |y::l,h,x,hx=>by
  rw[bK,if_neg (by simp)]at h;by_cases hb:bX y=true
  ·rw[if_pos hb]at h;omega
  ·rw[if_neg hb]at h;rcases List.mem_cons.1 hx with rfl|hx
   ·simpa using hb
   ·exact Wi l h x hx
theorem Wj{x:Xt}(h:bX x=false):1≤x.n∧x.n≤65536:=by
 unfold bX at h;simp only[Bool.or_eq_false_iff,decide_eq_false_iff_not]at h;omega
theorem Wl(l:List Xt)(x:Xt):fH (l++[x])=fH l+x.n:=by simp[fH]
theorem Xo6:∀(n:Nat) (l:List Xt),l.length=n→(∀x∈l,bX x=false)→0≤fH l∧fH l≤65536*n:=by
 intro n;induction n with
 |zero=>
  intro l h _;have:l=[]:=List.eq_nil_of_length_eq_zero h;subst this;exact⟨Int.le_refl _,by decide⟩
 |succ n ih=>
  intro l h ha;have bZ:l≠[]:=by intro e;rw[e]at h;simp at h
  have e:l=l.dropLast++[l.getLast bZ]:=(List.dropLast_concat_getLast bZ).symm;have hl:l.dropLast.length=n:=by rw[List.length_dropLast,h];omega
  obtain⟨i1,i2⟩:=ih _ hl fun x hx=>ha x (List.dropLast_subset _ hx);have hc:=Wj (ha _ (List.getLast_mem bZ));rw[e,Wl];omega
theorem Xw6{l:List Xt}(hl:l.length≤1000000)(ha:∀x∈l,bX x=false):qm l=fH l:=by
 have key:∀k,k≤l.length→qm (l.take k)=fH (l.take k):=by
  intro k;induction k with
  |zero=>intro _;rfl
  |succ k ih=>
   intro hk;have e:l.take (k+1)=l.take k++[l[k]]:=List.take_succ_eq_append_getElem (by omega);have hb:=Xo6 k (l.take k) (by rw[List.length_take];omega) fun x hx=>ha x (List.mem_of_mem_take hx);have hc:=Wj (ha l[k] (List.getElem_mem _));rw[e,Xlk,Wl,ih (by omega)];unfold wrap64;omega
 have:=key l.length (Qn _);rwa[List.take_length]at this
theorem NA(h:e.ak.length≤1000000):aX e=az e:=by
 unfold aX az;by_cases h8:bK (e.ai==1) e.ak=0
 ·have:qm e.ak=fH e.ak:=by
   cases hk:(e.ai==1)
   ·rw[hk]at h8;cases hx:e.ak with
    |nil=>rfl
    |cons y l=>rw[hx]at h8;simp[bK]at h8
   ·rw[hk]at h8;exact Xw6 h (Wi _ h8)
  rw[this]
 ·simp only[h8,ne_eq,not_false_eq_true,if_true]
structure bn (w:World) (n:Nat) (e:aG) (va vx:Value):Prop where
 c0:w.cell? ⟨n,0,none⟩=some (.int .i64 e.ai)
 c1:w.cell? ⟨n,1,none⟩=some (S e.af)
 c2:w.cell? ⟨n,2,none⟩=some va
 c3:w.cell? ⟨n,3,none⟩=some (S e.target)
 c4:w.cell? ⟨n,4,none⟩=some (.int .i64 e.size)
 c5:w.cell? ⟨n,5,none⟩=some (S e.aj)
 c6:w.cell? ⟨n,6,none⟩=some vx
theorem bn.aA(h:bn w n e va vx)(hb:Below w.heap.size w w'):bn w' n e va vx:=
 ⟨dh hb h.c0,dh hb h.c1,dh hb h.c2,dh hb h.c3,dh hb h.c4,dh hb h.c5,dh hb h.c6⟩
theorem bn.past(h:bn w n e va vx)(x:Obj):bn (w.alloc x) n e va vx:=
 ⟨fP x h.c0,fP x h.c1,fP x h.c2,fP x h.c3,fP x h.c4,fP x h.c5,fP x h.c6⟩
theorem cB{W:World}{t:TypeId}(hn:n=W.heap.size)(hb:Below (W.alloc (.cells #[.int .i64 e.ai,S e.af,va,S e.target,.int .i64 e.size,S e.aj,vx] t)).heap.size (W.alloc (.cells #[.int .i64 e.ai,S e.af,va,S e.target,.int .i64 e.size,S e.aj,vx] t)) w'):bn w' n e va vx:=by
 subst hn;exact bn.aA ⟨by simp,by simp,by simp,by simp,by simp,by simp,by simp⟩ hb
theorem Bc(h:l≠[]):(l==[])=false∧l.isEmpty=false∧(!l.isEmpty)=true∧(l !=[])=true:=by
 cases l with
 |nil=>exact absurd rfl h
 |cons a l=>exact⟨rfl,rfl,rfl,rfl⟩
theorem De(h:l=[]):(l==[])=true∧l.isEmpty=true∧(!l.isEmpty)=false∧(l !=[])=false:=by
 subst h;exact⟨rfl,rfl,rfl,rfl⟩
theorem NB(x:Xt)(l:List Xt):bK true (x::l)=if bX x then 2 else bK true l:=rfl
theorem NC(I:IH)(x:aG)(va vx:Value)(eP:bf lT I va x.ag)(eT:bf mr I vx x.ak)(jh:x.Wf)(w:World)(hw:Ok I w):
 Calls Tryz.prog 65 #[fB x va vx] w fun e w'=>e= .returned (.int .i64 (aX x))∧Below w.heap.size w w':=by
 have bH:=eT.bW;have Su:=eP.bW;obtain⟨ao,cap,rfl,dO,iR,_⟩:=id eT;obtain⟨xQ,cap2,rfl,wH,vM,_⟩:=id eP;have tT:=Qh eT;have zu:=Qh eP;clear eT eP;have Ky:=Qh (fun w=>Xjs x.ai w);have yo:=Qh (fun w hw=>Tn I x.af w hw);have Ph:=Qh (fun w hw=>Xn6 I _ x.ag zu.O jh.ag w hw);have Kz:=Qh (fun w=>Xls x jh.target (.slice xQ x.ag.length cap2) (.slice ao x.ak.length cap) w);have mq:=jh.s0;have pG:=jh.s1;have hp1:=jh.af;have ll:=jh.aj;have uV:=Qh jh.ak;clear jh;have zH:=vR (k:=x.ai);by_cases hk:x.ai<1∨6<x.ai;case pos=>
  have Hn:=Qh (show aX x=10 by rw[aX,if_pos hk]);rw[zH.2 hk]at Ky;clear zH hk;go_enter Tryz.func65,Tryz.ntmps65
  go_wp2_with fail
  refine(Ky.O _).mono ?_;rintro e w1 ⟨rfl,rfl⟩;go_wp2;go_ret;exact⟨bP Hn.O.symm,(Qb _ _).alloc (Qn _) _⟩
 have He:=Qh (show aX x=_ by rw[aX,if_neg hk]);obtain⟨nm,Sv⟩:∃s,bO x.ai=s:=⟨_,rfl⟩;have hnz:nm≠[]:=fun e=>hk (zH.1 (by rw[Sv,e]));rw[Sv]at Ky;have n1:(nm==[])=false:=by simpa using hnz
 have n2:nm.isEmpty=false:=by cases nm<;>simp_all
 have n3:(!nm.isEmpty)=true:=by rw[n2];rfl
 clear zH Sv hnz;by_cases CQ:aJ x.af=0;case neg=>
  obtain⟨q,hq⟩:∃q,aJ x.af=q:=⟨_,rfl⟩;have hn:(q !=0)=true:=by rw[←hq];simpa using CQ
  have Hn:=Qh (show aX x=q by rw[He.O,if_pos CQ,hq]);rw[hq]at yo;clear hq CQ;go_enter Tryz.func65,Tryz.ntmps65
  go_wp2_with fail
  refine(Ky.O _).mono ?_;rintro e w0 ⟨rfl,rfl⟩;go_wp2_with fail
  refine(yo.O _ (hw.alloc _)).mono ?_;rintro e w1 ⟨rfl,au⟩;have av:Below w.heap.size w w1:=((Qb _ _).alloc (Qn _) _).trans (au.mono (by simp));have bY:w.heap.size<w1.heap.size:=by have:=au.size;simp at this;omega
  have aD:Ok I w1:=(hw.alloc _).below (Qn _) au;obtain⟨c0,c1,c2,c3,c4,c5,c6⟩:=cB rfl au;clear au;go_wp2;go_ret;exact⟨bP Hn.O.symm,av⟩
 replace He:=Qh (show aX x=_ by rw[He.O,if_neg (show ¬aJ x.af≠0 by omega)]);rw[CQ]at yo;clear CQ;by_cases yt:x.af=[]∧x.ai<5;case pos=>
  have Hn:=Qh (show aX x=1 by rw[He.O,if_pos yt]);have p1:(x.af==[])=true:=by rw[yt.1];rfl
  have p2:x.af.isEmpty=true:=by rw[yt.1];rfl
  have p3:(!x.af.isEmpty)=false:=by rw[yt.1];rfl
  have Sw:=yt.2;clear yt;go_enter Tryz.func65,Tryz.ntmps65
  go_wp2_with fail
  refine(Ky.O _).mono ?_;rintro e w0 ⟨rfl,rfl⟩;go_wp2_with fail
  refine(yo.O _ (hw.alloc _)).mono ?_;rintro e w1 ⟨rfl,au⟩;have av:Below w.heap.size w w1:=((Qb _ _).alloc (Qn _) _).trans (au.mono (by simp));have bY:w.heap.size<w1.heap.size:=by have:=au.size;simp at this;omega
  have aD:Ok I w1:=(hw.alloc _).below (Qn _) au;obtain⟨c0,c1,c2,c3,c4,c5,c6⟩:=cB rfl au;clear au;go_wp2;go_ret;exact⟨bP Hn.O.symm,av⟩
 replace He:=Qh (show aX x=_ by rw[He.O,if_neg yt]);have ND:((x.af==[])=true∧x.af.isEmpty=true∧(!x.af.isEmpty)=false∧5≤x.ai)∨((x.af==[])=false∧x.af.isEmpty=false∧(!x.af.isEmpty)=true):=by
  by_cases h:x.af=[]
  ·left;exact⟨by rw[h];rfl,by rw[h];rfl,by rw[h];rfl,Int.not_lt.1 fun h2=>yt ⟨h,h2⟩⟩
  ·right;have h2:x.af.isEmpty=false:=by cases hp:x.af<;>simp_all
   exact⟨by simpa using h,h2,by rw[h2];rfl⟩
 clear yt;go_enter Tryz.func65,Tryz.ntmps65
 go_wp2_with fail
 refine(Ky.O _).mono ?_;rintro e w0 ⟨rfl,rfl⟩;go_wp2_with fail
 refine(yo.O _ (hw.alloc _)).mono ?_;rintro e w1 ⟨rfl,au⟩;have av:Below w.heap.size w w1:=((Qb _ _).alloc (Qn _) _).trans (au.mono (by simp));have bY:w.heap.size<w1.heap.size:=by have:=au.size;simp at this;omega
 have aD:Ok I w1:=(hw.alloc _).below (Qn _) au;obtain⟨c0,c1,c2,c3,c4,c5,c6⟩:=cB rfl au;clear au;clear Ky yo n1 n2 n3;go_upto_region 6 with fail
 go_cut [26] (fun s26 wx=>s26= .bool false∧w1=wx)
 case first=>
  rcases ND with⟨p1,p2,p3,p4⟩|⟨p1,p2,p3⟩
  all_goals
   go_wp2_with fail
   go_meet;exact⟨(by first|rfl|(congr 1;exact Qf (by omega))),rfl⟩
 case rest=>
  obtain⟨rfl,hcut⟩:=hcut;subst hcut;clear ND;go_wp2_with fail
  refine(Ph.O _ aD).mono ?_;rintro e w2 ⟨rfl,aF⟩;have aL:=av.trans (aF.mono (Nat.le_of_lt bY));have fO:w.heap.size<w2.heap.size:=by have:=aF.size;omega
  have aQ:Ok I w2:=aD.below (Qn _) aF;obtain⟨c0,c1,c2,c3,c4,c5,c6⟩:=bn.aA (⟨c0,c1,c2,c3,c4,c5,c6⟩:bn w1 w.heap.size x _ _) aF;clear aF av bY aD;by_cases DZ:mQ x.ag=0;case neg=>
   obtain⟨q,hq⟩:∃q,mQ x.ag=q:=⟨_,rfl⟩;have hn:(q !=0)=true:=by rw[←hq];simpa using DZ
   have Hn:=Qh (show aX x=q by rw[He.O,if_pos DZ,hq]);rw[hq];clear hq DZ;go_wp2;go_ret;exact⟨bP Hn.O.symm,aL⟩
  replace He:=Qh (show aX x=_ by rw[He.O,if_neg (show ¬mQ x.ag≠0 by omega)]);rw[DZ];clear DZ Ph;go_upto_region 11 with fail
  go_cut [46] (fun NE wx=> ∃w3,w3=wx∧(NE= .bool true∧aX x=1∨NE= .bool false∧ ¬((x.ag≠[]∧3<x.ai)∨bJ x=false))∧Below w2.heap.size w2 w3)
  case first=>
   have nQ:x.ag.length<1∨(0<x.ag.length∧3<x.ai)∨(0<x.ag.length∧x.ai≤3):=by omega
   rcases nQ with ha|⟨ha,tL⟩|⟨ha,tL⟩
   ·have d0:decide (0<x.ag.length)=false:=Qf (by omega);have Bd:=Qh (show x.ag=[]from List.eq_nil_of_length_eq_zero (by omega));go_wp2_with fail
    refine(Kz.O _).mono ?_;rintro e w3 ⟨rfl,cO⟩;cases zR:bJ x
    ·have Hn:=Qh (show aX x=1 by rw[He.O,if_pos (.inr zR)]);clear zR;go_wp2_with fail
     go_meet;exact⟨_,rfl,.inl ⟨rfl,Hn.O⟩,cO⟩
    ·go_wp2_with fail
     go_meet;refine⟨_,rfl,.inr ⟨(by first|rfl|(congr 1;exact Qf (by omega))),?_⟩,cO⟩;rintro(⟨h1,h2⟩|h1)
     ·first
       |exact h1 Bd.O
       |omega
     ·rw[zR]at h1;exact absurd h1 (by simp)
   ·have d0:decide (0<x.ag.length)=true:=Qt ha;have Hn:=Qh (show aX x=1 by rw[He.O,if_pos (.inl ⟨by intro e;rw[e]at ha;simp at ha,tL⟩)]);go_wp2_with fail
    go_meet;exact⟨_,rfl,.inl ⟨(by first|rfl|(congr 1;exact Qt (by omega))),Hn.O⟩,Qb _ _⟩
   ·have d0:decide (0<x.ag.length)=true:=Qt ha;go_wp2_with fail
    refine(Kz.O _).mono ?_;rintro e w3 ⟨rfl,cO⟩;cases zR:bJ x
    ·have Hn:=Qh (show aX x=1 by rw[He.O,if_pos (.inr zR)]);clear zR;go_wp2_with fail
     go_meet;exact⟨_,rfl,.inl ⟨rfl,Hn.O⟩,cO⟩
    ·go_wp2_with fail
     go_meet;refine⟨_,rfl,.inr ⟨(by first|rfl|(congr 1;exact Qf (by omega))),?_⟩,cO⟩;rintro(⟨h1,h2⟩|h1)
     ·first
       |exact h1 Bd.O
       |omega
     ·rw[zR]at h1;exact absurd h1 (by simp)
  case rest=>
   obtain⟨w3,oP,qo,cO⟩:=hcut;subst oP;have dw:=aL.trans (cO.mono (Nat.le_of_lt fO));have wQ:w.heap.size<w3.heap.size:=by have:=cO.size;omega
   have bN:Ok I w3:=aQ.below (Qn _) cO;obtain⟨c0,c1,c2,c3,c4,c5,c6⟩:=bn.aA (⟨c0,c1,c2,c3,c4,c5,c6⟩:bn w2 w.heap.size x _ _) cO;clear cO aL fO aQ Kz;rcases qo with⟨rfl,hn⟩|⟨rfl,qo⟩
   ·have Hn:=Qh hn;clear hn;go_wp2;go_ret;exact⟨bP Hn.O.symm,dw⟩
   replace He:=Qh (show aX x=_ by rw[He.O,if_neg qo]);clear qo;by_cases hf:x.ai=1
   ·have f1:((x.ai:Int)==1)=true:=by simpa using hf
    go_upto_region 14 with fail
    go_cut [66] (fun Pj wx=>w3=wx∧(Pj= .bool true∧aX x=2∨Pj= .bool false∧ ¬(x.size<0∨65536<x.size∨(x.ai≠1∧x.size≠0))))
    case first=>
     have nQ:x.size<0∨65536<x.size∨(0≤x.size∧x.size≤65536∧x.ai≠1∧x.size≠0)∨(0≤x.size∧x.size≤65536∧(x.ai=1∨x.size=0)):=by omega
     rcases nQ with h|h|⟨h,h',h2,h3⟩|⟨h,h',h2⟩
     ·have Hn:=Qh (show aX x=2 by rw[He.O,if_pos (by omega)]);clear hf;go_wp2_with fail
      go_meet;exact⟨rfl,.inl ⟨(by first|rfl|(congr 1;simp;omega)),Hn.O⟩⟩
     ·have Hn:=Qh (show aX x=2 by rw[He.O,if_pos (by omega)]);clear hf;go_wp2_with fail
      go_meet;exact⟨rfl,.inl ⟨(by first|rfl|(congr 1;simp;omega)),Hn.O⟩⟩
     ·first
      |exact absurd hf h2
      |(have Hn:=Qh (show aX x=2 by rw[He.O,if_pos (by omega)])
        have g1:(x.size !=0)=true:=by simpa using h3
        clear hf h2 h3;go_wp2_with fail
        go_meet;exact⟨rfl,.inl ⟨(by first|rfl|(congr 1;simp;omega)),Hn.O⟩⟩)
     ·have Hn:=Qh (show ¬(x.size<0∨65536<x.size∨(x.ai≠1∧x.size≠0)) by omega);have g2:x.ai=1∨(x.size !=0)=false:=h2.imp id (fun e=>by simp[e]);rcases g2 with g2|g2
      all_goals
       first
       |exact absurd g2 hf
       |(clear hf h2
         go_wp2_with fail
         go_meet;exact⟨rfl,.inr ⟨(by first|rfl|(congr 1;simp;omega)),Hn.O⟩⟩)
    case rest=>
     obtain⟨oP,qo⟩:=hcut;subst oP;rcases qo with⟨rfl,hn⟩|⟨rfl,qo⟩
     ·have Hn:=Qh hn;clear hn;go_wp2;go_ret;exact⟨bP Hn.O.symm,dw⟩
     replace He:=Qh (show aX x=_ by rw[He.O,if_neg qo]);have zS:=Qh (show 0≤x.size∧x.size≤65536∧(x.ai=1∨x.size=0) by omega);clear qo;go_upto_region 16 with fail
     go_cut [82] (fun s82 wx=>w3=wx∧(s82= .bool true∧aX x=1∨s82= .bool false∧ ¬((x.ai=1∧x.aj.length≠32)∨(x.ai≠1∧x.aj≠[]))))
     case first=>
      by_cases jX:(x.ai=1∧x.aj.length≠32)∨(x.ai≠1∧x.aj≠[])
      ·have Hn:=Qh (show aX x=1 by rw[He.O,if_pos jX]);have hz:(((x.aj.length:Int) !=32)=true∧x.ai=1)∨(((x.aj==[])=false∧x.aj.isEmpty=false∧(!x.aj.isEmpty)=true∧(x.aj !=[])=true)∧x.ai≠1):=by
        rcases jX with⟨h1,h2⟩|⟨h1,h2⟩
        ·left;exact⟨by rw[bne_iff_ne];omega,h1⟩
        ·right;exact⟨Bc h2,h1⟩
       clear jX;rcases hz with⟨z1,z2⟩|⟨⟨z1,z3,z4,z5⟩,z2⟩
       all_goals
        first
        |exact absurd z2 hf
        |exact absurd hf z2
        |(clear hf z2
          go_wp2_with fail
          go_meet;exact⟨rfl,.inl ⟨(by first|rfl|(congr 1;simp;omega)),Hn.O⟩⟩)
      ·have hz:(((x.aj.length:Int) !=32)=false∧x.ai=1)∨(((x.aj==[])=true∧x.aj.isEmpty=true∧(!x.aj.isEmpty)=false∧(x.aj !=[])=false)∧x.ai≠1):=by
        by_cases h1:x.ai=1
        ·left;have h2:x.aj.length=32:=Classical.byContradiction fun h=>jX (.inl ⟨h1,h⟩);exact⟨by rw[h2];rfl,h1⟩
        ·right;exact⟨De (Classical.byContradiction fun h=>jX (.inr ⟨h1,h⟩)),h1⟩
       have Hn:=Qh jX;clear jX;rcases hz with⟨z1,z2⟩|⟨⟨z1,z3,z4,z5⟩,z2⟩
       all_goals
        first
        |exact absurd z2 hf
        |exact absurd hf z2
        |(clear hf z2
          go_wp2_with fail
          go_meet;exact⟨rfl,.inr ⟨(by first|rfl|(congr 1;simp;omega)),Hn.O⟩⟩)
     case rest=>
      obtain⟨oP,qo⟩:=hcut;subst oP;rcases qo with⟨rfl,hn⟩|⟨rfl,qo⟩
      ·have Hn:=Qh hn;clear hn;go_wp2;go_ret;exact⟨bP Hn.O.symm,dw⟩
      replace He:=Qh (show aX x=if bK true x.ak≠0 then bK true x.ak else if qm x.ak≠x.size then 1 else 0 by rw[He.O,if_neg qo,f1]);clear qo;have hBx:=Qh (⟨c0,c1,c2,c3,c4,c5,c6⟩:bn w3 w.heap.size x _ _);clear c0 c1 c2 c3 c4 c5 c6;have HB:=Qh dw;clear dw;go_wp2_with fail
      go_loopw [6,7] (fun s6 s7 wr=> ∃k:Nat,k≤x.ak.length∧s7= .int .i64 k∧s6= .int .i64 (qm (x.ak.take k))∧bK true (x.ak.drop k)=bK true x.ak∧Below w3.heap.size w3 wr) (fun _ i _=>x.ak.length-(intOf i).toNat)
      case atStart=>exact⟨0,Nat.zero_le _,rfl,rfl,rfl,Qb _ _⟩
      case round=>
       obtain⟨k,hk,rfl,rfl,hr,hb⟩:=hrel;have Hr:=Qh hr;clear hr;have dA:Ok I wr:=bN.below (Qn _) hb;obtain⟨c0,c1,c2,c3,c4,c5,c6⟩:=hBx.O.aA hb;obtain⟨sm,IZ⟩:∃s,qm (x.ak.take k)=s:=⟨_,rfl⟩;by_cases hlt:k<x.ak.length
       ·obtain⟨y,b,off,cap',iH,dn,e0,e1,e2⟩:=uZ tT.O dA k hlt;cases dn;have Df:=Qh (show x.ak.drop k=y::x.ak.drop (k+1) by rw[List.drop_eq_getElem_cons hlt,iH]);have bB:=Qh (show aX x=if(if bX y then 2 else bK true (x.ak.drop (k+1)))≠0 then(if bX y then 2 else bK true (x.ak.drop (k+1)))else if qm x.ak≠x.size then 1 else 0 by
         rw[He.O,←Hr.O,Df.O,NB])
        have Hsm:=Qh (show qm (x.ak.take (k+1))=wrap64 (sm+y.n) by rw[List.take_succ_eq_append_getElem hlt,iH,Xlk,IZ]);rw[IZ];clear iH IZ;by_cases h1:y.s<0
        ·have kw:=Qh (show aX x=2 by rw[bB.O,if_pos (show bX y=true by unfold bX;simp;omega)];rfl);go_wp2;go_ret;exact⟨bP kw.O.symm,HB.O.trans ((hb.alloc hb.size _).mono HB.O.size)⟩
        by_cases h2:255<y.s
        ·have kw:=Qh (show aX x=2 by rw[bB.O,if_pos (show bX y=true by unfold bX;simp;omega)];rfl);go_wp2;go_ret;exact⟨bP kw.O.symm,HB.O.trans ((hb.alloc hb.size _).mono HB.O.size)⟩
        by_cases h3:y.o<0
        ·have kw:=Qh (show aX x=2 by rw[bB.O,if_pos (show bX y=true by unfold bX;simp;omega)];rfl);go_wp2;go_ret;exact⟨bP kw.O.symm,HB.O.trans ((hb.alloc hb.size _).mono HB.O.size)⟩
        by_cases h4:2147483647<y.o
        ·have kw:=Qh (show aX x=2 by rw[bB.O,if_pos (show bX y=true by unfold bX;simp;omega)];rfl);go_wp2;go_ret;exact⟨bP kw.O.symm,HB.O.trans ((hb.alloc hb.size _).mono HB.O.size)⟩
        by_cases h5:y.n<1
        ·have kw:=Qh (show aX x=2 by rw[bB.O,if_pos (show bX y=true by unfold bX;simp;omega)];rfl);go_wp2;go_ret;exact⟨bP kw.O.symm,HB.O.trans ((hb.alloc hb.size _).mono HB.O.size)⟩
        by_cases h6:65536<y.n
        ·have kw:=Qh (show aX x=2 by rw[bB.O,if_pos (show bX y=true by unfold bX;simp;omega)];rfl);go_wp2;go_ret;exact⟨bP kw.O.symm,HB.O.trans ((hb.alloc hb.size _).mono HB.O.size)⟩
        by_cases h7:y.s=0
        ·have g7:(y.s==0)=true:=by simpa using h7
         by_cases h8:y.o=0
         ·have g8:(y.o !=0)=false:=by simpa using h8
          have iD:=Qh (show bK true (x.ak.drop (k+1))=bK true x.ak by
           rw[←Hr.O,Df.O,NB,if_neg (show ¬bX y=true by unfold bX;simp;omega)])
          go_wp2;go_roundw;case rel=>exact⟨k+1,by omega,by go_num,by rw[Hsm.O],iD.O,hb.alloc hb.size _⟩
          case measure=>simp[intOf];omega
         ·have g8:(y.o !=0)=true:=by simpa using h8
          have kw:=Qh (show aX x=2 by rw[bB.O,if_pos (show bX y=true by unfold bX;simp;omega)];rfl);go_wp2;go_ret;exact⟨bP kw.O.symm,HB.O.trans ((hb.alloc hb.size _).mono HB.O.size)⟩
        ·have g7:(y.s==0)=false:=by simpa using h7
         have iD:=Qh (show bK true (x.ak.drop (k+1))=bK true x.ak by
          rw[←Hr.O,Df.O,NB,if_neg (show ¬bX y=true by unfold bX;simp;omega)])
         go_wp2;go_roundw;case rel=>exact⟨k+1,by omega,by go_num,by rw[Hsm.O],iD.O,hb.alloc hb.size _⟩
         case measure=>simp[intOf];omega
       ·have aB:x.ak.take k=x.ak:=List.take_of_length_le (by omega);have hdn:x.ak.drop k=[]:=List.drop_of_length_le (by omega);rw[aB]at IZ;have Hn:=Qh (show aX x=if sm≠x.size then 1 else 0 by rw[He.O,←Hr.O,hdn,if_neg (by simp[bK]),IZ]);rw[aB,IZ];clear aB hdn IZ;by_cases hq:sm=x.size
        ·have q1:(sm !=x.size)=false:=by simpa using hq
         have jF:=Qh (show aX x=0 by rw[Hn.O,if_neg (by simpa using hq)]);clear hq;go_wp2;go_ret;exact⟨bP jF.O.symm,HB.O.trans (hb.mono HB.O.size)⟩
        ·have q1:(sm !=x.size)=true:=by simpa using hq
         have jF:=Qh (show aX x=1 by rw[Hn.O,if_pos hq]);clear hq;go_wp2;go_ret;exact⟨bP jF.O.symm,HB.O.trans (hb.mono HB.O.size)⟩
   ·have f1:((x.ai:Int)==1)=false:=by simpa using hf
    go_upto_region 14 with fail
    go_cut [66] (fun Pj wx=>w3=wx∧(Pj= .bool true∧aX x=2∨Pj= .bool false∧ ¬(x.size<0∨65536<x.size∨(x.ai≠1∧x.size≠0))))
    case first=>
     have nQ:x.size<0∨65536<x.size∨(0≤x.size∧x.size≤65536∧x.ai≠1∧x.size≠0)∨(0≤x.size∧x.size≤65536∧(x.ai=1∨x.size=0)):=by omega
     rcases nQ with h|h|⟨h,h',h2,h3⟩|⟨h,h',h2⟩
     ·have Hn:=Qh (show aX x=2 by rw[He.O,if_pos (by omega)]);clear hf;go_wp2_with fail
      go_meet;exact⟨rfl,.inl ⟨(by first|rfl|(congr 1;simp;omega)),Hn.O⟩⟩
     ·have Hn:=Qh (show aX x=2 by rw[He.O,if_pos (by omega)]);clear hf;go_wp2_with fail
      go_meet;exact⟨rfl,.inl ⟨(by first|rfl|(congr 1;simp;omega)),Hn.O⟩⟩
     ·first
      |exact absurd hf h2
      |(have Hn:=Qh (show aX x=2 by rw[He.O,if_pos (by omega)])
        have g1:(x.size !=0)=true:=by simpa using h3
        clear hf h2 h3;go_wp2_with fail
        go_meet;exact⟨rfl,.inl ⟨(by first|rfl|(congr 1;simp;omega)),Hn.O⟩⟩)
     ·have Hn:=Qh (show ¬(x.size<0∨65536<x.size∨(x.ai≠1∧x.size≠0)) by omega);have g2:x.ai=1∨(x.size !=0)=false:=h2.imp id (fun e=>by simp[e]);rcases g2 with g2|g2
      all_goals
       first
       |exact absurd g2 hf
       |(clear hf h2
         go_wp2_with fail
         go_meet;exact⟨rfl,.inr ⟨(by first|rfl|(congr 1;simp;omega)),Hn.O⟩⟩)
    case rest=>
     obtain⟨oP,qo⟩:=hcut;subst oP;rcases qo with⟨rfl,hn⟩|⟨rfl,qo⟩
     ·have Hn:=Qh hn;clear hn;go_wp2;go_ret;exact⟨bP Hn.O.symm,dw⟩
     replace He:=Qh (show aX x=_ by rw[He.O,if_neg qo]);have zS:=Qh (show 0≤x.size∧x.size≤65536∧(x.ai=1∨x.size=0) by omega);clear qo;go_upto_region 16 with fail
     go_cut [82] (fun s82 wx=>w3=wx∧(s82= .bool true∧aX x=1∨s82= .bool false∧ ¬((x.ai=1∧x.aj.length≠32)∨(x.ai≠1∧x.aj≠[]))))
     case first=>
      by_cases jX:(x.ai=1∧x.aj.length≠32)∨(x.ai≠1∧x.aj≠[])
      ·have Hn:=Qh (show aX x=1 by rw[He.O,if_pos jX]);have hz:(((x.aj.length:Int) !=32)=true∧x.ai=1)∨(((x.aj==[])=false∧x.aj.isEmpty=false∧(!x.aj.isEmpty)=true∧(x.aj !=[])=true)∧x.ai≠1):=by
        rcases jX with⟨h1,h2⟩|⟨h1,h2⟩
        ·left;exact⟨by rw[bne_iff_ne];omega,h1⟩
        ·right;exact⟨Bc h2,h1⟩
       clear jX;rcases hz with⟨z1,z2⟩|⟨⟨z1,z3,z4,z5⟩,z2⟩
       all_goals
        first
        |exact absurd z2 hf
        |exact absurd hf z2
        |(clear hf z2
          go_wp2_with fail
          go_meet;exact⟨rfl,.inl ⟨(by first|rfl|(congr 1;simp;omega)),Hn.O⟩⟩)
      ·have hz:(((x.aj.length:Int) !=32)=false∧x.ai=1)∨(((x.aj==[])=true∧x.aj.isEmpty=true∧(!x.aj.isEmpty)=false∧(x.aj !=[])=false)∧x.ai≠1):=by
        by_cases h1:x.ai=1
        ·left;have h2:x.aj.length=32:=Classical.byContradiction fun h=>jX (.inl ⟨h1,h⟩);exact⟨by rw[h2];rfl,h1⟩
        ·right;exact⟨De (Classical.byContradiction fun h=>jX (.inr ⟨h1,h⟩)),h1⟩
       have Hn:=Qh jX;clear jX;rcases hz with⟨z1,z2⟩|⟨⟨z1,z3,z4,z5⟩,z2⟩
       all_goals
        first
        |exact absurd z2 hf
        |exact absurd hf z2
        |(clear hf z2
          go_wp2_with fail
          go_meet;exact⟨rfl,.inr ⟨(by first|rfl|(congr 1;simp;omega)),Hn.O⟩⟩)
     case rest=>
      obtain⟨oP,qo⟩:=hcut;subst oP;rcases qo with⟨rfl,hn⟩|⟨rfl,qo⟩
      ·have Hn:=Qh hn;clear hn;go_wp2;go_ret;exact⟨bP Hn.O.symm,dw⟩
      replace He:=Qh (show aX x=if bK false x.ak≠0 then bK false x.ak else if qm x.ak≠x.size then 1 else 0 by rw[He.O,if_neg qo,f1]);clear qo;go_wp2_with fail
      go_loopw [6,7] (fun s6 s7 wr=>s6= .int .i64 0∧s7= .int .i64 0∧w3=wr) (fun _ _ _=>0)
      case atStart=>exact⟨rfl,rfl,rfl⟩
      case round=>
       obtain⟨rfl,rfl,dA⟩:=hrel;subst dA;by_cases oO:0<x.ak.length
       ·obtain⟨y,b,off,cap',iH,dn,e0,e1,e2⟩:=uZ tT.O bN 0 oO;cases dn;have yf:x.ak=y::x.ak.drop 1:=by rw[←iH,←List.drop_eq_getElem_cons oO];rfl
        have Hn:=Qh (show aX x=1 by rw[He.O,yf];rfl);rw[Nat.zero_mul,Nat.add_zero]at e0 e1 e2;clear iH yf;go_wp2;go_ret;exact⟨bP Hn.O.symm,dw.alloc (Nat.le_of_lt wQ) _⟩
       ·have NF:=Qh (show x.ak=[]from List.eq_nil_of_length_eq_zero (by omega));have Hn:=Qh (show aX x=0 by
         rw[He.O,NF.O,if_neg (by simp[bK]),if_neg];have:=zS.O;simp[qm];omega)
        have jY:x.size=0:=by have:=zS.O;omega
        have qX:((0:Int) !=x.size)=false:=by rw[jY];rfl
        clear jY;go_wp2;go_ret;exact⟨bP Hn.O.symm,dw⟩
theorem below_setRow{B:Nat}{g:Nat}(h:Below B w w')(hg:B≤g)(cs:Array Value):Below B w (w'.setRow g cs):=
 ⟨h.os,h.tape,h.output,by simpa using h.size,fun k hk=>by rw[setRow_other _ _ _ _ (by omega)];exact h.block k hk⟩
def zeroE:aG:=⟨0,[],[],[],0,[],[]⟩
def kG(t:List aG)(p:ae):aG×Bool:=match dS t p with|some x=>(x,true)|none=>(zeroE,false)
def Pk(I:IH)(w:World)(x:aG×Bool)(e:Ending)(w':World):Prop:=
 ∃va vx,e= .returned (.tuple #[fB x.1 va vx,.bool x.2])∧bf lT I va x.1.ag∧bf mr I vx x.1.ak∧Below w.heap.size w w'
abbrev aZ(x:aG)(va vx:Value):Array Value:=#[.int .i64 x.ai,S x.af,va,S x.target,.int .i64 x.size,S x.aj,vx]
abbrev aC:Array Value:=#[.int .i64 0,.string ⟨#[]⟩,.slice none 0 0,.string ⟨#[]⟩,.int .i64 0,.string ⟨#[]⟩,.slice none 0 0]
theorem Xj7{x:aG}{I:IH}(h1:bf lT I va x.ag)(h2:bf mr I vx x.ak):(aZ x va vx).all (·.oneCell')=true:=by
 have e1:=h1.one;have e2:=h2.one;simp[aZ,e1,e2];exact⟨rfl,rfl,rfl,rfl,rfl⟩
theorem KA(I:IH)(v:Value)(t:List aG)(hv:bf bG I v t)(p:ae)(w:World)(hw:Ok I w):
 Calls Tryz.prog 92 #[v,S p] w (Pk I w (kG t p)):=by
 have hlen:=hv.bW;obtain⟨ao,cap,rfl,dO,iR,_⟩:=id hv;have Hv:=Qh hv;clear hv;have lV:(Tryz.prog.info? 35).map (·.size)=some 7:=by kernel_rfl
 have Hz:=Qh (heap_alloc_new w (.cells aC 35));go_enter Tryz.func92,Tryz.ntmps92
 go_wp2_with fail
 go_loopw [10] (fun s10 wr=> ∃k:Nat,k≤t.length∧s10= .int .i64 k∧dS t p=dS (t.drop k) p∧Below w.heap.size w wr∧w.heap.size<wr.heap.size∧wr.heap[w.heap.size]?=some (.cells aC 35 (0,0))) (fun i _=>t.length-(intOf i).toNat)
 case atStart=>exact⟨0,Nat.zero_le _,rfl,rfl,(Qb _ _).alloc (Qn _) _,by simp,Hz.O⟩
 case round=>
  clear Hz;obtain⟨k,hk,rfl,hr,hb,eU,hz⟩:=hrel;have Hr:=Qh hr;have Hz:=Qh hz;clear hr hz;have dA:Ok I wr:=hw.below (Qn _) hb;by_cases hlt:k<t.length
  ·obtain⟨x,va,vx,b,off,cap',bH,dn,⟨c0,c1,c2,c3,c4,c5,c6⟩,h1,h2⟩:=qi Hv.O dA k hlt;cases dn;have bB:=Qh (show dS t p=if(x.af==p)then some x else dS (t.drop (k+1)) p by
    rw[Hr.O,List.drop_eq_getElem_cons hlt,bH,dS,List.find?_cons];cases (x.af==p)<;>rfl)
   obtain⟨aa,ca,rfl,_,_,_⟩:=id h1;obtain⟨ax,cx,rfl,_,_,_⟩:=id h2;have H1:=Qh h1;have H2:=Qh h2;clear bH h1 h2;cases he:(x.af==p)
   ·have Hn:=Qh (show dS t p=dS (t.drop (k+1)) p by rw[bB.O,he];rfl);go_wp2;go_roundw;case rel=>exact⟨k+1,by omega,by go_num,Hn.O,hb.alloc hb.size _,by simp;omega,(Below.heap_alloc wr _ _ eU).trans Hz.O⟩
    case measure=>simp[intOf];omega
   ·have Hn:=Qh (show kG t p=(x,true) by rw[kG,bB.O,he];rfl);have qX:(wr.alloc (.cells (aZ x (.slice aa x.ag.length ca) (.slice ax x.ak.length cx)) 35)).heap[w.heap.size]?=some (.cells aC 35 (0,0)):=(Below.heap_alloc wr _ _ eU).trans Hz.O;have Hz1:=Qh qX;have Fs:=Xj7 H1.O H2.O;clear qX;go_wp2_with (refine wpList_store_row rfl 35 _ _ rfl w.heap.size (aZ x (.slice aa x.ag.length ca) (.slice ax x.ak.length cx)) rfl rfl 35 aC Hz1.O lV rfl Fs ?_)
    try simp only[Exit.inBlock,Exit.then]
    refine bodyPost_ret (v:= .tuple #[fB x (.slice aa x.ag.length ca) (.slice ax x.ak.length cx),.bool true]) ?_ rfl ?_
    ·rw[results_cell_tmp rfl];simp[asAddr,run_loadVar_row _ w.heap.size 35 35 (aZ x (.slice aa x.ag.length ca) (.slice ax x.ak.length cx)) (0,0) _ (setRow_heap _ _ _ _ _ _ Hz1.O) Tryz.underlying35 rfl lV]
    ·rw[Hn.O];exact⟨_,_,rfl,H1.O,H2.O,below_setRow (hb.alloc hb.size _) (Qn _) _⟩
  ·have Hn:=Qh (show kG t p=(zeroE,false) by rw[kG,Hr.O,List.drop_of_length_le (by omega)];rfl);have Pm:aC.all (·.oneCell')=true:=by simp[Value.oneCell']
   go_wp2_with (refine wpList_store_row rfl 35 _ _ rfl w.heap.size aC rfl rfl 35 aC Hz.O lV rfl Pm ?_)
   try simp only[Exit.inBlock,Exit.then]
   refine bodyPost_ret (v:= .tuple #[.agg aC,.bool false]) ?_ rfl ?_
   ·rw[results_cell_tmp rfl];simp[asAddr,run_loadVar_row _ w.heap.size 35 35 aC (0,0) _ (setRow_heap _ _ _ _ _ _ Hz.O) Tryz.underlying35 rfl lV]
   ·rw[Hn.O];exact⟨.slice none 0 0,.slice none 0 0,rfl,bf.nil _ _,bf.nil _ _,below_setRow hb (Qn _) _⟩
theorem Xj9(t:List aG)(p:ae)(hp:p≠[]):bA t p=if(kG t p).2=false then 9 else if(kG t p).1.ai≠2 then 10 else 0:=by
 unfold bA kG;rw[if_neg hp];cases dS t p<;>simp
theorem Xr6(I:IH)(v:Value)(t:List aG)(hv:bf bG I v t)(p:ae)(w:World)(hw:Ok I w):
 Calls Tryz.prog 151 #[v,S p] w fun e w'=>e= .returned (.int .i64 (bA t p))∧Below w.heap.size w w':=by
 obtain⟨ao,cap,rfl,dO,iR,_⟩:=id hv;have Hv:=Qh hv;clear hv;by_cases hp:p=[]
 ·obtain⟨p1,p2,p3,p4⟩:=De hp;have Hn:=Qh (show bA t p=0 by rw[bA,if_pos hp]);clear hp;go_enter Tryz.func151,Tryz.ntmps151
  go_wp2;go_ret;exact⟨bP Hn.O.symm,Qb _ _⟩
 ·obtain⟨p1,p2,p3,p4⟩:=Bc hp;have Hn:=Qh (Xj9 t p hp);have Hg:=Qh (KA I _ t Hv.O p w hw);clear hp;generalize kG t p=g at Hn Hg;obtain⟨x,b⟩:=g;go_enter Tryz.func151,Tryz.ntmps151
  go_wp2_with fail
  refine Hg.O.mono ?_;rintro e w1 ⟨va,vx,rfl,h1,h2,au⟩;obtain⟨aa,ca,rfl,_,_,_⟩:=id h1;obtain⟨ax,cx,rfl,_,_,_⟩:=id h2;clear h1 h2;cases b
  ·have jF:=Qh (show bA t p=9 by rw[Hn.O];rfl);go_wp2;go_ret;exact⟨bP jF.O.symm,au.alloc au.size _⟩
  ·by_cases hk:x.ai=2
   ·have k1:((x.ai:Int) !=2)=false:=by simpa using hk
    have jF:=Qh (show bA t p=0 by rw[Hn.O];simp[hk]);clear hk;go_wp2;go_ret;exact⟨bP jF.O.symm,au.alloc au.size _⟩
   ·have k1:((x.ai:Int) !=2)=true:=by simpa using hk
    have jF:=Qh (show bA t p=10 by rw[Hn.O];simp[hk]);clear hk;go_wp2;go_ret;exact⟨bP jF.O.symm,au.alloc au.size _⟩
abbrev Pn(t:List aG):Prop:=∀x∈t,x.Wf
def vS(t:List aG):Option aG→List aG→Int
 |_,[]=>0
 |q,x::l=>if aX x≠0 then aX x else if x.ai≠1∧x.ai≠2∧x.ai≠3 then 10 else if(q.any fun y=> !(ji (els y.af) (els x.af)))then 14 else if bA t (kE x.af)≠0 then bA t (kE x.af)else vS t (some x) l
def Po(t:List aG):Int:=vS t none t
theorem Xqg(h:ji (els p) (els d)=true):iP p d= -1:=by rw[iP,h];rfl
theorem Xqh(h:ji (els p) (els d)=false):iP p d=0∨iP p d=1:=by
 rw[iP,h];cases ji (els d) (els p)<;>simp
theorem Wm{s:ae}(h:aJ s=0)(hs:s≠[]):nT s=(kE s,0):=by rw[nT,if_neg (by omega),if_neg hs]
