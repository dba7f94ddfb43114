/- Lemmas for the claim's theorem;conditions: as each says. -/
import Derived.Test.YtmdfjnhfhidmhaaGreatDoorQ35
set_option maxHeartbeats 0
set_option maxRecDepth 100000
set_option linter.all false
namespace Go.Proofs.YtmdfjnhfhidmhaaGreatDoor
open Go.RowKit
variable{c:gy}{l:List mF}{k:Nat}{x:mF}
def aaN(l:List mF):List af:=(l.map fun b=>b.fJ.map fun c=>c.aF).flatten
theorem Xrg(hk:k<l.length)(hx:l[k]=x):iQ (l.take k)+x.fJ.length≤iQ l:=by
 rw[←OD hk hx];exact Te l (k+1)
theorem Uj{j:Nat}(hk:k<l.length)(hx:l[k]=x)(hj:j<x.fJ.length)(hc:x.fJ[j]=c)(h:jd c=true):gJ l=1:=by
 unfold gJ uL;rw[R5 (p:=fun b:mF=>b.fJ.any jd) hk hx (R5 hj hc h)];rfl
theorem Xtw(h:250<c.ag.length):jd c=true:=by unfold jd;rw[Qt h];simp
theorem Xtv(h:250<c.av.length):jd c=true:=by unfold jd;rw[Qt h];simp
theorem Xtu(h:20<c.au.length):jd c=true:=by unfold jd;rw[Qt h];simp
theorem Xtt(h:600<c.aF.length):jd c=true:=by unfold jd;rw[Qt h];simp
theorem Xti(h:c.au.any lW=true):jd c=true:=by unfold jd;rw[h];simp
theorem Xts(h1:¬250<c.ag.length)(h2:¬250<c.av.length)(h3:¬20<c.au.length)(h4:¬600<c.aF.length)(h5:c.au.any lW=false):jd c=false:=by
 unfold jd;rw[Qf h1,Qf h2,Qf h3,Qf h4,h5];rfl
theorem Uk(h:10<iQ l):gJ l=1:=by
 unfold gJ uL;rw[Qt h];simp
theorem Ul(h:4<l.length):gJ l=1:=by
 unfold gJ uL;rw[Qt h];simp
theorem Um(h:(l.any fun b=>b.fJ.any jd)=false)(ht:iQ l≤10)(hl:l.length≤4):gJ l=0:=by
 unfold gJ uL;rw[h,Qf (by omega:¬10<iQ l),Qf (by omega:¬4<l.length)];rfl
theorem Xnm(I:IH)(v:Value)(l:List mF)(hv:aY zU I v l)(w:World)(hw:Ok I w):
 Calls Tryz.prog 25 #[v] w fun e w'=>e= .returned (.int .i64 (gJ l))∧Below w.heap.size w w':=by
 have hlen:=hv.bK;obtain⟨ao,cap,rfl,_,_,_⟩:=id hv;have Hv:=Qh hv;clear hv;go_enter Tryz.func25,Tryz.ntmps25
 go_wp2_with fail
 go_loopw [3,4,5,6,7] (fun s3 s4 _ _ _ wr=> ∃k:Nat,k≤l.length∧s4= .int .i64 k∧s3= .int .i64 (30*(iQ (l.take k):Int))∧iQ (l.take k)≤10∧((l.take k).any fun b=>b.fJ.any jd)=false∧Below w.heap.size w wr) (fun _ i _ _ _ _=>l.length-(intOf i).toNat)
 case atStart=>exact⟨0,Nat.zero_le _,rfl,rfl,Nat.zero_le _,rfl,Qb _ _⟩
 case round=>
  obtain⟨k,hk,rfl,rfl,qo,hr,hb⟩:=hrel;have Hr:=Qh hr;clear hr;by_cases hlt:k<l.length
  ·obtain⟨x,vc,b,off,cap',dz,dC,c0,c1,h1⟩:=Z0 Hv.q hw k hlt;cases dC;have bU:=h1.bK;have nP:=Qh dz;have H1:=Qh h1;have L9:=Qh (Xrg hlt dz);have Un:=Qh (OD hlt dz);have qM:=Qh (R4 (p:=fun b:mF=>b.fJ.any jd) hlt dz Hr.q);obtain⟨oc,cc,rfl,_,_,_⟩:=id h1;have C1:=Qh c1;clear c1;have c1:=bI hb C1.q;obtain⟨T,hT⟩:∃T,T=iQ (l.take k):=⟨_,rfl⟩;rw[←hT]at L9 Un qo ⊢;clear dz h1 c0 Hr;go_wp2_with fail
   go_loopw [3,5,6,7] (fun s3 s5 _ _ wr=> ∃j:Nat,j≤x.fJ.length∧s5= .int .i64 j∧s3= .int .i64 (30*((T+j:Nat):Int))∧T+j≤10∧((x.fJ.take j).any jd)=false∧Below w.heap.size w wr) (fun _ i _ _ _=>x.fJ.length-(intOf i).toNat)
   case atStart=>exact⟨0,Nat.zero_le _,rfl,rfl,qo,rfl,hb⟩
   case round=>
    clear hb c1 qo;obtain⟨j,hj,rfl,rfl,htj,hr,hb⟩:=hrel;have Hr:=Qh hr;clear hr;have c1:=bI hb C1.q;by_cases vB:j<x.fJ.length
    ·obtain⟨c,va,b2,mM,cap2,tV,Uo,hg,h2⟩:=ZY H1.q hw j vB;cases Uo;obtain⟨oa,ca,rfl,_,_,_⟩:=id h2;obtain⟨g0,g1,g2,g3,g4⟩:=hg.aX hb;have aG:=hb.alloc hb.size (.cells #[.int .i64 c.aj,S c.ag,.slice oa c.au.length ca,S c.av,S c.aF] 25);have og:=Qh (Uj hlt nP.q vB tV);have m1:IntKind.i64.wrap (30*((T+j:Nat):Int)+30)=30*((T+j:Nat):Int)+30:=IntWalk.i64_in _ (by omega);by_cases q1:250<c.ag.length
     ·have d1:decide ((250:Int)<(c.ag.length:Int))=true:=Qt (by omega);have Hn:=Qh (show gJ l=1 from(og.q (Xtw q1)));clear tV og;go_wp2;go_ret;exact⟨dK Hn.q.symm,aG⟩
     have d1:decide ((250:Int)<(c.ag.length:Int))=false:=Qf (by omega);by_cases q2:250<c.av.length
     ·have d2:decide ((250:Int)<(c.av.length:Int))=true:=Qt (by omega);have Hn:=Qh (show gJ l=1 from(og.q (Xtv q2)));clear tV og;go_wp2;go_ret;exact⟨dK Hn.q.symm,aG⟩
     have d2:decide ((250:Int)<(c.av.length:Int))=false:=Qf (by omega);by_cases q3:20<c.au.length
     ·have d3:decide ((20:Int)<(c.au.length:Int))=true:=Qt (by omega);have Hn:=Qh (show gJ l=1 from(og.q (Xtu q3)));clear tV og;go_wp2;go_ret;exact⟨dK Hn.q.symm,aG⟩
     have d3:decide ((20:Int)<(c.au.length:Int))=false:=Qf (by omega);by_cases q4:600<c.aF.length
     ·have d4:decide ((600:Int)<(c.aF.length:Int))=true:=Qt (by omega);have Hn:=Qh (show gJ l=1 from(og.q (Xtt q4)));clear tV og;go_wp2;go_ret;exact⟨dK Hn.q.symm,aG⟩
     have d4:decide ((600:Int)<(c.aF.length:Int))=false:=Qf (by omega);have hto:=L9.q;by_cases q5:T+j=10
     ·have d5:decide ((300:Int)<30*((T+j:Nat):Int)+30)=true:=Qt (by omega);have Hn:=Qh (show gJ l=1 from(Uk (by omega)));clear tV og;go_wp2;go_ret;exact⟨dK Hn.q.symm,aG⟩
     have d5:decide ((300:Int)<30*((T+j:Nat):Int)+30)=false:=Qf (by omega);have Hcc:=Qh (Xts q1 q2 q3 q4);have Hs5:=Qh (fun h=>R4 (p:=jd) vB tV Hr.q (Hcc.q h));have H2:=Qh h2;have HB:=Qh (show vT (wr.alloc (.cells #[.int .i64 c.aj,S c.ag,.slice oa c.au.length ca,S c.av,S c.aF] 25)) wr.heap.size c (.slice oa c.au.length ca)from chgB_row (heap_alloc_new _ _));have wB:=h2.bK;obtain⟨n6,yz⟩:∃n6,n6=wr.heap.size:=⟨_,rfl⟩;rw[←yz]at HB;clear h2 tV q1 q2 q3 q4;go_wp2_with fail
     rw[←yz];clear yz hg g0 g1 g2 g3 g4;go_loopw [7] (fun s7 wr=> ∃m:Nat,m≤c.au.length∧s7= .int .i64 m∧(c.au.take m).any lW=false∧vT wr n6 c (.slice oa c.au.length ca)∧Below w.heap.size w wr) (fun i _=>c.au.length-(intOf i).toNat)
     case atStart=>exact⟨0,Nat.zero_le _,rfl,rfl,HB.q,aG⟩
     case round=>
      clear aG HB hb c1;obtain⟨m,hm,rfl,hr,hB,hb⟩:=hrel;have Hr3:=Qh hr;have HB:=Qh hB;clear hr hB;obtain⟨g0,g1,g2,g3,g4⟩:=HB.q;by_cases Vr:m<c.au.length
      ·obtain⟨y,b3,Ad,LZ,jJ,Uq,yP,sP⟩:=xE H2.q hw m Vr;cases Uq;have y0:=bI hb yP;have y1:=bI hb sP;have AA:=Qh (R4 (p:=lW) Vr jJ Hr3.q);have Hy3:=Qh (R5 (p:=lW) Vr jJ);clear yP sP jJ;by_cases r1:80<y.k.length
       ·have e1:decide ((80:Int)<(y.k.length:Int))=true:=Qt (by omega);have Hn:=Qh (show gJ l=1 from og.q (Xti (Hy3.q (by unfold lW;rw[Qt r1];rfl))));clear og r1;go_wp2;go_ret;exact⟨dK Hn.q.symm,hb⟩
       have e1:decide ((80:Int)<(y.k.length:Int))=false:=Qf (by omega);by_cases r2:80<y.v.length
       ·have e2:decide ((80:Int)<(y.v.length:Int))=true:=Qt (by omega);have Hn:=Qh (show gJ l=1 from og.q (Xti (Hy3.q (by unfold lW;rw[Qt r2];simp))));clear og r1 r2;go_wp2;go_ret;exact⟨dK Hn.q.symm,hb⟩
       have e2:decide ((80:Int)<(y.v.length:Int))=false:=Qf (by omega);have Hn:=Qh (AA.q (by unfold lW;rw[Qf r1,Qf r2];rfl));clear r1 r2;go_wp2;go_roundw;case rel=>exact⟨m+1,by omega,by go_num,Hn.q,HB.q,hb⟩
       case measure=>simp[intOf];omega
      ·have Hn:=Qh (Hs5.q (by have:=Hr3.q;rwa[List.take_of_length_le (by omega)]at this));go_wp2;go_roundw;case rel=>exact⟨j+1,by omega,by go_num,by simp;omega,by omega,Hn.q,hb⟩
       case measure=>simp[intOf];omega
    ·have EL:j=x.fJ.length:=by omega
     subst EL;have h:=Hr.q;rw[List.take_length]at h;have Hn:=Qh (qM.q h);clear h;go_wp2;go_roundw;case rel=>exact⟨k+1,by omega,by go_num,by rw[Un.q],by rw[Un.q];exact htj,Hn.q,hb⟩
     case measure=>simp[intOf];omega
  ·have oP:k=l.length:=by omega
   subst oP;rw[List.take_length]at qo Hr;by_cases q:4<l.length
   ·have d1:decide ((4:Int)<(l.length:Int))=true:=Qt (by omega);have Hn:=Qh (Ul q);go_wp2;go_ret;exact⟨dK Hn.q.symm,hb⟩
   ·have d1:decide ((4:Int)<(l.length:Int))=false:=Qf (by omega);have Hn:=Qh (Um Hr.q qo (by omega));go_wp2;go_ret;exact⟨dK Hn.q.symm,hb⟩
theorem Xqk(I:IH)(v:Value)(t:List aQ)(hv:aY bJ I v t)(hI:cB I)(ht:PP t)(hs:xK t)(w:World)(hw:Ok I w):
 Calls Tryz.prog 40 #[v] w fun e w'=>e= .returned (.int .i64 (jV t))∧Below w.heap.size w w':=by
 have hlen:=hv.bK;obtain⟨ao,cap,rfl,dM,gV,_⟩:=id hv;have Hv:=Qh hv;clear hv;have Ht:=Qh ht;clear ht;have Hs:=Qh hs;clear hs;have Mc:=Qh (fun p w hw=>W9 I _ t Hv.q p w hw);go_enter Tryz.func40,Tryz.ntmps40
 go_wp2_with fail
 go_loopw [11] (fun s11 wr=> ∃k:Nat,k≤t.length∧s11= .int .i64 k∧dQ t (if k=0 then none else t[k-1]?) (t.drop k)=jV t∧(∀y∈t.take k,aR y.ag=0)∧Below w.heap.size w wr) (fun i _=>t.length-(intOf i).toNat)
 case atStart=>exact⟨0,Nat.zero_le _,rfl,rfl,by simp,Qb _ _⟩
 case round=>
  obtain⟨k,hk,rfl,hr,iU,hb⟩:=hrel;have Hr:=Qh hr;have wI:=Qh iU;clear hr iU;have gZ:Ok I wr:=hw.below (Qn _) hb;by_cases hlt:k<t.length;case neg=>
   have Hn:=Qh (show jV t=0 by rw[←Hr.q,List.drop_of_length_le (by omega)];rfl);go_wp2;go_ret;exact⟨dK Hn.q.symm,hb⟩
  obtain⟨x,va,vx,b,off,cap',dz,dC,⟨c0,c1,c2,c3,c4,c5,c6⟩,h1,h2⟩:=uT Hv.q gZ k hlt;cases dC;have bT:=Qh (show jV t=if aL x≠0 then aL x else if x.aj≠1∧x.aj≠2∧x.aj≠3 then 10 else if((if k=0 then none else t[k-1]?).any fun y=> !(ic (els y.ag) (els x.ag)))then 14 else if bn t (iT x.ag)≠0 then bn t (iT x.ag)else dQ t (some x) (t.drop (k+1)) by
   rw[←Hr.q,List.drop_eq_getElem_cons hlt,dz,Xhw])
  have JE:=Qh (show t[k]?=some x by rw[List.getElem?_eq_getElem hlt,dz]);have nP:=Qh dz;have Qc:=Qh (Ht.q x (by rw[←dz];exact List.getElem_mem hlt));have Pf:=Qh (Hs.q x (by rw[←dz];exact List.getElem_mem hlt));have oH:=Qh (fun w hw=>JP I hI x va vx h1 h2 Qc.q Pf.q.1 Pf.q.2 w hw);obtain⟨aa,ca,rfl,_,_,_⟩:=id h1;obtain⟨ax,cx,rfl,_,_,_⟩:=id h2;clear dz h1 h2;go_wp2_with fail
  refine(oH.q _ (gZ.alloc _)).mono ?_;rintro e w1 ⟨rfl,aG⟩;obtain⟨d0,d1,d2,d3,d4,d5,d6⟩:=eO rfl aG;have aO:=(hb.alloc hb.size _).trans (aG.mono (by have:=hb.size;simp;omega));have aS:Ok I w1:=(gZ.alloc _).below (Qn _) aG;clear aG c0 c1 c2 c3 c4 c5 c6;by_cases h0:aL x=0;case neg=>
   obtain⟨q,hq⟩:∃q,aL x=q:=⟨_,rfl⟩;have hn:(q !=0)=true:=by rw[←hq];simpa using h0
   have Hn:=Qh (show jV t=q by rw[bT.q,if_pos h0,hq]);rw[hq];clear hq h0;go_wp2;go_ret;exact⟨dK Hn.q.symm,aO⟩
  replace bT:=Qh (show jV t=_ by rw[bT.q,if_neg (show ¬aL x≠0 by omega)]);have Md:=Qh (Xkf h0);have mI:x.ag.length≤200:=(CY Md.q.1).1;rw[h0];clear h0;by_cases CW:x.aj≠1∧x.aj≠2∧x.aj≠3;case pos=>
   have Hn:=Qh (show jV t=10 by rw[bT.q,if_pos CW]);have qN:=Qh (Qy x.aj);have ql:inT x.aj=false:=by
    cases h:inT x.aj with
    |false=>rfl
    |true=>have:=jr.1 h;omega
   rw[ql]at qN;clear CW ql;go_wp2_with fail
   refine(qN.q _).mono ?_;rintro e w2 ⟨rfl,rfl⟩;go_wp2;go_ret;exact⟨dK Hn.q.symm,aO⟩
  replace bT:=Qh (show jV t=_ by rw[bT.q,if_neg CW]);have AL:=Qh (show x.aj=1∨x.aj=2∨x.aj=3 by omega);have IR:x.ag≠[]:=by
   rcases Md.q.2 with h|h
   ·exact h
   ·have:=AL.q;omega
  have pI:=Qh (fun w hw=>VV I hI x.ag (by omega) w hw);have Ed:=Qh (VQ Md.q.1 IR);have oI:=Qh (fun w hw=>Mc.q (iT x.ag) w hw);clear CW IR;have qN:=Qh (Qy x.aj);rw[jr.2 AL.q]at qN;go_wp2_with fail
  refine(qN.q _).mono ?_;rintro e w2 ⟨rfl,rfl⟩;by_cases Bi:k=0
  ·have hd:decide (0<k)=false:=Qf (by omega);have sW:k<1:=by omega
   replace bT:=Qh (show jV t=if bn t (iT x.ag)≠0 then bn t (iT x.ag)else dQ t (some x) (t.drop (k+1)) by rw[bT.q,if_pos Bi];rfl);clear Bi;have g0:=cell_regrown d0;have g1:=cell_regrown d1;go_wp2_with fail
   refine wp_region_quiet_below (by kernel_rfl) (by kernel_rfl) ?_;repeat(go_big_quiet_step ((fail)))
   refine wpQuiet_nil ?_;intro w4 dD;have bA:Below (w1).heap.size (w1) w4:=by
    obtain⟨pq,rfl⟩:=dD;exact below_regrown _ _ _
   clear dD;have eu:=aO.trans (bA.mono aO.size);have cK:Ok I w4:=aS.below (Qn _) bA;have d1:=bI bA d1;clear bA g0 g1;go_wp2_with fail
   refine(pI.q _ cK).mono ?_;rw[Ed.q];rintro e w5 ⟨rfl,dm⟩;have dG:=eu.trans (dm.mono eu.size);have dR:Ok I w5:=Ok.below cK (Qn _) dm;go_wp2_with fail
   refine(oI.q _ dR).mono ?_;rintro e w6 ⟨rfl,fC⟩;have iq:=dG.trans (fC.mono dG.size);by_cases tX:bn t (iT x.ag)=0
   ·have Hn:=Qh (show dQ t (if k+1=0 then none else t[k+1-1]?) (t.drop (k+1))=jV t by
     rw[bT.q,if_neg (show ¬bn t (iT x.ag)≠0 by omega),Nat.add_sub_cancel,JE.q];simp)
    rw[tX];clear tX;go_wp2;go_roundw;case rel=>exact⟨k+1,by omega,by go_num,Hn.q,VR wI.q hlt nP.q Md.q.1,iq⟩
    case measure=>simp[intOf];omega
   ·obtain⟨q,hq⟩:∃q,bn t (iT x.ag)=q:=⟨_,rfl⟩;have hn:(q !=0)=true:=by rw[←hq];simpa using tX
    have Hn:=Qh (show jV t=q by rw[bT.q,if_pos tX,hq]);rw[hq];clear hq tX;go_wp2;go_ret;exact⟨dK Hn.q.symm,iq⟩
  ·obtain⟨y,vb,vy,b',off',wF,jJ,dC,⟨_,e1,_,_,_,_,_⟩,_,_⟩:=uT Hv.q aS (k-1) (by omega);cases dC;have hd:decide (0<k)=true:=Qt (by omega);have GL:0<k:=by omega
   have hi:IntKind.i64.wrap ((k:Int)-1)=(k:Int)-1:=IntWalk.i64_in _ (by omega);have hj:0≤(k:Int)-1:=by omega
   have hm:((k:Int)-1).toNat=k-1:=by omega
   have UW:y.ag.length≤200:=(CY (wI.q y (by
    rw[←jJ];have:(t.take k)[k-1]'(by simp;omega)=t[k-1]:=List.getElem_take;rw[←this];exact List.getElem_mem _))).1
   replace bT:=Qh (show jV t=if !(ic (els y.ag) (els x.ag))then 14 else if bn t (iT x.ag)≠0 then bn t (iT x.ag)else dQ t (some x) (t.drop (k+1)) by
    rw[bT.q,if_neg Bi,List.getElem?_eq_getElem (by omega),jJ];rfl)
   have rV:=Qh (fun w hw=>PX I hI y.ag x.ag (by omega) (by omega) w hw);clear jJ Bi;have g1:=cell_regrown d1;have f1:=cell_regrown e1;cases hl:ic (els y.ag) (els x.ag)
   ·have Hn:=Qh (show jV t=14 by rw[bT.q,hl];rfl);have hc:=VP hl;rcases hc with hc|hc
    all_goals
     rw[hc]at rV;clear hc;go_wp2_with fail
     refine wp_region_quiet_below (by kernel_rfl) (by kernel_rfl) ?_;repeat(go_big_quiet_step ((with_reducible exact Calls.regrown_of (rV.q _ (aS.below (Qn _) (below_regrown _ _ _))))))
     refine wpQuiet_nil ?_;intro w4 dD;have bA:Below (w1).heap.size (w1) w4:=by
      obtain⟨pq,rfl⟩:=dD;exact below_regrown _ _ _
     clear dD;go_wp2;go_ret;exact⟨dK Hn.q.symm,aO.trans (bA.mono aO.size)⟩
   ·replace bT:=Qh (show jV t=if bn t (iT x.ag)≠0 then bn t (iT x.ag)else dQ t (some x) (t.drop (k+1)) by rw[bT.q,hl];rfl);rw[VO hl]at rV;clear hl;go_wp2_with fail
    refine wp_region_quiet_below (by kernel_rfl) (by kernel_rfl) ?_;repeat(go_big_quiet_step ((with_reducible exact Calls.regrown_of (rV.q _ (aS.below (Qn _) (below_regrown _ _ _))))))
    refine wpQuiet_nil ?_;intro w4 dD;have bA:Below (w1).heap.size (w1) w4:=by
     obtain⟨pq,rfl⟩:=dD;exact below_regrown _ _ _
    clear dD;have eu:=aO.trans (bA.mono aO.size);have cK:Ok I w4:=aS.below (Qn _) bA;have d1:=bI bA d1;clear bA g1 f1;go_wp2_with fail
    refine(pI.q _ cK).mono ?_;rw[Ed.q];rintro e w5 ⟨rfl,dm⟩;have dG:=eu.trans (dm.mono eu.size);have dR:Ok I w5:=Ok.below cK (Qn _) dm;go_wp2_with fail
    refine(oI.q _ dR).mono ?_;rintro e w6 ⟨rfl,fC⟩;have iq:=dG.trans (fC.mono dG.size);by_cases tX:bn t (iT x.ag)=0
    ·have Hn:=Qh (show dQ t (if k+1=0 then none else t[k+1-1]?) (t.drop (k+1))=jV t by
      rw[bT.q,if_neg (show ¬bn t (iT x.ag)≠0 by omega),Nat.add_sub_cancel,JE.q];simp)
     rw[tX];clear tX;go_wp2;go_roundw;case rel=>exact⟨k+1,by omega,by go_num,Hn.q,VR wI.q hlt nP.q Md.q.1,iq⟩
     case measure=>simp[intOf];omega
    ·obtain⟨q,hq⟩:∃q,bn t (iT x.ag)=q:=⟨_,rfl⟩;have hn:(q !=0)=true:=by rw[←hq];simpa using tX
     have Hn:=Qh (show jV t=q by rw[bT.q,if_pos tX,hq]);rw[hq];clear hq tX;go_wp2;go_ret;exact⟨dK Hn.q.symm,iq⟩
