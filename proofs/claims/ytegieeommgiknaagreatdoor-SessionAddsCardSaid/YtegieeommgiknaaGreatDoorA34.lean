/- Lemmas for the claim's theorem;conditions: as each says. -/
import Derived.Test.YtegieeommgiknaaGreatDoorA33
set_option maxHeartbeats 0
set_option maxRecDepth 100000
set_option linter.all false
namespace Go.Proofs.YtegieeommgiknaaGreatDoor
open Go.RowKit
variable{c:ic}{l:List og}{J:IH}{w w':World}{B:Nat}{d:fU}{ve vk vt vh:Value}{k:Nat}{x:og}
theorem nG.ext{J':IH}(h:nG J w B d ve vk vt vh)(hb:Below w.heap.size w w')(hx:Ext w.heap.size J J')(iZ:Ok J' w'):nG J' w' B d ve vk vt vh:=
 ⟨iZ,(hx _ h.lt).trans h.no,h.rd.mono (fun b c hc=>hx.keep h.ok (Qn _) b c hc),(hb.block _ h.lt).trans h.row⟩
theorem nG.own(h:nG J w B d ve vk vt vh){g:Nat}(hg:w.grownBy w' (some g))(hn:J g=none)(bq:B≠g):nG J w' B d ve vk vt vh:=
 ⟨h.ok.grown hg (fun k e=>by injection e with e;subst e;exact hn),h.no,h.rd,(hg.block _ h.lt (fun e=>by injection e with e;exact bq e)).trans h.row⟩
abbrev OD(d dn:fU)(ve vk vt vh:Value)(b off n lc k:Nat)(c:ic)(va:Value)(rn:Int)(x:((Option Addr×Nat)×(Option Addr×Nat)×(Option Addr×Nat)×(Option Addr×Nat))×Nat):List (Option Tmp×Value):=
 [(some 33,gP d ve vk vt vh),(some 34,.slice (some ⟨b,off,none⟩) n lc),(some 35,.int .i64 (k:Int)),(some 36,.pointer (some ⟨b,off+k*5,none⟩)),(some 37,Bj c va),(some 38,.tuple #[gP dn (.slice x.1.1.1 dn.aB.length x.1.1.2) (.slice x.1.2.1.1 dn.bf.aJ.length x.1.2.1.2) (.slice x.1.2.2.1.1 dn.aF.length x.1.2.2.1.2) (.slice x.1.2.2.2.1 dn.holds.length x.1.2.2.2.2),.int .i64 rn]),(some 32,.tuple #[gP dn (.slice x.1.1.1 dn.aB.length x.1.1.2) (.slice x.1.2.1.1 dn.bf.aJ.length x.1.2.1.2) (.slice x.1.2.2.1.1 dn.aF.length x.1.2.2.1.2) (.slice x.1.2.2.2.1 dn.holds.length x.1.2.2.2.2),.int .i64 rn]),(some 39,gP dn (.slice x.1.1.1 dn.aB.length x.1.1.2) (.slice x.1.2.1.1 dn.bf.aJ.length x.1.2.1.2) (.slice x.1.2.2.1.1 dn.aF.length x.1.2.2.1.2) (.slice x.1.2.2.2.1 dn.holds.length x.1.2.2.2.2)),(some 40,.int .i64 rn),(some 12,.pointer (some ⟨x.2,0,none⟩)),(none,undef),(some 13,.int .i64 rn)]
abbrev KM(ai dt sp:Int)(so:Option Addr)(sc:Nat)(L L2:List bV)(d:fU)(ve vk vt vh:Value)(x:(Option Addr×Nat)×(Option Addr×Nat)×Nat):List (Option Tmp×Value):=
 [(some 48,bW ai dt sp (.slice so L.length sc)),(some 49,gP d ve vk vt vh),(some 50,nD (bF d) (.slice x.1.1 (bF d).aB.length x.1.2)),(some 51,.tuple #[bW ai dt sp (.slice x.2.1.1 L2.length x.2.1.2),.int .i64 0]),(some 47,.tuple #[bW ai dt sp (.slice x.2.1.1 L2.length x.2.1.2),.int .i64 0]),(some 52,bW ai dt sp (.slice x.2.1.1 L2.length x.2.1.2)),(some 53,.int .i64 0),(some 14,.pointer (some ⟨x.2.2,0,none⟩)),(none,undef),(some 15,.int .i64 0)]
def TS(l:List og):List af:=(l.map fun b=>b.fH.map fun c=>c.aI).flatten
theorem Xvy(hk:k<l.length)(hx:l[k]=x):jo (l.take k)+x.fH.length≤jo l:=by
 rw[←OC hk hx];exact TR l (k+1)
theorem OE{j:Nat}(hk:k<l.length)(hx:l[k]=x)(hj:j<x.fH.length)(hc:x.fH[j]=c)(h:iL c=true):fI l=1:=by
 unfold fI vv;rw[Rt (p:=fun b:og=>b.fH.any iL) hk hx (Rt hj hc h)];rfl
theorem Xyi(h:250<c.aj.length):iL c=true:=by unfold iL;rw[Qt h];simp
theorem Xyh(h:250<c.target.length):iL c=true:=by unfold iL;rw[Qt h];simp
theorem Xyg(h:20<c.ag.length):iL c=true:=by unfold iL;rw[Qt h];simp
theorem Xyf(h:600<c.aI.length):iL c=true:=by unfold iL;rw[Qt h];simp
theorem TT(h:c.ag.any lK=true):iL c=true:=by unfold iL;rw[h];simp
theorem Xye(h1:¬250<c.aj.length)(h2:¬250<c.target.length)(h3:¬20<c.ag.length)(h4:¬600<c.aI.length)(h5:c.ag.any lK=false):iL c=false:=by
 unfold iL;rw[Qf h1,Qf h2,Qf h3,Qf h4,h5];rfl
theorem OG(h:10<jo l):fI l=1:=by
 unfold fI vv;rw[Qt h];simp
theorem OH(h:4<l.length):fI l=1:=by
 unfold fI vv;rw[Qt h];simp
theorem OI(h:(l.any fun b=>b.fH.any iL)=false)(ht:jo l≤10)(hl:l.length≤4):fI l=0:=by
 unfold fI vv;rw[h,Qf (by omega:¬10<jo l),Qf (by omega:¬4<l.length)];rfl
theorem Xly(I:IH)(v:Value)(l:List og)(hv:aZ wK I v l)(w:World)(hw:Ok I w):
 Calls Tryz.prog 5 #[v] w fun e w'=>e= .returned (.int .i64 (fI l))∧Below w.heap.size w w':=by
 have hlen:=hv.bL;obtain⟨ao,cap,rfl,_,_,_⟩:=id hv;have Hv:=Qh hv;clear hv;go_enter Tryz.func5,Tryz.ntmps5
 go_wp2_with fail
 go_loopw [3,4,5,6,7] (fun s3 s4 _ _ _ wr=> ∃k:Nat,k≤l.length∧s4= .int .i64 k∧s3= .int .i64 (30*(jo (l.take k):Int))∧jo (l.take k)≤10∧((l.take k).any fun b=>b.fH.any iL)=false∧Below w.heap.size w wr) (fun _ i _ _ _ _=>l.length-(intOf i).toNat)
 case atStart=>exact⟨0,Nat.zero_le _,rfl,rfl,Nat.zero_le _,rfl,Qb _ _⟩
 case round=>
  obtain⟨k,hk,rfl,rfl,pE,hr,hb⟩:=hrel;have Hr:=Qh hr;clear hr;by_cases hlt:k<l.length
  ·obtain⟨x,vc,b,off,cap',cB,dC,c0,c1,h1⟩:=XI Hv.O hw k hlt;cases dC;have bO:=h1.bL;have pM:=Qh cB;have H1:=Qh h1;have Ii:=Qh (Xvy hlt cB);have OJ:=Qh (OC hlt cB);have jq:=Qh (Ru (p:=fun b:og=>b.fH.any iL) hlt cB Hr.O);obtain⟨oc,cc,rfl,_,_,_⟩:=id h1;have C1:=Qh c1;clear c1;have c1:=aV hb C1.O;obtain⟨T,hT⟩:∃T,T=jo (l.take k):=⟨_,rfl⟩;rw[←hT]at Ii OJ pE ⊢;clear cB h1 c0 Hr;go_wp2_with fail
   go_loopw [3,5,6,7] (fun s3 s5 _ _ wr=> ∃j:Nat,j≤x.fH.length∧s5= .int .i64 j∧s3= .int .i64 (30*((T+j:Nat):Int))∧T+j≤10∧((x.fH.take j).any iL)=false∧Below w.heap.size w wr) (fun _ i _ _ _=>x.fH.length-(intOf i).toNat)
   case atStart=>exact⟨0,Nat.zero_le _,rfl,rfl,pE,rfl,hb⟩
   case round=>
    clear hb c1 pE;obtain⟨j,hj,rfl,rfl,htj,hr,hb⟩:=hrel;have Hr:=Qh hr;clear hr;have c1:=aV hb C1.O;by_cases uj:j<x.fH.length
    ·obtain⟨c,va,b2,mh,cap2,qm,OL,hg,h2⟩:=Rs H1.O hw j uj;cases OL;obtain⟨oa,ca,rfl,_,_,_⟩:=id h2;obtain⟨g0,g1,g2,g3,g4⟩:=hg.aR hb;have aG:=hb.alloc hb.size (.cells #[.int .i64 c.av,S c.aj,.slice oa c.ag.length ca,S c.target,S c.aI] 53);have kD:=Qh (OE hlt pM.O uj qm);have m1:IntKind.i64.wrap (30*((T+j:Nat):Int)+30)=30*((T+j:Nat):Int)+30:=IntWalk.i64_in _ (by omega);by_cases q1:250<c.aj.length
     ·have d1:decide ((250:Int)<(c.aj.length:Int))=true:=Qt (by omega);have Hn:=Qh (show fI l=1 from(kD.O (Xyi q1)));clear qm kD;go_wp2;go_ret;exact⟨dZ Hn.O.symm,aG⟩
     have d1:decide ((250:Int)<(c.aj.length:Int))=false:=Qf (by omega);by_cases q2:250<c.target.length
     ·have d2:decide ((250:Int)<(c.target.length:Int))=true:=Qt (by omega);have Hn:=Qh (show fI l=1 from(kD.O (Xyh q2)));clear qm kD;go_wp2;go_ret;exact⟨dZ Hn.O.symm,aG⟩
     have d2:decide ((250:Int)<(c.target.length:Int))=false:=Qf (by omega);by_cases q3:20<c.ag.length
     ·have d3:decide ((20:Int)<(c.ag.length:Int))=true:=Qt (by omega);have Hn:=Qh (show fI l=1 from(kD.O (Xyg q3)));clear qm kD;go_wp2;go_ret;exact⟨dZ Hn.O.symm,aG⟩
     have d3:decide ((20:Int)<(c.ag.length:Int))=false:=Qf (by omega);by_cases q4:600<c.aI.length
     ·have d4:decide ((600:Int)<(c.aI.length:Int))=true:=Qt (by omega);have Hn:=Qh (show fI l=1 from(kD.O (Xyf q4)));clear qm kD;go_wp2;go_ret;exact⟨dZ Hn.O.symm,aG⟩
     have d4:decide ((600:Int)<(c.aI.length:Int))=false:=Qf (by omega);have hto:=Ii.O;by_cases q5:T+j=10
     ·have d5:decide ((300:Int)<30*((T+j:Nat):Int)+30)=true:=Qt (by omega);have Hn:=Qh (show fI l=1 from(OG (by omega)));clear qm kD;go_wp2;go_ret;exact⟨dZ Hn.O.symm,aG⟩
     have d5:decide ((300:Int)<30*((T+j:Nat):Int)+30)=false:=Qf (by omega);have Hcc:=Qh (Xye q1 q2 q3 q4);have Hs5:=Qh (fun h=>Ru (p:=iL) uj qm Hr.O (Hcc.O h));have H2:=Qh h2;have HB:=Qh (show zG (wr.alloc (.cells #[.int .i64 c.av,S c.aj,.slice oa c.ag.length ca,S c.target,S c.aI] 53)) wr.heap.size c (.slice oa c.ag.length ca)from chgB_row (heap_alloc_new _ _));have ug:=h2.bL;obtain⟨n6,ui⟩:∃n6,n6=wr.heap.size:=⟨_,rfl⟩;rw[←ui]at HB;clear h2 qm q1 q2 q3 q4;go_wp2_with fail
     rw[←ui];clear ui hg g0 g1 g2 g3 g4;go_loopw [7] (fun s7 wr=> ∃m:Nat,m≤c.ag.length∧s7= .int .i64 m∧(c.ag.take m).any lK=false∧zG wr n6 c (.slice oa c.ag.length ca)∧Below w.heap.size w wr) (fun i _=>c.ag.length-(intOf i).toNat)
     case atStart=>exact⟨0,Nat.zero_le _,rfl,rfl,HB.O,aG⟩
     case round=>
      clear aG HB hb c1;obtain⟨m,hm,rfl,hr,hB,hb⟩:=hrel;have Ij:=Qh hr;have HB:=Qh hB;clear hr hB;obtain⟨g0,g1,g2,g3,g4⟩:=HB.O;by_cases QF:m<c.ag.length
      ·obtain⟨y,b3,xq,Ig,kK,OM,tq,rJ⟩:=yD H2.O hw m QF;cases OM;have y0:=aV hb tq;have y1:=aV hb rJ;have AB:=Qh (Ru (p:=lK) QF kK Ij.O);have TU:=Qh (Rt (p:=lK) QF kK);clear tq rJ kK;by_cases r1:80<y.k.length
       ·have e1:decide ((80:Int)<(y.k.length:Int))=true:=Qt (by omega);have Hn:=Qh (show fI l=1 from kD.O (TT (TU.O (by unfold lK;rw[Qt r1];rfl))));clear kD r1;go_wp2;go_ret;exact⟨dZ Hn.O.symm,hb⟩
       have e1:decide ((80:Int)<(y.k.length:Int))=false:=Qf (by omega);by_cases r2:80<y.v.length
       ·have e2:decide ((80:Int)<(y.v.length:Int))=true:=Qt (by omega);have Hn:=Qh (show fI l=1 from kD.O (TT (TU.O (by unfold lK;rw[Qt r2];simp))));clear kD r1 r2;go_wp2;go_ret;exact⟨dZ Hn.O.symm,hb⟩
       have e2:decide ((80:Int)<(y.v.length:Int))=false:=Qf (by omega);have Hn:=Qh (AB.O (by unfold lK;rw[Qf r1,Qf r2];rfl));clear r1 r2;go_wp2;go_roundw;case rel=>exact⟨m+1,by omega,by go_num,Hn.O,HB.O,hb⟩
       case measure=>simp[intOf];omega
      ·have Hn:=Qh (Hs5.O (by have:=Ij.O;rwa[List.take_of_length_le (by omega)]at this));go_wp2;go_roundw;case rel=>exact⟨j+1,by omega,by go_num,by simp;omega,by omega,Hn.O,hb⟩
       case measure=>simp[intOf];omega
    ·have GV:j=x.fH.length:=by omega
     subst GV;have h:=Hr.O;rw[List.take_length]at h;have Hn:=Qh (jq.O h);clear h;go_wp2;go_roundw;case rel=>exact⟨k+1,by omega,by go_num,by rw[OJ.O],by rw[OJ.O];exact htj,Hn.O,hb⟩
     case measure=>simp[intOf];omega
  ·have mJ:k=l.length:=by omega
   subst mJ;rw[List.take_length]at pE Hr;by_cases q:4<l.length
   ·have d1:decide ((4:Int)<(l.length:Int))=true:=Qt (by omega);have Hn:=Qh (OH q);go_wp2;go_ret;exact⟨dZ Hn.O.symm,hb⟩
   ·have d1:decide ((4:Int)<(l.length:Int))=false:=Qf (by omega);have Hn:=Qh (OI Hr.O pE (by omega));go_wp2;go_ret;exact⟨dZ Hn.O.symm,hb⟩
open Go.RowKit Lib
theorem Xve:(Tryz.prog.info? 36).map (fun i=>(i.zero,i.size,i.bytes))=some (some (.agg #[.int .i64 0,.slice none 0 0]),2,32):=by kernel_rfl
theorem Xpp:eZ Tryz.prog 22 36 wK 32:=eZ.of Tryz.underlying22 Xve rfl (by decide) rfl
theorem Xxi{cs:List ic}(h:∀b∈l,b.In)(hc:∀c∈cs,c.In):∀b∈l++[⟨0,cs⟩],b.In:=fun b hb=>by
 rcases List.mem_append.1 hb with hb|hb
 ·exact h b hb
 ·rw[List.mem_singleton.1 hb];exact⟨by show(-9223372036854775808:Int)≤0;omega,by show(0:Int)≤9223372036854775807;omega,hc⟩
abbrev nuL(n:Nat)(p:af)(c:UInt8)(x:Nat):List (Option Tmp×Value):=
 [(some 10,.int .i64 (n:Int)),(some 11,.int .i64 ((n:Int) / 10)),(some 12,S p),(some 13,.int .i64 (n:Int)),(some 14,.int .i64 ((n:Int)%10)),(some 15,.int .i64 (48+(n:Int)%10)),(some 16,.int .u8 (48+(n:Int)%10)),(some 17,.slice (some ⟨x,0,none⟩) 1 1),(some 18,S [c]),(some 19,S (p++[c])),(some 2,S (p++[c]))]
