/- Lemmas for the claim's theorem;conditions: as each says. -/
import Derived.Test.YtegieeommgiknaaGreatDoorU26
import Derived.Deep.RegionHeld3
set_option maxHeartbeats 0
set_option maxRecDepth 100000
set_option linter.all false
namespace Go.Proofs.YtegieeommgiknaaGreatDoor
open Go.RowKit
variable{h:Ho}{l:List Ho}{k:Nat}{x:Ho}
theorem aZ.We{α:Type}{T:Ty α}{I:IH}{l:List α}{b off m cap:Nat}(h:aZ T I (.slice (some ⟨b,off,none⟩) m cap) l){n:Nat}(hn:n≤l.length):aZ T I (.slice (some ⟨b,off+n*T.size,none⟩) (m-n) (cap-n)) (l.drop n):=by
 obtain⟨ao,c,e,h1,h2,h3⟩:=h;cases e;refine⟨_,_,by rw[List.length_drop],by rw[List.length_drop];omega,by omega,fun hl=> ?_⟩;rw[List.length_drop]at hl;obtain⟨b',off',arr,e1,e2,e3⟩:=h3 (by omega);cases e1;refine⟨_,_,_,rfl,e2,fun i hi=> ?_⟩;rw[List.length_drop]at hi;obtain⟨cs,k1,k2⟩:=e3 (n+i) (by omega);refine⟨cs,by rw[List.getElem_drop];exact k1,fun j u hu=> ?_⟩;have:=k2 j u hu;rw[Nat.add_mul]at this;rw[←this];congr 1;omega
theorem Xso(hk:k<l.length)(hx:l[k]=x)(hc:¬jQ h.p x.p<0)(hr:kF h l=l.take k++kF h (l.drop k)):kF h l=l.take (k+1)++kF h (l.drop (k+1)):=by
 have hlt:kZ (els h.p) (els x.p)=false:=by
  cases q:kZ (els h.p) (els x.p)with
  |false=>rfl
  |true=>exact absurd (by unfold jQ;rw[q];simp) hc
 rw[hr,List.drop_eq_getElem_cons hk,hx,kF,if_neg (by simp[hlt]),List.take_succ_eq_append_getElem hk,hx];simp
theorem Xus(hk:k<l.length)(hx:l[k]=x)(hc:jQ h.p x.p<0)(hr:kF h l=l.take k++kF h (l.drop k)):kF h l=(([]++l.take k)++[h])++l.drop k:=by
 have hlt:kZ (els h.p) (els x.p)=true:=by
  cases q:kZ (els h.p) (els x.p)with
  |true=>rfl
  |false=>
   exfalso;unfold jQ at hc;rw[q]at hc;simp only[Bool.false_eq_true,if_false]at hc;split at hc<;>omega
 rw[hr];conv=>lhs;rw[List.drop_eq_getElem_cons hk,hx,kF,if_pos hlt]
 rw[List.drop_eq_getElem_cons hk,hx];simp
theorem SE(W:World)(a b:Value)(t:TypeId):∀(j:Nat) (u:Value),[a,b][j]?=some u→(W.alloc (.cells #[a,b] t)).cell? ⟨W.heap.size,j,none⟩=some u:=fun j u hu=>by
 rw[World.cell?_alloc_new];simpa using hu
theorem Xgw(I:IH)(v:Value)(l:List Ho)(hv:aZ ku I v l)(hk:∀x∈l,x.p.length≤4294967280)(hn:l.length≤100000)(h:Ho)(hp:h.p.length≤4294967280)(w:World)(hw:Ok I w):
 Calls Tryz.prog 96 #[v,O7 h] w fun e w'=> ∃v',e= .returned v'∧aQ ku 106 I w' w.heap.size v' (kF h l)∧Below w.heap.size w w':=by
 obtain⟨ao,cap,rfl,fu,iv,_⟩:=id hv;have Hv:=Qh hv;have Hk:=Qh hk;clear hv hk;have AJ:Ok I (w.alloc (.cells #[S h.p,.int .i64 h.u] 106)):=hw.alloc _;go_enter Tryz.func96,Tryz.ntmps96
 go_wp2_with fail
 go_loopw [5] (fun s5 wr=> ∃k:Nat,k≤l.length∧s5= .int .i64 k∧kF h l=l.take k++kF h (l.drop k)∧Below (w.alloc (.cells #[S h.p,.int .i64 h.u] 106)).heap.size (w.alloc (.cells #[S h.p,.int .i64 h.u] 106)) wr) (fun i _=>l.length-(intOf i).toNat)
 case atStart=>exact⟨0,Nat.zero_le _,rfl,by simp,Qb _ _⟩
 case round=>
  obtain⟨k,hk,rfl,hr,hb⟩:=hrel;have Hr:=Qh hr;clear hr;have eX:Ok I wr:=AJ.below (Qn _) hb;have aT:Below w.heap.size w wr:=((Qb w.heap.size w).alloc (Qn _) _).trans (hb.mono (by simp));have UG:w.heap.size<wr.heap.size:=by have:=hb.size;simp at this;omega
  have k0:wr.cell? ⟨w.heap.size,0,none⟩=some (S h.p):=aV hb (by simp);have k1:wr.cell? ⟨w.heap.size,1,none⟩=some (.int .i64 h.u):=aV hb (by simp);by_cases hlt:k<l.length
  ·obtain⟨x,b,off,cap',cB,dC,x0,x1⟩:=yu Hv.O eX k hlt;cases dC;have wL:=Qh (fun w hw=>X8 I h.p x.p hp (Hk.O x (by rw[←cB];exact List.getElem_mem hlt)) w hw);have g0:=cell_regrown k0;have y0:=cell_regrown x0;have AB:=Qh (fun hc=>Xso hlt cB hc Hr.O);have kD:=Qh (fun hc=>Xus hlt cB hc Hr.O);obtain⟨c,hc⟩:∃c,jQ h.p x.p=c:=⟨_,rfl⟩;rw[hc]at wL AB kD;clear cB hc Hr;go_wp2_with fail
   refine wp_region_quiet_below (by kernel_rfl) (by kernel_rfl) ?_;repeat(go_big_quiet_step ((with_reducible exact Calls.regrown_of (wL.O _ (eX.below (Qn _) (below_regrown _ _ _))))))
   refine wpQuiet_nil ?_;intro w2 bJ;have aL:Below (wr).heap.size (wr) w2:=by
    obtain⟨pq,rfl⟩:=bJ;exact below_regrown _ _ _
   clear bJ;have bH:=hb.trans (aL.mono hb.size);have Mm:=aT.trans (aL.mono aT.size);have bn:Ok I w2:=eX.below (Qn _) aL;have k0:=aV aL k0;have k1:=aV aL k1;have gJ:w.heap.size<w2.heap.size:=by have:=aL.size;omega
   clear aL hb aT g0 y0 x0 x1 eX;by_cases tq:c<0
   ·have Hn:=Qh (kD.O tq);have hci:c<(0:Int):=tq;have FP:=Qh (fun(W:World) (hW:Ok I W)=>jY.vX (T:=ku) (Hv.O.Ex (n:=k) (by omega)) hW (by decide));have Hs3:=Qh (fun(W:World) (hW:Ok I W)=>jY.vX (T:=ku) (Hv.O.We (n:=k) (by omega)) hW (by decide));clear kD AB tq;have jN:∀b,w.heap.size+1≤b→I b=none:=fun b hb=>hw.fresh (by omega);have JM:aQ ku 106 I (w2.drew.alloc (.cells #[] 106)) (w.heap.size+1) (.slice (some ⟨w2.heap.size,0,none⟩) 0 0) []:=(SC w2.drew w2.heap.size rfl).lower (by omega);have Mw:aQ ku 106 I ((w2.drew.alloc (.cells #[] 106)).alloc (.cells #[S h.p,.int .i64 h.u] 106)) (w.heap.size+1) (.slice (some ⟨w2.heap.size,0,none⟩) 0 0) []:=JM.alloc _;have LZ:aQ ku 106 I ((w2.drew.alloc (.cells #[S h.p,.int .i64 h.u] 106)).alloc (.cells #[] 106)) (w.heap.size+1) (.slice (some ⟨w2.heap.size+1,0,none⟩) 0 0) []:=(SC (w2.drew.alloc (.cells #[S h.p,.int .i64 h.u] 106)) (w2.heap.size+1) (by simp)).lower (by omega);have hD:Below w.heap.size w w2.drew:=Mm.drew;have AL:Below w.heap.size w (w2.drew.alloc (.cells #[] 106)):=hD.alloc hD.size _;have JH:Below w.heap.size w ((w2.drew.alloc (.cells #[] 106)).alloc (.cells #[S h.p,.int .i64 h.u] 106)):=AL.alloc AL.size _;have hD3:Below w.heap.size w ((w2.drew.alloc (.cells #[S h.p,.int .i64 h.u] 106)).alloc (.cells #[] 106)):=(hD.alloc hD.size (.cells #[S h.p,.int .i64 h.u] 106)).alloc (hD.alloc hD.size (.cells #[S h.p,.int .i64 h.u] 106)).size _;have Qw:Ok I (w2.drew.alloc (.cells #[] 106)):=bn.drew.alloc _;have Xk:Ok I ((w2.drew.alloc (.cells #[] 106)).alloc (.cells #[S h.p,.int .i64 h.u] 106)):=Qw.alloc _;have Xl:Ok I ((w2.drew.alloc (.cells #[S h.p,.int .i64 h.u] 106)).alloc (.cells #[] 106)):=(bn.drew.alloc _).alloc _;have Tc:∀(j:Nat) (u:Value),[S h.p,.int .i64 h.u][j]?=some u→((w2.drew.alloc (.cells #[] 106)).alloc (.cells #[S h.p,.int .i64 h.u] 106)).cell? ⟨w2.heap.size+1,j,none⟩=some u:=by simpa using SE (w2.drew.alloc (.cells #[] 106)) (S h.p) (.int .i64 h.u) 106
    have hC3:∀(j:Nat) (u:Value),[S h.p,.int .i64 h.u][j]?=some u→((w2.drew.alloc (.cells #[S h.p,.int .i64 h.u] 106)).alloc (.cells #[] 106)).cell? ⟨w2.heap.size,j,none⟩=some u:=fun j u hu=>kM _ (SE w2.drew (S h.p) (.int .i64 h.u) 106 j u hu);have hCn:=fun W=>SE W (S h.p) (.int .i64 h.u) 106;have i0:(0:Int)≤k:=by omega
    have i1:(k:Int)≤l.length:=by omega
    have i2:(l.length:Int)≤cap:=by omega
    have i3:(k:Int)≤cap:=by omega
    have hck:¬cap=k:=by omega
    have iw:l.length≤100000:=hn;go_wp2_with fail
    go_region_held3 (fun W=>W.cell? ⟨w.heap.size,0,none⟩=some (S h.p)∧W.cell? ⟨w.heap.size,1,none⟩=some (.int .i64 h.u))
    (first
      |go_keep
      |(go_split_ands;refine⟨?_,?_⟩<;>(refine fC hg1 hne1 ?_;assumption))
      |(go_split_ands;refine⟨?_,?_⟩<;>(refine fC hg2 hne2 ?_;assumption))
      |(go_split_ands;refine⟨?_,?_⟩<;>(refine fC hg5 hne5 ?_;assumption)))
    (first
      |(refine I6 (w:=w2.drew.alloc (.cells #[] 106)) EE (by rfl) _ _ (by rfl) (by rfl) JM (by rfl) (FP.O _ Qw) (by simp;omega) (by simp;omega) (by simp;omega) ?_
        intro v1 w3 ek hg1;have hne1:=JM.dm (show w.heap.size<w.heap.size+1 by omega);have dO:=Below.own AL hg1 JM (by omega) (by simp;omega);have fo:=Ok.own Qw hg1 JM jN;have yn:=hg1.size;simp at yn)
      |(refine I6 (w:=(w2.drew.alloc (.cells #[] 106)).alloc (.cells #[S h.p,.int .i64 h.u] 106)) EE (by rfl) _ _ (by rfl) (by rfl) Mw (by rfl) (FP.O _ Xk) (by simp;omega) (by simp;omega) (by simp;omega) ?_
        intro v1 w3 ek hg1;have hne1:=Mw.dm (show w.heap.size<w.heap.size+1 by omega);have dO:=Below.own JH hg1 Mw (by omega) (by simp;omega);have fo:=Ok.own Xk hg1 Mw jN;have yn:=hg1.size;simp at yn;have Q0:∀(j:Nat) (u:Value),[S h.p,.int .i64 h.u][j]?=some u→w3.cell? ⟨w2.heap.size+1,j,none⟩=some u:=fun j u hu=>fC hg1 (by simp[Value.ownBlock]) (Tc j u hu))
      |(refine I6 (w:=(w2.drew.alloc (.cells #[S h.p,.int .i64 h.u] 106)).alloc (.cells #[] 106)) EE (by rfl) _ _ (by rfl) (by rfl) LZ (by rfl) (FP.O _ Xl) (by simp;omega) (by simp;omega) (by simp;omega) ?_
        intro v1 w3 ek hg1;have hne1:=LZ.dm (show w.heap.size<w.heap.size+1 by omega);have dO:=Below.own hD3 hg1 LZ (by omega) (by simp;omega);have fo:=Ok.own Xl hg1 LZ jN;have yn:=hg1.size;simp at yn;have Q0:∀(j:Nat) (u:Value),[S h.p,.int .i64 h.u][j]?=some u→w3.cell? ⟨w2.heap.size,j,none⟩=some u:=fun j u hu=>fC hg1 (by simp[Value.ownBlock]) (hC3 j u hu))
      |(refine I6 (w:=w3.alloc (.cells #[S h.p,.int .i64 h.u] 106)) EE (by rfl) _ _ (by rfl) (by rfl) (ek.alloc (.cells #[S h.p,.int .i64 h.u] 106)) (by rfl) (jY.mo (x:=h) (cs:=[S h.p,.int .i64 h.u]) rfl (hCn w3)) (by simp;omega) (by simp;omega) (by(try simp);omega) ?_
        intro v2 w4 gq hg2;have hne2:=aQ.dm (ek.alloc (.cells #[S h.p,.int .i64 h.u] 106)) (show w.heap.size<w.heap.size+1 by omega);have aS:=Below.own (dO.alloc dO.size (.cells #[S h.p,.int .i64 h.u] 106)) hg2 (ek.alloc (.cells #[S h.p,.int .i64 h.u] 106)) (by omega) (by(try simp);omega);have dz:=Ok.own (fo.alloc (.cells #[S h.p,.int .i64 h.u] 106)) hg2 (ek.alloc (.cells #[S h.p,.int .i64 h.u] 106)) jN;have Cv:=hg2.size
        (try simp at Cv))
      |(refine I6 (w:=w3) EE (by rfl) _ _ (by rfl) (by rfl) ek (by rfl) (jY.mo (x:=h) (cs:=[S h.p,.int .i64 h.u]) rfl Q0) (by simp;omega) (by simp;omega) (by(try simp);omega) ?_
        intro v2 w4 gq hg2;have hne2:=aQ.dm ek (show w.heap.size<w.heap.size+1 by omega);have aS:=Below.own dO hg2 ek (by omega) (by(try simp);omega);have dz:=Ok.own fo hg2 ek jN;have Cv:=hg2.size
        (try simp at Cv))
      |(refine I6 (w:=w4) EE (by rfl) _ _ (by rfl) (by rfl) gq (by rfl) (Hs3.O _ dz) (by simp;omega) (by simp;omega) (by omega) ?_
        intro v5 w5 iV hg5;have hne5:=gq.dm (show w.heap.size<w.heap.size+1 by omega);have df:=Below.own aS hg5 gq (by omega) (by omega)))
    all_goals
     go_wp2;go_ret;exact⟨v5,rfl,(iV.lower (by omega)).wh (by rw[Hn.O]),df⟩
   ·have Hn:=Qh (AB.O (by omega));have hci:¬c<(0:Int):=tq;clear kD AB tq;go_wp2;go_roundw;case rel=>exact⟨k+1,by omega,by go_num,Hn.O,bH⟩
    case measure=>simp[intOf];omega
  ·have uw:=Qh (show kF h l=([]++l)++[h] by
    rw[Hr.O,List.drop_of_length_le (by omega),List.take_of_length_le (by omega),kF];simp)
   have FP:=Qh (fun(W:World) (hW:Ok I W)=>jY.vX (T:=ku) Hv.O hW (by decide));have gJ:=UG;have jN:∀b,w.heap.size+1≤b→I b=none:=fun b hb=>hw.fresh (by omega);have JM:aQ ku 106 I (wr.drew.alloc (.cells #[] 106)) (w.heap.size+1) (.slice (some ⟨wr.heap.size,0,none⟩) 0 0) []:=(SC wr.drew wr.heap.size rfl).lower (by omega);have Mw:aQ ku 106 I ((wr.drew.alloc (.cells #[] 106)).alloc (.cells #[S h.p,.int .i64 h.u] 106)) (w.heap.size+1) (.slice (some ⟨wr.heap.size,0,none⟩) 0 0) []:=JM.alloc _;have LZ:aQ ku 106 I ((wr.drew.alloc (.cells #[S h.p,.int .i64 h.u] 106)).alloc (.cells #[] 106)) (w.heap.size+1) (.slice (some ⟨wr.heap.size+1,0,none⟩) 0 0) []:=(SC (wr.drew.alloc (.cells #[S h.p,.int .i64 h.u] 106)) (wr.heap.size+1) (by simp)).lower (by omega);have hD:Below w.heap.size w wr.drew:=aT.drew;have AL:Below w.heap.size w (wr.drew.alloc (.cells #[] 106)):=hD.alloc hD.size _;have JH:Below w.heap.size w ((wr.drew.alloc (.cells #[] 106)).alloc (.cells #[S h.p,.int .i64 h.u] 106)):=AL.alloc AL.size _;have hD3:Below w.heap.size w ((wr.drew.alloc (.cells #[S h.p,.int .i64 h.u] 106)).alloc (.cells #[] 106)):=(hD.alloc hD.size (.cells #[S h.p,.int .i64 h.u] 106)).alloc (hD.alloc hD.size (.cells #[S h.p,.int .i64 h.u] 106)).size _;have Qw:Ok I (wr.drew.alloc (.cells #[] 106)):=eX.drew.alloc _;have Xk:Ok I ((wr.drew.alloc (.cells #[] 106)).alloc (.cells #[S h.p,.int .i64 h.u] 106)):=Qw.alloc _;have Xl:Ok I ((wr.drew.alloc (.cells #[S h.p,.int .i64 h.u] 106)).alloc (.cells #[] 106)):=(eX.drew.alloc _).alloc _;have Tc:∀(j:Nat) (u:Value),[S h.p,.int .i64 h.u][j]?=some u→((wr.drew.alloc (.cells #[] 106)).alloc (.cells #[S h.p,.int .i64 h.u] 106)).cell? ⟨wr.heap.size+1,j,none⟩=some u:=by simpa using SE (wr.drew.alloc (.cells #[] 106)) (S h.p) (.int .i64 h.u) 106
   have hC3:∀(j:Nat) (u:Value),[S h.p,.int .i64 h.u][j]?=some u→((wr.drew.alloc (.cells #[S h.p,.int .i64 h.u] 106)).alloc (.cells #[] 106)).cell? ⟨wr.heap.size,j,none⟩=some u:=fun j u hu=>kM _ (SE wr.drew (S h.p) (.int .i64 h.u) 106 j u hu);have hCn:=fun W=>SE W (S h.p) (.int .i64 h.u) 106;have i0:(0:Int)≤k:=by omega
   have i1:(k:Int)≤l.length:=by omega
   have i2:(l.length:Int)≤cap:=by omega
   have i3:(k:Int)≤cap:=by omega
   go_wp2_with fail
   go_region_held3 (fun W=>W.cell? ⟨w.heap.size,0,none⟩=some (S h.p)∧W.cell? ⟨w.heap.size,1,none⟩=some (.int .i64 h.u))
   (first
     |go_keep
     |(go_split_ands;refine⟨?_,?_⟩<;>(refine fC hg1 hne1 ?_;assumption))
     |(go_split_ands;refine⟨?_,?_⟩<;>(refine fC hg2 hne2 ?_;assumption))
     |(go_split_ands;refine⟨?_,?_⟩<;>(refine fC hg5 hne5 ?_;assumption)))
   (first
     |(refine I6 (w:=wr.drew.alloc (.cells #[] 106)) EE (by rfl) _ _ (by rfl) (by rfl) JM (by rfl) (FP.O _ Qw) (by simp;omega) (by simp;omega) (by simp;omega) ?_
       intro v1 w3 ek hg1;have hne1:=JM.dm (show w.heap.size<w.heap.size+1 by omega);have dO:=Below.own AL hg1 JM (by omega) (by simp;omega);have fo:=Ok.own Qw hg1 JM jN;have yn:=hg1.size;simp at yn)
     |(refine I6 (w:=(wr.drew.alloc (.cells #[] 106)).alloc (.cells #[S h.p,.int .i64 h.u] 106)) EE (by rfl) _ _ (by rfl) (by rfl) Mw (by rfl) (FP.O _ Xk) (by simp;omega) (by simp;omega) (by simp;omega) ?_
       intro v1 w3 ek hg1;have hne1:=Mw.dm (show w.heap.size<w.heap.size+1 by omega);have dO:=Below.own JH hg1 Mw (by omega) (by simp;omega);have fo:=Ok.own Xk hg1 Mw jN;have yn:=hg1.size;simp at yn;have Q0:∀(j:Nat) (u:Value),[S h.p,.int .i64 h.u][j]?=some u→w3.cell? ⟨wr.heap.size+1,j,none⟩=some u:=fun j u hu=>fC hg1 (by simp[Value.ownBlock]) (Tc j u hu))
     |(refine I6 (w:=(wr.drew.alloc (.cells #[S h.p,.int .i64 h.u] 106)).alloc (.cells #[] 106)) EE (by rfl) _ _ (by rfl) (by rfl) LZ (by rfl) (FP.O _ Xl) (by simp;omega) (by simp;omega) (by simp;omega) ?_
       intro v1 w3 ek hg1;have hne1:=LZ.dm (show w.heap.size<w.heap.size+1 by omega);have dO:=Below.own hD3 hg1 LZ (by omega) (by simp;omega);have fo:=Ok.own Xl hg1 LZ jN;have yn:=hg1.size;simp at yn;have Q0:∀(j:Nat) (u:Value),[S h.p,.int .i64 h.u][j]?=some u→w3.cell? ⟨wr.heap.size,j,none⟩=some u:=fun j u hu=>fC hg1 (by simp[Value.ownBlock]) (hC3 j u hu))
     |(refine I6 (w:=w3.alloc (.cells #[S h.p,.int .i64 h.u] 106)) EE (by rfl) _ _ (by rfl) (by rfl) (ek.alloc (.cells #[S h.p,.int .i64 h.u] 106)) (by rfl) (jY.mo (x:=h) (cs:=[S h.p,.int .i64 h.u]) rfl (hCn w3)) (by simp;omega) (by simp;omega) (by(try simp);omega) ?_
       intro v2 w4 gq hg2;have hne2:=aQ.dm (ek.alloc (.cells #[S h.p,.int .i64 h.u] 106)) (show w.heap.size<w.heap.size+1 by omega);have aS:=Below.own (dO.alloc dO.size (.cells #[S h.p,.int .i64 h.u] 106)) hg2 (ek.alloc (.cells #[S h.p,.int .i64 h.u] 106)) (by omega) (by(try simp);omega);have dz:=Ok.own (fo.alloc (.cells #[S h.p,.int .i64 h.u] 106)) hg2 (ek.alloc (.cells #[S h.p,.int .i64 h.u] 106)) jN;have Cv:=hg2.size
       (try simp at Cv))
     |(refine I6 (w:=w3) EE (by rfl) _ _ (by rfl) (by rfl) ek (by rfl) (jY.mo (x:=h) (cs:=[S h.p,.int .i64 h.u]) rfl Q0) (by simp;omega) (by simp;omega) (by(try simp);omega) ?_
       intro v2 w4 gq hg2;have hne2:=aQ.dm ek (show w.heap.size<w.heap.size+1 by omega);have aS:=Below.own dO hg2 ek (by omega) (by(try simp);omega);have dz:=Ok.own fo hg2 ek jN;have Cv:=hg2.size
       (try simp at Cv)))
   all_goals
    go_wp2;go_ret;exact⟨v2,rfl,(gq.lower (by omega)).wh (by rw[uw.O]),aS⟩
theorem Z0(I:IH)(v:Value)(l:List Ho)(hv:aZ ku I v l)(hk:yf l)(hn:l.length≤100000)(e:bD)(va vx:Value)(gK:aZ nk I va e.ag)(kw:aZ mU I vx e.aC)(he:aX e=0)(d:Int)(w:World)(hw:Ok I w):
 Calls Tryz.prog 45 #[v,iF e va vx,.int .i64 d] w (Fx ku I w (appH l e d).1 (appH l e d).2):=by
 have Ha:=Qh (fun w hw=>Xgx I v l hv hn d w hw);have qp:e.aj.length≤4294967280:=by have:=(Iu (JV he).2.2.1).1;omega
 have Hd:=Qh (fun h5=>Xik he h5);have ug:(bY l d).length≤100000:=Nat.le_trans (List.length_filter_le _ _) hn;have UD:=Qh (hk.act d);have Ku:(jh (bY l d) e.aj).length≤(bY l d).length:=List.length_filter_le _ _;have Pd:=Qh ((hk.act d).rest e.aj);have Tg:e.av=5→appH l e d=(kF ⟨e.aj,iT e.aj (bY l d) (digits e.target)⟩ (jh (bY l d) e.aj),0):=fun h=>Xm7 h;have SF:e.av=6→appH l e d=if zO (bY l d) e.aj then(jh (bY l d) e.aj,0)else([],9):=fun h=>by rw[appH,if_neg (by omega),if_pos h]
 have uU:= @Xpt l e d;obtain⟨ao,cap,rfl,fu,iv,_⟩:=id hv;obtain⟨aa,ca,rfl,_,_,_⟩:=id gK;obtain⟨ax,cx,rfl,_,_,_⟩:=id kw;clear hv gK kw hk he;obtain⟨act,Xm⟩:∃act,bY l d=act:=⟨_,rfl⟩;rw[Xm]at Ha ug UD Ku Pd Tg SF uU;obtain⟨rest,jW⟩:∃rest,jh act e.aj=rest:=⟨_,rfl⟩;rw[jW]at Ku Pd Tg SF;obtain⟨U,hU⟩:∃U,oG e.aj act (-1)=U:=⟨_,rfl⟩;have HU:=Qh hU;have Hh:=Qh (Xrd (p:=e.aj) UD.O);have Hw:=Qh (fun u h=>Xlb (p:=e.aj) (u:=u) UD.O h);rw[hU]at Hh Hw;have zf:=Qh jW;clear Xm hU jW;have jW:=zf;by_cases h5:e.av=5;case neg=>
  have k5:((e.av:Int)==5)=false:=by simpa using h5
  by_cases h6:e.av=6;case neg=>
   have k6:((e.av:Int)==6)=false:=by simpa using h6
   have Hn:=Qh (uU h5 h6);clear h5 h6 Tg SF uU;go_enter Tryz.func45,Tryz.ntmps45
   go_wp2_with fail
   refine(Ha.O _ (hw.alloc _)).mono ?_;rintro e1 w1 ⟨v1,rfl,ek,aG⟩;have kJ:=Qh (dP (e:=e) rfl aG);have iq:Ok I w1:=(hw.alloc _).below (Qn _) aG;have dJ:w.heap.size<w1.heap.size:=by have:=aG.size;simp at this;omega
   have aM:=((Qb w.heap.size w).alloc (Qn _) (.cells #[.int .i64 e.av,S e.aj,.slice aa e.ag.length ca,S e.target,.int .i64 e.size,S e.aD,.slice ax e.aC.length cx] 63)).trans (aG.mono (by simp));obtain⟨I1,iY,aO,kQ,_⟩:=(ek.lower (show w.heap.size≤_ by simp)).freeze iq (fun b hb=>hw.fresh hb);have Wh:=Qh iY;have xD:=Qh kQ;obtain⟨a1,RO,rfl,_,_,_⟩:=id kQ;clear ek aG kQ iY iq Ha;obtain⟨c0,c1,c2,c3,c4,c5,c6⟩:=kJ.O;go_wp2;go_ret2;rw[Hn.O];exact⟨_,I1,rfl,aM,Wh.O,aO,xD.O⟩
  have k6:((e.av:Int)==6)=true:=by simpa using h6
  have BS:=Qh (SF h6);clear h5 h6 Tg SF uU;go_enter Tryz.func45,Tryz.ntmps45
  go_wp2_with fail
  refine(Ha.O _ (hw.alloc _)).mono ?_;rintro e1 w1 ⟨v1,rfl,ek,aG⟩;have kJ:=Qh (dP (e:=e) rfl aG);have iq:Ok I w1:=(hw.alloc _).below (Qn _) aG;have dJ:w.heap.size<w1.heap.size:=by have:=aG.size;simp at this;omega
  have aM:=((Qb w.heap.size w).alloc (Qn _) (.cells #[.int .i64 e.av,S e.aj,.slice aa e.ag.length ca,S e.target,.int .i64 e.size,S e.aD,.slice ax e.aC.length cx] 63)).trans (aG.mono (by simp));obtain⟨I1,iY,aO,kQ,_⟩:=(ek.lower (show w.heap.size≤_ by simp)).freeze iq (fun b hb=>hw.fresh hb);have Wh:=Qh iY;have xD:=Qh kQ;obtain⟨a1,RO,rfl,_,_,_⟩:=id kQ;clear ek aG kQ iY iq Ha;obtain⟨c0,c1,c2,c3,c4,c5,c6⟩:=kJ.O;replace jW:=jW.O;go_wp2_with fail
  refine(Xfu I1 _ act xD.O ug e.aj w1 aO).mono ?_;rw[HU.O,jW];rintro e2 w2 ⟨v2,rfl,gq,aL⟩;have uG:Ok I1 w2:=aO.below (Qn _) aL;have nX:=Qh (kJ.O.aR aL);have bH:=aM.trans (aL.mono aM.size);obtain⟨I2,mK,bn,iQ,_⟩:=gq.freeze uG (fun b hb=>aO.fresh hb);have Wi:=Qh (Wh.O.trans mK aM.size);have yG:=Qh iQ;obtain⟨a2,cp2,rfl,_,_,_⟩:=id iQ;clear gq iQ mK uG aL aM kJ c0 c1 c2 c3 c4 c5 c6 aO;obtain⟨c0,c1,c2,c3,c4,c5,c6⟩:=nX.O;by_cases ZI:U<0
  ·have Hn:=Qh (show appH l e d=([],9) by
    have h:=Hh.O;rw[Qt ZI]at h;rw[BS.O,if_neg (by rw[show zO act e.aj=false by simpa using h.symm];simp)])
   have hi:U<(0:Int):=ZI;go_wp2;go_ret2;rw[Hn.O];exact⟨_,I2,rfl,bH.alloc bH.size _,Wi.O,bn.alloc _,⟨_,_,rfl,Qn _,Nat.zero_le _,fun h=>absurd h (by simp)⟩⟩
  ·have Hn:=Qh (show appH l e d=(rest,0) by
    have h:=Hh.O;rw[Qf ZI]at h;rw[BS.O,if_pos (by simpa using h)])
   have hi:¬U<(0:Int):=ZI;go_wp2;go_ret2;rw[Hn.O];exact⟨_,I2,rfl,bH,Wi.O,bn,yG.O⟩
 have k5:((e.av:Int)==5)=true:=by simpa using h5
 have UE:=Qh (fun w=>Xqc e.target (Hd.O h5) w);have FB:=Yi (Hd.O h5);have BS:=Qh (Tg h5);clear h5 Tg SF uU Hh;obtain⟨u,hu⟩:∃u,digits e.target=u:=⟨_,rfl⟩;rw[hu]at UE FB BS;have Hwu:=Qh (Hw.O u FB.1);rw[←Hwu.O]at BS;have h0u:=FB.1;have hu1:=FB.2;have hi0:¬u<(0:Int):=by omega
 clear hu FB Hwu Hw;go_enter Tryz.func45,Tryz.ntmps45
 go_wp2_with fail
 refine(Ha.O _ (hw.alloc _)).mono ?_;rintro e1 w1 ⟨v1,rfl,ek,aG⟩;have kJ:=Qh (dP (e:=e) rfl aG);have iq:Ok I w1:=(hw.alloc _).below (Qn _) aG;have dJ:w.heap.size<w1.heap.size:=by have:=aG.size;simp at this;omega
 have aM:=((Qb w.heap.size w).alloc (Qn _) (.cells #[.int .i64 e.av,S e.aj,.slice aa e.ag.length ca,S e.target,.int .i64 e.size,S e.aD,.slice ax e.aC.length cx] 63)).trans (aG.mono (by simp));obtain⟨I1,iY,aO,kQ,_⟩:=(ek.lower (show w.heap.size≤_ by simp)).freeze iq (fun b hb=>hw.fresh hb);have Wh:=Qh iY;have xD:=Qh kQ;obtain⟨a1,RO,rfl,_,_,_⟩:=id kQ;clear ek aG kQ iY iq Ha;obtain⟨c0,c1,c2,c3,c4,c5,c6⟩:=kJ.O;go_wp2_with fail
 refine(UE.O _).mono ?_;rintro e2 w2 ⟨rfl,aL⟩;have bn:Ok I1 w2:=aO.below (Qn _) aL;have nX:=Qh (kJ.O.aR aL);have bH:=aM.trans (aL.mono aM.size);clear aL aM kJ c0 c1 c2 c3 c4 c5 c6 aO;obtain⟨c0,c1,c2,c3,c4,c5,c6⟩:=nX.O;replace jW:=jW.O;go_wp2_with fail
 refine(Xfu I1 _ act xD.O ug e.aj w2 bn).mono ?_;rw[HU.O,jW];rintro e3 w3 ⟨v2,rfl,gq,dO⟩;have BC:Ok I1 w3:=bn.below (Qn _) dO;have om:=Qh (nX.O.aR dO);have jg:=bH.trans (dO.mono bH.size);obtain⟨I2,mK,fo,iQ,_⟩:=gq.freeze BC (fun b hb=>bn.fresh hb);have Wi:=Qh (Wh.O.trans mK bH.size);have yG:=Qh iQ;obtain⟨a2,cp2,rfl,_,_,_⟩:=id iQ;clear gq iQ mK BC dO bH nX c0 c1 c2 c3 c4 c5 c6 bn;obtain⟨c0,c1,c2,c3,c4,c5,c6⟩:=om.O;by_cases Gx:u<U
 ·have Hn:=Qh (show appH l e d=(kF ⟨e.aj,U⟩ rest,0) by rw[BS.O,if_pos Gx]);go_wp2_with fail
  refine(Xgw I2 _ rest yG.O Pd.O.short (by omega) ⟨e.aj,U⟩ qp w3 fo).mono ?_;rintro e4 w4 ⟨v4,rfl,rC,aS⟩;have Cb:Ok I2 w4:=fo.below (Qn _) aS;have cK:=jg.trans (aS.mono jg.size);obtain⟨I4,pX,dz,ry,_⟩:=rC.freeze Cb (fun b hb=>fo.fresh hb);have VO:=Qh (Wi.O.trans pX jg.size);have Qx:=Qh ry;obtain⟨a4,cp4,rfl,_,_,_⟩:=id ry;clear rC ry pX Cb aS;go_wp2;go_ret2;rw[Hn.O];exact⟨_,I4,rfl,cK,VO.O,dz,Qx.O⟩
 ·have Hn:=Qh (show appH l e d=(kF ⟨e.aj,u⟩ rest,0) by rw[BS.O,if_neg Gx]);go_wp2_with fail
  refine(Xgw I2 _ rest yG.O Pd.O.short (by omega) ⟨e.aj,u⟩ qp w3 fo).mono ?_;rintro e4 w4 ⟨v4,rfl,rC,aS⟩;have Cb:Ok I2 w4:=fo.below (Qn _) aS;have cK:=jg.trans (aS.mono jg.size);obtain⟨I4,pX,dz,ry,_⟩:=rC.freeze Cb (fun b hb=>fo.fresh hb);have VO:=Qh (Wi.O.trans pX jg.size);have Qx:=Qh ry;obtain⟨a4,cp4,rfl,_,_,_⟩:=id ry;clear rC ry pX Cb aS;go_wp2;go_ret2;rw[Hn.O];exact⟨_,I4,rfl,cK,VO.O,dz,Qx.O⟩
