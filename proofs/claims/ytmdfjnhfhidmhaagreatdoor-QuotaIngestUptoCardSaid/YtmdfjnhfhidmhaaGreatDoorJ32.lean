/- Lemmas for the claim's theorem;conditions: as each says. -/
import Derived.Test.YtmdfjnhfhidmhaaGreatDoorJ31
import Derived.Test.YtmdfjnhfhidmhaaGreatDoorJ09
import Derived.Deep.RegionHeld3
set_option maxHeartbeats 0
set_option maxRecDepth 100000
set_option linter.all false
namespace Go.Proofs.YtmdfjnhfhidmhaaGreatDoor
open Go.RowKit
variable{h:Ho}{l:List Ho}{k:Nat}{x:Ho}
theorem aZ.SA{α:Type}{T:Ty α}{I:IH}{l:List α}{b off m cap:Nat}(h:aZ T I (.slice (some ⟨b,off,none⟩) m cap) l){n:Nat}(hn:n≤l.length):aZ T I (.slice (some ⟨b,off+n*T.size,none⟩) (m-n) (cap-n)) (l.drop n):=by
 obtain⟨ao,c,e,h1,h2,h3⟩:=h;cases e;refine⟨_,_,by rw[List.length_drop],by rw[List.length_drop];omega,by omega,fun hl=> ?_⟩;rw[List.length_drop]at hl;obtain⟨b',off',arr,e1,e2,e3⟩:=h3 (by omega);cases e1;refine⟨_,_,_,rfl,e2,fun i hi=> ?_⟩;rw[List.length_drop]at hi;obtain⟨cs,k1,k2⟩:=e3 (n+i) (by omega);refine⟨cs,by rw[List.getElem_drop];exact k1,fun j u hu=> ?_⟩;have:=k2 j u hu;rw[Nat.add_mul]at this;rw[←this];congr 1;omega
theorem Xru(hk:k<l.length)(hx:l[k]=x)(hc:¬iU h.p x.p<0)(hr:jl h l=l.take k++jl h (l.drop k)):jl h l=l.take (k+1)++jl h (l.drop (k+1)):=by
 have hlt:jO (els h.p) (els x.p)=false:=by
  cases q:jO (els h.p) (els x.p)with
  |false=>rfl
  |true=>exact absurd (by unfold iU;rw[q];simp) hc
 rw[hr,List.drop_eq_getElem_cons hk,hx,jl,if_neg (by simp[hlt]),List.take_succ_eq_append_getElem hk,hx];simp
theorem Xuf(hk:k<l.length)(hx:l[k]=x)(hc:iU h.p x.p<0)(hr:jl h l=l.take k++jl h (l.drop k)):jl h l=(([]++l.take k)++[h])++l.drop k:=by
 have hlt:jO (els h.p) (els x.p)=true:=by
  cases q:jO (els h.p) (els x.p)with
  |true=>rfl
  |false=>
   exfalso;unfold iU at hc;rw[q]at hc;simp only[Bool.false_eq_true,if_false]at hc;split at hc<;>omega
 rw[hr];conv=>lhs;rw[List.drop_eq_getElem_cons hk,hx,jl,if_pos hlt]
 rw[List.drop_eq_getElem_cons hk,hx];simp
theorem Pw(W:World)(a b:Value)(t:TypeId):∀(j:Nat) (u:Value),[a,b][j]?=some u→(W.alloc (.cells #[a,b] t)).cell? ⟨W.heap.size,j,none⟩=some u:=fun j u hu=>by
 rw[World.cell?_alloc_new];simpa using hu
theorem Xf4(I:IH)(v:Value)(l:List Ho)(hv:aZ jB I v l)(hk:∀x∈l,x.p.length≤4294967280)(hn:l.length≤100000)(h:Ho)(hp:h.p.length≤4294967280)(w:World)(hw:Ok I w):
 Calls Tryz.prog 129 #[v,Mh h] w fun e w'=> ∃v',e= .returned v'∧aK jB 148 I w' w.heap.size v' (jl h l)∧Below w.heap.size w w':=by
 obtain⟨ao,cap,rfl,dO,fJ,_⟩:=id hv;have Hv:=Qh hv;have Hk:=Qh hk;clear hv hk;have wL:Ok I (w.alloc (.cells #[S h.p,.int .i64 h.u] 148)):=hw.alloc _;go_enter Tryz.func129,Tryz.ntmps129
 go_wp2_with fail
 go_loopw [5] (fun s5 wr=> ∃k:Nat,k≤l.length∧s5= .int .i64 k∧jl h l=l.take k++jl h (l.drop k)∧Below (w.alloc (.cells #[S h.p,.int .i64 h.u] 148)).heap.size (w.alloc (.cells #[S h.p,.int .i64 h.u] 148)) wr) (fun i _=>l.length-(intOf i).toNat)
 case atStart=>exact⟨0,Nat.zero_le _,rfl,by simp,Qb _ _⟩
 case round=>
  obtain⟨k,hk,rfl,hr,hb⟩:=hrel;have Hr:=Qh hr;clear hr;have dG:Ok I wr:=wL.below (Qn _) hb;have cu:Below w.heap.size w wr:=((Qb w.heap.size w).alloc (Qn _) _).trans (hb.mono (by simp));have QV:w.heap.size<wr.heap.size:=by have:=hb.size;simp at this;omega
  have k0:wr.cell? ⟨w.heap.size,0,none⟩=some (S h.p):=bK hb (by simp);have k1:wr.cell? ⟨w.heap.size,1,none⟩=some (.int .i64 h.u):=bK hb (by simp);by_cases hlt:k<l.length
  ·obtain⟨x,b,off,cap',dA,cZ,x0,x1⟩:=wy Hv.O dG k hlt;cases cZ;have uY:=Qh (fun w hw=>UA I h.p x.p hp (Hk.O x (by rw[←dA];exact List.getElem_mem hlt)) w hw);have g0:=cell_regrown k0;have y0:=cell_regrown x0;have yH:=Qh (fun hc=>Xru hlt dA hc Hr.O);have Jj:=Qh (fun hc=>Xuf hlt dA hc Hr.O);obtain⟨c,hc⟩:∃c,iU h.p x.p=c:=⟨_,rfl⟩;rw[hc]at uY yH Jj;clear dA hc Hr;go_wp2_with fail
   refine wp_region_quiet_below (by kernel_rfl) (by kernel_rfl) ?_;repeat(go_big_quiet_step ((with_reducible exact Calls.regrown_of (uY.O _ (dG.below (Qn _) (below_regrown _ _ _))))))
   refine wpQuiet_nil ?_;intro w2 bq;have aL:Below (wr).heap.size (wr) w2:=by
    obtain⟨pq,rfl⟩:=bq;exact below_regrown _ _ _
   clear bq;have aY:=hb.trans (aL.mono hb.size);have qL:=cu.trans (aL.mono cu.size);have aX:Ok I w2:=dG.below (Qn _) aL;have k0:=bK aL k0;have k1:=bK aL k1;have eZ:w.heap.size<w2.heap.size:=by have:=aL.size;omega
   clear aL hb cu g0 y0 x0 x1 dG;by_cases vH:c<0
   ·have Hn:=Qh (Jj.O vH);have hci:c<(0:Int):=vH;have Gx:=Qh (fun(W:World) (hW:Ok I W)=>iV.uO (T:=jB) (Hv.O.BO (n:=k) (by omega)) hW (by decide));have Hs3:=Qh (fun(W:World) (hW:Ok I W)=>iV.uO (T:=jB) (Hv.O.SA (n:=k) (by omega)) hW (by decide));clear Jj yH vH;have iR:∀b,w.heap.size+1≤b→I b=none:=fun b hb=>hw.fresh (by omega);have Gl:aK jB 148 I (w2.drew.alloc (.cells #[] 148)) (w.heap.size+1) (.slice (some ⟨w2.heap.size,0,none⟩) 0 0) []:=(Pv w2.drew w2.heap.size rfl).lower (by omega);have JL:aK jB 148 I ((w2.drew.alloc (.cells #[] 148)).alloc (.cells #[S h.p,.int .i64 h.u] 148)) (w.heap.size+1) (.slice (some ⟨w2.heap.size,0,none⟩) 0 0) []:=Gl.alloc _;have Jk:aK jB 148 I ((w2.drew.alloc (.cells #[S h.p,.int .i64 h.u] 148)).alloc (.cells #[] 148)) (w.heap.size+1) (.slice (some ⟨w2.heap.size+1,0,none⟩) 0 0) []:=(Pv (w2.drew.alloc (.cells #[S h.p,.int .i64 h.u] 148)) (w2.heap.size+1) (by simp)).lower (by omega);have hD:Below w.heap.size w w2.drew:=qL.drew;have yE:Below w.heap.size w (w2.drew.alloc (.cells #[] 148)):=hD.alloc hD.size _;have F5:Below w.heap.size w ((w2.drew.alloc (.cells #[] 148)).alloc (.cells #[S h.p,.int .i64 h.u] 148)):=yE.alloc yE.size _;have hD3:Below w.heap.size w ((w2.drew.alloc (.cells #[S h.p,.int .i64 h.u] 148)).alloc (.cells #[] 148)):=(hD.alloc hD.size (.cells #[S h.p,.int .i64 h.u] 148)).alloc (hD.alloc hD.size (.cells #[S h.p,.int .i64 h.u] 148)).size _;have Ns:Ok I (w2.drew.alloc (.cells #[] 148)):=aX.drew.alloc _;have Ud:Ok I ((w2.drew.alloc (.cells #[] 148)).alloc (.cells #[S h.p,.int .i64 h.u] 148)):=Ns.alloc _;have Ue:Ok I ((w2.drew.alloc (.cells #[S h.p,.int .i64 h.u] 148)).alloc (.cells #[] 148)):=(aX.drew.alloc _).alloc _;have PH:∀(j:Nat) (u:Value),[S h.p,.int .i64 h.u][j]?=some u→((w2.drew.alloc (.cells #[] 148)).alloc (.cells #[S h.p,.int .i64 h.u] 148)).cell? ⟨w2.heap.size+1,j,none⟩=some u:=by simpa using Pw (w2.drew.alloc (.cells #[] 148)) (S h.p) (.int .i64 h.u) 148
    have hC3:∀(j:Nat) (u:Value),[S h.p,.int .i64 h.u][j]?=some u→((w2.drew.alloc (.cells #[S h.p,.int .i64 h.u] 148)).alloc (.cells #[] 148)).cell? ⟨w2.heap.size,j,none⟩=some u:=fun j u hu=>kP _ (Pw w2.drew (S h.p) (.int .i64 h.u) 148 j u hu);have hCn:=fun W=>Pw W (S h.p) (.int .i64 h.u) 148;have i0:(0:Int)≤k:=by omega
    have i1:(k:Int)≤l.length:=by omega
    have i2:(l.length:Int)≤cap:=by omega
    have i3:(k:Int)≤cap:=by omega
    have hck:¬cap=k:=by omega
    have fO:l.length≤100000:=hn;go_wp2_with fail
    go_region_held3 (fun W=>W.cell? ⟨w.heap.size,0,none⟩=some (S h.p)∧W.cell? ⟨w.heap.size,1,none⟩=some (.int .i64 h.u))
    (first
      |go_keep
      |(go_split_ands;refine⟨?_,?_⟩<;>(refine jo hg1 hne1 ?_;assumption))
      |(go_split_ands;refine⟨?_,?_⟩<;>(refine jo hg2 hne2 ?_;assumption))
      |(go_split_ands;refine⟨?_,?_⟩<;>(refine jo hg5 hne5 ?_;assumption)))
    (first
      |(refine EP (w:=w2.drew.alloc (.cells #[] 148)) Ce (by rfl) _ _ (by rfl) (by rfl) Gl (by rfl) (Gx.O _ Ns) (by simp;omega) (by simp;omega) (by simp;omega) ?_
        intro v1 w3 dD hg1;have hne1:=Gl.cK (show w.heap.size<w.heap.size+1 by omega);have dX:=Below.own yE hg1 Gl (by omega) (by simp;omega);have eT:=Ok.own Ns hg1 Gl iR;have xq:=hg1.size;simp at xq)
      |(refine EP (w:=(w2.drew.alloc (.cells #[] 148)).alloc (.cells #[S h.p,.int .i64 h.u] 148)) Ce (by rfl) _ _ (by rfl) (by rfl) JL (by rfl) (Gx.O _ Ud) (by simp;omega) (by simp;omega) (by simp;omega) ?_
        intro v1 w3 dD hg1;have hne1:=JL.cK (show w.heap.size<w.heap.size+1 by omega);have dX:=Below.own F5 hg1 JL (by omega) (by simp;omega);have eT:=Ok.own Ud hg1 JL iR;have xq:=hg1.size;simp at xq;have Ot:∀(j:Nat) (u:Value),[S h.p,.int .i64 h.u][j]?=some u→w3.cell? ⟨w2.heap.size+1,j,none⟩=some u:=fun j u hu=>jo hg1 (by simp[Value.ownBlock]) (PH j u hu))
      |(refine EP (w:=(w2.drew.alloc (.cells #[S h.p,.int .i64 h.u] 148)).alloc (.cells #[] 148)) Ce (by rfl) _ _ (by rfl) (by rfl) Jk (by rfl) (Gx.O _ Ue) (by simp;omega) (by simp;omega) (by simp;omega) ?_
        intro v1 w3 dD hg1;have hne1:=Jk.cK (show w.heap.size<w.heap.size+1 by omega);have dX:=Below.own hD3 hg1 Jk (by omega) (by simp;omega);have eT:=Ok.own Ue hg1 Jk iR;have xq:=hg1.size;simp at xq;have Ot:∀(j:Nat) (u:Value),[S h.p,.int .i64 h.u][j]?=some u→w3.cell? ⟨w2.heap.size,j,none⟩=some u:=fun j u hu=>jo hg1 (by simp[Value.ownBlock]) (hC3 j u hu))
      |(refine EP (w:=w3.alloc (.cells #[S h.p,.int .i64 h.u] 148)) Ce (by rfl) _ _ (by rfl) (by rfl) (dD.alloc (.cells #[S h.p,.int .i64 h.u] 148)) (by rfl) (iV.jR (x:=h) (cs:=[S h.p,.int .i64 h.u]) rfl (hCn w3)) (by simp;omega) (by simp;omega) (by(try simp);omega) ?_
        intro v2 w4 ed hg2;have hne2:=aK.cK (dD.alloc (.cells #[S h.p,.int .i64 h.u] 148)) (show w.heap.size<w.heap.size+1 by omega);have aR:=Below.own (dX.alloc dX.size (.cells #[S h.p,.int .i64 h.u] 148)) hg2 (dD.alloc (.cells #[S h.p,.int .i64 h.u] 148)) (by omega) (by(try simp);omega);have bU:=Ok.own (eT.alloc (.cells #[S h.p,.int .i64 h.u] 148)) hg2 (dD.alloc (.cells #[S h.p,.int .i64 h.u] 148)) iR;have DX:=hg2.size
        (try simp at DX))
      |(refine EP (w:=w3) Ce (by rfl) _ _ (by rfl) (by rfl) dD (by rfl) (iV.jR (x:=h) (cs:=[S h.p,.int .i64 h.u]) rfl Ot) (by simp;omega) (by simp;omega) (by(try simp);omega) ?_
        intro v2 w4 ed hg2;have hne2:=aK.cK dD (show w.heap.size<w.heap.size+1 by omega);have aR:=Below.own dX hg2 dD (by omega) (by(try simp);omega);have bU:=Ok.own eT hg2 dD iR;have DX:=hg2.size
        (try simp at DX))
      |(refine EP (w:=w4) Ce (by rfl) _ _ (by rfl) (by rfl) ed (by rfl) (Hs3.O _ bU) (by simp;omega) (by simp;omega) (by omega) ?_
        intro v5 w5 gM hg5;have hne5:=ed.cK (show w.heap.size<w.heap.size+1 by omega);have bM:=Below.own aR hg5 ed (by omega) (by omega)))
    all_goals
     go_wp2;go_ret;exact⟨v5,rfl,(gM.lower (by omega)).tH (by rw[Hn.O]),bM⟩
   ·have Hn:=Qh (yH.O (by omega));have hci:¬c<(0:Int):=vH;clear Jj yH vH;go_wp2;go_roundw;case rel=>exact⟨k+1,by omega,by go_num,Hn.O,aY⟩
    case measure=>simp[intOf];omega
  ·have qR:=Qh (show jl h l=([]++l)++[h] by
    rw[Hr.O,List.drop_of_length_le (by omega),List.take_of_length_le (by omega),jl];simp)
   have Gx:=Qh (fun(W:World) (hW:Ok I W)=>iV.uO (T:=jB) Hv.O hW (by decide));have eZ:=QV;have iR:∀b,w.heap.size+1≤b→I b=none:=fun b hb=>hw.fresh (by omega);have Gl:aK jB 148 I (wr.drew.alloc (.cells #[] 148)) (w.heap.size+1) (.slice (some ⟨wr.heap.size,0,none⟩) 0 0) []:=(Pv wr.drew wr.heap.size rfl).lower (by omega);have JL:aK jB 148 I ((wr.drew.alloc (.cells #[] 148)).alloc (.cells #[S h.p,.int .i64 h.u] 148)) (w.heap.size+1) (.slice (some ⟨wr.heap.size,0,none⟩) 0 0) []:=Gl.alloc _;have Jk:aK jB 148 I ((wr.drew.alloc (.cells #[S h.p,.int .i64 h.u] 148)).alloc (.cells #[] 148)) (w.heap.size+1) (.slice (some ⟨wr.heap.size+1,0,none⟩) 0 0) []:=(Pv (wr.drew.alloc (.cells #[S h.p,.int .i64 h.u] 148)) (wr.heap.size+1) (by simp)).lower (by omega);have hD:Below w.heap.size w wr.drew:=cu.drew;have yE:Below w.heap.size w (wr.drew.alloc (.cells #[] 148)):=hD.alloc hD.size _;have F5:Below w.heap.size w ((wr.drew.alloc (.cells #[] 148)).alloc (.cells #[S h.p,.int .i64 h.u] 148)):=yE.alloc yE.size _;have hD3:Below w.heap.size w ((wr.drew.alloc (.cells #[S h.p,.int .i64 h.u] 148)).alloc (.cells #[] 148)):=(hD.alloc hD.size (.cells #[S h.p,.int .i64 h.u] 148)).alloc (hD.alloc hD.size (.cells #[S h.p,.int .i64 h.u] 148)).size _;have Ns:Ok I (wr.drew.alloc (.cells #[] 148)):=dG.drew.alloc _;have Ud:Ok I ((wr.drew.alloc (.cells #[] 148)).alloc (.cells #[S h.p,.int .i64 h.u] 148)):=Ns.alloc _;have Ue:Ok I ((wr.drew.alloc (.cells #[S h.p,.int .i64 h.u] 148)).alloc (.cells #[] 148)):=(dG.drew.alloc _).alloc _;have PH:∀(j:Nat) (u:Value),[S h.p,.int .i64 h.u][j]?=some u→((wr.drew.alloc (.cells #[] 148)).alloc (.cells #[S h.p,.int .i64 h.u] 148)).cell? ⟨wr.heap.size+1,j,none⟩=some u:=by simpa using Pw (wr.drew.alloc (.cells #[] 148)) (S h.p) (.int .i64 h.u) 148
   have hC3:∀(j:Nat) (u:Value),[S h.p,.int .i64 h.u][j]?=some u→((wr.drew.alloc (.cells #[S h.p,.int .i64 h.u] 148)).alloc (.cells #[] 148)).cell? ⟨wr.heap.size,j,none⟩=some u:=fun j u hu=>kP _ (Pw wr.drew (S h.p) (.int .i64 h.u) 148 j u hu);have hCn:=fun W=>Pw W (S h.p) (.int .i64 h.u) 148;have i0:(0:Int)≤k:=by omega
   have i1:(k:Int)≤l.length:=by omega
   have i2:(l.length:Int)≤cap:=by omega
   have i3:(k:Int)≤cap:=by omega
   go_wp2_with fail
   go_region_held3 (fun W=>W.cell? ⟨w.heap.size,0,none⟩=some (S h.p)∧W.cell? ⟨w.heap.size,1,none⟩=some (.int .i64 h.u))
   (first
     |go_keep
     |(go_split_ands;refine⟨?_,?_⟩<;>(refine jo hg1 hne1 ?_;assumption))
     |(go_split_ands;refine⟨?_,?_⟩<;>(refine jo hg2 hne2 ?_;assumption))
     |(go_split_ands;refine⟨?_,?_⟩<;>(refine jo hg5 hne5 ?_;assumption)))
   (first
     |(refine EP (w:=wr.drew.alloc (.cells #[] 148)) Ce (by rfl) _ _ (by rfl) (by rfl) Gl (by rfl) (Gx.O _ Ns) (by simp;omega) (by simp;omega) (by simp;omega) ?_
       intro v1 w3 dD hg1;have hne1:=Gl.cK (show w.heap.size<w.heap.size+1 by omega);have dX:=Below.own yE hg1 Gl (by omega) (by simp;omega);have eT:=Ok.own Ns hg1 Gl iR;have xq:=hg1.size;simp at xq)
     |(refine EP (w:=(wr.drew.alloc (.cells #[] 148)).alloc (.cells #[S h.p,.int .i64 h.u] 148)) Ce (by rfl) _ _ (by rfl) (by rfl) JL (by rfl) (Gx.O _ Ud) (by simp;omega) (by simp;omega) (by simp;omega) ?_
       intro v1 w3 dD hg1;have hne1:=JL.cK (show w.heap.size<w.heap.size+1 by omega);have dX:=Below.own F5 hg1 JL (by omega) (by simp;omega);have eT:=Ok.own Ud hg1 JL iR;have xq:=hg1.size;simp at xq;have Ot:∀(j:Nat) (u:Value),[S h.p,.int .i64 h.u][j]?=some u→w3.cell? ⟨wr.heap.size+1,j,none⟩=some u:=fun j u hu=>jo hg1 (by simp[Value.ownBlock]) (PH j u hu))
     |(refine EP (w:=(wr.drew.alloc (.cells #[S h.p,.int .i64 h.u] 148)).alloc (.cells #[] 148)) Ce (by rfl) _ _ (by rfl) (by rfl) Jk (by rfl) (Gx.O _ Ue) (by simp;omega) (by simp;omega) (by simp;omega) ?_
       intro v1 w3 dD hg1;have hne1:=Jk.cK (show w.heap.size<w.heap.size+1 by omega);have dX:=Below.own hD3 hg1 Jk (by omega) (by simp;omega);have eT:=Ok.own Ue hg1 Jk iR;have xq:=hg1.size;simp at xq;have Ot:∀(j:Nat) (u:Value),[S h.p,.int .i64 h.u][j]?=some u→w3.cell? ⟨wr.heap.size,j,none⟩=some u:=fun j u hu=>jo hg1 (by simp[Value.ownBlock]) (hC3 j u hu))
     |(refine EP (w:=w3.alloc (.cells #[S h.p,.int .i64 h.u] 148)) Ce (by rfl) _ _ (by rfl) (by rfl) (dD.alloc (.cells #[S h.p,.int .i64 h.u] 148)) (by rfl) (iV.jR (x:=h) (cs:=[S h.p,.int .i64 h.u]) rfl (hCn w3)) (by simp;omega) (by simp;omega) (by(try simp);omega) ?_
       intro v2 w4 ed hg2;have hne2:=aK.cK (dD.alloc (.cells #[S h.p,.int .i64 h.u] 148)) (show w.heap.size<w.heap.size+1 by omega);have aR:=Below.own (dX.alloc dX.size (.cells #[S h.p,.int .i64 h.u] 148)) hg2 (dD.alloc (.cells #[S h.p,.int .i64 h.u] 148)) (by omega) (by(try simp);omega);have bU:=Ok.own (eT.alloc (.cells #[S h.p,.int .i64 h.u] 148)) hg2 (dD.alloc (.cells #[S h.p,.int .i64 h.u] 148)) iR;have DX:=hg2.size
       (try simp at DX))
     |(refine EP (w:=w3) Ce (by rfl) _ _ (by rfl) (by rfl) dD (by rfl) (iV.jR (x:=h) (cs:=[S h.p,.int .i64 h.u]) rfl Ot) (by simp;omega) (by simp;omega) (by(try simp);omega) ?_
       intro v2 w4 ed hg2;have hne2:=aK.cK dD (show w.heap.size<w.heap.size+1 by omega);have aR:=Below.own dX hg2 dD (by omega) (by(try simp);omega);have bU:=Ok.own eT hg2 dD iR;have DX:=hg2.size
       (try simp at DX)))
   all_goals
    go_wp2;go_ret;exact⟨v2,rfl,(ed.lower (by omega)).tH (by rw[qR.O]),aR⟩
theorem Xmr(I:IH)(v:Value)(l:List Ho)(hv:aZ jB I v l)(hk:vL l)(hn:l.length≤100000)(e:aT)(va vx:Value)(fq:aZ lD I va e.aj)(kJ:aZ lY I vx e.aA)(he:aP e=0)(d:Int)(w:World)(hw:Ok I w):
 Calls Tryz.prog 76 #[v,gN e va vx,.int .i64 d] w (xz jB I w (appH l e d).1 (appH l e d).2):=by
 have Ha:=Qh (fun w hw=>Xkx I v l hv hn d w hw);have nV:e.ag.length≤4294967280:=by have:=(Ey (Gm he).2.2.1).1;omega
 have Hd:=Qh (fun h5=>WW he h5);have uI:(dP l d).length≤100000:=Nat.le_trans (List.length_filter_le _ _) hn;have QS:=Qh (hk.act d);have GY:(ic (dP l d) e.ag).length≤(dP l d).length:=List.length_filter_le _ _;have Dc:=Qh ((hk.act d).rest e.ag);have PS:e.au=5→appH l e d=(jl ⟨e.ag,gK e.ag (dP l d) (digits e.target)⟩ (ic (dP l d) e.ag),0):=fun h=>Xl9 h;have Px:e.au=6→appH l e d=if xw (dP l d) e.ag then(ic (dP l d) e.ag,0)else([],9):=fun h=>by rw[appH,if_neg (by omega),if_pos h]
 have xm:= @Xov l e d;obtain⟨ao,cap,rfl,dO,fJ,_⟩:=id hv;obtain⟨aa,ca,rfl,_,_,_⟩:=id fq;obtain⟨ax,cx,rfl,_,_,_⟩:=id kJ;clear hv fq kJ hk he;obtain⟨act,Uf⟩:∃act,dP l d=act:=⟨_,rfl⟩;rw[Uf]at Ha uI QS GY Dc PS Px xm;obtain⟨rest,jd⟩:∃rest,ic act e.ag=rest:=⟨_,rfl⟩;rw[jd]at GY Dc PS Px;obtain⟨U,hU⟩:∃U,mi e.ag act (-1)=U:=⟨_,rfl⟩;have HU:=Qh hU;have Hh:=Qh (Xqf (p:=e.ag) QS.O);have Hw:=Qh (fun u h=>Xkn (p:=e.ag) (u:=u) QS.O h);rw[hU]at Hh Hw;have wT:=Qh jd;clear Uf hU jd;have jd:=wT;by_cases h5:e.au=5;case neg=>
  have k5:((e.au:Int)==5)=false:=by simpa using h5
  by_cases h6:e.au=6;case neg=>
   have k6:((e.au:Int)==6)=false:=by simpa using h6
   have Hn:=Qh (xm h5 h6);clear h5 h6 PS Px xm;go_enter Tryz.func76,Tryz.ntmps76
   go_wp2_with fail
   refine(Ha.O _ (hw.alloc _)).mono ?_;rintro e1 w1 ⟨v1,rfl,dD,aD⟩;have kU:=Qh (dx (e:=e) rfl aD);have jN:Ok I w1:=(hw.alloc _).below (Qn _) aD;have bZ:w.heap.size<w1.heap.size:=by have:=aD.size;simp at this;omega
   have aH:=((Qb w.heap.size w).alloc (Qn _) (.cells #[.int .i64 e.au,S e.ag,.slice aa e.aj.length ca,S e.target,.int .i64 e.size,S e.av,.slice ax e.aA.length cx] 81)).trans (aD.mono (by simp));obtain⟨I1,gu,aM,eU,_⟩:=(dD.lower (show w.heap.size≤_ by simp)).freeze jN (fun b hb=>hw.fresh hb);have SC:=Qh gu;have uS:=Qh eU;obtain⟨a1,O5,rfl,_,_,_⟩:=id eU;clear dD aD eU gu jN Ha;obtain⟨c0,c1,c2,c3,c4,c5,c6⟩:=kU.O;go_wp2;go_ret2;rw[Hn.O];exact⟨_,I1,rfl,aH,SC.O,aM,uS.O⟩
  have k6:((e.au:Int)==6)=true:=by simpa using h6
  have Cy:=Qh (Px h6);clear h5 h6 PS Px xm;go_enter Tryz.func76,Tryz.ntmps76
  go_wp2_with fail
  refine(Ha.O _ (hw.alloc _)).mono ?_;rintro e1 w1 ⟨v1,rfl,dD,aD⟩;have kU:=Qh (dx (e:=e) rfl aD);have jN:Ok I w1:=(hw.alloc _).below (Qn _) aD;have bZ:w.heap.size<w1.heap.size:=by have:=aD.size;simp at this;omega
  have aH:=((Qb w.heap.size w).alloc (Qn _) (.cells #[.int .i64 e.au,S e.ag,.slice aa e.aj.length ca,S e.target,.int .i64 e.size,S e.av,.slice ax e.aA.length cx] 81)).trans (aD.mono (by simp));obtain⟨I1,gu,aM,eU,_⟩:=(dD.lower (show w.heap.size≤_ by simp)).freeze jN (fun b hb=>hw.fresh hb);have SC:=Qh gu;have uS:=Qh eU;obtain⟨a1,O5,rfl,_,_,_⟩:=id eU;clear dD aD eU gu jN Ha;obtain⟨c0,c1,c2,c3,c4,c5,c6⟩:=kU.O;replace jd:=jd.O;go_wp2_with fail
  refine(Xe5 I1 _ act uS.O uI e.ag w1 aM).mono ?_;rw[HU.O,jd];rintro e2 w2 ⟨v2,rfl,ed,aL⟩;have rF:Ok I1 w2:=aM.below (Qn _) aL;have oH:=Qh (kU.O.aQ aL);have aY:=aH.trans (aL.mono aH.size);obtain⟨I2,oQ,aX,lN,_⟩:=ed.freeze rF (fun b hb=>aM.fresh hb);have SE:=Qh (SC.O.trans oQ aH.size);have wz:=Qh lN;obtain⟨a2,cp2,rfl,_,_,_⟩:=id lN;clear ed lN oQ rF aL aH kU c0 c1 c2 c3 c4 c5 c6 aM;obtain⟨c0,c1,c2,c3,c4,c5,c6⟩:=oH.O;by_cases Wz:U<0
  ·have Hn:=Qh (show appH l e d=([],9) by
    have h:=Hh.O;rw[Qt Wz]at h;rw[Cy.O,if_neg (by rw[show xw act e.ag=false by simpa using h.symm];simp)])
   have hi:U<(0:Int):=Wz;go_wp2;go_ret2;rw[Hn.O];exact⟨_,I2,rfl,aY.alloc aY.size _,SE.O,aX.alloc _,⟨_,_,rfl,Qn _,Nat.zero_le _,fun h=>absurd h (by simp)⟩⟩
  ·have Hn:=Qh (show appH l e d=(rest,0) by
    have h:=Hh.O;rw[Qf Wz]at h;rw[Cy.O,if_pos (by simpa using h)])
   have hi:¬U<(0:Int):=Wz;go_wp2;go_ret2;rw[Hn.O];exact⟨_,I2,rfl,aY,SE.O,aX,wz.O⟩
 have k5:((e.au:Int)==5)=true:=by simpa using h5
 have QT:=Qh (fun w=>Xpc e.target (Hd.O h5) w);have CS:=Uw (Hd.O h5);have Cy:=Qh (PS h5);clear h5 PS Px xm Hh;obtain⟨u,hu⟩:∃u,digits e.target=u:=⟨_,rfl⟩;rw[hu]at QT CS Cy;have Hwu:=Qh (Hw.O u CS.1);rw[←Hwu.O]at Cy;have h0u:=CS.1;have hu1:=CS.2;have hi0:¬u<(0:Int):=by omega
 clear hu CS Hwu Hw;go_enter Tryz.func76,Tryz.ntmps76
 go_wp2_with fail
 refine(Ha.O _ (hw.alloc _)).mono ?_;rintro e1 w1 ⟨v1,rfl,dD,aD⟩;have kU:=Qh (dx (e:=e) rfl aD);have jN:Ok I w1:=(hw.alloc _).below (Qn _) aD;have bZ:w.heap.size<w1.heap.size:=by have:=aD.size;simp at this;omega
 have aH:=((Qb w.heap.size w).alloc (Qn _) (.cells #[.int .i64 e.au,S e.ag,.slice aa e.aj.length ca,S e.target,.int .i64 e.size,S e.av,.slice ax e.aA.length cx] 81)).trans (aD.mono (by simp));obtain⟨I1,gu,aM,eU,_⟩:=(dD.lower (show w.heap.size≤_ by simp)).freeze jN (fun b hb=>hw.fresh hb);have SC:=Qh gu;have uS:=Qh eU;obtain⟨a1,O5,rfl,_,_,_⟩:=id eU;clear dD aD eU gu jN Ha;obtain⟨c0,c1,c2,c3,c4,c5,c6⟩:=kU.O;go_wp2_with fail
 refine(QT.O _).mono ?_;rintro e2 w2 ⟨rfl,aL⟩;have aX:Ok I1 w2:=aM.below (Qn _) aL;have oH:=Qh (kU.O.aQ aL);have aY:=aH.trans (aL.mono aH.size);clear aL aH kU c0 c1 c2 c3 c4 c5 c6 aM;obtain⟨c0,c1,c2,c3,c4,c5,c6⟩:=oH.O;replace jd:=jd.O;go_wp2_with fail
 refine(Xe5 I1 _ act uS.O uI e.ag w2 aX).mono ?_;rw[HU.O,jd];rintro e3 w3 ⟨v2,rfl,ed,dX⟩;have yY:Ok I1 w3:=aX.below (Qn _) dX;have l8:=Qh (oH.O.aQ dX);have gp:=aY.trans (dX.mono aY.size);obtain⟨I2,oQ,eT,lN,_⟩:=ed.freeze yY (fun b hb=>aX.fresh hb);have SE:=Qh (SC.O.trans oQ aY.size);have wz:=Qh lN;obtain⟨a2,cp2,rfl,_,_,_⟩:=id lN;clear ed lN oQ yY dX aY oH c0 c1 c2 c3 c4 c5 c6 aX;obtain⟨c0,c1,c2,c3,c4,c5,c6⟩:=l8.O;by_cases Et:u<U
 ·have Hn:=Qh (show appH l e d=(jl ⟨e.ag,U⟩ rest,0) by rw[Cy.O,if_pos Et]);go_wp2_with fail
  refine(Xf4 I2 _ rest wz.O Dc.O.short (by omega) ⟨e.ag,U⟩ nV w3 eT).mono ?_;rintro e4 w4 ⟨v4,rfl,oL,aR⟩;have zy:Ok I2 w4:=eT.below (Qn _) aR;have bI:=gp.trans (aR.mono gp.size);obtain⟨I4,rT,bU,wI,_⟩:=oL.freeze zy (fun b hb=>eT.fresh hb);have RX:=Qh (SE.O.trans rT gp.size);have Nt:=Qh wI;obtain⟨a4,cp4,rfl,_,_,_⟩:=id wI;clear oL wI rT zy aR;go_wp2;go_ret2;rw[Hn.O];exact⟨_,I4,rfl,bI,RX.O,bU,Nt.O⟩
 ·have Hn:=Qh (show appH l e d=(jl ⟨e.ag,u⟩ rest,0) by rw[Cy.O,if_neg Et]);go_wp2_with fail
  refine(Xf4 I2 _ rest wz.O Dc.O.short (by omega) ⟨e.ag,u⟩ nV w3 eT).mono ?_;rintro e4 w4 ⟨v4,rfl,oL,aR⟩;have zy:Ok I2 w4:=eT.below (Qn _) aR;have bI:=gp.trans (aR.mono gp.size);obtain⟨I4,rT,bU,wI,_⟩:=oL.freeze zy (fun b hb=>eT.fresh hb);have RX:=Qh (SE.O.trans rT gp.size);have Nt:=Qh wI;obtain⟨a4,cp4,rfl,_,_,_⟩:=id wI;clear oL wI rT zy aR;go_wp2;go_ret2;rw[Hn.O];exact⟨_,I4,rfl,bI,RX.O,bU,Nt.O⟩
