/-
  Walks and laws that the claim's theorem uses: texts RhT RhX StA, joined; comments out. Conditions: as each theorem says.
-/
import Derived.Test.YtdodihnehppnmaaGreatDoorTO30
import Derived.Deep.RegionHeld3
set_option linter.all false
namespace Go.Proofs.YtdodihnehppnmaaGreatDoor
open Go.RowKit
theorem RdS.dropS {α:Type} {T:Ty α} {I:IH} {l:List α} {b off m cap:Nat} (h:RdS T I (.slice (some ⟨b,off,none⟩) m cap) l) {n:Nat} (hn:n≤l.length):RdS T I (.slice (some ⟨b,off+n*T.size,none⟩) (m-n) (cap-n)) (l.drop n):=by
 obtain ⟨ao,c,e,h1,h2,h3⟩:=h
 cases e
 refine ⟨_,_,by rw [List.length_drop],by rw [List.length_drop];omega,by omega,fun hl=> ?_⟩
 rw [List.length_drop] at hl
 obtain ⟨b',off',arr,e1,e2,e3⟩:=h3 (by omega)
 cases e1
 refine ⟨_,_,_,rfl,e2,fun i hi=> ?_⟩
 rw [List.length_drop] at hi
 obtain ⟨cs,k1,k2⟩:=e3 (n+i) (by omega)
 refine ⟨cs,by rw [List.getElem_drop];exact k1,fun j u hu=> ?_⟩
 have:=k2 j u hu
 rw [Nat.add_mul] at this
 rw [←this];congr 1;omega
theorem Xru {h:Ho} {l:List Ho} {k:Nat} (hk:k<l.length) {x:Ho} (hx:l[k]=x) (hc:¬cmpP h.p x.p<0) (hr:insH h l=l.take k++insH h (l.drop k)):insH h l=l.take (k+1)++insH h (l.drop (k+1)):=by
 have hlt:ltP (els h.p) (els x.p)=false:=by
  cases q:ltP (els h.p) (els x.p) with
  |false=>rfl
  |true=>exact absurd (by unfold cmpP;rw [q];simp) hc
 rw [hr,List.drop_eq_getElem_cons hk,hx,insH,if_neg (by simp [hlt]),List.take_succ_eq_append_getElem hk,hx]
 simp
theorem Xuf {h:Ho} {l:List Ho} {k:Nat} (hk:k<l.length) {x:Ho} (hx:l[k]=x) (hc:cmpP h.p x.p<0) (hr:insH h l=l.take k++insH h (l.drop k)):insH h l=(([]++l.take k)++ [h])++l.drop k:=by
 have hlt:ltP (els h.p) (els x.p)=true:=by
  cases q:ltP (els h.p) (els x.p) with
  |true=>rfl
  |false=>
   exfalso
   unfold cmpP at hc
   rw [q] at hc
   simp only [Bool.false_eq_true,if_false] at hc
   split at hc<;>omega
 rw [hr]
 conv=>lhs;rw [List.drop_eq_getElem_cons hk,hx,insH,if_pos hlt]
 rw [List.drop_eq_getElem_cons hk,hx]
 simp
theorem Xek (W:World) (a b:Value) (t:TypeId):∀(j:Nat) (u:Value),[a,b][j]? =some u→(W.alloc (.cells #[a,b] t)).cell? ⟨W.heap.size,j,none⟩=some u:=fun j u hu=>by
 rw [World.cell?_alloc_new];simpa using hu
set_option maxRecDepth 100000 in
set_option maxHeartbeats 4000000 in
theorem Xgc (I:IH) (v:Value) (l:List Ho) (hv:RdS tHo I v l) (hk:∀x∈l,x.p.length≤4294967280) (hn:l.length≤100000) (h:Ho) (hp:h.p.length≤4294967280) (w:World) (hw:Ok I w):
 Calls Tryz.prog 214 #[v,hoV h] w fun e w'=> ∃v',e= .returned v'∧OwnS tHo 227 I w' w.heap.size v' (insH h l)∧Below w.heap.size w w':=by
 obtain ⟨ao,cap,rfl,hcap,hcm,_⟩:=id hv
 have Hv:=Qh hv
 have Hk:=Qh hk
 clear hv hk
 have hw1:Ok I (w.alloc (.cells #[S h.p,.int .i64 h.u] 227)):=hw.alloc _
 go_enter Tryz.func214,Tryz.ntmps214
 go_wp2_with fail
 go_loopw [5] (fun s5 wr=> ∃k:Nat,k≤l.length∧s5= .int .i64 k∧insH h l=l.take k++insH h (l.drop k)∧Below (w.alloc (.cells #[S h.p,.int .i64 h.u] 227)).heap.size (w.alloc (.cells #[S h.p,.int .i64 h.u] 227)) wr) (fun i _=>l.length-(intOf i).toNat)
 case atStart=>exact ⟨0,Nat.zero_le _,rfl,by simp,Qb _ _⟩
 case round=>
  obtain ⟨k,hk,rfl,hr,hb⟩:=hrel
  have Hr:=Qh hr;clear hr
  have hwr:Ok I wr:=hw1.below (Qn _) hb
  have hbw:Below w.heap.size w wr:=((Qb w.heap.size w).alloc (Qn _) _).trans (hb.mono (by simp))
  have hszr:w.heap.size<wr.heap.size:=by have:=hb.size;simp at this;omega
  have k0:wr.cell? ⟨w.heap.size,0,none⟩=some (S h.p):=Xaa hb (by simp)
  have k1:wr.cell? ⟨w.heap.size,1,none⟩=some (.int .i64 h.u):=Xaa hb (by simp)
  by_cases hlt:k<l.length
  ·obtain ⟨x,b,off,cap',hlx,hvv,x0,x1⟩:=hoAt Hv.out hwr k hlt
   cases hvv
   have Hcm:=Qh (fun w hw=>Xb8 I h.p x.p hp (Hk.out x (by rw [←hlx];exact List.getElem_mem hlt)) w hw)
   have g0:=cell_regrown k0
   have y0:=cell_regrown x0
   have Hno:=Qh (fun hc=>Xru hlt hlx hc Hr.out)
   have Hyes:=Qh (fun hc=>Xuf hlt hlx hc Hr.out)
   obtain ⟨c,hc⟩:∃c,cmpP h.p x.p=c:=⟨_,rfl⟩
   rw [hc] at Hcm Hno Hyes
   clear hlx hc Hr
   go_wp2_with fail
   refine wp_region_quiet_below (by kernel_rfl) (by kernel_rfl) ?_
   repeat (go_big_quiet_step ((with_reducible exact Calls.regrown_of (Hcm.out _ (hwr.below (Qn _) (below_regrown _ _ _))))))
   refine wpQuiet_nil ?_
   intro w2 hwq
   have hb2:Below (wr).heap.size (wr) w2:=by
    obtain ⟨pq,rfl⟩:=hwq
    exact below_regrown _ _ _
   clear hwq
   have hb2':=hb.trans (hb2.mono hb.size)
   have hbw2:=hbw.trans (hb2.mono hbw.size)
   have hok2:Ok I w2:=hwr.below (Qn _) hb2
   have k0:=Xaa hb2 k0
   have k1:=Xaa hb2 k1
   have hsz2:w.heap.size<w2.heap.size:=by have:=hb2.size;omega
   clear hb2 hb hbw g0 y0 x0 x1 hwr
   by_cases hc0:c<0
   ·have Hn:=Qh (Hyes.out hc0)
    have hci:c<(0:Int):=hc0
    have Hs1:=Qh (fun (W:World) (hW:Ok I W)=>SrcS.of_rd (T:=tHo) (Hv.out.takeS (n:=k) (by omega)) hW (by decide))
    have Hs3:=Qh (fun (W:World) (hW:Ok I W)=>SrcS.of_rd (T:=tHo) (Hv.out.dropS (n:=k) (by omega)) hW (by decide))
    clear Hyes Hno hc0
    have hfr:∀b,w.heap.size+1≤b→I b=none:=fun b hb=>hw.fresh (by omega)
    have hE1:OwnS tHo 227 I (w2.drew.alloc (.cells #[] 227)) (w.heap.size+1) (.slice (some ⟨w2.heap.size,0,none⟩) 0 0) []:=(Xeg w2.drew w2.heap.size rfl).lower (by omega)
    have hE2:OwnS tHo 227 I ((w2.drew.alloc (.cells #[] 227)).alloc (.cells #[S h.p,.int .i64 h.u] 227)) (w.heap.size+1) (.slice (some ⟨w2.heap.size,0,none⟩) 0 0) []:=hE1.alloc _
    have hE3:OwnS tHo 227 I ((w2.drew.alloc (.cells #[S h.p,.int .i64 h.u] 227)).alloc (.cells #[] 227)) (w.heap.size+1) (.slice (some ⟨w2.heap.size+1,0,none⟩) 0 0) []:=(Xeg (w2.drew.alloc (.cells #[S h.p,.int .i64 h.u] 227)) (w2.heap.size+1) (by simp)).lower (by omega)
    have hD:Below w.heap.size w w2.drew:=hbw2.drew
    have hD1:Below w.heap.size w (w2.drew.alloc (.cells #[] 227)):=hD.alloc hD.size _
    have hD2:Below w.heap.size w ((w2.drew.alloc (.cells #[] 227)).alloc (.cells #[S h.p,.int .i64 h.u] 227)):=hD1.alloc hD1.size _
    have hD3:Below w.heap.size w ((w2.drew.alloc (.cells #[S h.p,.int .i64 h.u] 227)).alloc (.cells #[] 227)):=(hD.alloc hD.size (.cells #[S h.p,.int .i64 h.u] 227)).alloc (hD.alloc hD.size (.cells #[S h.p,.int .i64 h.u] 227)).size _
    have hO1:Ok I (w2.drew.alloc (.cells #[] 227)):=hok2.drew.alloc _
    have hO2:Ok I ((w2.drew.alloc (.cells #[] 227)).alloc (.cells #[S h.p,.int .i64 h.u] 227)):=hO1.alloc _
    have hO3:Ok I ((w2.drew.alloc (.cells #[S h.p,.int .i64 h.u] 227)).alloc (.cells #[] 227)):=(hok2.drew.alloc _).alloc _
    have hC2:∀(j:Nat) (u:Value),[S h.p,.int .i64 h.u][j]? =some u→((w2.drew.alloc (.cells #[] 227)).alloc (.cells #[S h.p,.int .i64 h.u] 227)).cell? ⟨w2.heap.size+1,j,none⟩=some u:=by simpa using Xek (w2.drew.alloc (.cells #[] 227)) (S h.p) (.int .i64 h.u) 227
    have hC3:∀(j:Nat) (u:Value),[S h.p,.int .i64 h.u][j]? =some u→((w2.drew.alloc (.cells #[S h.p,.int .i64 h.u] 227)).alloc (.cells #[] 227)).cell? ⟨w2.heap.size,j,none⟩=some u:=fun j u hu=>Xab _ (Xek w2.drew (S h.p) (.int .i64 h.u) 227 j u hu)
    have hCn:=fun W=>Xek W (S h.p) (.int .i64 h.u) 227
    have i0:(0:Int)≤k:=by omega
    have i1:(k:Int)≤l.length:=by omega
    have i2:(l.length:Int)≤cap:=by omega
    have i3:(k:Int)≤cap:=by omega
    have hck:¬cap=k:=by omega
    have hbig:l.length≤100000:=hn
    go_wp2_with fail
    go_region_held3 (fun W=>W.cell? ⟨w.heap.size,0,none⟩=some (S h.p)∧W.cell? ⟨w.heap.size,1,none⟩=some (.int .i64 h.u))
    (first
      |go_keep
      |(go_split_ands;refine ⟨?_,?_⟩<;>(refine Xay hg1 hne1 ?_;assumption))
      |(go_split_ands;refine ⟨?_,?_⟩<;>(refine Xay hg2 hne2 ?_;assumption))
      |(go_split_ands;refine ⟨?_,?_⟩<;>(refine Xay hg5 hne5 ?_;assumption)))
    (first
      |(refine Xap (w:=w2.drew.alloc (.cells #[] 227)) Xbq (by rfl) _ _ (by rfl) (by rfl) hE1 (by rfl) (Hs1.out _ hO1) (by simp;omega) (by simp;omega) (by simp;omega) ?_
        intro v1 w3 hown1 hg1
        have hne1:=hE1.ne_lt (show w.heap.size<w.heap.size+1 by omega)
        have hb3:=Below.own hD1 hg1 hE1 (by omega) (by simp;omega)
        have hok3:=Ok.own hO1 hg1 hE1 hfr
        have hs3:=hg1.size
        simp at hs3)
      |(refine Xap (w:=(w2.drew.alloc (.cells #[] 227)).alloc (.cells #[S h.p,.int .i64 h.u] 227)) Xbq (by rfl) _ _ (by rfl) (by rfl) hE2 (by rfl) (Hs1.out _ hO2) (by simp;omega) (by simp;omega) (by simp;omega) ?_
        intro v1 w3 hown1 hg1
        have hne1:=hE2.ne_lt (show w.heap.size<w.heap.size+1 by omega)
        have hb3:=Below.own hD2 hg1 hE2 (by omega) (by simp;omega)
        have hok3:=Ok.own hO2 hg1 hE2 hfr
        have hs3:=hg1.size
        simp at hs3
        have hc3:∀(j:Nat) (u:Value),[S h.p,.int .i64 h.u][j]? =some u→w3.cell? ⟨w2.heap.size+1,j,none⟩=some u:=fun j u hu=>Xay hg1 (by simp [Value.ownBlock]) (hC2 j u hu))
      |(refine Xap (w:=(w2.drew.alloc (.cells #[S h.p,.int .i64 h.u] 227)).alloc (.cells #[] 227)) Xbq (by rfl) _ _ (by rfl) (by rfl) hE3 (by rfl) (Hs1.out _ hO3) (by simp;omega) (by simp;omega) (by simp;omega) ?_
        intro v1 w3 hown1 hg1
        have hne1:=hE3.ne_lt (show w.heap.size<w.heap.size+1 by omega)
        have hb3:=Below.own hD3 hg1 hE3 (by omega) (by simp;omega)
        have hok3:=Ok.own hO3 hg1 hE3 hfr
        have hs3:=hg1.size
        simp at hs3
        have hc3:∀(j:Nat) (u:Value),[S h.p,.int .i64 h.u][j]? =some u→w3.cell? ⟨w2.heap.size,j,none⟩=some u:=fun j u hu=>Xay hg1 (by simp [Value.ownBlock]) (hC3 j u hu))
      |(refine Xap (w:=w3.alloc (.cells #[S h.p,.int .i64 h.u] 227)) Xbq (by rfl) _ _ (by rfl) (by rfl) (hown1.alloc (.cells #[S h.p,.int .i64 h.u] 227)) (by rfl) (SrcS.of_one (x:=h) (cs:= [S h.p,.int .i64 h.u]) rfl (hCn w3)) (by simp;omega) (by simp;omega) (by (try simp);omega) ?_
        intro v2 w4 hown2 hg2
        have hne2:=OwnS.ne_lt (hown1.alloc (.cells #[S h.p,.int .i64 h.u] 227)) (show w.heap.size<w.heap.size+1 by omega)
        have hb4:=Below.own (hb3.alloc hb3.size (.cells #[S h.p,.int .i64 h.u] 227)) hg2 (hown1.alloc (.cells #[S h.p,.int .i64 h.u] 227)) (by omega) (by (try simp);omega)
        have hok4:=Ok.own (hok3.alloc (.cells #[S h.p,.int .i64 h.u] 227)) hg2 (hown1.alloc (.cells #[S h.p,.int .i64 h.u] 227)) hfr
        have hs4:=hg2.size
        (try simp at hs4))
      |(refine Xap (w:=w3) Xbq (by rfl) _ _ (by rfl) (by rfl) hown1 (by rfl) (SrcS.of_one (x:=h) (cs:= [S h.p,.int .i64 h.u]) rfl hc3) (by simp;omega) (by simp;omega) (by (try simp);omega) ?_
        intro v2 w4 hown2 hg2
        have hne2:=OwnS.ne_lt hown1 (show w.heap.size<w.heap.size+1 by omega)
        have hb4:=Below.own hb3 hg2 hown1 (by omega) (by (try simp);omega)
        have hok4:=Ok.own hok3 hg2 hown1 hfr
        have hs4:=hg2.size
        (try simp at hs4))
      |(refine Xap (w:=w4) Xbq (by rfl) _ _ (by rfl) (by rfl) hown2 (by rfl) (Hs3.out _ hok4) (by simp;omega) (by simp;omega) (by omega) ?_
        intro v5 w5 hown5 hg5
        have hne5:=hown2.ne_lt (show w.heap.size<w.heap.size+1 by omega)
        have hb5:=Below.own hb4 hg5 hown2 (by omega) (by omega)))
    all_goals
     go_wp2
     go_ret
     exact ⟨v5,rfl,(hown5.lower (by omega)).castH (by rw [Hn.out]),hb5⟩
   ·have Hn:=Qh (Hno.out (by omega))
    have hci:¬c<(0:Int):=hc0
    clear Hyes Hno hc0
    go_wp2
    go_roundw
    case rel=>exact ⟨k+1,by omega,by go_num,Hn.out,hb2'⟩
    case measure=>simp [intOf];omega
  ·have Hall:=Qh (show insH h l=([]++l)++ [h] by
    rw [Hr.out,List.drop_of_length_le (by omega),List.take_of_length_le (by omega),insH];simp)
   have Hs1:=Qh (fun (W:World) (hW:Ok I W)=>SrcS.of_rd (T:=tHo) Hv.out hW (by decide))
   have hsz2:=hszr
   have hfr:∀b,w.heap.size+1≤b→I b=none:=fun b hb=>hw.fresh (by omega)
   have hE1:OwnS tHo 227 I (wr.drew.alloc (.cells #[] 227)) (w.heap.size+1) (.slice (some ⟨wr.heap.size,0,none⟩) 0 0) []:=(Xeg wr.drew wr.heap.size rfl).lower (by omega)
   have hE2:OwnS tHo 227 I ((wr.drew.alloc (.cells #[] 227)).alloc (.cells #[S h.p,.int .i64 h.u] 227)) (w.heap.size+1) (.slice (some ⟨wr.heap.size,0,none⟩) 0 0) []:=hE1.alloc _
   have hE3:OwnS tHo 227 I ((wr.drew.alloc (.cells #[S h.p,.int .i64 h.u] 227)).alloc (.cells #[] 227)) (w.heap.size+1) (.slice (some ⟨wr.heap.size+1,0,none⟩) 0 0) []:=(Xeg (wr.drew.alloc (.cells #[S h.p,.int .i64 h.u] 227)) (wr.heap.size+1) (by simp)).lower (by omega)
   have hD:Below w.heap.size w wr.drew:=hbw.drew
   have hD1:Below w.heap.size w (wr.drew.alloc (.cells #[] 227)):=hD.alloc hD.size _
   have hD2:Below w.heap.size w ((wr.drew.alloc (.cells #[] 227)).alloc (.cells #[S h.p,.int .i64 h.u] 227)):=hD1.alloc hD1.size _
   have hD3:Below w.heap.size w ((wr.drew.alloc (.cells #[S h.p,.int .i64 h.u] 227)).alloc (.cells #[] 227)):=(hD.alloc hD.size (.cells #[S h.p,.int .i64 h.u] 227)).alloc (hD.alloc hD.size (.cells #[S h.p,.int .i64 h.u] 227)).size _
   have hO1:Ok I (wr.drew.alloc (.cells #[] 227)):=hwr.drew.alloc _
   have hO2:Ok I ((wr.drew.alloc (.cells #[] 227)).alloc (.cells #[S h.p,.int .i64 h.u] 227)):=hO1.alloc _
   have hO3:Ok I ((wr.drew.alloc (.cells #[S h.p,.int .i64 h.u] 227)).alloc (.cells #[] 227)):=(hwr.drew.alloc _).alloc _
   have hC2:∀(j:Nat) (u:Value),[S h.p,.int .i64 h.u][j]? =some u→((wr.drew.alloc (.cells #[] 227)).alloc (.cells #[S h.p,.int .i64 h.u] 227)).cell? ⟨wr.heap.size+1,j,none⟩=some u:=by simpa using Xek (wr.drew.alloc (.cells #[] 227)) (S h.p) (.int .i64 h.u) 227
   have hC3:∀(j:Nat) (u:Value),[S h.p,.int .i64 h.u][j]? =some u→((wr.drew.alloc (.cells #[S h.p,.int .i64 h.u] 227)).alloc (.cells #[] 227)).cell? ⟨wr.heap.size,j,none⟩=some u:=fun j u hu=>Xab _ (Xek wr.drew (S h.p) (.int .i64 h.u) 227 j u hu)
   have hCn:=fun W=>Xek W (S h.p) (.int .i64 h.u) 227
   have i0:(0:Int)≤k:=by omega
   have i1:(k:Int)≤l.length:=by omega
   have i2:(l.length:Int)≤cap:=by omega
   have i3:(k:Int)≤cap:=by omega
   go_wp2_with fail
   go_region_held3 (fun W=>W.cell? ⟨w.heap.size,0,none⟩=some (S h.p)∧W.cell? ⟨w.heap.size,1,none⟩=some (.int .i64 h.u))
   (first
     |go_keep
     |(go_split_ands;refine ⟨?_,?_⟩<;>(refine Xay hg1 hne1 ?_;assumption))
     |(go_split_ands;refine ⟨?_,?_⟩<;>(refine Xay hg2 hne2 ?_;assumption))
     |(go_split_ands;refine ⟨?_,?_⟩<;>(refine Xay hg5 hne5 ?_;assumption)))
   (first
     |(refine Xap (w:=wr.drew.alloc (.cells #[] 227)) Xbq (by rfl) _ _ (by rfl) (by rfl) hE1 (by rfl) (Hs1.out _ hO1) (by simp;omega) (by simp;omega) (by simp;omega) ?_
       intro v1 w3 hown1 hg1
       have hne1:=hE1.ne_lt (show w.heap.size<w.heap.size+1 by omega)
       have hb3:=Below.own hD1 hg1 hE1 (by omega) (by simp;omega)
       have hok3:=Ok.own hO1 hg1 hE1 hfr
       have hs3:=hg1.size
       simp at hs3)
     |(refine Xap (w:=(wr.drew.alloc (.cells #[] 227)).alloc (.cells #[S h.p,.int .i64 h.u] 227)) Xbq (by rfl) _ _ (by rfl) (by rfl) hE2 (by rfl) (Hs1.out _ hO2) (by simp;omega) (by simp;omega) (by simp;omega) ?_
       intro v1 w3 hown1 hg1
       have hne1:=hE2.ne_lt (show w.heap.size<w.heap.size+1 by omega)
       have hb3:=Below.own hD2 hg1 hE2 (by omega) (by simp;omega)
       have hok3:=Ok.own hO2 hg1 hE2 hfr
       have hs3:=hg1.size
       simp at hs3
       have hc3:∀(j:Nat) (u:Value),[S h.p,.int .i64 h.u][j]? =some u→w3.cell? ⟨wr.heap.size+1,j,none⟩=some u:=fun j u hu=>Xay hg1 (by simp [Value.ownBlock]) (hC2 j u hu))
     |(refine Xap (w:=(wr.drew.alloc (.cells #[S h.p,.int .i64 h.u] 227)).alloc (.cells #[] 227)) Xbq (by rfl) _ _ (by rfl) (by rfl) hE3 (by rfl) (Hs1.out _ hO3) (by simp;omega) (by simp;omega) (by simp;omega) ?_
       intro v1 w3 hown1 hg1
       have hne1:=hE3.ne_lt (show w.heap.size<w.heap.size+1 by omega)
       have hb3:=Below.own hD3 hg1 hE3 (by omega) (by simp;omega)
       have hok3:=Ok.own hO3 hg1 hE3 hfr
       have hs3:=hg1.size
       simp at hs3
       have hc3:∀(j:Nat) (u:Value),[S h.p,.int .i64 h.u][j]? =some u→w3.cell? ⟨wr.heap.size,j,none⟩=some u:=fun j u hu=>Xay hg1 (by simp [Value.ownBlock]) (hC3 j u hu))
     |(refine Xap (w:=w3.alloc (.cells #[S h.p,.int .i64 h.u] 227)) Xbq (by rfl) _ _ (by rfl) (by rfl) (hown1.alloc (.cells #[S h.p,.int .i64 h.u] 227)) (by rfl) (SrcS.of_one (x:=h) (cs:= [S h.p,.int .i64 h.u]) rfl (hCn w3)) (by simp;omega) (by simp;omega) (by (try simp);omega) ?_
       intro v2 w4 hown2 hg2
       have hne2:=OwnS.ne_lt (hown1.alloc (.cells #[S h.p,.int .i64 h.u] 227)) (show w.heap.size<w.heap.size+1 by omega)
       have hb4:=Below.own (hb3.alloc hb3.size (.cells #[S h.p,.int .i64 h.u] 227)) hg2 (hown1.alloc (.cells #[S h.p,.int .i64 h.u] 227)) (by omega) (by (try simp);omega)
       have hok4:=Ok.own (hok3.alloc (.cells #[S h.p,.int .i64 h.u] 227)) hg2 (hown1.alloc (.cells #[S h.p,.int .i64 h.u] 227)) hfr
       have hs4:=hg2.size
       (try simp at hs4))
     |(refine Xap (w:=w3) Xbq (by rfl) _ _ (by rfl) (by rfl) hown1 (by rfl) (SrcS.of_one (x:=h) (cs:= [S h.p,.int .i64 h.u]) rfl hc3) (by simp;omega) (by simp;omega) (by (try simp);omega) ?_
       intro v2 w4 hown2 hg2
       have hne2:=OwnS.ne_lt hown1 (show w.heap.size<w.heap.size+1 by omega)
       have hb4:=Below.own hb3 hg2 hown1 (by omega) (by (try simp);omega)
       have hok4:=Ok.own hok3 hg2 hown1 hfr
       have hs4:=hg2.size
       (try simp at hs4)))
   all_goals
    go_wp2
    go_ret
    exact ⟨v2,rfl,(hown2.lower (by omega)).castH (by rw [Hall.out]),hb4⟩
set_option maxRecDepth 100000 in
set_option maxHeartbeats 4000000 in
theorem Xm6 (I:IH) (v:Value) (l:List Ho) (hv:RdS tHo I v l) (hk:HOk l) (hn:l.length≤100000) (e:Ent) (va vx:Value) (hva:RdS tAt I va e.attrs) (hvx:RdS tXt I vx e.exts) (he:entErr e=0) (d:Int) (w:World) (hw:Ok I w):
 Calls Tryz.prog 146 #[v,entV e va vx,.int .i64 d] w (RetL tHo I w (appH l e d).1 (appH l e d).2):=by
 have Ha:=Qh (fun w hw=>Xkv I v l hv hn d w hw)
 have hpl:e.path.length≤4294967280:=by have:=(Xax (Xbj he).2.2.1).1;omega
 have Hd:=Qh (fun h5=>Xh1 he h5)
 have hal:(actP l d).length≤100000:=Nat.le_trans (List.length_filter_le _ _) hn
 have Hka:=Qh (hk.act d)
 have hrl:(restH (actP l d) e.path).length≤(actP l d).length:=List.length_filter_le _ _
 have Hkr:=Qh ((hk.act d).rest e.path)
 have h50:e.kind=5→appH l e d=(insH ⟨e.path,untilH e.path (actP l d) (digits e.target)⟩ (restH (actP l d) e.path),0):=fun h=>Xmi h
 have h60:e.kind=6→appH l e d=if hasH (actP l d) e.path then (restH (actP l d) e.path,0) else ([],9):=fun h=>by rw [appH,if_neg (by omega),if_pos h]
 have hel:= @Xpm l e d
 obtain ⟨ao,cap,rfl,hcap,hcm,_⟩:=id hv
 obtain ⟨aa,ca,rfl,_,_,_⟩:=id hva
 obtain ⟨ax,cx,rfl,_,_,_⟩:=id hvx
 clear hv hva hvx hk he
 obtain ⟨act,hact⟩:∃act,actP l d=act:=⟨_,rfl⟩
 rw [hact] at Ha hal Hka hrl Hkr h50 h60 hel
 obtain ⟨rest,hrest⟩:∃rest,restH act e.path=rest:=⟨_,rfl⟩
 rw [hrest] at hrl Hkr h50 h60
 obtain ⟨U,hU⟩:∃U,wasH e.path act (-1)=U:=⟨_,rfl⟩
 have HU:=Qh hU
 have Hh:=Qh (Xqp (p:=e.path) Hka.out)
 have Hw:=Qh (fun u h=>Xkl (p:=e.path) (u:=u) Hka.out h)
 rw [hU] at Hh Hw
 have Hrest:=Qh hrest
 clear hact hU hrest
 have hrest:=Hrest
 by_cases h5:e.kind=5
 case neg=>
  have k5:((e.kind:Int)==5)=false:=by simpa using h5
  by_cases h6:e.kind=6
  case neg=>
   have k6:((e.kind:Int)==6)=false:=by simpa using h6
   have Hn:=Qh (hel h5 h6)
   clear h5 h6 h50 h60 hel
   go_enter Tryz.func146,Tryz.ntmps146
   go_wp2_with fail
   refine (Ha.out _ (hw.alloc _)).mono ?_
   rintro e1 w1 ⟨v1,rfl,hown1,hb1⟩
   have HB1:=Qh (entB (e:=e) rfl hb1)
   have hok0:Ok I w1:=(hw.alloc _).below (Qn _) hb1
   have hsz1:w.heap.size<w1.heap.size:=by have:=hb1.size;simp at this;omega
   have hb1':=((Qb w.heap.size w).alloc (Qn _) (.cells #[.int .i64 e.kind,S e.path,.slice aa e.attrs.length ca,S e.target,.int .i64 e.size,S e.digest,.slice ax e.exts.length cx] 26)).trans (hb1.mono (by simp))
   obtain ⟨I1,hx1,hok1,hrd1,_⟩:=(hown1.lower (show w.heap.size≤_ by simp)).freeze hok0 (fun b hb=>hw.fresh hb)
   have Hx1:=Qh hx1
   have Hrd1:=Qh hrd1
   obtain ⟨a1,cp1,rfl,_,_,_⟩:=id hrd1
   clear hown1 hb1 hrd1 hx1 hok0 Ha
   obtain ⟨c0,c1,c2,c3,c4,c5,c6⟩:=HB1.out
   go_wp2
   go_ret2
   rw [Hn.out]
   exact ⟨_,I1,rfl,hb1',Hx1.out,hok1,Hrd1.out⟩
  have k6:((e.kind:Int)==6)=true:=by simpa using h6
  have Hn0:=Qh (h60 h6)
  clear h5 h6 h50 h60 hel
  go_enter Tryz.func146,Tryz.ntmps146
  go_wp2_with fail
  refine (Ha.out _ (hw.alloc _)).mono ?_
  rintro e1 w1 ⟨v1,rfl,hown1,hb1⟩
  have HB1:=Qh (entB (e:=e) rfl hb1)
  have hok0:Ok I w1:=(hw.alloc _).below (Qn _) hb1
  have hsz1:w.heap.size<w1.heap.size:=by have:=hb1.size;simp at this;omega
  have hb1':=((Qb w.heap.size w).alloc (Qn _) (.cells #[.int .i64 e.kind,S e.path,.slice aa e.attrs.length ca,S e.target,.int .i64 e.size,S e.digest,.slice ax e.exts.length cx] 26)).trans (hb1.mono (by simp))
  obtain ⟨I1,hx1,hok1,hrd1,_⟩:=(hown1.lower (show w.heap.size≤_ by simp)).freeze hok0 (fun b hb=>hw.fresh hb)
  have Hx1:=Qh hx1
  have Hrd1:=Qh hrd1
  obtain ⟨a1,cp1,rfl,_,_,_⟩:=id hrd1
  clear hown1 hb1 hrd1 hx1 hok0 Ha
  obtain ⟨c0,c1,c2,c3,c4,c5,c6⟩:=HB1.out
  replace hrest:=hrest.out
  go_wp2_with fail
  refine (Xe6 I1 _ act Hrd1.out hal e.path w1 hok1).mono ?_
  rw [HU.out,hrest]
  rintro e2 w2 ⟨v2,rfl,hown2,hb2⟩
  have hok2':Ok I1 w2:=hok1.below (Qn _) hb2
  have HB2:=Qh (HB1.out.thru hb2)
  have hb2':=hb1'.trans (hb2.mono hb1'.size)
  obtain ⟨I2,hx2,hok2,hrd2,_⟩:=hown2.freeze hok2' (fun b hb=>hok1.fresh hb)
  have Hx2:=Qh (Hx1.out.trans hx2 hb1'.size)
  have Hrd2:=Qh hrd2
  obtain ⟨a2,cp2,rfl,_,_,_⟩:=id hrd2
  clear hown2 hrd2 hx2 hok2' hb2 hb1' HB1 c0 c1 c2 c3 c4 c5 c6 hok1
  obtain ⟨c0,c1,c2,c3,c4,c5,c6⟩:=HB2.out
  by_cases hu0:U<0
  ·have Hn:=Qh (show appH l e d=([],9) by
    have h:=Hh.out
    rw [Qt hu0] at h
    rw [Hn0.out,if_neg (by rw [show hasH act e.path=false by simpa using h.symm];simp)])
   have hi:U<(0:Int):=hu0
   go_wp2
   go_ret2
   rw [Hn.out]
   exact ⟨_,I2,rfl,hb2'.alloc hb2'.size _,Hx2.out,hok2.alloc _,⟨_,_,rfl,Qn _,Nat.zero_le _,fun h=>absurd h (by simp)⟩⟩
  ·have Hn:=Qh (show appH l e d=(rest,0) by
    have h:=Hh.out
    rw [Qf hu0] at h
    rw [Hn0.out,if_pos (by simpa using h)])
   have hi:¬U<(0:Int):=hu0
   go_wp2
   go_ret2
   rw [Hn.out]
   exact ⟨_,I2,rfl,hb2',Hx2.out,hok2,Hrd2.out⟩
 have k5:((e.kind:Int)==5)=true:=by simpa using h5
 have Hdt:=Qh (fun w=>Xpv e.target (Hd.out h5) w)
 have hdb:=Xfo (Hd.out h5)
 have Hn0:=Qh (h50 h5)
 clear h5 h50 h60 hel Hh
 obtain ⟨u,hu⟩:∃u,digits e.target=u:=⟨_,rfl⟩
 rw [hu] at Hdt hdb Hn0
 have Hwu:=Qh (Hw.out u hdb.1)
 rw [←Hwu.out] at Hn0
 have h0u:=hdb.1
 have hu1:=hdb.2
 have hi0:¬u<(0:Int):=by omega
 clear hu hdb Hwu Hw
 go_enter Tryz.func146,Tryz.ntmps146
 go_wp2_with fail
 refine (Ha.out _ (hw.alloc _)).mono ?_
 rintro e1 w1 ⟨v1,rfl,hown1,hb1⟩
 have HB1:=Qh (entB (e:=e) rfl hb1)
 have hok0:Ok I w1:=(hw.alloc _).below (Qn _) hb1
 have hsz1:w.heap.size<w1.heap.size:=by have:=hb1.size;simp at this;omega
 have hb1':=((Qb w.heap.size w).alloc (Qn _) (.cells #[.int .i64 e.kind,S e.path,.slice aa e.attrs.length ca,S e.target,.int .i64 e.size,S e.digest,.slice ax e.exts.length cx] 26)).trans (hb1.mono (by simp))
 obtain ⟨I1,hx1,hok1,hrd1,_⟩:=(hown1.lower (show w.heap.size≤_ by simp)).freeze hok0 (fun b hb=>hw.fresh hb)
 have Hx1:=Qh hx1
 have Hrd1:=Qh hrd1
 obtain ⟨a1,cp1,rfl,_,_,_⟩:=id hrd1
 clear hown1 hb1 hrd1 hx1 hok0 Ha
 obtain ⟨c0,c1,c2,c3,c4,c5,c6⟩:=HB1.out
 go_wp2_with fail
 refine (Hdt.out _).mono ?_
 rintro e2 w2 ⟨rfl,hb2⟩
 have hok2:Ok I1 w2:=hok1.below (Qn _) hb2
 have HB2:=Qh (HB1.out.thru hb2)
 have hb2':=hb1'.trans (hb2.mono hb1'.size)
 clear hb2 hb1' HB1 c0 c1 c2 c3 c4 c5 c6 hok1
 obtain ⟨c0,c1,c2,c3,c4,c5,c6⟩:=HB2.out
 replace hrest:=hrest.out
 go_wp2_with fail
 refine (Xe6 I1 _ act Hrd1.out hal e.path w2 hok2).mono ?_
 rw [HU.out,hrest]
 rintro e3 w3 ⟨v2,rfl,hown2,hb3⟩
 have hok3':Ok I1 w3:=hok2.below (Qn _) hb3
 have HB3:=Qh (HB2.out.thru hb3)
 have hb3':=hb2'.trans (hb3.mono hb2'.size)
 obtain ⟨I2,hx2,hok3,hrd2,_⟩:=hown2.freeze hok3' (fun b hb=>hok2.fresh hb)
 have Hx2:=Qh (Hx1.out.trans hx2 hb2'.size)
 have Hrd2:=Qh hrd2
 obtain ⟨a2,cp2,rfl,_,_,_⟩:=id hrd2
 clear hown2 hrd2 hx2 hok3' hb3 hb2' HB2 c0 c1 c2 c3 c4 c5 c6 hok2
 obtain ⟨c0,c1,c2,c3,c4,c5,c6⟩:=HB3.out
 by_cases hgt:u<U
 ·have Hn:=Qh (show appH l e d=(insH ⟨e.path,U⟩ rest,0) by rw [Hn0.out,if_pos hgt])
  go_wp2_with fail
  refine (Xgc I2 _ rest Hrd2.out Hkr.out.short (by omega) ⟨e.path,U⟩ hpl w3 hok3).mono ?_
  rintro e4 w4 ⟨v4,rfl,hown4,hb4⟩
  have hok4':Ok I2 w4:=hok3.below (Qn _) hb4
  have hb4':=hb3'.trans (hb4.mono hb3'.size)
  obtain ⟨I4,hx4,hok4,hrd4,_⟩:=hown4.freeze hok4' (fun b hb=>hok3.fresh hb)
  have Hx4:=Qh (Hx2.out.trans hx4 hb3'.size)
  have Hrd4:=Qh hrd4
  obtain ⟨a4,cp4,rfl,_,_,_⟩:=id hrd4
  clear hown4 hrd4 hx4 hok4' hb4
  go_wp2
  go_ret2
  rw [Hn.out]
  exact ⟨_,I4,rfl,hb4',Hx4.out,hok4,Hrd4.out⟩
 ·have Hn:=Qh (show appH l e d=(insH ⟨e.path,u⟩ rest,0) by rw [Hn0.out,if_neg hgt])
  go_wp2_with fail
  refine (Xgc I2 _ rest Hrd2.out Hkr.out.short (by omega) ⟨e.path,u⟩ hpl w3 hok3).mono ?_
  rintro e4 w4 ⟨v4,rfl,hown4,hb4⟩
  have hok4':Ok I2 w4:=hok3.below (Qn _) hb4
  have hb4':=hb3'.trans (hb4.mono hb3'.size)
  obtain ⟨I4,hx4,hok4,hrd4,_⟩:=hown4.freeze hok4' (fun b hb=>hok3.fresh hb)
  have Hx4:=Qh (Hx2.out.trans hx4 hb3'.size)
  have Hrd4:=Qh hrd4
  obtain ⟨a4,cp4,rfl,_,_,_⟩:=id hrd4
  clear hown4 hrd4 hx4 hok4' hb4
  go_wp2
  go_ret2
  rw [Hn.out]
  exact ⟨_,I4,rfl,hb4',Hx4.out,hok4,Hrd4.out⟩
structure ApR (n:Nat) (W:World) (vt vh:Value) (e:Ent) (va vx:Value):Prop where
 s0:W.cell? ⟨n,0,none⟩=some vt
 s1:W.cell? ⟨n,1,none⟩=some vh
 eb:EntB W (n+1) e va vx
 row:W.heap[n+1+1]? =some (.cells #[.slice none 0 0,.slice none 0 0] 136 (0,0))
theorem ApR.thru {n:Nat} {W W':World} {vt vh:Value} {e:Ent} {va vx:Value} (h:ApR n W vt vh e va vx) (hb:Below W.heap.size W W'):ApR n W' vt vh e va vx:=
 ⟨Xaa hb h.s0,Xaa hb h.s1,h.eb.thru hb,(hb.block _ (Array.getElem?_eq_some_iff.1 h.row).1).trans h.row⟩
theorem ApR.past {n:Nat} {W:World} {vt vh:Value} {e:Ent} {va vx:Value} (h:ApR n W vt vh e va vx) (o:Obj):ApR n (W.alloc o) vt vh e va vx:=h.thru ((Qb _ _).alloc (Qn _) o)
set_option maxRecDepth 100000 in
set_option maxHeartbeats 4000000 in
theorem Xfx (I:IH) (s:Stt) (vt vh:Value) (hvt:RdS tEnt I vt s.tree) (hvh:RdS tHo I vh s.holds) (hs:SmlT s.tree) (hn:s.tree.length≤100000) (hk:HOk s.holds) (hnh:s.holds.length≤100000) (e:Ent) (va vx:Value) (hva:RdS tAt I va e.attrs) (hvx:RdS tXt I vx e.exts) (hwf:e.Wf) (hpl:e.path.length≤4294967280) (hxl:e.exts.length≤1000000) (d:Int) (w:World) (hw:Ok I w):
 Calls Tryz.prog 94 #[sttV vt vh,entV e va vx,.int .i64 d] w (RetT I w (stpP s e d).1 (stpP s e d).2):=by
 have Ha:=Qh (fun w hw=>Xm7 I vt s.tree hvt hs hn e va vx hva hvx hwf hpl hxl w hw)
 have Hvt:=Qh hvt
 have Hvh:=Qh hvh
 have Hva:=Qh hva
 have Hvx:=Qh hvx
 have Hap0:=Qh (fun (he:entErr e=0) I v va vx hv hva hvx w hw=>Xm6 I v s.holds hv hk hnh e va vx hva hvx he d w hw)
 obtain ⟨at',ct,rfl,_,_,_⟩:=id hvt
 obtain ⟨ah,ch,rfl,_,_,_⟩:=id hvh
 obtain ⟨aa,ca,rfl,_,_,_⟩:=id hva
 obtain ⟨ax,cx,rfl,_,_,_⟩:=id hvx
 have hi2:(Tryz.prog.info? 136).map (·.size)=some 2:=by kernel_rfl
 have Hi2:=Qh hi2
 obtain ⟨t2,n,hx⟩:∃t2 n,applyT s.tree e=(t2,n):=⟨_,_,rfl⟩
 by_cases h:n=0
 case neg=>
  have Hn:=Qh (show stpP s e d=(s,n) by rw [stpP,hx,if_pos h])
  rw [hx] at Ha
  have hn0:(n != 0)=true:=by simpa using h
  clear hvt hvh hva hvx hi2 hx hk h hs hn hwf Hap0
  go_enter Tryz.func94,Tryz.ntmps94
  go_wp2_with fail
  refine (Ha.out _ (((hw.alloc _).alloc _).alloc _)).mono ?_
  rintro e1 w1 ⟨v2,I1,rfl,hb1,hx1,hok1,hr2⟩
  have hrow:w1.heap[w.heap.size+1+1]? =some (.cells #[.slice none 0 0,.slice none 0 0] 136 (0,0)):=(hb1.block _ (by simp)).trans (by have:=heap_alloc_new ((w.alloc (.cells #[.slice at' s.tree.length ct,.slice ah s.holds.length ch] 136)).alloc (.cells #[.int .i64 e.kind,S e.path,.slice aa e.attrs.length ca,S e.target,.int .i64 e.size,S e.digest,.slice ax e.exts.length cx] 26)) (.cells #[.slice none 0 0,.slice none 0 0] 136);simpa using this)
  have heb:EntB ((w.alloc (.cells #[.slice at' s.tree.length ct,.slice ah s.holds.length ch] 136)).alloc (.cells #[.int .i64 e.kind,S e.path,.slice aa e.attrs.length ca,S e.target,.int .i64 e.size,S e.digest,.slice ax e.exts.length cx] 26)) (w.heap.size+1) e (.slice aa e.attrs.length ca) (.slice ax e.exts.length cx):=entB (by simp) (Qb _ _)
  have AW1:=Qh (ApR.mk (Xaa hb1 (Xab _ (Xab _ (by simp)))) (Xaa hb1 (Xab _ (Xab _ (by simp)))) ((heb.past _).thru hb1) hrow:ApR w.heap.size w1 (.slice at' s.tree.length ct) (.slice ah s.holds.length ch) e (.slice aa e.attrs.length ca) (.slice ax e.exts.length cx))
  have hb1':Below w.heap.size w w1:=((((Qb w.heap.size w).alloc (Qn _) (.cells #[.slice at' s.tree.length ct,.slice ah s.holds.length ch] 136)).alloc (by simp) (.cells #[.int .i64 e.kind,S e.path,.slice aa e.attrs.length ca,S e.target,.int .i64 e.size,S e.digest,.slice ax e.exts.length cx] 26)).alloc (by simp;omega) (.cells #[.slice none 0 0,.slice none 0 0] 136)).trans (hb1.mono (by simp;omega))
  have hx1':Ext (w.heap.size+1+1+1) I I1:=hx1.mono (by simp)
  have hkp:=(hx1'.mono (show w.heap.size≤_ by omega)).keep hw (Qn _)
  have Hx1:=Qh hx1'
  have Hr2:=Qh hr2
  have Hvt1:=Qh (Hvt.out.mono hkp)
  have Hvh1:=Qh (Hvh.out.mono hkp)
  have Hva1:=Qh (Hva.out.mono hkp)
  have Hvx1:=Qh (Hvx.out.mono hkp)
  obtain ⟨a2,c2',rfl,_,_,_⟩:=id hr2
  clear hb1 hrow heb hx1 hx1' hkp hr2 Ha
  obtain ⟨s0,s1,⟨c0,c1,c2,c3,c4,c5,c6⟩,_⟩:=AW1.out
  have r0:w1.cell? ⟨w.heap.size+1+1,0,none⟩=some (.slice none 0 0):=(cell_of_row w1 _ 0 _ _ _ AW1.out.row).trans rfl
  have r1:w1.cell? ⟨w.heap.size+1+1,1,none⟩=some (.slice none 0 0):=(cell_of_row w1 _ 1 _ _ _ AW1.out.row).trans rfl
  have f0:=frozen_of_row w1 _ 0 _ _ AW1.out.row
  have f1:=frozen_of_row w1 _ 1 _ _ AW1.out.row
  go_wp2
  have hW:=heap_setCell_same _ (w.heap.size+1+1) 1 _ _ (.slice ah s.holds.length ch) (heap_setCell_same w1 (w.heap.size+1+1) 0 _ _ (.slice at' s.tree.length ct) AW1.out.row)
  refine bodyPost_ret (v:= .tuple #[sttV (.slice at' s.tree.length ct) (.slice ah s.holds.length ch),.int .i64 n]) ?_ rfl ?_
  ·rw [results_cell_tmp rfl]
   simp [asAddr,run_loadVar_row _ (w.heap.size+1+1) 136 136 #[(.slice at' s.tree.length ct),(.slice ah s.holds.length ch)] (0,0) _ hW Tryz.underlying136 rfl Hi2.out]
  ·rw [Hn.out]
   have hfr:I1 (w.heap.size+1+1)=none:=(Hx1.out _ (by omega)).trans (hw.fresh (by omega))
   exact ⟨_,_,I1,rfl,(hb1'.setCell (by simp;omega) _).setCell (by simp;omega) _,Ext.mono Hx1.out (by omega),(Ok.setCell hok1 hfr _).setCell hfr _,Hvt1.out,Hvh1.out⟩
 subst h
 have he:entErr e=0:=(applyT_iff.1 (Xct (by rw [hx]))).1.ent
 have Hap:=Qh (Hap0.out he)
 obtain ⟨h2,m,hah⟩:∃h2 m,appH s.holds e d=(h2,m):=⟨_,_,rfl⟩
 obtain ⟨al,hal⟩:∃al,alwP s.holds e.kind e.path d=al:=⟨_,rfl⟩
 obtain ⟨gx,hb,hge⟩:∃gx hb,getE s.tree e.path=(gx,hb):=⟨_,_,rfl⟩
 have hgt:(getT s.tree e.path).isSome=hb:=by rw [←Xh3,hge]
 have hst:stpP s e d=if askP s e d≠0 then (s,askP s e d) else if m≠0 then (s,m) else (⟨t2,h2⟩,0):=by
  rw [stpP,if_neg (by rw [hx];simp),hah,hx]
 have hask0:askP s e d=if 3<e.kind∨hb=true then al else 0:=by rw [askP,hgt,hal]
 rw [hx] at Ha
 rw [hah] at Hap
 have Hge:=Qh hge
 have Hal:=Qh hal
 clear hvt hvh hva hvx hi2 hx hah hge hal hgt hk hs hn hwf he Hap0
 cases hb
 case true=>
  have hask:askP s e d=al:=by rw [hask0,if_pos (.inr rfl)]
  clear hask0
  by_cases ha:al=0
  ·have HnewN:=Qh (fun (hm:m=0)=>show stpP s e d=(⟨t2,h2⟩,0) by rw [hst,hask,if_neg (show ¬(al≠0) by omega),if_neg (show ¬(m≠0) by omega)])
   have HnewE:=Qh (fun (hm:¬m=0)=>show stpP s e d=(s,m) by rw [hst,hask,if_neg (show ¬(al≠0) by omega),if_pos hm])
   subst ha
   clear hst hask
   go_enter Tryz.func94,Tryz.ntmps94
   go_wp2_with fail
   refine (Ha.out _ (((hw.alloc _).alloc _).alloc _)).mono ?_
   rintro e1 w1 ⟨v2,I1,rfl,hb1,hx1,hok1,hr2⟩
   have hrow:w1.heap[w.heap.size+1+1]? =some (.cells #[.slice none 0 0,.slice none 0 0] 136 (0,0)):=(hb1.block _ (by simp)).trans (by have:=heap_alloc_new ((w.alloc (.cells #[.slice at' s.tree.length ct,.slice ah s.holds.length ch] 136)).alloc (.cells #[.int .i64 e.kind,S e.path,.slice aa e.attrs.length ca,S e.target,.int .i64 e.size,S e.digest,.slice ax e.exts.length cx] 26)) (.cells #[.slice none 0 0,.slice none 0 0] 136);simpa using this)
   have heb:EntB ((w.alloc (.cells #[.slice at' s.tree.length ct,.slice ah s.holds.length ch] 136)).alloc (.cells #[.int .i64 e.kind,S e.path,.slice aa e.attrs.length ca,S e.target,.int .i64 e.size,S e.digest,.slice ax e.exts.length cx] 26)) (w.heap.size+1) e (.slice aa e.attrs.length ca) (.slice ax e.exts.length cx):=entB (by simp) (Qb _ _)
   have AW1:=Qh (ApR.mk (Xaa hb1 (Xab _ (Xab _ (by simp)))) (Xaa hb1 (Xab _ (Xab _ (by simp)))) ((heb.past _).thru hb1) hrow:ApR w.heap.size w1 (.slice at' s.tree.length ct) (.slice ah s.holds.length ch) e (.slice aa e.attrs.length ca) (.slice ax e.exts.length cx))
   have hb1':Below w.heap.size w w1:=((((Qb w.heap.size w).alloc (Qn _) (.cells #[.slice at' s.tree.length ct,.slice ah s.holds.length ch] 136)).alloc (by simp) (.cells #[.int .i64 e.kind,S e.path,.slice aa e.attrs.length ca,S e.target,.int .i64 e.size,S e.digest,.slice ax e.exts.length cx] 26)).alloc (by simp;omega) (.cells #[.slice none 0 0,.slice none 0 0] 136)).trans (hb1.mono (by simp;omega))
   have hx1':Ext (w.heap.size+1+1+1) I I1:=hx1.mono (by simp)
   have hkp:=(hx1'.mono (show w.heap.size≤_ by omega)).keep hw (Qn _)
   have Hx1:=Qh hx1'
   have Hr2:=Qh hr2
   have Hvt1:=Qh (Hvt.out.mono hkp)
   have Hvh1:=Qh (Hvh.out.mono hkp)
   have Hva1:=Qh (Hva.out.mono hkp)
   have Hvx1:=Qh (Hvx.out.mono hkp)
   obtain ⟨a2,c2',rfl,_,_,_⟩:=id hr2
   clear hb1 hrow heb hx1 hx1' hkp hr2 Ha
   obtain ⟨s0,s1,⟨c0,c1,c2,c3,c4,c5,c6⟩,_⟩:=AW1.out
   go_wp2_with fail
   refine (Xcl I1 _ s.tree Hvt1.out e.path w1 hok1).mono ?_
   rw [Hge.out]
   rintro e2 w2 ⟨ga,gv,rfl,hg1,hg2,hb2⟩
   obtain ⟨oa,oc,rfl,_,_,_⟩:=id hg1
   obtain ⟨ox,od,rfl,_,_,_⟩:=id hg2
   have hb2':=hb1'.trans (hb2.mono hb1'.size)
   have hb3':=hb2'.alloc hb2'.size (.cells #[.int .i64 gx.kind,S gx.path,.slice oa gx.attrs.length oc,S gx.target,.int .i64 gx.size,S gx.digest,.slice ox gx.exts.length od] 26)
   have hok3:Ok I1 (w2.alloc (.cells #[.int .i64 gx.kind,S gx.path,.slice oa gx.attrs.length oc,S gx.target,.int .i64 gx.size,S gx.digest,.slice ox gx.exts.length od] 26)):=(hok1.below (Qn _) hb2).alloc _
   have AW3:=Qh ((AW1.out.thru hb2).past (.cells #[.int .i64 gx.kind,S gx.path,.slice oa gx.attrs.length oc,S gx.target,.int .i64 gx.size,S gx.digest,.slice ox gx.exts.length od] 26))
   clear hb2 hb1' hb2' AW1 hok1 s0 s1 c0 c1 c2 c3 c4 c5 c6 hg1 hg2
   obtain ⟨s0,s1,⟨c0,c1,c2,c3,c4,c5,c6⟩,_⟩:=AW3.out
   obtain ⟨w3,hw3⟩:∃w3,w2.alloc (.cells #[.int .i64 gx.kind,S gx.path,.slice oa gx.attrs.length oc,S gx.target,.int .i64 gx.size,S gx.digest,.slice ox gx.exts.length od] 26)=w3:=⟨_,rfl⟩
   rw [hw3] at hok3 AW3 hb3' s0 s1 c0 c1 c2 c3 c4 c5 c6
   go_wp2_with fail
   refine (Xb7 I1 _ s.holds Hvh1.out hnh e _ _ Hva1.out Hvx1.out d w3 hok3).mono ?_
   rintro e4 w4 ⟨rfl,hb4⟩
   rw [Hal.out]
   have hok4:Ok I1 w4:=hok3.below (Qn _) hb4
   have AW4:=Qh (AW3.out.thru hb4)
   have hb4':=hb3'.trans (hb4.mono hb3'.size)
   clear hb4 hb3' AW3 hok3 hw3 s0 s1 c0 c1 c2 c3 c4 c5 c6
   obtain ⟨s0,s1,⟨c0,c1,c2,c3,c4,c5,c6⟩,_⟩:=AW4.out
   by_cases hm:m=0
   ·have Hn:=Qh (HnewN.out hm)
    subst hm
    go_wp2_with fail
    refine (Hap.out I1 _ _ _ Hvh1.out Hva1.out Hvx1.out w4 hok4).mono ?_
    rintro e5 w5 ⟨vh2,I2,rfl,hb5,hx2,hok5,hr3⟩
    obtain ⟨a3,c3',rfl,_,_,_⟩:=id hr3
    have Hr3:=Qh hr3
    have AW5:=Qh (AW4.out.thru hb5)
    have Hx2:=Qh (Hx1.out.trans hx2 (by have:=(Array.getElem?_eq_some_iff.1 AW4.out.row).1;omega))
    have Hkp2:=Qh (hx2.keep hok4 (Qn _))
    have hb5':=hb4'.trans (hb5.mono hb4'.size)
    clear hb5 hb4' AW4 hok4 s0 s1 c0 c1 c2 c3 c4 c5 c6 hr3 hx2
    obtain ⟨s0,s1,⟨c0,c1,c2,c3,c4,c5,c6⟩,_⟩:=AW5.out
    have r0:w5.cell? ⟨w.heap.size+1+1,0,none⟩=some (.slice none 0 0):=(cell_of_row w5 _ 0 _ _ _ AW5.out.row).trans rfl
    have r1:w5.cell? ⟨w.heap.size+1+1,1,none⟩=some (.slice none 0 0):=(cell_of_row w5 _ 1 _ _ _ AW5.out.row).trans rfl
    have f0:=frozen_of_row w5 _ 0 _ _ AW5.out.row
    have f1:=frozen_of_row w5 _ 1 _ _ AW5.out.row
    go_wp2
    have hW:=heap_setCell_same _ (w.heap.size+1+1) 1 _ _ (.slice a3 h2.length c3') (heap_setCell_same w5 (w.heap.size+1+1) 0 _ _ (.slice a2 t2.length c2') AW5.out.row)
    refine bodyPost_ret (v:= .tuple #[sttV (.slice a2 t2.length c2') (.slice a3 h2.length c3'),.int .i64 0]) ?_ rfl ?_
    ·rw [results_cell_tmp rfl]
     simp [asAddr,run_loadVar_row _ (w.heap.size+1+1) 136 136 #[(.slice a2 t2.length c2'),(.slice a3 h2.length c3')] (0,0) _ hW Tryz.underlying136 rfl Hi2.out]
    ·rw [Hn.out]
     have hfr:I2 (w.heap.size+1+1)=none:=(Hx2.out _ (by omega)).trans (hw.fresh (by omega))
     exact ⟨_,_,I2,rfl,(hb5'.setCell (by simp;omega) _).setCell (by simp;omega) _,Ext.mono Hx2.out (by omega),(Ok.setCell hok5 hfr _).setCell hfr _,(Hr2.out.mono Hkp2.out),Hr3.out⟩
   ·have Hn:=Qh (HnewE.out hm)
    have hm0:(m != 0)=true:=by simpa using hm
    clear hm
    go_wp2_with fail
    refine (Hap.out I1 _ _ _ Hvh1.out Hva1.out Hvx1.out w4 hok4).mono ?_
    rintro e5 w5 ⟨vh2,I2,rfl,hb5,hx2,hok5,hr3⟩
    obtain ⟨a3,c3',rfl,_,_,_⟩:=id hr3
    have Hr3:=Qh hr3
    have AW5:=Qh (AW4.out.thru hb5)
    have Hx2:=Qh (Hx1.out.trans hx2 (by have:=(Array.getElem?_eq_some_iff.1 AW4.out.row).1;omega))
    have Hkp2:=Qh (hx2.keep hok4 (Qn _))
    have hb5':=hb4'.trans (hb5.mono hb4'.size)
    clear hb5 hb4' AW4 hok4 s0 s1 c0 c1 c2 c3 c4 c5 c6 hr3 hx2
    obtain ⟨s0,s1,⟨c0,c1,c2,c3,c4,c5,c6⟩,_⟩:=AW5.out
    have r0:w5.cell? ⟨w.heap.size+1+1,0,none⟩=some (.slice none 0 0):=(cell_of_row w5 _ 0 _ _ _ AW5.out.row).trans rfl
    have r1:w5.cell? ⟨w.heap.size+1+1,1,none⟩=some (.slice none 0 0):=(cell_of_row w5 _ 1 _ _ _ AW5.out.row).trans rfl
    have f0:=frozen_of_row w5 _ 0 _ _ AW5.out.row
    have f1:=frozen_of_row w5 _ 1 _ _ AW5.out.row
    go_wp2
    have hW:=heap_setCell_same _ (w.heap.size+1+1) 1 _ _ (.slice ah s.holds.length ch) (heap_setCell_same w5 (w.heap.size+1+1) 0 _ _ (.slice at' s.tree.length ct) AW5.out.row)
    refine bodyPost_ret (v:= .tuple #[sttV (.slice at' s.tree.length ct) (.slice ah s.holds.length ch),.int .i64 m]) ?_ rfl ?_
    ·rw [results_cell_tmp rfl]
     simp [asAddr,run_loadVar_row _ (w.heap.size+1+1) 136 136 #[(.slice at' s.tree.length ct),(.slice ah s.holds.length ch)] (0,0) _ hW Tryz.underlying136 rfl Hi2.out]
    ·rw [Hn.out]
     have hfr:I2 (w.heap.size+1+1)=none:=(Hx2.out _ (by omega)).trans (hw.fresh (by omega))
     exact ⟨_,_,I2,rfl,(hb5'.setCell (by simp;omega) _).setCell (by simp;omega) _,Ext.mono Hx2.out (by omega),(Ok.setCell hok5 hfr _).setCell hfr _,(Hvt1.out.mono Hkp2.out),(Hvh1.out.mono Hkp2.out)⟩
  ·have Hn:=Qh (show stpP s e d=(s,al) by rw [hst,hask,if_pos ha])
   have ha0:(al != 0)=true:=by simpa using ha
   clear hst hask ha Hap
   go_enter Tryz.func94,Tryz.ntmps94
   go_wp2_with fail
   refine (Ha.out _ (((hw.alloc _).alloc _).alloc _)).mono ?_
   rintro e1 w1 ⟨v2,I1,rfl,hb1,hx1,hok1,hr2⟩
   have hrow:w1.heap[w.heap.size+1+1]? =some (.cells #[.slice none 0 0,.slice none 0 0] 136 (0,0)):=(hb1.block _ (by simp)).trans (by have:=heap_alloc_new ((w.alloc (.cells #[.slice at' s.tree.length ct,.slice ah s.holds.length ch] 136)).alloc (.cells #[.int .i64 e.kind,S e.path,.slice aa e.attrs.length ca,S e.target,.int .i64 e.size,S e.digest,.slice ax e.exts.length cx] 26)) (.cells #[.slice none 0 0,.slice none 0 0] 136);simpa using this)
   have heb:EntB ((w.alloc (.cells #[.slice at' s.tree.length ct,.slice ah s.holds.length ch] 136)).alloc (.cells #[.int .i64 e.kind,S e.path,.slice aa e.attrs.length ca,S e.target,.int .i64 e.size,S e.digest,.slice ax e.exts.length cx] 26)) (w.heap.size+1) e (.slice aa e.attrs.length ca) (.slice ax e.exts.length cx):=entB (by simp) (Qb _ _)
   have AW1:=Qh (ApR.mk (Xaa hb1 (Xab _ (Xab _ (by simp)))) (Xaa hb1 (Xab _ (Xab _ (by simp)))) ((heb.past _).thru hb1) hrow:ApR w.heap.size w1 (.slice at' s.tree.length ct) (.slice ah s.holds.length ch) e (.slice aa e.attrs.length ca) (.slice ax e.exts.length cx))
   have hb1':Below w.heap.size w w1:=((((Qb w.heap.size w).alloc (Qn _) (.cells #[.slice at' s.tree.length ct,.slice ah s.holds.length ch] 136)).alloc (by simp) (.cells #[.int .i64 e.kind,S e.path,.slice aa e.attrs.length ca,S e.target,.int .i64 e.size,S e.digest,.slice ax e.exts.length cx] 26)).alloc (by simp;omega) (.cells #[.slice none 0 0,.slice none 0 0] 136)).trans (hb1.mono (by simp;omega))
   have hx1':Ext (w.heap.size+1+1+1) I I1:=hx1.mono (by simp)
   have hkp:=(hx1'.mono (show w.heap.size≤_ by omega)).keep hw (Qn _)
   have Hx1:=Qh hx1'
   have Hr2:=Qh hr2
   have Hvt1:=Qh (Hvt.out.mono hkp)
   have Hvh1:=Qh (Hvh.out.mono hkp)
   have Hva1:=Qh (Hva.out.mono hkp)
   have Hvx1:=Qh (Hvx.out.mono hkp)
   obtain ⟨a2,c2',rfl,_,_,_⟩:=id hr2
   clear hb1 hrow heb hx1 hx1' hkp hr2 Ha
   obtain ⟨s0,s1,⟨c0,c1,c2,c3,c4,c5,c6⟩,_⟩:=AW1.out
   go_wp2_with fail
   refine (Xcl I1 _ s.tree Hvt1.out e.path w1 hok1).mono ?_
   rw [Hge.out]
   rintro e2 w2 ⟨ga,gv,rfl,hg1,hg2,hb2⟩
   obtain ⟨oa,oc,rfl,_,_,_⟩:=id hg1
   obtain ⟨ox,od,rfl,_,_,_⟩:=id hg2
   have hb2':=hb1'.trans (hb2.mono hb1'.size)
   have hb3':=hb2'.alloc hb2'.size (.cells #[.int .i64 gx.kind,S gx.path,.slice oa gx.attrs.length oc,S gx.target,.int .i64 gx.size,S gx.digest,.slice ox gx.exts.length od] 26)
   have hok3:Ok I1 (w2.alloc (.cells #[.int .i64 gx.kind,S gx.path,.slice oa gx.attrs.length oc,S gx.target,.int .i64 gx.size,S gx.digest,.slice ox gx.exts.length od] 26)):=(hok1.below (Qn _) hb2).alloc _
   have AW3:=Qh ((AW1.out.thru hb2).past (.cells #[.int .i64 gx.kind,S gx.path,.slice oa gx.attrs.length oc,S gx.target,.int .i64 gx.size,S gx.digest,.slice ox gx.exts.length od] 26))
   clear hb2 hb1' hb2' AW1 hok1 s0 s1 c0 c1 c2 c3 c4 c5 c6 hg1 hg2
   obtain ⟨s0,s1,⟨c0,c1,c2,c3,c4,c5,c6⟩,_⟩:=AW3.out
   obtain ⟨w3,hw3⟩:∃w3,w2.alloc (.cells #[.int .i64 gx.kind,S gx.path,.slice oa gx.attrs.length oc,S gx.target,.int .i64 gx.size,S gx.digest,.slice ox gx.exts.length od] 26)=w3:=⟨_,rfl⟩
   rw [hw3] at hok3 AW3 hb3' s0 s1 c0 c1 c2 c3 c4 c5 c6
   go_wp2_with fail
   refine (Xb7 I1 _ s.holds Hvh1.out hnh e _ _ Hva1.out Hvx1.out d w3 hok3).mono ?_
   rintro e4 w4 ⟨rfl,hb4⟩
   rw [Hal.out]
   have hok4:Ok I1 w4:=hok3.below (Qn _) hb4
   have AW4:=Qh (AW3.out.thru hb4)
   have hb4':=hb3'.trans (hb4.mono hb3'.size)
   clear hb4 hb3' AW3 hok3 hw3 s0 s1 c0 c1 c2 c3 c4 c5 c6
   obtain ⟨s0,s1,⟨c0,c1,c2,c3,c4,c5,c6⟩,_⟩:=AW4.out
   have r0:w4.cell? ⟨w.heap.size+1+1,0,none⟩=some (.slice none 0 0):=(cell_of_row w4 _ 0 _ _ _ AW4.out.row).trans rfl
   have r1:w4.cell? ⟨w.heap.size+1+1,1,none⟩=some (.slice none 0 0):=(cell_of_row w4 _ 1 _ _ _ AW4.out.row).trans rfl
   have f0:=frozen_of_row w4 _ 0 _ _ AW4.out.row
   have f1:=frozen_of_row w4 _ 1 _ _ AW4.out.row
   go_wp2
   have hW:=heap_setCell_same _ (w.heap.size+1+1) 1 _ _ (.slice ah s.holds.length ch) (heap_setCell_same w4 (w.heap.size+1+1) 0 _ _ (.slice at' s.tree.length ct) AW4.out.row)
   refine bodyPost_ret (v:= .tuple #[sttV (.slice at' s.tree.length ct) (.slice ah s.holds.length ch),.int .i64 al]) ?_ rfl ?_
   ·rw [results_cell_tmp rfl]
    simp [asAddr,run_loadVar_row _ (w.heap.size+1+1) 136 136 #[(.slice at' s.tree.length ct),(.slice ah s.holds.length ch)] (0,0) _ hW Tryz.underlying136 rfl Hi2.out]
   ·rw [Hn.out]
    have hfr:I1 (w.heap.size+1+1)=none:=(Hx1.out _ (by omega)).trans (hw.fresh (by omega))
    exact ⟨_,_,I1,rfl,(hb4'.setCell (by simp;omega) _).setCell (by simp;omega) _,Ext.mono Hx1.out (by omega),(Ok.setCell hok4 hfr _).setCell hfr _,Hvt1.out,Hvh1.out⟩
 case false=>
  by_cases hk3:3<e.kind
  ·have hask:askP s e d=al:=by rw [hask0,if_pos (.inl hk3)]
   have d3:decide (3<e.kind)=true:=Qt hk3
   clear hask0 hk3
   by_cases ha:al=0
   ·have HnewN:=Qh (fun (hm:m=0)=>show stpP s e d=(⟨t2,h2⟩,0) by rw [hst,hask,if_neg (show ¬(al≠0) by omega),if_neg (show ¬(m≠0) by omega)])
    have HnewE:=Qh (fun (hm:¬m=0)=>show stpP s e d=(s,m) by rw [hst,hask,if_neg (show ¬(al≠0) by omega),if_pos hm])
    subst ha
    clear hst hask
    go_enter Tryz.func94,Tryz.ntmps94
    go_wp2_with fail
    refine (Ha.out _ (((hw.alloc _).alloc _).alloc _)).mono ?_
    rintro e1 w1 ⟨v2,I1,rfl,hb1,hx1,hok1,hr2⟩
    have hrow:w1.heap[w.heap.size+1+1]? =some (.cells #[.slice none 0 0,.slice none 0 0] 136 (0,0)):=(hb1.block _ (by simp)).trans (by have:=heap_alloc_new ((w.alloc (.cells #[.slice at' s.tree.length ct,.slice ah s.holds.length ch] 136)).alloc (.cells #[.int .i64 e.kind,S e.path,.slice aa e.attrs.length ca,S e.target,.int .i64 e.size,S e.digest,.slice ax e.exts.length cx] 26)) (.cells #[.slice none 0 0,.slice none 0 0] 136);simpa using this)
    have heb:EntB ((w.alloc (.cells #[.slice at' s.tree.length ct,.slice ah s.holds.length ch] 136)).alloc (.cells #[.int .i64 e.kind,S e.path,.slice aa e.attrs.length ca,S e.target,.int .i64 e.size,S e.digest,.slice ax e.exts.length cx] 26)) (w.heap.size+1) e (.slice aa e.attrs.length ca) (.slice ax e.exts.length cx):=entB (by simp) (Qb _ _)
    have AW1:=Qh (ApR.mk (Xaa hb1 (Xab _ (Xab _ (by simp)))) (Xaa hb1 (Xab _ (Xab _ (by simp)))) ((heb.past _).thru hb1) hrow:ApR w.heap.size w1 (.slice at' s.tree.length ct) (.slice ah s.holds.length ch) e (.slice aa e.attrs.length ca) (.slice ax e.exts.length cx))
    have hb1':Below w.heap.size w w1:=((((Qb w.heap.size w).alloc (Qn _) (.cells #[.slice at' s.tree.length ct,.slice ah s.holds.length ch] 136)).alloc (by simp) (.cells #[.int .i64 e.kind,S e.path,.slice aa e.attrs.length ca,S e.target,.int .i64 e.size,S e.digest,.slice ax e.exts.length cx] 26)).alloc (by simp;omega) (.cells #[.slice none 0 0,.slice none 0 0] 136)).trans (hb1.mono (by simp;omega))
    have hx1':Ext (w.heap.size+1+1+1) I I1:=hx1.mono (by simp)
    have hkp:=(hx1'.mono (show w.heap.size≤_ by omega)).keep hw (Qn _)
    have Hx1:=Qh hx1'
    have Hr2:=Qh hr2
    have Hvt1:=Qh (Hvt.out.mono hkp)
    have Hvh1:=Qh (Hvh.out.mono hkp)
    have Hva1:=Qh (Hva.out.mono hkp)
    have Hvx1:=Qh (Hvx.out.mono hkp)
    obtain ⟨a2,c2',rfl,_,_,_⟩:=id hr2
    clear hb1 hrow heb hx1 hx1' hkp hr2 Ha
    obtain ⟨s0,s1,⟨c0,c1,c2,c3,c4,c5,c6⟩,_⟩:=AW1.out
    go_wp2_with fail
    refine (Xcl I1 _ s.tree Hvt1.out e.path w1 hok1).mono ?_
    rw [Hge.out]
    rintro e2 w2 ⟨ga,gv,rfl,hg1,hg2,hb2⟩
    obtain ⟨oa,oc,rfl,_,_,_⟩:=id hg1
    obtain ⟨ox,od,rfl,_,_,_⟩:=id hg2
    have hb2':=hb1'.trans (hb2.mono hb1'.size)
    have hb3':=hb2'.alloc hb2'.size (.cells #[.int .i64 gx.kind,S gx.path,.slice oa gx.attrs.length oc,S gx.target,.int .i64 gx.size,S gx.digest,.slice ox gx.exts.length od] 26)
    have hok3:Ok I1 (w2.alloc (.cells #[.int .i64 gx.kind,S gx.path,.slice oa gx.attrs.length oc,S gx.target,.int .i64 gx.size,S gx.digest,.slice ox gx.exts.length od] 26)):=(hok1.below (Qn _) hb2).alloc _
    have AW3:=Qh ((AW1.out.thru hb2).past (.cells #[.int .i64 gx.kind,S gx.path,.slice oa gx.attrs.length oc,S gx.target,.int .i64 gx.size,S gx.digest,.slice ox gx.exts.length od] 26))
    clear hb2 hb1' hb2' AW1 hok1 s0 s1 c0 c1 c2 c3 c4 c5 c6 hg1 hg2
    obtain ⟨s0,s1,⟨c0,c1,c2,c3,c4,c5,c6⟩,_⟩:=AW3.out
    obtain ⟨w3,hw3⟩:∃w3,w2.alloc (.cells #[.int .i64 gx.kind,S gx.path,.slice oa gx.attrs.length oc,S gx.target,.int .i64 gx.size,S gx.digest,.slice ox gx.exts.length od] 26)=w3:=⟨_,rfl⟩
    rw [hw3] at hok3 AW3 hb3' s0 s1 c0 c1 c2 c3 c4 c5 c6
    go_wp2_with fail
    refine (Xb7 I1 _ s.holds Hvh1.out hnh e _ _ Hva1.out Hvx1.out d w3 hok3).mono ?_
    rintro e4 w4 ⟨rfl,hb4⟩
    rw [Hal.out]
    have hok4:Ok I1 w4:=hok3.below (Qn _) hb4
    have AW4:=Qh (AW3.out.thru hb4)
    have hb4':=hb3'.trans (hb4.mono hb3'.size)
    clear hb4 hb3' AW3 hok3 hw3 s0 s1 c0 c1 c2 c3 c4 c5 c6
    obtain ⟨s0,s1,⟨c0,c1,c2,c3,c4,c5,c6⟩,_⟩:=AW4.out
    by_cases hm:m=0
    ·have Hn:=Qh (HnewN.out hm)
     subst hm
     go_wp2_with fail
     refine (Hap.out I1 _ _ _ Hvh1.out Hva1.out Hvx1.out w4 hok4).mono ?_
     rintro e5 w5 ⟨vh2,I2,rfl,hb5,hx2,hok5,hr3⟩
     obtain ⟨a3,c3',rfl,_,_,_⟩:=id hr3
     have Hr3:=Qh hr3
     have AW5:=Qh (AW4.out.thru hb5)
     have Hx2:=Qh (Hx1.out.trans hx2 (by have:=(Array.getElem?_eq_some_iff.1 AW4.out.row).1;omega))
     have Hkp2:=Qh (hx2.keep hok4 (Qn _))
     have hb5':=hb4'.trans (hb5.mono hb4'.size)
     clear hb5 hb4' AW4 hok4 s0 s1 c0 c1 c2 c3 c4 c5 c6 hr3 hx2
     obtain ⟨s0,s1,⟨c0,c1,c2,c3,c4,c5,c6⟩,_⟩:=AW5.out
     have r0:w5.cell? ⟨w.heap.size+1+1,0,none⟩=some (.slice none 0 0):=(cell_of_row w5 _ 0 _ _ _ AW5.out.row).trans rfl
     have r1:w5.cell? ⟨w.heap.size+1+1,1,none⟩=some (.slice none 0 0):=(cell_of_row w5 _ 1 _ _ _ AW5.out.row).trans rfl
     have f0:=frozen_of_row w5 _ 0 _ _ AW5.out.row
     have f1:=frozen_of_row w5 _ 1 _ _ AW5.out.row
     go_wp2
     have hW:=heap_setCell_same _ (w.heap.size+1+1) 1 _ _ (.slice a3 h2.length c3') (heap_setCell_same w5 (w.heap.size+1+1) 0 _ _ (.slice a2 t2.length c2') AW5.out.row)
     refine bodyPost_ret (v:= .tuple #[sttV (.slice a2 t2.length c2') (.slice a3 h2.length c3'),.int .i64 0]) ?_ rfl ?_
     ·rw [results_cell_tmp rfl]
      simp [asAddr,run_loadVar_row _ (w.heap.size+1+1) 136 136 #[(.slice a2 t2.length c2'),(.slice a3 h2.length c3')] (0,0) _ hW Tryz.underlying136 rfl Hi2.out]
     ·rw [Hn.out]
      have hfr:I2 (w.heap.size+1+1)=none:=(Hx2.out _ (by omega)).trans (hw.fresh (by omega))
      exact ⟨_,_,I2,rfl,(hb5'.setCell (by simp;omega) _).setCell (by simp;omega) _,Ext.mono Hx2.out (by omega),(Ok.setCell hok5 hfr _).setCell hfr _,(Hr2.out.mono Hkp2.out),Hr3.out⟩
    ·have Hn:=Qh (HnewE.out hm)
     have hm0:(m != 0)=true:=by simpa using hm
     clear hm
     go_wp2_with fail
     refine (Hap.out I1 _ _ _ Hvh1.out Hva1.out Hvx1.out w4 hok4).mono ?_
     rintro e5 w5 ⟨vh2,I2,rfl,hb5,hx2,hok5,hr3⟩
     obtain ⟨a3,c3',rfl,_,_,_⟩:=id hr3
     have Hr3:=Qh hr3
     have AW5:=Qh (AW4.out.thru hb5)
     have Hx2:=Qh (Hx1.out.trans hx2 (by have:=(Array.getElem?_eq_some_iff.1 AW4.out.row).1;omega))
     have Hkp2:=Qh (hx2.keep hok4 (Qn _))
     have hb5':=hb4'.trans (hb5.mono hb4'.size)
     clear hb5 hb4' AW4 hok4 s0 s1 c0 c1 c2 c3 c4 c5 c6 hr3 hx2
     obtain ⟨s0,s1,⟨c0,c1,c2,c3,c4,c5,c6⟩,_⟩:=AW5.out
     have r0:w5.cell? ⟨w.heap.size+1+1,0,none⟩=some (.slice none 0 0):=(cell_of_row w5 _ 0 _ _ _ AW5.out.row).trans rfl
     have r1:w5.cell? ⟨w.heap.size+1+1,1,none⟩=some (.slice none 0 0):=(cell_of_row w5 _ 1 _ _ _ AW5.out.row).trans rfl
     have f0:=frozen_of_row w5 _ 0 _ _ AW5.out.row
     have f1:=frozen_of_row w5 _ 1 _ _ AW5.out.row
     go_wp2
     have hW:=heap_setCell_same _ (w.heap.size+1+1) 1 _ _ (.slice ah s.holds.length ch) (heap_setCell_same w5 (w.heap.size+1+1) 0 _ _ (.slice at' s.tree.length ct) AW5.out.row)
     refine bodyPost_ret (v:= .tuple #[sttV (.slice at' s.tree.length ct) (.slice ah s.holds.length ch),.int .i64 m]) ?_ rfl ?_
     ·rw [results_cell_tmp rfl]
      simp [asAddr,run_loadVar_row _ (w.heap.size+1+1) 136 136 #[(.slice at' s.tree.length ct),(.slice ah s.holds.length ch)] (0,0) _ hW Tryz.underlying136 rfl Hi2.out]
     ·rw [Hn.out]
      have hfr:I2 (w.heap.size+1+1)=none:=(Hx2.out _ (by omega)).trans (hw.fresh (by omega))
      exact ⟨_,_,I2,rfl,(hb5'.setCell (by simp;omega) _).setCell (by simp;omega) _,Ext.mono Hx2.out (by omega),(Ok.setCell hok5 hfr _).setCell hfr _,(Hvt1.out.mono Hkp2.out),(Hvh1.out.mono Hkp2.out)⟩
   ·have Hn:=Qh (show stpP s e d=(s,al) by rw [hst,hask,if_pos ha])
    have ha0:(al != 0)=true:=by simpa using ha
    clear hst hask ha Hap
    go_enter Tryz.func94,Tryz.ntmps94
    go_wp2_with fail
    refine (Ha.out _ (((hw.alloc _).alloc _).alloc _)).mono ?_
    rintro e1 w1 ⟨v2,I1,rfl,hb1,hx1,hok1,hr2⟩
    have hrow:w1.heap[w.heap.size+1+1]? =some (.cells #[.slice none 0 0,.slice none 0 0] 136 (0,0)):=(hb1.block _ (by simp)).trans (by have:=heap_alloc_new ((w.alloc (.cells #[.slice at' s.tree.length ct,.slice ah s.holds.length ch] 136)).alloc (.cells #[.int .i64 e.kind,S e.path,.slice aa e.attrs.length ca,S e.target,.int .i64 e.size,S e.digest,.slice ax e.exts.length cx] 26)) (.cells #[.slice none 0 0,.slice none 0 0] 136);simpa using this)
    have heb:EntB ((w.alloc (.cells #[.slice at' s.tree.length ct,.slice ah s.holds.length ch] 136)).alloc (.cells #[.int .i64 e.kind,S e.path,.slice aa e.attrs.length ca,S e.target,.int .i64 e.size,S e.digest,.slice ax e.exts.length cx] 26)) (w.heap.size+1) e (.slice aa e.attrs.length ca) (.slice ax e.exts.length cx):=entB (by simp) (Qb _ _)
    have AW1:=Qh (ApR.mk (Xaa hb1 (Xab _ (Xab _ (by simp)))) (Xaa hb1 (Xab _ (Xab _ (by simp)))) ((heb.past _).thru hb1) hrow:ApR w.heap.size w1 (.slice at' s.tree.length ct) (.slice ah s.holds.length ch) e (.slice aa e.attrs.length ca) (.slice ax e.exts.length cx))
    have hb1':Below w.heap.size w w1:=((((Qb w.heap.size w).alloc (Qn _) (.cells #[.slice at' s.tree.length ct,.slice ah s.holds.length ch] 136)).alloc (by simp) (.cells #[.int .i64 e.kind,S e.path,.slice aa e.attrs.length ca,S e.target,.int .i64 e.size,S e.digest,.slice ax e.exts.length cx] 26)).alloc (by simp;omega) (.cells #[.slice none 0 0,.slice none 0 0] 136)).trans (hb1.mono (by simp;omega))
    have hx1':Ext (w.heap.size+1+1+1) I I1:=hx1.mono (by simp)
    have hkp:=(hx1'.mono (show w.heap.size≤_ by omega)).keep hw (Qn _)
    have Hx1:=Qh hx1'
    have Hr2:=Qh hr2
    have Hvt1:=Qh (Hvt.out.mono hkp)
    have Hvh1:=Qh (Hvh.out.mono hkp)
    have Hva1:=Qh (Hva.out.mono hkp)
    have Hvx1:=Qh (Hvx.out.mono hkp)
    obtain ⟨a2,c2',rfl,_,_,_⟩:=id hr2
    clear hb1 hrow heb hx1 hx1' hkp hr2 Ha
    obtain ⟨s0,s1,⟨c0,c1,c2,c3,c4,c5,c6⟩,_⟩:=AW1.out
    go_wp2_with fail
    refine (Xcl I1 _ s.tree Hvt1.out e.path w1 hok1).mono ?_
    rw [Hge.out]
    rintro e2 w2 ⟨ga,gv,rfl,hg1,hg2,hb2⟩
    obtain ⟨oa,oc,rfl,_,_,_⟩:=id hg1
    obtain ⟨ox,od,rfl,_,_,_⟩:=id hg2
    have hb2':=hb1'.trans (hb2.mono hb1'.size)
    have hb3':=hb2'.alloc hb2'.size (.cells #[.int .i64 gx.kind,S gx.path,.slice oa gx.attrs.length oc,S gx.target,.int .i64 gx.size,S gx.digest,.slice ox gx.exts.length od] 26)
    have hok3:Ok I1 (w2.alloc (.cells #[.int .i64 gx.kind,S gx.path,.slice oa gx.attrs.length oc,S gx.target,.int .i64 gx.size,S gx.digest,.slice ox gx.exts.length od] 26)):=(hok1.below (Qn _) hb2).alloc _
    have AW3:=Qh ((AW1.out.thru hb2).past (.cells #[.int .i64 gx.kind,S gx.path,.slice oa gx.attrs.length oc,S gx.target,.int .i64 gx.size,S gx.digest,.slice ox gx.exts.length od] 26))
    clear hb2 hb1' hb2' AW1 hok1 s0 s1 c0 c1 c2 c3 c4 c5 c6 hg1 hg2
    obtain ⟨s0,s1,⟨c0,c1,c2,c3,c4,c5,c6⟩,_⟩:=AW3.out
    obtain ⟨w3,hw3⟩:∃w3,w2.alloc (.cells #[.int .i64 gx.kind,S gx.path,.slice oa gx.attrs.length oc,S gx.target,.int .i64 gx.size,S gx.digest,.slice ox gx.exts.length od] 26)=w3:=⟨_,rfl⟩
    rw [hw3] at hok3 AW3 hb3' s0 s1 c0 c1 c2 c3 c4 c5 c6
    go_wp2_with fail
    refine (Xb7 I1 _ s.holds Hvh1.out hnh e _ _ Hva1.out Hvx1.out d w3 hok3).mono ?_
    rintro e4 w4 ⟨rfl,hb4⟩
    rw [Hal.out]
    have hok4:Ok I1 w4:=hok3.below (Qn _) hb4
    have AW4:=Qh (AW3.out.thru hb4)
    have hb4':=hb3'.trans (hb4.mono hb3'.size)
    clear hb4 hb3' AW3 hok3 hw3 s0 s1 c0 c1 c2 c3 c4 c5 c6
    obtain ⟨s0,s1,⟨c0,c1,c2,c3,c4,c5,c6⟩,_⟩:=AW4.out
    have r0:w4.cell? ⟨w.heap.size+1+1,0,none⟩=some (.slice none 0 0):=(cell_of_row w4 _ 0 _ _ _ AW4.out.row).trans rfl
    have r1:w4.cell? ⟨w.heap.size+1+1,1,none⟩=some (.slice none 0 0):=(cell_of_row w4 _ 1 _ _ _ AW4.out.row).trans rfl
    have f0:=frozen_of_row w4 _ 0 _ _ AW4.out.row
    have f1:=frozen_of_row w4 _ 1 _ _ AW4.out.row
    go_wp2
    have hW:=heap_setCell_same _ (w.heap.size+1+1) 1 _ _ (.slice ah s.holds.length ch) (heap_setCell_same w4 (w.heap.size+1+1) 0 _ _ (.slice at' s.tree.length ct) AW4.out.row)
    refine bodyPost_ret (v:= .tuple #[sttV (.slice at' s.tree.length ct) (.slice ah s.holds.length ch),.int .i64 al]) ?_ rfl ?_
    ·rw [results_cell_tmp rfl]
     simp [asAddr,run_loadVar_row _ (w.heap.size+1+1) 136 136 #[(.slice at' s.tree.length ct),(.slice ah s.holds.length ch)] (0,0) _ hW Tryz.underlying136 rfl Hi2.out]
    ·rw [Hn.out]
     have hfr:I1 (w.heap.size+1+1)=none:=(Hx1.out _ (by omega)).trans (hw.fresh (by omega))
     exact ⟨_,_,I1,rfl,(hb4'.setCell (by simp;omega) _).setCell (by simp;omega) _,Ext.mono Hx1.out (by omega),(Ok.setCell hok4 hfr _).setCell hfr _,Hvt1.out,Hvh1.out⟩
  ·have hask:askP s e d=0:=by rw [hask0,if_neg (by rintro (q|q);exact hk3 q;cases q)]
   have d3:decide (3<e.kind)=false:=Qf hk3
   have HnewN:=Qh (fun (hm:m=0)=>show stpP s e d=(⟨t2,h2⟩,0) by rw [hst,hask,if_neg (show ¬((0:Int)≠0) by decide),if_neg (show ¬(m≠0) by omega)])
   have HnewE:=Qh (fun (hm:¬m=0)=>show stpP s e d=(s,m) by rw [hst,hask,if_neg (show ¬((0:Int)≠0) by decide),if_pos hm])
   clear hst hask hask0 hk3
   go_enter Tryz.func94,Tryz.ntmps94
   go_wp2_with fail
   refine (Ha.out _ (((hw.alloc _).alloc _).alloc _)).mono ?_
   rintro e1 w1 ⟨v2,I1,rfl,hb1,hx1,hok1,hr2⟩
   have hrow:w1.heap[w.heap.size+1+1]? =some (.cells #[.slice none 0 0,.slice none 0 0] 136 (0,0)):=(hb1.block _ (by simp)).trans (by have:=heap_alloc_new ((w.alloc (.cells #[.slice at' s.tree.length ct,.slice ah s.holds.length ch] 136)).alloc (.cells #[.int .i64 e.kind,S e.path,.slice aa e.attrs.length ca,S e.target,.int .i64 e.size,S e.digest,.slice ax e.exts.length cx] 26)) (.cells #[.slice none 0 0,.slice none 0 0] 136);simpa using this)
   have heb:EntB ((w.alloc (.cells #[.slice at' s.tree.length ct,.slice ah s.holds.length ch] 136)).alloc (.cells #[.int .i64 e.kind,S e.path,.slice aa e.attrs.length ca,S e.target,.int .i64 e.size,S e.digest,.slice ax e.exts.length cx] 26)) (w.heap.size+1) e (.slice aa e.attrs.length ca) (.slice ax e.exts.length cx):=entB (by simp) (Qb _ _)
   have AW1:=Qh (ApR.mk (Xaa hb1 (Xab _ (Xab _ (by simp)))) (Xaa hb1 (Xab _ (Xab _ (by simp)))) ((heb.past _).thru hb1) hrow:ApR w.heap.size w1 (.slice at' s.tree.length ct) (.slice ah s.holds.length ch) e (.slice aa e.attrs.length ca) (.slice ax e.exts.length cx))
   have hb1':Below w.heap.size w w1:=((((Qb w.heap.size w).alloc (Qn _) (.cells #[.slice at' s.tree.length ct,.slice ah s.holds.length ch] 136)).alloc (by simp) (.cells #[.int .i64 e.kind,S e.path,.slice aa e.attrs.length ca,S e.target,.int .i64 e.size,S e.digest,.slice ax e.exts.length cx] 26)).alloc (by simp;omega) (.cells #[.slice none 0 0,.slice none 0 0] 136)).trans (hb1.mono (by simp;omega))
   have hx1':Ext (w.heap.size+1+1+1) I I1:=hx1.mono (by simp)
   have hkp:=(hx1'.mono (show w.heap.size≤_ by omega)).keep hw (Qn _)
   have Hx1:=Qh hx1'
   have Hr2:=Qh hr2
   have Hvt1:=Qh (Hvt.out.mono hkp)
   have Hvh1:=Qh (Hvh.out.mono hkp)
   have Hva1:=Qh (Hva.out.mono hkp)
   have Hvx1:=Qh (Hvx.out.mono hkp)
   obtain ⟨a2,c2',rfl,_,_,_⟩:=id hr2
   clear hb1 hrow heb hx1 hx1' hkp hr2 Ha
   obtain ⟨s0,s1,⟨c0,c1,c2,c3,c4,c5,c6⟩,_⟩:=AW1.out
   go_wp2_with fail
   refine (Xcl I1 _ s.tree Hvt1.out e.path w1 hok1).mono ?_
   rw [Hge.out]
   rintro e2 w2 ⟨ga,gv,rfl,hg1,hg2,hb2⟩
   obtain ⟨oa,oc,rfl,_,_,_⟩:=id hg1
   obtain ⟨ox,od,rfl,_,_,_⟩:=id hg2
   have hb2':=hb1'.trans (hb2.mono hb1'.size)
   have hb3':=hb2'.alloc hb2'.size (.cells #[.int .i64 gx.kind,S gx.path,.slice oa gx.attrs.length oc,S gx.target,.int .i64 gx.size,S gx.digest,.slice ox gx.exts.length od] 26)
   have hok3:Ok I1 (w2.alloc (.cells #[.int .i64 gx.kind,S gx.path,.slice oa gx.attrs.length oc,S gx.target,.int .i64 gx.size,S gx.digest,.slice ox gx.exts.length od] 26)):=(hok1.below (Qn _) hb2).alloc _
   have AW3:=Qh ((AW1.out.thru hb2).past (.cells #[.int .i64 gx.kind,S gx.path,.slice oa gx.attrs.length oc,S gx.target,.int .i64 gx.size,S gx.digest,.slice ox gx.exts.length od] 26))
   clear hb2 hb1' hb2' AW1 hok1 s0 s1 c0 c1 c2 c3 c4 c5 c6 hg1 hg2
   obtain ⟨s0,s1,⟨c0,c1,c2,c3,c4,c5,c6⟩,_⟩:=AW3.out
   obtain ⟨w3,hw3⟩:∃w3,w2.alloc (.cells #[.int .i64 gx.kind,S gx.path,.slice oa gx.attrs.length oc,S gx.target,.int .i64 gx.size,S gx.digest,.slice ox gx.exts.length od] 26)=w3:=⟨_,rfl⟩
   rw [hw3] at hok3 AW3 hb3' s0 s1 c0 c1 c2 c3 c4 c5 c6
   by_cases hm:m=0
   ·have Hn:=Qh (HnewN.out hm)
    subst hm
    go_wp2_with fail
    refine (Hap.out I1 _ _ _ Hvh1.out Hva1.out Hvx1.out w3 hok3).mono ?_
    rintro e5 w5 ⟨vh2,I2,rfl,hb5,hx2,hok5,hr3⟩
    obtain ⟨a3,c3',rfl,_,_,_⟩:=id hr3
    have Hr3:=Qh hr3
    have AW5:=Qh (AW3.out.thru hb5)
    have Hx2:=Qh (Hx1.out.trans hx2 (by have:=(Array.getElem?_eq_some_iff.1 AW3.out.row).1;omega))
    have Hkp2:=Qh (hx2.keep hok3 (Qn _))
    have hb5':=hb3'.trans (hb5.mono hb3'.size)
    clear hb5 hb3' AW3 hok3 s0 s1 c0 c1 c2 c3 c4 c5 c6 hr3 hx2
    obtain ⟨s0,s1,⟨c0,c1,c2,c3,c4,c5,c6⟩,_⟩:=AW5.out
    have r0:w5.cell? ⟨w.heap.size+1+1,0,none⟩=some (.slice none 0 0):=(cell_of_row w5 _ 0 _ _ _ AW5.out.row).trans rfl
    have r1:w5.cell? ⟨w.heap.size+1+1,1,none⟩=some (.slice none 0 0):=(cell_of_row w5 _ 1 _ _ _ AW5.out.row).trans rfl
    have f0:=frozen_of_row w5 _ 0 _ _ AW5.out.row
    have f1:=frozen_of_row w5 _ 1 _ _ AW5.out.row
    go_wp2
    have hW:=heap_setCell_same _ (w.heap.size+1+1) 1 _ _ (.slice a3 h2.length c3') (heap_setCell_same w5 (w.heap.size+1+1) 0 _ _ (.slice a2 t2.length c2') AW5.out.row)
    refine bodyPost_ret (v:= .tuple #[sttV (.slice a2 t2.length c2') (.slice a3 h2.length c3'),.int .i64 0]) ?_ rfl ?_
    ·rw [results_cell_tmp rfl]
     simp [asAddr,run_loadVar_row _ (w.heap.size+1+1) 136 136 #[(.slice a2 t2.length c2'),(.slice a3 h2.length c3')] (0,0) _ hW Tryz.underlying136 rfl Hi2.out]
    ·rw [Hn.out]
     have hfr:I2 (w.heap.size+1+1)=none:=(Hx2.out _ (by omega)).trans (hw.fresh (by omega))
     exact ⟨_,_,I2,rfl,(hb5'.setCell (by simp;omega) _).setCell (by simp;omega) _,Ext.mono Hx2.out (by omega),(Ok.setCell hok5 hfr _).setCell hfr _,(Hr2.out.mono Hkp2.out),Hr3.out⟩
   ·have Hn:=Qh (HnewE.out hm)
    have hm0:(m != 0)=true:=by simpa using hm
    clear hm
    go_wp2_with fail
    refine (Hap.out I1 _ _ _ Hvh1.out Hva1.out Hvx1.out w3 hok3).mono ?_
    rintro e5 w5 ⟨vh2,I2,rfl,hb5,hx2,hok5,hr3⟩
    obtain ⟨a3,c3',rfl,_,_,_⟩:=id hr3
    have Hr3:=Qh hr3
    have AW5:=Qh (AW3.out.thru hb5)
    have Hx2:=Qh (Hx1.out.trans hx2 (by have:=(Array.getElem?_eq_some_iff.1 AW3.out.row).1;omega))
    have Hkp2:=Qh (hx2.keep hok3 (Qn _))
    have hb5':=hb3'.trans (hb5.mono hb3'.size)
    clear hb5 hb3' AW3 hok3 s0 s1 c0 c1 c2 c3 c4 c5 c6 hr3 hx2
    obtain ⟨s0,s1,⟨c0,c1,c2,c3,c4,c5,c6⟩,_⟩:=AW5.out
    have r0:w5.cell? ⟨w.heap.size+1+1,0,none⟩=some (.slice none 0 0):=(cell_of_row w5 _ 0 _ _ _ AW5.out.row).trans rfl
    have r1:w5.cell? ⟨w.heap.size+1+1,1,none⟩=some (.slice none 0 0):=(cell_of_row w5 _ 1 _ _ _ AW5.out.row).trans rfl
    have f0:=frozen_of_row w5 _ 0 _ _ AW5.out.row
    have f1:=frozen_of_row w5 _ 1 _ _ AW5.out.row
    go_wp2
    have hW:=heap_setCell_same _ (w.heap.size+1+1) 1 _ _ (.slice ah s.holds.length ch) (heap_setCell_same w5 (w.heap.size+1+1) 0 _ _ (.slice at' s.tree.length ct) AW5.out.row)
    refine bodyPost_ret (v:= .tuple #[sttV (.slice at' s.tree.length ct) (.slice ah s.holds.length ch),.int .i64 m]) ?_ rfl ?_
    ·rw [results_cell_tmp rfl]
     simp [asAddr,run_loadVar_row _ (w.heap.size+1+1) 136 136 #[(.slice at' s.tree.length ct),(.slice ah s.holds.length ch)] (0,0) _ hW Tryz.underlying136 rfl Hi2.out]
    ·rw [Hn.out]
     have hfr:I2 (w.heap.size+1+1)=none:=(Hx2.out _ (by omega)).trans (hw.fresh (by omega))
     exact ⟨_,_,I2,rfl,(hb5'.setCell (by simp;omega) _).setCell (by simp;omega) _,Ext.mono Hx2.out (by omega),(Ok.setCell hok5 hfr _).setCell hfr _,(Hvt1.out.mono Hkp2.out),(Hvh1.out.mono Hkp2.out)⟩
end Go.Proofs.YtdodihnehppnmaaGreatDoor
