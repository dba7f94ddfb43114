/- Lemmas for the claim's theorem;conditions: as each says. -/
import Derived.Test.YtdodihnehppnmaaGreatDoorG39
import Derived.Test.YtdodihnehppnmaaGreatDoorG37
set_option maxHeartbeats 0
set_option maxRecDepth 100000
set_option linter.all false
namespace Go.Proofs.YtdodihnehppnmaaGreatDoor
open Go.RowKit
variable{a b:ay}
def jH(l:List dm):Bool:=!vD l&&BA l==0
def gX(l:List dm):Int:=if jH l then 1 else 0
theorem Xjv{l:List dm}(hw:∀x∈l,x.Wf)(h:jH l=true):(l.length≤8∧(∀x∈l,kR x)∧xI l≤20000)∧BA l=0:=by
 unfold jH at h;rw[Bool.and_eq_true]at h;exact⟨Yp hw (by simpa using h.1),by simpa using h.2⟩
theorem Xh7(I:IH)(v:Value)(l:List dm)(hv:bf oK I v l)(iZ:∀x∈l,x.Wf)(w:World)(hw:Ok I w):
 Calls Tryz.prog 16 #[v] w fun r w'=>r= .returned (.int .i64 (gX l))∧Below w.heap.size w w':=by
 have vF:=Qh (Xn8 I v l hv iZ w hw);have j6:=Qh (fun(h:vD l=false) w hw=>Xn9 I v l hv (Yp iZ h).2.1 (by have:=(Yp iZ h).1;omega) w hw);obtain⟨ao,cap,rfl,_,_,_⟩:=id hv;clear hv iZ;cases hg:vD l
 ·have Hc:=Qh (j6.O hg);have Hn:=Qh (show jH l=(BA l==0) by rw[jH,hg];rfl);rw[show lu l=0 by rw[lu,hg];rfl]at vF;obtain⟨E,hE⟩:∃E,BA l=E:=⟨_,rfl⟩;rw[hE]at Hn Hc;clear hg hE j6;by_cases h0:E=0
  ·have iQ:=Qh (show jH l=true by rw[Hn.O,h0];rfl);subst h0;go_enter Tryz.func16,Tryz.ntmps16
   go_wp2_with fail
   refine vF.O.mono ?_;rintro e1 w1 ⟨rfl,au⟩;have aB:=hw.below (Qn _) au;go_wp2_with fail
   refine(Hc.O w1 aB).mono ?_;rintro e2 w2 ⟨rfl,aD⟩;go_wp2;go_ret;exact⟨bT (by rw[gX,iQ.O];rfl),au.trans (aD.mono au.size)⟩
  ·have iQ:=Qh (show jH l=false by rw[Hn.O];simpa using h0);have he:(E !=0)=true:=by simpa using h0
   clear h0;go_enter Tryz.func16,Tryz.ntmps16
   go_wp2_with fail
   refine vF.O.mono ?_;rintro e1 w1 ⟨rfl,au⟩;have aB:=hw.below (Qn _) au;go_wp2_with fail
   refine(Hc.O w1 aB).mono ?_;rintro e2 w2 ⟨rfl,aD⟩;go_wp2;go_ret;exact⟨bT (by rw[gX,iQ.O];rfl),au.trans (aD.mono au.size)⟩
 ·have Hn:=Qh (show jH l=false by rw[jH,hg];rfl);rw[show lu l=1 by rw[lu,hg];rfl]at vF;clear hg j6;go_enter Tryz.func16,Tryz.ntmps16
  go_wp2_with fail
  refine vF.O.mono ?_;rintro e1 w1 ⟨rfl,au⟩;go_wp2;go_ret;exact⟨bT (by rw[gX,Hn.O];rfl),au⟩

theorem Xrk(I:IH)(v1 v2:Value)(l m:List At)(xN:bf kT I v1 l)(xO:bf kT I v2 m)(w:World)(hw:Ok I w):
 Calls Tryz.prog 115 #[v1,v2] w fun e w'=>e= .returned (.bool (decide (l=m)))∧Below w.heap.size w w':=by
 have xM:=xN.dh;have FP:=xO.dh;obtain⟨ao,cap,rfl,dD,il,_⟩:=id xN;obtain⟨uV,cap2,rfl,qK,rJ,_⟩:=id xO;have Uw:=Qh xN;have Ux:=Qh xO;clear xN xO;by_cases Cz:l.length=m.length;case neg=>
  have k7:((l.length:Int) !=(m.length:Int))=true:=by rw[bne_iff_ne];omega
  have Hn:=Qh (show decide (l=m)=false by rw[Qf];intro e;exact Cz (by rw[e]));clear Cz;go_enter Tryz.func115,Tryz.ntmps115
  go_wp2;go_ret;exact⟨gZ Hn.O.symm,Qb _ _⟩
 have k7:((l.length:Int) !=(m.length:Int))=false:=by rw[Cz];simp
 have Km:=Qh Cz;clear Cz;go_enter Tryz.func115,Tryz.ntmps115
 go_wp2_with fail
 go_loopw [13] (fun s13 wr=> ∃k:Nat,k≤l.length∧s13= .int .i64 k∧l.take k=m.take k∧Below w.heap.size w wr) (fun i _=>l.length-(intOf i).toNat)
 case atStart=>exact⟨0,Nat.zero_le _,rfl,rfl,Qb _ _⟩
 case round=>
  obtain⟨k,hk,rfl,hr,hb⟩:=hrel;have Hr:=Qh hr;clear hr;have dz:Ok I wr:=hw.below (Qn _) hb;by_cases hlt:k<l.length
  ·have jm:k<m.length:=by rw[←Km.O];exact hlt
   obtain⟨p,bb,off,cap',hp,di,p0,p1⟩:=uU Uw.O dz k hlt;cases di;obtain⟨q,b',off',tO,hq,di,q0,q1⟩:=uU Ux.O dz k jm;cases di;have Hp:=Qh hp;have Hq:=Qh hq;have x0:=cell_regrown p0;have x1:=cell_regrown p1;have y0:=cell_regrown q0;have y1:=cell_regrown q1;clear hp hq;have Ij:=Xq5 p q;by_cases C9:p=q
   ·rw[Qt C9]at Ij;have Hn:=Qh (show l.take (k+1)=m.take (k+1) by rw[List.take_succ_eq_append_getElem hlt,List.take_succ_eq_append_getElem jm,Hr.O,Hp.O,Hq.O,C9]);clear C9;go_wp2_with fail
    refine wp_region_quiet_below (by kernel_rfl) (by kernel_rfl) ?_;repeat(go_big_quiet_step ((fail)))
    refine wpQuiet_nil ?_;intro w2 bg;have aD:Below (wr).heap.size (wr) w2:=by
     obtain⟨pq,rfl⟩:=bg;exact below_regrown _ _ _
    clear bg;go_wp2;go_roundw;case rel=>exact⟨k+1,by omega,by go_num,Hn.O,hb.trans (aD.mono hb.size)⟩
    case measure=>simp[intOf];omega
   ·rw[Qf C9]at Ij;have Hn:=Qh (show decide (l=m)=false by
     rw[Qf];intro h;apply C9;rw[←Hp.O,←Hq.O];simp[h])
    clear C9;go_wp2_with fail
    refine wp_region_quiet_below (by kernel_rfl) (by kernel_rfl) ?_;repeat(go_big_quiet_step ((fail)))
    refine wpQuiet_nil ?_;intro w2 bg;have aD:Below (wr).heap.size (wr) w2:=by
     obtain⟨pq,rfl⟩:=bg;exact below_regrown _ _ _
    clear bg;go_wp2;go_ret;exact⟨gZ Hn.O.symm,hb.trans (aD.mono hb.size)⟩
  ·have Hn:=Qh (show decide (l=m)=true by
    have:=Hr.O;rw[List.take_of_length_le (by omega),List.take_of_length_le (by rw[←Km.O];omega)]at this;rw[Qt this])
   go_wp2;go_ret;exact⟨gZ Hn.O.symm,hb⟩
theorem Xtf(h:a.ag≠b.ag):meaning a b=false:=by rw[meaning,Qf h];rfl
theorem Xri(h:a.ai≠b.ai):meaning a b=false:=by rw[meaning,Qf h];simp
theorem Xom(h:a.target≠b.target):meaning a b=false:=by rw[meaning,Qf h];simp
theorem Xte(h:a.size≠b.size):meaning a b=false:=by rw[meaning,Qf h];simp
theorem Xon(h:a.aj≠b.aj):meaning a b=false:=by rw[meaning,Qf h];simp
theorem Xwk(h1:a.ag=b.ag)(h2:a.ai=b.ai)(h3:a.target=b.target)(h4:a.size=b.size)(h5:a.aj=b.aj):meaning a b=true:=by
 rw[meaning,Qt h1,Qt h2,Qt h3,Qt h4,Qt h5];rfl
theorem Xzo(I:IH)(a b:ay)(va vx vb vy:Value)(dV:bf kT I va a.ai)(dX:bf mE I vx a.ak)(pX:bf kT I vb b.ai)(hvy:bf mE I vy b.ak)(w:World)(hw:Ok I w):
 Calls Tryz.prog 68 #[eT a va vx,eT b vb vy] w fun e w'=>e= .returned (.bool (meaning a b))∧Below w.heap.size w w':=by
 obtain⟨aa,ca,rfl,_,_,_⟩:=id dV;obtain⟨ax,cx,rfl,hcx,aoz,_⟩:=id dX;obtain⟨Ri,Rj,rfl,_,_,_⟩:=id pX;obtain⟨Rk,Rl,rfl,hcy,aoA,_⟩:=id hvy;have yX:=Qh (fun w hw=>Xrk I _ _ a.ai b.ai dV pX w hw);clear dV dX pX hvy;by_cases h1:a.ag=b.ag;case neg=>
  have k1:((a.ag:Int)==b.ag)=false:=by simpa using h1
  have Hn:=Qh (Xtf h1);clear h1;go_enter Tryz.func68,Tryz.ntmps68
  go_wp2;go_ret;exact⟨gZ Hn.O.symm,((Qb _ _).alloc (Qn _) _).alloc (by simp) _⟩
 have k1:((a.ag:Int)==b.ag)=true:=by simpa using h1
 by_cases h2:a.ai=b.ai;case neg=>
  have Hn:=Qh (Xri h2);rw[Qf h2]at yX;clear h2 h1;go_enter Tryz.func68,Tryz.ntmps68
  go_wp2_with fail
  refine(yX.O _ ((hw.alloc _).alloc _)).mono ?_;rintro e w1 ⟨rfl,au⟩;have av:Below w.heap.size w w1:=(((Qb _ _).alloc (Qn _) _).alloc (by simp) _).trans (au.mono (by simp;omega));have hB:=bS (n:=w.heap.size+1) (e:=b) (by simp) au;have hA:=(aW.past (bS (e:=a) (t:=26) rfl (Qb _ _)) (.cells #[.int .i64 b.ag,S b.af,.slice Ri b.ai.length Rj,S b.target,.int .i64 b.size,S b.aj,.slice Rk b.ak.length Rl] 26)).aA au;obtain⟨c0,c1,c2,c3,c4,c5,c6⟩:=hA;obtain⟨d0,d1,d2,d3,d4,d5,d6⟩:=hB;clear au;go_wp2;go_ret;exact⟨gZ Hn.O.symm,av⟩
 rw[Qt h2]at yX;by_cases h3:a.target=b.target;case neg=>
  have k3:(a.target !=b.target)=true:=by simpa using h3
  have k3':(a.target==b.target)=false:=by simpa using h3
  have Hn:=Qh (Xom h3);clear h3 h2 h1;go_enter Tryz.func68,Tryz.ntmps68
  go_wp2_with fail
  refine(yX.O _ ((hw.alloc _).alloc _)).mono ?_;rintro e w1 ⟨rfl,au⟩;have av:Below w.heap.size w w1:=(((Qb _ _).alloc (Qn _) _).alloc (by simp) _).trans (au.mono (by simp;omega));have hB:=bS (n:=w.heap.size+1) (e:=b) (by simp) au;have hA:=(aW.past (bS (e:=a) (t:=26) rfl (Qb _ _)) (.cells #[.int .i64 b.ag,S b.af,.slice Ri b.ai.length Rj,S b.target,.int .i64 b.size,S b.aj,.slice Rk b.ak.length Rl] 26)).aA au;obtain⟨c0,c1,c2,c3,c4,c5,c6⟩:=hA;obtain⟨d0,d1,d2,d3,d4,d5,d6⟩:=hB;clear au;go_wp2;go_ret;exact⟨gZ Hn.O.symm,av⟩
 have k3:(a.target !=b.target)=false:=by simpa using h3
 have k3':(a.target==b.target)=true:=by simpa using h3
 by_cases h4:a.size=b.size;case neg=>
  have k4:((a.size:Int)==b.size)=false:=by simpa using h4
  have Hn:=Qh (Xte h4);clear h4 h3 h2 h1;go_enter Tryz.func68,Tryz.ntmps68
  go_wp2_with fail
  refine(yX.O _ ((hw.alloc _).alloc _)).mono ?_;rintro e w1 ⟨rfl,au⟩;have av:Below w.heap.size w w1:=(((Qb _ _).alloc (Qn _) _).alloc (by simp) _).trans (au.mono (by simp;omega));have hB:=bS (n:=w.heap.size+1) (e:=b) (by simp) au;have hA:=(aW.past (bS (e:=a) (t:=26) rfl (Qb _ _)) (.cells #[.int .i64 b.ag,S b.af,.slice Ri b.ai.length Rj,S b.target,.int .i64 b.size,S b.aj,.slice Rk b.ak.length Rl] 26)).aA au;obtain⟨c0,c1,c2,c3,c4,c5,c6⟩:=hA;obtain⟨d0,d1,d2,d3,d4,d5,d6⟩:=hB;clear au;go_wp2;go_ret;exact⟨gZ Hn.O.symm,av⟩
 have k4:((a.size:Int)==b.size)=true:=by simpa using h4
 by_cases h5:a.aj=b.aj;case neg=>
  have k5:(a.aj !=b.aj)=true:=by simpa using h5
  have k5':(a.aj==b.aj)=false:=by simpa using h5
  have Hn:=Qh (Xon h5);clear h5 h4 h3 h2 h1;go_enter Tryz.func68,Tryz.ntmps68
  go_wp2_with fail
  refine(yX.O _ ((hw.alloc _).alloc _)).mono ?_;rintro e w1 ⟨rfl,au⟩;have av:Below w.heap.size w w1:=(((Qb _ _).alloc (Qn _) _).alloc (by simp) _).trans (au.mono (by simp;omega));have hB:=bS (n:=w.heap.size+1) (e:=b) (by simp) au;have hA:=(aW.past (bS (e:=a) (t:=26) rfl (Qb _ _)) (.cells #[.int .i64 b.ag,S b.af,.slice Ri b.ai.length Rj,S b.target,.int .i64 b.size,S b.aj,.slice Rk b.ak.length Rl] 26)).aA au;obtain⟨c0,c1,c2,c3,c4,c5,c6⟩:=hA;obtain⟨d0,d1,d2,d3,d4,d5,d6⟩:=hB;clear au;go_wp2;go_ret;exact⟨gZ Hn.O.symm,av⟩
 have k5:(a.aj !=b.aj)=false:=by simpa using h5
 have k5':(a.aj==b.aj)=true:=by simpa using h5
 have Hn:=Qh (Xwk h1 h2 h3 h4 h5);clear h5 h4 h3 h2 h1;go_enter Tryz.func68,Tryz.ntmps68
 go_wp2_with fail
 refine(yX.O _ ((hw.alloc _).alloc _)).mono ?_;rintro e w1 ⟨rfl,au⟩;have av:Below w.heap.size w w1:=(((Qb _ _).alloc (Qn _) _).alloc (by simp) _).trans (au.mono (by simp;omega));have hB:=bS (n:=w.heap.size+1) (e:=b) (by simp) au;have hA:=(aW.past (bS (e:=a) (t:=26) rfl (Qb _ _)) (.cells #[.int .i64 b.ag,S b.af,.slice Ri b.ai.length Rj,S b.target,.int .i64 b.size,S b.aj,.slice Rk b.ak.length Rl] 26)).aA au;obtain⟨c0,c1,c2,c3,c4,c5,c6⟩:=hA;obtain⟨d0,d1,d2,d3,d4,d5,d6⟩:=hB;clear au;go_wp2;go_ret;exact⟨gZ Hn.O.symm,av⟩
def rZ(a b:List ay):List ae:=(a.filter fun x=>match dC b x.af with|none=>true|some y=> !(meaning x y)).map ay.af++(b.filter fun y=>(dC a y.af).isNone).map ay.af
theorem Xu2{a b:List ay}(hb:fC b)(p:ae)(ha:fC a):p∈rZ a b↔nX a b p:=by
 unfold rZ nX;rw[List.mem_append,List.mem_map,List.mem_map];constructor
 ·rintro(⟨x,hx,rfl⟩|⟨y,hy,rfl⟩)
  ·rw[List.mem_filter]at hx;refine .inl ⟨x,hx.1,rfl,fun y hy k=> ?_⟩;have:=hx.2;rw[←k,FU hb hy]at this;simpa using this
  ·rw[List.mem_filter]at hy;refine .inr ⟨y,hy.1,rfl,fun x hx k=> ?_⟩;have:=hy.2;rw[←k,FU ha hx]at this;simp at this
 ·rintro(⟨x,hx,rfl,h⟩|⟨y,hy,rfl,h⟩)
  ·refine .inl ⟨x,List.mem_filter.2 ⟨hx,?_⟩,rfl⟩;cases hg:dC b x.af with
   |none=>rfl
   |some y=>
    obtain⟨hy,k⟩:=Sv hg;simpa using h y hy k
  ·refine .inr ⟨y,List.mem_filter.2 ⟨hy,?_⟩,rfl⟩;rw[Vb h];rfl
theorem Xly{t:List ay}(h:fC t):(t.map ay.af).Pairwise fun p q=>p≠q:=List.pairwise_map.2 (h.imp fun k=>ww k)
theorem Xxi{a b:List ay}(ha:fC a)(hb:fC b):(rZ a b).Pairwise fun p q=>p≠q:=by
 unfold rZ;rw[List.pairwise_append];refine⟨Xly (List.Pairwise.filter _ ha),Xly (List.Pairwise.filter _ hb),fun p hp q hq k=> ?_⟩;obtain⟨x,hx,rfl⟩:=List.mem_map.1 hp;obtain⟨y,hy,rfl⟩:=List.mem_map.1 hq;rw[List.mem_filter]at hx hy;have:=hy.2;rw[←k,FU ha hx.1]at this;simp at this
theorem Xzy(p q:ae):decide (ic p q<0)=gU (els p) (els q):=by
 unfold ic;cases h:gU (els p) (els q)
 ·cases k:gU (els q) (els p)<;>simp
 ·simp
theorem Xg7{a b:List ay}(ha:fC a)(hb:fC b){l:List ae}(hp:l.Perm (rZ a b))(hs:l.Pairwise fun p q=>gU (els q) (els p)=false):l=gp a b:=by
 have cK:=(hp.pairwise_iff (fun{x y} h=>Ne.symm h)).2 (Xxi ha hb);obtain⟨h1,h2⟩:=NI a b ha hb;have hl:BS l:=(cK.and hs).imp fun{p q} h=>by
  rcases Sr (els p) (els q)with k|k|k
  ·exact k
  ·exact absurd (Xuq k) h.1
  ·rw[h.2]at k;exact absurd k (by simp)
 exact hl.ext h1 fun p=>by rw[hp.mem_iff,Xu2 hb p ha,h2]
