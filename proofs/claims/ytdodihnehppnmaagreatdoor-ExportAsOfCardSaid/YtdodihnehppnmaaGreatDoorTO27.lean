/-
  Walks and laws that the claim's theorem uses: texts EeC SeC EnK, joined; comments out. Conditions: as each theorem says.
-/
import Derived.Test.YtdodihnehppnmaaGreatDoorTO21
set_option linter.all false
namespace Go.Proofs.YtdodihnehppnmaaGreatDoor
open Go.RowKit
theorem Xt8 (k:Int) (w:World):Calls Tryz.prog 150 #[.int .i64 k] w fun e w'=>e= .returned (S (nameP k))∧Below w.heap.size w w':=
 (Xi2 k w).mono fun _ _ h=>⟨h.1,by rw [h.2];exact Qb _ _⟩
set_option maxRecDepth 100000 in
set_option maxHeartbeats 2000000 in
theorem Xi1 (I:IH) (e:Ent) (va vx:Value) (hva:RdS tAt I va e.attrs) (hvx:RdS tXt I vx e.exts) (hc:EncOk e) (w:World) (hw:Ok I w):
 Calls Tryz.prog 101 #[entV e va vx] w fun r w'=>r= .returned (S (headE e))∧Below w.heap.size w w':=by
 obtain ⟨aa,ca,rfl,_,_,_⟩:=id hva
 obtain ⟨ax,cx,rfl,_,_,_⟩:=id hvx
 have Hv:=Qh hva
 have hna:=hc.natt
 have hp200:=hc.path
 have ht200:=hc.target
 have Hat:=Qh hc.att
 have Hl:=Qh (Xpj hna Hat.out)
 have hl0:=Hl.out 0
 have hnn:=Xfd e.kind
 have hl1:=Xal (nameP e.kind) (by omega)
 have hl2:=Xal e.path (by omega)
 have hl4:=Xal e.target (by omega)
 have H0:=Qh (fun w=>Xt8 e.kind w)
 have H1:=Qh (fun w=>Xaq (nameP e.kind) (by omega) w)
 have H2:=Qh (fun w=>Xaq e.path (by omega) w)
 have H3:=Qh (fun w=>Xbl e.attrs.length (by omega) w)
 have H4:=Qh (fun w=>Xaq e.target (by omega) w)
 have hz:numP e.attrs.length=attK e.attrs 0:=by rw [attK,List.take_zero,List.flatMap_nil,List.append_nil]
 have Hh:=Qh (show netP (nameP e.kind)++netP e.path++attP e.attrs++netP e.target=headE e from rfl)
 rw [hz] at H3
 clear hva hvx hc hz
 generalize netP (nameP e.kind)=p1 at hl1 H1 Hh
 generalize nameP e.kind=nm at hnn hl1 H0 H1
 generalize netP e.path=p2 at hl2 H2 Hh
 generalize netP e.target=p4 at hl4 H4 Hh
 have HB0:=Qh (entB (W:=w) (e:=e) (va:= .slice aa e.attrs.length ca) (vx:= .slice ax e.exts.length cx) (t:=26) rfl (Qb _ _))
 obtain ⟨c0,c1,c2,c3,c4,c5,c6⟩:=HB0.out
 have e0:=cell_regrown c0
 have e1:=cell_regrown c1
 have e2:=cell_regrown c2
 have hba:=(Qb w.heap.size w).alloc (Qn _) (.cells #[.int .i64 e.kind,S e.path,.slice aa e.attrs.length ca,S e.target,.int .i64 e.size,S e.digest,.slice ax e.exts.length cx] 26)
 clear c0 c1 c2 c3 c4 c5 c6
 go_enter Tryz.func101,Tryz.ntmps101
 go_wp2_with fail
 refine wp_region_quiet_below (by kernel_rfl) (by kernel_rfl) ?_
 repeat (go_big_quiet_step ((with_reducible first|exact Calls.regrown_of (H0.out _)|exact Calls.regrown_of (H1.out _)|exact Calls.regrown_of (H2.out _)|exact Calls.regrown_of (H3.out _))))
 refine wpQuiet_nil ?_
 intro w1 hwq
 have hb1:Below ((w.alloc (.cells #[.int .i64 e.kind,S e.path,.slice aa e.attrs.length ca,S e.target,.int .i64 e.size,S e.digest,.slice ax e.exts.length cx] 26))).heap.size ((w.alloc (.cells #[.int .i64 e.kind,S e.path,.slice aa e.attrs.length ca,S e.target,.int .i64 e.size,S e.digest,.slice ax e.exts.length cx] 26))) w1:=by
  obtain ⟨pq,rfl⟩:=hwq
  exact below_regrown _ _ _
 clear hwq
 have HB1:=Qh (HB0.out.thru hb1)
 have hb1':=hba.trans (hb1.mono hba.size)
 clear e0 e1 e2 hb1 hba HB0 H0 H1 H2 H3
 go_wp2_with fail
 go_loopw [3,4] (fun s3 s4 wr=> ∃k:Nat,k≤e.attrs.length∧s4= .int .i64 k∧s3=S (p1++p2++attK e.attrs k)∧EntB wr w.heap.size e (.slice aa e.attrs.length ca) (.slice ax e.exts.length cx)∧Below w.heap.size w wr) (fun _ i _=>e.attrs.length-(intOf i).toNat)
 case atStart=>exact ⟨0,Nat.zero_le _,rfl,by simp,HB1.out,hb1'⟩
 case round=>
  clear hb1' HB1
  obtain ⟨k,hk,rfl,rfl,hBe,hb⟩:=hrel
  have HBe:=Qh hBe
  have hwr:Ok I wr:=hw.below (Qn _) hb
  have hal:=Hl.out k
  obtain ⟨c0,c1,c2,c3,c4,c5,c6⟩:=HBe.out
  clear hBe
  by_cases hlt:k<e.attrs.length
  ·obtain ⟨x,b,off,cap',hlx,hvv,a0,a1⟩:=atAt Hv.out hwr k hlt
   cases hvv
   have hax:=Hat.out x (by rw [←hlx];exact List.getElem_mem hlt)
   have Hst:=Qh (Xme hlt hlx)
   have hk1:=Xal x.k (by omega)
   have hk2:=Xal x.v (by omega)
   have Hs1:=Qh (fun w=>Xaq x.k (by omega) w)
   have Hs2:=Qh (fun w=>Xaq x.v (by omega) w)
   clear hlx
   generalize netP x.k=p at Hst hk1 Hs1
   generalize netP x.v=q at Hst hk2 Hs2
   generalize attK e.attrs k=u at Hst hal ⊢
   have x0:=cell_regrown a0
   have x1:=cell_regrown a1
   have e2:=cell_regrown c2
   go_wp2_with fail
   refine wp_region_quiet_below (by kernel_rfl) (by kernel_rfl) ?_
   repeat (go_big_quiet_step ((with_reducible first|exact Calls.regrown_of (Hs1.out _)|exact Calls.regrown_of (Hs2.out _))))
   refine wpQuiet_nil ?_
   intro w2 hwq
   have hb2:Below (wr).heap.size (wr) w2:=by
    obtain ⟨pq,rfl⟩:=hwq
    exact below_regrown _ _ _
   clear hwq
   have HB2:=Qh (HBe.out.thru hb2)
   clear x0 x1 e2 c0 c1 c2 c3 c4 c5 c6
   go_wp2
   go_roundw
   case rel=>exact ⟨k+1,by omega,by go_num,(by rw [Hst.out];simp),HB2.out,hb.trans (hb2.mono hb.size)⟩
   case measure=>simp [intOf];omega
  ·have Hn:=Qh (Xpk e.attrs (k:=k) (by omega))
   rw [Hn.out] at hal ⊢
   generalize attP e.attrs=u at hal Hh ⊢
   go_wp2_with fail
   refine (H4.out _).mono ?_
   rintro r w2 ⟨rfl,hb2⟩
   go_wp2
   go_ret
   exact ⟨Xmz (by rw [←Hh.out];simp),hb.trans (hb2.mono hb.size)⟩
set_option maxRecDepth 100000 in
set_option maxHeartbeats 400000 in
theorem Xq7 (I:IH) (e:Ent) (va vx:Value) (hva:RdS tAt I va e.attrs) (hvx:RdS tXt I vx e.exts) (hwf:e.Wf) (hx:e.exts.length≤1000) (he:entErr e≠0) (w:World) (hw:Ok I w):
 Calls Tryz.prog 208 #[entV e va vx] w fun r w'=>r= .returned (.tuple #[S [],.int .i64 (entErr e)])∧Below w.heap.size w w':=by
 have Hck:=Qh (fun w hw=>Xby I e va vx hva hvx hwf w hw)
 obtain ⟨aa,ca,rfl,_,_,_⟩:=id hva
 obtain ⟨ax,cx,rfl,_,_,_⟩:=id hvx
 rw [Xcf (by omega)] at Hck
 obtain ⟨q,hq⟩:∃q,entErr e=q:=⟨_,rfl⟩
 rw [hq] at Hck he ⊢
 have hn0:(q != 0)=true:=by simpa using he
 clear hq he
 go_enter Tryz.func208,Tryz.ntmps208
 go_wp2_with fail
 refine (Hck.out _ (hw.alloc _)).mono ?_
 rintro e1 w1 ⟨rfl,hb1⟩
 have hb1':=((Qb w.heap.size w).alloc (Qn _) (.cells #[.int .i64 e.kind,S e.path,.slice aa e.attrs.length ca,S e.target,.int .i64 e.size,S e.digest,.slice ax e.exts.length cx] 26)).trans (hb1.mono (by simp))
 go_wp2
 go_ret2
 exact ⟨rfl,hb1'⟩
set_option maxRecDepth 100000 in
set_option maxHeartbeats 2000000 in
theorem Xkx (I:IH) (e:Ent) (va vx:Value) (hva:RdS tAt I va e.attrs) (hvx:RdS tXt I vx e.exts) (hwf:e.Wf) (hc:EncOk e) (he:entErr e=0) (hx:e.exts.length≤1000) (w:World) (hw:Ok I w):
 Calls Tryz.prog 208 #[entV e va vx] w fun r w'=>r= .returned (.tuple #[S (encE e),.int .i64 0])∧Below w.heap.size w w':=by
 have Hck:=Qh (fun w hw=>Xby I e va vx hva hvx hwf w hw)
 have H0:=Qh (fun w hw=>Xi1 I e va vx hva hvx hc w hw)
 obtain ⟨aa,ca,rfl,_,_,_⟩:=id hva
 obtain ⟨ax,cx,rfl,_,_,_⟩:=id hvx
 rw [Xcf (by omega),he] at Hck
 have Hv:=Qh hvx
 have hs0:=hc.s0
 have hs1:=hc.s1
 have hd32:=hc.digest
 have Hxs:=Qh hc.xts
 have Hl:=Qh (Xo7 hc hx)
 have hhl:=Xd6 hc
 have Hz:=Qh (show netP (headE e)++numP e.size++netP e.digest++numP e.exts.length=encK e 0 from (Xsk e).symm)
 have hl1:=Xal (headE e) (by omega)
 have hl2:=Xb5 hs0 (by omega)
 have hl3:=Xal e.digest (by omega)
 have hl4:=Xbd e.exts.length (by omega)
 have H1:=Qh (fun w=>Xaq (headE e) (by omega) w)
 have H2:=Qh (fun w=>Xfz e.size hs0 (by omega) w)
 have H3:=Qh (fun w=>Xaq e.digest (by omega) w)
 have H4:=Qh (fun w=>Xbl e.exts.length (by omega) w)
 clear hva hvx hc he
 generalize netP (headE e)=p1 at Hz hl1 H1
 generalize numP e.size=p2 at Hz hl2 H2
 generalize netP e.digest=p3 at Hz hl3 H3
 generalize numP (e.exts.length:Int)=p4 at Hz hl4 H4
 generalize headE e=hd at H0 H1 hhl hl1
 go_enter Tryz.func208,Tryz.ntmps208
 go_wp2_with fail
 refine (Hck.out _ (hw.alloc _)).mono ?_
 rintro e1 w1 ⟨rfl,hb1⟩
 have HB1:=Qh (entB (e:=e) rfl hb1)
 have hok1:Ok I w1:=(hw.alloc _).below (Qn _) hb1
 have hb1':=((Qb w.heap.size w).alloc (Qn _) (.cells #[.int .i64 e.kind,S e.path,.slice aa e.attrs.length ca,S e.target,.int .i64 e.size,S e.digest,.slice ax e.exts.length cx] 26)).trans (hb1.mono (by simp))
 obtain ⟨c0,c1,c2,c3,c4,c5,c6⟩:=HB1.out
 have e0:=cell_regrown c0
 have e1:=cell_regrown c1
 have e2:=cell_regrown c2
 have e3:=cell_regrown c3
 have e4:=cell_regrown c4
 have e5:=cell_regrown c5
 have e6:=cell_regrown c6
 clear hb1 Hck c0 c1 c2 c3 c4 c5 c6
 go_wp2_with fail
 refine wp_region_quiet_below (by kernel_rfl) (by kernel_rfl) ?_
 repeat (go_big_quiet_step ((with_reducible first|exact Calls.regrown_of (H0.out _ (hok1.below (Qn _) (below_regrown _ _ _)))|exact Calls.regrown_of (H1.out _)|exact Calls.regrown_of (H2.out _)|exact Calls.regrown_of (H3.out _)|exact Calls.regrown_of (H4.out _))))
 refine wpQuiet_nil ?_
 intro w2 hwq
 have hb2:Below (w1).heap.size (w1) w2:=by
  obtain ⟨pq,rfl⟩:=hwq
  exact below_regrown _ _ _
 clear hwq
 have HB2:=Qh (HB1.out.thru hb2)
 have hb2':=hb1'.trans (hb2.mono hb1'.size)
 clear e0 e1 e2 e3 e4 e5 e6 hb2 HB1 hok1 hb1' H0 H1 H2 H3 H4
 go_wp2_with fail
 go_loopw [5,6] (fun s5 s6 wr=> ∃k:Nat,k≤e.exts.length∧s6= .int .i64 k∧s5=S (encK e k)∧EntB wr w.heap.size e (.slice aa e.attrs.length ca) (.slice ax e.exts.length cx)∧Below w.heap.size w wr) (fun _ i _=>e.exts.length-(intOf i).toNat)
 case atStart=>exact ⟨0,Nat.zero_le _,rfl,by rw [←Hz.out];simp,HB2.out,hb2'⟩
 case round=>
  clear HB2 hb2' Hz hl1 hl2 hl3 hl4 hhl
  obtain ⟨k,hk,rfl,rfl,hBe,hb⟩:=hrel
  have HBe:=Qh hBe
  have hwr:Ok I wr:=hw.below (Qn _) hb
  have hal:=Hl.out k
  obtain ⟨c0,c1,c2,c3,c4,c5,c6⟩:=HBe.out
  clear hBe
  by_cases hlt:k<e.exts.length
  ·obtain ⟨x,b,off,cap',hlx,hvv,a0,a1,a2⟩:=xtAt Hv.out hwr k hlt
   cases hvv
   obtain ⟨y0,y1,y2,y3,y4,y5⟩:=Hxs.out x (by rw [←hlx];exact List.getElem_mem hlt)
   have Hst:=Qh (Xsl hlt hlx)
   have hm1:=Xb5 (n:=x.s) (by omega) (by omega)
   have hm2:=Xb5 (n:=x.o) (by omega) (by omega)
   have hm3:=Xb5 (n:=x.n) (by omega) (by omega)
   have H1:=Qh (fun w=>Xfz x.s (by omega) (by omega) w)
   have H2:=Qh (fun w=>Xfz x.o (by omega) (by omega) w)
   have H3:=Qh (fun w=>Xfz x.n (by omega) (by omega) w)
   have g0:=cell_regrown (show (wr.alloc (.cells #[.int .i64 x.s,.int .i64 x.o,.int .i64 x.n] 134)).cell? ⟨wr.heap.size,0,none⟩=some (.int .i64 x.s) by simp)
   have g1:=cell_regrown (show (wr.alloc (.cells #[.int .i64 x.s,.int .i64 x.o,.int .i64 x.n] 134)).cell? ⟨wr.heap.size,1,none⟩=some (.int .i64 x.o) by simp)
   have g2:=cell_regrown (show (wr.alloc (.cells #[.int .i64 x.s,.int .i64 x.o,.int .i64 x.n] 134)).cell? ⟨wr.heap.size,2,none⟩=some (.int .i64 x.n) by simp)
   have HBa:=Qh (EntB.past HBe.out (.cells #[.int .i64 x.s,.int .i64 x.o,.int .i64 x.n] 134))
   have hba:=hb.alloc hb.size (.cells #[.int .i64 x.s,.int .i64 x.o,.int .i64 x.n] 134)
   clear hlx
   generalize numP x.s=q1 at Hst hm1 H1
   generalize numP x.o=q2 at Hst hm2 H2
   generalize numP x.n=q3 at Hst hm3 H3
   generalize encK e k=u at Hst hal ⊢
   go_wp2_with fail
   refine wp_region_quiet_below (by kernel_rfl) (by kernel_rfl) ?_
   repeat (go_big_quiet_step ((with_reducible first|exact Calls.regrown_of (H1.out _)|exact Calls.regrown_of (H2.out _)|exact Calls.regrown_of (H3.out _))))
   refine wpQuiet_nil ?_
   intro w2 hwq
   have hb2:Below ((wr.alloc (.cells #[.int .i64 x.s,.int .i64 x.o,.int .i64 x.n] 134))).heap.size ((wr.alloc (.cells #[.int .i64 x.s,.int .i64 x.o,.int .i64 x.n] 134))) w2:=by
    obtain ⟨pq,rfl⟩:=hwq
    exact below_regrown _ _ _
   clear hwq
   have HB2:=Qh (HBa.out.thru hb2)
   clear g0 g1 g2 a0 a1 a2 c0 c1 c2 c3 c4 c5 c6
   go_wp2
   go_roundw
   case rel=>exact ⟨k+1,by omega,by go_num,(by rw [Hst.out];simp),HB2.out,hba.trans (hb2.mono hba.size)⟩
   case measure=>simp [intOf];omega
  ·have Hn:=Qh (Xo8 e (k:=k) (by omega))
   rw [Hn.out]
   go_wp2
   go_ret2
   exact ⟨rfl,hb⟩
set_option maxRecDepth 100000 in
set_option maxHeartbeats 4000000 in
theorem Xm5 (I:IH) (s:Ses) (ve:Value) (hve:RdS tEnt I ve s.ents) (hg:SesG s) (w:World) (hw:Ok I w):
 Calls Tryz.prog 206 #[sesV s ve] w fun r w'=>r= .returned (.int .i64 (sesErr s))∧Below w.heap.size w w':=by
 obtain ⟨ao,co,rfl,_,_,_⟩:=id hve
 have Hv:=Qh hve
 have Hg:=Qh hg
 have hn30:=hg.nents
 have hst:=hg.stream
 have hpv:=hg.prev
 have hsl:=hg.sl
 have z1:decide (14680064<s.stream.length)=false:=Qf (by omega)
 have z2:decide (400<s.ents.length)=false:=Qf (by omega)
 have hbad:fldErr s≠0→sesErr s=fldErr s:=fun h=>by rw [sesErr,if_pos h]
 have hgood:fldErr s=0→sesErr s=if entsErr s.ents≠0 then entsErr s.ents else if 2000<s.sl.length then 6 else 0:=fun h=>by
  rw [sesErr,if_neg (by omega),if_neg (by omega)]
 clear hve hg
 by_cases h1:s.num<1
 ·have d1:decide (s.num<1)=true:=Qt h1
  have Hn:=Qh (show sesErr s=2 by rw [hbad]<;>rw [fldErr,if_pos (.inl h1)];decide)
  clear h1 hbad hgood
  go_enter Tryz.func206,Tryz.ntmps206
  go_wp2
  go_ret
  exact ⟨Xac Hn.out.symm,(Qb w.heap.size w).alloc (Qn _) _⟩
 have d1:decide (s.num<1)=false:=Qf h1
 by_cases h2:255<s.num
 ·have d2:decide (255<s.num)=true:=Qt h2
  have Hn:=Qh (show sesErr s=2 by rw [hbad]<;>rw [fldErr,if_pos (.inr (.inl h2))];decide)
  clear h1 h2 hbad hgood
  go_enter Tryz.func206,Tryz.ntmps206
  go_wp2
  go_ret
  exact ⟨Xac Hn.out.symm,(Qb w.heap.size w).alloc (Qn _) _⟩
 have d2:decide (255<s.num)=false:=Qf h2
 by_cases h3:s.date<0
 ·have d3:decide (s.date<0)=true:=Qt h3
  have Hn:=Qh (show sesErr s=2 by rw [hbad]<;>rw [fldErr,if_pos (.inr (.inr (.inl h3)))];decide)
  clear h1 h2 h3 hbad hgood
  go_enter Tryz.func206,Tryz.ntmps206
  go_wp2
  go_ret
  exact ⟨Xac Hn.out.symm,(Qb w.heap.size w).alloc (Qn _) _⟩
 have d3:decide (s.date<0)=false:=Qf h3
 by_cases h4:1000000000<s.date
 ·have d4:decide (1000000000<s.date)=true:=Qt h4
  have Hn:=Qh (show sesErr s=2 by rw [hbad]<;>rw [fldErr,if_pos (.inr (.inr (.inr h4)))];decide)
  clear h1 h2 h3 h4 hbad hgood
  go_enter Tryz.func206,Tryz.ntmps206
  go_wp2
  go_ret
  exact ⟨Xac Hn.out.symm,(Qb w.heap.size w).alloc (Qn _) _⟩
 have d4:decide (1000000000<s.date)=false:=Qf h4
 have hf:fldErr s=if s.prev≠ []∧s.prev.length≠32 then 1 else 0:=by
  rw [fldErr,if_neg]
  rintro (h|h|h|h)<;>contradiction
 clear h1 h2 h3 h4
 by_cases h5:s.prev= []
 ·have Hse:=Qh (hgood (by rw [hf,if_neg fun q=>q.1 h5]))
  have hl0:s.prev.length=0:=by rw [h5];rfl
  have d5:((s.prev.length:Int) != 0)=false:=by rw [hl0];rfl
  have d5':((s.prev.length:Int)==0)=true:=by rw [hl0];rfl
  clear h5 hf hbad hgood hl0
  go_enter Tryz.func206,Tryz.ntmps206
  go_wp2_with fail
  have HB0:=Qh (sesB (W:=w) (s:=s) (ve:= .slice ao s.ents.length co) (t:=35) rfl (Qb _ _))
  have hb0:=(Qb w.heap.size w).alloc (Qn _) (.cells #[.int .i64 s.num,.int .i64 s.date,S s.prev,.slice ao s.ents.length co,S s.stream,S s.sl] 35)
  go_loopw [3] (fun s3 wr=> ∃k:Nat,k≤s.ents.length∧s3= .int .i64 k∧entsErr (s.ents.drop k)=entsErr s.ents∧SesB wr w.heap.size s (.slice ao s.ents.length co)∧Below w.heap.size w wr) (fun i _=>s.ents.length-(intOf i).toNat)
  case atStart=>exact ⟨0,Nat.zero_le _,rfl,rfl,HB0.out,hb0⟩
  case round=>
   clear HB0 hb0
   obtain ⟨k,hk,rfl,hes,hBe,hb⟩:=hrel
   have HBe:=Qh hBe
   have Hes:=Qh hes
   have hwr:Ok I wr:=hw.below (Qn _) hb
   clear hBe hes
   obtain ⟨c0,c1,c2,c3,c4,c5⟩:=HBe.out
   by_cases hlt:k<s.ents.length
   ·obtain ⟨x,vxa,vxx,b,off,cap',hlx,hvv,⟨x0,x1,x2,x3,x4,x5,x6⟩,h1,h2⟩:=Xbu Hv.out hwr k hlt
    cases hvv
    obtain ⟨xa,xc,rfl,_,_,_⟩:=id h1
    obtain ⟨xx,xd,rfl,_,_,_⟩:=id h2
    have hmem:x∈s.ents:=by rw [←hlx];exact List.getElem_mem hlt
    have hxw:=Hg.out.wf x hmem
    have hxe:=Hg.out.exts x hmem
    have Hse1:=Qh (Xgl hlt hlx)
    have Hen:=Qh (fun w hw=>Xby I x _ _ h1 h2 hxw w hw)
    rw [Xcf (by omega)] at Hen
    clear hlx h1 h2 hmem hxw
    go_wp2_with fail
    refine (Hen.out _ hwr).mono ?_
    rintro e1 w4 ⟨rfl,hb4⟩
    have HB4:=Qh (HBe.out.thru hb4)
    have hb4':=hb.trans (hb4.mono hb.size)
    clear hb4 HBe c0 c1 c2 c3 c4 c5 x0 x1 x2 x3 x4 x5 x6 Hen
    by_cases hx0:entErr x=0
    ·have Hes2:=Qh (show entsErr (s.ents.drop (k+1))=entsErr s.ents by rw [←Hes.out,Hse1.out,if_neg (by omega)])
     rw [hx0]
     clear hx0
     go_wp2
     go_roundw
     case rel=>exact ⟨k+1,by omega,by go_num,Hes2.out,HB4.out,hb4'⟩
     case measure=>simp [intOf];omega
    ·have Hn:=Qh (show sesErr s=entErr x by
      have h:=Hes.out
      rw [Hse1.out,if_pos hx0] at h
      rw [Hse.out,if_pos (by rw [←h];exact hx0),←h])
     obtain ⟨q,hq⟩:∃q,entErr x=q:=⟨_,rfl⟩
     rw [hq] at hx0 Hn ⊢
     have hn0:(q != 0)=true:=by simpa using hx0
     clear hx0 hq
     go_wp2
     go_ret
     exact ⟨Xac Hn.out.symm,hb4'⟩
   ·have Hse2:=Qh (show sesErr s=if 2000<s.sl.length then 6 else 0 by
     have h:=Hes.out
     rw [List.drop_of_length_le (by omega)] at h
     rw [Hse.out,if_neg]
     rw [←h];simp [entsErr])
    by_cases h2:2000<s.sl.length
    ·have dI:decide ((2000:Int)<(s.sl.length:Int))=true:=Qt (by omega)
     have Hn1:=Qh (show sesErr s=6 by rw [Hse2.out,if_pos h2])
     go_wp2
     go_ret
     exact ⟨Xac Hn1.out.symm,hb⟩
    ·have dI:decide ((2000:Int)<(s.sl.length:Int))=false:=Qf (by omega)
     have Hn1:=Qh (show sesErr s=0 by rw [Hse2.out,if_neg h2])
     go_wp2
     go_ret
     exact ⟨Xac Hn1.out.symm,hb⟩
 have d5:((s.prev.length:Int) != 0)=true:=by
  have:=List.length_pos_iff.2 h5
  simpa using (show (s.prev.length:Int)≠0 by omega)
 have d5':((s.prev.length:Int)==0)=false:=by
  have:=List.length_pos_iff.2 h5
  simpa using (show (s.prev.length:Int)≠0 by omega)
 by_cases h6:s.prev.length=32
 ·have d6:((s.prev.length:Int) != 32)=false:=by rw [h6];rfl
  have d7:((s.prev.length:Int)==32)=true:=by rw [h6];rfl
  have Hse:=Qh (hgood (by rw [hf,if_neg fun q=>q.2 h6]))
  clear h5 hf h6 hbad hgood
  go_enter Tryz.func206,Tryz.ntmps206
  go_wp2_with fail
  have HB0:=Qh (sesB (W:=w) (s:=s) (ve:= .slice ao s.ents.length co) (t:=35) rfl (Qb _ _))
  have hb0:=(Qb w.heap.size w).alloc (Qn _) (.cells #[.int .i64 s.num,.int .i64 s.date,S s.prev,.slice ao s.ents.length co,S s.stream,S s.sl] 35)
  go_loopw [3] (fun s3 wr=> ∃k:Nat,k≤s.ents.length∧s3= .int .i64 k∧entsErr (s.ents.drop k)=entsErr s.ents∧SesB wr w.heap.size s (.slice ao s.ents.length co)∧Below w.heap.size w wr) (fun i _=>s.ents.length-(intOf i).toNat)
  case atStart=>exact ⟨0,Nat.zero_le _,rfl,rfl,HB0.out,hb0⟩
  case round=>
   clear HB0 hb0
   obtain ⟨k,hk,rfl,hes,hBe,hb⟩:=hrel
   have HBe:=Qh hBe
   have Hes:=Qh hes
   have hwr:Ok I wr:=hw.below (Qn _) hb
   clear hBe hes
   obtain ⟨c0,c1,c2,c3,c4,c5⟩:=HBe.out
   by_cases hlt:k<s.ents.length
   ·obtain ⟨x,vxa,vxx,b,off,cap',hlx,hvv,⟨x0,x1,x2,x3,x4,x5,x6⟩,h1,h2⟩:=Xbu Hv.out hwr k hlt
    cases hvv
    obtain ⟨xa,xc,rfl,_,_,_⟩:=id h1
    obtain ⟨xx,xd,rfl,_,_,_⟩:=id h2
    have hmem:x∈s.ents:=by rw [←hlx];exact List.getElem_mem hlt
    have hxw:=Hg.out.wf x hmem
    have hxe:=Hg.out.exts x hmem
    have Hse1:=Qh (Xgl hlt hlx)
    have Hen:=Qh (fun w hw=>Xby I x _ _ h1 h2 hxw w hw)
    rw [Xcf (by omega)] at Hen
    clear hlx h1 h2 hmem hxw
    go_wp2_with fail
    refine (Hen.out _ hwr).mono ?_
    rintro e1 w4 ⟨rfl,hb4⟩
    have HB4:=Qh (HBe.out.thru hb4)
    have hb4':=hb.trans (hb4.mono hb.size)
    clear hb4 HBe c0 c1 c2 c3 c4 c5 x0 x1 x2 x3 x4 x5 x6 Hen
    by_cases hx0:entErr x=0
    ·have Hes2:=Qh (show entsErr (s.ents.drop (k+1))=entsErr s.ents by rw [←Hes.out,Hse1.out,if_neg (by omega)])
     rw [hx0]
     clear hx0
     go_wp2
     go_roundw
     case rel=>exact ⟨k+1,by omega,by go_num,Hes2.out,HB4.out,hb4'⟩
     case measure=>simp [intOf];omega
    ·have Hn:=Qh (show sesErr s=entErr x by
      have h:=Hes.out
      rw [Hse1.out,if_pos hx0] at h
      rw [Hse.out,if_pos (by rw [←h];exact hx0),←h])
     obtain ⟨q,hq⟩:∃q,entErr x=q:=⟨_,rfl⟩
     rw [hq] at hx0 Hn ⊢
     have hn0:(q != 0)=true:=by simpa using hx0
     clear hx0 hq
     go_wp2
     go_ret
     exact ⟨Xac Hn.out.symm,hb4'⟩
   ·have Hse2:=Qh (show sesErr s=if 2000<s.sl.length then 6 else 0 by
     have h:=Hes.out
     rw [List.drop_of_length_le (by omega)] at h
     rw [Hse.out,if_neg]
     rw [←h];simp [entsErr])
    by_cases h2:2000<s.sl.length
    ·have dI:decide ((2000:Int)<(s.sl.length:Int))=true:=Qt (by omega)
     have Hn1:=Qh (show sesErr s=6 by rw [Hse2.out,if_pos h2])
     go_wp2
     go_ret
     exact ⟨Xac Hn1.out.symm,hb⟩
    ·have dI:decide ((2000:Int)<(s.sl.length:Int))=false:=Qf (by omega)
     have Hn1:=Qh (show sesErr s=0 by rw [Hse2.out,if_neg h2])
     go_wp2
     go_ret
     exact ⟨Xac Hn1.out.symm,hb⟩
 ·have d6:((s.prev.length:Int) != 32)=true:=by simpa using (show (s.prev.length:Int)≠32 by omega)
  have d7:((s.prev.length:Int)==32)=false:=by simpa using (show (s.prev.length:Int)≠32 by omega)
  have Hn:=Qh (show sesErr s=1 by rw [hbad]<;>rw [hf,if_pos ⟨h5,h6⟩];decide)
  clear h5 hf h6 hbad hgood
  go_enter Tryz.func206,Tryz.ntmps206
  go_wp2
  go_ret
  exact ⟨Xac Hn.out.symm,(Qb w.heap.size w).alloc (Qn _) _⟩
set_option maxRecDepth 100000 in
set_option maxHeartbeats 400000 in
theorem Xm8 (I:IH) (v:Value) (l:List At) (hv:RdS tAt I v l) (hl:∀x∈l,x.Wf) (w:World) (hw:Ok I w):
 Calls Tryz.prog 34 #[v] w fun e w'=>e= .returned (.int .i64 (greatA l))∧Below w.heap.size w w':=by
 have hlen:=hv.len_le
 obtain ⟨ao,cap,rfl,hcap,hcm,_⟩:=id hv
 have Hv:=Qh hv;clear hv
 have Hl:=Qh hl;clear hl
 by_cases h30:l.length≤30
 ·have hd:decide (30<l.length)=false:=by simp;omega
  go_enter Tryz.func34,Tryz.ntmps34
  go_wp2_with fail
  go_loopw [3] (fun s3 wr=> ∃k:Nat,k≤l.length∧s3= .int .i64 k∧(l.take k).any bigA=false∧Below w.heap.size w wr) (fun i _=>l.length-(intOf i).toNat)
  case atStart=>exact ⟨0,Nat.zero_le _,rfl,rfl,Qb _ _⟩
  case round=>
   obtain ⟨k,hk,rfl,hr,hb⟩:=hrel
   have Hr:=Qh hr;clear hr
   by_cases hlt:k<l.length
   ·have hwr:Ok I wr:=hw.below (Qn _) hb
    obtain ⟨x,b,off,cap',hlx,hvv,hc0,hc1⟩:=atAt Hv.out hwr k hlt
    cases hvv
    have hxm:x∈l:=by rw [←hlx];exact List.getElem_mem hlt
    obtain ⟨hx1,hx2⟩:=Hl.out x hxm
    have Hxm:=Qh hxm
    have Htk:=Qh (show l.take (k+1)=l.take k++ [x] by rw [List.take_succ_eq_append_getElem hlt,hlx])
    clear hlx hxm
    by_cases h1:x.k.length≤100
    ·have hd1:decide (100<x.k.length)=false:=by simp;omega
     by_cases h2:x.v.length≤100
     ·have hd2:decide (100<x.v.length)=false:=by simp;omega
      go_wp2
      go_roundw
      case rel=>exact ⟨k+1,by omega,by go_num,(by rw [Htk.out,List.any_append,Hr.out];simp [bigA];omega),hb⟩
      case measure=>simp [intOf];omega
     ·have hd2:decide (100<x.v.length)=true:=by simp;omega
      go_wp2
      go_ret
      exact ⟨Xac (by rw [greatA,if_neg (by omega),if_pos (List.any_eq_true.2 ⟨x,Hxm.out,by simp [bigA];omega⟩)]),hb⟩
    ·have hd1:decide (100<x.k.length)=true:=by simp;omega
     go_wp2
     go_ret
     exact ⟨Xac (by rw [greatA,if_neg (by omega),if_pos (List.any_eq_true.2 ⟨x,Hxm.out,by simp [bigA];omega⟩)]),hb⟩
   ·go_wp2
    go_ret
    refine ⟨Xac ?_,hb⟩
    have:=Hr.out
    rw [List.take_of_length_le (by omega)] at this
    rw [greatA,if_neg (by omega),if_neg (by rw [this];simp)]
 ·have hd:decide (30<l.length)=true:=by simp;omega
  go_enter Tryz.func34,Tryz.ntmps34
  go_wp2
  go_ret
  exact ⟨Xac (by rw [greatA,if_pos (by omega)]),Qb _ _⟩
set_option maxRecDepth 100000 in
set_option maxHeartbeats 400000 in
theorem Xet (I:IH) (x:Ent) (va vx:Value) (hva:RdS tAt I va x.attrs) (hvx:RdS tXt I vx x.exts) (hwf:x.Wf) (w:World) (hw:Ok I w):
 Calls Tryz.prog 12 #[entV x va vx] w fun e w'=>e= .returned (.int .i64 (grE x))∧Below w.heap.size w w':=by
 obtain ⟨ao,cap,rfl,hcap,hcm,_⟩:=id hvx
 have hlx:=hvx.len_le
 clear hvx
 by_cases h1:300<x.path.length
 case pos=>
  have Hg:=Qh (show grE x=1 by simp [grE,greatE,h1])
  go_enter Tryz.func12,Tryz.ntmps12
  go_wp2
  go_ret
  exact ⟨Xac Hg.out.symm,(Qb _ _).alloc (Qn _) _⟩
 by_cases h2:300<x.target.length
 case pos=>
  have Hg:=Qh (show grE x=1 by simp [grE,greatE,h2])
  go_enter Tryz.func12,Tryz.ntmps12
  go_wp2
  go_ret
  exact ⟨Xac Hg.out.symm,(Qb _ _).alloc (Qn _) _⟩
 by_cases h3:100<x.digest.length
 case pos=>
  have Hg:=Qh (show grE x=1 by simp [grE,greatE,h3])
  go_enter Tryz.func12,Tryz.ntmps12
  go_wp2
  go_ret
  exact ⟨Xac Hg.out.symm,(Qb _ _).alloc (Qn _) _⟩
 by_cases h4:30<x.exts.length
 case pos=>
  have Hg:=Qh (show grE x=1 by simp [grE,greatE,h4])
  go_enter Tryz.func12,Tryz.ntmps12
  go_wp2
  go_ret
  exact ⟨Xac Hg.out.symm,(Qb _ _).alloc (Qn _) _⟩
 have Hg:=Qh (show grE x=if greatA x.attrs=1 then 1 else 0 by simp [grE,greatE,h1,h2,h3,h4])
 have Hgr:=Qh (fun w hw=>Xm8 I va x.attrs hva hwf.attrs w hw)
 clear hva
 rcases Xlq x.attrs with hg|hg
 ·rw [hg] at Hg Hgr
  clear hg
  go_enter Tryz.func12,Tryz.ntmps12
  go_wp2_with fail
  refine (Hgr.out _ (hw.alloc _)).mono ?_
  rintro e w1 ⟨rfl,hb1⟩
  go_wp2
  go_ret
  exact ⟨Xac Hg.out.symm,((Qb _ _).alloc (Qn _) _).trans (hb1.mono (by simp))⟩
 ·rw [hg] at Hg Hgr
  clear hg
  go_enter Tryz.func12,Tryz.ntmps12
  go_wp2_with fail
  refine (Hgr.out _ (hw.alloc _)).mono ?_
  rintro e w1 ⟨rfl,hb1⟩
  go_wp2
  go_ret
  exact ⟨Xac Hg.out.symm,((Qb _ _).alloc (Qn _) _).trans (hb1.mono (by simp))⟩
end Go.Proofs.YtdodihnehppnmaaGreatDoor
