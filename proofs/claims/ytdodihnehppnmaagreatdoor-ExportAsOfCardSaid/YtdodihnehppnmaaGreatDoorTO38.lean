/- Lemmas; conditions: as each says. -/
import Derived.Test.YtdodihnehppnmaaGreatDoorTO23
import Derived.Test.YtdodihnehppnmaaGreatDoorTO18
import Derived.Test.YtdodihnehppnmaaGreatDoorTO27
set_option linter.all false
namespace Go.Proofs.YtdodihnehppnmaaGreatDoor
open Go.RowKit
abbrev smL (b o n cp b2 o2 cp2 k:Nat) (c:Chg) (va vb:Value) (x:Nat × Nat):List (Option Tmp × Value):=
 [(some 20,.slice (some ⟨b,o,none⟩) n cp),(some 21,.int .i64 (k:Int)),(some 22,.pointer (some ⟨b,o+k*5,none⟩)),(some 23,chgV c va),(some 24,.slice (some ⟨b2,o2,none⟩) n cp2),(some 25,.int .i64 (k:Int)),(some 26,.pointer (some ⟨b2,o2+k*5,none⟩)),(some 27,chgV c vb),(some 6,.pointer (some ⟨x.1,0,none⟩)),(some 7,.pointer (some ⟨x.2,0,none⟩)),(none,undef),(none,undef)]
theorem Xhi {s:Ses} (hg:SesG s) (h0:sesErr s=0) (k:Nat):(sesK s k).length≤1700000:=
 Xtp hg (Xdx h0).1 fun e he=>Xf4 (Xdx h0).2.2.2.1 e (List.mem_of_mem_take he)
theorem Xjv (s:Ses):sesK s s.ents.length=sesText s:=Xtq s (Qn _)
set_option maxRecDepth 100000 in
set_option maxHeartbeats 2000000 in
theorem Xga (I:IH) (s:Ses) (ve:Value) (hve:RdS tEnt I ve s.ents) (hg:SesG s) (h0:sesErr s=0) (w:World) (hw:Ok I w):
 Calls Tryz.prog 142 #[sesV s ve] w fun r w'=>r= .returned (S (sesText s))∧Below w.heap.size w w':=by
 obtain ⟨ao,co,rfl,_,_,_⟩:=id hve
 have Hv:=Qh hve
 have Hg:=Qh hg
 have hks:=Xh5 (Xdx h0).1
 have Hok:=Qh (Xf4 (Xdx h0).2.2.2.1)
 have Hkl:=Qh (Xhi hg h0)
 have hn30:=hg.nents
 have hst:=hg.stream
 have hpv:=hg.prev
 have hm1:=Xb5 (n:=s.num) (by omega) (by omega)
 have hm2:=Xb5 (n:=s.date) (by omega) (by omega)
 have hm3:=Xal s.prev (by omega)
 have hm4:=Xbd s.stream.length (by omega)
 have hsm:=Xn9 s.stream
 have hm5:=Xal (sumP s.stream) (by omega)
 have hm6:=Xbd s.ents.length (by omega)
 have H1:=Qh (fun w=>Xfz s.num (by omega) (by omega) w)
 have H2:=Qh (fun w=>Xfz s.date (by omega) (by omega) w)
 have H3:=Qh (fun w=>Xaq s.prev (by omega) w)
 have H4:=Qh (fun w=>Xbl s.stream.length (by omega) w)
 have H5:=Qh (fun w=>Xdz s.stream (by omega) w)
 have H6:=Qh (fun w=>Xaq (sumP s.stream) (by omega) w)
 have H7:=Qh (fun w=>Xbl s.ents.length (by omega) w)
 have Hh:=Qh (show numP s.num++numP s.date++netP s.prev++(numP s.stream.length++netP (sumP s.stream)++numP s.ents.length)=sesK s 0 by
  rw [sesK,List.take_zero];simp [sesHead])
 have Hend:=Qh (Xjv s)
 clear hve hg h0 hks
 generalize numP s.num=p1 at hm1 H1 Hh
 generalize numP s.date=p2 at hm2 H2 Hh
 generalize netP s.prev=p3 at hm3 H3 Hh
 generalize numP (s.stream.length:Int)=p4 at hm4 H4 Hh
 generalize netP (sumP s.stream)=p6 at hm5 H6 Hh
 generalize sumP s.stream=sm at hsm hm5 H5 H6
 generalize numP (s.ents.length:Int)=p7 at hm6 H7 Hh
 have HB0:=Qh (sesB (W:=w) (s:=s) (ve:= .slice ao s.ents.length co) (t:=35) rfl (Qb _ _))
 have hb0:=(Qb w.heap.size w).alloc (Qn _) (.cells #[.int .i64 s.num,.int .i64 s.date,S s.prev,.slice ao s.ents.length co,S s.stream,S s.sl] 35)
 obtain ⟨c0,c1,c2,c3,c4,c5⟩:=HB0.out
 have e0:=cell_regrown c0
 have e1:=cell_regrown c1
 have e2:=cell_regrown c2
 have e3:=cell_regrown c3
 have e4:=cell_regrown c4
 clear c0 c1 c2 c3 c4 c5
 go_enter Tryz.func142,Tryz.ntmps142
 go_wp2_with fail
 refine wp_region_quiet_below (by kernel_rfl) (by kernel_rfl) ?_
 repeat (go_big_quiet_step ((with_reducible first|exact Calls.regrown_of (H1.out _)|exact Calls.regrown_of (H2.out _)|exact Calls.regrown_of (H3.out _)|exact Calls.regrown_of (H4.out _)|exact Calls.regrown_of (H5.out _)|exact Calls.regrown_of (H6.out _)|exact Calls.regrown_of (H7.out _))))
 refine wpQuiet_nil ?_
 intro w1 hwq
 have hb1:Below ((w.alloc (.cells #[.int .i64 s.num,.int .i64 s.date,S s.prev,.slice ao s.ents.length co,S s.stream,S s.sl] 35))).heap.size ((w.alloc (.cells #[.int .i64 s.num,.int .i64 s.date,S s.prev,.slice ao s.ents.length co,S s.stream,S s.sl] 35))) w1:=by
  obtain ⟨pq,rfl⟩:=hwq
  exact below_regrown _ _ _
 clear hwq
 have HB1:=Qh (HB0.out.thru hb1)
 have hb1':=hb0.trans (hb1.mono hb0.size)
 clear e0 e1 e2 e3 e4 hb1 HB0 hb0 H1 H2 H3 H4 H5 H6 H7
 go_wp2_with fail
 go_loopw [3,4] (fun s3 s4 wr=> ∃k:Nat,k≤s.ents.length∧s4= .int .i64 k∧s3=S (sesK s k)∧SesB wr w.heap.size s (.slice ao s.ents.length co)∧Below w.heap.size w wr) (fun _ i _=>s.ents.length-(intOf i).toNat)
 case atStart=>exact ⟨0,Nat.zero_le _,rfl,by rw [←Hh.out];simp,HB1.out,hb1'⟩
 case round=>
  clear HB1 hb1'
  obtain ⟨k,hk,rfl,rfl,hBe,hb⟩:=hrel
  have HBe:=Qh hBe
  have hwr:Ok I wr:=hw.below (Qn _) hb
  have hkl:=Hkl.out k
  clear hBe
  obtain ⟨c0,c1,c2,c3,c4,c5⟩:=HBe.out
  by_cases hlt:k<s.ents.length
  ·obtain ⟨x,vxa,vxx,b,off,cap',hlx,hvv,⟨x0,x1,x2,x3,x4,x5,x6⟩,h1,h2⟩:=Xbu Hv.out hwr k hlt
   cases hvv
   obtain ⟨xa,xc,rfl,_,_,_⟩:=id h1
   obtain ⟨xx,xd,rfl,_,_,_⟩:=id h2
   have hmem:x∈s.ents:=by rw [←hlx];exact List.getElem_mem hlt
   have hx0:=Hok.out x hmem
   have hxe:=Hg.out.exts x hmem
   have Hst:=Qh (Xq1 hlt hlx)
   have Hen:=Qh (fun w hw=>Xkx I x _ _ h1 h2 (Hg.out.wf x hmem) (Xbf hx0) hx0 (by omega) w hw)
   have hel:=Xo9 (Xbf hx0) (show x.exts.length≤1000 by omega)
   clear hlx h1 h2 hmem hx0
   generalize encE x=y at Hst Hen hel
   generalize sesK s k=u at Hst hkl ⊢
   go_wp2_with fail
   refine (Hen.out _ hwr).mono ?_
   rintro r w4 ⟨rfl,hb4⟩
   have HB4:=Qh (HBe.out.thru hb4)
   have hb4':=hb.trans (hb4.mono hb.size)
   clear hb4 HBe c0 c1 c2 c3 c4 c5 x0 x1 x2 x3 x4 x5 x6 Hen
   go_wp2
   go_roundw
   case rel=>exact ⟨k+1,by omega,by go_num,(by rw [Hst.out]),HB4.out,hb4'⟩
   case measure=>simp [intOf];omega
  ·have hke:k=s.ents.length:=by omega
   have Hn:=Qh (show sesK s k=sesText s by rw [hke];exact Hend.out)
   rw [Hn.out]
   go_wp2
   go_ret
   exact ⟨rfl,hb⟩
set_option maxRecDepth 100000 in
set_option maxHeartbeats 1000000 in
theorem Xkt (n:Nat) (hn:n≤1000000000000) (w:World):
 Calls Tryz.prog 207 #[.int .i64 n] w fun r w'=> ∃d:Bytes,d.length=8∧r= .returned (S d)∧Below w.heap.size w w':=by
 go_enter Tryz.func207,Tryz.ntmps207
 go_wp2_with fail
 go_loop [0,3,4] (fun s0 s3 s4=> ∃(i m:Nat) (d:Bytes),i≤8∧m≤1000000000000∧s4= .int .i64 i∧s0= .int .i64 m∧s3=S d∧d.length=i) (fun _ _ i=>8-(intOf i).toNat)
 case atStart=>exact ⟨0,n,[],by omega,hn,rfl,rfl,rfl,rfl⟩
 case round=>
  obtain ⟨i,m,d,hi,hm,rfl,rfl,rfl,hd⟩:=hrel
  have Hd:=Qh hd
  have hd8:d.length≤8:=by omega
  clear hd
  by_cases hlt:i<8
  ·go_wp2
   go_round
   case rel=>exact ⟨i+1,m / 10,_,by omega,by omega,by go_num,by go_num,rfl,by have:=Hd.out;simp;omega⟩
   case measure=>simp [intOf];omega
  ·have hd':d.length=8:=by have:=Hd.out;omega
   have Hd2:=Qh hd'
   clear hd'
   go_wp2
   go_ret
   exact ⟨d,Hd2.out,rfl,Qb _ _⟩
set_option maxRecDepth 100000 in
set_option maxHeartbeats 2000000 in
theorem Xku (I:IH) (s:Ses) (ve:Value) (hve:RdS tEnt I ve s.ents) (hg:SesG s) (w:World) (hw:Ok I w):
 Calls Tryz.prog 141 #[sesV s ve] w fun r w'=> ∃t:Bytes,r= .returned (.tuple #[S t,.int .i64 (sesErr s)])∧Below w.heap.size w w':=by
 have Hck:=Qh (fun w hw=>Xm5 I s ve hve hg w hw)
 have Hsg:=Qh (fun h0 w hw=>Xga I s ve hve hg h0 w hw)
 have Hl:=Qh (fun h0=>by have:=Xhi hg h0 s.ents.length;rw [Xjv] at this;exact this)
 obtain ⟨ao,co,rfl,_,_,_⟩:=id hve
 have hsl:=hg.sl
 clear hve hg
 by_cases h0:sesErr s=0
 ·have Hs:=Qh (Hsg.out h0)
  have hl:=Hl.out h0
  rw [h0] at Hck ⊢
  generalize sesText s=u at Hs hl
  have Hst:=Qh (fun w=>Xaq s.sl (by omega) w)
  have hnl:=Xal s.sl (by omega)
  generalize netP s.sl=q at Hst hnl
  clear Hsg Hl h0
  go_enter Tryz.func141,Tryz.ntmps141
  go_wp2_with fail
  refine (Hck.out _ (hw.alloc _)).mono ?_
  rintro e1 w1 ⟨rfl,hb1⟩
  have HB1:=Qh (sesB (s:=s) rfl hb1)
  have hok1:Ok I w1:=(hw.alloc _).below (Qn _) hb1
  have hb1':=((Qb w.heap.size w).alloc (Qn _) (.cells #[.int .i64 s.num,.int .i64 s.date,S s.prev,.slice ao s.ents.length co,S s.stream,S s.sl] 35)).trans (hb1.mono (by simp))
  clear hb1 Hck
  obtain ⟨c0,c1,c2,c3,c4,c5⟩:=HB1.out
  go_wp2_with fail
  refine (Hs.out _ hok1).mono ?_
  rintro e2 w2 ⟨rfl,hb2⟩
  have HB2:=Qh (HB1.out.thru hb2)
  have hb2':=hb1'.trans (hb2.mono hb1'.size)
  clear hb2 Hs HB1 hb1' c0 c1 c2 c3 c4 c5
  obtain ⟨c0,c1,c2,c3,c4,c5⟩:=HB2.out
  go_wp2_with fail
  refine (Hst.out _).mono ?_
  rintro e3 w3 ⟨rfl,hb3⟩
  have hb3':=hb2'.trans (hb3.mono hb2'.size)
  clear hb3 Hst HB2 hb2' c0 c1 c2 c3 c4 c5
  have Hdg:=Qh (Xkt (u++q).length (by simp;omega) w3)
  simp only [List.length_append] at Hdg
  go_wp2_with fail
  refine Hdg.out.mono ?_
  rintro e4 w4 ⟨d,hd,rfl,hb4⟩
  have hd8:d.length≤8:=by omega
  clear hd
  go_wp2
  go_ret2
  exact ⟨_,rfl,hb3'.trans (hb4.mono hb3'.size)⟩
 ·obtain ⟨q,hq⟩:∃q,sesErr s=q:=⟨_,rfl⟩
  rw [hq] at Hck h0 ⊢
  have hn0:(q != 0)=true:=by simpa using h0
  clear h0 hq Hsg Hl
  go_enter Tryz.func141,Tryz.ntmps141
  go_wp2_with fail
  refine (Hck.out _ (hw.alloc _)).mono ?_
  rintro e1 w1 ⟨rfl,hb1⟩
  have hb1':=((Qb w.heap.size w).alloc (Qn _) (.cells #[.int .i64 s.num,.int .i64 s.date,S s.prev,.slice ao s.ents.length co,S s.stream,S s.sl] 35)).trans (hb1.mono (by simp))
  go_wp2
  go_ret2
  exact ⟨[],rfl,hb1'⟩
set_option maxRecDepth 100000 in
set_option maxHeartbeats 1000000 in
theorem Xgb (I:IH) (s:Ses) (ve:Value) (hve:RdS tEnt I ve s.ents) (hg:SesG s) (w:World) (hw:Ok I w):
 Calls Tryz.prog 93 #[sesV s ve] w fun r w'=>r= .returned (.tuple #[S (dirDig s).1,.int .i64 (dirDig s).2])∧Below w.heap.size w w':=by
 have Hen:=Qh (fun w hw=>Xku I s ve hve hg w hw)
 have Hsg:=Qh (fun h0 w hw=>Xga I s ve hve hg h0 w hw)
 have Hl:=Qh (fun h0=>by have:=Xhi hg h0 s.ents.length;rw [Xjv] at this;exact this)
 obtain ⟨ao,co,rfl,_,_,_⟩:=id hve
 clear hve hg
 by_cases h0:sesErr s=0
 ·have Hn:=Qh (show dirDig s=(sumP (sesText s),0) by rw [dirDig,if_neg (by omega)])
  have Hs:=Qh (Hsg.out h0)
  have hl:=Hl.out h0
  rw [h0] at Hen
  rw [Hn.out]
  generalize sesText s=u at Hs hl ⊢
  have Hdg:=Qh (fun w=>Xdz u (by omega) w)
  clear Hsg Hl h0 Hn
  go_enter Tryz.func93,Tryz.ntmps93
  go_wp2_with fail
  refine (Hen.out _ (hw.alloc _)).mono ?_
  rintro e1 w1 ⟨t,rfl,hb1⟩
  have HB1:=Qh (sesB (s:=s) rfl hb1)
  have hok1:Ok I w1:=(hw.alloc _).below (Qn _) hb1
  have hb1':=((Qb w.heap.size w).alloc (Qn _) (.cells #[.int .i64 s.num,.int .i64 s.date,S s.prev,.slice ao s.ents.length co,S s.stream,S s.sl] 35)).trans (hb1.mono (by simp))
  clear hb1 Hen
  obtain ⟨c0,c1,c2,c3,c4,c5⟩:=HB1.out
  go_wp2_with fail
  refine (Hs.out _ hok1).mono ?_
  rintro e2 w2 ⟨rfl,hb2⟩
  have hb2':=hb1'.trans (hb2.mono hb1'.size)
  go_wp2_with fail
  refine (Hdg.out _).mono ?_
  rintro e3 w3 ⟨rfl,hb3⟩
  go_wp2
  go_ret2
  exact ⟨rfl,hb2'.trans (hb3.mono hb2'.size)⟩
 ·have Hn:=Qh (show dirDig s=([],sesErr s) by rw [dirDig,if_pos h0])
  rw [Hn.out]
  obtain ⟨q,hq⟩:∃q,sesErr s=q:=⟨_,rfl⟩
  rw [hq] at Hen h0 ⊢
  have hn0:(q != 0)=true:=by simpa using h0
  clear h0 hq Hsg Hl Hn
  go_enter Tryz.func93,Tryz.ntmps93
  go_wp2_with fail
  refine (Hen.out _ (hw.alloc _)).mono ?_
  rintro e1 w1 ⟨t,rfl,hb1⟩
  have hb1':=((Qb w.heap.size w).alloc (Qn _) (.cells #[.int .i64 s.num,.int .i64 s.date,S s.prev,.slice ao s.ents.length co,S s.stream,S s.sl] 35)).trans (hb1.mono (by simp))
  go_wp2
  go_ret2
  exact ⟨rfl,hb1'⟩
end Go.Proofs.YtdodihnehppnmaaGreatDoor
