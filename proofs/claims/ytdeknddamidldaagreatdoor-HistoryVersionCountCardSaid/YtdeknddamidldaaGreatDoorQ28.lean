/-
  Walks and laws that the claim's theorem uses: texts SeB, joined; comments out. Conditions: as each theorem says.
-/
import Derived.Test.YtdeknddamidldaaGreatDoorQ25
namespace Go.Proofs.YtdeknddamidldaaGreatDoor
open Go.RowKit
theorem Xqi (b:Nat) (s:Bytes) (hs:s.length≤140737488355328) (w:World) (hc:w.cell? ⟨b,0,none⟩=some (S s)) (hbl:b<w.heap.size):
 Calls Tryz.prog 48 #[.slice (some ⟨b,0,none⟩) 1 1] w fun e w'=>e= .returned (S (sumP s))∧Below w.heap.size w w':=
 Xt5 b 0 1 [s] s (by simp) hs w (fun j x hx=>by match j,hx with|0,hx=>cases hx;exact hc) (by simp) hbl (by simp)
set_option maxRecDepth 100000 in
theorem Xvc (B b:Nat) (l:Bytes) (w:World) (h:Lib.IsBuilder 119 5 B b (Lib.byteCells l) w):
 Calls Tryz.prog 77 #[.pointer (some ⟨b,0,none⟩)] w fun e w'=>e= .returned (.int .i64 l.length)∧Below w.heap.size w w':=by
 have hb:∃p v,w.heap[b]? =some (.cells #[p,v] 119 (0,0))∧w.ownsRow B 5 1 v l.length (Lib.byteCells l):=by
  rcases h with ⟨_,v,h1,h2,_⟩|⟨_,v,h1,h2,_⟩
  ·exact ⟨_,v,h1,by rw [Lib.byteCells,List.length_map] at h2;exact h2⟩
  ·exact ⟨_,v,h1,by rw [Lib.byteCells,List.length_map] at h2;exact h2⟩
 obtain ⟨p,v,h1,h2⟩:=hb
 have hv:∃a c,v= .slice a l.length c:=by
  rcases h2.2 with ⟨h3,h4⟩|⟨g,cap,cur,h3,_⟩
  ·exact ⟨_,_,by rw [h3,h4]⟩
  ·exact ⟨_,_,h3⟩
 obtain ⟨a,c,rfl⟩:=hv
 have hc:w.cell? ⟨b,1,none⟩=some (.slice a l.length c):=by rw [cell_of_row w b 1 _ _ _ h1];rfl
 clear h h1 h2
 go_enter Tryz.func77,Tryz.ntmps77
 go_wp2
 go_ret
 exact ⟨rfl,Qb _ _⟩
set_option maxRecDepth 100000 in
set_option maxHeartbeats 1000000 in
theorem Xma (s:Ses) (ao:Option Addr) (co:Nat) (hf:fldErr s≠0) (w:World):
 Calls Tryz.prog 47 #[sesV s (.slice ao s.ents.length co)] w fun r w'=>r= .returned (.tuple #[S [],.int .i64 (fldErr s)])∧Below w.heap.size w w':=by
 have Hf:=Qh (fun w=>Xmb s ao co w)
 obtain ⟨q,hq⟩:∃q,fldErr s=q:=⟨_,rfl⟩
 rw [hq] at Hf hf ⊢
 have hn0:(q != 0)=true:=by simpa using hf
 clear hq hf
 go_enter Tryz.func47,Tryz.ntmps47
 go_wp2_with fail
 refine (Hf.out _).mono ?_
 rintro e1 w1 ⟨rfl,hb1⟩
 have hb1':=((Qb w.heap.size w).alloc (Qn _) (.cells #[.int .i64 s.num,.int .i64 s.date,S s.prev,.slice ao s.ents.length co,S s.stream,S s.sl] 47)).trans (hb1.mono (by simp))
 go_wp2
 go_ret2
 exact ⟨rfl,hb1'⟩
abbrev sgL (n:Nat) (st p4 sm p6 p7 u:Bytes) (ao:Option Addr) (le co:Nat) (x:Nat × Nat):List (Option Tmp × Value):=
 [(some 37,.pointer (some ⟨n,4,none⟩)),(some 38,S st),(some 39,.int .i64 (st.length:Int)),(some 40,S p4),(some 41,.pointer (some ⟨n,4,none⟩)),(some 42,S st),(some 43,.slice (some ⟨x.1,0,none⟩) 1 1),(some 44,S sm),(some 45,S p6),(some 46,S (p4++p6)),
  (some 47,.pointer (some ⟨n,3,none⟩)),(some 48,.slice ao le co),(some 49,.int .i64 (le:Int)),(some 50,S p7),(some 51,S u),(some 52,.tuple #[.int .i64 (u.length:Int),.nilIface])]
theorem Xag {n:Nat} {st p4 sm p6 p7 u:Bytes} {ao:Option Addr} {le co:Nat} {x:Nat × Nat}:ApartF (sgL n st p4 sm p6 p7 u ao le co x):=by
 unfold ApartF
 simp
set_option maxRecDepth 100000 in
set_option maxHeartbeats 4000000 in
theorem Xsc (I:IH) (hI:Glob I) (s:Ses) (ve:Value) (hve:RdS tEnt I ve s.ents) (hg:SesG s) (hf:fldErr s=0) (w:World) (hw:Ok I w):
 Calls Tryz.prog 47 #[sesV s ve] w fun r w'=>r= .returned (.tuple #[S (if sesErr s=0 then sesText s else []),.int .i64 (sesErr s)])∧Below w.heap.size w w':=by
 obtain ⟨ao,co,rfl,_,_,_⟩:=id hve
 have Hv:=Qh hve
 have Hg:=Qh hg
 have Hf:=Qh (fun w=>Xmb s ao co w)
 rw [hf] at Hf
 have hks:=Xdp hf
 have hn30:=hg.nents
 have hst:=hg.stream
 have hpv:=hg.prev
 have hsl:=hg.sl
 have d1:decide (14680064<s.stream.length)=false:=Qf (by omega)
 have d2:decide (400<s.ents.length)=false:=Qf (by omega)
 have Hse:=Qh (show sesErr s=if entsErr s.ents≠0 then entsErr s.ents else if 2000<s.sl.length then 6 else 0 by
  rw [sesErr,if_neg (by omega),if_neg (by omega)])
 have Hkl:=Qh (fun k hv=>Xjj (k:=k) hg hf hv)
 have hm1:=Xbd (n:=s.num) (by omega) (by omega)
 have hm2:=Xbd (n:=s.date) (by omega) (by omega)
 have hm3:=Xal s.prev (by omega)
 have hm4:=Xbm s.stream.length (by omega)
 have hsm:=Xje s.stream
 have hm5:=Xal (sumP s.stream) (by omega)
 have hm6:=Xbm s.ents.length (by omega)
 have H1:=Qh (fun w hw=>Xfp I hI s.num (by omega) (by omega) w hw)
 have H2:=Qh (fun w hw=>Xfp I hI s.date (by omega) (by omega) w hw)
 have H3:=Qh (fun w hw=>Xca I hI s.prev (by omega) w hw)
 have H4:=Qh (fun w hw=>Xcu I hI s.stream.length (by omega) w hw)
 have H5:=Qh (fun b w hc hb=>Xqi b s.stream (by omega) w hc hb)
 have H6:=Qh (fun w hw=>Xca I hI (sumP s.stream) (by omega) w hw)
 have H7:=Qh (fun w hw=>Xcu I hI s.ents.length (by omega) w hw)
 have Hh:=Qh (show numP s.num++numP s.date++netP s.prev++(numP s.stream.length++netP (sumP s.stream)++numP s.ents.length)=sesK s 0 by
  rw [sesK,List.take_zero];simp [sesHead])
 clear hve hg hf hks
 generalize numP s.num=p1 at hm1 H1 Hh
 generalize numP s.date=p2 at hm2 H2 Hh
 generalize netP s.prev=p3 at hm3 H3 Hh
 generalize numP (s.stream.length:Int)=p4 at hm4 H4 Hh
 generalize netP (sumP s.stream)=p6 at hm5 H6 Hh
 generalize sumP s.stream=sm at hsm hm5 H5 H6
 generalize numP (s.ents.length:Int)=p7 at hm6 H7 Hh
 obtain ⟨T,hT⟩:∃T,(if sesErr s=0 then sesText s else [])=T:=⟨_,rfl⟩
 obtain ⟨E,hE⟩:∃E,sesErr s=E:=⟨_,rfl⟩
 rw [hT,hE]
 have HT:=Qh hT
 have HE:=Qh hE
 clear hT hE
 go_enter Tryz.func47,Tryz.ntmps47
 go_wp2_with fail
 refine (Hf.out _).mono ?_
 rintro e1 w1 ⟨rfl,hb1⟩
 have HB1:=Qh (sesB (s:=s) rfl hb1)
 have hok1:Ok I w1:=(hw.alloc _).below (Qn _) hb1
 have hb1':=((Qb w.heap.size w).alloc (Qn _) (.cells #[.int .i64 s.num,.int .i64 s.date,S s.prev,.slice ao s.ents.length co,S s.stream,S s.sl] 47)).trans (hb1.mono (by simp))
 have hbd1:Lib.IsBuilder 119 5 w1.heap.size w1.heap.size (Lib.byteCells []) (w1.alloc (.cells #[.pointer none,.slice none 0 0] 119)):=Lib.fresh_isBuilder _ _ w1
 have hsz1:w.heap.size<w1.heap.size:=by have:=hb1.size;simp at this;omega
 have hok1f:∀b,w1.heap.size≤b→I b=none:=fun b hb=>hok1.fresh hb
 have HB1a:=Qh (SesB.past HB1.out (.cells #[.pointer none,.slice none 0 0] 119))
 have hok1a:Ok I (w1.alloc (.cells #[.pointer none,.slice none 0 0] 119)):=hok1.alloc _
 obtain ⟨c0,c1,c2,c3,c4,c5⟩:=HB1.out
 go_wp2_with fail
 clear c0 c1 c2 c3 c4 c5
 obtain ⟨c0,c1,c2,c3,c4,c5⟩:=HB1a.out
 have e0:=cell_regrown c0
 have e1:=cell_regrown c1
 have e2:=cell_regrown c2
 clear hb1 Hf c0 c1 c2 c3 c4 c5 HB1
 refine Xae 11 (by kernel_rfl) (by kernel_rfl) ?_
 simp only [List.take_succ_cons,List.take_zero,List.drop_succ_cons,List.drop_zero]
 repeat (go_big_quiet_step ((with_reducible first|exact Calls.regrown_of (H1.out _ (hok1a.below (Qn _) (below_regrown _ _ _)))|exact Calls.regrown_of (H2.out _ (hok1a.below (Qn _) (below_regrown _ _ _)))|exact Calls.regrown_of (H3.out _ (hok1a.below (Qn _) (below_regrown _ _ _))))))
 refine wpQuiet_nil ?_
 intro w2 hwq
 have hb2:Below ((w1.alloc (.cells #[.pointer none,.slice none 0 0] 119))).heap.size ((w1.alloc (.cells #[.pointer none,.slice none 0 0] 119))) w2:=by
  obtain ⟨pq,rfl⟩:=hwq
  exact below_regrown _ _ _
 clear hwq
 have hbd2:=Xap hbd1 hb2
 have hok2:Ok I w2:=hok1a.below (Qn _) hb2
 have HB2:=Qh (HB1a.out.thru hb2)
 have hb2':Below w.heap.size w w2:=(hb1'.alloc (by have:=hb1'.size;omega) (.cells #[.pointer none,.slice none 0 0] 119)).trans (hb2.mono (by simp;omega))
 have hsz2:w1.heap.size≤w2.heap.size:=by have:=hb2.size;simp at this;omega
 clear e0 e1 e2 hb2 HB1a hbd1 hok1 hok1a hb1' H1 H2 H3
 go_wp2_with fail
 refine (Tryz.Builder_WriteString w1.heap.size w1.heap.size _ _ _ hbd2 (by rw [ByteArray.size_mk',List.size_toArray];simp [Lib.byteCells];omega) (by omega)).mono ?_
 rintro e3 w3 ⟨rfl,hbd3,hb3⟩
 have hsz3:=hbd3.lt
 have Hbd3:=Qh (Xck (z:=p1++p2++p3) hbd3 (by simp))
 have hok3:Ok I w3:=hok2.of_block fun b c hb=>hb3.block b (Nat.lt_of_not_le fun h=>by rw [hok1f b h] at hb;cases hb)
 have HB3:=Qh (HB2.out.far hb3 hsz1)
 have hb3':=hb2'.trans (hb3.mono (Nat.le_of_lt hsz1))
 clear hbd2 hbd3 hb3 hb2' hok2 HB2 hsz2
 obtain ⟨c0,c1,c2,c3,c4,c5⟩:=HB3.out
 go_wp2_with fail
 obtain ⟨bl,hbl⟩:∃bl,w1.heap.size=bl:=⟨_,rfl⟩
 obtain ⟨u,hu⟩:∃u,p4++(p6++p7)=u:=⟨_,rfl⟩
 have d46:¬9223372036854775807<p4.length+p6.length:=by omega
 have d51:¬9223372036854775807<p4.length+p6.length+p7.length:=by omega
 have hul:u.length=p4.length+p6.length+p7.length:=by rw [←hu];simp;omega
 rw [List.append_assoc p4,hu] at Hh
 rw [hbl] at Hbd3 hok1f hsz1 hsz3 ⊢
 refine Xcc (X:=Nat × Nat) (sgL w.heap.size s.stream p4 sm p6 p7 u ao s.ents.length co) (QbC w3 15 6 100 [(0,S s.stream)] [] (fun w8=>Lib.IsBuilder 119 5 bl bl (Lib.byteCells (sesK s 0)) w8∧bl<w8.heap.size∧ ∃w7,Below w3.heap.size w3 w7∧Below bl w7 w8)) (by kernel_rfl) (by kernel_rfl) ?_ ?_ ?_
 ·exact ⟨(0,0),QbC.start _ _⟩
 ·rintro x s' a' w' i hsz hcl ha hC hi
  obtain ⟨hun,oi,hoi,hall⟩:=mem_ready.1 hi
  rcases i with _|_|_|_|_|_|_|_|_|_|_|_|_|_|_|_|i
  rotate_left 16
  ·simp at hoi
  all_goals
   have hoj:=hoi
   simp at hoi
   subst hoi
   simp [Region.binds] at hall
  ·have e1:a'.tmps[1]?.getD undef= .pointer (some ⟨w.heap.size,0,none⟩):=Xbv ha (by simp)
   have hl:s'.getD 15 false=false:=Xai hcl [14,9,3,2,1,0] (by kernel_rfl) (by rfl) hun
   refine wpOp_step hoj (fun K' hK=> ?_)
   rw [if_pos (by rfl)]
   unfold Oper.wp
   simp [go_sem,e1,Oper.upon]
   exact hK _ _ ⟨x,Xaf (d:=some 37) (v:=(.pointer (some ⟨w.heap.size,4,none⟩))) Xag ha rfl hun,hC.step hl (Qb _ _) (by decide) (by decide) (by decide)⟩
  ·have e37:a'.tmps[37]?.getD undef= .pointer (some ⟨w.heap.size,4,none⟩):=Xaq (i:=0) Xag ha rfl (by first|simpa using hall|simpa using hall.1) (by simp)
   have c4':=Xaa (hC.bel (Xai hcl [14,9,3,2,1] (by kernel_rfl) (by rfl) hun)) c4
   have hl:s'.getD 15 false=false:=Xai hcl [14,9,3,2,1] (by kernel_rfl) (by rfl) hun
   refine wpOp_step hoj (fun K' hK=> ?_)
   rw [if_pos (by rfl)]
   unfold Oper.wp
   simp [go_sem,e37,c4',Oper.upon]
   exact hK _ _ ⟨x,Xaf (d:=some 38) (v:=(S s.stream)) Xag ha rfl hun,hC.step hl (Qb _ _) (by decide) (by decide) (by decide)⟩
  ·have e38:a'.tmps[38]?.getD undef=S s.stream:=Xaq (i:=1) Xag ha rfl (by first|simpa using hall|simpa using hall.1) (by simp)
   have hl:s'.getD 15 false=false:=Xai hcl [14,9,3,2] (by kernel_rfl) (by rfl) hun
   refine wpOp_step hoj (fun K' hK=> ?_)
   rw [if_pos (by rfl)]
   unfold Oper.wp
   simp [go_sem,e38,Oper.upon]
   exact hK _ _ ⟨x,Xaf (d:=some 39) (v:=(.int .i64 (s.stream.length:Int))) Xag ha rfl hun,hC.step hl (Qb _ _) (by decide) (by decide) (by decide)⟩
  ·have e39:a'.tmps[39]?.getD undef= .int .i64 (s.stream.length:Int):=Xaq (i:=2) Xag ha rfl (by first|simpa using hall|simpa using hall.1) (by simp)
   have hl:s'.getD 15 false=false:=Xai hcl [14,9,3] (by kernel_rfl) (by rfl) hun
   have hokw:=hok3.below (Qn _) (hC.bel hl)
   refine wpOp_step hoj (fun K' hK=> ?_)
   rw [if_pos (by rfl)]
   unfold Oper.wp
   simp [go_sem,e39,Oper.upon]
   refine (H4.out w' hokw).mono ?_
   rintro r4 w4 ⟨rfl,hb4⟩
   exact hK _ _ ⟨x,Xaf (d:=some 40) (v:=(S p4)) Xag ha rfl hun,hC.step hl hb4 (by decide) (by decide) (by decide)⟩
  ·have e1:a'.tmps[1]?.getD undef= .pointer (some ⟨w.heap.size,0,none⟩):=Xbv ha (by simp)
   have hl:s'.getD 15 false=false:=Xai hcl [14,9,8,7,6,5,4] (by kernel_rfl) (by rfl) hun
   refine wpOp_step hoj (fun K' hK=> ?_)
   rw [if_pos (by rfl)]
   unfold Oper.wp
   simp [go_sem,e1,Oper.upon]
   exact hK _ _ ⟨x,Xaf (d:=some 41) (v:=(.pointer (some ⟨w.heap.size,4,none⟩))) Xag ha rfl hun,hC.step hl (Qb _ _) (by decide) (by decide) (by decide)⟩
  ·have e41:a'.tmps[41]?.getD undef= .pointer (some ⟨w.heap.size,4,none⟩):=Xaq (i:=4) Xag ha rfl (by first|simpa using hall|simpa using hall.1) (by simp)
   have c4':=Xaa (hC.bel (Xai hcl [14,9,8,7,6,5] (by kernel_rfl) (by rfl) hun)) c4
   have hl:s'.getD 15 false=false:=Xai hcl [14,9,8,7,6,5] (by kernel_rfl) (by rfl) hun
   refine wpOp_step hoj (fun K' hK=> ?_)
   rw [if_pos (by rfl)]
   unfold Oper.wp
   simp [go_sem,e41,c4',Oper.upon]
   exact hK _ _ ⟨x,Xaf (d:=some 42) (v:=(S s.stream)) Xag ha rfl hun,hC.step hl (Qb _ _) (by decide) (by decide) (by decide)⟩
  ·have e42:a'.tmps[42]?.getD undef=S s.stream:=Xaq (i:=5) Xag ha rfl (by first|simpa using hall|simpa using hall.1) (by simp)
   have hl:s'.getD 15 false=false:=Xai hcl [14,9,8,7,6] (by kernel_rfl) (by rfl) hun
   have ha:=ha.trans (Xh1 (L:=sgL w.heap.size s.stream p4 sm p6 p7 u ao s.ents.length co x) (M:=sgL w.heap.size s.stream p4 sm p6 p7 u ao s.ents.length co (w'.heap.size,x.2)) 6 rfl (fun j hne=>by
    rcases j with _|_|_|_|_|_|_|j<;>first|rfl|(exact absurd rfl hne)|simp) hun)
   refine wpOp_step hoj (fun K' hK=> ?_)
   rw [if_pos (by rfl)]
   unfold Oper.wp
   simp [go_sem,e42,Oper.upon]
   refine hK _ _ ⟨(w'.heap.size,x.2),Xaf (d:=some 43) (v:= .slice (some ⟨w'.heap.size,0,none⟩) 1 1) Xag ha rfl hun,hC.at1 hl ((Qb _ _).alloc (Qn _) _) (by decide) (by decide) (fun p hp=> ?_)⟩
   simp at hp
   subst hp
   simp
  ·have e43:a'.tmps[43]?.getD undef= .slice (some ⟨x.1,0,none⟩) 1 1:=Xaq (i:=6) Xag ha rfl (by first|simpa using hall|simpa using hall.1) (by simp)
   have hcx:=hC.f1 (by first|simpa using hall|simpa using hall.1) (Xai hcl [14,9,8,7] (by kernel_rfl) (by rfl) hun) _ (List.mem_singleton.2 rfl)
   have hl:s'.getD 15 false=false:=Xai hcl [14,9,8,7] (by kernel_rfl) (by rfl) hun
   have hokw:=hok3.below (Qn _) (hC.bel hl)
   refine wpOp_step hoj (fun K' hK=> ?_)
   rw [if_pos (by rfl)]
   unfold Oper.wp
   simp [go_sem,e43,Oper.upon]
   refine (H5.out x.1 w' hcx (block_lt_of_cell hcx)).mono ?_
   rintro r4 w4 ⟨rfl,hb4⟩
   exact hK _ _ ⟨x,Xaf (d:=some 44) (v:=(S sm)) Xag ha rfl hun,hC.step hl hb4 (by decide) (by decide) (by decide)⟩
  ·have e44:a'.tmps[44]?.getD undef=S sm:=Xaq (i:=7) Xag ha rfl (by first|simpa using hall|simpa using hall.1) (by simp)
   have hl:s'.getD 15 false=false:=Xai hcl [14,9,8] (by kernel_rfl) (by rfl) hun
   have hokw:=hok3.below (Qn _) (hC.bel hl)
   refine wpOp_step hoj (fun K' hK=> ?_)
   rw [if_pos (by rfl)]
   unfold Oper.wp
   simp [go_sem,e44,Oper.upon]
   refine (H6.out w' hokw).mono ?_
   rintro r4 w4 ⟨rfl,hb4⟩
   exact hK _ _ ⟨x,Xaf (d:=some 45) (v:=(S p6)) Xag ha rfl hun,hC.step hl hb4 (by decide) (by decide) (by decide)⟩
  ·have e40:a'.tmps[40]?.getD undef=S p4:=Xaq (i:=3) Xag ha rfl (by simpa using hall.1) (by simp)
   have e45:a'.tmps[45]?.getD undef=S p6:=Xaq (i:=8) Xag ha rfl (by first|simpa using hall.2|simpa using hall.2.1) (by simp)
   have hl:s'.getD 15 false=false:=Xai hcl [14,9] (by kernel_rfl) (by rfl) hun
   refine wpOp_step hoj (fun K' hK=> ?_)
   rw [if_pos (by rfl)]
   unfold Oper.wp
   simp [go_sem,e40,e45,d46,Oper.upon]
   exact hK _ _ ⟨x,Xaf (d:=some 46) (v:=(S (p4++p6))) Xag ha rfl hun,hC.step hl (Qb _ _) (by decide) (by decide) (by decide)⟩
  ·have e1:a'.tmps[1]?.getD undef= .pointer (some ⟨w.heap.size,0,none⟩):=Xbv ha (by simp)
   have hl:s'.getD 15 false=false:=Xai hcl [14,13,12,11,10] (by kernel_rfl) (by rfl) hun
   refine wpOp_step hoj (fun K' hK=> ?_)
   rw [if_pos (by rfl)]
   unfold Oper.wp
   simp [go_sem,e1,Oper.upon]
   exact hK _ _ ⟨x,Xaf (d:=some 47) (v:=(.pointer (some ⟨w.heap.size,3,none⟩))) Xag ha rfl hun,hC.step hl (Qb _ _) (by decide) (by decide) (by decide)⟩
  ·have e47:a'.tmps[47]?.getD undef= .pointer (some ⟨w.heap.size,3,none⟩):=Xaq (i:=10) Xag ha rfl (by first|simpa using hall|simpa using hall.1) (by simp)
   have c3':=Xaa (hC.bel (Xai hcl [14,13,12,11] (by kernel_rfl) (by rfl) hun)) c3
   have hl:s'.getD 15 false=false:=Xai hcl [14,13,12,11] (by kernel_rfl) (by rfl) hun
   refine wpOp_step hoj (fun K' hK=> ?_)
   rw [if_pos (by rfl)]
   unfold Oper.wp
   simp [go_sem,e47,c3',Oper.upon]
   exact hK _ _ ⟨x,Xaf (d:=some 48) (v:=(.slice ao s.ents.length co)) Xag ha rfl hun,hC.step hl (Qb _ _) (by decide) (by decide) (by decide)⟩
  ·have e48:a'.tmps[48]?.getD undef= .slice ao s.ents.length co:=Xaq (i:=11) Xag ha rfl (by first|simpa using hall|simpa using hall.1) (by simp)
   have hl:s'.getD 15 false=false:=Xai hcl [14,13,12] (by kernel_rfl) (by rfl) hun
   refine wpOp_step hoj (fun K' hK=> ?_)
   rw [if_pos (by rfl)]
   unfold Oper.wp
   simp [go_sem,e48,Oper.upon]
   exact hK _ _ ⟨x,Xaf (d:=some 49) (v:=(.int .i64 (s.ents.length:Int))) Xag ha rfl hun,hC.step hl (Qb _ _) (by decide) (by decide) (by decide)⟩
  ·have e49:a'.tmps[49]?.getD undef= .int .i64 (s.ents.length:Int):=Xaq (i:=12) Xag ha rfl (by first|simpa using hall|simpa using hall.1) (by simp)
   have hl:s'.getD 15 false=false:=Xai hcl [14,13] (by kernel_rfl) (by rfl) hun
   have hokw:=hok3.below (Qn _) (hC.bel hl)
   refine wpOp_step hoj (fun K' hK=> ?_)
   rw [if_pos (by rfl)]
   unfold Oper.wp
   simp [go_sem,e49,Oper.upon]
   refine (H7.out w' hokw).mono ?_
   rintro r4 w4 ⟨rfl,hb4⟩
   exact hK _ _ ⟨x,Xaf (d:=some 50) (v:=(S p7)) Xag ha rfl hun,hC.step hl hb4 (by decide) (by decide) (by decide)⟩
  ·have e46:a'.tmps[46]?.getD undef=S (p4++p6):=Xaq (i:=9) Xag ha rfl (by simpa using hall.1) (by simp)
   have e50:a'.tmps[50]?.getD undef=S p7:=Xaq (i:=13) Xag ha rfl (by first|simpa using hall.2|simpa using hall.2.1) (by simp)
   have hl:s'.getD 15 false=false:=Xai hcl [14] (by kernel_rfl) (by rfl) hun
   refine wpOp_step hoj (fun K' hK=> ?_)
   rw [if_pos (by rfl)]
   unfold Oper.wp
   simp [go_sem,e46,e50,d51,hu,Oper.upon]
   exact hK _ _ ⟨x,Xaf (d:=some 51) (v:=(S u)) Xag ha rfl hun,hC.step hl (Qb _ _) (by decide) (by decide) (by decide)⟩
  ·have e51:a'.tmps[51]?.getD undef=S u:=Xaq (i:=14) Xag ha rfl (by first|simpa using hall|simpa using hall.1) (by simp)
   have e5:a'.tmps[5]?.getD undef= .pointer (some ⟨bl,0,none⟩):=Xbv ha (by simp)
   have hl:s'.getD 15 false=false:=Xas hun
   have hbx:=hC.bel hl
   refine wpOp_step hoj (fun K' hK=> ?_)
   rw [if_pos (by rfl)]
   unfold Oper.wp
   simp [go_sem,e51,e5,Oper.upon]
   refine (Tryz.Builder_WriteString bl bl _ _ _ (Xap Hbd3.out hbx) (by rw [ByteArray.size_mk',List.size_toArray];simp [Lib.byteCells];omega) (by have:=hbx.size;omega)).mono ?_
   rintro r8 w8 ⟨rfl,hbd8,hb8⟩
   refine hK _ _ ⟨x,Xaf (d:=some 52) (v:= .tuple #[.int .i64 (u.length:Int),.nilIface]) Xag ha rfl hun,QbC.end' hun ⟨Xck (z:=sesK s 0) hbd8 Hh.out,hbd8.lt,w',hbx,hb8⟩⟩
 ·rintro x s' a' w8 hup ha hC
  obtain ⟨hbd8,hsz8,w7,hbA,hb8⟩:=hC.fin (hup 15 (by decide))
  rw [Xb8 _ _ _ _ (fun i hi=>by rw [Nat.zero_add];exact hup i (by simpa using hi))] at ha
  subst ha
  simp only [fillAll,Act.put]
  subst hbl
  have Hbd8:=Qh hbd8
  have hok8:Ok I w8:=(hok3.below (Qn _) hbA).of_block fun b c hb=>hb8.block b (Nat.lt_of_not_le fun h=>by rw [hok1f b h] at hb;cases hb)
  have HB8:=Qh ((HB3.out.thru hbA).far hb8 hsz1)
  have hb8':=(hb3'.trans (hbA.mono hb3'.size)).trans (hb8.mono (Nat.le_of_lt hsz1))
  clear hC hup hbd8 hb8 hbA d46 d51 hul hu hok3 HB3 hb3' Hbd3 c0 c1 c2 c3 c4 c5 H4 H5 H6 H7 hsz3
  obtain ⟨c0,c1,c2,c3,c4,c5⟩:=HB8.out
  go_wp2_with fail
  clear c0 c1 c2 c3 c4 c5
  go_loopw [56] (fun s56 wr=> ∃k:Nat,k≤s.ents.length∧s56= .int .i64 k∧entsErr (s.ents.drop k)=entsErr s.ents∧(∀e∈s.ents.take k,entErr e=0)∧Lib.IsBuilder 119 5 w1.heap.size w1.heap.size (Lib.byteCells (sesK s k)) wr∧Ok I wr∧SesB wr w.heap.size s (.slice ao s.ents.length co)∧Below w.heap.size w wr∧w1.heap.size<wr.heap.size) (fun i _=>s.ents.length-(intOf i).toNat)
  case atStart=>exact ⟨0,Nat.zero_le _,rfl,rfl,fun e he=>by simp at he,Hbd8.out,hok8,HB8.out,hb8',hsz8⟩
  case round=>
   clear Hbd8 HB8 hb8' hok8 hsz8
   obtain ⟨k,hk,rfl,hes,hval,hbd,hwr,hBe,hb,hsz⟩:=hrel
   have Hbd:=Qh hbd
   have HBe:=Qh hBe
   have Hes:=Qh hes
   have Hval:=Qh hval
   have hkl:=Hkl.out k hval
   clear hbd hBe hes hval
   by_cases hlt:k<s.ents.length
   ·obtain ⟨x,vxa,vxx,b,off,cap',hlx,hvv,⟨x0,x1,x2,x3,x4,x5,x6⟩,h1,h2⟩:=Xbt Hv.out hwr k hlt
    cases hvv
    obtain ⟨xa,xc,rfl,_,_,_⟩:=id h1
    obtain ⟨xx,xd,rfl,_,_,_⟩:=id h2
    have hmem:x∈s.ents:=by rw [←hlx];exact List.getElem_mem hlt
    have hxw:=Hg.out.wf x hmem
    have hxp:=Hg.out.path x hmem
    have hxt:=Hg.out.target x hmem
    have hxe:=Hg.out.exts x hmem
    have Hse1:=Qh (Xdr hlt hlx)
    have Hst:=Qh (Xkq hlt hlx)
    have hba:Ok I (wr.alloc (.cells #[.int .i64 x.kind,S x.path,.slice xa x.attrs.length xc,S x.target,.int .i64 x.size,S x.digest,.slice xx x.exts.length xd] 39)):=hwr.alloc _
    by_cases hx0:entErr x=0
    ·have Hval2:=Qh (show ∀e∈s.ents.take (k+1),entErr e=0 from fun e he=>by
      rw [List.take_succ_eq_append_getElem hlt,hlx,List.mem_append,List.mem_singleton] at he
      rcases he with he|rfl
      ·exact Hval.out e he
      ·exact hx0)
     have Hes2:=Qh (show entsErr (s.ents.drop (k+1))=entsErr s.ents by rw [←Hes.out,Hse1.out,if_neg (by omega)])
     have Hen:=Qh (fun w hw=>Xr5 I hI x _ _ h1 h2 hxw (by omega) (by omega) (Xd5 hx0) hx0 (by omega) w hw)
     have hel:=Xj8 (Xd5 hx0) (show x.exts.length≤1000 by omega)
     clear hlx h1 h2 hmem hx0 hxw
     generalize encE x=y at Hst Hen hel
     generalize sesK s k=u at Hst Hbd hkl
     go_wp2_with fail
     refine (Hen.out _ hba).mono ?_
     rintro e1 w4 ⟨rfl,hb4⟩
     have hbA:Below wr.heap.size wr w4:=((Qb _ _).alloc (Qn _) (.cells #[.int .i64 x.kind,S x.path,.slice xa x.attrs.length xc,S x.target,.int .i64 x.size,S x.digest,.slice xx x.exts.length xd] 39)).trans (hb4.mono (by simp))
     have hbd4:=Xap Hbd.out hbA
     have hok4:Ok I w4:=hwr.below (Qn _) hbA
     have HB4:=Qh (HBe.out.thru hbA)
     have hsz4:=hbA.size
     have hb4':=hb.trans (hbA.mono hb.size)
     clear hb4 hbA Hbd HBe x0 x1 x2 x3 x4 x5 x6 Hen hba
     go_wp2_with fail
     refine (Tryz.Builder_WriteString w1.heap.size w1.heap.size _ _ _ hbd4 (by rw [ByteArray.size_mk',List.size_toArray];simp [Lib.byteCells];omega) (by omega)).mono ?_
     rintro e5 w5 ⟨rfl,hbd5,hb5⟩
     have hsz5:=hbd5.lt
     have Hbd5:=Qh (Xck (z:=sesK s (k+1)) hbd5 Hst.out.symm)
     have hok5:Ok I w5:=hok4.of_block fun b c hb=>hb5.block b (Nat.lt_of_not_le fun h=>by rw [hok1f b h] at hb;cases hb)
     have HB5:=Qh (HB4.out.far hb5 hsz1)
     have hb5':=hb4'.trans (hb5.mono (Nat.le_of_lt hsz1))
     clear hbd4 hbd5 hb5 hb4' hok4 HB4
     go_wp2
     go_roundw
     case rel=>exact ⟨k+1,by omega,by go_num,Hes2.out,Hval2.out,Hbd5.out,hok5,HB5.out,hb5',hsz5⟩
     case measure=>simp [intOf];omega
    ·have Hen:=Qh (fun w hw=>Xl0 I hI x _ _ h1 h2 hxw (by omega) (by omega) hx0 w hw)
     have Hn:=Qh (show sesErr s=entErr x by
      have h:=Hes.out
      rw [Hse1.out,if_pos hx0] at h
      rw [Hse.out,if_pos (by rw [←h];exact hx0),←h])
     have Hn2:=Qh (show (if sesErr s=0 then sesText s else [])= [] by rw [Hn.out,if_neg hx0])
     obtain ⟨q,hq⟩:∃q,entErr x=q:=⟨_,rfl⟩
     rw [hq] at Hen hx0 Hn
     have hn0:(q != 0)=true:=by simpa using hx0
     clear hlx h1 h2 hmem hx0 hxw hq
     go_wp2_with fail
     refine (Hen.out _ hba).mono ?_
     rintro e1 w4 ⟨rfl,hb4⟩
     have hb4':=(hb.alloc hb.size (.cells #[.int .i64 x.kind,S x.path,.slice xa x.attrs.length xc,S x.target,.int .i64 x.size,S x.digest,.slice xx x.exts.length xd] 39)).trans (hb4.mono (by have:=hb.size;simp;omega))
     go_wp2
     go_ret2
     rw [show T= [] by rw [←HT.out,Hn2.out],show E=q by rw [←HE.out,Hn.out]]
     exact ⟨rfl,hb4'⟩
   ·have hke:k=s.ents.length:=by omega
    have Hn:=Qh (Xjk s (k:=k) (by omega))
    have Hse2:=Qh (show sesErr s=if 2000<s.sl.length then 6 else 0 by
     have h:=Hes.out
     rw [List.drop_of_length_le (by omega)] at h
     rw [Hse.out,if_neg]
     rw [←h];simp [entsErr])
    rw [Hn.out] at Hbd hkl
    obtain ⟨c0,c1,c2,c3,c4,c5⟩:=HBe.out
    by_cases h2:2000<s.sl.length
    ·have dI:decide ((2000:Int)<(s.sl.length:Int))=true:=Qt (by omega)
     have Hn1:=Qh (show sesErr s=6 by rw [Hse2.out,if_pos h2])
     clear hke
     go_wp2
     go_ret2
     rw [show T= [] by rw [←HT.out,Hn1.out];rfl,show E=6 by rw [←HE.out,Hn1.out]]
     exact ⟨rfl,hb⟩
    ·have dI:decide ((2000:Int)<(s.sl.length:Int))=false:=Qf (by omega)
     have Hn1:=Qh (show sesErr s=0 by rw [Hse2.out,if_neg h2])
     clear hke
     obtain ⟨u,hu⟩:∃u,sesText s=u:=⟨_,rfl⟩
     rw [hu] at Hbd hkl
     have Hu:=Qh hu
     clear hu
     have d3:decide (90000000<u.length)=false:=Qf (by omega)
     go_wp2_with fail
     refine (Xvc _ _ _ _ Hbd.out).mono ?_
     rintro e1 w4 ⟨rfl,hb4⟩
     have hbd4:=Xap Hbd.out hb4
     have hb4':=hb.trans (hb4.mono hb.size)
     have hsz4:=hb4.size
     clear hb4 Hbd c0 c1 c2 c3 c4 c5 HBe
     go_wp2_with fail
     refine (Tryz.Builder_String_any w1.heap.size w1.heap.size _ _ hbd4 (by omega)).mono ?_
     rintro e3 w5 ⟨rfl,hb5⟩
     go_wp2
     go_ret2
     rw [show T=u by rw [←HT.out,Hn1.out,Hu.out];rfl,show E=0 by rw [←HE.out,Hn1.out]]
     exact ⟨rfl,hb4'.trans (hb5.mono (Nat.le_of_lt hsz1))⟩
set_option maxRecDepth 100000 in
set_option maxHeartbeats 1000000 in
theorem Xds (I:IH) (hI:Glob I) (s:Ses) (ve:Value) (hve:RdS tEnt I ve s.ents) (hg:SesG s) (w:World) (hw:Ok I w):
 Calls Tryz.prog 24 #[sesV s ve] w fun r w'=>r= .returned (.tuple #[S (dirDig s).1,.int .i64 (dirDig s).2])∧Below w.heap.size w w':=by
 obtain ⟨ao,co,rfl,_,_,_⟩:=id hve
 have Hs:Hid (∀w,Ok I w→Calls Tryz.prog 47 #[sesV s (.slice ao s.ents.length co)] w fun r w'=>r= .returned (.tuple #[S (if sesErr s=0 then sesText s else []),.int .i64 (sesErr s)])∧Below w.heap.size w w'):=Qh (by
  intro w hw
  by_cases hf:fldErr s=0
  ·exact Xsc I hI s _ hve hg hf w hw
  ·have h1:sesErr s=fldErr s:=by rw [sesErr,if_pos hf]
   rw [h1,if_neg hf]
   exact Xma s ao co hf w)
 have Hl:=Qh (show sesErr s=0→(sesText s).length≤1700000 from fun h=>by
  have h1:=Xce h
  rw [←Xjk s (Qn _)]
  exact Xjj hg h1.1 fun e he=>Xd4 h1.2.2.2.1 e (List.mem_of_mem_take he))
 clear hve
 by_cases h0:sesErr s=0
 ·have Hn:=Qh (show dirDig s=(sumP (sesText s),0) by rw [dirDig,if_neg (by omega)])
  have hl:=Hl.out h0
  rw [h0,if_pos rfl] at Hs
  rw [Hn.out]
  generalize sesText s=u at Hs hl ⊢
  clear h0
  go_enter Tryz.func24,Tryz.ntmps24
  go_wp2_with fail
  refine (Hs.out _ (hw.alloc _)).mono ?_
  rintro e1 w1 ⟨rfl,hb1⟩
  have hb1':=((Qb w.heap.size w).alloc (Qn _) (.cells #[.int .i64 s.num,.int .i64 s.date,S s.prev,.slice ao s.ents.length co,S s.stream,S s.sl] 47)).trans (hb1.mono (by simp))
  have H5:=Qh (Xqi w1.heap.size u (by omega) (w1.alloc (.cells #[S u] 9)) (by simp) (by simp))
  go_wp2_with fail
  refine H5.out.mono ?_
  rintro e2 w2 ⟨rfl,hb2⟩
  go_wp2
  go_ret2
  exact ⟨rfl,(hb1'.alloc hb1'.size _).trans (hb2.mono (by have:=hb1'.size;simp;omega))⟩
 ·have Hn:=Qh (show dirDig s=([],sesErr s) by rw [dirDig,if_pos h0])
  rw [if_neg h0] at Hs
  rw [Hn.out]
  obtain ⟨q,hq⟩:∃q,sesErr s=q:=⟨_,rfl⟩
  rw [hq] at Hs h0 ⊢
  have hn0:(q != 0)=true:=by simpa using h0
  clear h0 hq
  go_enter Tryz.func24,Tryz.ntmps24
  go_wp2_with fail
  refine (Hs.out _ (hw.alloc _)).mono ?_
  rintro e1 w1 ⟨rfl,hb1⟩
  have hb1':=((Qb w.heap.size w).alloc (Qn _) (.cells #[.int .i64 s.num,.int .i64 s.date,S s.prev,.slice ao s.ents.length co,S s.stream,S s.sl] 47)).trans (hb1.mono (by simp))
  go_wp2
  go_ret2
  exact ⟨rfl,hb1'⟩
end Go.Proofs.YtdeknddamidldaaGreatDoor
