/-
  Walks and laws that the claim's theorem uses: texts LhD, joined; comments out. Conditions: as each theorem says.
-/
import Derived.Test.YtdeknddamidldaaGreatDoorQ37
namespace Go.Proofs.YtdeknddamidldaaGreatDoor
open Go.RowKit
theorem Xle {I:IH} {xs cs:List Value} {l:List Ses} (h:LiesL tSes I xs l) {i:Nat} (hi:i<l.length) {x:Ses} (hx:tSes.rd I cs x):LiesL tSes I (xs.take (i*6)++cs++xs.drop (i*6+6)) (l.set i x):=by
 have h1:=((h.take i).append (LiesL.one hx)).append (h.drop (i+1))
 have hs:tSes.size=6:=rfl
 rw [hs,show (i+1)*6=i*6+6 by omega] at h1
 have e:l.set i x=l.take i++ [x]++l.drop (i+1):=by
  rw [List.set_eq_take_append_cons_drop,if_pos hi]
  simp
 rw [e]
 exact h1
theorem Xta {m n K:Nat} (h:m%n=K):((m:Int)%(n:Int))=(K:Int):=by rw [←h];simp
theorem SesB.far2 {w w':World} {b:Nat} {s:Ses} {ve:Value} (h:SesB w b s ve) (hb:Below w.heap.size w w'):SesB w' b s ve:=h.thru hb
set_option maxRecDepth 100000 in
set_option maxHeartbeats 4000000 in
theorem Xeb (I:IH) (hI:Glob I) (v:Value) (l:List Ses) (hv:RdS tSes I v l) (hwf:∀x∈l,x.Wf) (m:Nat) (hm:m≤255) (x:Ses) (ve:Value) (hve:RdS tEnt I ve x.ents) (hxw:x.Wf) (w:World) (hw:Ok I w):
 Calls Tryz.prog 6 #[v,.int .u8 m,sesV x ve] w fun r w'=>r= .returned (.bool true)∧Below w.heap.size w w':=by
 have Hal:=Qh (fun w hw=>Xbx I hI w hw)
 have Hri:=Qh (fun w hw=>Xc2 I v l hv hwf w hw)
 have Hgx:=Qh (fun w hw=>Xhe I x ve hve hxw.ents w hw)
 have Hle:=hve.len_le
 have Hve:=Qh hve
 obtain ⟨oe,ce,rfl,_,_,_⟩:=id hve
 have bel0:Below w.heap.size w (w.alloc (.cells #[.int .i64 x.num,.int .i64 x.date,S x.prev,.slice oe x.ents.length ce,S x.stream,S x.sl] 47)):=(Qb _ _).alloc (Qn _) _
 have A0:=Qh (MAt.start (hw.alloc (.cells #[.int .i64 x.num,.int .i64 x.date,S x.prev,.slice oe x.ents.length ce,S x.stream,S x.sl] 47)))
 have HB0:=Qh (sesB (W:=w) (s:=x) (ve:= .slice oe x.ents.length ce) (t:=47) rfl (Qb _ _))
 have fin:∀W,Below (w.alloc (.cells #[.int .i64 x.num,.int .i64 x.date,S x.prev,.slice oe x.ents.length ce,S x.stream,S x.sl] 47)).heap.size (w.alloc (.cells #[.int .i64 x.num,.int .i64 x.date,S x.prev,.slice oe x.ents.length ce,S x.stream,S x.sl] 47)) W→Below w.heap.size w W:=fun W h=>bel0.trans (h.mono (by simp))
 clear hve
 cases hg:right41 l
 case false=>
  have e1:right41I l=0:=by rw [right41I,hg];rfl
  rw [e1] at Hri
  obtain ⟨ao,cap,rfl,_,_,_⟩:=id hv
  clear e1 hg hv
  go_enter Tryz.func6,Tryz.ntmps6
  go_wp2_with fail
  refine (Hal.out _ A0.out.ok).mono ?_
  rintro e1 w1 ⟨rfl,hb1⟩
  have A1:=Qh (A0.out.quiet hb1)
  clear hb1 A0
  go_wp2_with fail
  refine (Hri.out _ A1.out.ok).mono ?_
  rintro e2 w2 ⟨rfl,hb2⟩
  have A2:=Qh (A1.out.quiet hb2)
  clear hb2 A1
  have HB2:=Qh (HB0.out.far2 A2.out.bel)
  obtain ⟨c0,c1,c2,c3,c4,c5⟩:=HB2.out
  go_wp2
  go_ret
  exact ⟨rfl,fin _ A2.out.bel⟩
 have e1:right41I l=1:=by rw [right41I,hg];rfl
 obtain ⟨⟨hl8,hses,_⟩,hck⟩:=Xdx hwf hg
 rw [e1] at Hri
 by_cases h2:l.length<2
 ·have d2:decide ((l.length:Int)<2)=true:=Qt (by omega)
  obtain ⟨ao,cap,rfl,_,_,_⟩:=id hv
  clear e1 hg hv hck h2
  go_enter Tryz.func6,Tryz.ntmps6
  go_wp2_with fail
  refine (Hal.out _ A0.out.ok).mono ?_
  rintro e1 w1 ⟨rfl,hb1⟩
  have A1:=Qh (A0.out.quiet hb1)
  clear hb1 A0
  go_wp2_with fail
  refine (Hri.out _ A1.out.ok).mono ?_
  rintro e2 w2 ⟨rfl,hb2⟩
  have A2:=Qh (A1.out.quiet hb2)
  clear hb2 A1
  have HB2:=Qh (HB0.out.far2 A2.out.bel)
  obtain ⟨c0,c1,c2,c3,c4,c5⟩:=HB2.out
  go_wp2
  go_ret
  exact ⟨rfl,fin _ A2.out.bel⟩
 have d2:decide ((l.length:Int)<2)=false:=Qf (by omega)
 by_cases h30:30<x.ents.length
 ·have d3:decide ((30:Int)<(x.ents.length:Int))=true:=Qt (by omega)
  obtain ⟨ao,cap,rfl,_,_,_⟩:=id hv
  clear e1 hg hv hck h2 h30
  go_enter Tryz.func6,Tryz.ntmps6
  go_wp2_with fail
  refine (Hal.out _ A0.out.ok).mono ?_
  rintro e1 w1 ⟨rfl,hb1⟩
  have A1:=Qh (A0.out.quiet hb1)
  clear hb1 A0
  go_wp2_with fail
  refine (Hri.out _ A1.out.ok).mono ?_
  rintro e2 w2 ⟨rfl,hb2⟩
  have A2:=Qh (A1.out.quiet hb2)
  clear hb2 A1
  have HB2:=Qh (HB0.out.far2 A2.out.bel)
  obtain ⟨c0,c1,c2,c3,c4,c5⟩:=HB2.out
  go_wp2
  go_ret
  exact ⟨rfl,fin _ A2.out.bel⟩
 have d3:decide ((30:Int)<(x.ents.length:Int))=false:=Qf (by omega)
 cases hgr:gr40 x
 case true=>
  have e2:gr40I x=1:=by rw [gr40I,hgr];rfl
  rw [e2] at Hgx
  obtain ⟨ao,cap,rfl,_,_,_⟩:=id hv
  clear e1 hg hv hck h2 h30 hgr e2
  go_enter Tryz.func6,Tryz.ntmps6
  go_wp2_with fail
  refine (Hal.out _ A0.out.ok).mono ?_
  rintro e1 w1 ⟨rfl,hb1⟩
  have A1:=Qh (A0.out.quiet hb1)
  clear hb1 A0
  go_wp2_with fail
  refine (Hri.out _ A1.out.ok).mono ?_
  rintro e2 w2 ⟨rfl,hb2⟩
  have A2:=Qh (A1.out.quiet hb2)
  clear hb2 A1
  have HB2:=Qh (HB0.out.far2 A2.out.bel)
  obtain ⟨c0,c1,c2,c3,c4,c5⟩:=HB2.out
  go_wp2_with fail
  refine (Hgx.out _ A2.out.ok).mono ?_
  rintro e3 w3 ⟨rfl,hb3⟩
  have A3:=Qh (A2.out.quiet hb3)
  clear hb3 A2
  clear c0 c1 c2 c3 c4 c5
  go_wp2
  go_ret
  exact ⟨rfl,fin _ A3.out.bel⟩
 have e2:gr40I x=0:=by rw [gr40I,hgr];rfl
 rw [e2] at Hgx
 have hxg:SesG x:=Xj3 hxw (by unfold gr41s;rw [hgr,Qf (by omega)];rfl)
 obtain ⟨n,hn⟩:∃n,l.length=n+1:=⟨l.length-1,by omega⟩
 obtain ⟨K,hK⟩:∃K,m%n=K:=⟨_,rfl⟩
 have hKl:K<n:=by have:=Nat.mod_lt m (show 0<n by omega);omega
 have hKl2:K<l.length:=by omega
 have hrem:=Xta hK
 obtain ⟨y,hy⟩:∃y,l[K]=y:=⟨_,rfl⟩
 have hyg:SesG y:=hses y (by rw [←hy];exact List.getElem_mem hKl2)
 have hdy:(dirDig y).2=0:=by
  have:=(Xgq hck K y (l[K+1]'(by omega)) (by rw [List.getElem?_eq_getElem hKl2,hy]) (List.getElem?_eq_getElem (by omega))).2
  exact this
 have Hdx:=Qh (fun w hw=>Xds I hI x _ Hve.out hxg w hw)
 have Hbad:=Qh (fun (hx:¬((dirDig x).2=0∧(dirDig y).1=(dirDig x).1))=>Xkn hck (k:=K) (by omega) (x:=x) (by rw [hy];exact hx))
 have Hall:=Qh (show ∀z∈l.set K x,SesG z from fun z hz=>by
  rcases List.mem_or_eq_of_mem_set hz with h|rfl
  ·exact hses z h
  ·exact hxg)
 have Hv:=Qh hv
 have HI:=Qh hI
 obtain ⟨ao,cap,rfl,_,_,_⟩:=id hv
 have Hdy:=Qh hdy
 obtain ⟨dy,hdy1⟩:∃dy,(dirDig y).1=dy:=⟨_,rfl⟩
 obtain ⟨dx,ex,hdx⟩:∃dx ex,dirDig x=(dx,ex):=⟨_,_,rfl⟩
 have Hdyp:=Qh (show dirDig y=(dy,0) from Prod.ext hdy1 hdy)
 rw [hdx] at Hdx Hbad
 rw [hdy1] at Hbad
 have Hn:=Qh hn
 have Hy:=Qh hy
 have hn1:((l.length:Int)-1)=(n:Int):=by omega
 have hn0:¬((n:Int)=0):=by omega
 have hn00:((n:Int)==0)=false:=by simpa using hn0
 have hKi0:(0:Int)≤(K:Int):=by omega
 have hKi1:(K:Int)<(l.length:Int):=by omega
 clear e1 hg hv hck h2 h30 hgr e2 hn hK hdy hdy1 hdx hy hI hses
 have mid:∀ {P:Prop},P→P:=fun h=>h
 by_cases hsame:ex=0∧dy=dx
 ·obtain ⟨rfl,rfl⟩:=hsame
  go_enter Tryz.func6,Tryz.ntmps6
  go_wp2_with fail
  refine (Hal.out _ A0.out.ok).mono ?_
  rintro e1 w1 ⟨rfl,hb1⟩
  have A1:=Qh (A0.out.quiet hb1)
  clear hb1 A0
  go_wp2_with fail
  refine (Hri.out _ A1.out.ok).mono ?_
  rintro e2 w2 ⟨rfl,hb2⟩
  have A2:=Qh (A1.out.quiet hb2)
  clear hb2 A1
  have HB2:=Qh (HB0.out.far2 A2.out.bel)
  obtain ⟨c0,c1,c2,c3,c4,c5⟩:=HB2.out
  go_wp2_with fail
  refine (Hgx.out _ A2.out.ok).mono ?_
  rintro e3 w3 ⟨rfl,hb3⟩
  have A3:=Qh (A2.out.quiet hb3)
  clear hb3 A2
  have HB3:=Qh (HB0.out.thru A3.out.bel)
  clear c0 c1 c2 c3 c4 c5
  obtain ⟨c0,c1,c2,c3,c4,c5⟩:=HB3.out
  obtain ⟨y',vy,b,off,cap',hly,hvv,⟨d0,d1,d2',d3',d4,d5⟩,h1⟩:=Xdc Hv.out A3.out.ok K hKl2
  cases hvv
  obtain rfl:y=y':=Hy.out.symm.trans hly
  have Hdig:=Qh (Xds I HI.out y vy h1 hyg w3 A3.out.ok)
  obtain ⟨oy,cy,rfl,_,_,_⟩:=id h1
  rw [Hdyp.out] at Hdig
  clear hly h1
  go_wp2_with fail
  refine (Hdig.out).mono ?_
  rintro e4 w4 ⟨rfl,hb4⟩
  have A4:=Qh (A3.out.quiet hb4)
  clear hb4 A3
  have HB4:=Qh (HB0.out.thru A4.out.bel)
  clear c0 c1 c2 c3 c4 c5
  obtain ⟨c0,c1,c2,c3,c4,c5⟩:=HB4.out
  go_wp2_with fail
  refine (Hdx.out _ A4.out.ok).mono ?_
  rintro e5 w5 ⟨rfl,hb5⟩
  have A5:=Qh (A4.out.quiet hb5)
  clear hb5 A4
  go_wp2
  go_ret
  exact ⟨rfl,fin _ A5.out.bel⟩
 have Hne:=Qh (Hbad.out (fun h=>hsame ⟨h.1,h.2⟩))
 obtain ⟨q,hq⟩:∃q,chkH (l.set K x)=q:=⟨_,rfl⟩
 rw [hq] at Hne
 have hq0:(q != 0)=true:=by simpa using Hne.out
 have Hq:=Qh hq
 have Hi6:=Qh (show (Tryz.prog.info? 47).map (·.size)=some 6 by kernel_rfl)
 have Hrd:=Qh (show tSes.rd I (sesCs x (.slice oe x.ents.length ce)) x from ⟨_,rfl,Hve.out⟩)
 clear hq Hbad Hne
 by_cases hx0:ex=0
 ·subst hx0
  have hne:dy≠dx:=fun h=>hsame ⟨rfl,h⟩
  have hne2:(dy==dx)=false:=by simpa using hne
  clear hsame
  go_enter Tryz.func6,Tryz.ntmps6
  go_wp2_with fail
  refine (Hal.out _ A0.out.ok).mono ?_
  rintro e1 w1 ⟨rfl,hb1⟩
  have A1:=Qh (A0.out.quiet hb1)
  clear hb1 A0
  go_wp2_with fail
  refine (Hri.out _ A1.out.ok).mono ?_
  rintro e2 w2 ⟨rfl,hb2⟩
  have A2:=Qh (A1.out.quiet hb2)
  clear hb2 A1
  have HB2:=Qh (HB0.out.far2 A2.out.bel)
  obtain ⟨c0,c1,c2,c3,c4,c5⟩:=HB2.out
  go_wp2_with fail
  refine (Hgx.out _ A2.out.ok).mono ?_
  rintro e3 w3 ⟨rfl,hb3⟩
  have A3:=Qh (A2.out.quiet hb3)
  clear hb3 A2
  have HB3:=Qh (HB0.out.thru A3.out.bel)
  clear c0 c1 c2 c3 c4 c5
  obtain ⟨c0,c1,c2,c3,c4,c5⟩:=HB3.out
  obtain ⟨y',vy,b,off,cap',hly,hvv,⟨d0,d1,d2',d3',d4,d5⟩,h1⟩:=Xdc Hv.out A3.out.ok K hKl2
  cases hvv
  obtain rfl:y=y':=Hy.out.symm.trans hly
  have Hdig:=Qh (Xds I HI.out y vy h1 hyg w3 A3.out.ok)
  obtain ⟨oy,cy,rfl,_,_,_⟩:=id h1
  rw [Hdyp.out] at Hdig
  clear hly h1
  go_wp2_with fail
  refine (Hdig.out).mono ?_
  rintro e4 w4 ⟨rfl,hb4⟩
  have A4:=Qh (A3.out.quiet hb4)
  clear hb4 A3
  have HB4:=Qh (HB0.out.thru A4.out.bel)
  clear c0 c1 c2 c3 c4 c5
  obtain ⟨c0,c1,c2,c3,c4,c5⟩:=HB4.out
  go_wp2_with fail
  refine (Hdx.out _ A4.out.ok).mono ?_
  rintro e5 w5 ⟨rfl,hb5⟩
  have A5:=Qh (A4.out.quiet hb5)
  clear hb5 A4
  have HB5:=Qh (HB0.out.thru A5.out.bel)
  clear c0 c1 c2 c3 c4 c5
  have hE5:OwnS tSes 47 I (w5.alloc (.cells #[] 47)) w5.heap.size (.slice (some ⟨w5.heap.size,0,none⟩) 0 0) []:=⟨[],World.ownsRow_made w5 #[] 0 (Qn _) (Nat.zero_le _) (by simp),LiesL.nil _ _⟩
  have hS5:=SrcS.of_rd (T:=tSes) Hv.out (A5.out.ok.alloc (.cells #[] 47)) (by decide)
  go_wp2_with (at_builtin;refine Xcd Xdu rfl _ _ rfl rfl hE5 rfl hS5 (by simp only [List.length_nil];omega) (by simp only [List.length_nil];omega) (by simp) ?_)
  intro v6 w6 ho6 hg6
  (try rw [List.nil_append] at ho6)
  have hb6:Below w5.heap.size w5 w6:=((Qb _ _).alloc (Qn _) (.cells #[] 47)).grown hg6 (by simp) (fun k hk=>by have hk:some w5.heap.size=some k:=hk;cases hk;exact Qn _)
  have hok6:Ok I w6:=(A5.out.ok.alloc (.cells #[] 47)).grown hg6 (fun k hk=>by have hk:some w5.heap.size=some k:=hk;cases hk;exact A5.out.ok.fresh (Qn _))
  have hbel6:=A5.out.bel.trans (hb6.mono A5.out.bel.size)
  have HB6:=Qh (HB5.out.thru hb6)
  obtain ⟨xs,⟨hxl,hrow⟩,hL⟩:=ho6
  rcases hrow with ⟨h00,hl0⟩|⟨g,capg,cur,rfl,hBg,hcur,hcl1,hcl2,hcs,htk⟩
  ·omega
  have hcs':cur.size=capg*6:=hcs
  have htk':cur.toList.take (l.length*6)=xs:=htk
  have hxl':xs.length=l.length*6:=hxl
  have hfit:K*6+6≤cur.size:=by omega
  have Hcur:=Qh hcur
  have HL:=Qh hL
  have Hsz:=Qh (show (over cur (K*6) (sesCs x (.slice oe x.ents.length ce))).size=capg*6 by rw [Xa1 _ _ _ hfit,hcs'])
  have Htm:=Qh (show (over cur (K*6) (sesCs x (.slice oe x.ents.length ce))).toList.take (l.length*6)=xs.take (K*6)++sesCs x (.slice oe x.ents.length ce)++xs.drop (K*6+6) by
   rw [Xb6 _ _ _ _ (show K*6+6≤l.length*6 by omega) (by omega),htk'];rfl)
  have hml:maxLen=9223372036854775807:=rfl
  rw [hml] at hcl2
  have hset:=Xle HL.out hKl2 Hrd.out
  have hgS:w6.grownBy (w6.setRow g (over cur (K*6) (sesCs x (.slice oe x.ents.length ce)))) (some g):=Xay
  have hfr5:∀b,w5.heap.size≤b→I b=none:=fun b hb=>A5.out.ok.fresh hb
  have hok8:=hok6.grown hgS (fun g' hg'=>by cases hg';exact hfr5 _ hBg)
  have hown8:OwnS tSes 47 I (w6.setRow g (over cur (K*6) (sesCs x (.slice oe x.ents.length ce)))) w5.heap.size (.slice (some ⟨g,0,none⟩) l.length capg) (l.set K x):=by
   refine ⟨_,⟨hset.1,.inr ⟨g,capg,_,by rw [List.length_set],hBg,setRow_heap _ _ _ _ _ _ Hcur.out,by rw [List.length_set];exact hcl1,by unfold maxLen;exact hcl2,Hsz.out,by rw [List.length_set];exact Htm.out⟩⟩,hset⟩
  obtain ⟨J8,hx8,hok8',hr8,_⟩:=hown8.freeze hok8 hfr5
  have hbel8:=hbel6.grown hgS hbel6.size (fun k hk=>by cases hk;have:=A5.out.bel.size;omega)
  have Hk8:=Qh (hx8.keep A5.out.ok (Qn _))
  have Hck:=Qh (fun W hW=>Xfe J8 (HI.out.mono Hk8.out) _ _ hr8 Hall.out (by rw [List.length_set];omega) W hW)
  rw [Hq.out] at Hck
  obtain ⟨c0,c1,c2,c3,c4,c5⟩:=HB6.out
  clear hcur hL htk htk' hcs hcs' hxl hxl' hml hset hgS hown8 hok8 hr8 hx8 hbel6 hb6 hg6 hE5 hS5
  go_wp2_with (refine Xa4 rfl 47 _ _ rfl g (K*6) (sesCs x (.slice oe x.ents.length ce)) (by simp [Act.eval]) rfl cur 47 Hcur.out hfit Hi6.out (tSes.one Hrd.out) ?_)
  obtain ⟨W8,hW8⟩:∃W8,w6.setRow g (over cur (K*6) (sesCs x (.slice oe x.ents.length ce)))=W8:=⟨_,rfl⟩
  rw [hW8] at hok8' hbel8 ⊢
  clear c0 c1 c2 c3 c4 c5
  go_wp2_with fail
  refine (Hck.out _ hok8').mono ?_
  rintro e9 w9 ⟨rfl,hb9⟩
  go_wp2
  go_ret
  exact ⟨rfl,fin _ (hbel8.trans (hb9.mono hbel8.size))⟩
 ·have hx1:(ex==0)=false:=by simpa using hx0
  clear hsame hx0
  go_enter Tryz.func6,Tryz.ntmps6
  go_wp2_with fail
  refine (Hal.out _ A0.out.ok).mono ?_
  rintro e1 w1 ⟨rfl,hb1⟩
  have A1:=Qh (A0.out.quiet hb1)
  clear hb1 A0
  go_wp2_with fail
  refine (Hri.out _ A1.out.ok).mono ?_
  rintro e2 w2 ⟨rfl,hb2⟩
  have A2:=Qh (A1.out.quiet hb2)
  clear hb2 A1
  have HB2:=Qh (HB0.out.far2 A2.out.bel)
  obtain ⟨c0,c1,c2,c3,c4,c5⟩:=HB2.out
  go_wp2_with fail
  refine (Hgx.out _ A2.out.ok).mono ?_
  rintro e3 w3 ⟨rfl,hb3⟩
  have A3:=Qh (A2.out.quiet hb3)
  clear hb3 A2
  have HB3:=Qh (HB0.out.thru A3.out.bel)
  clear c0 c1 c2 c3 c4 c5
  obtain ⟨c0,c1,c2,c3,c4,c5⟩:=HB3.out
  obtain ⟨y',vy,b,off,cap',hly,hvv,⟨d0,d1,d2',d3',d4,d5⟩,h1⟩:=Xdc Hv.out A3.out.ok K hKl2
  cases hvv
  obtain rfl:y=y':=Hy.out.symm.trans hly
  have Hdig:=Qh (Xds I HI.out y vy h1 hyg w3 A3.out.ok)
  obtain ⟨oy,cy,rfl,_,_,_⟩:=id h1
  rw [Hdyp.out] at Hdig
  clear hly h1
  go_wp2_with fail
  refine (Hdig.out).mono ?_
  rintro e4 w4 ⟨rfl,hb4⟩
  have A4:=Qh (A3.out.quiet hb4)
  clear hb4 A3
  have HB4:=Qh (HB0.out.thru A4.out.bel)
  clear c0 c1 c2 c3 c4 c5
  obtain ⟨c0,c1,c2,c3,c4,c5⟩:=HB4.out
  go_wp2_with fail
  refine (Hdx.out _ A4.out.ok).mono ?_
  rintro e5 w5 ⟨rfl,hb5⟩
  have A5:=Qh (A4.out.quiet hb5)
  clear hb5 A4
  have HB5:=Qh (HB0.out.thru A5.out.bel)
  clear c0 c1 c2 c3 c4 c5
  have hE5:OwnS tSes 47 I (w5.alloc (.cells #[] 47)) w5.heap.size (.slice (some ⟨w5.heap.size,0,none⟩) 0 0) []:=⟨[],World.ownsRow_made w5 #[] 0 (Qn _) (Nat.zero_le _) (by simp),LiesL.nil _ _⟩
  have hS5:=SrcS.of_rd (T:=tSes) Hv.out (A5.out.ok.alloc (.cells #[] 47)) (by decide)
  go_wp2_with (at_builtin;refine Xcd Xdu rfl _ _ rfl rfl hE5 rfl hS5 (by simp only [List.length_nil];omega) (by simp only [List.length_nil];omega) (by simp) ?_)
  intro v6 w6 ho6 hg6
  (try rw [List.nil_append] at ho6)
  have hb6:Below w5.heap.size w5 w6:=((Qb _ _).alloc (Qn _) (.cells #[] 47)).grown hg6 (by simp) (fun k hk=>by have hk:some w5.heap.size=some k:=hk;cases hk;exact Qn _)
  have hok6:Ok I w6:=(A5.out.ok.alloc (.cells #[] 47)).grown hg6 (fun k hk=>by have hk:some w5.heap.size=some k:=hk;cases hk;exact A5.out.ok.fresh (Qn _))
  have hbel6:=A5.out.bel.trans (hb6.mono A5.out.bel.size)
  have HB6:=Qh (HB5.out.thru hb6)
  obtain ⟨xs,⟨hxl,hrow⟩,hL⟩:=ho6
  rcases hrow with ⟨h00,hl0⟩|⟨g,capg,cur,rfl,hBg,hcur,hcl1,hcl2,hcs,htk⟩
  ·omega
  have hcs':cur.size=capg*6:=hcs
  have htk':cur.toList.take (l.length*6)=xs:=htk
  have hxl':xs.length=l.length*6:=hxl
  have hfit:K*6+6≤cur.size:=by omega
  have Hcur:=Qh hcur
  have HL:=Qh hL
  have Hsz:=Qh (show (over cur (K*6) (sesCs x (.slice oe x.ents.length ce))).size=capg*6 by rw [Xa1 _ _ _ hfit,hcs'])
  have Htm:=Qh (show (over cur (K*6) (sesCs x (.slice oe x.ents.length ce))).toList.take (l.length*6)=xs.take (K*6)++sesCs x (.slice oe x.ents.length ce)++xs.drop (K*6+6) by
   rw [Xb6 _ _ _ _ (show K*6+6≤l.length*6 by omega) (by omega),htk'];rfl)
  have hml:maxLen=9223372036854775807:=rfl
  rw [hml] at hcl2
  have hset:=Xle HL.out hKl2 Hrd.out
  have hgS:w6.grownBy (w6.setRow g (over cur (K*6) (sesCs x (.slice oe x.ents.length ce)))) (some g):=Xay
  have hfr5:∀b,w5.heap.size≤b→I b=none:=fun b hb=>A5.out.ok.fresh hb
  have hok8:=hok6.grown hgS (fun g' hg'=>by cases hg';exact hfr5 _ hBg)
  have hown8:OwnS tSes 47 I (w6.setRow g (over cur (K*6) (sesCs x (.slice oe x.ents.length ce)))) w5.heap.size (.slice (some ⟨g,0,none⟩) l.length capg) (l.set K x):=by
   refine ⟨_,⟨hset.1,.inr ⟨g,capg,_,by rw [List.length_set],hBg,setRow_heap _ _ _ _ _ _ Hcur.out,by rw [List.length_set];exact hcl1,by unfold maxLen;exact hcl2,Hsz.out,by rw [List.length_set];exact Htm.out⟩⟩,hset⟩
  obtain ⟨J8,hx8,hok8',hr8,_⟩:=hown8.freeze hok8 hfr5
  have hbel8:=hbel6.grown hgS hbel6.size (fun k hk=>by cases hk;have:=A5.out.bel.size;omega)
  have Hk8:=Qh (hx8.keep A5.out.ok (Qn _))
  have Hck:=Qh (fun W hW=>Xfe J8 (HI.out.mono Hk8.out) _ _ hr8 Hall.out (by rw [List.length_set];omega) W hW)
  rw [Hq.out] at Hck
  obtain ⟨c0,c1,c2,c3,c4,c5⟩:=HB6.out
  clear hcur hL htk htk' hcs hcs' hxl hxl' hml hset hgS hown8 hok8 hr8 hx8 hbel6 hb6 hg6 hE5 hS5
  go_wp2_with (refine Xa4 rfl 47 _ _ rfl g (K*6) (sesCs x (.slice oe x.ents.length ce)) (by simp [Act.eval]) rfl cur 47 Hcur.out hfit Hi6.out (tSes.one Hrd.out) ?_)
  obtain ⟨W8,hW8⟩:∃W8,w6.setRow g (over cur (K*6) (sesCs x (.slice oe x.ents.length ce)))=W8:=⟨_,rfl⟩
  rw [hW8] at hok8' hbel8 ⊢
  clear c0 c1 c2 c3 c4 c5
  go_wp2_with fail
  refine (Hck.out _ hok8').mono ?_
  rintro e9 w9 ⟨rfl,hb9⟩
  go_wp2
  go_ret
  exact ⟨rfl,fin _ (hbel8.trans (hb9.mono hbel8.size))⟩
end Go.Proofs.YtdeknddamidldaaGreatDoor
