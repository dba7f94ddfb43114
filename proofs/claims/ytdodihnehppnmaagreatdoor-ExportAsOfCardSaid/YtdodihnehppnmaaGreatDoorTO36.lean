/- Lemmas; conditions: as each says. -/
import Derived.Test.YtdodihnehppnmaaGreatDoorTO33
set_option linter.all false
namespace Go.Proofs.YtdodihnehppnmaaGreatDoor
open Go.RowKit
theorem Xv7 {x:Ent} (h:entErr x=0):x.exts.length≤65536:=by
 have hc:=Xbf h
 have hs:xtSum x.exts=x.size:=by
  unfold entErr at h
  split at h
  ·omega
  split at h
  ·contradiction
  split at h
  ·omega
  split at h
  ·contradiction
  split at h
  ·omega
  split at h
  ·omega
  split at h
  ·omega
  split at h
  ·contradiction
  split at h
  ·omega
  ·rename_i q
   exact Classical.byContradiction q
 have key:∀(l:List Xt),(∀y∈l,1≤y.n)→(l.length:Int)≤xtSum l:=by
  intro l
  induction l with
  |nil=>intro _;simp [xtSum]
  |cons y l ih=>
   intro hl
   have h1:=hl y (by simp)
   have h2:=ih fun z hz=>hl z (by simp [hz])
   unfold xtSum at*
   rw [List.map_cons,List.sum_cons,List.length_cons]
   omega
 have:=key x.exts fun y hy=>(hc.xts y hy).2.2.2.2.1
 have:=hc.s1
 omega
set_option maxRecDepth 100000 in
set_option maxHeartbeats 1000000 in
theorem Xpw (I:IH) (e:Ent) (va vx:Value) (hva:RdS tAt I va e.attrs) (hvx:RdS tXt I vx e.exts) (he:entErr e=0) (w:World) (hw:Ok I w):
 Calls Tryz.prog 48 #[entV e va vx] w fun r w'=>r= .returned (.tuple #[S (headE e),.int .i64 0])∧Below w.heap.size w w':=by
 have hc:=Xbf he
 have hxl:=Xv7 he
 have Hck:=Qh (fun w hw=>Xby I e va vx hva hvx hc.wf w hw)
 rw [Xcf (by omega),he] at Hck
 have H0:=Qh (fun w hw=>Xi1 I e va vx hva hvx hc w hw)
 obtain ⟨aa,ca,rfl,_,_,_⟩:=id hva
 obtain ⟨ax,cx,rfl,_,_,_⟩:=id hvx
 have A1:=Qh ((MAt.start hw).past (.cells #[.int .i64 e.kind,S e.path,.slice aa e.attrs.length ca,S e.target,.int .i64 e.size,S e.digest,.slice ax e.exts.length cx] 26))
 have EB:=Qh (entB (W:=w) (e:=e) (va:= .slice aa e.attrs.length ca) (vx:= .slice ax e.exts.length cx) (t:=26) rfl (Qb _ _))
 clear hva hvx he hc hxl
 generalize headE e=hd at*
 go_enter Tryz.func48,Tryz.ntmps48
 go_wp2_with fail
 refine (Hck.out _ A1.out.ok).mono ?_
 rintro r1 w1 ⟨rfl,hb1⟩
 have A2:=Qh (A1.out.quiet hb1)
 obtain ⟨y0,y1,y2,y3,y4,y5,y6⟩:=EB.out.thru hb1
 clear A1 EB hb1
 go_wp2_with fail
 refine (H0.out _ A2.out.ok).mono ?_
 rintro r2 w2 ⟨rfl,hb2⟩
 have A3:=Qh (A2.out.quiet hb2)
 clear A2 hb2 y0 y1 y2 y3 y4 y5 y6
 go_wp2
 go_ret2
 exact ⟨rfl,A3.out.bel⟩
set_option maxRecDepth 100000 in
set_option maxHeartbeats 4000000 in
theorem Xt2 (I:IH) (v:Value) (L:List Ses) (hv:RdS tSes I v L) (hg:∀x∈L,SesG x) (hn:L.length≤1000) (d:Int) (w:World) (hw:Ok I w):
 Calls Tryz.prog 18 #[v,.int .i64 d] w fun r w'=>r= .returned (.tuple #[S (expT L d).1,.int .i64 (expT L d).2])∧Below w.heap.size w w':=by
 have Has:=Qh (fun w hw=>Xpt I v L hv d w hw)
 have Htr:=Qh (fun w hw=>Xps I v L hv hg hn (asOf d L:Nat) w hw)
 rw [Xn7] at Htr
 have hsl:=hv.len_le
 have hln:=Xn6 hg d
 have Hen:=Qh (fun x hx=>Xbf (Xe1 L d x hx))
 have Her:=Qh (Xe1 L d)
 have Hv:=Qh hv
 have Hg:=Qh hg
 unfold expT
 unfold trP
 obtain ⟨N,hN⟩:∃N,trG (strmsP L) (treeAt L d) (numP (treeAt L d).length)=N:=⟨_,rfl⟩
 rw [hN]
 have HN:=Qh (show trG (strmsP L) ((treeAt L d).drop 0) (trK (strmsP L) (treeAt L d) 0)=N by rw [List.drop_zero,trK,List.take_zero,List.flatMap_nil,List.append_nil];exact hN)
 have Hz:=Qh (show numP (treeAt L d).length=trK (strmsP L) (treeAt L d) 0 by rw [trK,List.take_zero,List.flatMap_nil,List.append_nil])
 obtain ⟨so,sc,rfl,_,_,_⟩:=id hv
 clear hv hg hN
 generalize treeAt L d=t at*
 have Hlen:=Qh (Xqt (st:=strmsP L) Hen.out (by omega))
 go_enter Tryz.func18,Tryz.ntmps18
 go_wp2_with fail
 refine (Has.out _ hw).mono ?_
 rintro e1 w1 ⟨rfl,hb1⟩
 go_wp2_with fail
 refine (Htr.out _ (hw.below (Qn _) hb1)).mono ?_
 rintro e2 w2 ⟨vt,J,rfl,hb2,hx2,hok2,hr2⟩
 try dsimp only at hr2
 have Hk:=Qh (show ∀b c,I b=some c→J b=some c from hx2.keep (hw.below (Qn _) hb1) (Qn _))
 have A2:=Qh (show MAt I w J w2 from ⟨hok2,Hk.out,hb1.trans (hb2.mono hb1.size)⟩)
 have Ht:=Qh hr2
 obtain ⟨ta,tc,rfl,_,_,_⟩:=id hr2
 have Hnu:=Qh (fun w=>Xbl t.length (by omega) w)
 rw [Hz.out] at Hnu
 clear hr2 hb1 hb2 hx2 hok2 Has Htr Hz
 go_wp2_with fail
 refine (Hnu.out _).mono ?_
 rintro e4 w4 ⟨rfl,hb4⟩
 have A4:=Qh (A2.out.quiet hb4)
 clear A2 hb4 Hnu
 go_wp2_with fail
 go_loopw [8,9] (fun s8 s9 wr=> ∃k:Nat,k≤t.length∧s9= .int .i64 k∧s8=S (trK (strmsP L) t k)∧MAt I w J wr∧trG (strmsP L) (t.drop k) (trK (strmsP L) t k)=N) (fun _ i _=>t.length-(intOf i).toNat)
 case atStart=>exact ⟨0,Nat.zero_le _,rfl,rfl,A4.out,HN.out⟩
 case round=>
  clear A4 HN
  obtain ⟨k,hk,rfl,rfl,hM,hr⟩:=hrel
  have M:=Qh hM
  have Hr:=Qh hr
  have hlk:=Hlen.out k
  clear hM hr
  by_cases hlt:k<t.length
  ·obtain ⟨x,va,vx,b,off,cap',hlx,hvv,⟨c0,c1,c2,c3,c4,c5,c6⟩,hva,hvx⟩:=Xbu Ht.out M.out.ok k hlt
   cases hvv
   have hxm:x∈t:=by rw [←hlx];exact List.getElem_mem hlt
   have Hx:=Qh (Hen.out x hxm)
   have Hst:=Qh (Xn8 hlt hlx Hr.out)
   have Hsu:=Qh (Xjr (st:=strmsP L) hlt hlx)
   have hp3:=Xhu (st:=strmsP L) Hx.out
   have hhl:=Xd6 Hx.out
   have hcl:=Xfp (strmsP L) x
   have Hco:=Qh (fun w hw=>Xnb J _ L (Hv.out.mono Hk.out) Hg.out hn x va vx hva hvx w hw)
   have Hhd:=Qh (fun w hw=>Xpw J x va vx hva hvx (Her.out x hxm) w hw)
   obtain ⟨xa,xc,rfl,_,_,_⟩:=id hva
   obtain ⟨xx,xd,rfl,_,_,_⟩:=id hvx
   have HE:=Qh (show EntAt wr b (off+k*7) x (.slice xa x.attrs.length xc) (.slice xx x.exts.length xd) from ⟨c0,c1,c2,c3,c4,c5,c6⟩)
   obtain ⟨ct,er,hcc⟩:∃ct er,contOf (strmsP L) x=(ct,er):=⟨_,_,rfl⟩
   have Hpc:=Qh (show piece (strmsP L) x=netP (headE x)++netP ct by simp [piece,hcc])
   rw [hcc] at Hst hcl hp3
   dsimp only at Hst hcl hp3
   have Hcc:=Qh hcc
   clear hcc hlx hva hvx hxm
   go_upto_if 37 with fail
   go_cut [10,11,12] (fun s10 _ _ wx=>s10=S ct∧er=0∧MAt I w J wx∧EntAt wx b (off+k*7) x (.slice xa x.attrs.length xc) (.slice xx x.exts.length xd))
   case first=>
    by_cases hk1:x.kind=1
    ·have k1:(x.kind==1)=true:=by simpa using hk1
     rw [show conP (strmsP L) x=(ct,er) by rw [←Hcc.out];unfold contOf;rw [if_pos hk1]] at Hco
     dsimp only at Hco
     clear hk1 Hcc
     go_wp2_with fail
     refine (Hco.out _ M.out.ok).mono ?_
     rintro e6 w6 ⟨rfl,hb6⟩
     have M6:=Qh (M.out.quiet hb6)
     have HE6:=Qh (HE.out.thru hb6)
     clear M HE hb6 c0 c1 c2 c3 c4 c5 c6
     by_cases hz:er=0
     ·subst hz
      go_wp2_with fail
      go_meet
      case rel=>exact ⟨by first|rfl|trivial,by first|rfl|trivial,M6.out,HE6.out⟩
     ·have k2:(er != 0)=true:=by simpa using hz
      have Hn:=Qh (show N=([],er) by have:=Hst.out;rw [if_pos hz] at this;exact this)
      clear hz
      go_wp2
      go_ret2
      rw [Hn.out]
      exact ⟨rfl,M6.out.bel⟩
    ·have k1:(x.kind==1)=false:=by simpa using hk1
     have hcc:=Hcc.out
     unfold contOf at hcc
     rw [if_neg hk1] at hcc
     injection hcc with h1 h2
     subst h1 h2
     clear hk1 Hcc
     go_wp2_with fail
     go_meet
     case rel=>exact ⟨by first|rfl|trivial,by first|rfl|trivial,M.out,HE.out⟩
   case rest=>
    clear M HE c0 c1 c2 c3 c4 c5 c6 Hcc
    obtain ⟨rfl,hc0,hM,hE⟩:=hcut
    have M6:=Qh hM
    have HE6:=Qh hE
    have Hnx:=Qh (show trG (strmsP L) (t.drop (k+1)) (trK (strmsP L) t (k+1))=N by have:=Hst.out;rw [if_neg (by omega)] at this;exact this)
    clear hM hE hc0 Hst
    rw [Hpc.out] at Hsu
    have H1:=Qh (fun w=>Xaq (headE x) (by omega) w)
    have H2:=Qh (fun w=>Xaq ct (by omega) w)
    obtain ⟨hp1,hp2,hp3⟩:=hp3
    generalize headE x=hd at*
    generalize netP hd=p1 at*
    generalize netP ct=p2 at*
    generalize trK (strmsP L) t k=u at*
    have d1:¬9223372036854775807<u.length+p1.length:=by omega
    have d2:¬9223372036854775807<(u++p1).length+p2.length:=by rw [List.length_append];omega
    obtain ⟨y,hy⟩:∃y,u++p1=y:=⟨_,rfl⟩
    rw [hy] at d2
    have Hy:=Qh (show y++p2=trK (strmsP L) t (k+1) by rw [Hsu.out,←hy,List.append_assoc])
    obtain ⟨y0,y1,y2,y3,y4,y5,y6⟩:=HE6.out
    go_wp2_with fail
    refine (Hhd.out _ M6.out.ok).mono ?_
    rintro e7 w7 ⟨rfl,hb7⟩
    have M7:=Qh (M6.out.quiet hb7)
    clear M6 HE6 hb7 y0 y1 y2 y3 y4 y5 y6 Hhd Hco Hpc Hsu
    go_wp2_with fail
    refine (H1.out _).mono ?_
    rintro e8 w8 ⟨rfl,hb8⟩
    have M8:=Qh (M7.out.quiet hb8)
    clear M7 hb8
    go_wp2_with fail
    refine (H2.out _).mono ?_
    rintro e9 w9 ⟨rfl,hb9⟩
    have M9:=Qh (M8.out.quiet hb9)
    clear M8 hb9
    go_wp2
    go_roundw
    case rel=>exact ⟨k+1,by omega,by go_num,by first|rw [←Hy.out]|(rw [←Hy.out,←hy]),M9.out,Hnx.out⟩
    case measure=>simp [intOf];omega
  ·have Hn:=Qh (Xqu (by omega) Hr.out)
   go_wp2
   go_ret2
   rw [Hn.out]
   exact ⟨rfl,M.out.bel⟩
end Go.Proofs.YtdodihnehppnmaaGreatDoor
