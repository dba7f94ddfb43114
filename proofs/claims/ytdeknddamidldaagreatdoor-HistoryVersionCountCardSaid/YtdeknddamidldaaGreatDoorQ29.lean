/-
  Walks and laws that the claim's theorem uses: texts StC RhR, joined; comments out. Conditions: as each theorem says.
-/
import Derived.Test.YtdeknddamidldaaGreatDoorQ27
import Derived.Test.YtdeknddamidldaaGreatDoorQ28
namespace Go.Proofs.YtdeknddamidldaaGreatDoor
open Go.RowKit
theorem Xa7 {W:World} {n:Nat} {u v x:Value} {a:Addr} (h:W.cell? a=some x) (hne:a.block≠n):((W.setCell ⟨n,0,none⟩ u).setCell ⟨n,1,none⟩ v).cell? a=some x:=by
 rw [World.cell?_of_block (Below.heap_setCell _ _ _ _ hne),World.cell?_of_block (Below.heap_setCell _ _ _ _ hne)];exact h
theorem SesB.set2 {W:World} {n b:Nat} {u v:Value} {s:Ses} {ve:Value} (h:SesB W b s ve) (hne:b≠n):SesB ((W.setCell ⟨n,0,none⟩ u).setCell ⟨n,1,none⟩ v) b s ve:=
 ⟨Xa7 h.c0 hne,Xa7 h.c1 hne,Xa7 h.c2 hne,Xa7 h.c3 hne,Xa7 h.c4 hne,Xa7 h.c5 hne⟩
theorem EntB.set2 {W:World} {n b:Nat} {u v:Value} {e:Ent} {va vx:Value} (h:EntB W b e va vx) (hne:b≠n):EntB ((W.setCell ⟨n,0,none⟩ u).setCell ⟨n,1,none⟩ v) b e va vx:=
 ⟨Xa7 h.c0 hne,Xa7 h.c1 hne,Xa7 h.c2 hne,Xa7 h.c3 hne,Xa7 h.c4 hne,Xa7 h.c5 hne,Xa7 h.c6 hne⟩
theorem Xp9 {s:Stt} {e:Ent} {d:Int} (h:(stpP s e d).2=0):∀x∈e.exts,XtB x:=(Xd5 (step_ok h).2.2).xts
set_option maxRecDepth 100000 in
set_option maxHeartbeats 4000000 in
theorem Xfe (I:IH) (hI:Glob I) (v:Value) (l:List Ses) (hv:RdS tSes I v l) (hg:∀x∈l,SesG x) (hn:l.length≤1000) (w:World) (hw:Ok I w):
 Calls Tryz.prog 12 #[v] w fun r w'=>r= .returned (.int .i64 (chkH l))∧Below w.heap.size w w':=by
 obtain ⟨ao,cap,rfl,hcap,hcm,_⟩:=id hv
 have Hv:=Qh hv
 have HI:=Qh hI
 have Hg:=Qh hg
 obtain ⟨E,hE⟩:∃E,chkH l=E:=⟨_,rfl⟩
 have HE:=Qh (show chkFromH l 0 nilS [] 0 (l.drop 0)=E from hE)
 have H0:=Qh (StM.new (T:=64) hw rfl)
 rw [hE]
 clear hv hI hg hE
 go_enter Tryz.func12,Tryz.ntmps12
 go_wp2_with fail
 go_loopw [4,5,14] (fun s4 s5 s14 wr=> ∃(k:Nat) (s:Stt) (vt vh:Value) (J:IH) (p:Bytes) (d:Int),k≤l.length∧s14= .int .i64 k∧s4=S p∧s5= .int .i64 d∧chkFromH l k s p d (l.drop k)=E∧SIn (30*k) s∧StM 64 w.heap.size J wr s vt vh∧Ext w.heap.size I J∧Below w.heap.size w wr) (fun _ _ i _=>l.length-(intOf i).toNat)
 case atStart=>exact ⟨0,nilS,_,_,I,[],0,Nat.zero_le _,rfl,rfl,rfl,HE.out,Xg8,H0.out,Ext.refl _ _,(Qb _ _).alloc (Qn _) _⟩
 case round=>
  clear H0 HE
  obtain ⟨k,s,vt,vh,J,p,d,hk,rfl,rfl,rfl,hce,hsn,hst,hx,hb⟩:=hrel
  have Hce:=Qh hce
  have Hsn:=Qh hsn
  have Hst:=Qh hst
  have Hx:=Qh hx
  have hokr:Ok J wr:=hst.ok
  have hltr:=hst.lt
  have HvJ:=Qh (Hv.out.mono (hx.keep hw (Qn _)))
  have HGJ:=Qh (HI.out.mono (hx.keep hw (Qn _)))
  clear hce hsn hst hx
  by_cases hlt:k<l.length
  ·obtain ⟨x,ve,b,off,cap',hlx,hvv,⟨c0,c1,c2,c3,c4,c5⟩,h1⟩:=Xdc HvJ.out hokr k hlt
   cases hvv
   obtain ⟨oe,ce,rfl,_,_,_⟩:=id h1
   have Hxg:=Qh (Hg.out x (by rw [←hlx];exact List.getElem_mem hlt))
   have Hca:=Qh ((Xud (l0:=l) (s:=s) (prev:=p) (date:=d) hlt hlx).symm.trans Hce.out)
   have Hve:=Qh h1
   have Hdi:=Qh (Xds J HGJ.out x _ h1 Hxg.out (wr.alloc (.cells #[.int .i64 x.num,.int .i64 x.date,S x.prev,.slice oe x.ents.length ce,S x.stream,S x.sl] 47)) (hokr.alloc _))
   have Hdk:=Qh (fun h=>Xdp (Xce (Xl6 (s:=x) h).1).1)
   have hn30:=Hxg.out.nents
   obtain ⟨dg,er,hdg⟩:∃dg er,dirDig x=(dg,er):=⟨_,_,rfl⟩
   rw [hdg] at Hdi Hca Hdk
   clear hlx h1 Hce hdg
   go_wp2_with fail
   refine Hdi.out.mono ?_
   rintro e1 w1 ⟨rfl,hb1⟩
   have HB1:=Qh (sesB (s:=x) rfl hb1)
   have Hst1:=Qh ((Hst.out.past (.cells #[.int .i64 x.num,.int .i64 x.date,S x.prev,.slice oe x.ents.length ce,S x.stream,S x.sl] 47)).below hb1)
   have hb1':Below w.heap.size w w1:=(hb.alloc hb.size (.cells #[.int .i64 x.num,.int .i64 x.date,S x.prev,.slice oe x.ents.length ce,S x.stream,S x.sl] 47)).trans (hb1.mono (by have:=hb.size;simp;omega))
   have hlt1:wr.heap.size<w1.heap.size:=by have:=hb1.size;simp at this;omega
   clear hb1 Hdi Hst c0 c1 c2 c3 c4 c5 hokr hb
   obtain ⟨c0,c1,c2,c3,c4,c5⟩:=HB1.out
   by_cases he:er=0
   case neg=>
    have Hn:=Qh (show E=er by have:=Hca.out;rw [if_pos he] at this;exact this.symm)
    have he0:(er != 0)=true:=by simpa using he
    clear he
    go_wp2
    go_ret
    exact ⟨Xac Hn.out.symm,hb1'⟩
   subst he
   have hfd:=Hdk.out rfl
   by_cases hnum:x.num=(k:Int)+1
   case neg=>
    have Hn:=Qh (show E=14 by have:=Hca.out;rw [if_neg (by simp),if_pos (.inl hnum)] at this;exact this.symm)
    have q1:(x.num != (k:Int)+1)=true:=by simpa using hnum
    have q2:(x.num==(k:Int)+1)=false:=by simpa using hnum
    clear hnum
    go_wp2
    go_ret
    exact ⟨Xac Hn.out.symm,hb1'⟩
   have q1:(x.num != (k:Int)+1)=false:=by simpa using hnum
   have q2:(x.num==(k:Int)+1)=true:=by simpa using hnum
   by_cases hdt:x.date<d
   ·have Hn:=Qh (show E=14 by have:=Hca.out;rw [if_neg (by simp),if_pos (.inr hdt)] at this;exact this.symm)
    have q3:decide (x.date<d)=true:=Qt hdt
    clear hdt hnum
    go_wp2
    go_ret
    exact ⟨Xac Hn.out.symm,hb1'⟩
   have q3:decide (x.date<d)=false:=Qf hdt
   by_cases hpv:x.prev=p
   case neg=>
    have Hn:=Qh (show E=20 by have:=Hca.out;rw [if_neg (by simp),if_neg (by rintro (h|h);exact h hnum;exact hdt h),if_pos hpv] at this;exact this.symm)
    have q4:(x.prev==p)=false:=by simpa using hpv
    have q5:(x.prev != p)=true:=by simpa using hpv
    clear hpv hdt hnum
    go_wp2
    go_ret
    exact ⟨Xac Hn.out.symm,hb1'⟩
   have q4:(x.prev==p)=true:=by simpa using hpv
   have q5:(x.prev != p)=false:=by simpa using hpv
   have Hca2:=Qh (show (if (entsH (l.take (k+1)) x.date s x.ents).2≠0 then (entsH (l.take (k+1)) x.date s x.ents).2 else chkFromH l (k+1) (entsH (l.take (k+1)) x.date s x.ents).1 dg x.date (l.drop (k+1)))=E by
    have:=Hca.out
    rw [if_neg (by simp),if_neg (by rintro (h|h);exact h hnum;exact hdt h),if_neg (by simpa using hpv)] at this;exact this)
   obtain ⟨R,er2,hR⟩:∃R er2,entsH (l.take (k+1)) x.date s x.ents=(R,er2):=⟨_,_,rfl⟩
   rw [hR] at Hca2
   have HR:=Qh hR
   clear hpv hdt hnum Hca hR hfd Hdk
   have g1:=cell_regrown c1
   go_wp2_with fail
   refine wp_region_quiet_below (by kernel_rfl) (by kernel_rfl) ?_
   repeat (go_big_quiet_step ((fail)))
   refine wpQuiet_nil ?_
   intro w2 hwq
   have hb2:Below (w1).heap.size (w1) w2:=by
    obtain ⟨pq,rfl⟩:=hwq
    exact below_regrown _ _ _
   clear hwq
   have HB2:=Qh (HB1.out.thru hb2)
   have Hst2:=Qh (Hst1.out.below hb2)
   have hb2':=hb1'.trans (hb2.mono hb1'.size)
   have hlt2:wr.heap.size<w2.heap.size:=by have:=hb2.size;omega
   clear hb2 hb1' HB1 Hst1 g1 c0 c1 c2 c3 c4 c5 q1 q2 q3 q4 q5 hlt1
   obtain ⟨c0,c1,c2,c3,c4,c5⟩:=HB2.out
   go_wp2_with fail
   clear c0 c1 c2 c3 c4 c5
   generalize wr.heap.size=bx at HB2 hlt2 hltr ⊢
   go_loopw [51] (fun s51 wq=> ∃(j:Nat) (s':Stt) (vt' vh':Value) (J':IH),j≤x.ents.length∧s51= .int .i64 j∧entsH (l.take (k+1)) x.date s' (x.ents.drop j)=(R,er2)∧SIn (30*k+j) s'∧StM 64 w.heap.size J' wq s' vt' vh'∧Ext w.heap.size I J'∧SesB wq bx x (.slice oe x.ents.length ce)∧(∀b c,J b=some c→J' b=some c)∧bx<wq.heap.size∧Below w.heap.size w wq) (fun i _=>x.ents.length-(intOf i).toNat)
   case atStart=>exact ⟨0,s,vt,vh,J,Nat.zero_le _,rfl,HR.out,Hsn.out,Hst2.out,Hx.out,HB2.out,fun _ _ h=>h,hlt2,hb2'⟩
   case round=>
    clear Hst2 HB2 hb2' HR Hsn hlt2
    obtain ⟨j,s',vt',vh',J',hj,rfl,hR,hsn,hst,hx,hB,hkp,hltq,hbq⟩:=hrel
    have HR:=Qh hR
    have Hsn:=Qh hsn
    have Hst:=Qh hst
    have HB:=Qh hB
    have Hx':=Qh hx
    have Hkp:=Qh hkp
    have hok:Ok J' wr:=hst.ok
    clear hR hsn hst hB hx hkp
    obtain ⟨c0,c1,c2,c3,c4,c5⟩:=HB.out
    by_cases hjt:j<x.ents.length
    ·obtain ⟨y,vya,vyx,b9,off9,cap9,hly,hvv,⟨x0,x1,x2,x3,x4,x5,x6⟩,h1,h2⟩:=Xbt (Hve.out.mono Hkp.out) hok j hjt
     cases hvv
     obtain ⟨xa,xc,rfl,_,_,_⟩:=id h1
     obtain ⟨xx,xd,rfl,_,_,_⟩:=id h2
     obtain ⟨t1,tc1,rfl,_,_,_⟩:=id Hst.out.tree
     obtain ⟨u1,uc1,rfl,_,_,_⟩:=id Hst.out.holds
     have hmem:y∈x.ents:=by rw [←hly];exact List.getElem_mem hjt
     have Hea:=Qh ((Xnr (L:=l.take (k+1)) (d:=x.date) (s:=s') hjt hly).symm.trans HR.out)
     have Hst':=Qh (Hst.out.past (.cells #[.int .i64 y.kind,S y.path,.slice xa y.attrs.length xc,S y.target,.int .i64 y.size,S y.digest,.slice xx y.exts.length xd] 39))
     have hpy:=Hxg.out.path y hmem
     have hty:=Hxg.out.target y hmem
     have htl:=Hsn.out.ok.tlen
     have hhl:=Hsn.out.ok.hlen
     have Hap:=Qh (Xjw J' (HI.out.mono (Hx'.out.keep hw (Qn _))) s' _ _ Hst.out.tree Hst.out.holds Hsn.out.sml Hsn.out.ok.tree.srt (by omega) Hsn.out.ok.holds (by omega) y _ _ h1 h2 (Hxg.out.wf y hmem) (by omega) (by omega) x.date (wr.alloc (.cells #[.int .i64 y.kind,S y.path,.slice xa y.attrs.length xc,S y.target,.int .i64 y.size,S y.digest,.slice xx y.exts.length xd] 39)) (hok.alloc _))
     have Hsn2:=Qh (Xew Hsn.out y x.date hpy hty)
     have Hxb:=Qh (fun h=>Xp9 (s:=s') (d:=x.date) (e:=y) h)
     have Hh1:=Qh h1
     have Hh2:=Qh h2
     obtain ⟨s2,er3,hs2⟩:∃s2 er3,stpP s' y x.date=(s2,er3):=⟨_,_,rfl⟩
     rw [hs2] at Hap Hea Hsn2 Hxb
     have k0:=Hst'.out.c0
     have k1:=Hst'.out.c1
     have p1:=Xab (.cells #[.int .i64 y.kind,S y.path,.slice xa y.attrs.length xc,S y.target,.int .i64 y.size,S y.digest,.slice xx y.exts.length xd] 39) c1
     have hwlt:=Hst.out.lt
     have hneq:wr.heap.size≠w.heap.size:=by omega
     have hner:bx≠w.heap.size:=by omega
     have hbq':=hbq.alloc hbq.size (.cells #[.int .i64 y.kind,S y.path,.slice xa y.attrs.length xc,S y.target,.int .i64 y.size,S y.digest,.slice xx y.exts.length xd] 39)
     have HBp:=Qh (HB.out.past (.cells #[.int .i64 y.kind,S y.path,.slice xa y.attrs.length xc,S y.target,.int .i64 y.size,S y.digest,.slice xx y.exts.length xd] 39))
     clear hly h1 h2 hmem htl hhl HR hs2 Hst Hsn HB hok hbq
     go_wp2_with fail
     refine Hap.out.mono ?_
     rintro e3 w3 ⟨v3,v4,J3,rfl,hb3,hx3,hok3,ht3,hh3⟩
     obtain ⟨a3,d3,rfl,_,_,_⟩:=id ht3
     obtain ⟨a4,d4,rfl,_,_,_⟩:=id hh3
     have HE3:=Qh (entB (e:=y) rfl hb3)
     have HB3:=Qh (HBp.out.thru hb3)
     have Hst3:=Qh (Hst'.out.ext hb3 hx3 hok3)
     have hbq3:=hbq'.trans (hb3.mono hbq'.size)
     have Hkp3:=Qh (hx3.keep Hst'.out.ok (Qn _))
     have hlt3:wr.heap.size<w3.heap.size:=by have:=hb3.size;simp at this;omega
     have Hx3:=Qh (Hx'.out.trans hx3 (by simp;omega))
     have Hst4:=Qh (Hst3.out.set (s':=s2) ht3 hh3)
     clear c0 c1 c2 c3 c4 c5 x0 x1 x2 x3 x4 x5 x6 k0 k1 p1 hb3 hx3 hok3 ht3 hh3 Hap Hst' hbq' HBp
     have r0:=Hst3.out.c0
     have r1:=Hst3.out.c1
     have f0:=Hst3.out.f0
     have f1:=Hst3.out.f1
     have hbs:Below w.heap.size w ((w3.setCell ⟨w.heap.size,0,none⟩ (.slice a3 s2.tree.length d3)).setCell ⟨w.heap.size,1,none⟩ (.slice a4 s2.holds.length d4)):=(hbq3.setCell (Qn _) _).setCell (Qn _) _
     by_cases h3:er3=0
     case neg=>
      have h30:(er3 != 0)=true:=by simpa using h3
      have Hn:=Qh (show E=er3 by
       have h:=Hea.out
       rw [if_pos h3] at h
       have h2:er2=er3:=(Prod.mk.inj h).2.symm
       have h4:=Hca2.out
       rw [h2,if_pos h3] at h4
       exact h4.symm)
      clear h3
      go_wp2
      go_ret
      exact ⟨Xac Hn.out.symm,hbs⟩
     subst h3
     have Hsd:=Qh (fun W hW=>Xrl J3 _ (l.take (k+1)) (((HvJ.out.mono Hkp.out).mono Hkp3.out).takeS (n:=k+1) (by omega)) y _ _ (Hh1.out.mono Hkp3.out) (Hh2.out.mono Hkp3.out) (Hxb.out rfl) W hW)
     have HE4:=Qh (HE3.out.set2 (u:=(.slice a3 s2.tree.length d3)) (v:=(.slice a4 s2.holds.length d4)) hneq)
     have HB4:=Qh (HB3.out.set2 (u:=(.slice a3 s2.tree.length d3)) (v:=(.slice a4 s2.holds.length d4)) hner)
     clear Hst3 HE3 HB3 hbq3
     go_wp2_with fail
     obtain ⟨w4,hw4⟩:∃w4,((w3.setCell ⟨w.heap.size,0,none⟩ (.slice a3 s2.tree.length d3)).setCell ⟨w.heap.size,1,none⟩ (.slice a4 s2.holds.length d4))=w4:=⟨_,rfl⟩
     have hsz4:w4.heap.size=w3.heap.size:=by rw [←hw4];simp
     rw [hw4] at Hst4 HE4 HB4 hbs ⊢
     clear r0 r1 f0 f1 hw4
     obtain ⟨x0,x1,x2,x3,x4,x5,x6⟩:=HE4.out
     have g0:=cell_regrown x0
     have g1:=cell_regrown x1
     have g2:=cell_regrown x2
     have g3:=cell_regrown x3
     have g4:=cell_regrown x4
     have g5:=cell_regrown x5
     have g6:=cell_regrown x6
     have hik:(k:Int)+1≤l.length:=by omega
     refine wp_region_quiet_below (by kernel_rfl) (by kernel_rfl) ?_
     repeat (go_big_quiet_step ((with_reducible exact Calls.regrown_of (Hsd.out _ (Hst4.out.ok.below (Qn _) (below_regrown _ _ _))))))
     refine wpQuiet_nil ?_
     intro w5 hwq
     have hb5:Below (w4).heap.size (w4) w5:=by
      obtain ⟨pq,rfl⟩:=hwq
      exact below_regrown _ _ _
     clear hwq
     have Hst5:=Qh (Hst4.out.below hb5)
     have HB5:=Qh (HB4.out.thru hb5)
     have hb5':=hbs.trans (hb5.mono hbs.size)
     have hlt5:bx<w5.heap.size:=by have:=hb5.size;omega
     clear hb5 hbs g0 g1 g2 g3 g4 g5 g6 x0 x1 x2 x3 x4 x5 x6 HE4 HB4 Hst4 hlt3 hsz4
     cases hsd:storedP (l.take (k+1)) y
     ·have Hn:=Qh (show E=2 by
       have h:=Hea.out
       rw [if_neg (by simp),if_pos hsd] at h
       have h2:er2=2:=(Prod.mk.inj h).2.symm
       have h4:=Hca2.out
       rw [h2,if_pos (by decide)] at h4
       exact h4.symm)
      clear hsd
      go_wp2
      go_ret
      exact ⟨Xac Hn.out.symm,hb5'⟩
     ·have Hn:=Qh (show entsH (l.take (k+1)) x.date s2 (x.ents.drop (j+1))=(R,er2) by
       have h:=Hea.out
       rw [if_neg (by simp),if_neg (by rw [hsd];simp)] at h
       exact h)
      clear hsd
      go_wp2
      go_roundw
      case rel=>exact ⟨j+1,s2,_,_,J3,by omega,by go_num,Hn.out,Hsn2.out,Hst5.out,Hx3.out,HB5.out,fun b c h=>Hkp3.out b c (Hkp.out b c h),hlt5,hb5'⟩
      case measure=>simp [intOf];omega
    ·have hend:(s',(0:Int))=(R,er2):=by have:=HR.out;rwa [List.drop_of_length_le (by omega)] at this
     obtain ⟨rfl,rfl⟩:=Prod.mk.inj hend
     have Hn:=Qh (show chkFromH l (k+1) s' dg x.date (l.drop (k+1))=E by have:=Hca2.out;rwa [if_neg (by simp)] at this)
     clear hend HR Hca2
     go_wp2
     go_roundw
     case rel=>exact ⟨k+1,s',_,_,J',dg,x.date,by omega,by go_num,rfl,rfl,Hn.out,Hsn.out.mono (by omega),Hst.out,Hx'.out,hbq⟩
     case measure=>simp [intOf];omega
  ·have Hn:=Qh (show E=0 by have:=Hce.out;rw [List.drop_of_length_le (by omega)] at this;rw [←this];rfl)
   go_wp2
   go_ret
   exact ⟨Xac Hn.out.symm,hb⟩
theorem Xd1 {I:IH} (W:World) (n:Nat) (hn:n=W.heap.size):OwnS tHo 88 I (W.alloc (.cells #[] 88)) n (.slice (some ⟨n,0,none⟩) 0 0) []:=by
 subst hn
 exact ⟨[],World.ownsRow_made W #[] 0 (Qn _) (Nat.zero_le _) (by simp),LiesL.nil _ _⟩
theorem Xpt {l:List Ho} {p:Bytes} {d:Int} {k:Nat} (hk:k<l.length) {x:Ho} (hx:l[k]=x):heldP (l.take (k+1)) p d=(heldP (l.take k) p d || (decide (d≤x.u)&&under p x.p)):=by
 rw [List.take_succ_eq_append_getElem hk,hx]
 simp [heldP,actP]
theorem Xnw {l:List Ho} {p:Bytes} {d:Int} {k:Nat} (hk:k<l.length) {x:Ho} (hx:l[k]=x):belowP (l.take (k+1)) p d=(belowP (l.take k) p d || (decide (d≤x.u)&&under x.p p)):=by
 rw [List.take_succ_eq_append_getElem hk,hx]
 simp [belowP,actP]
theorem Xrn {l:List Ho} {p:Bytes} {d:Int} {k:Nat} (hk:k<l.length) {x:Ho} (hx:l[k]=x) (h1:decide (d≤x.u)=true) (h2:under p x.p=true):heldP l p d=true:=by
 unfold heldP
 rw [List.any_eq_true]
 exact ⟨x,List.mem_filter.2 ⟨by rw [←hx];exact List.getElem_mem hk,h1⟩,h2⟩
theorem Xp4 {l:List Ho} {p:Bytes} {d:Int} {k:Nat} (hk:k<l.length) {x:Ho} (hx:l[k]=x) (h1:decide (d≤x.u)=true) (h2:under x.p p=true):belowP l p d=true:=by
 unfold belowP
 rw [List.any_eq_true]
 exact ⟨x,List.mem_filter.2 ⟨by rw [←hx];exact List.getElem_mem hk,h1⟩,h2⟩
theorem Xqc {p:Bytes} {l:List Ho} {k:Nat} {u U:Int} {x:Ho} (hk:k<l.length) (hx:l[k]=x) (h:wasH p (l.drop k) u=U):wasH p (l.drop (k+1)) (if x.p=p then x.u else u)=U:=by
 rw [List.drop_eq_getElem_cons hk,hx,wasH] at h;exact h
set_option maxRecDepth 100000 in
set_option maxHeartbeats 1000000 in
theorem Xky (I:IH) (v:Value) (l:List Ho) (hv:RdS tHo I v l) (hn:l.length≤100000) (d:Int) (w:World) (hw:Ok I w):
 Calls Tryz.prog 122 #[v,.int .i64 d] w fun e w'=> ∃v',e= .returned v'∧OwnS tHo 88 I w' w.heap.size v' (actP l d)∧Below w.heap.size w w':=by
 obtain ⟨ao,cap,rfl,hcap,hcm,_⟩:=id hv
 have Hv:=Qh hv;clear hv
 have H0:=Qh (Xd1 (I:=I) w w.heap.size rfl)
 go_enter Tryz.func122,Tryz.ntmps122
 go_wp2_with fail
 go_loopw [5,6] (fun s5 s6 wr=> ∃k:Nat,k≤l.length∧s6= .int .i64 k∧OwnS tHo 88 I wr w.heap.size s5 (actP (l.take k) d)∧Below w.heap.size w wr) (fun _ i _=>l.length-(intOf i).toNat)
 case atStart=>exact ⟨0,Nat.zero_le _,rfl,H0.out,(Qb _ _).alloc (Qn _) _⟩
 case round=>
  clear H0
  obtain ⟨k,hk,rfl,hown,hb⟩:=hrel
  have Hown:=Qh hown
  clear hown
  have hfl:(actP (l.take k) d).length≤k:=Nat.le_trans (List.length_filter_le _ _) (by simp;omega)
  by_cases hlt:k<l.length
  ·obtain ⟨x,b,off,cap',hlx,hvv,c0,c1⟩:=hoAt Hv.out (hw.below (Qn _) hb) k hlt
   cases hvv
   have Hst:=Qh (Xfw (fun h=>decide (d≤h.u)) hlt hlx)
   clear hlx
   cases hq:decide (d≤x.u)
   ·have Hn:=Qh (show actP (l.take (k+1)) d=actP (l.take k) d from Xnj Hst.out hq)
    go_wp2
    go_roundw
    case rel=>exact ⟨k+1,by omega,by go_num,Hown.out.castH Hn.out.symm,hb⟩
    case measure=>simp [intOf];omega
   ·have Hn:=Qh (show actP (l.take (k+1)) d=actP (l.take k) d++ [x] from Xjv Hst.out hq)
    have hs1:=hb.size
    go_wp2_with (at_builtin;refine Xad (w0:=wr) Xbu rfl _ _ rfl _ _ _ rfl Hown.out x [S x.p,.int .i64 x.u] _ rfl rfl (by omega) (by omega) hs1 ?_)
    intro v9 w9 hown9 hg9
    have hb9:=Below.own hb hg9 Hown.out (Qn _) hs1
    go_wp2
    go_roundw
    case rel=>exact ⟨k+1,by omega,by go_num,hown9.castH Hn.out.symm,hb9⟩
    case measure=>simp [intOf];omega
  ·have hall:l.take k=l:=List.take_of_length_le (by omega)
   rw [hall] at Hown
   clear hall hfl
   go_wp2
   go_ret
   exact ⟨_,rfl,Hown.out,hb⟩
set_option maxRecDepth 100000 in
set_option maxHeartbeats 1000000 in
theorem Xpa (I:IH) (v:Value) (l:List Ho) (hv:RdS tHo I v l) (hn:l.length≤100000) (p:Bytes) (d:Int) (w:World) (hw:Ok I w):
 Calls Tryz.prog 121 #[v,S p,.int .i64 d] w fun e w'=>e= .returned (.bool (heldP l p d))∧Below w.heap.size w w':=by
 obtain ⟨ao,cap,rfl,hcap,hcm,_⟩:=id hv
 have Hv:=Qh hv;clear hv
 go_enter Tryz.func121,Tryz.ntmps121
 go_wp2_with fail
 go_loopw [7] (fun s7 wr=> ∃k:Nat,k≤l.length∧s7= .int .i64 k∧heldP (l.take k) p d=false∧Below w.heap.size w wr) (fun i _=>l.length-(intOf i).toNat)
 case atStart=>exact ⟨0,Nat.zero_le _,rfl,rfl,Qb _ _⟩
 case round=>
  obtain ⟨k,hk,rfl,hr,hb⟩:=hrel
  have Hr:=Qh hr;clear hr
  have hwr:Ok I wr:=hw.below (Qn _) hb
  by_cases hlt:k<l.length
  ·obtain ⟨x,b,off,cap',hlx,hvv,c0,c1⟩:=hoAt Hv.out hwr k hlt
   cases hvv
   have Hst:=Qh (Xpt (p:=p) (d:=d) hlt hlx)
   have Hlx:=Qh hlx
   have Hun:=Qh (fun w hw=>Xch I p x.p w hw)
   clear hlx
   cases hq:decide (d≤x.u)
   ·have Hn:=Qh (show heldP (l.take (k+1)) p d=false by rw [Hst.out,Hr.out,hq];rfl)
    go_wp2
    go_roundw
    case rel=>exact ⟨k+1,by omega,by go_num,Hn.out,hb⟩
    case measure=>simp [intOf];omega
   ·go_wp2_with fail
    refine (Hun.out _ hwr).mono ?_
    rintro e1 w1 ⟨rfl,hb1⟩
    have hb1':=hb.trans (hb1.mono hb.size)
    clear hb1
    cases hu:under p x.p
    ·have Hn:=Qh (show heldP (l.take (k+1)) p d=false by rw [Hst.out,Hr.out,hq,hu];rfl)
     go_wp2
     go_roundw
     case rel=>exact ⟨k+1,by omega,by go_num,Hn.out,hb1'⟩
     case measure=>simp [intOf];omega
    ·have Hn:=Qh (Xrn (p:=p) (d:=d) hlt Hlx.out hq hu)
     go_wp2
     go_ret
     exact ⟨Xah Hn.out.symm,hb1'⟩
  ·have Hn:=Qh (show heldP l p d=false by have:=Hr.out;rwa [List.take_of_length_le (by omega)] at this)
   go_wp2
   go_ret
   exact ⟨Xah Hn.out.symm,hb⟩
set_option maxRecDepth 100000 in
set_option maxHeartbeats 2000000 in
theorem Xb3 (I:IH) (v:Value) (l:List Ho) (hv:RdS tHo I v l) (hn:l.length≤100000) (e:Ent) (va vx:Value) (hva:RdS tAt I va e.attrs) (hvx:RdS tXt I vx e.exts) (d:Int) (w:World) (hw:Ok I w):
 Calls Tryz.prog 63 #[v,entV e va vx,.int .i64 d] w fun r w'=>r= .returned (.int .i64 (alwP l e.kind e.path d))∧Below w.heap.size w w':=by
 have Hh:=Qh (fun w hw=>Xpa I v l hv hn e.path d w hw)
 obtain ⟨ao,cap,rfl,hcap,hcm,_⟩:=id hv
 obtain ⟨aa,ca,rfl,_,_,_⟩:=id hva
 obtain ⟨ax,cx,rfl,_,_,_⟩:=id hvx
 have Hv:=Qh hv
 clear hv hva hvx
 by_cases h1:e.kind=1
 ·have k1:((e.kind:Int)==1)=true:=by simpa using h1
  have k4:((e.kind:Int)==4)=false:=by have:e.kind≠4:=by omega
                                      simpa using this
  have Hn:=Qh (show alwP l e.kind e.path d=if heldP l e.path d then 15 else 0 by rw [alwP,if_pos (.inl h1)])
  generalize heldP l e.path d=b at Hh Hn
  clear h1
  go_enter Tryz.func63,Tryz.ntmps63
  go_wp2_with fail
  refine (Hh.out _ (hw.alloc _)).mono ?_
  rintro e1 w1 ⟨rfl,hb1⟩
  have HB1:=Qh (entB (e:=e) rfl hb1)
  have hok1:Ok I w1:=(hw.alloc _).below (Qn _) hb1
  have hb1':=((Qb w.heap.size w).alloc (Qn _) (.cells #[.int .i64 e.kind,S e.path,.slice aa e.attrs.length ca,S e.target,.int .i64 e.size,S e.digest,.slice ax e.exts.length cx] 39)).trans (hb1.mono (by simp))
  clear hb1
  obtain ⟨c0,c1,c2,c3,c4,c5,c6⟩:=HB1.out
  cases b
  ·go_wp2
   go_ret
   exact ⟨Xac Hn.out.symm,hb1'⟩
  ·go_wp2
   go_ret
   exact ⟨Xac Hn.out.symm,hb1'⟩
 have k1:((e.kind:Int)==1)=false:=by simpa using h1
 by_cases h2:e.kind=2
 ·have k2:((e.kind:Int)==2)=true:=by simpa using h2
  have k4:((e.kind:Int)==4)=false:=by have:e.kind≠4:=by omega
                                      simpa using this
  have Hn:=Qh (show alwP l e.kind e.path d=if heldP l e.path d then 15 else 0 by rw [alwP,if_pos (.inr (.inl h2))])
  generalize heldP l e.path d=b at Hh Hn
  clear h1 h2
  go_enter Tryz.func63,Tryz.ntmps63
  go_wp2_with fail
  refine (Hh.out _ (hw.alloc _)).mono ?_
  rintro e1 w1 ⟨rfl,hb1⟩
  have HB1:=Qh (entB (e:=e) rfl hb1)
  have hok1:Ok I w1:=(hw.alloc _).below (Qn _) hb1
  have hb1':=((Qb w.heap.size w).alloc (Qn _) (.cells #[.int .i64 e.kind,S e.path,.slice aa e.attrs.length ca,S e.target,.int .i64 e.size,S e.digest,.slice ax e.exts.length cx] 39)).trans (hb1.mono (by simp))
  clear hb1
  obtain ⟨c0,c1,c2,c3,c4,c5,c6⟩:=HB1.out
  cases b
  ·go_wp2
   go_ret
   exact ⟨Xac Hn.out.symm,hb1'⟩
  ·go_wp2
   go_ret
   exact ⟨Xac Hn.out.symm,hb1'⟩
 have k2:((e.kind:Int)==2)=false:=by simpa using h2
 by_cases h3:e.kind=3
 ·have k3:((e.kind:Int)==3)=true:=by simpa using h3
  have k4:((e.kind:Int)==4)=false:=by have:e.kind≠4:=by omega
                                      simpa using this
  have Hn:=Qh (show alwP l e.kind e.path d=if heldP l e.path d then 15 else 0 by rw [alwP,if_pos (.inr (.inr h3))])
  generalize heldP l e.path d=b at Hh Hn
  clear h1 h2 h3
  go_enter Tryz.func63,Tryz.ntmps63
  go_wp2_with fail
  refine (Hh.out _ (hw.alloc _)).mono ?_
  rintro e1 w1 ⟨rfl,hb1⟩
  have HB1:=Qh (entB (e:=e) rfl hb1)
  have hok1:Ok I w1:=(hw.alloc _).below (Qn _) hb1
  have hb1':=((Qb w.heap.size w).alloc (Qn _) (.cells #[.int .i64 e.kind,S e.path,.slice aa e.attrs.length ca,S e.target,.int .i64 e.size,S e.digest,.slice ax e.exts.length cx] 39)).trans (hb1.mono (by simp))
  clear hb1
  obtain ⟨c0,c1,c2,c3,c4,c5,c6⟩:=HB1.out
  cases b
  ·go_wp2
   go_ret
   exact ⟨Xac Hn.out.symm,hb1'⟩
  ·go_wp2
   go_ret
   exact ⟨Xac Hn.out.symm,hb1'⟩
 have k3:((e.kind:Int)==3)=false:=by simpa using h3
 have hno:¬(e.kind=1∨e.kind=2∨e.kind=3):=fun q=>by omega
 by_cases h4:e.kind=4
 case neg=>
  have k4:((e.kind:Int)==4)=false:=by simpa using h4
  have Hn:=Qh (show alwP l e.kind e.path d=0 by rw [alwP,if_neg hno,if_neg h4])
  clear h1 h2 h3 h4 hno
  go_enter Tryz.func63,Tryz.ntmps63
  go_wp2
  go_ret
  exact ⟨Xac Hn.out.symm,(Qb w.heap.size w).alloc (Qn _) _⟩
 have k4:((e.kind:Int)==4)=true:=by simpa using h4
 have Hn:=Qh (show alwP l e.kind e.path d=if heldP l e.path d || belowP l e.path d then 15 else 0 by rw [alwP,if_neg hno,if_pos h4])
 clear h1 h2 h3 h4 hno
 generalize heldP l e.path d=b at Hh Hn
 go_enter Tryz.func63,Tryz.ntmps63
 go_wp2_with fail
 refine (Hh.out _ (hw.alloc _)).mono ?_
 rintro e1 w1 ⟨rfl,hb1⟩
 have HB1:=Qh (entB (e:=e) rfl hb1)
 have hok1:Ok I w1:=(hw.alloc _).below (Qn _) hb1
 have hb1':=((Qb w.heap.size w).alloc (Qn _) (.cells #[.int .i64 e.kind,S e.path,.slice aa e.attrs.length ca,S e.target,.int .i64 e.size,S e.digest,.slice ax e.exts.length cx] 39)).trans (hb1.mono (by simp))
 clear hb1
 obtain ⟨c0,c1,c2,c3,c4,c5,c6⟩:=HB1.out
 cases b
 case true=>
  go_wp2
  go_ret
  exact ⟨Xac Hn.out.symm,hb1'⟩
 go_wp2_with fail
 clear c0 c1 c2 c3 c4 c5 c6
 go_loopw [8] (fun s8 wr=> ∃k:Nat,k≤l.length∧s8= .int .i64 k∧belowP (l.take k) e.path d=false∧Below w1.heap.size w1 wr) (fun i _=>l.length-(intOf i).toNat)
 case atStart=>exact ⟨0,Nat.zero_le _,rfl,rfl,Qb _ _⟩
 case round=>
  obtain ⟨k,hk,rfl,hr,hb⟩:=hrel
  have Hr:=Qh hr;clear hr
  have hwr:Ok I wr:=hok1.below (Qn _) hb
  have hb':=hb1'.trans (hb.mono hb1'.size)
  by_cases hlt:k<l.length
  ·obtain ⟨x,b,off,cap',hlx,hvv,x0,x1⟩:=hoAt Hv.out hwr k hlt
   cases hvv
   have Hst:=Qh (Xnw (p:=e.path) (d:=d) hlt hlx)
   have Hlx:=Qh hlx
   have Hun:=Qh (fun w hw=>Xch I x.p e.path w hw)
   obtain ⟨c0,c1,c2,c3,c4,c5,c6⟩:=HB1.out.thru hb
   have g1:=cell_regrown c1
   have y0:=cell_regrown x0
   have y1:=cell_regrown x1
   clear hlx c0 c1 c2 c3 c4 c5 c6 x0 x1
   cases hq:decide (d≤x.u)
   ·have Hn2:=Qh (show belowP (l.take (k+1)) e.path d=false by rw [Hst.out,Hr.out,hq];rfl)
    go_wp2_with fail
    refine wp_region_quiet_below (by kernel_rfl) (by kernel_rfl) ?_
    repeat (go_big_quiet_step ((fail)))
    refine wpQuiet_nil ?_
    intro w2 hwq
    have hb2:Below (wr).heap.size (wr) w2:=by
     obtain ⟨pq,rfl⟩:=hwq
     exact below_regrown _ _ _
    clear hwq
    go_wp2
    go_roundw
    case rel=>exact ⟨k+1,by omega,by go_num,Hn2.out,hb.trans (hb2.mono hb.size)⟩
    case measure=>simp [intOf];omega
   ·go_wp2_with fail
    refine wp_region_quiet_below (by kernel_rfl) (by kernel_rfl) ?_
    repeat (go_big_quiet_step ((with_reducible exact Calls.regrown_of (Hun.out _ (hwr.below (Qn _) (below_regrown _ _ _))))))
    refine wpQuiet_nil ?_
    intro w2 hwq
    have hb2:Below (wr).heap.size (wr) w2:=by
     obtain ⟨pq,rfl⟩:=hwq
     exact below_regrown _ _ _
    clear hwq
    have hb2':=hb.trans (hb2.mono hb.size)
    cases hu:under x.p e.path
    ·have Hn2:=Qh (show belowP (l.take (k+1)) e.path d=false by rw [Hst.out,Hr.out,hq,hu];rfl)
     go_wp2
     go_roundw
     case rel=>exact ⟨k+1,by omega,by go_num,Hn2.out,hb2'⟩
     case measure=>simp [intOf];omega
    ·have Hn2:=Qh (show alwP l e.kind e.path d=15 by rw [Hn.out,Xp4 hlt Hlx.out hq hu];rfl)
     go_wp2
     go_ret
     exact ⟨Xac Hn2.out.symm,hb'.trans (hb2.mono hb'.size)⟩
  ·have Hn2:=Qh (show alwP l e.kind e.path d=0 by
    have:=Hr.out
    rw [List.take_of_length_le (by omega)] at this
    rw [Hn.out,this];rfl)
   go_wp2
   go_ret
   exact ⟨Xac Hn2.out.symm,hb'⟩
set_option maxRecDepth 100000 in
set_option maxHeartbeats 1000000 in
theorem Xe2 (I:IH) (v:Value) (l:List Ho) (hv:RdS tHo I v l) (hn:l.length≤100000) (p:Bytes) (w:World) (hw:Ok I w):
 Calls Tryz.prog 124 #[v,S p] w fun e w'=> ∃v',e= .returned (.tuple #[v',.int .i64 (wasH p l (-1))])∧OwnS tHo 88 I w' w.heap.size v' (restH l p)∧Below w.heap.size w w':=by
 obtain ⟨ao,cap,rfl,hcap,hcm,_⟩:=id hv
 have Hv:=Qh hv;clear hv
 have H0:=Qh (Xd1 (I:=I) w w.heap.size rfl)
 obtain ⟨U,hU⟩:∃U,wasH p l (-1)=U:=⟨_,rfl⟩
 rw [hU]
 have HU:=Qh hU
 clear hU
 go_enter Tryz.func124,Tryz.ntmps124
 go_wp2_with fail
 go_loopw [6,7,8] (fun s6 s7 s8 wr=> ∃(k:Nat) (u:Int),k≤l.length∧s8= .int .i64 k∧s7= .int .i64 u∧wasH p (l.drop k) u=U∧OwnS tHo 88 I wr w.heap.size s6 (restH (l.take k) p)∧Below w.heap.size w wr) (fun _ _ i _=>l.length-(intOf i).toNat)
 case atStart=>exact ⟨0,-1,Nat.zero_le _,rfl,rfl,HU.out,H0.out,(Qb _ _).alloc (Qn _) _⟩
 case round=>
  clear H0
  obtain ⟨k,u,hk,rfl,rfl,hu,hown,hb⟩:=hrel
  have Hown:=Qh hown
  have Hu:=Qh hu
  clear hown hu
  have hfl:(restH (l.take k) p).length≤k:=Nat.le_trans (List.length_filter_le _ _) (by simp;omega)
  by_cases hlt:k<l.length
  ·obtain ⟨x,b,off,cap',hlx,hvv,c0,c1⟩:=hoAt Hv.out (hw.below (Qn _) hb) k hlt
   cases hvv
   have Hst:=Qh (Xfw (fun h=> !(h.p==p)) hlt hlx)
   have Hsu:=Qh (Xqc hlt hlx Hu.out)
   clear hlx Hu
   cases hq:(x.p==p)
   ·have Hn:=Qh (show restH (l.take (k+1)) p=restH (l.take k) p++ [x] from Xjv Hst.out (by rw [hq];rfl))
    have Hn2:=Qh (show wasH p (l.drop (k+1)) u=U by have:=Hsu.out;rwa [if_neg (by simpa using hq)] at this)
    have hs1:=hb.size
    go_wp2_with (at_builtin;refine Xad (w0:=wr) Xbu rfl _ _ rfl _ _ _ rfl Hown.out x [S x.p,.int .i64 x.u] _ rfl rfl (by omega) (by omega) hs1 ?_)
    intro v9 w9 hown9 hg9
    have hb9:=Below.own hb hg9 Hown.out (Qn _) hs1
    go_wp2
    go_roundw
    case rel=>exact ⟨k+1,u,by omega,by go_num,rfl,Hn2.out,hown9.castH Hn.out.symm,hb9⟩
    case measure=>simp [intOf];omega
   ·have Hn:=Qh (show restH (l.take (k+1)) p=restH (l.take k) p from Xnj Hst.out (by rw [hq];rfl))
    have Hn2:=Qh (show wasH p (l.drop (k+1)) x.u=U by have:=Hsu.out;rwa [if_pos (by simpa using hq)] at this)
    go_wp2
    go_roundw
    case rel=>exact ⟨k+1,x.u,by omega,by go_num,rfl,Hn2.out,Hown.out.castH Hn.out.symm,hb⟩
    case measure=>simp [intOf];omega
  ·have hall:l.take k=l:=List.take_of_length_le (by omega)
   have hend:u=U:=by have:=Hu.out;rwa [List.drop_of_length_le (by omega)] at this
   rw [hall] at Hown
   subst hend
   clear hall hfl
   go_wp2
   go_ret2
   exact ⟨_,rfl,Hown.out,hb⟩
set_option maxRecDepth 100000 in
set_option maxHeartbeats 1000000 in
theorem Xpb (s:Bytes) (hd:dateOk s=true) (w:World):
 Calls Tryz.prog 123 #[S s] w fun e w'=>e= .returned (.int .i64 (digits s))∧Below w.heap.size w w':=by
 obtain ⟨ha,hne,hall,hz⟩:=Xkc hd
 have hbd:=(Xfg hd).2
 have hlen:=List.length_pos_iff.2 hne
 obtain ⟨p1,p2,p3,p4⟩:=Xcq hne
 have h10:=Xfz hd
 have d10:decide (10<s.length)=false:=Qf (by omega)
 have hx0:=run_at (P:=Tryz.prog) Tryz.underlying9 s 0 0 rfl hlen
 have Hall:=Qh hall
 have hcase:(¬1<s.length∧decide (1<s.length)=false)∨(1<s.length∧decide (1<s.length)=true∧(((s.getD 0 0).toNat:Int)==48)=false):=by
  by_cases h5:1<s.length
  ·right
   refine ⟨h5,Qt h5,?_⟩
   have:((s.getD 0 0).toNat:Int)≠48:=fun e=>by
    have:=hz (by omega)
    rw [this] at h5
    simp at h5
   simpa using this
  ·exact .inl ⟨h5,Qf h5⟩
 obtain ⟨U,hU⟩:∃U,digits s=U:=⟨_,rfl⟩
 have HU:=Qh hU
 rw [hU] at hbd ⊢
 have dU:decide (1000000000<U)=false:=Qf (by omega)
 generalize (s.getD 0 0).toNat=c0 at hx0 hcase
 clear ha hne hall hz hd hU
 rcases hcase with ⟨h5,hd3⟩|⟨h5,hd3,he3⟩
 all_goals
  go_enter Tryz.func123,Tryz.ntmps123
  go_wp2_with fail
  go_loop [3,4] (fun s3 s4=> ∃k:Nat,k≤s.length∧s4= .int .i64 k∧s3= .int .i64 (digits (s.take k))) (fun _ i=>s.length-(intOf i).toNat)
  case atStart=>exact ⟨0,Nat.zero_le _,rfl,rfl⟩
  case round=>
   obtain ⟨k,hk,rfl,rfl⟩:=hrel
   have hdb:=Xl7 k (s.take k) (by rw [List.length_take];omega) (List.all_eq_true.2 fun c hc=>List.all_eq_true.1 Hall.out c (List.mem_of_mem_take hc))
   by_cases hlt:k<s.length
   ·have hx:=run_at (P:=Tryz.prog) Tryz.underlying9 s (k:Int) k rfl hlt
    have hpk:(10:Int) ^ k≤10000000000:=by
     have:(10:Nat) ^ k≤10 ^ 10:=Nat.pow_le_pow_right (by decide) (by omega)
     have h2:((10 ^ k:Nat):Int)≤((10 ^ 10:Nat):Int):=by exact_mod_cast this
     simpa using h2
    have htk:s.take (k+1)=s.take k++ [s.getD k 0]:=by rw [List.take_succ_eq_append_getElem hlt];simp [List.getD,hlt]
    have hds:digits (s.take (k+1))=10*digits (s.take k)+(((s.getD k 0).toNat:Int)-48):=by rw [htk,Xes]
    have hmem:s.getD k 0∈s:=by simp [List.getD,hlt]
    obtain ⟨b1,b2⟩:=Xet (List.all_eq_true.1 Hall.out _ hmem)
    clear htk hmem
    generalize (s.getD k 0).toNat=c at hx hds b1 b2
    generalize digits (s.take k)=n at hdb hds ⊢
    generalize ((10:Int) ^ k)=p10 at hdb hpk
    have Hds:=Qh hds
    have e48:decide ((c:Int)<48)=false:=Qf (by omega)
    have e57:decide (57<(c:Int))=false:=Qf (by omega)
    have m1:IntKind.u8.wrap ((c:Int)-48)=(c:Int)-48:=IntWalk.u8_in _ (by omega)
    have m2:IntKind.i64.wrap ((c:Int)-48)=(c:Int)-48:=IntWalk.i64_in _ (by omega)
    clear hds
    go_wp2
    go_round
    case rel=>exact ⟨k+1,by omega,by go_num,by rw [Hds.out]⟩
    case measure=>simp [intOf];omega
   ·have hend:digits (s.take k)=U:=by rw [List.take_of_length_le (by omega)];exact HU.out
    rw [hend]
    clear hend hdb
    go_wp2
    go_ret
    exact ⟨rfl,Qb _ _⟩
end Go.Proofs.YtdeknddamidldaaGreatDoor
