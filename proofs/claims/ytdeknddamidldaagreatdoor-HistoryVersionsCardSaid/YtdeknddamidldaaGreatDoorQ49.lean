/-
  Walks and laws that the claim's theorem uses: texts AfD, joined; comments out. Conditions: as each theorem says.
-/
import Derived.Test.YtdeknddamidldaaGreatDoorQ34
namespace Go.Proofs.YtdeknddamidldaaGreatDoor
open Go.RowKit
set_option maxRecDepth 100000 in
set_option maxHeartbeats 4000000 in
theorem Xij (I:IH) (v:Value) (L:List Ses) (hv:RdS tSes I v L) (hg:∀x∈L,SesG x) (hn:L.length≤1000) (p:Bytes) (w:World) (hw:Ok I w):
 Calls Tryz.prog 18 #[v,S p] w (RetS tVer I w (verP L p)):=by
 obtain ⟨ao,cap,rfl,hcap,hcm,_⟩:=id hv
 have Hv:=Qh hv
 have Hg:=Qh hg
 clear hv hg
 have hbA:Below w.heap.size w (w.alloc (.cells #[] 43)):=(Qb _ _).alloc (Qn _) _
 have H0:=Qh (StM.new (T:=69) (hw.alloc (.cells #[] 43)) rfl)
 rw [World.size_alloc] at H0
 have HG0:=Qh (show GatV w.heap.size (w.heap.size+1) I (w.alloc (.cells #[] 43)) (.slice (some ⟨w.heap.size,0,none⟩) 0 0) [] from
  ⟨⟨[],World.ownsRow_made w #[] 0 (Qn _) (Nat.zero_le _) (by simp),LiesL.nil _ _⟩,by simp [Value.ownBlock],fun g hg=>by simp [Value.ownBlock] at hg;exact hw.fresh (by omega)⟩)
 go_enter Tryz.func18,Tryz.ntmps18
 go_wp2_with fail
 go_loopw [5,17] (fun s5 s17 wr=> ∃(k:Nat) (vt vh:Value) (J:IH),k≤L.length∧s17= .int .i64 k∧StM 69 (w.heap.size+1) J wr (aftS nilS (L.take k)) vt vh∧GatV w.heap.size (w.heap.size+1) J wr s5 (verFrom p nilS (L.take k))∧Ext w.heap.size I J∧Below w.heap.size w wr) (fun _ i _=>L.length-(intOf i).toNat)
 case atStart=>exact ⟨0,_,_,I,Nat.zero_le _,rfl,H0.out,HG0.out.past _,Ext.refl _ _,hbA.alloc hbA.size _⟩
 case round=>
  clear H0 HG0 hbA
  obtain ⟨k,vt,vh,J,hk,rfl,hst,hgv,hx,hb⟩:=hrel
  have Hst:=Qh hst
  have HGv:=Qh hgv
  have Hx:=Qh hx
  have hokr:Ok J wr:=hst.ok
  have hltr:=hst.lt
  have HvJ:=Qh (Hv.out.mono (hx.keep hw (Qn _)))
  have hvl:=Xn5 p (L.take k) nilS fun y hy=>(Hg.out y (List.mem_of_mem_take hy)).nents
  rw [List.length_take] at hvl
  clear hst hgv hx
  by_cases hlt:k<L.length
  ·obtain ⟨x,ve,b,off,cap',hlx,hvv,⟨c0,c1,c2,c3,c4,c5⟩,h1⟩:=Xdc HvJ.out hokr k hlt
   cases hvv
   obtain ⟨oe,ce,rfl,_,_,_⟩:=id h1
   have Hxg:=Qh (Hg.out x (by rw [←hlx];exact List.getElem_mem hlt))
   have Hve:=Qh h1
   have hsn0:SIn (0+30*(L.take k).length) (aftS nilS (L.take k)):=Xnz (L.take k) Xg8 fun y hy=>Hg.out y (List.mem_of_mem_take hy)
   have hsn1:SIn (30*k) (aftS nilS (L.take k)):=hsn0.mono (by rw [List.length_take];omega)
   have Hsn:=Qh hsn1
   have Hat:=Qh (Xov (s:=nilS) hlt hlx)
   have Hvt:=Qh (Xqf (p:=p) (s:=nilS) hlt hlx)
   generalize aftS nilS (L.take k)=s0 at Hst Hsn Hat Hvt
   generalize verFrom p nilS (L.take k)=o0 at HGv Hvt hvl
   have HB1:=Qh (sesB (W:=wr) (s:=x) (ve:= .slice oe x.ents.length ce) (t:=47) rfl (Qb _ _))
   have Hst1:=Qh (Hst.out.past (.cells #[.int .i64 x.num,.int .i64 x.date,S x.prev,.slice oe x.ents.length ce,S x.stream,S x.sl] 47))
   have HG1:=Qh (HGv.out.past (.cells #[.int .i64 x.num,.int .i64 x.date,S x.prev,.slice oe x.ents.length ce,S x.stream,S x.sl] 47))
   have hnb1:u5.ownBlock≠some wr.heap.size:=fun e=>by have:=(Xjq HGv.out.own e).2;omega
   have hb1:=hb.alloc hb.size (.cells #[.int .i64 x.num,.int .i64 x.date,S x.prev,.slice oe x.ents.length ce,S x.stream,S x.sl] 47)
   have hlt1:wr.heap.size<(wr.alloc (.cells #[.int .i64 x.num,.int .i64 x.date,S x.prev,.slice oe x.ents.length ce,S x.stream,S x.sl] 47)).heap.size:=by simp
   clear hlx h1 hsn0 hsn1 Hst HGv hokr
   go_wp2_with fail
   clear c0 c1 c2 c3 c4 c5
   generalize wr.heap.size=bx at HB1 hlt1 hltr hnb1 ⊢
   go_loopw [5,24] (fun s5 s24 wq=> ∃(j:Nat) (vt' vh':Value) (J':IH),j≤x.ents.length∧s24= .int .i64 j∧StM 69 (w.heap.size+1) J' wq (runS s0 x.date (x.ents.take j)) vt' vh'∧GatV w.heap.size (w.heap.size+1) J' wq s5 (o0++verS x.num x.date p s0 (x.ents.take j))∧s5.ownBlock≠some bx∧Ext w.heap.size I J'∧SesB wq bx x (.slice oe x.ents.length ce)∧(∀b c,J b=some c→J' b=some c)∧bx<wq.heap.size∧Below w.heap.size w wq) (fun _ i _=>x.ents.length-(intOf i).toNat)
   case atStart=>exact ⟨0,vt,vh,J,Nat.zero_le _,rfl,Hst1.out,by simpa [verS] using HG1.out,hnb1,Hx.out,HB1.out,fun _ _ h=>h,hlt1,hb1⟩
   case round=>
    clear Hst1 HB1 hb1 hlt1 HG1 hnb1
    obtain ⟨j,vt',vh',J',hj,rfl,hst,hgv,hnbx,hx,hB,hkp,hltq,hbq⟩:=hrel
    have Hst:=Qh hst
    have HGv:=Qh hgv
    have HB:=Qh hB
    have Hx':=Qh hx
    have Hkp:=Qh hkp
    have Hnbx0:=Qh hnbx
    have hok:Ok J' wr:=hst.ok
    clear hst hB hx hkp hgv hnbx
    obtain ⟨c0,c1,c2,c3,c4,c5⟩:=HB.out
    by_cases hjt:j<x.ents.length
    ·obtain ⟨y,vya,vyx,b9,off9,cap9,hly,hvv,⟨x0,x1,x2,x3,x4,x5,x6⟩,h1,h2⟩:=Xbt (Hve.out.mono Hkp.out) hok j hjt
     cases hvv
     obtain ⟨xa,xc,rfl,_,_,_⟩:=id h1
     obtain ⟨xx,xd,rfl,_,_,_⟩:=id h2
     obtain ⟨t1,tc1,rfl,_,_,_⟩:=id Hst.out.tree
     obtain ⟨u1,uc1,rfl,_,_,_⟩:=id Hst.out.holds
     have hmem:y∈x.ents:=by rw [←hly];exact List.getElem_mem hjt
     have Hmem:=Qh hmem
     have hsj:SIn (30*k+(x.ents.take j).length) (runS s0 x.date (x.ents.take j)):=Xjn (x.ents.take j) Hsn.out x.date fun e he=>⟨Hxg.out.path e (List.mem_of_mem_take he),Hxg.out.target e (List.mem_of_mem_take he)⟩
     have hn30:=Hxg.out.nents
     have hsk:SIn (30*k+30) (runS s0 x.date (x.ents.take j)):=hsj.mono (by rw [List.length_take];omega)
     have Hsk:=Qh hsk
     have Hrt:=Qh (Xn7 (s:=s0) (d:=x.date) hjt hly)
     have Hvs:=Qh (Xqe (num:=x.num) (d:=x.date) (p:=p) (s:=s0) hjt hly)
     have hpy:=Hxg.out.path y hmem
     have hty:=Hxg.out.target y hmem
     have hxl:=Hxg.out.exts y hmem
     have hky:=(Hxg.out.wf y hmem)
     have hk0:=hky.k0
     have hk1:=hky.k1
     have htl:=hsk.ok.tlen
     have hhl:=hsk.ok.hlen
     have hvl2:=Xjc x.num x.date p (x.ents.take j) s0
     rw [List.length_take] at hvl2
     have hol:(o0++verS x.num x.date p s0 (x.ents.take j)).length≤60060:=by rw [List.length_append];omega
     have Hout0:=Qh (show o0++verS x.num x.date p s0 (x.ents.take (j+1))=(o0++verS x.num x.date p s0 (x.ents.take j))++if verHit (runS s0 x.date (x.ents.take j)) p y then [⟨x.num,x.date,y⟩] else [] by rw [Hvs.out,List.append_assoc])
     generalize runS s0 x.date (x.ents.take j)=s' at Hst Hsk Hrt htl hhl Hout0
     generalize o0++verS x.num x.date p s0 (x.ents.take j)=o1 at HGv Hout0 hol
     have Hh1:=Qh h1
     have Hh2:=Qh h2
     obtain ⟨s2,er3,hs2⟩:∃s2 er3,stpP s' y x.date=(s2,er3):=⟨_,_,rfl⟩
     rw [hs2] at Hrt
     have Hs2:=Qh hs2
     have hner:bx≠w.heap.size+1:=by omega
     have Hge:=Qh (Xbz J' _ s'.tree Hst.out.tree p (wr.alloc (.cells #[.int .i64 y.kind,S y.path,.slice xa y.attrs.length xc,S y.target,.int .i64 y.size,S y.digest,.slice xx y.exts.length xd] 39)) (hok.alloc _))
     have Hgb:=Qh (Xc9 s'.tree p)
     obtain ⟨gx,gb,hge⟩:∃gx gb,getE s'.tree p=(gx,gb):=⟨_,_,rfl⟩
     rw [hge] at Hge Hgb
     have HE1:=Qh (entB (W:=wr) (e:=y) (va:= .slice xa y.attrs.length xc) (vx:= .slice xx y.exts.length xd) (t:=39) rfl (Qb _ _))
     have Hst1:=Qh (Hst.out.past (.cells #[.int .i64 y.kind,S y.path,.slice xa y.attrs.length xc,S y.target,.int .i64 y.size,S y.digest,.slice xx y.exts.length xd] 39))
     have HG1:=Qh (HGv.out.past (.cells #[.int .i64 y.kind,S y.path,.slice xa y.attrs.length xc,S y.target,.int .i64 y.size,S y.digest,.slice xx y.exts.length xd] 39))
     have HB1:=Qh (HB.out.past (.cells #[.int .i64 y.kind,S y.path,.slice xa y.attrs.length xc,S y.target,.int .i64 y.size,S y.digest,.slice xx y.exts.length xd] 39))
     have hb1:=hbq.alloc hbq.size (.cells #[.int .i64 y.kind,S y.path,.slice xa y.attrs.length xc,S y.target,.int .i64 y.size,S y.digest,.slice xx y.exts.length xd] 39)
     have hvlt:∀g,u5.ownBlock=some g→g<wr.heap.size:=fun g e=>(Xjq HGv.out.own e).2
     have hnby:u5.ownBlock≠some wr.heap.size:=fun e=>by have:=hvlt _ e;omega
     have k0:=Hst1.out.c0
     have k1:=Hst1.out.c1
     clear hly h1 h2 hmem hsj hsk hs2 hge hvl2 Hst HGv HB hok hbq hvlt hky c0 c1 c2 c3 c4 c5
     go_wp2_with fail
     refine Hge.out.mono ?_
     rintro e2 w2 ⟨ga,gv,rfl,hg1,hg2,hb2⟩
     obtain ⟨oa,oc,rfl,_,_,_⟩:=id hg1
     obtain ⟨ox,od,rfl,_,_,_⟩:=id hg2
     have HST:=Qh ((Hst1.out.below hb2).past (.cells #[.int .i64 gx.kind,S gx.path,.slice oa gx.attrs.length oc,S gx.target,.int .i64 gx.size,S gx.digest,.slice ox gx.exts.length od] 39))
     have HGV:=Qh ((HG1.out.below hb2).past (.cells #[.int .i64 gx.kind,S gx.path,.slice oa gx.attrs.length oc,S gx.target,.int .i64 gx.size,S gx.digest,.slice ox gx.exts.length od] 39))
     have HSB:=Qh ((HB1.out.thru hb2).past (.cells #[.int .i64 gx.kind,S gx.path,.slice oa gx.attrs.length oc,S gx.target,.int .i64 gx.size,S gx.digest,.slice ox gx.exts.length od] 39))
     have HEB:=Qh ((HE1.out.thru hb2).past (.cells #[.int .i64 gx.kind,S gx.path,.slice oa gx.attrs.length oc,S gx.target,.int .i64 gx.size,S gx.digest,.slice ox gx.exts.length od] 39))
     have hbW:=(hb1.trans (hb2.mono hb1.size)).alloc (hb1.trans (hb2.mono hb1.size)).size (.cells #[.int .i64 gx.kind,S gx.path,.slice oa gx.attrs.length oc,S gx.target,.int .i64 gx.size,S gx.digest,.slice ox gx.exts.length od] 39)
     have hby:wr.heap.size<(w2.alloc (.cells #[.int .i64 gx.kind,S gx.path,.slice oa gx.attrs.length oc,S gx.target,.int .i64 gx.size,S gx.digest,.slice ox gx.exts.length od] 39)).heap.size:=by have:=hb2.size;simp at this;simp;omega
     clear k0 k1 x0 x1 x2 x3 x4 x5 x6 hb2 hb1 Hst1 HG1 HB1 HE1 hg1 hg2 Hge
     have hbxW:bx<(w2.alloc (.cells #[.int .i64 gx.kind,S gx.path,.slice oa gx.attrs.length oc,S gx.target,.int .i64 gx.size,S gx.digest,.slice ox gx.exts.length od] 39)).heap.size:=by omega
     generalize wr.heap.size=wy at HEB hby hnby hltq ⊢
     by_cases hk3:y.kind≤3
     ·have d1:decide (y.kind≤3)=true:=Qt hk3
      by_cases hp:y.path=p
      ·have e1:(y.path==p)=true:=by simpa using hp
       have Hout:=Qh (show o0++verS x.num x.date p s0 (x.ents.take (j+1))=o1++ [⟨x.num,x.date,y⟩] by rw [Hout0.out,if_pos (by rw [Xgn hk3];exact e1)])
       clear hk3 hp Hout0
       obtain ⟨c0,c1,c2,c3,c4,c5⟩:=HSB.out
       obtain ⟨x0,x1,x2,x3,x4,x5,x6⟩:=HEB.out
       go_wp2_with (at_builtin;refine Xaz (w0:=(w2.alloc (.cells #[.int .i64 gx.kind,S gx.path,.slice oa gx.attrs.length oc,S gx.target,.int .i64 gx.size,S gx.digest,.slice ox gx.exts.length od] 39))) Xgj rfl _ _ rfl w.heap.size _ _ rfl HGV.out.own (⟨x.num,x.date,y⟩:Ver) (verCs ⟨x.num,x.date,y⟩ (.slice xa y.attrs.length xc) (.slice xx y.exts.length xd)) _ (by first|rfl|simp [Act.eval]) ⟨_,_,rfl,Hh1.out,Hh2.out⟩ (by omega) (by omega) hbW.size ?_)
       intro v9 w9 ho9 hg9 hl9
       replace hl9:∀g,v9.ownBlock=some g→u5.ownBlock=some g∨(w2.alloc (.cells #[.int .i64 gx.kind,S gx.path,.slice oa gx.attrs.length oc,S gx.target,.int .i64 gx.size,S gx.digest,.slice ox gx.exts.length od] 39)).heap.size≤g:=by first|exact hl9|simpa using hl9
       have hbx9:bx<w9.heap.size:=Nat.lt_of_lt_of_le hbxW hg9.size
       have HG9:=Qh (GatV.added HGV.out HST.out.ok HST.out.lt ho9 hl9)
       replace HST:=Qh (HGV.out.stm HST.out hg9)
       replace HSB:=Qh (HSB.out.own hg9 Hnbx0.out)
       replace HEB:=Qh (HEB.out.own hg9 hnby)
       have Hnbx:=Qh (show v9.ownBlock≠some bx from fun e=>by rcases hl9 _ e with h|h;exact Hnbx0.out h;omega)
       replace hbW:=Below.own hbW hg9 HGV.out.own (Qn _) hbW.size
       replace HGV:=HG9
       clear c0 c1 c2 c3 c4 c5 x0 x1 x2 x3 x4 x5 x6 ho9 hg9 hl9 HG9 hnby
       obtain ⟨k0',k1'⟩:=And.intro HST.out.c0 HST.out.c1
       obtain ⟨c0,c1,c2,c3,c4,c5⟩:=HSB.out
       obtain ⟨x0,x1,x2,x3,x4,x5,x6⟩:=HEB.out
       have hokW:=HST.out.ok
       have Hap:=Qh (Xa5 J' s' _ _ HST.out.tree HST.out.holds Hsk.out.sml (by omega) Hsk.out.ok.holds (by omega) y _ _ Hh1.out Hh2.out (Hxg.out.wf y Hmem.out) (by omega) (by omega) x.date w9 hokW)
       rw [Hs2.out] at Hap
       go_wp2_with fail
       refine Hap.out.mono ?_
       rintro e3 w3 ⟨v3,v4,J3,rfl,hb3,hx3,hok3,ht3,hh3⟩
       obtain ⟨a3,d3,rfl,_,_,_⟩:=id ht3
       obtain ⟨a4,d4,rfl,_,_,_⟩:=id hh3
       have HB3:=Qh (HSB.out.thru hb3)
       have Hst3:=Qh (HST.out.ext hb3 hx3 hok3)
       have HG3:=Qh (HGV.out.ext hb3 hokW hx3)
       have hbq3:=hbW.trans (hb3.mono hbW.size)
       have Hkp3:=Qh (hx3.keep hokW (Qn _))
       have hlt3:=hb3.size
       have Hx3:=Qh (Hx'.out.trans hx3 (by have:=hbW.size;omega))
       have Hst4:=Qh (Hst3.out.set (s':=s2) ht3 hh3)
       have hneb:∀g,g=bx→g<w3.heap.size:=fun g e=>by omega
       clear c0 c1 c2 c3 c4 c5 x0 x1 x2 x3 x4 x5 x6 k0' k1' hb3 hx3 hok3 ht3 hh3 Hap HEB
       have r0:=Hst3.out.c0
       have r1:=Hst3.out.c1
       have f0:=Hst3.out.f0
       have f1:=Hst3.out.f1
       have hbs:Below w.heap.size w ((w3.setCell ⟨w.heap.size+1,0,none⟩ (.slice a3 s2.tree.length d3)).setCell ⟨w.heap.size+1,1,none⟩ (.slice a4 s2.holds.length d4)):=(hbq3.setCell (by simp) _).setCell (by simp) _
       have HB4:=Qh (HB3.out.set2 (u:=(.slice a3 s2.tree.length d3)) (v:=(.slice a4 s2.holds.length d4)) hner)
       have HG4:=Qh (HG3.out.set (.slice a3 s2.tree.length d3) (.slice a4 s2.holds.length d4))
       clear HB3 hbW HG3 HST HSB HGV hokW
       go_wp2
       go_roundw
       case rel=>exact ⟨j+1,_,_,J3,by omega,by go_num,by rw [Hrt.out];exact Hst4.out,by rw [Hout.out];exact HG4.out,Hnbx.out,Hx3.out,HB4.out,fun b c h=>Hkp3.out b c (Hkp.out b c h),by simp;omega,hbs⟩
       case measure=>simp [intOf];omega
      ·have e1:(y.path==p)=false:=by simpa using hp
       have e4:(y.kind==4)=false:=by have:y.kind≠4:=by omega
                                     simpa using this
       have Hout:=Qh (show o0++verS x.num x.date p s0 (x.ents.take (j+1))=o1 by rw [Hout0.out,if_neg (by rw [Xgn hk3,e1];simp),List.append_nil])
       have Hnbx:=Hnbx0
       clear hk3 hp Hout0
       obtain ⟨k0',k1'⟩:=And.intro HST.out.c0 HST.out.c1
       obtain ⟨c0,c1,c2,c3,c4,c5⟩:=HSB.out
       obtain ⟨x0,x1,x2,x3,x4,x5,x6⟩:=HEB.out
       have hokW:=HST.out.ok
       have Hap:=Qh (Xa5 J' s' _ _ HST.out.tree HST.out.holds Hsk.out.sml (by omega) Hsk.out.ok.holds (by omega) y _ _ Hh1.out Hh2.out (Hxg.out.wf y Hmem.out) (by omega) (by omega) x.date (w2.alloc (.cells #[.int .i64 gx.kind,S gx.path,.slice oa gx.attrs.length oc,S gx.target,.int .i64 gx.size,S gx.digest,.slice ox gx.exts.length od] 39)) hokW)
       rw [Hs2.out] at Hap
       go_wp2_with fail
       refine Hap.out.mono ?_
       rintro e3 w3 ⟨v3,v4,J3,rfl,hb3,hx3,hok3,ht3,hh3⟩
       obtain ⟨a3,d3,rfl,_,_,_⟩:=id ht3
       obtain ⟨a4,d4,rfl,_,_,_⟩:=id hh3
       have HB3:=Qh (HSB.out.thru hb3)
       have Hst3:=Qh (HST.out.ext hb3 hx3 hok3)
       have HG3:=Qh (HGV.out.ext hb3 hokW hx3)
       have hbq3:=hbW.trans (hb3.mono hbW.size)
       have Hkp3:=Qh (hx3.keep hokW (Qn _))
       have hlt3:=hb3.size
       have Hx3:=Qh (Hx'.out.trans hx3 (by have:=hbW.size;omega))
       have Hst4:=Qh (Hst3.out.set (s':=s2) ht3 hh3)
       have hneb:∀g,g=bx→g<w3.heap.size:=fun g e=>by omega
       clear c0 c1 c2 c3 c4 c5 x0 x1 x2 x3 x4 x5 x6 k0' k1' hb3 hx3 hok3 ht3 hh3 Hap HEB
       have r0:=Hst3.out.c0
       have r1:=Hst3.out.c1
       have f0:=Hst3.out.f0
       have f1:=Hst3.out.f1
       have hbs:Below w.heap.size w ((w3.setCell ⟨w.heap.size+1,0,none⟩ (.slice a3 s2.tree.length d3)).setCell ⟨w.heap.size+1,1,none⟩ (.slice a4 s2.holds.length d4)):=(hbq3.setCell (by simp) _).setCell (by simp) _
       have HB4:=Qh (HB3.out.set2 (u:=(.slice a3 s2.tree.length d3)) (v:=(.slice a4 s2.holds.length d4)) hner)
       have HG4:=Qh (HG3.out.set (.slice a3 s2.tree.length d3) (.slice a4 s2.holds.length d4))
       clear HB3 hbW HG3 HST HSB HGV hokW
       go_wp2
       go_roundw
       case rel=>exact ⟨j+1,_,_,J3,by omega,by go_num,by rw [Hrt.out];exact Hst4.out,by rw [Hout.out];exact HG4.out,Hnbx.out,Hx3.out,HB4.out,fun b c h=>Hkp3.out b c (Hkp.out b c h),by simp;omega,hbs⟩
       case measure=>simp [intOf];omega
     have d1:decide (y.kind≤3)=false:=Qf hk3
     by_cases h4:y.kind=4
     case neg=>
      have e4:(y.kind==4)=false:=by simpa using h4
      have Hout:=Qh (show o0++verS x.num x.date p s0 (x.ents.take (j+1))=o1 by rw [Hout0.out,if_neg (by rw [Xoi (by omega)];simp),List.append_nil])
      have Hnbx:=Hnbx0
      clear hk3 h4 Hout0
      obtain ⟨k0',k1'⟩:=And.intro HST.out.c0 HST.out.c1
      obtain ⟨c0,c1,c2,c3,c4,c5⟩:=HSB.out
      obtain ⟨x0,x1,x2,x3,x4,x5,x6⟩:=HEB.out
      have hokW:=HST.out.ok
      have Hap:=Qh (Xa5 J' s' _ _ HST.out.tree HST.out.holds Hsk.out.sml (by omega) Hsk.out.ok.holds (by omega) y _ _ Hh1.out Hh2.out (Hxg.out.wf y Hmem.out) (by omega) (by omega) x.date (w2.alloc (.cells #[.int .i64 gx.kind,S gx.path,.slice oa gx.attrs.length oc,S gx.target,.int .i64 gx.size,S gx.digest,.slice ox gx.exts.length od] 39)) hokW)
      rw [Hs2.out] at Hap
      go_wp2_with fail
      refine Hap.out.mono ?_
      rintro e3 w3 ⟨v3,v4,J3,rfl,hb3,hx3,hok3,ht3,hh3⟩
      obtain ⟨a3,d3,rfl,_,_,_⟩:=id ht3
      obtain ⟨a4,d4,rfl,_,_,_⟩:=id hh3
      have HB3:=Qh (HSB.out.thru hb3)
      have Hst3:=Qh (HST.out.ext hb3 hx3 hok3)
      have HG3:=Qh (HGV.out.ext hb3 hokW hx3)
      have hbq3:=hbW.trans (hb3.mono hbW.size)
      have Hkp3:=Qh (hx3.keep hokW (Qn _))
      have hlt3:=hb3.size
      have Hx3:=Qh (Hx'.out.trans hx3 (by have:=hbW.size;omega))
      have Hst4:=Qh (Hst3.out.set (s':=s2) ht3 hh3)
      have hneb:∀g,g=bx→g<w3.heap.size:=fun g e=>by omega
      clear c0 c1 c2 c3 c4 c5 x0 x1 x2 x3 x4 x5 x6 k0' k1' hb3 hx3 hok3 ht3 hh3 Hap HEB
      have r0:=Hst3.out.c0
      have r1:=Hst3.out.c1
      have f0:=Hst3.out.f0
      have f1:=Hst3.out.f1
      have hbs:Below w.heap.size w ((w3.setCell ⟨w.heap.size+1,0,none⟩ (.slice a3 s2.tree.length d3)).setCell ⟨w.heap.size+1,1,none⟩ (.slice a4 s2.holds.length d4)):=(hbq3.setCell (by simp) _).setCell (by simp) _
      have HB4:=Qh (HB3.out.set2 (u:=(.slice a3 s2.tree.length d3)) (v:=(.slice a4 s2.holds.length d4)) hner)
      have HG4:=Qh (HG3.out.set (.slice a3 s2.tree.length d3) (.slice a4 s2.holds.length d4))
      clear HB3 hbW HG3 HST HSB HGV hokW
      go_wp2
      go_roundw
      case rel=>exact ⟨j+1,_,_,J3,by omega,by go_num,by rw [Hrt.out];exact Hst4.out,by rw [Hout.out];exact HG4.out,Hnbx.out,Hx3.out,HB4.out,fun b c h=>Hkp3.out b c (Hkp.out b c h),by simp;omega,hbs⟩
      case measure=>simp [intOf];omega
     have e4:(y.kind==4)=true:=by simpa using h4
     cases gb with
     |false=>
      have Hout:=Qh (show o0++verS x.num x.date p s0 (x.ents.take (j+1))=o1 by rw [Hout0.out,if_neg (by rw [Xj1 h4,←Hgb.out];simp),List.append_nil])
      have Hnbx:=Hnbx0
      clear hk3 h4 Hout0
      obtain ⟨k0',k1'⟩:=And.intro HST.out.c0 HST.out.c1
      obtain ⟨c0,c1,c2,c3,c4,c5⟩:=HSB.out
      obtain ⟨x0,x1,x2,x3,x4,x5,x6⟩:=HEB.out
      have hokW:=HST.out.ok
      have Hap:=Qh (Xa5 J' s' _ _ HST.out.tree HST.out.holds Hsk.out.sml (by omega) Hsk.out.ok.holds (by omega) y _ _ Hh1.out Hh2.out (Hxg.out.wf y Hmem.out) (by omega) (by omega) x.date (w2.alloc (.cells #[.int .i64 gx.kind,S gx.path,.slice oa gx.attrs.length oc,S gx.target,.int .i64 gx.size,S gx.digest,.slice ox gx.exts.length od] 39)) hokW)
      rw [Hs2.out] at Hap
      go_wp2_with fail
      refine Hap.out.mono ?_
      rintro e3 w3 ⟨v3,v4,J3,rfl,hb3,hx3,hok3,ht3,hh3⟩
      obtain ⟨a3,d3,rfl,_,_,_⟩:=id ht3
      obtain ⟨a4,d4,rfl,_,_,_⟩:=id hh3
      have HB3:=Qh (HSB.out.thru hb3)
      have Hst3:=Qh (HST.out.ext hb3 hx3 hok3)
      have HG3:=Qh (HGV.out.ext hb3 hokW hx3)
      have hbq3:=hbW.trans (hb3.mono hbW.size)
      have Hkp3:=Qh (hx3.keep hokW (Qn _))
      have hlt3:=hb3.size
      have Hx3:=Qh (Hx'.out.trans hx3 (by have:=hbW.size;omega))
      have Hst4:=Qh (Hst3.out.set (s':=s2) ht3 hh3)
      have hneb:∀g,g=bx→g<w3.heap.size:=fun g e=>by omega
      clear c0 c1 c2 c3 c4 c5 x0 x1 x2 x3 x4 x5 x6 k0' k1' hb3 hx3 hok3 ht3 hh3 Hap HEB
      have r0:=Hst3.out.c0
      have r1:=Hst3.out.c1
      have f0:=Hst3.out.f0
      have f1:=Hst3.out.f1
      have hbs:Below w.heap.size w ((w3.setCell ⟨w.heap.size+1,0,none⟩ (.slice a3 s2.tree.length d3)).setCell ⟨w.heap.size+1,1,none⟩ (.slice a4 s2.holds.length d4)):=(hbq3.setCell (by simp) _).setCell (by simp) _
      have HB4:=Qh (HB3.out.set2 (u:=(.slice a3 s2.tree.length d3)) (v:=(.slice a4 s2.holds.length d4)) hner)
      have HG4:=Qh (HG3.out.set (.slice a3 s2.tree.length d3) (.slice a4 s2.holds.length d4))
      clear HB3 hbW HG3 HST HSB HGV hokW
      go_wp2
      go_roundw
      case rel=>exact ⟨j+1,_,_,J3,by omega,by go_num,by rw [Hrt.out];exact Hst4.out,by rw [Hout.out];exact HG4.out,Hnbx.out,Hx3.out,HB4.out,fun b c h=>Hkp3.out b c (Hkp.out b c h),by simp;omega,hbs⟩
      case measure=>simp [intOf];omega
     |true=>
      have Hun:=Qh (Xch J' p y.path (w2.alloc (.cells #[.int .i64 gx.kind,S gx.path,.slice oa gx.attrs.length oc,S gx.target,.int .i64 gx.size,S gx.digest,.slice ox gx.exts.length od] 39)) HST.out.ok)
      have Hout1:=Qh (show o0++verS x.num x.date p s0 (x.ents.take (j+1))=o1++if under p y.path then [⟨x.num,x.date,y⟩] else [] by rw [Hout0.out,Xj1 h4,←Hgb.out];rfl)
      obtain ⟨x0,x1,x2,x3,x4,x5,x6⟩:=HEB.out
      clear hk3 h4 Hout0
      go_wp2_with fail
      refine Hun.out.mono ?_
      rintro eu wu ⟨rfl,hbu⟩
      replace HST:=Qh (HST.out.below hbu)
      replace HGV:=Qh (HGV.out.below hbu)
      replace HSB:=Qh (HSB.out.thru hbu)
      replace HEB:=Qh (HEB.out.thru hbu)
      replace hbW:=hbW.trans (hbu.mono hbW.size)
      replace hby:wy<wu.heap.size:=by have:=hbu.size;omega
      replace hbxW:bx<wu.heap.size:=by have:=hbu.size;omega
      clear x0 x1 x2 x3 x4 x5 x6 hbu Hun
      cases hu:under p y.path
      ·rw [hu] at Hout1
       have Hout:=Qh (show o0++verS x.num x.date p s0 (x.ents.take (j+1))=o1 by rw [Hout1.out];simp)
       have Hnbx:=Hnbx0
       clear hu Hout1
       obtain ⟨k0',k1'⟩:=And.intro HST.out.c0 HST.out.c1
       obtain ⟨c0,c1,c2,c3,c4,c5⟩:=HSB.out
       obtain ⟨x0,x1,x2,x3,x4,x5,x6⟩:=HEB.out
       have hokW:=HST.out.ok
       have Hap:=Qh (Xa5 J' s' _ _ HST.out.tree HST.out.holds Hsk.out.sml (by omega) Hsk.out.ok.holds (by omega) y _ _ Hh1.out Hh2.out (Hxg.out.wf y Hmem.out) (by omega) (by omega) x.date wu hokW)
       rw [Hs2.out] at Hap
       go_wp2_with fail
       refine Hap.out.mono ?_
       rintro e3 w3 ⟨v3,v4,J3,rfl,hb3,hx3,hok3,ht3,hh3⟩
       obtain ⟨a3,d3,rfl,_,_,_⟩:=id ht3
       obtain ⟨a4,d4,rfl,_,_,_⟩:=id hh3
       have HB3:=Qh (HSB.out.thru hb3)
       have Hst3:=Qh (HST.out.ext hb3 hx3 hok3)
       have HG3:=Qh (HGV.out.ext hb3 hokW hx3)
       have hbq3:=hbW.trans (hb3.mono hbW.size)
       have Hkp3:=Qh (hx3.keep hokW (Qn _))
       have hlt3:=hb3.size
       have Hx3:=Qh (Hx'.out.trans hx3 (by have:=hbW.size;omega))
       have Hst4:=Qh (Hst3.out.set (s':=s2) ht3 hh3)
       have hneb:∀g,g=bx→g<w3.heap.size:=fun g e=>by omega
       clear c0 c1 c2 c3 c4 c5 x0 x1 x2 x3 x4 x5 x6 k0' k1' hb3 hx3 hok3 ht3 hh3 Hap HEB
       have r0:=Hst3.out.c0
       have r1:=Hst3.out.c1
       have f0:=Hst3.out.f0
       have f1:=Hst3.out.f1
       have hbs:Below w.heap.size w ((w3.setCell ⟨w.heap.size+1,0,none⟩ (.slice a3 s2.tree.length d3)).setCell ⟨w.heap.size+1,1,none⟩ (.slice a4 s2.holds.length d4)):=(hbq3.setCell (by simp) _).setCell (by simp) _
       have HB4:=Qh (HB3.out.set2 (u:=(.slice a3 s2.tree.length d3)) (v:=(.slice a4 s2.holds.length d4)) hner)
       have HG4:=Qh (HG3.out.set (.slice a3 s2.tree.length d3) (.slice a4 s2.holds.length d4))
       clear HB3 hbW HG3 HST HSB HGV hokW
       go_wp2
       go_roundw
       case rel=>exact ⟨j+1,_,_,J3,by omega,by go_num,by rw [Hrt.out];exact Hst4.out,by rw [Hout.out];exact HG4.out,Hnbx.out,Hx3.out,HB4.out,fun b c h=>Hkp3.out b c (Hkp.out b c h),by simp;omega,hbs⟩
       case measure=>simp [intOf];omega
      ·rw [hu] at Hout1
       have Hout:=Qh (show o0++verS x.num x.date p s0 (x.ents.take (j+1))=o1++ [⟨x.num,x.date,y⟩] from Hout1.out)
       clear hu Hout1
       obtain ⟨c0,c1,c2,c3,c4,c5⟩:=HSB.out
       obtain ⟨x0,x1,x2,x3,x4,x5,x6⟩:=HEB.out
       go_wp2_with (at_builtin;refine Xaz (w0:=wu) Xgj rfl _ _ rfl w.heap.size _ _ rfl HGV.out.own (⟨x.num,x.date,y⟩:Ver) (verCs ⟨x.num,x.date,y⟩ (.slice xa y.attrs.length xc) (.slice xx y.exts.length xd)) _ (by first|rfl|simp [Act.eval]) ⟨_,_,rfl,Hh1.out,Hh2.out⟩ (by omega) (by omega) hbW.size ?_)
       intro v9 w9 ho9 hg9 hl9
       replace hl9:∀g,v9.ownBlock=some g→u5.ownBlock=some g∨wu.heap.size≤g:=by first|exact hl9|simpa using hl9
       have hbx9:bx<w9.heap.size:=Nat.lt_of_lt_of_le hbxW hg9.size
       have HG9:=Qh (GatV.added HGV.out HST.out.ok HST.out.lt ho9 hl9)
       replace HST:=Qh (HGV.out.stm HST.out hg9)
       replace HSB:=Qh (HSB.out.own hg9 Hnbx0.out)
       replace HEB:=Qh (HEB.out.own hg9 hnby)
       have Hnbx:=Qh (show v9.ownBlock≠some bx from fun e=>by rcases hl9 _ e with h|h;exact Hnbx0.out h;omega)
       replace hbW:=Below.own hbW hg9 HGV.out.own (Qn _) hbW.size
       replace HGV:=HG9
       clear c0 c1 c2 c3 c4 c5 x0 x1 x2 x3 x4 x5 x6 ho9 hg9 hl9 HG9 hnby
       obtain ⟨k0',k1'⟩:=And.intro HST.out.c0 HST.out.c1
       obtain ⟨c0,c1,c2,c3,c4,c5⟩:=HSB.out
       obtain ⟨x0,x1,x2,x3,x4,x5,x6⟩:=HEB.out
       have hokW:=HST.out.ok
       have Hap:=Qh (Xa5 J' s' _ _ HST.out.tree HST.out.holds Hsk.out.sml (by omega) Hsk.out.ok.holds (by omega) y _ _ Hh1.out Hh2.out (Hxg.out.wf y Hmem.out) (by omega) (by omega) x.date w9 hokW)
       rw [Hs2.out] at Hap
       go_wp2_with fail
       refine Hap.out.mono ?_
       rintro e3 w3 ⟨v3,v4,J3,rfl,hb3,hx3,hok3,ht3,hh3⟩
       obtain ⟨a3,d3,rfl,_,_,_⟩:=id ht3
       obtain ⟨a4,d4,rfl,_,_,_⟩:=id hh3
       have HB3:=Qh (HSB.out.thru hb3)
       have Hst3:=Qh (HST.out.ext hb3 hx3 hok3)
       have HG3:=Qh (HGV.out.ext hb3 hokW hx3)
       have hbq3:=hbW.trans (hb3.mono hbW.size)
       have Hkp3:=Qh (hx3.keep hokW (Qn _))
       have hlt3:=hb3.size
       have Hx3:=Qh (Hx'.out.trans hx3 (by have:=hbW.size;omega))
       have Hst4:=Qh (Hst3.out.set (s':=s2) ht3 hh3)
       have hneb:∀g,g=bx→g<w3.heap.size:=fun g e=>by omega
       clear c0 c1 c2 c3 c4 c5 x0 x1 x2 x3 x4 x5 x6 k0' k1' hb3 hx3 hok3 ht3 hh3 Hap HEB
       have r0:=Hst3.out.c0
       have r1:=Hst3.out.c1
       have f0:=Hst3.out.f0
       have f1:=Hst3.out.f1
       have hbs:Below w.heap.size w ((w3.setCell ⟨w.heap.size+1,0,none⟩ (.slice a3 s2.tree.length d3)).setCell ⟨w.heap.size+1,1,none⟩ (.slice a4 s2.holds.length d4)):=(hbq3.setCell (by simp) _).setCell (by simp) _
       have HB4:=Qh (HB3.out.set2 (u:=(.slice a3 s2.tree.length d3)) (v:=(.slice a4 s2.holds.length d4)) hner)
       have HG4:=Qh (HG3.out.set (.slice a3 s2.tree.length d3) (.slice a4 s2.holds.length d4))
       clear HB3 hbW HG3 HST HSB HGV hokW
       go_wp2
       go_roundw
       case rel=>exact ⟨j+1,_,_,J3,by omega,by go_num,by rw [Hrt.out];exact Hst4.out,by rw [Hout.out];exact HG4.out,Hnbx.out,Hx3.out,HB4.out,fun b c h=>Hkp3.out b c (Hkp.out b c h),by simp;omega,hbs⟩
       case measure=>simp [intOf];omega
    ·have Hall:=Qh (show aftS nilS (L.take (k+1))=runS s0 x.date (x.ents.take j) by rw [Hat.out,List.take_of_length_le (by omega)])
     have Hall2:=Qh (show verFrom p nilS (L.take (k+1))=o0++verS x.num x.date p s0 (x.ents.take j) by rw [Hvt.out,List.take_of_length_le (by omega)])
     clear c0 c1 c2 c3 c4 c5
     go_wp2
     go_roundw
     case rel=>exact ⟨k+1,_,_,J',by omega,by go_num,by rw [Hall.out];exact Hst.out,by rw [Hall2.out];exact HGv.out,Hx'.out,hbq⟩
     case measure=>simp [intOf];omega
  ·have Hall:=Qh (show verP L p=verFrom p nilS (L.take k) by rw [List.take_of_length_le (by omega)];rfl)
   obtain ⟨J2,hk2,hx2,hok2,hr2,_⟩:=HGv.out.own.freezeA hokr HGv.out.apart
   have Hr2:=Qh hr2
   have Hx2:=Qh (Hx.out.trans hx2 (Qn _))
   clear hk2 hx2 hr2
   go_wp2
   go_ret
   rw [Hall.out]
   exact ⟨_,J2,rfl,hb,Hx2.out,hok2,Hr2.out⟩
end Go.Proofs.YtdeknddamidldaaGreatDoor
