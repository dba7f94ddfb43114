/- Lemmas; conditions: as each says. -/
import Derived.Test.YtdodihnehppnmaaGreatDoorTO31
import Derived.Test.YtdodihnehppnmaaGreatDoorTO38
set_option linter.all false
namespace Go.Proofs.YtdodihnehppnmaaGreatDoor
open Go.RowKit
def PD (l:List Ses) (k:Nat) (p:Bytes) (d:Int):Prop:=
 (k=0∧p= []∧d=0)∨ ∃(m:Nat) (h:m<l.length) (y:Ses),k=m+1∧l[m]=y∧p=(dirDig y).1∧d=y.date∧(dirDig y).2=0
theorem Xcb {α:Type} {p:α→Bool} {l:List α} {k:Nat} (hk:k<l.length) {x:α} (hx:l[k]=x) (h1:(l.take k).all p=true) (h2:p x=true):(l.take (k+1)).all p=true:=by
 rw [List.take_succ_eq_append_getElem hk,hx,List.all_append,h1];simp [h2]
theorem Xg3 {α:Type} {p:α→Bool} {l:List α} {k:Nat} (hk:k<l.length) {x:α} (hx:l[k]=x) (h:p x=false):l.all p=false:=by
 cases ha:l.all p with
 |false=>rfl
 |true=>
  have:=List.all_eq_true.1 ha x (by rw [←hx];exact List.getElem_mem hk)
  rw [h] at this;cases this
theorem Xf7 {l:List Ses} {x:Xt} {k:Nat} (hk:k<l.length) (h0:x.s≠0) (h:(k:Int)+1<x.s):xtIn (l.take (k+1)) x=false:=
 Xtg h0 (by rw [List.length_take];omega)
theorem Xg6 {l:List Ses} {x:Xt} {k m:Nat} (hk:k<l.length) (hm:m≤k) {y:Ses} (hy:l[m]'(by omega)=y) (h:x.s=(m:Int)+1):xtIn (l.take (k+1)) x=decide (x.o+x.n≤(y.stream.length:Int)):=
 Xvq (l:=l.take (k+1)) (k:=m) (by rw [List.length_take];omega) (by rw [List.getElem_take];exact hy) h
set_option maxRecDepth 100000 in
set_option maxHeartbeats 4000000 in
theorem Xm2 (I:IH) (v:Value) (l:List Ses) (hv:RdS tSes I v l) (hg:∀x∈l,SesG x) (hn:l.length≤1000) (w:World) (hw:Ok I w):
 Calls Tryz.prog 39 #[v] w fun r w'=>r= .returned (.int .i64 (chkH l))∧Below w.heap.size w w':=by
 obtain ⟨ao,cap,rfl,hcap,hcm,_⟩:=id hv
 have Hv:=Qh hv
 have Hg:=Qh hg
 obtain ⟨E,hE⟩:∃E,chkH l=E:=⟨_,rfl⟩
 have HE:=Qh (show chkFromH l 0 nilS [] 0 (l.drop 0)=E from hE)
 have H0:=Qh (StM.new (T:=136) hw rfl)
 rw [hE]
 clear hv hg hE
 go_enter Tryz.func39,Tryz.ntmps39
 go_wp2_with fail
 go_loopw [18] (fun s18 wr=> ∃(k:Nat) (s:Stt) (vt vh:Value) (J:IH) (p:Bytes) (d:Int),k≤l.length∧s18= .int .i64 k∧chkFromH l k s p d (l.drop k)=E∧PD l k p d∧SIn (30*k) s∧StM 136 w.heap.size J wr s vt vh∧Ext w.heap.size I J∧Below w.heap.size w wr) (fun i _=>l.length-(intOf i).toNat)
 case atStart=>exact ⟨0,nilS,_,_,I,[],0,Nat.zero_le _,rfl,HE.out,.inl ⟨rfl,rfl,rfl⟩,Xju,H0.out,Ext.refl _ _,(Qb _ _).alloc (Qn _) _⟩
 case round=>
  clear H0 HE
  obtain ⟨k,s,vt,vh,J,p,d,hk,rfl,hce,hpd0,hsn,hst,hx,hb⟩:=hrel
  have Hce:=Qh hce
  have Hsn:=Qh hsn
  have Hst:=Qh hst
  have Hx:=Qh hx
  have Hpd0:=Qh hpd0
  have hokr:Ok J wr:=hst.ok
  have hltr:=hst.lt
  have HvJ:=Qh (Hv.out.mono (hx.keep hw (Qn _)))
  clear hce hsn hst hx hpd0
  by_cases hlt:k<l.length
  ·obtain ⟨x,ve,b,off,cap',hlx,hvv,⟨c0,c1,c2,c3,c4,c5⟩,h1⟩:=Xgs HvJ.out hokr k hlt
   cases hvv
   obtain ⟨oe,ce,rfl,_,_,_⟩:=id h1
   have Hxg:=Qh (Hg.out x (by rw [←hlx];exact List.getElem_mem hlt))
   have Hca:=Qh ((Xxt (l0:=l) (s:=s) (prev:=p) (date:=d) hlt hlx).symm.trans Hce.out)
   have Hve:=Qh h1
   have Hdi:=Qh (Xgb J x _ h1 Hxg.out (wr.alloc (.cells #[.int .i64 x.num,.int .i64 x.date,S x.prev,.slice oe x.ents.length ce,S x.stream,S x.sl] 35)) (hokr.alloc _))
   have Hdk:=Qh (fun h=>Xh5 (Xdx (Xsx (s:=x) h).1).1)
   have Hpd1:=Qh (fun h:(dirDig x).2=0=>show PD l (k+1) (dirDig x).1 x.date from .inr ⟨k,hlt,x,rfl,hlx,rfl,rfl,h⟩)
   have hn30:=Hxg.out.nents
   obtain ⟨dg,er,hdg⟩:∃dg er,dirDig x=(dg,er):=⟨_,_,rfl⟩
   rw [hdg] at Hdi Hca Hdk Hpd1
   clear hlx h1 Hce hdg
   go_wp2_with fail
   refine Hdi.out.mono ?_
   rintro e1 w1 ⟨rfl,hb1⟩
   have HB1:=Qh (sesB (s:=x) rfl hb1)
   have Hst1:=Qh ((Hst.out.past (.cells #[.int .i64 x.num,.int .i64 x.date,S x.prev,.slice oe x.ents.length ce,S x.stream,S x.sl] 35)).below hb1)
   have hb1':Below w.heap.size w w1:=(hb.alloc hb.size (.cells #[.int .i64 x.num,.int .i64 x.date,S x.prev,.slice oe x.ents.length ce,S x.stream,S x.sl] 35)).trans (hb1.mono (by have:=hb.size;simp;omega))
   have hlt1:wr.heap.size<w1.heap.size:=by have:=hb1.size;simp at this;omega
   clear hb1 Hdi Hst c0 c1 c2 c3 c4 c5 hokr hb
   obtain ⟨c0,c1,c2,c3,c4,c5⟩:=HB1.out
   by_cases he:er=0
   case neg=>
    have Hn:=Qh (show E=er by have:=Hca.out;rw [if_pos he] at this;exact this.symm)
    have he0:(er != 0)=true:=by simpa using he
    clear he
    go_wp2
    go_ret
    exact ⟨Xac Hn.out.symm,hb1'⟩
   subst he
   have hfd:=Hdk.out rfl
   have Hpd:=Qh (Hpd1.out rfl)
   have g0:=cell_regrown c0
   have g1:=cell_regrown c1
   by_cases hnum:x.num=(k:Int)+1
   case neg=>
    have Hn:=Qh (show E=14 by have:=Hca.out;rw [if_neg (by simp),if_pos (.inl hnum)] at this;exact this.symm)
    have q1:(x.num != (k:Int)+1)=true:=by simpa using hnum
    have q2:(x.num==(k:Int)+1)=false:=by simpa using hnum
    clear hnum
    go_wp2_with fail
    refine wp_region_quiet_below (by kernel_rfl) (by kernel_rfl) ?_
    repeat (go_big_quiet_step ((fail)))
    refine wpQuiet_nil ?_
    intro w2 hwq
    have hb2:Below (w1).heap.size (w1) w2:=by
     obtain ⟨pq,rfl⟩:=hwq
     exact below_regrown _ _ _
    clear hwq
    go_wp2
    go_ret
    exact ⟨Xac Hn.out.symm,hb1'.trans (hb2.mono hb1'.size)⟩
   have q1:(x.num != (k:Int)+1)=false:=by simpa using hnum
   have q2:(x.num==(k:Int)+1)=true:=by simpa using hnum
   rcases Hpd0.out with ⟨hk0,hp0,hd0⟩|⟨m,hmlt,u,hkm,hlu,hp0,hd0,hdu⟩
   ·have hdt:¬x.date<d:=by omega
    have i0:decide ((0:Int)<(k:Int))=false:=Qf (by omega)
    have i1:decide (0<k)=false:=Qf (by omega)
    clear hk0
    go_wp2_with fail
    refine wp_region_quiet_below (by kernel_rfl) (by kernel_rfl) ?_
    repeat (go_big_quiet_step ((fail)))
    refine wpQuiet_nil ?_
    intro w2 hwq
    have hb2:Below (w1).heap.size (w1) w2:=by
     obtain ⟨pq,rfl⟩:=hwq
     exact below_regrown _ _ _
    clear hwq
    have HB2:=Qh (HB1.out.thru hb2)
    have Hst2:=Qh (Hst1.out.below hb2)
    have hb2':=hb1'.trans (hb2.mono hb1'.size)
    have hlt2:wr.heap.size<w2.heap.size:=by have:=hb2.size;omega
    clear hb2 hb1' HB1 Hst1 g0 g1 c0 c1 c2 c3 c4 c5 q1 q2 hlt1
    obtain ⟨c0,c1,c2,c3,c4,c5⟩:=HB2.out
    by_cases hpv:x.prev=p
    case neg=>
     have Hn:=Qh (show E=20 by have:=Hca.out;rw [if_neg (by simp),if_neg (by rintro (h|h);exact h hnum;omega),if_pos hpv] at this;exact this.symm)
     obtain ⟨p1,p2,p3,p4⟩:=Xcw (show x.prev≠ [] by rw [←hp0];exact hpv)
     clear hpv hdt hnum
     go_wp2
     go_ret
     exact ⟨Xac Hn.out.symm,hb2'⟩
    obtain ⟨p1,p2,p3,p4⟩:=Xdv (show x.prev= [] by rw [←hp0];exact hpv)
    clear hfd Hdk
    have Hca2:=Qh (show (if (entsH (l.take (k+1)) x.date s x.ents).2≠0 then (entsH (l.take (k+1)) x.date s x.ents).2 else chkFromH l (k+1) (entsH (l.take (k+1)) x.date s x.ents).1 dg x.date (l.drop (k+1)))=E by
     have:=Hca.out
     rw [if_neg (by simp),if_neg (by rintro (h|h);exact h hnum;omega),if_neg (by simpa using hpv)] at this;exact this)
    obtain ⟨R,er2,hR⟩:∃R er2,entsH (l.take (k+1)) x.date s x.ents=(R,er2):=⟨_,_,rfl⟩
    rw [hR] at Hca2
    have HR:=Qh hR
    clear hpv hdt hnum Hca hR
    go_wp2_with fail
    generalize wr.heap.size=bx at HB2 hlt2 hltr ⊢
    clear c0 c1 c2 c3 c4 c5
    go_loopw [69] (fun s69 wq=> ∃(j:Nat) (s':Stt) (vt' vh':Value) (J':IH),j≤x.ents.length∧s69= .int .i64 j∧entsH (l.take (k+1)) x.date s' (x.ents.drop j)=(R,er2)∧SIn (30*k+j) s'∧StM 136 w.heap.size J' wq s' vt' vh'∧Ext w.heap.size I J'∧SesB wq bx x (.slice oe x.ents.length ce)∧(∀b c,J b=some c→J' b=some c)∧bx<wq.heap.size∧Below w.heap.size w wq) (fun i _=>x.ents.length-(intOf i).toNat)
    case atStart=>exact ⟨0,s,vt,vh,J,Nat.zero_le _,rfl,HR.out,Hsn.out,Hst2.out,Hx.out,HB2.out,fun _ _ h=>h,hlt2,hb2'⟩
    case round=>
     clear Hst2 HB2 hb2' HR Hsn hlt2
     obtain ⟨j,s',vt',vh',J',hj,rfl,hR,hsn,hst,hx,hB,hkp,hltq,hbq⟩:=hrel
     have HR:=Qh hR
     have Hsn:=Qh hsn
     have Hst:=Qh hst
     have HB:=Qh hB
     have Hx':=Qh hx
     have Hkp:=Qh hkp
     have hok:Ok J' wr:=hst.ok
     clear hR hsn hst hB hx hkp
     obtain ⟨c0,c1,c2,c3,c4,c5⟩:=HB.out
     by_cases hjt:j<x.ents.length
     ·obtain ⟨y,vya,vyx,b9,off9,cap9,hly,hvv,⟨x0,x1,x2,x3,x4,x5,x6⟩,h1,h2⟩:=Xbu (Hve.out.mono Hkp.out) hok j hjt
      cases hvv
      obtain ⟨xa,xc,rfl,_,_,_⟩:=id h1
      obtain ⟨xx,xd,rfl,_,_,_⟩:=id h2
      obtain ⟨t1,tc1,rfl,_,_,_⟩:=id Hst.out.tree
      obtain ⟨u1,uc1,rfl,_,_,_⟩:=id Hst.out.holds
      have hmem:y∈x.ents:=by rw [←hly];exact List.getElem_mem hjt
      have Hea:=Qh ((Xsi (L:=l.take (k+1)) (d:=x.date) (s:=s') hjt hly).symm.trans HR.out)
      have Hst':=Qh (Hst.out.past (.cells #[.int .i64 y.kind,S y.path,.slice xa y.attrs.length xc,S y.target,.int .i64 y.size,S y.digest,.slice xx y.exts.length xd] 26))
      have hpy:=Hxg.out.path y hmem
      have hty:=Hxg.out.target y hmem
      have hxy:=Hxg.out.exts y hmem
      have htl:=Hsn.out.ok.tlen
      have hhl:=Hsn.out.ok.hlen
      have Hap:=Qh (Xfx J' s' _ _ Hst.out.tree Hst.out.holds Hsn.out.sml (by omega) Hsn.out.ok.holds (by omega) y _ _ h1 h2 (Hxg.out.wf y hmem) (by omega) (by omega) x.date (wr.alloc (.cells #[.int .i64 y.kind,S y.path,.slice xa y.attrs.length xc,S y.target,.int .i64 y.size,S y.digest,.slice xx y.exts.length xd] 26)) (hok.alloc _))
      have Hsn2:=Qh (Xgx Hsn.out y x.date hpy hty)
      have Hxb:=Qh (fun h=>Xvi (s:=s') (d:=x.date) (e:=y) h)
      have Hh2:=Qh h2
      obtain ⟨s2,er3,hs2⟩:∃s2 er3,stpP s' y x.date=(s2,er3):=⟨_,_,rfl⟩
      rw [hs2] at Hap Hea Hsn2 Hxb
      have k0:=Hst'.out.c0
      have k1:=Hst'.out.c1
      have p1:=Xab (.cells #[.int .i64 y.kind,S y.path,.slice xa y.attrs.length xc,S y.target,.int .i64 y.size,S y.digest,.slice xx y.exts.length xd] 26) c1
      have hwlt:=Hst.out.lt
      have hneq:wr.heap.size≠w.heap.size:=by omega
      have hner:bx≠w.heap.size:=by omega
      have hbq':=hbq.alloc hbq.size (.cells #[.int .i64 y.kind,S y.path,.slice xa y.attrs.length xc,S y.target,.int .i64 y.size,S y.digest,.slice xx y.exts.length xd] 26)
      have HBp:=Qh (HB.out.past (.cells #[.int .i64 y.kind,S y.path,.slice xa y.attrs.length xc,S y.target,.int .i64 y.size,S y.digest,.slice xx y.exts.length xd] 26))
      clear hly h1 h2 hmem htl hhl HR hs2 Hst Hsn HB hok hbq
      go_wp2_with fail
      refine Hap.out.mono ?_
      rintro e3 w3 ⟨v3,v4,J3,rfl,hb3,hx3,hok3,ht3,hh3⟩
      have Ht3:=Qh ht3
      have Hh3:=Qh hh3
      obtain ⟨a3,d3,rfl,_,_,_⟩:=id ht3
      obtain ⟨a4,d4,rfl,_,_,_⟩:=id hh3
      have HE3:=Qh ((entB (e:=y) rfl hb3).past (.cells #[.slice a3 s2.tree.length d3,.slice a4 s2.holds.length d4] 136))
      have HB3:=Qh ((HBp.out.thru hb3).past (.cells #[.slice a3 s2.tree.length d3,.slice a4 s2.holds.length d4] 136))
      have Hst3:=Qh ((Hst'.out.ext hb3 hx3 hok3).past (.cells #[.slice a3 s2.tree.length d3,.slice a4 s2.holds.length d4] 136))
      have hbq3:=hbq'.trans (hb3.mono hbq'.size)
      have hbq4:=hbq3.alloc hbq3.size (.cells #[.slice a3 s2.tree.length d3,.slice a4 s2.holds.length d4] 136)
      have Hkp3:=Qh (hx3.keep Hst'.out.ok (Qn _))
      have hlt3:wr.heap.size<w3.heap.size:=by have:=hb3.size;simp at this;omega
      have Hx3:=Qh (Hx'.out.trans hx3 (by simp;omega))
      have n0:(w3.alloc (.cells #[.slice a3 s2.tree.length d3,.slice a4 s2.holds.length d4] 136)).cell? ⟨w3.heap.size,0,none⟩=some (.slice a3 s2.tree.length d3):=by simp
      have n1:(w3.alloc (.cells #[.slice a3 s2.tree.length d3,.slice a4 s2.holds.length d4] 136)).cell? ⟨w3.heap.size,1,none⟩=some (.slice a4 s2.holds.length d4):=by simp
      clear c0 c1 c2 c3 c4 c5 x0 x1 x2 x3 x4 x5 x6 k0 k1 p1 hb3 hx3 hok3 ht3 hh3 Hap Hst' hbq' HBp hbq3
      by_cases h3:er3=0
      case neg=>
       have h30:(er3 != 0)=true:=by simpa using h3
       have Hn:=Qh (show E=er3 by
        have h:=Hea.out
        rw [if_pos h3] at h
        have h2:er2=er3:=(Prod.mk.inj h).2.symm
        have h4:=Hca2.out
        rw [h2,if_pos h3] at h4
        exact h4.symm)
       clear h3
       go_wp2
       go_ret
       exact ⟨Xac Hn.out.symm,hbq4⟩
      subst h3
      obtain ⟨w4,hw4⟩:∃w4,w3.alloc (.cells #[.slice a3 s2.tree.length d3,.slice a4 s2.holds.length d4] 136)=w4:=⟨_,rfl⟩
      have hsz4:w3.heap.size<w4.heap.size:=by rw [←hw4];simp
      rw [hw4] at HE3 HB3 Hst3 hbq4 n0 n1
      have Hn0:=Qh n0
      have Hn1:=Qh n1
      obtain ⟨x0,x1,x2,x3,x4,x5,x6⟩:=HE3.out
      go_wp2_with fail
      generalize w3.heap.size=nb at Hn0 Hn1 hsz4 hlt3 ⊢
      clear hw4 n0 n1 x0 x1 x2 x3 x4 x5 x6 HE3
      go_loopw [87] (fun s87 wq=> ∃q:Nat,q≤y.exts.length∧s87= .int .i64 q∧(y.exts.take q).all (xtIn (l.take (k+1)))=true∧Below w4.heap.size w4 wq) (fun i _=>y.exts.length-(intOf i).toNat)
      case atStart=>exact ⟨0,Nat.zero_le _,rfl,rfl,Qb _ _⟩
      case round=>
       obtain ⟨q,hq,rfl,hall,hbz0⟩:=hrel
       have Hall:=Qh hall
       clear hall
       have Hstz:=Qh (Hst3.out.below hbz0)
       have hokz:Ok J3 wr:=Hstz.out.ok
       by_cases hqt:q<y.exts.length
       ·obtain ⟨z,bz,offz,capz,hlz,hvv,z0,z1,z2⟩:=xtAt (Hh2.out.mono Hkp3.out) hokz q hqt
        cases hvv
        obtain ⟨b0,b1,b2,b3,b4,b5⟩:=Hxb.out (by trivial) z (by rw [←hlz];exact List.getElem_mem hqt)
        obtain ⟨zs,zo,zn⟩:=z
        dsimp only at b0 b1 b2 b3 b4 b5
        have hbz:=(hbq4.trans (hbz0.mono hbq4.size)).alloc (hbq4.trans (hbz0.mono hbq4.size)).size (.cells #[.int .i64 zs,.int .i64 zo,.int .i64 zn] 134)
        have hbzq:=hbz0.alloc hbz0.size (.cells #[.int .i64 zs,.int .i64 zo,.int .i64 zn] 134)
        by_cases hz0:zs=0
        ·have e1:(zs != 0)=false:=by simpa using hz0
         have e2:(zs==0)=true:=by simpa using hz0
         have Hn:=Qh (Xki (l:=l.take (k+1)) (x:=⟨zs,zo,zn⟩) hz0)
         clear hz0
         have y0:=cell_regrown (show (wr.alloc (.cells #[.int .i64 zs,.int .i64 zo,.int .i64 zn] 134)).cell? ⟨wr.heap.size,0,none⟩=some (.int .i64 zs) by simp)
         have y1:=cell_regrown (show (wr.alloc (.cells #[.int .i64 zs,.int .i64 zo,.int .i64 zn] 134)).cell? ⟨wr.heap.size,1,none⟩=some (.int .i64 zo) by simp)
         have y2:=cell_regrown (show (wr.alloc (.cells #[.int .i64 zs,.int .i64 zo,.int .i64 zn] 134)).cell? ⟨wr.heap.size,2,none⟩=some (.int .i64 zn) by simp)
         have Hn2:=Qh (Xcb hqt hlz Hall.out Hn.out)
         clear hlz
         go_wp2_with fail
         refine wp_region_quiet_below (by kernel_rfl) (by kernel_rfl) ?_
         repeat (go_big_quiet_step ((fail)))
         refine wpQuiet_nil ?_
         intro w6 hwq
         have hb6:Below ((wr.alloc (.cells #[.int .i64 zs,.int .i64 zo,.int .i64 zn] 134))).heap.size ((wr.alloc (.cells #[.int .i64 zs,.int .i64 zo,.int .i64 zn] 134))) w6:=by
          obtain ⟨pq,rfl⟩:=hwq
          exact below_regrown _ _ _
         clear hwq
         go_wp2
         go_roundw
         case rel=>exact ⟨q+1,by omega,by go_num,Hn2.out,hbzq.trans (hb6.mono (by have:=hbzq.size;omega))⟩
         case measure=>simp [intOf];omega
        have e1:(zs != 0)=true:=by simpa using hz0
        have e2:(zs==0)=false:=by simpa using hz0
        by_cases hzf:(k:Int)+1<zs
        ·have e3:decide ((k:Int)+1<zs)=true:=Qt hzf
         have Hn:=Qh (Xf7 (x:=⟨zs,zo,zn⟩) hlt hz0 hzf)
         have y0:=cell_regrown (show (wr.alloc (.cells #[.int .i64 zs,.int .i64 zo,.int .i64 zn] 134)).cell? ⟨wr.heap.size,0,none⟩=some (.int .i64 zs) by simp)
         have y1:=cell_regrown (show (wr.alloc (.cells #[.int .i64 zs,.int .i64 zo,.int .i64 zn] 134)).cell? ⟨wr.heap.size,1,none⟩=some (.int .i64 zo) by simp)
         have y2:=cell_regrown (show (wr.alloc (.cells #[.int .i64 zs,.int .i64 zo,.int .i64 zn] 134)).cell? ⟨wr.heap.size,2,none⟩=some (.int .i64 zn) by simp)
         clear hz0 hzf
         have Hn2:=Qh (show E=2 by
          have h:=Hea.out
          rw [if_neg (by simp),if_pos (show storedP (l.take (k+1)) y=false from Xg3 hqt hlz Hn.out)] at h
          have h2:er2=2:=(Prod.mk.inj h).2.symm
          have h4:=Hca2.out
          rw [h2,if_pos (by decide)] at h4
          exact h4.symm)
         clear hlz
         go_wp2_with fail
         refine wp_region_quiet_below (by kernel_rfl) (by kernel_rfl) ?_
         repeat (go_big_quiet_step ((fail)))
         refine wpQuiet_nil ?_
         intro w6 hwq
         have hb6:Below ((wr.alloc (.cells #[.int .i64 zs,.int .i64 zo,.int .i64 zn] 134))).heap.size ((wr.alloc (.cells #[.int .i64 zs,.int .i64 zo,.int .i64 zn] 134))) w6:=by
          obtain ⟨pq,rfl⟩:=hwq
          exact below_regrown _ _ _
         clear hwq
         go_wp2
         go_ret
         exact ⟨Xac Hn2.out.symm,hbz.trans (hb6.mono hbz.size)⟩
        obtain ⟨m,hm⟩:∃m:Nat,zs=(m:Int)+1:=⟨(zs-1).toNat,by omega⟩
        subst hm
        have hmk:m≤k:=by omega
        obtain ⟨u,vu,bu,offu,capu,hlu,hvv,⟨s0,s1,s2',s3,s4,s5⟩,h1⟩:=Xgs ((HvJ.out.mono Hkp.out).mono Hkp3.out) (hokz.alloc (.cells #[.int .i64 ((m:Int)+1),.int .i64 zo,.int .i64 zn] 134)) m (by omega)
        cases hvv
        have hxe:=Xg6 (x:=⟨(m:Int)+1,zo,zn⟩) hlt hmk hlu rfl
        have e3:decide ((k:Int)+1<(m:Int)+1)=false:=Qf (by omega)
        have e3a:decide ((k:Int)<(m:Int))=false:=Qf (by omega)
        have e3b:decide (k<m)=false:=Qf (by omega)
        have hul:=(Hg.out u (by rw [←hlu];exact List.getElem_mem _)).stream
        have m8:IntKind.i64.wrap ((u.stream.length:Int)-zo)=(u.stream.length:Int)-zo:=IntWalk.i64_in _ (by omega)
        have m9:wrap64 ((u.stream.length:Int)-zo)=(u.stream.length:Int)-zo:=by unfold wrap64;omega
        have hi:(m:Int)<l.length:=by omega
        have g4:=cell_regrown s4
        have y0:=cell_regrown (show (wr.alloc (.cells #[.int .i64 ((m:Int)+1),.int .i64 zo,.int .i64 zn] 134)).cell? ⟨wr.heap.size,0,none⟩=some (.int .i64 ((m:Int)+1)) by simp)
        have y1:=cell_regrown (show (wr.alloc (.cells #[.int .i64 ((m:Int)+1),.int .i64 zo,.int .i64 zn] 134)).cell? ⟨wr.heap.size,1,none⟩=some (.int .i64 zo) by simp)
        have y2:=cell_regrown (show (wr.alloc (.cells #[.int .i64 ((m:Int)+1),.int .i64 zo,.int .i64 zn] 134)).cell? ⟨wr.heap.size,2,none⟩=some (.int .i64 zn) by simp)
        clear hz0 hzf hlu s0 s1 s2' s3 s4 s5 h1
        obtain ⟨zs,hzs⟩:∃zs,zs=(m:Int)+1:=⟨_,rfl⟩
        by_cases hin:zo+zn≤(u.stream.length:Int)
        ·have Hn:=Qh (show xtIn (l.take (k+1)) ⟨(m:Int)+1,zo,zn⟩=true by rw [hxe];exact Qt hin)
         have e4:decide ((u.stream.length:Int)<zo)=false:=Qf (by omega)
         have e5:decide ((u.stream.length:Int)-zo<zn)=false:=Qf (by omega)
         clear hxe hin
         subst hzs
         have Hn2:=Qh (Xcb hqt hlz Hall.out Hn.out)
         clear hlz
         go_wp2_with fail
         refine wp_region_quiet_below (by kernel_rfl) (by kernel_rfl) ?_
         repeat (go_big_quiet_step ((fail)))
         refine wpQuiet_nil ?_
         intro w6 hwq
         have hb6:Below ((wr.alloc (.cells #[.int .i64 ((m:Int)+1),.int .i64 zo,.int .i64 zn] 134))).heap.size ((wr.alloc (.cells #[.int .i64 ((m:Int)+1),.int .i64 zo,.int .i64 zn] 134))) w6:=by
          obtain ⟨pq,rfl⟩:=hwq
          exact below_regrown _ _ _
         clear hwq
         go_wp2
         go_roundw
         case rel=>exact ⟨q+1,by omega,by go_num,Hn2.out,hbzq.trans (hb6.mono (by have:=hbzq.size;omega))⟩
         case measure=>simp [intOf];omega
        ·have Hn:=Qh (show xtIn (l.take (k+1)) ⟨(m:Int)+1,zo,zn⟩=false by rw [hxe];exact Qf hin)
         have Hn2:=Qh (show E=2 by
          have h:=Hea.out
          rw [if_neg (by simp),if_pos (show storedP (l.take (k+1)) y=false from Xg3 hqt hlz Hn.out)] at h
          have h2:er2=2:=(Prod.mk.inj h).2.symm
          have h4:=Hca2.out
          rw [h2,if_pos (by decide)] at h4
          exact h4.symm)
         clear hxe hlz
         subst hzs
         by_cases hof:(u.stream.length:Int)<zo
         ·have e4:decide ((u.stream.length:Int)<zo)=true:=Qt hof
          clear hin
          go_wp2_with fail
          refine wp_region_quiet_below (by kernel_rfl) (by kernel_rfl) ?_
          repeat (go_big_quiet_step ((fail)))
          refine wpQuiet_nil ?_
          intro w6 hwq
          have hb6:Below ((wr.alloc (.cells #[.int .i64 ((m:Int)+1),.int .i64 zo,.int .i64 zn] 134))).heap.size ((wr.alloc (.cells #[.int .i64 ((m:Int)+1),.int .i64 zo,.int .i64 zn] 134))) w6:=by
           obtain ⟨pq,rfl⟩:=hwq
           exact below_regrown _ _ _
          clear hwq
          go_wp2
          go_ret
          exact ⟨Xac Hn2.out.symm,hbz.trans (hb6.mono hbz.size)⟩
         ·have e4:decide ((u.stream.length:Int)<zo)=false:=Qf hof
          have e5:decide ((u.stream.length:Int)-zo<zn)=true:=Qt (by omega)
          clear hin
          go_wp2_with fail
          refine wp_region_quiet_below (by kernel_rfl) (by kernel_rfl) ?_
          repeat (go_big_quiet_step ((fail)))
          refine wpQuiet_nil ?_
          intro w6 hwq
          have hb6:Below ((wr.alloc (.cells #[.int .i64 ((m:Int)+1),.int .i64 zo,.int .i64 zn] 134))).heap.size ((wr.alloc (.cells #[.int .i64 ((m:Int)+1),.int .i64 zo,.int .i64 zn] 134))) w6:=by
           obtain ⟨pq,rfl⟩:=hwq
           exact below_regrown _ _ _
          clear hwq
          go_wp2
          go_ret
          exact ⟨Xac Hn2.out.symm,hbz.trans (hb6.mono hbz.size)⟩
       ·have Hn:=Qh (show entsH (l.take (k+1)) x.date s2 (x.ents.drop (j+1))=(R,er2) by
         have h:=Hea.out
         have ha:=Hall.out
         rw [List.take_of_length_le (by omega)] at ha
         rw [if_neg (by simp),if_neg (by rw [show storedP (l.take (k+1)) y=true from ha];simp)] at h
         exact h)
        have Hsts:=Qh (Hstz.out.set (s':=s2) Ht3.out Hh3.out)
        have r0:=Hstz.out.c0
        have r1:=Hstz.out.c1
        have f0:=Hstz.out.f0
        have f1:=Hstz.out.f1
        have n0:=Xaa hbz0 Hn0.out
        have n1:=Xaa hbz0 Hn1.out
        have HBs:=Qh ((HB3.out.thru hbz0).set2 (u:=(.slice a3 s2.tree.length d3)) (v:=(.slice a4 s2.holds.length d4)) hner)
        have hbs:=((hbq4.trans (hbz0.mono hbq4.size)).setCell (p:=⟨w.heap.size,0,none⟩) (Qn _) (.slice a3 s2.tree.length d3)).setCell (p:=⟨w.heap.size,1,none⟩) (Qn _) (.slice a4 s2.holds.length d4)
        have hszz:=hbz0.size
        clear Hstz hokz Hea Hall
        go_wp2
        go_roundw
        case rel=>exact ⟨j+1,s2,_,_,J3,by omega,by go_num,Hn.out,Hsn2.out,Hsts.out,Hx3.out,HBs.out,fun b c h=>Hkp3.out b c (Hkp.out b c h),by simp;omega,hbs⟩
        case measure=>simp [intOf];omega
     ·have hend:(s',(0:Int))=(R,er2):=by have:=HR.out;rwa [List.drop_of_length_le (by omega)] at this
      obtain ⟨rfl,rfl⟩:=Prod.mk.inj hend
      have Hn:=Qh (show chkFromH l (k+1) s' dg x.date (l.drop (k+1))=E by have:=Hca2.out;rwa [if_neg (by simp)] at this)
      clear hend HR Hca2
      go_wp2
      go_roundw
      case rel=>exact ⟨k+1,s',_,_,J',dg,x.date,by omega,by go_num,Hn.out,Hpd.out,Hsn.out.mono (by omega),Hst.out,Hx'.out,hbq⟩
      case measure=>simp [intOf];omega
   ·have i0:decide ((0:Int)<(k:Int))=true:=Qt (by omega)
    have i0n:decide (0<k)=true:=Qt (by omega)
    have hi9:IntKind.i64.wrap ((k:Int)-1)=(m:Int):=by rw [IntWalk.i64_in _ (by omega)];omega
    have hj9:(k:Int)-1=(m:Int):=by omega
    clear hkm
    have hok1:Ok J w1:=Hst1.out.ok
    obtain ⟨u',vu,bu,offu,capu,hlu',hvv,⟨s0,s1,s2',s3,s4,s5⟩,h1⟩:=Xgs HvJ.out hok1 m hmlt
    cases hvv
    have huu:u=u':=by rw [←hlu,hlu']
    subst huu
    obtain ⟨ou,cu,rfl,_,_,_⟩:=id h1
    have Hdi:=Qh (fun w hw=>Xgb J u _ h1 (Hg.out u (by rw [←hlu];exact List.getElem_mem hmlt)) w hw)
    have gu:=cell_regrown s1
    have im:(m:Int)<l.length:=by omega
    rw [hdu,←hp0] at Hdi
    clear hlu hlu' h1 hdu
    by_cases hdt:x.date<d
    ·have Hn:=Qh (show E=14 by have:=Hca.out;rw [if_neg (by simp),if_pos (.inr hdt)] at this;exact this.symm)
     have q3:decide (x.date<u.date)=true:=Qt (by omega)
     clear hdt hnum
     go_wp2_with fail
     refine wp_region_quiet_below (by kernel_rfl) (by kernel_rfl) ?_
     repeat (go_big_quiet_step ((fail)))
     refine wpQuiet_nil ?_
     intro w2 hwq
     have hb2:Below (w1).heap.size (w1) w2:=by
      obtain ⟨pq,rfl⟩:=hwq
      exact below_regrown _ _ _
     clear hwq
     go_wp2
     go_ret
     exact ⟨Xac Hn.out.symm,hb1'.trans (hb2.mono hb1'.size)⟩
    have q3:decide (x.date<u.date)=false:=Qf (by omega)
    go_wp2_with fail
    refine wp_region_quiet_below (by kernel_rfl) (by kernel_rfl) ?_
    repeat (go_big_quiet_step ((fail)))
    refine wpQuiet_nil ?_
    intro w0 hwq
    have hb0:Below (w1).heap.size (w1) w0:=by
     obtain ⟨pq,rfl⟩:=hwq
     exact below_regrown _ _ _
    clear hwq
    have HB0:=Qh (HB1.out.thru hb0)
    have Hst0:=Qh (Hst1.out.below hb0)
    have hb0':=hb1'.trans (hb0.mono hb1'.size)
    have hlt0:wr.heap.size<w0.heap.size:=by have:=hb0.size;omega
    have t0:=Xaa hb0 s0
    have t1:=Xaa hb0 s1
    have t2:=Xaa hb0 s2'
    have t3:=Xaa hb0 s3
    have t4:=Xaa hb0 s4
    have t5:=Xaa hb0 s5
    clear hb0 hb1' HB1 Hst1 g0 g1 c0 c1 c2 c3 c4 c5 q1 q2 hlt1 gu s0 s1 s2' s3 s4 s5
    go_wp2_with fail
    refine (Hdi.out _ Hst0.out.ok).mono ?_
    rintro e2 w2 ⟨rfl,hb2⟩
    have HB2:=Qh (HB0.out.thru hb2)
    have Hst2:=Qh (Hst0.out.below hb2)
    have hb2':=hb0'.trans (hb2.mono hb0'.size)
    have hlt2:wr.heap.size<w2.heap.size:=by have:=hb2.size;omega
    clear hb2 hb0' HB0 Hst0 hlt0 t0 t1 t2 t3 t4 t5 Hdi q3
    obtain ⟨c0,c1,c2,c3,c4,c5⟩:=HB2.out
    by_cases hpv:x.prev=p
    case neg=>
     have Hn:=Qh (show E=20 by have:=Hca.out;rw [if_neg (by simp),if_neg (by rintro (h|h);exact h (by simpa using hnum);omega),if_pos hpv] at this;exact this.symm)
     have q4:(x.prev==p)=false:=by simpa using hpv
     have q5:(x.prev != p)=true:=by simpa using hpv
     have q4a:(x.prev==(dirDig u).1)=false:=by rw [←hp0];simpa using hpv
     have q5a:(x.prev != (dirDig u).1)=true:=by rw [←hp0];simpa using hpv
     clear hpv hdt hnum
     go_wp2
     go_ret
     exact ⟨Xac Hn.out.symm,hb2'⟩
    have q4a:(x.prev==(dirDig u).1)=true:=by rw [←hp0];simpa using hpv
    have q5a:(x.prev != (dirDig u).1)=false:=by rw [←hp0];simpa using hpv
    have q4:(x.prev==p)=true:=by simpa using hpv
    have q5:(x.prev != p)=false:=by simpa using hpv
    clear hfd Hdk
    have Hca2:=Qh (show (if (entsH (l.take (k+1)) x.date s x.ents).2≠0 then (entsH (l.take (k+1)) x.date s x.ents).2 else chkFromH l (k+1) (entsH (l.take (k+1)) x.date s x.ents).1 dg x.date (l.drop (k+1)))=E by
     have:=Hca.out
     rw [if_neg (by simp),if_neg (by rintro (h|h);exact h hnum;omega),if_neg (by simpa using hpv)] at this;exact this)
    obtain ⟨R,er2,hR⟩:∃R er2,entsH (l.take (k+1)) x.date s x.ents=(R,er2):=⟨_,_,rfl⟩
    rw [hR] at Hca2
    have HR:=Qh hR
    clear hpv hdt hnum Hca hR
    go_wp2_with fail
    generalize wr.heap.size=bx at HB2 hlt2 hltr ⊢
    clear c0 c1 c2 c3 c4 c5
    go_loopw [69] (fun s69 wq=> ∃(j:Nat) (s':Stt) (vt' vh':Value) (J':IH),j≤x.ents.length∧s69= .int .i64 j∧entsH (l.take (k+1)) x.date s' (x.ents.drop j)=(R,er2)∧SIn (30*k+j) s'∧StM 136 w.heap.size J' wq s' vt' vh'∧Ext w.heap.size I J'∧SesB wq bx x (.slice oe x.ents.length ce)∧(∀b c,J b=some c→J' b=some c)∧bx<wq.heap.size∧Below w.heap.size w wq) (fun i _=>x.ents.length-(intOf i).toNat)
    case atStart=>exact ⟨0,s,vt,vh,J,Nat.zero_le _,rfl,HR.out,Hsn.out,Hst2.out,Hx.out,HB2.out,fun _ _ h=>h,hlt2,hb2'⟩
    case round=>
     clear Hst2 HB2 hb2' HR Hsn hlt2
     obtain ⟨j,s',vt',vh',J',hj,rfl,hR,hsn,hst,hx,hB,hkp,hltq,hbq⟩:=hrel
     have HR:=Qh hR
     have Hsn:=Qh hsn
     have Hst:=Qh hst
     have HB:=Qh hB
     have Hx':=Qh hx
     have Hkp:=Qh hkp
     have hok:Ok J' wr:=hst.ok
     clear hR hsn hst hB hx hkp
     obtain ⟨c0,c1,c2,c3,c4,c5⟩:=HB.out
     by_cases hjt:j<x.ents.length
     ·obtain ⟨y,vya,vyx,b9,off9,cap9,hly,hvv,⟨x0,x1,x2,x3,x4,x5,x6⟩,h1,h2⟩:=Xbu (Hve.out.mono Hkp.out) hok j hjt
      cases hvv
      obtain ⟨xa,xc,rfl,_,_,_⟩:=id h1
      obtain ⟨xx,xd,rfl,_,_,_⟩:=id h2
      obtain ⟨t1,tc1,rfl,_,_,_⟩:=id Hst.out.tree
      obtain ⟨u1,uc1,rfl,_,_,_⟩:=id Hst.out.holds
      have hmem:y∈x.ents:=by rw [←hly];exact List.getElem_mem hjt
      have Hea:=Qh ((Xsi (L:=l.take (k+1)) (d:=x.date) (s:=s') hjt hly).symm.trans HR.out)
      have Hst':=Qh (Hst.out.past (.cells #[.int .i64 y.kind,S y.path,.slice xa y.attrs.length xc,S y.target,.int .i64 y.size,S y.digest,.slice xx y.exts.length xd] 26))
      have hpy:=Hxg.out.path y hmem
      have hty:=Hxg.out.target y hmem
      have hxy:=Hxg.out.exts y hmem
      have htl:=Hsn.out.ok.tlen
      have hhl:=Hsn.out.ok.hlen
      have Hap:=Qh (Xfx J' s' _ _ Hst.out.tree Hst.out.holds Hsn.out.sml (by omega) Hsn.out.ok.holds (by omega) y _ _ h1 h2 (Hxg.out.wf y hmem) (by omega) (by omega) x.date (wr.alloc (.cells #[.int .i64 y.kind,S y.path,.slice xa y.attrs.length xc,S y.target,.int .i64 y.size,S y.digest,.slice xx y.exts.length xd] 26)) (hok.alloc _))
      have Hsn2:=Qh (Xgx Hsn.out y x.date hpy hty)
      have Hxb:=Qh (fun h=>Xvi (s:=s') (d:=x.date) (e:=y) h)
      have Hh2:=Qh h2
      obtain ⟨s2,er3,hs2⟩:∃s2 er3,stpP s' y x.date=(s2,er3):=⟨_,_,rfl⟩
      rw [hs2] at Hap Hea Hsn2 Hxb
      have k0:=Hst'.out.c0
      have k1:=Hst'.out.c1
      have p1:=Xab (.cells #[.int .i64 y.kind,S y.path,.slice xa y.attrs.length xc,S y.target,.int .i64 y.size,S y.digest,.slice xx y.exts.length xd] 26) c1
      have hwlt:=Hst.out.lt
      have hneq:wr.heap.size≠w.heap.size:=by omega
      have hner:bx≠w.heap.size:=by omega
      have hbq':=hbq.alloc hbq.size (.cells #[.int .i64 y.kind,S y.path,.slice xa y.attrs.length xc,S y.target,.int .i64 y.size,S y.digest,.slice xx y.exts.length xd] 26)
      have HBp:=Qh (HB.out.past (.cells #[.int .i64 y.kind,S y.path,.slice xa y.attrs.length xc,S y.target,.int .i64 y.size,S y.digest,.slice xx y.exts.length xd] 26))
      clear hly h1 h2 hmem htl hhl HR hs2 Hst Hsn HB hok hbq
      go_wp2_with fail
      refine Hap.out.mono ?_
      rintro e3 w3 ⟨v3,v4,J3,rfl,hb3,hx3,hok3,ht3,hh3⟩
      have Ht3:=Qh ht3
      have Hh3:=Qh hh3
      obtain ⟨a3,d3,rfl,_,_,_⟩:=id ht3
      obtain ⟨a4,d4,rfl,_,_,_⟩:=id hh3
      have HE3:=Qh ((entB (e:=y) rfl hb3).past (.cells #[.slice a3 s2.tree.length d3,.slice a4 s2.holds.length d4] 136))
      have HB3:=Qh ((HBp.out.thru hb3).past (.cells #[.slice a3 s2.tree.length d3,.slice a4 s2.holds.length d4] 136))
      have Hst3:=Qh ((Hst'.out.ext hb3 hx3 hok3).past (.cells #[.slice a3 s2.tree.length d3,.slice a4 s2.holds.length d4] 136))
      have hbq3:=hbq'.trans (hb3.mono hbq'.size)
      have hbq4:=hbq3.alloc hbq3.size (.cells #[.slice a3 s2.tree.length d3,.slice a4 s2.holds.length d4] 136)
      have Hkp3:=Qh (hx3.keep Hst'.out.ok (Qn _))
      have hlt3:wr.heap.size<w3.heap.size:=by have:=hb3.size;simp at this;omega
      have Hx3:=Qh (Hx'.out.trans hx3 (by simp;omega))
      have n0:(w3.alloc (.cells #[.slice a3 s2.tree.length d3,.slice a4 s2.holds.length d4] 136)).cell? ⟨w3.heap.size,0,none⟩=some (.slice a3 s2.tree.length d3):=by simp
      have n1:(w3.alloc (.cells #[.slice a3 s2.tree.length d3,.slice a4 s2.holds.length d4] 136)).cell? ⟨w3.heap.size,1,none⟩=some (.slice a4 s2.holds.length d4):=by simp
      clear c0 c1 c2 c3 c4 c5 x0 x1 x2 x3 x4 x5 x6 k0 k1 p1 hb3 hx3 hok3 ht3 hh3 Hap Hst' hbq' HBp hbq3
      by_cases h3:er3=0
      case neg=>
       have h30:(er3 != 0)=true:=by simpa using h3
       have Hn:=Qh (show E=er3 by
        have h:=Hea.out
        rw [if_pos h3] at h
        have h2:er2=er3:=(Prod.mk.inj h).2.symm
        have h4:=Hca2.out
        rw [h2,if_pos h3] at h4
        exact h4.symm)
       clear h3
       go_wp2
       go_ret
       exact ⟨Xac Hn.out.symm,hbq4⟩
      subst h3
      obtain ⟨w4,hw4⟩:∃w4,w3.alloc (.cells #[.slice a3 s2.tree.length d3,.slice a4 s2.holds.length d4] 136)=w4:=⟨_,rfl⟩
      have hsz4:w3.heap.size<w4.heap.size:=by rw [←hw4];simp
      rw [hw4] at HE3 HB3 Hst3 hbq4 n0 n1
      have Hn0:=Qh n0
      have Hn1:=Qh n1
      obtain ⟨x0,x1,x2,x3,x4,x5,x6⟩:=HE3.out
      go_wp2_with fail
      generalize w3.heap.size=nb at Hn0 Hn1 hsz4 hlt3 ⊢
      clear hw4 n0 n1 x0 x1 x2 x3 x4 x5 x6 HE3
      go_loopw [87] (fun s87 wq=> ∃q:Nat,q≤y.exts.length∧s87= .int .i64 q∧(y.exts.take q).all (xtIn (l.take (k+1)))=true∧Below w4.heap.size w4 wq) (fun i _=>y.exts.length-(intOf i).toNat)
      case atStart=>exact ⟨0,Nat.zero_le _,rfl,rfl,Qb _ _⟩
      case round=>
       obtain ⟨q,hq,rfl,hall,hbz0⟩:=hrel
       have Hall:=Qh hall
       clear hall
       have Hstz:=Qh (Hst3.out.below hbz0)
       have hokz:Ok J3 wr:=Hstz.out.ok
       by_cases hqt:q<y.exts.length
       ·obtain ⟨z,bz,offz,capz,hlz,hvv,z0,z1,z2⟩:=xtAt (Hh2.out.mono Hkp3.out) hokz q hqt
        cases hvv
        obtain ⟨b0,b1,b2,b3,b4,b5⟩:=Hxb.out (by trivial) z (by rw [←hlz];exact List.getElem_mem hqt)
        obtain ⟨zs,zo,zn⟩:=z
        dsimp only at b0 b1 b2 b3 b4 b5
        have hbz:=(hbq4.trans (hbz0.mono hbq4.size)).alloc (hbq4.trans (hbz0.mono hbq4.size)).size (.cells #[.int .i64 zs,.int .i64 zo,.int .i64 zn] 134)
        have hbzq:=hbz0.alloc hbz0.size (.cells #[.int .i64 zs,.int .i64 zo,.int .i64 zn] 134)
        by_cases hz0:zs=0
        ·have e1:(zs != 0)=false:=by simpa using hz0
         have e2:(zs==0)=true:=by simpa using hz0
         have Hn:=Qh (Xki (l:=l.take (k+1)) (x:=⟨zs,zo,zn⟩) hz0)
         clear hz0
         have y0:=cell_regrown (show (wr.alloc (.cells #[.int .i64 zs,.int .i64 zo,.int .i64 zn] 134)).cell? ⟨wr.heap.size,0,none⟩=some (.int .i64 zs) by simp)
         have y1:=cell_regrown (show (wr.alloc (.cells #[.int .i64 zs,.int .i64 zo,.int .i64 zn] 134)).cell? ⟨wr.heap.size,1,none⟩=some (.int .i64 zo) by simp)
         have y2:=cell_regrown (show (wr.alloc (.cells #[.int .i64 zs,.int .i64 zo,.int .i64 zn] 134)).cell? ⟨wr.heap.size,2,none⟩=some (.int .i64 zn) by simp)
         have Hn2:=Qh (Xcb hqt hlz Hall.out Hn.out)
         clear hlz
         go_wp2_with fail
         refine wp_region_quiet_below (by kernel_rfl) (by kernel_rfl) ?_
         repeat (go_big_quiet_step ((fail)))
         refine wpQuiet_nil ?_
         intro w6 hwq
         have hb6:Below ((wr.alloc (.cells #[.int .i64 zs,.int .i64 zo,.int .i64 zn] 134))).heap.size ((wr.alloc (.cells #[.int .i64 zs,.int .i64 zo,.int .i64 zn] 134))) w6:=by
          obtain ⟨pq,rfl⟩:=hwq
          exact below_regrown _ _ _
         clear hwq
         go_wp2
         go_roundw
         case rel=>exact ⟨q+1,by omega,by go_num,Hn2.out,hbzq.trans (hb6.mono (by have:=hbzq.size;omega))⟩
         case measure=>simp [intOf];omega
        have e1:(zs != 0)=true:=by simpa using hz0
        have e2:(zs==0)=false:=by simpa using hz0
        by_cases hzf:(k:Int)+1<zs
        ·have e3:decide ((k:Int)+1<zs)=true:=Qt hzf
         have Hn:=Qh (Xf7 (x:=⟨zs,zo,zn⟩) hlt hz0 hzf)
         have y0:=cell_regrown (show (wr.alloc (.cells #[.int .i64 zs,.int .i64 zo,.int .i64 zn] 134)).cell? ⟨wr.heap.size,0,none⟩=some (.int .i64 zs) by simp)
         have y1:=cell_regrown (show (wr.alloc (.cells #[.int .i64 zs,.int .i64 zo,.int .i64 zn] 134)).cell? ⟨wr.heap.size,1,none⟩=some (.int .i64 zo) by simp)
         have y2:=cell_regrown (show (wr.alloc (.cells #[.int .i64 zs,.int .i64 zo,.int .i64 zn] 134)).cell? ⟨wr.heap.size,2,none⟩=some (.int .i64 zn) by simp)
         clear hz0 hzf
         have Hn2:=Qh (show E=2 by
          have h:=Hea.out
          rw [if_neg (by simp),if_pos (show storedP (l.take (k+1)) y=false from Xg3 hqt hlz Hn.out)] at h
          have h2:er2=2:=(Prod.mk.inj h).2.symm
          have h4:=Hca2.out
          rw [h2,if_pos (by decide)] at h4
          exact h4.symm)
         clear hlz
         go_wp2_with fail
         refine wp_region_quiet_below (by kernel_rfl) (by kernel_rfl) ?_
         repeat (go_big_quiet_step ((fail)))
         refine wpQuiet_nil ?_
         intro w6 hwq
         have hb6:Below ((wr.alloc (.cells #[.int .i64 zs,.int .i64 zo,.int .i64 zn] 134))).heap.size ((wr.alloc (.cells #[.int .i64 zs,.int .i64 zo,.int .i64 zn] 134))) w6:=by
          obtain ⟨pq,rfl⟩:=hwq
          exact below_regrown _ _ _
         clear hwq
         go_wp2
         go_ret
         exact ⟨Xac Hn2.out.symm,hbz.trans (hb6.mono hbz.size)⟩
        obtain ⟨m,hm⟩:∃m:Nat,zs=(m:Int)+1:=⟨(zs-1).toNat,by omega⟩
        subst hm
        have hmk:m≤k:=by omega
        obtain ⟨u,vu,bu,offu,capu,hlu,hvv,⟨s0,s1,s2',s3,s4,s5⟩,h1⟩:=Xgs ((HvJ.out.mono Hkp.out).mono Hkp3.out) (hokz.alloc (.cells #[.int .i64 ((m:Int)+1),.int .i64 zo,.int .i64 zn] 134)) m (by omega)
        cases hvv
        have hxe:=Xg6 (x:=⟨(m:Int)+1,zo,zn⟩) hlt hmk hlu rfl
        have e3:decide ((k:Int)+1<(m:Int)+1)=false:=Qf (by omega)
        have e3a:decide ((k:Int)<(m:Int))=false:=Qf (by omega)
        have e3b:decide (k<m)=false:=Qf (by omega)
        have hul:=(Hg.out u (by rw [←hlu];exact List.getElem_mem _)).stream
        have m8:IntKind.i64.wrap ((u.stream.length:Int)-zo)=(u.stream.length:Int)-zo:=IntWalk.i64_in _ (by omega)
        have m9:wrap64 ((u.stream.length:Int)-zo)=(u.stream.length:Int)-zo:=by unfold wrap64;omega
        have hi:(m:Int)<l.length:=by omega
        have g4:=cell_regrown s4
        have y0:=cell_regrown (show (wr.alloc (.cells #[.int .i64 ((m:Int)+1),.int .i64 zo,.int .i64 zn] 134)).cell? ⟨wr.heap.size,0,none⟩=some (.int .i64 ((m:Int)+1)) by simp)
        have y1:=cell_regrown (show (wr.alloc (.cells #[.int .i64 ((m:Int)+1),.int .i64 zo,.int .i64 zn] 134)).cell? ⟨wr.heap.size,1,none⟩=some (.int .i64 zo) by simp)
        have y2:=cell_regrown (show (wr.alloc (.cells #[.int .i64 ((m:Int)+1),.int .i64 zo,.int .i64 zn] 134)).cell? ⟨wr.heap.size,2,none⟩=some (.int .i64 zn) by simp)
        clear hz0 hzf hlu s0 s1 s2' s3 s4 s5 h1
        obtain ⟨zs,hzs⟩:∃zs,zs=(m:Int)+1:=⟨_,rfl⟩
        by_cases hin:zo+zn≤(u.stream.length:Int)
        ·have Hn:=Qh (show xtIn (l.take (k+1)) ⟨(m:Int)+1,zo,zn⟩=true by rw [hxe];exact Qt hin)
         have e4:decide ((u.stream.length:Int)<zo)=false:=Qf (by omega)
         have e5:decide ((u.stream.length:Int)-zo<zn)=false:=Qf (by omega)
         clear hxe hin
         subst hzs
         have Hn2:=Qh (Xcb hqt hlz Hall.out Hn.out)
         clear hlz
         go_wp2_with fail
         refine wp_region_quiet_below (by kernel_rfl) (by kernel_rfl) ?_
         repeat (go_big_quiet_step ((fail)))
         refine wpQuiet_nil ?_
         intro w6 hwq
         have hb6:Below ((wr.alloc (.cells #[.int .i64 ((m:Int)+1),.int .i64 zo,.int .i64 zn] 134))).heap.size ((wr.alloc (.cells #[.int .i64 ((m:Int)+1),.int .i64 zo,.int .i64 zn] 134))) w6:=by
          obtain ⟨pq,rfl⟩:=hwq
          exact below_regrown _ _ _
         clear hwq
         go_wp2
         go_roundw
         case rel=>exact ⟨q+1,by omega,by go_num,Hn2.out,hbzq.trans (hb6.mono (by have:=hbzq.size;omega))⟩
         case measure=>simp [intOf];omega
        ·have Hn:=Qh (show xtIn (l.take (k+1)) ⟨(m:Int)+1,zo,zn⟩=false by rw [hxe];exact Qf hin)
         have Hn2:=Qh (show E=2 by
          have h:=Hea.out
          rw [if_neg (by simp),if_pos (show storedP (l.take (k+1)) y=false from Xg3 hqt hlz Hn.out)] at h
          have h2:er2=2:=(Prod.mk.inj h).2.symm
          have h4:=Hca2.out
          rw [h2,if_pos (by decide)] at h4
          exact h4.symm)
         clear hxe hlz
         subst hzs
         by_cases hof:(u.stream.length:Int)<zo
         ·have e4:decide ((u.stream.length:Int)<zo)=true:=Qt hof
          clear hin
          go_wp2_with fail
          refine wp_region_quiet_below (by kernel_rfl) (by kernel_rfl) ?_
          repeat (go_big_quiet_step ((fail)))
          refine wpQuiet_nil ?_
          intro w6 hwq
          have hb6:Below ((wr.alloc (.cells #[.int .i64 ((m:Int)+1),.int .i64 zo,.int .i64 zn] 134))).heap.size ((wr.alloc (.cells #[.int .i64 ((m:Int)+1),.int .i64 zo,.int .i64 zn] 134))) w6:=by
           obtain ⟨pq,rfl⟩:=hwq
           exact below_regrown _ _ _
          clear hwq
          go_wp2
          go_ret
          exact ⟨Xac Hn2.out.symm,hbz.trans (hb6.mono hbz.size)⟩
         ·have e4:decide ((u.stream.length:Int)<zo)=false:=Qf hof
          have e5:decide ((u.stream.length:Int)-zo<zn)=true:=Qt (by omega)
          clear hin
          go_wp2_with fail
          refine wp_region_quiet_below (by kernel_rfl) (by kernel_rfl) ?_
          repeat (go_big_quiet_step ((fail)))
          refine wpQuiet_nil ?_
          intro w6 hwq
          have hb6:Below ((wr.alloc (.cells #[.int .i64 ((m:Int)+1),.int .i64 zo,.int .i64 zn] 134))).heap.size ((wr.alloc (.cells #[.int .i64 ((m:Int)+1),.int .i64 zo,.int .i64 zn] 134))) w6:=by
           obtain ⟨pq,rfl⟩:=hwq
           exact below_regrown _ _ _
          clear hwq
          go_wp2
          go_ret
          exact ⟨Xac Hn2.out.symm,hbz.trans (hb6.mono hbz.size)⟩
       ·have Hn:=Qh (show entsH (l.take (k+1)) x.date s2 (x.ents.drop (j+1))=(R,er2) by
         have h:=Hea.out
         have ha:=Hall.out
         rw [List.take_of_length_le (by omega)] at ha
         rw [if_neg (by simp),if_neg (by rw [show storedP (l.take (k+1)) y=true from ha];simp)] at h
         exact h)
        have Hsts:=Qh (Hstz.out.set (s':=s2) Ht3.out Hh3.out)
        have r0:=Hstz.out.c0
        have r1:=Hstz.out.c1
        have f0:=Hstz.out.f0
        have f1:=Hstz.out.f1
        have n0:=Xaa hbz0 Hn0.out
        have n1:=Xaa hbz0 Hn1.out
        have HBs:=Qh ((HB3.out.thru hbz0).set2 (u:=(.slice a3 s2.tree.length d3)) (v:=(.slice a4 s2.holds.length d4)) hner)
        have hbs:=((hbq4.trans (hbz0.mono hbq4.size)).setCell (p:=⟨w.heap.size,0,none⟩) (Qn _) (.slice a3 s2.tree.length d3)).setCell (p:=⟨w.heap.size,1,none⟩) (Qn _) (.slice a4 s2.holds.length d4)
        have hszz:=hbz0.size
        clear Hstz hokz Hea Hall
        go_wp2
        go_roundw
        case rel=>exact ⟨j+1,s2,_,_,J3,by omega,by go_num,Hn.out,Hsn2.out,Hsts.out,Hx3.out,HBs.out,fun b c h=>Hkp3.out b c (Hkp.out b c h),by simp;omega,hbs⟩
        case measure=>simp [intOf];omega
     ·have hend:(s',(0:Int))=(R,er2):=by have:=HR.out;rwa [List.drop_of_length_le (by omega)] at this
      obtain ⟨rfl,rfl⟩:=Prod.mk.inj hend
      have Hn:=Qh (show chkFromH l (k+1) s' dg x.date (l.drop (k+1))=E by have:=Hca2.out;rwa [if_neg (by simp)] at this)
      clear hend HR Hca2
      go_wp2
      go_roundw
      case rel=>exact ⟨k+1,s',_,_,J',dg,x.date,by omega,by go_num,Hn.out,Hpd.out,Hsn.out.mono (by omega),Hst.out,Hx'.out,hbq⟩
      case measure=>simp [intOf];omega
  ·have Hn:=Qh (show E=0 by have:=Hce.out;rw [List.drop_of_length_le (by omega)] at this;rw [←this];rfl)
   go_wp2
   go_ret
   exact ⟨Xac Hn.out.symm,hb⟩
end Go.Proofs.YtdodihnehppnmaaGreatDoor
